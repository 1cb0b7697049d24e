import PyProof.Rows.All
import Wide.All
import Open.Line
import Wide.FinOn
import PyProof.Rules3
import PyProof.SliceMore
import PyProof.P3Statements
import PyProof.Lay0
import PyProof.Cells
import PyProof.DictRoads
import PyProof.DictKinds
import PyProof.DefCall
import PyProof.Ns1
import PyProof.PureInt
import PyProof.AutoIntOpsIf
import PyProof.TupleOps
import PyProof.ListOps
import PyProof.ListMulRoad
import PyProof.AutoListH
import PyProof.IsiPairs
import PyProof.IsiHeapPairs
import PyProof.P3Eq
import PyProof.NeData
import PyProof.IsRules
import PyProof.TupleCall
import PyProof.TupleOfSeq
import PyProof.ListCopy
import PyProof.Rows.Tup
import PyProof.Rows.ListMul
import PyProof.Rows.StrRules
import PyProof.Methods
import PyProof.ListIndex
import PyProof.MakeMany
import PyProof.FactsAll.tuple_2
import PyProof.Rows.Nodes
import PyProof.Rows.StrTemp
import PyProof.Rows.AssignMoreSeq
import PyProof.Rows.NewsSeq
import PyProof.Rows.SumAny
import PyProof.WalkInts
import PyProof.EqAt
import PyProof.CallType
import PyProof.IsiNone
import PyProof.Conv_int_bool
import PyProof.CallRoads
import PyProof.FactsAll.list_0
import PyProof.FactsAll.list_3
import PyProof.MeetsSeq
import PyProof.ZipIter
import PyProof.WalksMore
import PyProof.EnumMake
import PyProof.RangeFor
import PyProof.EnumFor
import PyProof.Rows.ListUnroll
import PyProof.Rows.LoopUnroll
import PyProof.StationsW
import PyProof.CompFree
import PyProof.Rows.TupAssign
import PyProof.Rows.NameDeclared
import PyProof.Rows.Globals
import PyProof.Rows.PlainObj
import PyProof.Rows.Own
import PyProof.Rows.TupMore
import PyProof.DictDisplay
import PyProof.AssignAttr
import PyProof.RulesAs
import PyProof.NsDelKeeps
import ObjForm.MakeTop
import PyProof.ExcArgsOwn
import PyProof.ExcAttrAll.ValueError
import OpenK.KDescr
import Open.Head
import PyProof.Rows.IntMath
import PyProof.FitsBits
import Lean
import PySem.Challenge.RW_uf010033_02
set_option Elab.async false
set_option backward.match.sparseCases false
set_option genSizeOf false
section
set_option autoImplicit false
namespace Mine
open PySem
section
universe u1 u2 u3 u4 u5 u6 u7 u8 u9 u10 u11 u12 u13
theorem ex1 {α1 : Sort u1} {p : α1 → Prop} {G : Prop} (h : ∃ a1, p a1) (f : ∀ a1, p a1 → G) : G := by
  obtain ⟨a1, q⟩ := h; exact f a1 q
theorem ex2 {α1 : Sort u1} {α2 : Sort u2} {p : α1 → α2 → Prop} {G : Prop} (h : ∃ a1 a2, p a1 a2) (f : ∀ a1 a2, p a1 a2 → G) : G := by
  obtain ⟨a1, a2, q⟩ := h; exact f a1 a2 q
theorem ex3 {α1 : Sort u1} {α2 : Sort u2} {α3 : Sort u3} {p : α1 → α2 → α3 → Prop} {G : Prop} (h : ∃ a1 a2 a3, p a1 a2 a3) (f : ∀ a1 a2 a3, p a1 a2 a3 → G) : G := by
  obtain ⟨a1, a2, a3, q⟩ := h; exact f a1 a2 a3 q
theorem ex4 {α1 : Sort u1} {α2 : Sort u2} {α3 : Sort u3} {α4 : Sort u4} {p : α1 → α2 → α3 → α4 → Prop} {G : Prop} (h : ∃ a1 a2 a3 a4, p a1 a2 a3 a4) (f : ∀ a1 a2 a3 a4, p a1 a2 a3 a4 → G) : G := by
  obtain ⟨a1, a2, a3, a4, q⟩ := h; exact f a1 a2 a3 a4 q
theorem ex5 {α1 : Sort u1} {α2 : Sort u2} {α3 : Sort u3} {α4 : Sort u4} {α5 : Sort u5} {p : α1 → α2 → α3 → α4 → α5 → Prop} {G : Prop} (h : ∃ a1 a2 a3 a4 a5, p a1 a2 a3 a4 a5) (f : ∀ a1 a2 a3 a4 a5, p a1 a2 a3 a4 a5 → G) : G := by
  obtain ⟨a1, a2, a3, a4, a5, q⟩ := h; exact f a1 a2 a3 a4 a5 q
theorem ex6 {α1 : Sort u1} {α2 : Sort u2} {α3 : Sort u3} {α4 : Sort u4} {α5 : Sort u5} {α6 : Sort u6} {p : α1 → α2 → α3 → α4 → α5 → α6 → Prop} {G : Prop} (h : ∃ a1 a2 a3 a4 a5 a6, p a1 a2 a3 a4 a5 a6) (f : ∀ a1 a2 a3 a4 a5 a6, p a1 a2 a3 a4 a5 a6 → G) : G := by
  obtain ⟨a1, a2, a3, a4, a5, a6, q⟩ := h; exact f a1 a2 a3 a4 a5 a6 q
theorem ex7 {α1 : Sort u1} {α2 : Sort u2} {α3 : Sort u3} {α4 : Sort u4} {α5 : Sort u5} {α6 : Sort u6} {α7 : Sort u7} {p : α1 → α2 → α3 → α4 → α5 → α6 → α7 → Prop} {G : Prop} (h : ∃ a1 a2 a3 a4 a5 a6 a7, p a1 a2 a3 a4 a5 a6 a7) (f : ∀ a1 a2 a3 a4 a5 a6 a7, p a1 a2 a3 a4 a5 a6 a7 → G) : G := by
  obtain ⟨a1, a2, a3, a4, a5, a6, a7, q⟩ := h; exact f a1 a2 a3 a4 a5 a6 a7 q
theorem ex12 {α1 : Sort u1} {α2 : Sort u2} {α3 : Sort u3} {α4 : Sort u4} {α5 : Sort u5} {α6 : Sort u6} {α7 : Sort u7} {α8 : Sort u8} {α9 : Sort u9} {α10 : Sort u10} {α11 : Sort u11} {α12 : Sort u12} {p : α1 → α2 → α3 → α4 → α5 → α6 → α7 → α8 → α9 → α10 → α11 → α12 → Prop} {G : Prop} (h : ∃ a1 a2 a3 a4 a5 a6 a7 a8 a9 a10 a11 a12, p a1 a2 a3 a4 a5 a6 a7 a8 a9 a10 a11 a12) (f : ∀ a1 a2 a3 a4 a5 a6 a7 a8 a9 a10 a11 a12, p a1 a2 a3 a4 a5 a6 a7 a8 a9 a10 a11 a12 → G) : G := by
  obtain ⟨a1, a2, a3, a4, a5, a6, a7, a8, a9, a10, a11, a12, q⟩ := h; exact f a1 a2 a3 a4 a5 a6 a7 a8 a9 a10 a11 a12 q
theorem an2 {a1 a2 G : Prop} (h : a1 ∧ a2) (f : a1 → a2 → G) : G := by
  obtain ⟨h1, h2⟩ := h; exact f h1 h2
theorem an3 {a1 a2 a3 G : Prop} (h : a1 ∧ a2 ∧ a3) (f : a1 → a2 → a3 → G) : G := by
  obtain ⟨h1, h2, h3⟩ := h; exact f h1 h2 h3
theorem an4 {a1 a2 a3 a4 G : Prop} (h : a1 ∧ a2 ∧ a3 ∧ a4) (f : a1 → a2 → a3 → a4 → G) : G := by
  obtain ⟨h1, h2, h3, h4⟩ := h; exact f h1 h2 h3 h4
theorem an5 {a1 a2 a3 a4 a5 G : Prop} (h : a1 ∧ a2 ∧ a3 ∧ a4 ∧ a5) (f : a1 → a2 → a3 → a4 → a5 → G) : G := by
  obtain ⟨h1, h2, h3, h4, h5⟩ := h; exact f h1 h2 h3 h4 h5
theorem an6 {a1 a2 a3 a4 a5 a6 G : Prop} (h : a1 ∧ a2 ∧ a3 ∧ a4 ∧ a5 ∧ a6) (f : a1 → a2 → a3 → a4 → a5 → a6 → G) : G := by
  obtain ⟨h1, h2, h3, h4, h5, h6⟩ := h; exact f h1 h2 h3 h4 h5 h6
theorem an7 {a1 a2 a3 a4 a5 a6 a7 G : Prop} (h : a1 ∧ a2 ∧ a3 ∧ a4 ∧ a5 ∧ a6 ∧ a7) (f : a1 → a2 → a3 → a4 → a5 → a6 → a7 → G) : G := by
  obtain ⟨h1, h2, h3, h4, h5, h6, h7⟩ := h; exact f h1 h2 h3 h4 h5 h6 h7
theorem an8 {a1 a2 a3 a4 a5 a6 a7 a8 G : Prop} (h : a1 ∧ a2 ∧ a3 ∧ a4 ∧ a5 ∧ a6 ∧ a7 ∧ a8) (f : a1 → a2 → a3 → a4 → a5 → a6 → a7 → a8 → G) : G := by
  obtain ⟨h1, h2, h3, h4, h5, h6, h7, h8⟩ := h; exact f h1 h2 h3 h4 h5 h6 h7 h8
theorem an9 {a1 a2 a3 a4 a5 a6 a7 a8 a9 G : Prop} (h : a1 ∧ a2 ∧ a3 ∧ a4 ∧ a5 ∧ a6 ∧ a7 ∧ a8 ∧ a9) (f : a1 → a2 → a3 → a4 → a5 → a6 → a7 → a8 → a9 → G) : G := by
  obtain ⟨h1, h2, h3, h4, h5, h6, h7, h8, h9⟩ := h; exact f h1 h2 h3 h4 h5 h6 h7 h8 h9
theorem an10 {a1 a2 a3 a4 a5 a6 a7 a8 a9 a10 G : Prop} (h : a1 ∧ a2 ∧ a3 ∧ a4 ∧ a5 ∧ a6 ∧ a7 ∧ a8 ∧ a9 ∧ a10) (f : a1 → a2 → a3 → a4 → a5 → a6 → a7 → a8 → a9 → a10 → G) : G := by
  obtain ⟨h1, h2, h3, h4, h5, h6, h7, h8, h9, h10⟩ := h; exact f h1 h2 h3 h4 h5 h6 h7 h8 h9 h10
end

theorem ofString_inj {a b : String} : Str.ofString a = Str.ofString b ↔ a = b := by
  constructor
  · intro h
    rw [Str.ofString_eq_toList, Str.ofString_eq_toList] at h
    have h1 : a.toList.map Char.toNat = b.toList.map Char.toNat := by
      have := congrArg (fun s : Str => s.cps.toList) h
      simpa using this
    have h2 : a.toList = b.toList := by
      refine List.map_inj_right ?_ |>.mp h1
      intro x y e
      exact Char.ext (UInt32.toNat_inj.mp e)
    exact String.toList_inj.mp h2
  · rintro rfl; rfl

/-- Abstract values. -/
inductive D where
  | none
  | bool (b : Bool)
  | int (i : Int)
  | str (x : Str)
  | tup (ds : List D)
  | list (ds : List D)
  | loc (n : Nat)
  | val (v : Value)
  | exc (C : Value)
  | inst (C : Value) (n : Nat)
  deriving Inhabited

inductive Cell where
  | list (ds : List D)
  | dict (es : List (Str × D))
  | ns (es : List (Str × D))

structure St where
  hi : Nat
  cs : Nat → Option Cell

noncomputable def St.alloc (st : St) (c : Cell) : St := ⟨st.hi + 1, fun n => if n = st.hi then some c else st.cs n⟩
noncomputable def St.put (st : St) (n : Nat) (c : Cell) : St := ⟨st.hi, fun k => if k = n then some c else st.cs k⟩
noncomputable def St.hide (st : St) (p : Nat → Bool) : St := ⟨st.hi, fun k => if p k then none else st.cs k⟩
noncomputable def St.back (st old : St) (p : Nat → Bool) : St := ⟨st.hi, fun k => if p k then old.cs k else st.cs k⟩

noncomputable def lim : Nat := 1000000

mutual
noncomputable def D.undr (hi : Nat) : D → Bool
  | .tup ds => undrAll hi ds
  | .list ds => undrAll hi ds
  | .loc n => decide (n < hi)
  | .inst _ n => decide (n < hi)
  | _ => true
noncomputable def undrAll (hi : Nat) : List D → Bool
  | [] => true
  | d :: ds => D.undr hi d && undrAll hi ds
end
noncomputable def Cell.undr (hi : Nat) : Cell → Bool
  | .list ds => undrAll hi ds
  | .dict es => undrAll hi (es.map (·.2))
  | .ns es => undrAll hi (es.map (·.2))

mutual
noncomputable def D.py : D → Option PyData
  | .none => some .none
  | .bool b => some (.bool b)
  | .int i => some (.int i)
  | .str x => if PyData.strOk x then some (.str x) else none
  | .tup ds => (pys ds).map .tuple
  | .list ds => (pys ds).map .list
  | .loc _ => none
  | .val _ => none
  | .exc _ => none
  | .inst _ _ => none
noncomputable def pys : List D → Option (List PyData)
  | [] => some []
  | d :: ds => match D.py d, pys ds with
    | some x, some xs => some (x :: xs)
    | _, _ => none
end

noncomputable def pyD (st : St) : Nat → D → Option PyData
  | 0, d => d.py
  | k + 1, d => match d with
    | .loc n => (match st.cs n with
      | some (.list ds) => (ds.mapM (pyD st k)).map .list
      | _ => none)
    | .tup ds => (match D.py (.tup ds) with
      | some x => some x
      | none => (ds.mapM (pyD st k)).map .tuple)
    | .list ds => (match D.py (.list ds) with
      | some x => some x
      | none => (ds.mapM (pyD st k)).map .list)
    | d => d.py

/-- freeze: cells made since `hi` become plain data -/
noncomputable def frz (hi : Nat) (st : St) : Nat → D → Option D
  | 0, d => if d.undr hi then some d else none
  | k + 1, d => match d with
    | .loc n => if n < hi then some (.loc n) else (match st.cs n with
      | some (.list ds) => (ds.mapM (frz hi st k)).map .list
      | _ => none)
    | .tup ds => if undrAll hi ds then some (.tup ds) else (ds.mapM (frz hi st k)).map .tup
    | .list ds => if undrAll hi ds then some (.list ds) else (ds.mapM (frz hi st k)).map .list
    | .inst C n => if n < hi then some (.inst C n) else none
    | d => some d

noncomputable def St.cut (st : St) (hi : Nat) : St := ⟨hi, fun n => if n < hi then (match st.cs n with
  | some c => if c.undr hi then some c else none
  | none => none) else none⟩

noncomputable def seqD (st : St) : D → Option (List D)
  | .tup ds => some ds
  | .list ds => some ds
  | .loc n => (match st.cs n with
    | some (.list ds) => some ds
    | _ => none)
  | _ => none
noncomputable def lstD (st : St) : D → Option (List D)
  | .list ds => some ds
  | .loc n => (match st.cs n with
    | some (.list ds) => some ds
    | _ => none)
  | _ => none

noncomputable abbrev Loc := Str → Option D
noncomputable def upd (m : Loc) (x : Str) (d : D) : Loc := fun y => if y = x then some d else m y
noncomputable abbrev Kd := Str → Option NameKind
/-- what an exception of a class (as a value) must meet -/
noncomputable abbrev XP := Value → St → Prop
noncomputable def noX : XP := fun _ _ => False
noncomputable abbrev FSpec := List D → St → (D → St → Prop) → XP → Prop

structure Ctx where
  fn : Str → Option FSpec
  gl : Str → Option D
  /-- own exception classes -/
  ex : Value → Bool
  /-- does the first class lie under the second? -/
  sub : Value → Value → Option Bool
  /-- plain classes, and their methods -/
  cl : Value → Prop
  me : Value → Str → Option FSpec

inductive Fl where
  | next
  | ret (d : D)

noncomputable def mkList (trk : Bool) (ds : List D) (st : St) (Q : D → St → Prop) : Prop :=
  ds.length ≤ lim ∧ (bif trk then Q (.loc st.hi) (st.alloc (.list ds)) else Q (.list ds) st)

noncomputable def wAdd (trk : Bool) (a b : D) (st : St) (Q : D → St → Prop) : Prop := match a with
  | .int i => (match b with
    | .int j => Q (.int (i + j)) st
    | _ => False)
  | .tup xs => (match b with
    | .tup ys => xs.length + ys.length ≤ lim ∧ Q (.tup (xs ++ ys)) st
    | _ => False)
  | a => ∃ xs ys, lstD st a = some xs ∧ lstD st b = some ys ∧ mkList trk (xs ++ ys) st Q

noncomputable def wMul (trk : Bool) (a b : D) (st : St) (Q : D → St → Prop) : Prop := match b with
  | .int n => (match a with
    | .int i => IntMulOk i n ∧ Q (.int (i * n)) st
    | .tup xs => -lim ≤ n ∧ n < lim ∧ xs.length = 1 ∧ Q (.tup (List.replicate n.toNat xs).flatten) st
    | a => ∃ xs, lstD st a = some xs ∧ -lim ≤ n ∧ n < lim ∧ xs.length ≤ 1 ∧ mkList trk (List.replicate n.toNat xs).flatten st Q)
  | _ => False

/-- two intsD -/
noncomputable def ii (a b : D) (K : Int → Int → Prop) : Prop := match a with
  | .int i => (match b with
    | .int j => K i j
    | _ => False)
  | _ => False

noncomputable def wBin (trk : Bool) (op : Operator) (a b : D) (st : St) (Q : D → St → Prop) : Prop := match op with
  | .Add => wAdd trk a b st Q
  | .Mult => wMul trk a b st Q
  | .Sub => ii a b fun i j => Q (.int (i - j)) st
  | .FloorDiv => ii a b fun i j => 0 < j ∧ j < 2 ^ 30 ∧ Q (.int (i / j)) st
  | .Mod => ii a b fun i j => 0 < j ∧ Q (.int (i % j)) st
  | .Pow => ii a b fun i j => i = 10 ∧ j = 20 ∧ Q (.int (10 ^ 20)) st
  | _ => False

noncomputable def truth : D → Option Bool
  | .bool b => some b
  | _ => none

noncomputable def deepOk (x y : PyData) : Prop := min x.depth y.depth ≤ 1000

noncomputable def eqD (a b : D) (st : St) (K : Bool → Prop) : Prop := ∃ x y, pyD st 3 a = some x ∧ pyD st 3 b = some y ∧ deepOk x y ∧ K (PyData.eqv x y)
noncomputable def wEq (a b : D) (st : St) (K : Bool → Prop) : Prop := match a with
  | .int i => (match b with
    | .int j => K (i == j)
    | b => eqD (.int i) b st K)
  | .str x => (match b with
    | .str y => K (x == y)
    | b => eqD (.str x) b st K)
  | a => eqD a b st K

noncomputable def isNoneD : D → Bool
  | .none => true
  | _ => false
noncomputable def isValD : D → Bool
  | .val _ => true
  | _ => false

noncomputable def wIn (a b : D) (st : St) (K : Bool → Prop) : Prop :=
  ∃ ys x ps, seqD st b = some ys ∧ pyD st 3 a = some x ∧ ys.mapM (pyD st 3) = some ps ∧ x.depth ≤ 1000 ∧ K (ps.any fun y => PyData.eqv y x)

noncomputable def wCmp1 (op : CmpOp) (a b : D) (st : St) (K : Bool → Prop) : Prop := match op with
  | .Eq => wEq a b st K
  | .NotEq => wEq a b st fun r => K (!r)
  | .Lt => ii a b fun i j => K (decide (i < j))
  | .LtE => ii a b fun i j => K (decide (i ≤ j))
  | .Gt => ii a b fun i j => K (decide (i > j))
  | .In => wIn a b st K
  | _ => False

/-- places of names -/
inductive Gk where
  | no | fn | itr | dyn
  | cst (d : D)
  | blt (d : D)
inductive Pl where
  | no
  | loc (i : Nat) (own trk : Bool)
  | gl (g : Gk)
noncomputable abbrev Sc := List (Str × NameKind)
/-- what is known of a scope: its names, which of them hold tracked things, whether an exception is being handled, the kinds of the module's names -/
structure Tb where
  N : Sc
  tr : Str → Bool
  hq : Bool
  gk : Str → Gk
noncomputable abbrev Ev := List (Option D)
noncomputable def ixN : Sc → Str → Nat
  | [], _ => 0
  | p :: r, x => bif x == p.1 then 0 else ixN r x + 1
noncomputable def plK (i : Nat) (b : Bool) (g : Gk) : Option NameKind → Pl
  | some .local => .loc i true b
  | some .cell => .loc i true b
  | some .free => .loc i false b
  | some .globalImplicit => .gl g
  | _ => .no
noncomputable def Tb.pl (T : Tb) (x : Str) : Pl := plK (ixN T.N x) (T.tr x) (T.gk x) (T.N.lookup x)
noncomputable def Tb.kd (T : Tb) : Kd := fun x => T.N.lookup x
noncomputable def look : Ev → Nat → Option D
  | [], _ => none
  | a :: _, 0 => a
  | _ :: l, n + 1 => look l n
noncomputable def setE : Ev → Nat → Option D → Ev
  | [], _, _ => []
  | _ :: l, 0, d => d :: l
  | a :: l, n + 1, d => a :: setE l n d
noncomputable def lookT (T : Tb) (l : Ev) (x : Str) : Option D := match T.pl x with
  | .loc i _ _ => look l i
  | _ => none
noncomputable def eVal (o : Option D) (st : St) (Q : D → St → Prop) : Prop := match o with
  | some d => Q d st
  | none => False
noncomputable def Tb.sub (T : Tb) (scope : Scope) : Tb := { T with N := scope.names }
noncomputable def into (T : Tb) (l : Ev) : Sc → Ev
  | [] => []
  | p :: r => (match p.2 with
    | .free => lookT T l p.1
    | _ => none) :: into T l r

noncomputable def tyIn (T : String) : Bool := T == "int" || T == "bool" || T == "tuple" || T == "list" || T == "str"
noncomputable def typeIs (st : St) (d : D) (T : String) : Option Bool := bif tyIn T then (match d with
    | .none => some false
    | .bool _ => some (T == "int" || T == "bool")
    | .int _ => some (T == "int")
    | .str _ => some (T == "str")
    | .tup _ => some (T == "tuple")
    | .list _ => some (T == "list")
    | .loc n => (match st.cs n with
      | some (.list _) => some (T == "list")
      | _ => none)
    | .exc (.type c) => bif c == "dict" then some false else none
    | _ => none) else none
noncomputable def tyV (st : St) (d : D) : Value → Option Bool
  | .type T => typeIs st d T
  | _ => none
noncomputable def excOf : D → Option Value
  | .exc C => some C
  | _ => none
noncomputable def isInst (sub : Value → Value → Option Bool) (st : St) (d : D) (V : Value) : Option Bool := match tyV st d V with
  | some b => some b
  | none => (match excOf d with
    | some C => sub C V
    | none => none)

noncomputable def wBuiltin (sub : Value → Value → Option Bool) (trk : Bool) (f : Str) (ds : List D) (st : St) (Q : D → St → Prop) : Prop :=
  if f = "len" then ∃ d xs, ds = [d] ∧ seqD st d = some xs ∧ xs.length ≤ lim ∧ Q (.int xs.length) st
  else if f = "isinstance" then ∃ d V b, ds = [d, .val V] ∧ isInst sub st d V = some b ∧ Q (.bool b) st
  else if f = "list" then ∃ d xs, ds = [d] ∧ seqD st d = some xs ∧ mkList trk xs st Q
  else if f = "tuple" then ∃ d xs, ds = [d] ∧ lstD st d = some xs ∧ xs.length ≤ lim ∧ Q (.tup xs) st
  else if f = "int" then ∃ b, ds = [.bool b] ∧ Q (.int (if b then 1 else 0)) st
  else False

noncomputable def wMeth (d : D) (ds : List D) (st : St) (Q : D → St → Prop) : Prop :=
  ∃ n x xs, d = .loc n ∧ ds = [x] ∧ st.cs n = some (.list xs) ∧ xs.length ≤ lim ∧ Q .none (st.put n (.list (xs ++ [x])))

noncomputable def wItem (d i : D) (st : St) (Q : D → St → Prop) : Prop := match i with
  | .int k => -(2 ^ 62) ≤ k ∧ k < 2 ^ 62 ∧ ∃ xs j x, seqD st d = some xs ∧ (0 ≤ k ∨ lstD st d = none) ∧ seqIndex? k xs.length = some j ∧ xs[j]? = some x ∧ Q x st
  | .str k => ∃ n es x, d = .loc n ∧ st.cs n = some (.dict es) ∧ es.lookup k = some x ∧ Q x st
  | _ => False

noncomputable def pickL {α : Type} (xs : List α) (lo hi st : Option Int) : List α :=
  (sliceRange (sliceBounds lo hi st xs.length).1 (sliceBounds lo hi st xs.length).2.1 (sliceBounds lo hi st xs.length).2.2).filterMap (xs[·]?)

/-- a tuple's slice -/
noncomputable def tupS {α : Type} (xs : List α) (lo hi : Option Int) : List α :=
  (List.range (Builtin.Slice.slicePlaces (Builtin.Slice.sliceAdjust lo hi 1 xs.length).1 (Builtin.Slice.sliceAdjust lo hi 1 xs.length).2 1)).filterMap fun k : Nat => xs[((Builtin.Slice.sliceAdjust lo hi 1 xs.length).1 + (k : Int) * 1).toNat]?

noncomputable def part : D → Option (Option Int)
  | .none => some none
  | .int i => some (some i)
  | _ => none

noncomputable def wSlice (trk : Bool) (d l u s : D) (st : St) (Q : D → St → Prop) : Prop :=
  ∃ lo hi sp, part l = some lo ∧ part u = some hi ∧ part s = some sp ∧ sp ≠ some 0 ∧
    (match d with
    | .tup xs => sp = none ∧ xs.length ≤ lim ∧ Q (.tup (tupS xs lo hi)) st
    | d => ∃ xs, lstD st d = some xs ∧ xs.length ≤ lim ∧ mkList trk (pickL xs lo hi sp) st Q)

noncomputable def rangeL (a b : Int) : List D := (List.range (b - a).toNat).map fun i : Nat => .int (a + (i : Int))

/-- what an iterable yields, and the cells it leans on -/
noncomputable def wIterD (d : D) (st : St) (K : List D → (Nat → Bool) → Prop) : Prop := match d with
  | .loc n => ∃ xs, st.cs n = some (.list xs) ∧ K xs (fun k => k == n)
  | d => ∃ xs, seqD st d = some xs ∧ K xs (fun _ => false)
noncomputable def zipL (xs ys : List D) : List D := (xs.zip ys).map fun p => .tup [p.1, p.2]
noncomputable def enumL (xs : List D) : List D := xs.zipIdx.map fun p => .tup [.int (p.2 : Nat), p.1]

noncomputable def wFor {ε : Type} (step : D → ε → St → (Fl → ε → St → Prop) → Prop) : List D → ε → St → (Fl → ε → St → Prop) → Prop
  | [], m, st, Q => Q .next m st
  | d :: ds, m, st, Q => step d m st fun fl m' st' => match fl with
    | .next => wFor step ds m' st' Q
    | .ret d => Q (.ret d) m' st'

noncomputable def wComp (step : D → St → (Option D → St → Prop) → Prop) : List D → List D → St → (List D → St → Prop) → Prop
  | [], acc, st, Q => Q acc st
  | d :: ds, acc, st, Q => step d st fun r st' => match r with
    | some x => wComp step ds (acc ++ [x]) st' Q
    | none => wComp step ds acc st' Q

noncomputable def isOwn (kd : Kd) (x : Str) : Bool := kd x == some .local || kd x == some .cell
noncomputable def setN (T : Tb) (x : Str) (d : D) (l : Ev) (K : Ev → Prop) : Prop := match T.pl x with
  | .loc i true _ => K (setE l i (some d))
  | _ => False
/-- what an expression is, by the number of its constructor -/
noncomputable def nameOf (e : Expr) : Option Str := if h : e.ctorIdx = 23 then Expr.Name.elim (motive_1 := fun _ => Option Str) e h (fun x _ => some x) else none
noncomputable def tupOf (e : Expr) : Option (List Expr) := if h : e.ctorIdx = 25 then Expr.Tuple.elim (motive_1 := fun _ => Option (List Expr)) e h (fun es _ _ => some es) else none
noncomputable def attrOf (e : Expr) : Option (Expr × Str × Pos) := if h : e.ctorIdx = 20 then Expr.Attribute.elim (motive_1 := fun _ => Option (Expr × Str × Pos)) e h (fun o nm p => some (o, nm, p)) else none
noncomputable def subOf (e : Expr) : Option (Expr × Expr) := if h : e.ctorIdx = 21 then Expr.Subscript.elim (motive_1 := fun _ => Option (Expr × Expr)) e h (fun o i _ => some (o, i)) else none
noncomputable def callOf (e : Expr) : Option (Expr × List Expr × List Keyword) := if h : e.ctorIdx = 16 then Expr.Call.elim (motive_1 := fun _ => Option (Expr × List Expr × List Keyword)) e h (fun f a k _ => some (f, a, k)) else none
noncomputable def strC (c : Const) : Option Str := if h : c.ctorIdx = 5 then Const.str.elim (motive := fun _ => Option Str) c h some else none
noncomputable def strX (e : Expr) : Option Str := if h : e.ctorIdx = 19 then Expr.Constant.elim (motive_1 := fun _ => Option Str) e h (fun c _ _ => strC c) else none
noncomputable def sliceOf (e : Expr) : Option (Option Expr × Option Expr × Option Expr) := if h : e.ctorIdx = 26 then Expr.Slice.elim (motive_1 := fun _ => Option (Option Expr × Option Expr × Option Expr)) e h (fun a u s _ => some (a, u, s)) else none
noncomputable def exprOf (s : Stmt) : Option Expr := if h : s.ctorIdx = 24 then Stmt.Expr.elim (motive_2 := fun _ => Option Expr) s h (fun v _ => some v) else none
/-- plain targets: a name, or a tuple of names -/
noncomputable def wTg (T : Tb) : List Expr → List D → Ev → (Ev → Prop) → Prop
  | [], [], l, K => K l
  | e :: r, d :: ds, l, K => (match nameOf e with
    | some x => setN T x d l fun l1 => wTg T r ds l1 K
    | none => False)
  | _, _, _, _ => False
noncomputable def wTarget (T : Tb) (t : Expr) (d : D) (l : Ev) (K : Ev → Prop) : Prop := match nameOf t with
  | some x => setN T x d l K
  | none => (match tupOf t with
    | some es => (match d with
      | .tup ds => wTg T es ds l K
      | _ => False)
    | none => False)

noncomputable def wUn (op : UnaryOp) (a : D) (st : St) (Q : D → St → Prop) : Prop := match op with
  | .USub => (match a with
    | .int i => Q (.int (-i)) st
    | _ => False)
  | .Not => ∃ b, truth a = some b ∧ Q (.bool (!b)) st
  | _ => False

noncomputable def setKey (es : List (Str × D)) (k : Str) (v : D) : List (Str × D) := es.map fun p => if p.1 = k then (k, v) else p
noncomputable def wSetItem (d i v : D) (st : St) (K : St → Prop) : Prop := match i with
  | .int k => ∃ n xs, d = .loc n ∧ st.cs n = some (.list xs) ∧ 0 ≤ k ∧ k < xs.length ∧ xs.length ≤ lim ∧ K (st.put n (.list (xs.set k.toNat v)))
  | .str k => ∃ n es, d = .loc n ∧ st.cs n = some (.dict es) ∧ (es.lookup k).isSome = true ∧ es.length ≤ lim ∧ K (st.put n (.dict (setKey es k v)))
  | _ => False

noncomputable def pinOf : D → Nat → Bool
  | .loc n => fun k => k == n
  | _ => fun _ => false

noncomputable def isTupE (e : Expr) : Bool := e.ctorIdx == 25
noncomputable def isCallE (e : Expr) : Bool := e.ctorIdx == 16
noncomputable def isSliceE (e : Expr) : Bool := e.ctorIdx == 26
noncomputable def isStarE (e : Expr) : Bool := e.ctorIdx == 22
noncomputable def isNameE (e : Expr) : Bool := e.ctorIdx == 23
noncomputable def noStars : List Expr → Bool
  | [] => true
  | e :: r => !isStarE e && noStars r

noncomputable def plainA (es : List Expr) : Bool := noStars es && !es.isEmpty

noncomputable def stopsAnd (op : BoolOp) (b : Bool) : Bool := match op, b with
  | .And, false => true
  | .Or, true => true
  | _, _ => false

noncomputable def scRow (kd : Kd) (p : Str × NameKind) : Bool := p.1 != "__debug__" && p.1 != "__classdict__" && (!(p.2 == .free) || kd p.1 == some .cell || kd p.1 == some .free)
noncomputable def nodupS : List Str → Bool
  | [] => true
  | x :: r => !r.contains x && nodupS r
noncomputable def scopeB (kd : Kd) (scope : Scope) : Bool := scope.kind == .function && nodupS (scope.names.map (·.1)) && scope.names.all (scRow kd)

noncomputable def keyL : List (Option Expr) → List Str
  | some e :: r => (match strX e with
    | some x => x :: keyL r
    | none => [])
  | _ => []
noncomputable def dictB (ks : List (Option Expr)) (vs : List Expr) : Bool := nodupS (keyL ks) && (keyL ks).length == ks.length && ks.length == vs.length && ks.length.blt 16

section
variable (Γ : Ctx)

noncomputable def wName (T : Tb) (x : Str) (l : Ev) (st : St) (Q : D → St → Prop) : Prop := match T.pl x with
  | .loc i _ _ => eVal (look l i) st Q
  | .gl g => (match g with
    | .cst d => Q d st
    | .blt d => Q d st
    | .dyn => ∃ d, Γ.gl x = some d ∧ Q d st
    | _ => False)
  | .no => False

noncomputable def wFnc (x : Str) (ds : List D) (st : St) (Q : D → St → Prop) (X : XP) : Prop := ∃ S, Γ.fn x = some S ∧ S ds st Q X
noncomputable def objAt (st : St) : D → Option (Value × List (Str × D))
  | .inst C n => (match st.cs n with
    | some (.ns es) => some (C, es)
    | _ => none)
  | _ => none
/-- a method's call: of a list, or of an own object -/
noncomputable def wCallM (hq : Bool) (nm : Str) (d : D) (st : St) (args : (List D → St → Prop) → Prop) (Q : D → St → Prop) (X : XP) : Prop :=
  (nm = "append" ∧ (lstD st d).isSome = true ∧ args fun ds st2 => wMeth d ds st2 Q) ∨
  (hq = false ∧ ∃ C es S, objAt st d = some (C, es) ∧ es.lookup nm = none ∧ Γ.cl C ∧ Γ.me C nm = some S ∧ args fun ds st2 => S (d :: ds) st2 Q X)
noncomputable def isAt (nm : Str) : Bool := nm == "tops" || nm == "rows"
noncomputable def wAttr (nm : Str) (d : D) (st : St) (Q : D → St → Prop) : Prop := ∃ C es v, objAt st d = some (C, es) ∧ Γ.cl C ∧ es.lookup nm = some v ∧ isAt nm = true ∧ isValD v = false ∧ Q v st
noncomputable def iterCall (t : Expr) (f : Str) (ds : List D) (st : St) (K : List D → (Nat → Bool) → Prop) : Prop :=
  if f = "zip" then isTupE t = true ∧ ∃ a b xs ys, ds = [a, b] ∧ lstD st a = some xs ∧ lstD st b = some ys ∧ xs.length ≤ lim ∧ ys.length ≤ lim ∧ K (zipL xs ys) (fun k => pinOf a k || pinOf b k)
  else if f = "enumerate" then isTupE t = true ∧ ∃ a xs, ds = [a] ∧ seqD st a = some xs ∧ xs.length ≤ lim ∧ K (enumL xs) (pinOf a)
  else if f = "range" then ∃ i, ds = [.int i] ∧ i ≤ lim ∧ -lim ≤ i ∧ K (rangeL 0 i) fun _ => false
  else False
/-- a call of a name -/
noncomputable def itOf (it : Expr) : Option (Str × List Expr) := match callOf it with
  | some (f, args, kws) => (match nameOf f with
    | some x => bif kws.isEmpty then some (x, args) else none
    | none => none)
  | none => none
/-- one loop of a comprehension -/
noncomputable def genOf : List Comprehension → Option (Expr × Expr × List Expr)
  | [⟨t, it, ifs, a⟩] => if a = 0 then some (t, it, ifs) else none
  | _ => none

mutual
noncomputable def wE : Nat → Tb → Bool → Expr → Ev → St → (D → St → Prop) → XP → Prop
  | 0, _, _, _, _, _, _, _ => False
  | n + 1, T, trk, e, l, st, Q, X => match e with
    | .Constant c _ _ => (match c with
      | .none => Q .none st
      | .bool b => Q (.bool b) st
      | .int i => Q (.int i) st
      | .str x => Q (.str x) st
      | _ => False)
    | .Name x _ => wName Γ T x l st Q
    | .BoolOp op es _ => wBool n T op es l st Q X
    | .BinOp a op b _ => wE n T false a l st (fun a st1 => wE n T false b l st1 (fun b st2 => wBin trk op a b st2 Q) X) X
    | .UnaryOp op x _ => wE n T false x l st (fun a st1 => wUn op a st1 Q) X
    | .Compare a ops rs _ => wE n T false a l st (fun a st1 => wChain n T a ops rs l st1 (fun b st2 => Q (.bool b) st2) X) X
    | .Call f args kws pos => bif kws.isEmpty then (match nameOf f with
      | some x => bif plainA args then (match T.pl x with
          | .gl .fn => bif T.hq then False else wEs n T false args l st (fun ds st1 => wFnc Γ x ds st1 Q X) X
          | .gl (.blt _) => wEs n T false args l st (fun ds st1 => wBuiltin Γ.sub trk x ds st1 Q) X
          | _ => False) else False
      | none => (match attrOf f with
        | some (o, nm, apos) => bif isNameE o && apos.endLine == pos.line && noStars args && args.length.blt 29 then wE n T false o l st (fun d st1 => wCallM Γ T.hq nm d st1 (fun K => wEs n T false args l st1 K X) Q X) X else False
        | none => False)) else False
    | .Attribute o nm _ => bif isNameE o then wE n T false o l st (fun d st1 => wAttr Γ nm d st1 Q) X else False
    | .Subscript v s _ => (match sliceOf s with
      | some (a, u, sp) => wE n T false v l st (fun d st1 => wOpt n T a l st1 (fun a st2 => wOpt n T u l st2 (fun b st3 => wOpt n T sp l st3 (fun c st4 => wSlice trk d a b c st4 Q) X) X) X) X
      | none => wE n T false v l st (fun d st1 => wE n T false s l st1 (fun i st2 => wItem d i st2 Q) X) X)
    | .Tuple es _ _ => wEs n T trk es l st (fun ds st1 => ds.length ≤ lim ∧ Q (.tup ds) st1) X
    | .List es _ => wEs n T trk es l st (fun ds st1 => mkList trk ds st1 Q) X
    | .Dict ks vs _ => (match vs with
      | [] => bif ks.isEmpty && !trk then Q (.exc (.type "dict")) st else False
      | v :: r => bif trk && dictB ks (v :: r) then wEs n T false (v :: r) l st (fun ds st1 => Q (.loc st1.hi) (st1.alloc (.dict ((keyL ks).zip ds)))) X else False)
    | .ListComp elt gens scope _ => (match genOf gens with
      | some (t, it, ifs) => bif !T.hq && scopeB T.kd scope then wIter n T t it l st (fun items p st1 =>
        wComp (fun d st2 k => wTarget (T.sub scope) t d (into T l scope.names) fun l1 =>
          match ifs with
          | [] => wE n (T.sub scope) trk elt l1 st2 (fun x st4 => k (some x) st4) noX
          | [c] => wT n (T.sub scope) c l1 st2 (fun b st3 => if b then wE n (T.sub scope) trk elt l1 st3 (fun x st4 => k (some x) st4) noX else k none st3) noX
          | _ => False)
          items [] (st1.hide p) fun acc st5 => mkList trk acc (st5.back st1 p) Q) X else False
      | none => False)
    | _ => False
noncomputable def wEs : Nat → Tb → Bool → List Expr → Ev → St → (List D → St → Prop) → XP → Prop
  | 0, _, _, _, _, _, _, _ => False
  | n + 1, T, trk, es, l, st, Q, X => match es with
    | [] => Q [] st
    | e :: r => wE n T trk e l st (fun d st1 => wEs n T trk r l st1 (fun ds st2 => Q (d :: ds) st2) X) X
noncomputable def wOpt : Nat → Tb → Option Expr → Ev → St → (D → St → Prop) → XP → Prop
  | 0, _, _, _, _, _, _ => False
  | n + 1, T, e, l, st, Q, X => match e with
    | none => Q .none st
    | some e => wE n T false e l st Q X
noncomputable def wBool : Nat → Tb → BoolOp → List Expr → Ev → St → (D → St → Prop) → XP → Prop
  | 0, _, _, _, _, _, _, _ => False
  | n + 1, T, op, es, l, st, Q, X => match es with
    | [] => False
    | [x] => wE n T false x l st Q X
    | x :: y :: r => wE n T false x l st (fun d st1 => ∃ b, truth d = some b ∧ (if stopsAnd op b then Q d st1 else wBool n T op (y :: r) l st1 Q X)) X
noncomputable def wChain : Nat → Tb → D → List CmpOp → List Expr → Ev → St → (Bool → St → Prop) → XP → Prop
  | 0, _, _, _, _, _, _, _, _ => False
  | n + 1, T, a, ops, rs, l, st, K, X => match ops, rs with
    | [op], [r] => wE n T false r l st (fun b st1 => wCmp1 op a b st1 fun v => K v st1) X
    | op :: o2 :: ops, r :: r2 :: rs => wE n T false r l st (fun b st1 => wCmp1 op a b st1 fun v => if v then wChain n T b (o2 :: ops) (r2 :: rs) l st1 K X else K false st1) X
    | _, _ => False
noncomputable def wT : Nat → Tb → Expr → Ev → St → (Bool → St → Prop) → XP → Prop
  | 0, _, _, _, _, _, _ => False
  | n + 1, T, e, l, st, K, X => match e with
    | .UnaryOp .Not x _ => wT n T x l st (fun b st1 => K (!b) st1) X
    | .BoolOp op es _ => wAll n T op es l st K X
    | .Compare a ops rs _ => wE n T false a l st (fun a st1 => wChain n T a ops rs l st1 K X) X
    | .IfExp .. => False
    | e => wE n T false e l st (fun d st1 => ∃ b, truth d = some b ∧ K b st1) X
noncomputable def wAll : Nat → Tb → BoolOp → List Expr → Ev → St → (Bool → St → Prop) → XP → Prop
  | 0, _, _, _, _, _, _, _ => False
  | n + 1, T, op, es, l, st, K, X => match es with
    | [] => K (op == .And) st
    | x :: r => wT n T x l st (fun b st1 => if stopsAnd op b then K b st1 else wAll n T op r l st1 K X) X
noncomputable def wIter : Nat → Tb → Expr → Expr → Ev → St → (List D → (Nat → Bool) → St → Prop) → XP → Prop
  | 0, _, _, _, _, _, _, _ => False
  | n + 1, T, t, it, l, st, K, X => bif it.ctorIdx == 7 then False else (match itOf it with
    | some (f, args) => (match T.pl f with
      | .gl .itr => bif plainA args then wEs n T false args l st (fun ds st1 => iterCall t f ds st1 fun xs p => K xs p st1) X else False
      | _ => wE n T false it l st (fun d st1 => wIterD d st1 fun xs p => xs.length ≤ lim ∧ K xs p st1) X)
    | none => wE n T false it l st (fun d st1 => wIterD d st1 fun xs p => xs.length ≤ lim ∧ K xs p st1) X)
end

noncomputable def wAttrS (nm : Str) (od d : D) (st : St) (K : St → Prop) : Prop := ∃ k C es, od = .inst C k ∧ Γ.cl C ∧ isAt nm = true ∧ st.cs k = some (.ns es) ∧ es.lookup nm = none ∧ es.length ≤ 4 ∧ K (st.put k (.ns (es ++ [(nm, d)])))
noncomputable def wAsg (n : Nat) (T : Tb) (t v : Expr) (l : Ev) (st : St) (K : Fl → Ev → St → Prop) (X : XP) : Prop := match nameOf t with
  | some x => (match T.pl x with
    | .loc i true b => wE Γ n T b v l st (fun d st1 => K .next (setE l i (some d)) st1) X
    | _ => False)
  | none => bif isTupE t then (bif T.hq || isTupE v then False else wE Γ n T false v l st (fun d st1 => wTarget T t d l fun l1 => K .next l1 st1) X) else (match subOf t with
    | some (o, i) => bif isSliceE i then False else wE Γ n T false v l st (fun d st1 => wE Γ n T false o l st1 (fun od st2 => wE Γ n T false i l st2 (fun id st3 => wSetItem od id d st3 fun st4 => K .next l st4) X) X) X
    | none => (match attrOf t with
      | some (o, nm, _) => bif isNameE o then wE Γ n T false v l st (fun d st1 => wE Γ n T false o l st1 (fun od st2 => wAttrS Γ nm od d st2 fun st3 => K .next l st3) X) X else False
      | none => False))
/-- a call of a class with one text -/
noncomputable def raiseOf (e : Expr) : Option Str := match callOf e with
  | some (f, [a], []) => bif (strX a).isSome then nameOf f else none
  | _ => none
/-- one call, one handler -/
noncomputable def tryOf (body : List Stmt) (hs : List ExceptHandler) (els fin : List Stmt) : Option (Expr × Str × Str × List Stmt) := match body, hs with
  | [b], [.ExceptHandler (some t) (some y) suite _] => bif els.isEmpty && fin.isEmpty then (match exprOf b with
    | some v => (match nameOf t with
      | some h => some (v, h, y, suite)
      | none => none)
    | none => none) else none
  | _, _ => none
mutual
noncomputable def wS : Nat → Tb → Stmt → Ev → St → (Fl → Ev → St → Prop) → XP → Prop
  | 0, _, _, _, _, _, _ => False
  | n + 1, T, s, l, st, K, X => match s with
    | .Expr v _ => bif isCallE v then wE Γ n T false v l st (fun _ st1 => K .next l st1) X else False
    | .Assign [t] v _ => wAsg Γ n T t v l st K X
    | .If c a b _ => wT Γ n T c l st (fun r st1 => if r then wSs n T a l st1 K X else wSs n T b l st1 K X) X
    | .For t it body [] _ => bif T.hq then False else wIter Γ n T t it l st (fun items p st1 =>
        wFor (fun d l st k => wTarget T t d l fun l1 => wSs n T body l1 st k fun C st2 => X C (st2.back st1 p)) items l (st1.hide p) fun fl l2 st2 => K fl l2 (st2.back st1 p)) X
    | .Return (some e) _ => wE Γ n T false e l st (fun d st1 => K (.ret d) l st1) X
    | .Raise (some e) none _ => (match raiseOf e with
      | some x => (match T.pl x with
        | .gl .dyn => bif T.hq then False else ∃ C, Γ.gl x = some (.val C) ∧ Γ.ex C = true ∧ X C st
        | _ => False)
      | none => False)
    | .Try body hs els fin _ => (match tryOf body hs els fin with
      | some (v, h, y, suite) => (match T.pl h with
        | .gl .dyn => (match T.pl y with
          | .loc i true _ => bif T.hq || !isCallE v || suite.isEmpty || !(T.kd y == some .local) then False else wE Γ n T false v l st (fun _ st1 => K .next l st1) fun C st1 => Γ.gl h = some (.val C) ∧ Γ.ex C = true ∧
              wSs n { T with hq := true } suite (setE l i (some (.exc C))) st1 (fun fl l2 st2 => K fl (setE l2 i none) st2) noX
          | _ => False)
        | _ => False)
      | none => False)
    | _ => False
noncomputable def wSs : Nat → Tb → List Stmt → Ev → St → (Fl → Ev → St → Prop) → XP → Prop
  | 0, _, _, _, _, _, _ => False
  | n + 1, T, ss, l, st, K, X => match ss with
    | [] => K .next l st
    | s :: r => wS n T s l st (fun fl l1 st1 => (match fl with
      | .next => wSs n T r l1 st1 K X
      | fl => K fl l1 st1)) X
end

/-- the parameters stand first among the names -/
noncomputable def bindE : Sc → List D → Ev
  | [], _ => []
  | _ :: N, [] => none :: bindE N []
  | _ :: N, d :: ds => some d :: bindE N ds
noncomputable def finE (st : St) (Q : D → St → Prop) : Fl → Ev → St → Prop := fun fl _ st' => (match fl with
    | .ret d => Q d st' ∨ ∃ d', frz st.hi st' 3 d = some d' ∧ Q d' (st'.cut st.hi)
    | .next => Q .none st' ∨ Q .none (st'.cut st.hi))
/-- a def's call: its own cells are kept, or what it gives back is frozen -/
noncomputable def wFn (n : Nat) (T : Tb) (k : Nat) (body : List Stmt) : FSpec := fun ds st Q X =>
  ds.length = k ∧ wSs Γ n T body (bindE T.N ds) st (finE st Q) fun C st' => X C (st'.cut st.hi)
end
/-- the call of a plain class: a new object, then its __init__ -/
noncomputable def wMake (C : Value) (S : FSpec) : FSpec := fun ds st Q X =>
  S (.inst C st.hi :: ds) (st.alloc (.ns [])) (fun d st' => isNoneD d = true ∧ Q (.inst C st.hi) st') fun E st' => X E (st'.cut st.hi)

end Mine
end

section
set_option autoImplicit false
set_option linter.unusedVariables false
namespace Mine
open PySem
section
variable {Γ : Ctx} {T : Tb} {n : Nat} {trk : Bool} {l : Ev} {st : St} {Q : D → St → Prop} {X : XP} {K : Bool → St → Prop} {KI : List D → (Nat → Bool) → St → Prop} {KS : Fl → Ev → St → Prop} {KL : List D → St → Prop}
theorem f_none {a p} : wE Γ (n + 1) T trk (.Constant .none a p) l st Q X = Q .none st := rfl
theorem f_bool {b a p} : wE Γ (n + 1) T trk (.Constant (.bool b) a p) l st Q X = Q (.bool b) st := rfl
theorem f_int {b a p} : wE Γ (n + 1) T trk (.Constant (.int b) a p) l st Q X = Q (.int b) st := rfl
theorem f_str {b a p} : wE Γ (n + 1) T trk (.Constant (.str b) a p) l st Q X = Q (.str b) st := rfl
theorem f_name {x p} : wE Γ (n + 1) T trk (.Name x p) l st Q X = wName Γ T x l st Q := rfl
theorem f_boolop {op es p} : wE Γ (n + 1) T trk (.BoolOp op es p) l st Q X = wBool Γ n T op es l st Q X := rfl
theorem f_bin {a op r p} : wE Γ (n + 1) T trk (.BinOp a op r p) l st Q X = wE Γ n T false a l st (fun a st1 => wE Γ n T false r l st1 (fun b st2 => wBin trk op a b st2 Q) X) X := rfl
theorem f_un {op x p} : wE Γ (n + 1) T trk (.UnaryOp op x p) l st Q X = wE Γ n T false x l st (fun a st1 => wUn op a st1 Q) X := rfl
theorem f_cmp {a ops rs p} : wE Γ (n + 1) T trk (.Compare a ops rs p) l st Q X = wE Γ n T false a l st (fun a st1 => wChain Γ n T a ops rs l st1 (fun b st2 => Q (.bool b) st2) X) X := rfl
theorem f_call {x c args p} : wE Γ (n + 1) T trk (.Call (.Name x c) args [] p) l st Q X = (bif plainA args then (match T.pl x with
          | .gl .fn => bif T.hq then False else wEs Γ n T false args l st (fun ds st1 => wFnc Γ x ds st1 Q X) X
          | .gl (.blt _) => wEs Γ n T false args l st (fun ds st1 => wBuiltin Γ.sub trk x ds st1 Q) X
          | _ => False) else False) := rfl
theorem f_meth {o nm ap args p} : wE Γ (n + 1) T trk (.Call (.Attribute o nm ap) args [] p) l st Q X = (bif isNameE o && ap.endLine == p.line && noStars args && args.length.blt 29 then wE Γ n T false o l st (fun d st1 => wCallM Γ T.hq nm d st1 (fun K => wEs Γ n T false args l st1 K X) Q X) X else False) := rfl
theorem f_attr {o nm p} : wE Γ (n + 1) T trk (.Attribute o nm p) l st Q X = (bif isNameE o then wE Γ n T false o l st (fun d st1 => wAttr Γ nm d st1 Q) X else False) := rfl
theorem f_slice {v a u sp q p} : wE Γ (n + 1) T trk (.Subscript v (.Slice a u sp q) p) l st Q X = wE Γ n T false v l st (fun d st1 => wOpt Γ n T a l st1 (fun a st2 => wOpt Γ n T u l st2 (fun b st3 => wOpt Γ n T sp l st3 (fun c st4 => wSlice trk d a b c st4 Q) X) X) X) X := rfl
theorem f_tup {es a p} : wE Γ (n + 1) T trk (.Tuple es a p) l st Q X = wEs Γ n T trk es l st (fun ds st1 => ds.length ≤ lim ∧ Q (.tup ds) st1) X := rfl
theorem f_list {es p} : wE Γ (n + 1) T trk (.List es p) l st Q X = wEs Γ n T trk es l st (fun ds st1 => mkList trk ds st1 Q) X := rfl
theorem f_dict0 {p} : wE Γ (n + 1) T trk (.Dict [] [] p) l st Q X = (bif !trk then Q (.exc (.type "dict")) st else False) := rfl
theorem f_dict {ks v r p} : wE Γ (n + 1) T trk (.Dict ks (v :: r) p) l st Q X = (bif trk && dictB ks (v :: r) then wEs Γ n T false (v :: r) l st (fun ds st1 => Q (.loc st1.hi) (st1.alloc (.dict ((keyL ks).zip ds)))) X else False) := rfl
theorem f_comp {elt t it ifs sc p} : wE Γ (n + 1) T trk (.ListComp elt [⟨t, it, ifs, 0⟩] sc p) l st Q X = (bif !T.hq && scopeB T.kd sc then wIter Γ n T t it l st (fun items p st1 =>
        wComp (fun d st2 k => wTarget (T.sub sc) t d (into T l sc.names) fun l1 =>
          match ifs with
          | [] => wE Γ n (T.sub sc) trk elt l1 st2 (fun x st4 => k (some x) st4) noX
          | [c] => wT Γ n (T.sub sc) c l1 st2 (fun b st3 => if b then wE Γ n (T.sub sc) trk elt l1 st3 (fun x st4 => k (some x) st4) noX else k none st3) noX
          | _ => False)
          items [] (st1.hide p) fun acc st5 => mkList trk acc (st5.back st1 p) Q) X else False) := rfl
theorem f_nil : wEs Γ (n + 1) T trk [] l st KL X = KL [] st := rfl
theorem f_cons {e r} : wEs Γ (n + 1) T trk (e :: r) l st KL X = wE Γ n T trk e l st (fun d st1 => wEs Γ n T trk r l st1 (fun ds st2 => KL (d :: ds) st2) X) X := rfl
theorem f_on : wOpt Γ (n + 1) T none l st Q X = Q .none st := rfl
theorem f_os {e} : wOpt Γ (n + 1) T (some e) l st Q X = wE Γ n T false e l st Q X := rfl
theorem f_b1 {op x} : wBool Γ (n + 1) T op [x] l st Q X = wE Γ n T false x l st Q X := rfl
theorem f_b2 {op x y r} : wBool Γ (n + 1) T op (x :: y :: r) l st Q X = wE Γ n T false x l st (fun d st1 => ∃ b, truth d = some b ∧ (if stopsAnd op b then Q d st1 else wBool Γ n T op (y :: r) l st1 Q X)) X := rfl
theorem f_c1 {a op r} : wChain Γ (n + 1) T a [op] [r] l st K X = wE Γ n T false r l st (fun b st1 => wCmp1 op a b st1 fun v => K v st1) X := rfl
theorem f_c2 {a op o2 ops r r2 rs} : wChain Γ (n + 1) T a (op :: o2 :: ops) (r :: r2 :: rs) l st K X = wE Γ n T false r l st (fun b st1 => wCmp1 op a b st1 fun v => if v then wChain Γ n T b (o2 :: ops) (r2 :: rs) l st1 K X else K false st1) X := rfl
theorem f_not {x p} : wT Γ (n + 1) T (.UnaryOp .Not x p) l st K X = wT Γ n T x l st (fun b st1 => K (!b) st1) X := rfl
theorem f_tb {op es p} : wT Γ (n + 1) T (.BoolOp op es p) l st K X = wAll Γ n T op es l st K X := rfl
theorem f_tc {a ops rs p} : wT Γ (n + 1) T (.Compare a ops rs p) l st K X = wE Γ n T false a l st (fun a st1 => wChain Γ n T a ops rs l st1 K X) X := rfl
theorem f_tcall {f a k p} : wT Γ (n + 1) T (.Call f a k p) l st K X = wE Γ n T false (.Call f a k p) l st (fun d st1 => ∃ b, truth d = some b ∧ K b st1) X := rfl
theorem f_tname {x p} : wT Γ (n + 1) T (.Name x p) l st K X = wE Γ n T false (.Name x p) l st (fun d st1 => ∃ b, truth d = some b ∧ K b st1) X := rfl
theorem f_an {op} : wAll Γ (n + 1) T op [] l st K X = K (op == .And) st := rfl
theorem f_ac {op x r} : wAll Γ (n + 1) T op (x :: r) l st K X = wT Γ n T x l st (fun b st1 => if stopsAnd op b then K b st1 else wAll Γ n T op r l st1 K X) X := rfl
theorem f_expr {v p} : wS Γ (n + 1) T (.Expr v p) l st KS X = (bif isCallE v then wE Γ n T false v l st (fun _ st1 => KS .next l st1) X else False) := rfl
theorem f_asgN {x c v p} : wS Γ (n + 1) T (.Assign [.Name x c] v p) l st KS X = (match T.pl x with
        | .loc i true b => wE Γ n T b v l st (fun d st1 => KS .next (setE l i (some d)) st1) X
        | _ => False) := rfl
theorem f_asgT {es k q v p} : wS Γ (n + 1) T (.Assign [.Tuple es k q] v p) l st KS X = (bif T.hq || isTupE v then False else wE Γ n T false v l st (fun d st1 => wTarget T (.Tuple es k q) d l fun l1 => KS .next l1 st1) X) := rfl
theorem f_asgS {o i q v p} : wS Γ (n + 1) T (.Assign [.Subscript o i q] v p) l st KS X = (bif isSliceE i then False else wE Γ n T false v l st (fun d st1 => wE Γ n T false o l st1 (fun od st2 => wE Γ n T false i l st2 (fun id st3 => wSetItem od id d st3 fun st4 => KS .next l st4) X) X) X) := rfl
theorem f_asgA {o nm q v p} : wS Γ (n + 1) T (.Assign [.Attribute o nm q] v p) l st KS X = (bif isNameE o then wE Γ n T false v l st (fun d st1 => wE Γ n T false o l st1 (fun od st2 => wAttrS Γ nm od d st2 fun st3 => KS .next l st3) X) X else False) := rfl
theorem f_if {c a b p} : wS Γ (n + 1) T (.If c a b p) l st KS X = wT Γ n T c l st (fun r st1 => if r then wSs Γ n T a l st1 KS X else wSs Γ n T b l st1 KS X) X := rfl
theorem f_for {t it body p} : wS Γ (n + 1) T (.For t it body [] p) l st KS X = (bif T.hq then False else wIter Γ n T t it l st (fun items p st1 =>
        wFor (fun d l st k => wTarget T t d l fun l1 => wSs Γ n T body l1 st k fun C st2 => X C (st2.back st1 p)) items l (st1.hide p) fun fl l2 st2 => KS fl l2 (st2.back st1 p)) X) := rfl
theorem f_ret {e p} : wS Γ (n + 1) T (.Return (some e) p) l st KS X = wE Γ n T false e l st (fun d st1 => KS (.ret d) l st1) X := rfl
theorem f_raise {x p1 c p2 p3 p4 a} : wS Γ (n + 1) T (.Raise (some (.Call (.Name x p1) [.Constant (.str c) p2 a] [] p3)) none p4) l st KS X = (match T.pl x with
      | .gl .dyn => bif T.hq then False else ∃ C, Γ.gl x = some (.val C) ∧ Γ.ex C = true ∧ X C st
      | _ => False) := rfl
theorem f_try {v p1 h p2 y suite p3 p4} : wS Γ (n + 1) T (.Try [.Expr v p1] [.ExceptHandler (some (.Name h p2)) (some y) suite p3] [] [] p4) l st KS X = (match T.pl h with
      | .gl .dyn => (match T.pl y with
        | .loc i true _ => bif T.hq || !isCallE v || suite.isEmpty || !(T.kd y == some .local) then False else wE Γ n T false v l st (fun _ st1 => KS .next l st1) fun C st1 => Γ.gl h = some (.val C) ∧ Γ.ex C = true ∧
            wSs Γ n { T with hq := true } suite (setE l i (some (.exc C))) st1 (fun fl l2 st2 => KS fl (setE l2 i none) st2) noX
        | _ => False)
      | _ => False) := rfl
theorem f_ssn : wSs Γ (n + 1) T [] l st KS X = KS .next l st := rfl
noncomputable def thenE (Γ : Ctx) (n : Nat) (T : Tb) (r : List Stmt) (K : Fl → Ev → St → Prop) (X : XP) : Fl → Ev → St → Prop := fun fl l1 st1 => (match fl with
      | .next => wSs Γ n T r l1 st1 K X
      | fl => K fl l1 st1)
theorem f_ss {s r} : wSs Γ (n + 1) T (s :: r) l st KS X = wS Γ n T s l st (thenE Γ n T r KS X) X := rfl
end
theorem of_bif {c : Bool} {P : Prop} (h : bif c then P else False) : c = true ∧ P := by
  cases c with
  | true => exact ⟨rfl, h⟩
  | false => exact h.elim
theorem of_bif' {c : Bool} {P : Prop} (h : bif c then False else P) : c = false ∧ P := by
  cases c with
  | true => exact h.elim
  | false => exact ⟨rfl, h⟩
theorem nf_of {b : Bool} (h : (!b) = true) : b = false := by cases b with
  | true => cases h
  | false => rfl
theorem no1 {α : Type} {x : α} (h : none = some x) : False := by cases h
theorem name_inv {e : Expr} {x : Str} (h : nameOf e = some x) : ∃ p, e = .Name x p := by
  by_cases hc : e.ctorIdx = 23
  · exact Expr.Name.elim (motive_1 := fun e => nameOf e = some x → ∃ p, e = .Name x p) e hc (fun y p h => ⟨p, by cases (show some y = some x from h); rfl⟩) h
  · unfold nameOf at h; rw [dif_neg hc] at h; exact (no1 h).elim
theorem tup_inv {e : Expr} {x : List Expr} (h : tupOf e = some x) : ∃ k p, e = .Tuple x k p := by
  by_cases hc : e.ctorIdx = 25
  · exact Expr.Tuple.elim (motive_1 := fun e => tupOf e = some x → ∃ k p, e = .Tuple x k p) e hc (fun y k p h => ⟨k, p, by cases (show some y = some x from h); rfl⟩) h
  · unfold tupOf at h; rw [dif_neg hc] at h; exact (no1 h).elim
theorem attr_inv {e : Expr} {x : Expr × Str × Pos} (h : attrOf e = some x) : e = .Attribute x.1 x.2.1 x.2.2 := by
  by_cases hc : e.ctorIdx = 20
  · exact Expr.Attribute.elim (motive_1 := fun e => attrOf e = some x → e = .Attribute x.1 x.2.1 x.2.2) e hc (fun a b c h => by cases (show some (a, b, c) = some x from h); rfl) h
  · unfold attrOf at h; rw [dif_neg hc] at h; exact (no1 h).elim
theorem sub_inv {e : Expr} {x : Expr × Expr} (h : subOf e = some x) : ∃ p, e = .Subscript x.1 x.2 p := by
  by_cases hc : e.ctorIdx = 21
  · exact Expr.Subscript.elim (motive_1 := fun e => subOf e = some x → ∃ p, e = .Subscript x.1 x.2 p) e hc (fun a b p h => ⟨p, by cases (show some (a, b) = some x from h); rfl⟩) h
  · unfold subOf at h; rw [dif_neg hc] at h; exact (no1 h).elim
theorem call_inv {e : Expr} {x : Expr × List Expr × List Keyword} (h : callOf e = some x) : ∃ p, e = .Call x.1 x.2.1 x.2.2 p := by
  by_cases hc : e.ctorIdx = 16
  · exact Expr.Call.elim (motive_1 := fun e => callOf e = some x → ∃ p, e = .Call x.1 x.2.1 x.2.2 p) e hc (fun a b c p h => ⟨p, by cases (show some (a, b, c) = some x from h); rfl⟩) h
  · unfold callOf at h; rw [dif_neg hc] at h; exact (no1 h).elim
theorem strC_inv {e : Const} {x : Str} (h : strC e = some x) : e = .str x := by
  by_cases hc : e.ctorIdx = 5
  · exact Const.str.elim (motive := fun e => strC e = some x → e = .str x) e hc (fun y h => by cases (show some y = some x from h); rfl) h
  · unfold strC at h; rw [dif_neg hc] at h; exact (no1 h).elim
theorem str_inv {e : Expr} {x : Str} (h : strX e = some x) : ∃ k p, e = .Constant (.str x) k p := by
  by_cases hc : e.ctorIdx = 19
  · exact Expr.Constant.elim (motive_1 := fun e => strX e = some x → ∃ k p, e = .Constant (.str x) k p) e hc (fun y k p h => ⟨k, p, by cases strC_inv (show strC y = some x from h); rfl⟩) h
  · unfold strX at h; rw [dif_neg hc] at h; exact (no1 h).elim
theorem slice_inv {e : Expr} {x : Option Expr × Option Expr × Option Expr} (h : sliceOf e = some x) : ∃ p, e = .Slice x.1 x.2.1 x.2.2 p := by
  by_cases hc : e.ctorIdx = 26
  · exact Expr.Slice.elim (motive_1 := fun e => sliceOf e = some x → ∃ p, e = .Slice x.1 x.2.1 x.2.2 p) e hc (fun a b c p h => ⟨p, by cases (show some (a, b, c) = some x from h); rfl⟩) h
  · unfold sliceOf at h; rw [dif_neg hc] at h; exact (no1 h).elim
theorem slice_no {e : Expr} (h : sliceOf e = none) : isSliceE e = false := by
  cases q : isSliceE e with
  | false => rfl
  | true => exact (no1 (h.symm.trans (Expr.Slice.elim (motive_1 := fun e => sliceOf e = some (match sliceOf e with | some x => x | none => (none, none, none))) e (beq_iff_eq.mp q) fun _ _ _ _ => rfl))).elim
theorem expr_inv {e : Stmt} {x : Expr} (h : exprOf e = some x) : ∃ p, e = .Expr x p := by
  by_cases hc : e.ctorIdx = 24
  · exact Stmt.Expr.elim (motive_2 := fun e => exprOf e = some x → ∃ p, e = .Expr x p) e hc (fun y p h => ⟨p, by cases (show some y = some x from h); rfl⟩) h
  · unfold exprOf at h; rw [dif_neg hc] at h; exact (no1 h).elim
theorem raise_elim {P : Expr → Prop} {e : Expr} {x : Str} (h : raiseOf e = some x) (hP : ∀ p1 c k p2 p3, P (.Call (.Name x p1) [.Constant (.str c) k p2] [] p3)) : P e := by
  unfold raiseOf at h
  cases q : callOf e with
  | none => rw [q] at h; exact (no1 h).elim
  | some y =>
    rw [q] at h
    obtain ⟨p3, rfl⟩ := call_inv q
    obtain ⟨f, as, ks⟩ := y
    cases as with
    | nil => exact (no1 h).elim
    | cons a r => cases r with
      | cons _ _ => exact (no1 h).elim
      | nil => cases ks with
        | cons _ _ => exact (no1 h).elim
        | nil =>
          have h' : (bif (strX a).isSome then nameOf f else none) = some x := h
          cases q2 : strX a with
          | none => rw [q2] at h'; exact (no1 h').elim
          | some c =>
            rw [q2] at h'
            obtain ⟨p1, rfl⟩ := name_inv h'
            obtain ⟨k, p2, rfl⟩ := str_inv q2
            exact hP p1 c k p2 p3
theorem try_end {P : Stmt → Option Expr → Prop} {b : Stmt} {t : Expr} {y : Str} {suite : List Stmt} {x : Expr × Str × Str × List Stmt} (h : (match exprOf b with
      | some v => (match nameOf t with
        | some h => some (v, h, y, suite)
        | none => none)
      | none => none) = some x) (hP : ∀ v hn p1 p2, x = (v, hn, y, suite) → P (.Expr v p1) (some (.Name hn p2))) : P b (some t) := by
  cases q : exprOf b with
  | none => rw [q] at h; exact (no1 h).elim
  | some v =>
    rw [q] at h
    cases q2 : nameOf t with
    | none => rw [q2] at h; exact (no1 h).elim
    | some hn =>
      rw [q2] at h
      obtain ⟨p1, rfl⟩ := expr_inv q
      obtain ⟨p2, rfl⟩ := name_inv q2
      exact hP v hn p1 p2 (Option.some.inj h).symm
theorem try_elim {P : List Stmt → List ExceptHandler → List Stmt → List Stmt → Prop} {body : List Stmt} {hs : List ExceptHandler} {els fin : List Stmt} {x : Expr × Str × Str × List Stmt} (h : tryOf body hs els fin = some x)
    (hP : ∀ p1 p2 p3, P [.Expr x.1 p1] [.ExceptHandler (some (.Name x.2.1 p2)) (some x.2.2.1) x.2.2.2 p3] [] []) : P body hs els fin := by
  cases body with
  | nil => exact (no1 h).elim
  | cons b br => cases br with
    | cons _ _ => exact (no1 h).elim
    | nil => cases hs with
      | nil => exact (no1 h).elim
      | cons hd hr =>
        obtain ⟨t, nmo, suite, p3⟩ := hd
        cases t with
        | none => exact (no1 h).elim
        | some t => cases nmo with
          | none => exact (no1 h).elim
          | some y => cases hr with
            | cons _ _ => exact (no1 h).elim
            | nil => cases els with
              | cons _ _ => exact (no1 h).elim
              | nil => cases fin with
                | cons _ _ => exact (no1 h).elim
                | nil => exact try_end (P := fun b t => P [b] [.ExceptHandler t (some y) suite p3] [] []) h fun v hn p1 p2 e => by subst e; exact hP p1 p2 p3
theorem pl_itr {P R : Prop} {p : Pl} (h : match p with
    | .gl .itr => P
    | _ => R) : (p = .gl .itr ∧ P) ∨ R := by
  cases p with
  | gl g => cases g with
    | itr => exact .inl ⟨rfl, h⟩
    | _ => exact .inr h
  | _ => exact .inr h
theorem it_elim {P : Expr → Prop} {it : Expr} {x : Str × List Expr} (h : itOf it = some x) (hP : ∀ p1 p2, P (.Call (.Name x.1 p1) x.2 [] p2)) : P it := by
  unfold itOf at h
  cases q : callOf it with
  | none => rw [q] at h; exact (no1 h).elim
  | some y =>
    rw [q] at h
    obtain ⟨p2, rfl⟩ := call_inv q
    obtain ⟨f, as, ks⟩ := y
    have h' : (match nameOf f with | some x => bif ks.isEmpty then some (x, as) else none | none => none) = some x := h
    cases q2 : nameOf f with
    | none => rw [q2] at h'; exact (no1 h').elim
    | some z =>
      rw [q2] at h'
      obtain ⟨p1, rfl⟩ := name_inv q2
      cases ks with
      | cons _ _ => exact (no1 h').elim
      | nil => obtain rfl := Option.some.inj h'; exact hP p1 p2
theorem gen_elim {P : List Comprehension → Prop} {gs : List Comprehension} {x : Expr × Expr × List Expr} (h : genOf gs = some x) (hP : P [⟨x.1, x.2.1, x.2.2, 0⟩]) : P gs := by
  cases gs with
  | nil => exact (no1 h).elim
  | cons g gs =>
    obtain ⟨t, it, ifs, a⟩ := g
    cases gs with
    | cons _ _ => exact (no1 h).elim
    | nil =>
      have h' : (if a = 0 then some (t, it, ifs) else none) = some x := h
      by_cases q : a = 0
      · subst q; rw [if_pos rfl] at h'; obtain rfl := Option.some.inj h'; exact hP
      · rw [if_neg q] at h'; exact (no1 h').elim
end Mine
end

section
set_option autoImplicit false
namespace Mine
open PySem

/-- the heap at the start, and the world (for the hashes of strs) -/
structure H0 where
  h : Heap
  w : World

structure Wd where
  R : Addr → Option Obj
  ρ : Nat → Option Addr
  st : St
  /-- the names' places of the frames that run -/
  fr : Addr → Prop

noncomputable abbrev tupO (vs : List Value) (n : Nat) : Obj := { cls := .type "tuple", dict := none, data := .seq vs.toArray n, slots := #[] }
noncomputable abbrev lstO (vs : List Value) (n : Nat) : Obj := { cls := .type "list", dict := none, data := .seq vs.toArray n, slots := #[] }

mutual
noncomputable def Rep (R : Addr → Option Obj) (ρ : Nat → Option Addr) : D → Value → Prop
  | .none, v => v = .none
  | .bool b, v => v = .bool b
  | .int i, v => ∃ t, v = .int i t
  | .str x, v => ∃ t, v = .str x t
  | .tup ds, v => ∃ a vs n, v = .ref a ∧ R a = some (tupO vs n) ∧ RepAll R ρ ds vs
  | .list ds, v => ∃ a vs n, v = .ref a ∧ R a = some (lstO vs n) ∧ RepAll R ρ ds vs
  | .loc n, v => ∃ a, ρ n = some a ∧ v = .ref a
  | .val u, v => v = u
  | .exc C, v => ∃ a o, v = .ref a ∧ R a = some o ∧ o.cls = C
  | .inst C n, v => ∃ a dx o, v = .ref a ∧ R a = some o ∧ o.cls = C ∧ o.dict = some dx ∧ (∀ c, o.data ≠ .cls c) ∧ ρ n = some dx
noncomputable def RepAll (R : Addr → Option Obj) (ρ : Nat → Option Addr) : List D → List Value → Prop
  | [], vs => vs = []
  | d :: ds, vs => ∃ v ws, vs = v :: ws ∧ Rep R ρ d v ∧ RepAll R ρ ds ws
end

section
variable {R R' : Addr → Option Obj} {ρ ρ' : Nat → Option Addr}
mutual
theorem Rep.mono (hR : ∀ a o, R a = some o → R' a = some o) (hρ : ∀ n a, ρ n = some a → ρ' n = some a) : ∀ (d : D) (v : Value), Rep R ρ d v → Rep R' ρ' d v
  | .none, _, h => h
  | .bool _, _, h => h
  | .int _, _, h => h
  | .str _, _, h => h
  | .val _, _, h => h
  | .exc _, _, ⟨a, o, e, h, c⟩ => ⟨a, o, e, hR _ _ h, c⟩
  | .inst _ _, _, ⟨a, dx, o, e, h, h1, h2, h3, r⟩ => ⟨a, dx, o, e, hR _ _ h, h1, h2, h3, hρ _ _ r⟩
  | .loc _, _, ⟨a, h, e⟩ => ⟨a, hρ _ _ h, e⟩
  | .tup ds, _, ⟨a, vs, n, e, h, r⟩ => ⟨a, vs, n, e, hR _ _ h, RepAll.mono hR hρ ds vs r⟩
  | .list ds, _, ⟨a, vs, n, e, h, r⟩ => ⟨a, vs, n, e, hR _ _ h, RepAll.mono hR hρ ds vs r⟩
theorem RepAll.mono (hR : ∀ a o, R a = some o → R' a = some o) (hρ : ∀ n a, ρ n = some a → ρ' n = some a) : ∀ (ds : List D) (vs : List Value), RepAll R ρ ds vs → RepAll R' ρ' ds vs
  | [], _, h => h
  | d :: ds, _, ⟨v, ws, e, h, r⟩ => ⟨v, ws, e, Rep.mono hR hρ d v h, RepAll.mono hR hρ ds ws r⟩
end
theorem RepAll.length : ∀ {ds : List D} {vs : List Value}, RepAll R ρ ds vs → vs.length = ds.length
  | [], _, h => by have h' : _ = [] := h; rw [h']; rfl
  | _ :: _, _, ⟨_, _, e, _, r⟩ => by rw [e]; simp [RepAll.length r]
theorem RepAll.get : ∀ {ds : List D} {vs : List Value}, RepAll R ρ ds vs → ∀ (i : Nat) (d : D), ds[i]? = some d → ∃ v, vs[i]? = some v ∧ Rep R ρ d v
  | [], _, _, _, _, h => by simp at h
  | d :: ds, _, ⟨v, ws, e, h, r⟩, 0, d', hd => by subst e; simp at hd; subst hd; exact ⟨v, rfl, h⟩
  | d :: ds, _, ⟨v, ws, e, h, r⟩, i + 1, d', hd => by subst e; simp at hd; obtain ⟨u, hu, hr⟩ := r.get i d' hd; exact ⟨u, by simpa using hu, hr⟩
theorem RepAll.get' : ∀ {ds : List D} {vs : List Value}, RepAll R ρ ds vs → ∀ (i : Nat) (v : Value), vs[i]? = some v → ∃ d, ds[i]? = some d ∧ Rep R ρ d v := by
  intro ds vs h i v hv
  have hl := h.length
  have hi : i < ds.length := by rw [← hl]; exact (List.getElem?_eq_some_iff.mp hv).1
  obtain ⟨u, hu, hr⟩ := h.get i _ (List.getElem?_eq_getElem hi)
  rw [hv] at hu; cases hu
  exact ⟨_, List.getElem?_eq_getElem hi, hr⟩
theorem RepAll.append : ∀ {ds es : List D} {vs ws : List Value}, RepAll R ρ ds vs → RepAll R ρ es ws → RepAll R ρ (ds ++ es) (vs ++ ws)
  | [], _, _, _, h, k => by have h' : _ = [] := h; rw [h']; exact k
  | _ :: _, _, _, _, ⟨v, us, e, h, r⟩, k => by subst e; exact ⟨v, _, rfl, h, r.append k⟩
theorem RepAll.one {d : D} {v : Value} (h : Rep R ρ d v) : RepAll R ρ [d] [v] := ⟨v, [], rfl, h, rfl⟩
theorem RepAll.mk' : ∀ {ds : List D} {vs : List Value}, vs.length = ds.length → (∀ (i : Nat) (d : D) (v : Value), ds[i]? = some d → vs[i]? = some v → Rep R ρ d v) → RepAll R ρ ds vs
  | [], vs, hl, _ => by cases vs with
    | nil => rfl
    | cons _ _ => simp at hl
  | d :: ds, vs, hl, h => by
    cases vs with
    | nil => simp at hl
    | cons v vs => exact ⟨v, vs, rfl, h 0 d v rfl rfl, RepAll.mk' (by simpa using hl) fun i d' v' a b => h (i + 1) d' v' (by simpa using a) (by simpa using b)⟩
theorem RepAll.set {ds : List D} {vs : List Value} (h : RepAll R ρ ds vs) (i : Nat) {d : D} {v : Value} (hd : Rep R ρ d v) : RepAll R ρ (ds.set i d) (vs.set i v) := by
  refine RepAll.mk' (by simp [h.length]) fun j d' v' a b => ?_
  rw [List.getElem?_set] at a b
  by_cases e : i = j
  · subst e
    simp only [if_true] at a b
    split at a
    · split at b
      · cases a; cases b; exact hd
      · cases b
    · cases a
  · simp only [if_neg e] at a b
    obtain ⟨u, hu, hr⟩ := h.get j d' a
    rw [hu] at b; cases b; exact hr
theorem RepAll.nth {ds : List D} {vs : List Value} (h : RepAll R ρ ds vs) {α : Type} (l : List α) (f : α → Nat) : RepAll R ρ (l.filterMap fun a => ds[f a]?) (l.filterMap fun a => vs[f a]?) := by
  induction l with
  | nil => rfl
  | cons a l ih =>
    simp only [List.filterMap_cons]
    cases hd : ds[f a]? with
    | none =>
      have hv : vs[f a]? = none := by
        rw [List.getElem?_eq_none_iff] at hd ⊢; rw [h.length]; exact hd
      rw [hv]; exact ih
    | some d =>
      obtain ⟨v, hv, hr⟩ := h.get _ _ hd
      rw [hv]; exact ⟨v, _, rfl, hr, ih⟩
theorem RepAll.inv {d : D} {ds : List D} {vs : List Value} (h : RepAll R ρ (d :: ds) vs) : ∃ v ws, vs = v :: ws ∧ Rep R ρ d v ∧ RepAll R ρ ds ws := h
end

noncomputable def CellIs (w : World) (R : Addr → Option Obj) (ρ : Nat → Option Addr) (h : Heap) (a : Addr) : Cell → Prop
  | .list ds => ∃ vs k, h.get? a = some (lstO vs k) ∧ RepAll R ρ ds vs
  | .dict es => ∃ kvs : List (Str × Value), (∃ o, h.get? a = some o) ∧ (∀ prog, h.DictOf (strKind prog w) a kvs) ∧ kvs.map (·.1) = es.map (·.1) ∧ RepAll R ρ (es.map (·.2)) (kvs.map (·.2))
  | .ns es => ∃ mA : Str → Option Value, h.Ns1 a mA ∧ ∀ x, (match es.lookup x with
    | some d => ∃ v, mA x = some v ∧ Rep R ρ d v
    | none => mA x = none)

theorem CellIs.mono {w : World} {R R' : Addr → Option Obj} {ρ ρ' : Nat → Option Addr} {h h' : Heap} {a : Addr} (hk : ∀ o, h.get? a = some o → h'.get? a = some o) (hR : ∀ a o, R a = some o → R' a = some o) (hρ : ∀ n a, ρ n = some a → ρ' n = some a) :
    ∀ {c : Cell}, CellIs w R ρ h a c → CellIs w R' ρ' h' a c
  | .list ds, ⟨vs, k, hg, hr⟩ => ⟨vs, k, hk _ hg, RepAll.mono hR hρ ds vs hr⟩
  | .dict es, ⟨kvs, ⟨o, hg⟩, hd, he, hr⟩ => ⟨kvs, ⟨o, hk o hg⟩, fun prog => by
      refine ex3 (hd prog) fun o es' ep q__128_1 => an2 q__128_1 fun ho r => ?_
      exact ⟨o, es', ep, hk _ ho, r⟩, he, RepAll.mono hR hρ _ _ hr⟩
  | .ns es, ⟨mA, hn, hm⟩ => ⟨mA, by
      revert hn; intro z__131
      refine ex3 (z__131) fun o es' ep q__131_1 => an2 q__131_1 fun ho r => ?_
      clear z__131
      exact ⟨o, es', ep, hk _ ho, r⟩, fun x => by
      have := hm x
      cases q : es.lookup x with
      | none => rw [q] at this; exact this
      | some d => rw [q] at this; obtain ⟨v, h1, h2⟩ := this; exact ⟨v, h1, Rep.mono hR hρ d v h2⟩⟩

theorem CellIs.there {w : World} {R : Addr → Option Obj} {ρ : Nat → Option Addr} {h : Heap} {a : Addr} : ∀ {c : Cell}, CellIs w R ρ h a c → ∃ o, h.get? a = some o
  | .list _, ⟨_, _, hg, _⟩ => ⟨_, hg⟩
  | .dict _, ⟨_, ho, _⟩ => ho
  | .ns _, ⟨_, ⟨o, _, _, ho, _⟩, _⟩ => ⟨o, ho⟩

theorem ns_at {h h' : Heap} {a : Addr} {m : Str → Option Value} (hn : h.Ns a m) (k : ∀ o, h.get? a = some o → h'.get? a = some o) : h'.Ns a m := by
  revert hn; intro z__144
  refine ex3 (z__144) fun o es ep q__144_1 => an2 q__144_1 fun ho r => ?_
  clear z__144
  exact ⟨o, es, ep, k o ho, r⟩
theorem ns_there {h : Heap} {a : Addr} {m : Str → Option Value} (hn : h.Ns a m) : ∃ o, h.get? a = some o := by
  revert hn; intro z__147
  refine ex3 (z__147) fun o es ep q__147_1 => an2 q__147_1 fun ho r => ?_
  clear z__147
  exact ⟨o, ho⟩

structure Sim (h₀ : H0) (W : Wd) (s : Shared) : Prop where
  base : ∀ b o, h₀.h.get? b = some o → W.R b = some o
  frz : ∀ b o, W.R b = some o → s.heap.get? b = some o
  cel : ∀ n c, W.st.cs n = some c → ∃ a, W.ρ n = some a ∧ CellIs h₀.w W.R W.ρ s.heap a c
  dis : ∀ n a, W.ρ n = some a → W.R a = none ∧ ∃ o, s.heap.get? a = some o
  inj : ∀ n k a, W.ρ n = some a → W.ρ k = some a → n = k
  dom : ∀ n a, W.ρ n = some a → n < W.st.hi
  fr : ∀ b, W.fr b → W.R b = none ∧ (∀ n, W.ρ n ≠ some b) ∧ ∃ mv, s.heap.Ns b mv

structure Step (own : Addr → Prop) (s : Shared) (W : Wd) (s' : Shared) (W' : Wd) : Prop where
  rest : s'.gens = s.gens ∧ s'.os = s.os ∧ s'.drawn = s.drawn
  keep : ∀ b o, s.heap.get? b = some o → (∀ n, W.ρ n = some b → W.st.cs n = none) → ¬ own b → ¬ W.fr b → s'.heap.get? b = some o
  kfr : ∀ b o, s.heap.get? b = some o → W.fr b → ¬ own b → ∃ sl, s'.heap.get? b = some { o with slots := sl }
  live : ∀ b o, s.heap.get? b = some o → ∃ o', s'.heap.get? b = some o'
  extR : ∀ b o, s.heap.get? b = some o → W'.R b = W.R b
  extF : ∀ b o, s.heap.get? b = some o → (W'.fr b ↔ W.fr b)
  rho : ∀ n a, W.ρ n = some a → W'.ρ n = some a
  new : ∀ n a, W'.ρ n = some a → W.ρ n = some a ∨ s.heap.get? a = none
  hi : W.st.hi ≤ W'.st.hi
  hid : ∀ n, n < W.st.hi → W.st.cs n = none → W'.st.cs n = none

noncomputable def noOwn : Addr → Prop := fun _ => False

theorem Step.refl {own : Addr → Prop} (s : Shared) (W : Wd) : Step own s W s W where
  rest := ⟨rfl, rfl, rfl⟩
  keep := fun _ _ e _ _ _ => e
  kfr := fun _ o e _ _ => ⟨o.slots, e⟩
  live := fun _ o e => ⟨o, e⟩
  extR := fun _ _ _ => rfl
  extF := fun _ _ _ => Iff.rfl
  rho := fun _ _ e => e
  new := fun _ _ e => .inl e
  hi := Nat.le_refl _
  hid := fun _ _ e => e

theorem Step.trans {own : Addr → Prop} {h₀ : H0} {s s1 s2 : Shared} {W W1 W2 : Wd} (S : Sim h₀ W s) (x : Step own s W s1 W1) (y : Step own s1 W1 s2 W2) : Step own s W s2 W2 where
  rest := ⟨y.rest.1.trans x.rest.1, y.rest.2.1.trans x.rest.2.1, y.rest.2.2.trans x.rest.2.2⟩
  keep := fun b o e hm ho hf => y.keep b o (x.keep b o e hm ho hf) (fun n hn => by
    rcases x.new n b hn with h | h
    · exact x.hid n (S.dom n b h) (hm n h)
    · rw [h] at e; cases e) ho fun q => hf ((x.extF b o e).mp q)
  kfr := fun b o e hf ho => by
    obtain ⟨sl, e1⟩ := x.kfr b o e hf ho
    obtain ⟨sl', e2⟩ := y.kfr b _ e1 ((x.extF b o e).mpr hf) ho
    exact ⟨sl', e2⟩
  live := fun b o e => let ⟨o', e'⟩ := x.live b o e; y.live b o' e'
  extR := fun b o e => let ⟨o', e'⟩ := x.live b o e; (y.extR b o' e').trans (x.extR b o e)
  extF := fun b o e => let ⟨o', e'⟩ := x.live b o e; (y.extF b o' e').trans (x.extF b o e)
  rho := fun n a e => y.rho n a (x.rho n a e)
  new := fun n a e => by
    rcases y.new n a e with h | h
    · exact x.new n a h
    · right
      cases q : s.heap.get? a with
      | none => rfl
      | some o => obtain ⟨o', e'⟩ := x.live a o q; rw [h] at e'; cases e'
  hi := Nat.le_trans x.hi y.hi
  hid := fun n hn e => y.hid n (Nat.lt_of_lt_of_le hn x.hi) (x.hid n hn e)

theorem Step.wide {own own' : Addr → Prop} {s s' : Shared} {W W' : Wd} (x : Step own s W s' W') (h : ∀ b o, s.heap.get? b = some o → own b → own' b) : Step own' s W s' W' :=
  ⟨x.rest, fun b o e hm ho => x.keep b o e hm fun q => ho (h b o e q), fun b o e hf ho => x.kfr b o e hf fun q => ho (h b o e q), x.live, x.extR, x.extF, x.rho, x.new, x.hi, x.hid⟩

section
variable {own : Addr → Prop} {h₀ : H0} {s s' : Shared} {W W' : Wd}
theorem Step.repR (S : Sim h₀ W s) (x : Step own s W s' W') : ∀ a o, W.R a = some o → W'.R a = some o := fun a o e => (x.extR a o (S.frz a o e)).trans e
theorem Step.rep (S : Sim h₀ W s) (x : Step own s W s' W') {d : D} {v : Value} (h : Rep W.R W.ρ d v) : Rep W'.R W'.ρ d v := Rep.mono (x.repR S) x.rho d v h
theorem Step.repAll (S : Sim h₀ W s) (x : Step own s W s' W') {ds : List D} {vs : List Value} (h : RepAll W.R W.ρ ds vs) : RepAll W'.R W'.ρ ds vs := RepAll.mono (x.repR S) x.rho ds vs h
/-- a frame's names, up to slots -/
theorem Step.nsF (x : Step own s W s' W') {b : Addr} {m : Str → Option Value} (hf : W.fr b) (ho : ¬ own b) (h : s.heap.Ns b m) : s'.heap.Ns b m := by
  revert h; intro z__219
  refine ex3 (z__219) fun o es ep q__219_1 => an2 q__219_1 fun h1 r => ?_
  clear z__219
  obtain ⟨sl, h2⟩ := x.kfr b o h1 hf ho
  exact ⟨_, es, ep, h2, r⟩
theorem Sim.frNo (S : Sim h₀ W s) {b : Addr} {o : Obj} (e : s.heap.get? b = some o) (h : ∀ es ep, o.data ≠ .dict es ep) : ¬ W.fr b := fun q => by
  refine an3 (S.fr b q) fun _ _ q__223_1 => ex4 q__223_1 fun mv o' es ep q__223_2 => an3 q__223_2 fun h1 h2 _ => ?_
  rw [e] at h1; cases h1
  exact h _ _ h2
theorem Sim.frDead (S : Sim h₀ W s) {b : Addr} (e : s.heap.get? b = none) : ¬ W.fr b := fun q => by
  refine an3 (S.fr b q) fun _ _ q__227_1 => ex4 q__227_1 fun mv o' es ep q__227_2 => an2 q__227_2 fun h1 _ => ?_
  rw [e] at h1; cases h1

theorem Sim.toks (S : Sim h₀ W s) (t : Nat) : Sim h₀ W { s with toks := t } := ⟨S.base, S.frz, S.cel, S.dis, S.inj, S.dom, S.fr⟩
theorem Step.toks (s : Shared) (W : Wd) (t : Nat) : Step own s W { s with toks := t } W :=
  ⟨⟨rfl, rfl, rfl⟩, fun _ _ e _ _ _ => e, fun _ o e _ _ => ⟨o.slots, e⟩, fun _ o e => ⟨o, e⟩, fun _ _ _ => rfl, fun _ _ _ => Iff.rfl, fun _ _ e => e, fun _ _ e => .inl e, Nat.le_refl _, fun _ _ e => e⟩

/-- new objects, some of them frozen -/
theorem Sim.ext (S : Sim h₀ W s) {h' : Heap} {tk : Nat} (hk : ∀ b o, s.heap.get? b = some o → h'.get? b = some o) (Rn : Addr → Option Obj)
    (hn : ∀ b o, Rn b = some o → s.heap.get? b = none ∧ h'.get? b = some o) :
    Step own s W { s with heap := h', toks := tk } { W with R := fun b => (Rn b).or (W.R b) } ∧ Sim h₀ { W with R := fun b => (Rn b).or (W.R b) } { s with heap := h', toks := tk } := by
  have none_of : ∀ b o, s.heap.get? b = some o → Rn b = none := fun b o e => by
    cases q : Rn b with
    | none => rfl
    | some o' => rw [(hn b o' q).1] at e; cases e
  have mono : ∀ a o, W.R a = some o → (Rn a).or (W.R a) = some o := fun a o e => by rw [none_of a o (S.frz a o e)]; exact e
  refine ⟨⟨⟨rfl, rfl, rfl⟩, fun b o e _ _ _ => hk b o e, fun b o e _ _ => ⟨o.slots, hk b o e⟩, fun b o e => ⟨o, hk b o e⟩, fun b o e => ?_, fun _ _ _ => Iff.rfl, fun _ _ e => e, fun _ _ e => .inl e, Nat.le_refl _, fun _ _ e => e⟩, ⟨fun b o e => mono b o (S.base b o e), fun b o e => ?_, fun n c e => ?_, fun n a e => ?_, S.inj, S.dom, fun b q => ?_⟩⟩
  · show (Rn b).or (W.R b) = W.R b
    rw [none_of b o e]; rfl
  · have e1 : (Rn b).or (W.R b) = some o := e
    cases q : Rn b with
    | none => rw [q] at e1; exact hk b o (S.frz b o e1)
    | some o' =>
      rw [q] at e1
      have e2 : some o' = some o := e1
      cases e2
      exact (hn b _ q).2
  · obtain ⟨a, ha, hc⟩ := S.cel n c e
    refine ⟨a, ha, ?_⟩
    exact hc.mono (fun o e => hk _ o e) mono fun _ _ e => e
  · obtain ⟨h1, o, h2⟩ := S.dis n a e
    refine ⟨?_, o, hk a o h2⟩
    show (Rn a).or (W.R a) = none
    rw [none_of a o h2, h1]; rfl
  · refine an3 (S.fr b q) fun h1 h2 q__261_1 => ex1 q__261_1 fun mv h3 => ?_
    obtain ⟨o, h4⟩ := ns_there h3
    refine ⟨?_, h2, mv, ns_at h3 fun o e => hk b o e⟩
    show (Rn b).or (W.R b) = none
    rw [none_of b o h4, h1]; rfl

theorem Sim.grow (S : Sim h₀ W s) {h' : Heap} {tk : Nat} (hk : ∀ b o, s.heap.get? b = some o → h'.get? b = some o) :
    Step own s W { s with heap := h', toks := tk } W ∧ Sim h₀ W { s with heap := h', toks := tk } := S.ext hk (fun _ => none) (fun _ _ e => by cases e)

/-- a new tracked cell -/
theorem Sim.trackC (S : Sim h₀ W s) {h' : Heap} {tk : Nat} (hk : ∀ b o, s.heap.get? b = some o → h'.get? b = some o) {a : Addr} {c0 : Cell}
    (ha : s.heap.get? a = none) (hg : CellIs h₀.w W.R W.ρ h' a c0) :
    let W' : Wd := { W with ρ := fun n => if n = W.st.hi then some a else W.ρ n, st := W.st.alloc c0 }
    Step own s W { s with heap := h', toks := tk } W' ∧ Sim h₀ W' { s with heap := h', toks := tk } ∧ W'.ρ W.st.hi = some a := by
  intro W'
  have old : ∀ n b, W.ρ n = some b → W'.ρ n = some b := fun n b e => by
    show (if n = W.st.hi then some a else W.ρ n) = some b
    rw [if_neg (Nat.ne_of_lt (S.dom n b e))]; exact e
  have cases' : ∀ n b, W'.ρ n = some b → (n = W.st.hi ∧ b = a) ∨ W.ρ n = some b := fun n b e => by
    by_cases q : n = W.st.hi
    · left; refine ⟨q, ?_⟩
      have : (if n = W.st.hi then some a else W.ρ n) = some b := e
      rw [if_pos q] at this; exact (Option.some.inj this).symm
    · right
      have : (if n = W.st.hi then some a else W.ρ n) = some b := e
      rwa [if_neg q] at this
  have na : ∀ n, W.ρ n ≠ some a := fun n e => by obtain ⟨_, o, h2⟩ := S.dis n a e; rw [ha] at h2; cases h2
  refine ⟨⟨⟨rfl, rfl, rfl⟩, fun b o e _ _ _ => hk b o e, fun b o e _ _ => ⟨o.slots, hk b o e⟩, fun b o e => ⟨o, hk b o e⟩, fun _ _ _ => rfl, fun _ _ _ => Iff.rfl, old, fun n b e => ?_, Nat.le_succ _, fun n hn e => ?_⟩, ⟨S.base, fun b o e => hk b o (S.frz b o e), fun n c e => ?_, fun n b e => ?_, fun n k' b e1 e2 => ?_, fun n b e => ?_, fun b q => ?_⟩, ?_⟩
  · rcases cases' n b e with ⟨_, rfl⟩ | h
    · exact .inr ha
    · exact .inl h
  · show (if n = W.st.hi then some _ else W.st.cs n) = none
    rw [if_neg (Nat.ne_of_lt hn)]; exact e
  · have e' : (if n = W.st.hi then some c0 else W.st.cs n) = some c := e
    by_cases q : n = W.st.hi
    · rw [if_pos q] at e'; cases e'
      exact ⟨a, by show (if n = W.st.hi then some a else W.ρ n) = some a; rw [if_pos q], hg.mono (fun _ e => e) (fun _ _ e => e) old⟩
    · rw [if_neg q] at e'
      obtain ⟨b, hb, hc⟩ := S.cel n c e'
      refine ⟨b, old n b hb, ?_⟩
      exact hc.mono (fun o e => hk _ o e) (fun _ _ e => e) old
  · rcases cases' n b e with ⟨_, rfl⟩ | h
    · refine ⟨?_, hg.there⟩
      cases q : W.R b with
      | none => rfl
      | some o => have := S.frz b o q; rw [ha] at this; cases this
    · obtain ⟨h1, o, h2⟩ := S.dis n b h; exact ⟨h1, o, hk b o h2⟩
  · rcases cases' n b e1 with ⟨q1, r1⟩ | h1
    · rcases cases' k' b e2 with ⟨q2, _⟩ | h2
      · rw [q1, q2]
      · exact absurd (r1 ▸ h2) (na k')
    · rcases cases' k' b e2 with ⟨_, r2⟩ | h2
      · exact absurd (r2 ▸ h1) (na n)
      · exact S.inj n k' b h1 h2
  · rcases cases' n b e with ⟨q, _⟩ | h
    · rw [q]; exact Nat.lt_succ_self _
    · exact Nat.lt_succ_of_lt (S.dom n b h)
  · refine an3 (S.fr b q) fun h1 h2 q__318_1 => ex1 q__318_1 fun mv h3 => ?_
    refine ⟨h1, fun n e => ?_, mv, ns_at h3 fun o e => hk b o e⟩
    rcases cases' n b e with ⟨_, z⟩ | h
    · exact S.frDead ha (z ▸ q)
    · exact h2 n h
  · show (if W.st.hi = W.st.hi then some a else W.ρ W.st.hi) = some a
    rw [if_pos rfl]
theorem Sim.track (S : Sim h₀ W s) {h' : Heap} {tk : Nat} (hk : ∀ b o, s.heap.get? b = some o → h'.get? b = some o) {a : Addr} {vs : List Value} {k : Nat} {ds : List D}
    (ha : s.heap.get? a = none) (hg : h'.get? a = some (lstO vs k)) (hr : RepAll W.R W.ρ ds vs) :
    let W' : Wd := { W with ρ := fun n => if n = W.st.hi then some a else W.ρ n, st := W.st.alloc (.list ds) }
    Step own s W { s with heap := h', toks := tk } W' ∧ Sim h₀ W' { s with heap := h', toks := tk } ∧ W'.ρ W.st.hi = some a := S.trackC (c0 := .list ds) hk ha ⟨vs, k, hg, hr⟩

/-- a tracked cell is changed -/
theorem Sim.putC (S : Sim h₀ W s) {h' : Heap} {tk n : Nat} {a : Addr} {c c0 : Cell} (hρ : W.ρ n = some a) (hc : W.st.cs n = some c)
    (hs : ∀ b o, b ≠ a → s.heap.get? b = some o → h'.get? b = some o) (hg : CellIs h₀.w W.R W.ρ h' a c0) :
    let W' : Wd := { W with st := W.st.put n c0 }
    Step own s W { s with heap := h', toks := tk } W' ∧ Sim h₀ W' { s with heap := h', toks := tk } := by
  intro W'
  have Ra : W.R a = none := (S.dis n a hρ).1
  have Fa : ¬ W.fr a := fun q => (S.fr a q).2.1 n hρ
  refine ⟨⟨⟨rfl, rfl, rfl⟩, fun b o e hm _ _ => hs b o (fun q => ?_) e, fun b o e hf _ => ⟨o.slots, hs b o (fun q => Fa (q ▸ hf)) e⟩, fun b o e => ?_, fun _ _ _ => rfl, fun _ _ _ => Iff.rfl, fun _ _ e => e, fun _ _ e => .inl e, Nat.le_refl _, fun j hj e => ?_⟩, ⟨S.base, fun b o e => hs b o (fun q => ?_) (S.frz b o e), fun j c' e => ?_, fun j b e => ?_, S.inj, S.dom, fun b q => ?_⟩⟩
  · rw [q] at hm; have := hm n hρ; rw [hc] at this; cases this
  · by_cases q : b = a
    · subst q; exact hg.there
    · exact ⟨o, hs b o q e⟩
  · show (if j = n then some _ else W.st.cs j) = none
    by_cases q : j = n
    · rw [q, hc] at e; cases e
    · rw [if_neg q]; exact e
  · rw [q, Ra] at e; cases e
  · have e' : (if j = n then some c0 else W.st.cs j) = some c' := e
    by_cases q : j = n
    · rw [if_pos q] at e'; cases e'
      exact ⟨a, q ▸ hρ, hg⟩
    · rw [if_neg q] at e'
      obtain ⟨b, hb, hc'⟩ := S.cel j c' e'
      refine ⟨b, hb, ?_⟩
      have nb : b ≠ a := fun x => q (S.inj j n a (x ▸ hb) hρ)
      exact hc'.mono (fun o e => hs _ o nb e) (fun _ _ e => e) fun _ _ e => e
  · obtain ⟨h1, o, h2⟩ := S.dis j b e
    refine ⟨h1, ?_⟩
    by_cases q : b = a
    · subst q; exact hg.there
    · exact ⟨o, hs b o q h2⟩
  · refine an3 (S.fr b q) fun h1 h2 q__362_1 => ex1 q__362_1 fun mv h3 => ?_
    exact ⟨h1, h2, mv, ns_at h3 fun o e => hs b o (fun z => Fa (z ▸ q)) e⟩
theorem Sim.put (S : Sim h₀ W s) {h' : Heap} {tk n : Nat} {a : Addr} {c : Cell} {vs : List Value} {k : Nat} {ds : List D} (hρ : W.ρ n = some a) (hc : W.st.cs n = some c)
    (hs : ∀ b o, b ≠ a → s.heap.get? b = some o → h'.get? b = some o) (hg : h'.get? a = some (lstO vs k)) (hr : RepAll W.R W.ρ ds vs) :
    let W' : Wd := { W with st := W.st.put n (.list ds) }
    Step own s W { s with heap := h', toks := tk } W' ∧ Sim h₀ W' { s with heap := h', toks := tk } := S.putC (c0 := .list ds) hρ hc hs ⟨vs, k, hg, hr⟩
end

/-- own objects change (a frame's names) -/
theorem Sim.ownStep {own : Addr → Prop} {h₀ : H0} {s : Shared} {W : Wd} (S : Sim h₀ W s) {h' : Heap} {tk : Nat} {a : Addr} (ha : own a) (hR : W.R a = none) (hρ : ∀ n, W.ρ n ≠ some a)
    (hs : ∀ b o, b ≠ a → s.heap.get? b = some o → h'.get? b = some o) (hl : ∃ o, h'.get? a = some o) (hF : W.fr a → ∃ mv, h'.Ns a mv) :
    Step own s W { s with heap := h', toks := tk } W ∧ Sim h₀ W { s with heap := h', toks := tk } := by
  refine ⟨⟨⟨rfl, rfl, rfl⟩, fun b o e _ no _ => hs b o (fun q => no (q ▸ ha)) e, fun b o e _ no => ⟨o.slots, hs b o (fun q => no (q ▸ ha)) e⟩, fun b o e => ?_, fun _ _ _ => rfl, fun _ _ _ => Iff.rfl, fun _ _ e => e, fun _ _ e => .inl e, Nat.le_refl _, fun _ _ e => e⟩, ⟨S.base, fun b o e => hs b o (fun q => ?_) (S.frz b o e), fun n c e => ?_, fun n b e => ?_, S.inj, S.dom, fun b q => ?_⟩⟩
  · by_cases q : b = a
    · exact q ▸ hl
    · exact ⟨o, hs b o q e⟩
  · rw [q, hR] at e; cases e
  · obtain ⟨b, hb, hc⟩ := S.cel n c e
    refine ⟨b, hb, ?_⟩
    exact hc.mono (fun o e => hs _ o (fun q => hρ n (q ▸ hb)) e) (fun _ _ e => e) fun _ _ e => e
  · obtain ⟨h1, o, h2⟩ := S.dis n b e
    exact ⟨h1, o, hs _ _ (fun q => hρ n (q ▸ e)) h2⟩
  · refine an3 (S.fr b q) fun h1 h2 q__384_1 => ex1 q__384_1 fun mv h3 => ?_
    refine ⟨h1, h2, ?_⟩
    by_cases z : b = a
    · subst z; exact hF q
    · exact ⟨mv, ns_at h3 fun o e => hs b o z e⟩

/-- fewer cells are looked at -/
theorem Sim.hide {h₀ : H0} {s : Shared} {W : Wd} (S : Sim h₀ W s) (p : Nat → Bool) : Sim h₀ { W with st := W.st.hide p } s where
  base := S.base
  frz := S.frz
  cel := fun n c e => by
    have e' : (if p n then none else W.st.cs n) = some c := e
    cases q : p n with
    | true => rw [q] at e'; cases e'
    | false => rw [q] at e'; exact S.cel n c e'
  dis := S.dis
  inj := S.inj
  dom := S.dom
  fr := S.fr

end Mine
end

section
set_option autoImplicit false
namespace Mine
open PySem

noncomputable def E0 : Value → Shared → Prop := fun _ _ => False

section
variable (prog : Program) (w : World) (A : Around) (h₀ : H0)
noncomputable def Fin' (own : Addr → Prop) {α : Type} (s : Shared) (W : Wd) (post : α → Wd → Shared → Prop) : α → Shared → Prop :=
  fun v s' => ∃ W', Step own s W s' W' ∧ Sim h₀ W' s' ∧ post v W' s'
noncomputable def OK (own : Addr → Prop) {α : Type} (t : Sem α) (W : Wd) (s : Shared) (post : α → Wd → Shared → Prop) : Prop :=
  wpAny (model prog w) A t (Fin' h₀ own s W post) E0 s
end

noncomputable def VP (Q : D → St → Prop) : Value → Wd → Shared → Prop := fun v W _ => ∃ d, Rep W.R W.ρ d v ∧ Q d W.st
noncomputable def VPs (Q : List D → St → Prop) : List Value → Wd → Shared → Prop := fun vs W _ => ∃ ds, RepAll W.R W.ρ ds vs ∧ Q ds W.st
noncomputable def BP (K : Bool → St → Prop) : Bool → Wd → Shared → Prop := fun b W _ => K b W.st

section
variable {prog : Program} {w : World} {A : Around} {h₀ : H0} {own : Addr → Prop} {α β : Type} {W : Wd} {s : Shared}

theorem OK.pure {a : α} {post : α → Wd → Shared → Prop} (S : Sim h₀ W s) (h : post a W s) : OK prog w A h₀ own (Pure.pure a) W s post :=
  wpAny_pure ⟨W, Step.refl s W, S, h⟩
theorem OK.mono {t : Sem α} {P P' : α → Wd → Shared → Prop} (h : OK prog w A h₀ own t W s P) (k : ∀ v W' s', Step own s W s' W' → Sim h₀ W' s' → P v W' s' → P' v W' s') : OK prog w A h₀ own t W s P' :=
  wpAny_mono h (fun v s' ⟨W', a, b, c⟩ => ⟨W', a, b, k v W' s' a b c⟩) fun _ _ e => e
theorem OK.bind {t : Sem α} {f : α → Sem β} {P : α → Wd → Shared → Prop} {post : β → Wd → Shared → Prop} (S : Sim h₀ W s) (h : OK prog w A h₀ own t W s P)
    (k : ∀ v W1 s1, Step own s W s1 W1 → Sim h₀ W1 s1 → P v W1 s1 → OK prog w A h₀ own (f v) W1 s1 post) : OK prog w A h₀ own (t >>= f) W s post :=
  wpAny_bind (wpAny_mono h (fun v s1 ⟨W1, a, b, c⟩ => wpAny_mono (k v W1 s1 a b c) (fun r s' ⟨W', a', b', c'⟩ => ⟨W', a.trans S a', b', c'⟩) fun _ _ e => e) fun _ _ e => e)
theorem OK.after {t : Sem α} {s1 : Shared} {W1 : Wd} {post : α → Wd → Shared → Prop} (S : Sim h₀ W s) (x : Step own s W s1 W1)
    (h : OK prog w A h₀ own t W1 s1 post) : wpAny (model prog w) A t (Fin' h₀ own s W post) E0 s1 :=
  wpAny_mono h (fun r s' ⟨W', a', b', c'⟩ => ⟨W', x.trans S a', b', c'⟩) fun _ _ e => e
theorem OK.holding {vs : List Value} {t : Sem α} {post : α → Wd → Shared → Prop} (h : OK prog w A h₀ own t W s post) : OK prog w A h₀ own (holding vs t) W s post := wpAny_holding h
theorem OK.operate {vs : List Value} {t : Sem Value} {post : Value → Wd → Shared → Prop} (h : OK prog w A h₀ own t W s post) : OK prog w A h₀ own (operate vs t) W s post :=
  fun Γ p hΓ => by rw [Sem.wp_operate]; exact h Γ p hΓ
/-- nested form, as the library's rules want it -/
theorem OK.nest {t : Sem α} {T : α → Sem β} {P : α → Wd → Shared → Prop} {post : β → Wd → Shared → Prop} (S : Sim h₀ W s) (h : OK prog w A h₀ own t W s P)
    (k : ∀ v W1 s1, Step own s W s1 W1 → Sim h₀ W1 s1 → P v W1 s1 → OK prog w A h₀ own (T v) W1 s1 post) :
    wpAny (model prog w) A t (fun v s1 => wpAny (model prog w) A (T v) (Fin' h₀ own s W post) E0 s1) E0 s :=
  wpAny_mono h (fun v s1 ⟨W1, a, b, c⟩ => OK.after S a (k v W1 s1 a b c)) fun _ _ e => e
end

/-- the value of a name in a frame -/
noncomputable def NameH (h : Heap) (env : Env) (x : Str) (v : Value) : Prop :=
  (env.kindOf x = some .local ∧ ∃ mv, h.Ns env.locals mv ∧ mv x = some v) ∨
  ((env.kindOf x = some .cell ∨ env.kindOf x = some .free) ∧ ∃ c, env.cells.lookup x = some c ∧ h.IsCell c (some v))

structure Fram (own : Addr → Prop) (env : Env) (kd : Kd) (m : Loc) (W : Wd) (s : Shared) : Prop where
  fn : env.scope.kind = .function
  gl : env.globals = mainGlobals
  bi : env.builtins = builtinsNs
  kE : ∀ x k, kd x = some k → k ≠ .free → env.kindOf x = some k
  dbg : kd "__debug__" = none ∧ kd "__classdict__" = none
  nm : ∀ x d, m x = some d → kd x ≠ none ∧ ∃ v, NameH s.heap env x v ∧ Rep W.R W.ρ d v
  ns : ∃ mv, s.heap.Ns env.locals mv
  cl : ∀ x c, env.cells.lookup x = some c → (∃ v, s.heap.IsCell c v) ∧ c ≠ env.locals ∧ ∀ n, W.ρ n ≠ some c
  ci : ∀ x y c, env.cells.lookup x = some c → env.cells.lookup y = some c → x = y
  lo : own env.locals ∧ W.R env.locals = none ∧ ∀ n, W.ρ n ≠ some env.locals
  co : ∀ x, kd x = some .cell → ∃ c, env.cells.lookup x = some c ∧ own c ∧ W.R c = none
  kF : ∀ x, kd x = some .free → (env.kindOf x = some .cell ∨ env.kindOf x = some .free) ∧ ∃ c, env.cells.lookup x = some c

section
variable {own : Addr → Prop} {env : Env} {kd : Kd} {m : Loc} {W W' : Wd} {s s' : Shared} {h₀ : H0}

theorem NameH.at {h h' : Heap} {x : Str} {v : Value} (H : NameH h env x v) (hl : ∀ mv, h.Ns env.locals mv → h'.Ns env.locals mv)
    (hc : ∀ c o, env.cells.lookup x = some c → h.get? c = some o → h'.get? c = some o) : NameH h' env x v := by
  rcases H with ⟨k, mv, hn, hx⟩ | ⟨k, c, hx, o, ho, r⟩
  · exact .inl ⟨k, mv, hl mv hn, hx⟩
  · exact .inr ⟨k, c, hx, o, hc c o hx ho, r⟩

/-- a frame that nobody touches -/
theorem Fram.step {own' : Addr → Prop} (S : Sim h₀ W s) (F : Fram own env kd m W s) (x : Step own' s W s' W') (hd : ¬ own' env.locals ∧ ∀ y c, env.cells.lookup y = some c → ¬ own' c) : Fram own env kd m W' s' := by
  obtain ⟨mv, hns⟩ := F.ns
  obtain ⟨o, ho⟩ := ns_there hns
  have kl : ∀ mv, s.heap.Ns env.locals mv → s'.heap.Ns env.locals mv := fun mv e => by
    by_cases q : W.fr env.locals
    · exact x.nsF q hd.1 e
    · exact ns_at e fun o e => x.keep _ o e (fun n q => absurd q (F.lo.2.2 n)) hd.1 q
  have kc : ∀ y c o, env.cells.lookup y = some c → s.heap.get? c = some o → s'.heap.get? c = some o := fun y c o q e => x.keep _ o e (fun n q' => absurd q' ((F.cl y c q).2.2 n)) (hd.2 y c q) (S.frNo e (by
    obtain ⟨⟨v, o', e', r'⟩, _⟩ := F.cl y c q
    rw [e] at e'; cases e'; rw [r']; exact fun _ _ z => nomatch z))
  have lv : ∀ y c, env.cells.lookup y = some c → ∃ o, s.heap.get? c = some o := fun y c q => by obtain ⟨⟨v, o, e, _⟩, _⟩ := F.cl y c q; exact ⟨o, e⟩
  refine ⟨F.fn, F.gl, F.bi, F.kE, F.dbg, fun y d e => ?_, ⟨mv, kl mv hns⟩, fun y c q => ?_, F.ci, ⟨F.lo.1, ?_, fun n q => ?_⟩, fun y e => ?_, F.kF⟩
  · refine an2 (F.nm y d e) fun h1 q__92_1 => ex1 q__92_1 fun v q__92_2 => an2 q__92_2 fun h2 h3 => ?_
    exact ⟨h1, v, h2.at kl (fun c o q e => kc y c o q e), x.rep S h3⟩
  · obtain ⟨⟨v, o', e', r'⟩, h2, h3⟩ := F.cl y c q
    refine ⟨⟨v, o', kc y c o' q e', r'⟩, h2, fun n q' => ?_⟩
    rcases x.new n c q' with h | h
    · exact h3 n h
    · rw [e'] at h; cases h
  · rw [x.extR _ o ho]; exact F.lo.2.1
  · rcases x.new n _ q with h | h
    · exact F.lo.2.2 n h
    · rw [ho] at h; cases h
  · refine ex1 (F.co y e) fun c q__103_1 => an3 q__103_1 fun h1 h2 h3 => ?_
    obtain ⟨o', e'⟩ := lv y c h1
    exact ⟨c, h1, h2, by rw [x.extR _ o' e']; exact h3⟩

theorem Fram.step0 (S : Sim h₀ W s) (F : Fram own env kd m W s) (x : Step noOwn s W s' W') : Fram own env kd m W' s' := F.step S x ⟨id, fun _ _ _ => id⟩

theorem Fram.forget (F : Fram own env kd m W s) {m' : Loc} (h : ∀ x d, m' x = some d → m x = some d) : Fram own env kd m' W s :=
  ⟨F.fn, F.gl, F.bi, F.kE, F.dbg, fun x d e => F.nm x d (h x d e), F.ns, F.cl, F.ci, F.lo, F.co, F.kF⟩
theorem Fram.st (F : Fram own env kd m W s) (st' : St) : Fram own env kd m { W with st := st' } s :=
  ⟨F.fn, F.gl, F.bi, F.kE, F.dbg, F.nm, F.ns, F.cl, F.ci, F.lo, F.co, F.kF⟩
end

section
variable {prog : Program} {w : World} {A : Around} {h₀ : H0} {own : Addr → Prop} {env : Env} {kd : Kd} {m : Loc} {W : Wd} {s : Shared}

theorem ok_load {x : Str} {d : D} {Q : D → St → Prop} (S : Sim h₀ W s) (F : Fram own env kd m W s) (hx : m x = some d) (h : Q d W.st) :
    OK prog w A h₀ noOwn (loadName env x) W s (VP Q) := by
  refine an2 (F.nm x d hx) fun hk q__120_1 => ex1 q__120_1 fun v q__120_2 => an2 q__120_2 fun H hr => ?_
  have fin : Fin' h₀ noOwn s W (VP Q) v s := ⟨W, Step.refl s W, S, d, hr, h⟩
  rcases H with ⟨k, mv, hns, hv⟩ | ⟨k, c, hc, hv⟩
  · exact wpAny_loadName_local F.fn k hns hv fin
  · rcases k with k | k
    · exact wpAny_loadName_cell F.fn k hc hv fin
    · refine wpAny_loadName_free F.fn k hc hv fin ?_
      cases q : x == ("__classdict__" : Str) with
      | false => rfl
      | true => rw [beq_iff_eq.mp q] at hk; exact absurd F.dbg.2 hk

theorem ok_store {x : Str} {d : D} {v : Value} (S : Sim h₀ W s) (F : Fram own env kd m W s) (hx : isOwn kd x = true) (hr : Rep W.R W.ρ d v) :
    OK prog w A h₀ own (storeName env x v) W s (fun _ W' s' => W' = W ∧ Fram own env kd (upd m x d) W s') := by
  have hx' : kd x = some .local ∨ kd x = some .cell := by
    unfold isOwn at hx
    rcases Bool.or_eq_true_iff.mp hx with q | q
    · exact .inl (beq_iff_eq.mp q)
    · exact .inr (beq_iff_eq.mp q)
  have hkn : kd x ≠ none := by rcases hx' with q | q <;> rw [q] <;> exact fun z => nomatch z
  rcases hx' with hk | hk
  · have hkE := F.kE x _ hk (by intro z; cases z)
    obtain ⟨mv, hns⟩ := F.ns
    refine wpAny_storeName_local hkE hns (fun h' hn' hs' => ?_) (by rw [F.fn]; rfl)
    have ext : ∀ b o, b ≠ env.locals → s.heap.get? b = some o → h'.get? b = some o := fun b o q e => (hs'.2 b q).trans e
    have lv : ∃ o, h'.get? env.locals = some o := let ⟨o, _, _, ho, _⟩ := hn'; ⟨o, ho⟩
    obtain ⟨st, sm⟩ := S.ownStep (own := own) (tk := s.toks + 1) F.lo.1 F.lo.2.1 F.lo.2.2 ext lv fun _ => ⟨_, hn'⟩
    refine ⟨W, st, sm, rfl, F.fn, F.gl, F.bi, F.kE, F.dbg, fun y e he => ?_, ⟨_, hn'⟩, fun y c q => ?_, F.ci, F.lo, F.co, F.kF⟩
    · by_cases q : y = x
      · subst q
        have he' : some d = some e := by have : (if y = y then some d else m y) = some e := he; rwa [if_pos rfl] at this
        cases he'
        exact ⟨hkn, v, .inl ⟨hkE, _, hn', by simp⟩, hr⟩
      · have he' : m y = some e := by have : (if y = x then some d else m y) = some e := he; rwa [if_neg q] at this
        refine an2 (F.nm y e he') fun h1 q__153_1 => ex1 q__153_1 fun u q__153_2 => an2 q__153_2 fun H hu => ?_
        refine ⟨h1, u, ?_, hu⟩
        rcases H with ⟨k, mv', hns', hv'⟩ | ⟨k, c, hc, o, ho, r⟩
        · refine .inl ⟨k, _, hn', ?_⟩
          show (if y = x then some v else mv y) = some u
          rw [if_neg q]
          have : mv' = mv := by
            revert hns'; intro z__160
            refine ex3 (z__160) fun o1 es1 ep1 q__160_1 => an4 q__160_1 fun ho1 hd1 _ hf1 => ?_
            clear z__160
            revert hns; intro z__161
            refine ex3 (z__161) fun o2 es2 ep2 q__161_1 => an4 q__161_1 fun ho2 hd2 _ hf2 => ?_
            clear z__161
            rw [ho1] at ho2; cases ho2
            rw [hd1] at hd2; cases hd2
            funext z; rw [← hf1 z, hf2 z]
          rw [← this]; exact hv'
        · exact .inr ⟨k, c, hc, o, ext c o (F.cl y c hc).2.1 ho, r⟩
    · obtain ⟨⟨u, o, ho, r⟩, h2, h3⟩ := F.cl y c q
      exact ⟨⟨u, o, ext c o h2 ho, r⟩, h2, h3⟩
  · have hkE := F.kE x _ hk (by intro z; cases z)
    refine ex1 (F.co x hk) fun c q__170_1 => an3 q__170_1 fun hc hoc hRc => ?_
    obtain ⟨⟨v0, hcell⟩, hcl, hcr⟩ := F.cl x c hc
    refine wpAny_storeName_cell F.fn hkE hc hcell (fun h' hn' hs' => ?_)
    have ext : ∀ b o, b ≠ c → s.heap.get? b = some o → h'.get? b = some o := fun b o q e => (hs'.2 b q).trans e
    have lv : ∃ o, h'.get? c = some o := let ⟨o, ho, _⟩ := hn'; ⟨o, ho⟩
    obtain ⟨st, sm⟩ := S.ownStep (own := own) (tk := s.toks) hoc hRc hcr ext lv fun q => by
      obtain ⟨o, e, r⟩ := hcell
      exact absurd q (S.frNo e (by rw [r]; exact fun _ _ z => nomatch z))
    refine ex4 (F.ns) fun mv o0 es0 ep0 q__178_1 => an2 q__178_1 fun ho0 r0 => ?_
    refine ⟨W, st, sm, rfl, F.fn, F.gl, F.bi, F.kE, F.dbg, fun y e he => ?_, ⟨mv, o0, es0, ep0, ext _ _ hcl.symm ho0, r0⟩, fun y c' q => ?_, F.ci, F.lo, F.co, F.kF⟩
    · by_cases q : y = x
      · subst q
        have he' : some d = some e := by have : (if y = y then some d else m y) = some e := he; rwa [if_pos rfl] at this
        cases he'
        exact ⟨hkn, v, .inr ⟨.inl hkE, c, hc, hn'⟩, hr⟩
      · have he' : m y = some e := by have : (if y = x then some d else m y) = some e := he; rwa [if_neg q] at this
        refine an2 (F.nm y e he') fun h1 q__186_1 => ex1 q__186_1 fun u q__186_2 => an2 q__186_2 fun H hu => ?_
        refine ⟨h1, u, ?_, hu⟩
        refine H.at (fun mv e => ns_at e fun o e => ext _ o hcl.symm e) (fun c' o q' e => ext _ o (fun z => q (F.ci y x c (z ▸ q') hc)) e)
    · obtain ⟨⟨u, o, ho, r⟩, h2, h3⟩ := F.cl y c' q
      refine ⟨?_, h2, h3⟩
      by_cases z : c' = c
      · exact ⟨_, z ▸ hn'⟩
      · exact ⟨u, o, ext c' o z ho, r⟩

theorem ok_bind_name {x : Str} {d : D} {v : Value} (S : Sim h₀ W s) (F : Fram own env kd m W s) (hx : isOwn kd x = true) (hr : Rep W.R W.ρ d v) :
    OK prog w A h₀ own (bindName env x v) W s (fun _ W' s' => W' = W ∧ Fram own env kd (upd m x d) W s') := wpAny_bindName (ok_store S F hx hr)
end

end Mine
end

section
set_option autoImplicit false
set_option linter.unusedVariables false
namespace Mine
open PySem

theorem lim_line : lim ≤ sizeLine := by decide
theorem le_line {n : Nat} (h : n ≤ lim) : n ≤ sizeLine := Nat.le_trans h lim_line

section
variable {h₀ : H0} {W : Wd} {s : Shared}
/-- a tuple's object -/
theorem Sim.tup (S : Sim h₀ W s) {ds : List D} {v : Value} (h : Rep W.R W.ρ (.tup ds) v) : ∃ a vs n, v = .ref a ∧ s.heap.get? a = some (tupO vs n) ∧ RepAll W.R W.ρ ds vs := by
  revert h; intro z__33
  refine ex3 (z__33) fun a vs n q__33_1 => an3 q__33_1 fun e hR hr => ?_
  clear z__33
  exact ⟨a, vs, n, e, S.frz _ _ hR, hr⟩
/-- a list's object, frozen or tracked -/
theorem Sim.lst (S : Sim h₀ W s) {d : D} {ds : List D} {v : Value} (h : Rep W.R W.ρ d v) (hd : lstD W.st d = some ds) : ∃ a vs n, v = .ref a ∧ s.heap.get? a = some (lstO vs n) ∧ RepAll W.R W.ρ ds vs := by
  cases d with
  | list es =>
    simp only [lstD, Option.some.injEq] at hd; subst hd
    revert h; intro z__40
    refine ex3 (z__40) fun a vs n q__40_1 => an3 q__40_1 fun e hR hr => ?_
    clear z__40
    exact ⟨a, vs, n, e, S.frz _ _ hR, hr⟩
  | loc n =>
    obtain ⟨a, ha, e⟩ := h
    simp only [lstD] at hd
    cases hc : W.st.cs n with
    | none => rw [hc] at hd; cases hd
    | some c =>
      rw [hc] at hd
      cases c with
      | dict es => cases hd
      | ns es => cases hd
      | list es =>
        cases hd
        obtain ⟨b, hb, hcell⟩ := S.cel n _ hc
        revert hcell; intro z__55
        refine ex2 (z__55) fun vs k q__55_1 => an2 q__55_1 fun hg hr => ?_
        clear z__55
        rw [ha] at hb; cases hb
        exact ⟨a, vs, k, e, hg, hr⟩
  | _ => simp [lstD] at hd
theorem seqD_cases {st : St} {d : D} {ds : List D} (h : seqD st d = some ds) : d = .tup ds ∨ lstD st d = some ds := by
  cases d with
  | tup es => simp only [seqD, Option.some.injEq] at h; subst h; exact .inl rfl
  | list es => exact .inr h
  | loc n => exact .inr h
  | _ => simp [seqD] at h
theorem Sim.seq (S : Sim h₀ W s) {d : D} {ds : List D} {v : Value} (h : Rep W.R W.ρ d v) (hd : seqD W.st d = some ds) :
    ∃ a vs n T, v = .ref a ∧ (T = "list" ∨ T = "tuple") ∧ s.heap.get? a = some { cls := .type T, dict := none, data := .seq vs.toArray n, slots := #[] } ∧ RepAll W.R W.ρ ds vs := by
  rcases seqD_cases hd with rfl | hd
  · refine ex3 (S.tup h) fun a vs n q__68_1 => an3 q__68_1 fun e hg hr => ?_
    exact ⟨a, vs, n, "tuple", e, .inr rfl, hg, hr⟩
  · refine ex3 (S.lst h hd) fun a vs n q__69_1 => an3 q__69_1 fun e hg hr => ?_
    exact ⟨a, vs, n, "list", e, .inl rfl, hg, hr⟩
end

theorem mapM_some_cons {α β : Type} {f : α → Option β} {a : α} {l : List α} {ys : List β} (h : (a :: l).mapM f = some ys) : ∃ y zs, f a = some y ∧ l.mapM f = some zs ∧ ys = y :: zs := by
  rw [List.mapM_cons] at h
  cases hf : f a with
  | none => rw [hf] at h; cases h
  | some y =>
    rw [hf] at h
    cases hm : l.mapM f with
    | none => rw [hm] at h; cases h
    | some zs => rw [hm] at h; cases h; exact ⟨y, zs, rfl, rfl, rfl⟩

section
variable {h₀ : H0} {W : Wd} {s : Shared}
mutual
theorem py_reads (S : Sim h₀ W s) : ∀ (d : D) (v : Value) (x : PyData), Rep W.R W.ρ d v → d.py = some x → (∃ as, Reads s.heap v x as) ∧ x.canLay0 = true
  | .none, v, x, h, e => by simp only [D.py, Option.some.injEq] at e; subst e; have h' : v = .none := h; subst h'; exact ⟨⟨_, .none⟩, rfl⟩
  | .bool b, v, x, h, e => by simp only [D.py, Option.some.injEq] at e; subst e; have h' : v = .bool b := h; subst h'; exact ⟨⟨_, .bool b⟩, rfl⟩
  | .int i, v, x, h, e => by simp only [D.py, Option.some.injEq] at e; subst e; obtain ⟨t, rfl⟩ := h; exact ⟨⟨_, .int i t⟩, rfl⟩
  | .str y, v, x, h, e => by
    simp only [D.py] at e
    split at e
    · rename_i hs; cases e; obtain ⟨t, rfl⟩ := h; exact ⟨⟨_, .str y t⟩, by simpa [PyData.canLay0] using hs⟩
    · cases e
  | .loc _, _, _, _, e => by simp [D.py] at e
  | .val _, _, _, _, e => by simp [D.py] at e
  | .exc _, _, _, _, e => by simp [D.py] at e
  | .inst _ _, _, _, _, e => by simp [D.py] at e
  | .tup ds, v, x, h, e => by
    simp only [D.py, Option.map_eq_some_iff] at e
    obtain ⟨xs, hx, rfl⟩ := e
    refine ex3 (S.tup h) fun a vs n q__101_1 => an3 q__101_1 fun e__101_3 hg hr => ?_
    subst e__101_3
    obtain ⟨⟨as, ra⟩, hl⟩ := pys_reads S ds vs xs hr hx
    exact ⟨⟨_, .tuple hg rfl rfl (by simpa using ra)⟩, by simpa [PyData.canLay0] using hl⟩
  | .list ds, v, x, h, e => by
    simp only [D.py, Option.map_eq_some_iff] at e
    obtain ⟨xs, hx, rfl⟩ := e
    refine ex3 (S.lst h rfl) fun a vs n q__107_1 => an3 q__107_1 fun e__107_3 hg hr => ?_
    subst e__107_3
    obtain ⟨⟨as, ra⟩, hl⟩ := pys_reads S ds vs xs hr hx
    exact ⟨⟨_, .list hg rfl rfl (by simpa using ra)⟩, by simpa [PyData.canLay0] using hl⟩
theorem pys_reads (S : Sim h₀ W s) : ∀ (ds : List D) (vs : List Value) (xs : List PyData), RepAll W.R W.ρ ds vs → pys ds = some xs → (∃ as, ReadsAll s.heap vs xs as) ∧ PyData.canLayAll0 xs = true
  | [], vs, xs, h, e => by simp only [pys, Option.some.injEq] at e; subst e; have h' : vs = [] := h; subst h'; exact ⟨⟨_, .nil⟩, rfl⟩
  | d :: ds, vs, xs, h, e => by
    revert h; intro z__113
    refine ex2 (z__113) fun v ws q__113_1 => an3 q__113_1 fun e__113_2 hd hr => ?_
    clear z__113
    subst e__113_2
    simp only [pys] at e
    split at e
    · rename_i y ys hy hys
      cases e
      obtain ⟨⟨as, ra⟩, l1⟩ := py_reads S d v y hd hy
      obtain ⟨⟨bs, rb⟩, l2⟩ := pys_reads S ds ws ys hr hys
      exact ⟨⟨_, .cons ra rb⟩, by simp [PyData.canLayAll0, l1, l2]⟩
    · cases e
end
theorem pyD_reads (S : Sim h₀ W s) : ∀ (k : Nat) (d : D) (v : Value) (x : PyData), Rep W.R W.ρ d v → pyD W.st k d = some x → (∃ as, Reads s.heap v x as) ∧ x.canLay0 = true := by
  intro k
  induction k with
  | zero => intro d v x h e; exact py_reads S d v x h e
  | succ k ih =>
    have all : ∀ (ds : List D) (vs : List Value) (xs : List PyData), RepAll W.R W.ρ ds vs → ds.mapM (pyD W.st k) = some xs → (∃ as, ReadsAll s.heap vs xs as) ∧ PyData.canLayAll0 xs = true := by
      intro ds
      induction ds with
      | nil => intro vs xs h e; simp at e; subst e; have h' : vs = [] := h; subst h'; exact ⟨⟨_, .nil⟩, rfl⟩
      | cons d ds ih2 =>
        intro vs xs h e
        revert h; intro z__134
        refine ex2 (z__134) fun v ws q__134_1 => an3 q__134_1 fun e__134_2 hd hr => ?_
        clear z__134
        subst e__134_2
        refine ex2 (mapM_some_cons e) fun y ys q__135_1 => an3 q__135_1 fun hy hys e__135_4 => ?_
        subst e__135_4
        obtain ⟨⟨as, ra⟩, l1⟩ := ih d v y hd hy
        obtain ⟨⟨bs, rb⟩, l2⟩ := ih2 ws ys hr hys
        exact ⟨⟨_, .cons ra rb⟩, by simp [PyData.canLayAll0, l1, l2]⟩
    intro d v x h e
    cases d with
    | loc n =>
      simp only [pyD] at e
      cases hc : W.st.cs n with
      | none => rw [hc] at e; cases e
      | some c =>
        rw [hc] at e
        cases c with
        | dict es => cases e
        | ns es => cases e
        | list ds =>
          simp only [Option.map_eq_some_iff] at e
          obtain ⟨xs, hx, rfl⟩ := e
          refine ex3 (S.lst (d := .loc n) (ds := ds) h (by simp [lstD, hc])) fun a vs n' q__153_1 => an3 q__153_1 fun e__153_3 hg hr => ?_
          subst e__153_3
          obtain ⟨⟨as, ra⟩, hl⟩ := all ds vs xs hr hx
          exact ⟨⟨_, .list hg rfl rfl (by simpa using ra)⟩, by simpa [PyData.canLay0] using hl⟩
    | tup ds =>
      simp only [pyD] at e
      cases hp : D.py (.tup ds) with
      | some y => rw [hp] at e; cases e; exact py_reads S _ v _ h hp
      | none =>
        rw [hp] at e
        simp only [Option.map_eq_some_iff] at e
        obtain ⟨xs, hx, rfl⟩ := e
        refine ex3 (S.tup h) fun a vs n q__164_1 => an3 q__164_1 fun e__164_3 hg hr => ?_
        subst e__164_3
        obtain ⟨⟨as, ra⟩, hl⟩ := all ds vs xs hr hx
        exact ⟨⟨_, .tuple hg rfl rfl (by simpa using ra)⟩, by simpa [PyData.canLay0] using hl⟩
    | list ds =>
      simp only [pyD] at e
      cases hp : D.py (.list ds) with
      | some y => rw [hp] at e; cases e; exact py_reads S _ v _ h hp
      | none =>
        rw [hp] at e
        simp only [Option.map_eq_some_iff] at e
        obtain ⟨xs, hx, rfl⟩ := e
        refine ex3 (S.lst h rfl) fun a vs n q__175_1 => an3 q__175_1 fun e__175_3 hg hr => ?_
        subst e__175_3
        obtain ⟨⟨as, ra⟩, hl⟩ := all ds vs xs hr hx
        exact ⟨⟨_, .list hg rfl rfl (by simpa using ra)⟩, by simpa [PyData.canLay0] using hl⟩
    | none => exact py_reads S _ v x h e
    | bool b => exact py_reads S _ v x h e
    | int i => exact py_reads S _ v x h e
    | str y => exact py_reads S _ v x h e
    | val u => exact py_reads S _ v x h e
    | exc C => exact py_reads S _ v x h e
    | inst C n => exact py_reads S _ v x h e
end

section
variable {prog : Program} {w : World} {A : Around} {h₀ : H0} {W : Wd} {s : Shared} {Q : D → St → Prop}

theorem done_val {d : D} {v : Value} (S : Sim h₀ W s) (hr : Rep W.R W.ρ d v) (h : Q d W.st) (t : Nat) : Fin' h₀ noOwn s W (VP Q) v { s with toks := t } :=
  ⟨W, Step.toks s W t, S.toks t, d, hr, h⟩
theorem done_val' {d : D} {v : Value} (S : Sim h₀ W s) (hr : Rep W.R W.ρ d v) (h : Q d W.st) : Fin' h₀ noOwn s W (VP Q) v s := ⟨W, Step.refl s W, S, d, hr, h⟩

/-- a new frozen object -/
theorem done_new {h' : Heap} {tk : Nat} {a : Addr} {o : Obj} {d : D} (S : Sim h₀ W s) (hk : ∀ b o, s.heap.get? b = some o → h'.get? b = some o) (ha : s.heap.get? a = none) (hg : h'.get? a = some o)
    (hr : ∀ R', R' a = some o → (∀ b o, W.R b = some o → R' b = some o) → Rep R' W.ρ d (.ref a)) (h : Q d W.st) :
    Fin' h₀ noOwn s W (VP Q) (.ref a) { s with heap := h', toks := tk } := by
  obtain ⟨st, sm⟩ := S.ext (own := noOwn) (tk := tk) hk (fun b => if b = a then some o else none) (fun b o' e => by
    by_cases q : b = a
    · rw [if_pos q] at e; cases e; subst q; exact ⟨ha, hg⟩
    · rw [if_neg q] at e; cases e)
  refine ⟨_, st, sm, d, hr _ ?_ ?_, h⟩
  · show ((if a = a then some o else none).or (W.R a)) = some o
    rw [if_pos rfl]; rfl
  · intro b o' e
    show ((if b = a then some o else none).or (W.R b)) = some o'
    rw [if_neg (fun q => by subst q; rw [S.frz _ _ e] at ha; cases ha)]; exact e
theorem get_size (h : Heap) : h.get? h.objs.size = none := by
  cases q : h.get? h.objs.size with
  | none => rfl
  | some o => exact absurd (Heap.lt_size q) (Nat.lt_irrefl _)

theorem done_tup {h' : Heap} {tk : Nat} {a : Addr} {n : Nat} {ds : List D} {vs : List Value} (S : Sim h₀ W s) (hk : ∀ b o, s.heap.get? b = some o → h'.get? b = some o) (ha : s.heap.get? a = none)
    (hg : h'.get? a = some (tupO vs n)) (hr : RepAll W.R W.ρ ds vs) (h : Q (.tup ds) W.st) : Fin' h₀ noOwn s W (VP Q) (.ref a) { s with heap := h', toks := tk } :=
  done_new (d := .tup ds) S hk ha hg (fun R' h1 h2 => ⟨a, vs, n, rfl, h1, RepAll.mono h2 (fun _ _ e => e) ds vs hr⟩) h
theorem done_list {trk : Bool} {h' : Heap} {tk : Nat} {a : Addr} {n : Nat} {ds : List D} {vs : List Value} (S : Sim h₀ W s) (hk : ∀ b o, s.heap.get? b = some o → h'.get? b = some o) (ha : s.heap.get? a = none)
    (hg : h'.get? a = some (lstO vs n)) (hr : RepAll W.R W.ρ ds vs) (h : mkList trk ds W.st Q) : Fin' h₀ noOwn s W (VP Q) (.ref a) { s with heap := h', toks := tk } := by
  obtain ⟨_, h⟩ := h
  cases trk with
  | false => exact done_new (d := .list ds) S hk ha hg (fun R' h1 h2 => ⟨a, vs, n, rfl, h1, RepAll.mono h2 (fun _ _ e => e) ds vs hr⟩) h
  | true =>
    obtain ⟨st, sm, e⟩ := S.track (own := noOwn) (tk := tk) hk ha hg hr
    exact ⟨_, st, sm, .loc W.st.hi, ⟨a, e, rfl⟩, h⟩

theorem ok_newTuple {ds : List D} {vs : List Value} (S : Sim h₀ W s) (hr : RepAll W.R W.ρ ds vs) (hl : ds.length ≤ lim) (h : Q (.tup ds) W.st) : OK prog w A h₀ noOwn (newTuple vs) W s (VP Q) :=
  wpAny_newTuple (done_tup (n := 0) (tk := s.toks) S (fun b o e => Heap.get?_push_of_some _ e) (get_size _) (Heap.get?_push_size _ rfl) hr h) (by rw [hr.length]; exact le_line hl)
theorem ok_newList {trk : Bool} {ds : List D} {vs : List Value} (S : Sim h₀ W s) (hr : RepAll W.R W.ρ ds vs) (h : mkList trk ds W.st Q) : OK prog w A h₀ noOwn (newList vs) W s (VP Q) :=
  wpAny_newList (done_list (n := 0) (tk := s.toks) S (fun b o e => Heap.get?_push_of_some _ e) (get_size _) (Heap.get?_push_size _ rfl) hr h) (by rw [hr.length]; exact le_line h.1)

theorem ok_const {env : Env} {c : Const} (S : Sim h₀ W s) (h : match c with
      | .none => Q .none W.st
      | .bool b => Q (.bool b) W.st
      | .int i => Q (.int i) W.st
      | .str x => Q (.str x) W.st
      | _ => False) : OK prog w A h₀ noOwn (constValue env c) W s (VP Q) := by
  cases c with
  | none => exact OK.pure S ⟨.none, rfl, h⟩
  | bool b => exact OK.pure S ⟨.bool b, rfl, h⟩
  | int i => exact wpAny_mkInt (done_val (d := .int i) S ⟨_, rfl⟩ h _)
  | str x => exact wpAny_mkText (done_val (d := .str x) S ⟨_, rfl⟩ h _)
  | _ => exact h.elim

theorem fmod_eq {i j : Int} (h : 0 < j) : i.fmod j = i % j := by rw [Int.fmod_eq_emod_of_nonneg _ (Int.le_of_lt h)]
theorem fdiv_eq {i j : Int} (h : 0 < j) : i.fdiv j = i / j := by rw [Int.fdiv_eq_ediv_of_nonneg _ (Int.le_of_lt h)]
theorem noPylong {i j : Int} (h0 : 0 < j) (h : j < 2 ^ 30) : Builtin.divisionGoesByPylong i j = false := by
  unfold Builtin.divisionGoesByPylong
  have h1 : ¬ (j == 0) = true := by simp; omega
  have h2 : j.natAbs < 2 ^ 30 := by omega
  have h3 : j.natAbs.log2 < 30 := (Nat.log2_lt (by omega)).mpr h2
  have h4 : j.natAbs.log2 / 30 = 0 := Nat.div_eq_of_lt h3
  simp [h1, h4]
end
end Mine
end

section
set_option autoImplicit false
set_option linter.unusedVariables false
set_option maxRecDepth 100000
namespace Mine
open PySem
theorem noFill_tuple_mul : fillsNumberSlot (.type "tuple") "mul" = pure false :=
  fillsNumberSlot_seq (id := "tuple.__mul__") (r := some (.builtin "tuple.__rmul__")) F.slot_tuple_mul.lookup (by decide +kernel) F.slot_tuple_rmul.lookup (by decide +kernel)
theorem repeat_tuple : seqRepeat? (.type "tuple") = pure (some (.builtin "tuple.__mul__")) := by
  unfold seqRepeat?
  rw [seqSlot_of (T := "tuple") (name := "__mul__") (id := "tuple.__mul__") F.slot_tuple_mul.lookup (by decide +kernel)]
  rfl
theorem int_rmul_tuple (a : Int) (t : Tok) (l : Addr) (items : Array Value) (n : Nat) :
    Meets (Builtin.«int.__rmul__» ⟨[.int a t, .ref l], []⟩) (fun _ R s => s.heap.get? l = some { cls := .type "tuple", dict := none, data := .seq items n, slots := #[] } ∧ R (.ok (.ret Value.notImplemented)) s) :=
  .of_wp fun prog w A R s h => by obtain ⟨hp, g, d, tk, os⟩ := s; obtain ⟨hl, h⟩ := h; wp_walk; exact ⟨_, rfl, h⟩
theorem tuple_mul_new (l : Addr) (items : Array Value) (n : Nat) (x : Int) (u : Tok) (h0 : items.size = 1) (h1 : (x == 1) = false) (hlo : -1000000 ≤ x) (hhi : x ≤ 1000000) :
    Meets (Builtin.«tuple.__mul__» ⟨[.ref l, .int x u], []⟩) (fun _ R s => s.heap.get? l = some { cls := .type "tuple", dict := none, data := .seq items n, slots := #[] } ∧
      R (.ok (.ret (.ref s.heap.objs.size))) { s with heap := s.heap.push { cls := .type "tuple", data := .seq ((List.replicate x.toNat items).foldl (· ++ ·) #[]) } }) :=
  .of_wp fun prog w A R s h => by
    obtain ⟨hp, g, d, tk, os⟩ := s; obtain ⟨hl, h⟩ := h
    have hT : PyProof.Rows.IsTup (Shared.heap ⟨hp, g, d, tk, os⟩) l items := ⟨_, hl, rfl, n, rfl⟩
    show wpAny _ _ (asIndex (.int x u) >>= _) _ _ _
    refine wpAny_bind (wpAny_of_eq (a := x) rfl ?_)
    rw [if_neg (by simp; omega)]
    refine wpAny_bind (PyProof.Rows.tupleItemsOf_ hT ?_)
    have hne : items.isEmpty = false := by unfold Array.isEmpty; rw [h0]; rfl
    rw [hne, h1]
    show wpAny _ _ (if (decide (x ≤ 0) || false) = true then _ else _) _ _ _
    by_cases q : x ≤ 0
    · rw [if_pos (by simp [q])]
      have e : x.toNat = 0 := by omega
      rw [e] at h
      exact wpAny_bind (m := Builtin.Tuple.tupleExact _) (wpAny_newObj_type (wpAny_pure ⟨_, rfl, h⟩) (by size_fits))
    · rw [if_neg (by simp [q])]
      have hsz : sizeOk (.seq ((List.replicate x.toNat items).foldl (· ++ ·) #[])) := by
        show ((List.replicate x.toNat items).foldl (· ++ ·) #[]).size ≤ sizeLine
        have gen : ∀ (k : Nat) (acc : Array Value), ((List.replicate k items).foldl (· ++ ·) acc).size = acc.size + k * items.size := by
          intro k
          induction k with
          | zero => intro acc; simp
          | succ k ih => intro acc; rw [List.replicate_succ, List.foldl_cons, ih, Array.size_append, Nat.add_mul, Nat.one_mul]; omega
        rw [gen, h0]
        simp [sizeLine]; omega
      show wpAny _ _ (if ((items.size : Nat) : Int) * x > (2 ^ 63 - 1) / 8 then _ else _) _ _ _
      rw [if_neg (by rw [h0]; omega)]
      show wpAny _ _ (if Builtin.Tuple.tupleTooMany (((items.size : Nat) : Int) * x) = true then _ else _) _ _ _
      rw [if_neg (by rw [h0]; simp [Builtin.Tuple.tupleTooMany, sizeLine]; omega)]
      exact wpAny_bind (m := Builtin.Tuple.tupleExact _) (wpAny_newObj_type (wpAny_pure ⟨_, rfl, h⟩) hsz)
theorem tuple_mul_same (l : Addr) (items : Array Value) (n : Nat) (u : Tok) :
    Meets (Builtin.«tuple.__mul__» ⟨[.ref l, .int 1 u], []⟩) (fun _ R s => s.heap.get? l = some { cls := .type "tuple", dict := none, data := .seq items n, slots := #[] } ∧ R (.ok (.ret (.ref l))) s) :=
  .of_wp fun prog w A R s h => by
    obtain ⟨hp, g, d, tk, os⟩ := s; obtain ⟨hl, h⟩ := h
    have hT : PyProof.Rows.IsTup (Shared.heap ⟨hp, g, d, tk, os⟩) l items := ⟨_, hl, rfl, n, rfl⟩
    show wpAny _ _ (asIndex (.int 1 u) >>= _) _ _ _
    refine wpAny_bind (wpAny_of_eq (a := 1) rfl ?_)
    rw [if_neg (by decide)]
    refine wpAny_bind (PyProof.Rows.tupleItemsOf_ hT ?_)
    rw [if_pos (by simp)]
    wp_walk
    exact ⟨_, rfl, h⟩
section
variable {prog : Program} {w : World} {A : Around} {s : Shared} {E : Value → Shared → Prop}
theorem mul_tuple {l : Addr} {items : Array Value} {k : Nat} {x : Int} {u : Tok} {Q : Value → Shared → Prop} (hl : s.heap.get? l = some { cls := .type "tuple", dict := none, data := .seq items k, slots := #[] }) (h0 : items.size = 1) (hlo : -1000000 ≤ x) (hhi : x ≤ 1000000)
    (h1 : x = 1 → Q (.ref l) s) (h2 : x ≠ 1 → Q (.ref s.heap.objs.size) { s with heap := s.heap.push { cls := .type "tuple", data := .seq ((List.replicate x.toNat items).foldl (· ++ ·) #[]) } }) :
    wpAny (model prog w) A (binaryOp .Mult (.ref l) (.int x u)) Q E s := by
  refine wpAny_binaryOp_repeat_ref (T := "tuple") (U := "int") (by decide) ⟨_, hl, rfl⟩ (fun s' => typeIs_int s' x u) noFill_tuple_mul F.fills_int_mul F.slot_int_rmul repeat_tuple F.slot_int_index.lookup
    (call_meets F.slot_int_rmul (typeIs_int s x u) F.entry_int_rmul (F.args_int_rmul_2 _ _) (int_rmul_tuple x u l items k) ⟨hl, rfl, ⟨_, hl, rfl⟩, ?_⟩)
  by_cases q : x = 1
  · subst q
    exact call_meets F.slot_tuple_mul ⟨_, hl, rfl⟩ F.entry_tuple_mul (F.args_tuple_mul_2 _ _) (tuple_mul_same l items k u) ⟨hl, h1 rfl⟩
  · exact call_meets F.slot_tuple_mul ⟨_, hl, rfl⟩ F.entry_tuple_mul (F.args_tuple_mul_2 _ _) (tuple_mul_new l items k x u h0 (by simpa using q) hlo hhi) ⟨hl, h2 q⟩
end
end Mine
end

section
set_option autoImplicit false
set_option linter.unusedVariables false
namespace Mine
open PySem

structure AOk (k : Nat) (A : Around) : Prop where
  dp : A.depth + k < 990
  un : A.units + 8 * k < 8000

section
variable {prog : Program} {w : World} {A : Around} {h₀ : H0} {W : Wd} {s : Shared} {Q : D → St → Prop}

theorem mul_any {E : Value → Shared → Prop} {l : Addr} {items : Array Value} {k : Nat} {x : Int} {u : Tok} {Q : Value → Shared → Prop} (hl : IsL s.heap l items k)
    (hlo : -(2 ^ 63 : Int) ≤ x) (hhi : x < 2 ^ 63) (hsz : items.size * x.toNat ≤ 2 ^ 24)
    (h : Q (.ref s.heap.objs.size) { s with heap := s.heap.push { cls := .type "list", data := .seq (List.foldl (fun x1 x2 => x1 ++ x2) #[] (List.replicate (if items.isEmpty = true then 0 else x.toNat) items)) } }) :
    wpAny (model prog w) A (binaryOp .Mult (.ref l) (.int x u)) Q E s :=
  wpAny_binaryOp_repeat_ref (T := "list") (U := "int") (by decide) ⟨_, hl, rfl⟩ (fun s' => typeIs_int s' x u) noFill_list_mul F.fills_int_mul F.slot_int_rmul repeat_list F.slot_int_index.lookup
    (call_meets F.slot_int_rmul (typeIs_int s x u) F.entry_int_rmul (F.args_int_rmul_2 _ _) (int___rmul___int_list x u l items k)
      ⟨hl, rfl, ⟨_, hl, rfl⟩, call_meets F.slot_list_mul ⟨_, hl, rfl⟩ F.entry_list_mul (F.args_list_mul_2 _ _)
        (AutoListH.list___mul___list_int_3 l items k x u (by simp [Builtin.List.listFitsIndex]; omega) (by omega) (by simp [Builtin.List.listTooLong, sizeLine]; omega)) ⟨hl, h⟩⟩)

theorem fold_toList (n : Nat) (items : Array Value) : (List.foldl (fun x1 x2 => x1 ++ x2) #[] (List.replicate n items)).toList = (List.replicate n items.toList).flatten := by
  have gen : ∀ (n : Nat) (acc : Array Value), (List.foldl (fun x1 x2 => x1 ++ x2) acc (List.replicate n items)).toList = acc.toList ++ (List.replicate n items.toList).flatten := by
    intro n
    induction n with
    | zero => intro acc; simp
    | succ n ih => intro acc; rw [List.replicate_succ, List.foldl_cons, ih]; simp [List.replicate_succ]
  rw [gen]; simp
theorem repAll_rep {R : Addr → Option Obj} {ρ : Nat → Option Addr} {ds : List D} {vs : List Value} (h : RepAll R ρ ds vs) (n : Nat) : RepAll R ρ (List.replicate n ds).flatten (List.replicate n vs).flatten := by
  induction n with
  | zero => rfl
  | succ n ih => simp only [List.replicate_succ, List.flatten_cons]; exact h.append ih

theorem emp_of {vs : List Value} (h : vs.toArray.isEmpty = true) : vs = [] := by simpa using h
theorem fold_arr (k : Nat) (vs : List Value) : (List.replicate k vs.toArray).foldl (· ++ ·) #[] = (List.replicate k vs).flatten.toArray := Array.toList_inj.mp (fold_toList k vs.toArray)
theorem fold_if (k : Nat) (vs : List Value) : (List.replicate (if vs.toArray.isEmpty = true then 0 else k) vs.toArray).foldl (· ++ ·) #[] = (List.replicate k vs.toArray).foldl (· ++ ·) #[] := by
  by_cases q : vs.toArray.isEmpty = true
  · have := emp_of q; subst this
    rw [if_pos q, fold_arr, fold_arr, List.replicate_zero]
    have : ∀ k : Nat, (List.replicate k ([] : List Value)).flatten = [] := fun k => by simp
    rw [this]; rfl
  · rw [if_neg q]
theorem pos_ne {j : Int} (h : 0 < j) : ¬ (j == 0) = true := fun e => Int.lt_irrefl 0 ((beq_iff_eq.mp e) ▸ h)
theorem ii_of {a b : D} {K : Int → Int → Prop} (h : ii a b K) : ∃ i j, a = .int i ∧ b = .int j ∧ K i j := by
  cases a with
  | int i => cases b with
    | int j => exact ⟨i, j, rfl, rfl, h⟩
    | _ => exact False.elim h
  | _ => exact False.elim h

theorem add_tup {xs ys : List D} {va vb : Value} (S : Sim h₀ W s) (ra : Rep W.R W.ρ (.tup xs) va) (rb : Rep W.R W.ρ (.tup ys) vb) (hl : xs.length + ys.length ≤ lim) (h : Q (.tup (xs ++ ys)) W.st) : OK prog w A h₀ noOwn (binaryOp .Add va vb) W s (VP Q) := by
  refine ex3 (S.tup ra) fun t1 vs n q__60_1 => an3 q__60_1 fun e__60_3 hg hr => ?_
  subst e__60_3
  refine ex3 (S.tup rb) fun t2 vs2 n2 q__61_1 => an3 q__61_1 fun e__61_3 hg2 hr2 => ?_
  subst e__61_3
  have hl1 := hr.length; have hl2 := hr2.length
  have sz : vs.toArray.size + vs2.toArray.size ≤ sizeLine := by rw [List.size_toArray, List.size_toArray, hl1, hl2]; exact le_line hl
  by_cases e1 : vs.toArray.isEmpty = true
  · have e0 : vs = [] := emp_of e1
    have e1' : xs = [] := List.length_eq_zero_iff.mp (by rw [← hl1, e0]; rfl)
    subst e1'
    exact concat_meets ⟨_, hg, rfl⟩ ⟨_, hg2, rfl⟩ noFill_tuple_add seq_tuple_add F.slot_tuple_add F.entry_tuple_add (F.args_tuple_add_2 _ _) (AutoSeq1.tuple___add___tuple_tuple_0 t1 _ n t2 _ n2 e1)
      ⟨hg, hg2, done_val' (d := .tup ([] ++ ys)) S rb h⟩
  · by_cases e2 : vs2.toArray.isEmpty = true
    · have e0 : vs2 = [] := emp_of e2
      have e2' : ys = [] := List.length_eq_zero_iff.mp (by rw [← hl2, e0]; rfl)
      subst e2'
      refine concat_meets ⟨_, hg, rfl⟩ ⟨_, hg2, rfl⟩ noFill_tuple_add seq_tuple_add F.slot_tuple_add F.entry_tuple_add (F.args_tuple_add_2 _ _) (AutoSeq1.tuple___add___tuple_tuple_1 t1 _ n t2 _ n2 e1 e2) ⟨hg, hg2, done_val' (d := .tup (xs ++ [])) S (by rw [List.append_nil]; exact ra) h⟩
    · refine P.add_tuple hg hg2 e1 e2 ?_ sz
      refine done_tup (n := 0) (tk := s.toks) S (fun b o e => Heap.get?_push_of_some _ e) (get_size _) (vs := vs ++ vs2) ?_ (hr.append hr2) h
      rw [List.append_toArray]; exact Heap.get?_push_size _ rfl
theorem add_lst {trk : Bool} {a b : D} {va vb : Value} (S : Sim h₀ W s) (ra : Rep W.R W.ρ a va) (rb : Rep W.R W.ρ b vb) (h : ∃ xs ys, lstD W.st a = some xs ∧ lstD W.st b = some ys ∧ mkList trk (xs ++ ys) W.st Q) : OK prog w A h₀ noOwn (binaryOp .Add va vb) W s (VP Q) := by
  revert h; intro z__79
  refine ex2 (z__79) fun xs ys q__79_1 => an3 q__79_1 fun hx hy h => ?_
  clear z__79
  refine ex3 (S.lst ra hx) fun l vs n q__80_1 => an3 q__80_1 fun e__80_3 hg hr => ?_
  subst e__80_3
  refine ex3 (S.lst rb hy) fun l2 vs2 n2 q__81_1 => an3 q__81_1 fun e__81_3 hg2 hr2 => ?_
  subst e__81_3
  refine P.add_list hg hg2 ?_ (by have h3 := h.1; rw [List.length_append] at h3; rw [List.size_toArray, List.size_toArray, hr.length, hr2.length]; exact le_line h3)
  refine done_list (n := 0) (tk := s.toks) S (fun b o e => Heap.get?_push_of_some _ e) (get_size _) (vs := vs ++ vs2) ?_ (hr.append hr2) h
  rw [List.append_toArray]; exact Heap.get?_push_size _ rfl
theorem ok_add {trk : Bool} {a b : D} {va vb : Value} (S : Sim h₀ W s) (ra : Rep W.R W.ρ a va) (rb : Rep W.R W.ρ b vb) (h : wAdd trk a b W.st Q) : OK prog w A h₀ noOwn (binaryOp .Add va vb) W s (VP Q) := by
  cases a with
  | int i => cases b with
    | int j =>
      obtain ⟨t, rfl⟩ := ra; obtain ⟨u, rfl⟩ := rb
      exact P.add_int (done_val (d := .int _) S ⟨_, rfl⟩ h _)
    | _ => exact False.elim h
  | tup xs => cases b with
    | tup ys => exact add_tup S ra rb h.1 h.2
    | _ => exact False.elim h
  | _ => exact add_lst S ra rb h

theorem rep_lim {n : Int} (hm : -lim ≤ n) (hn : n < lim) : -(2 ^ 63 : Int) ≤ n ∧ n < 2 ^ 63 ∧ n.toNat ≤ 1000000 := by
  have h1 : -(1000000 : Int) ≤ n := hm
  have h2 : n < 1000000 := hn
  omega
theorem mul_tup {xs : List D} {n : Int} {va vb : Value} (S : Sim h₀ W s) (ra : Rep W.R W.ρ (.tup xs) va) (rb : Rep W.R W.ρ (.int n) vb) (hm : -lim ≤ n) (hn : n < lim) (h1 : xs.length = 1) (h : Q (.tup (List.replicate n.toNat xs).flatten) W.st) : OK prog w A h₀ noOwn (binaryOp .Mult va vb) W s (VP Q) := by
  obtain ⟨u, rfl⟩ := rb
  refine ex3 (S.tup ra) fun l vs k q__103_1 => an3 q__103_1 fun e__103_3 hg hr => ?_
  subst e__103_3
  refine mul_tuple hg (by rw [List.size_toArray, hr.length, h1]) hm (Int.le_of_lt hn) (fun e => ?_) fun q => ?_
  · subst e
    have e1 : (List.replicate (1 : Int).toNat xs).flatten = xs := List.append_nil _
    rw [e1] at h
    exact done_val' (d := .tup xs) S ra h
  · refine done_tup (n := 0) (tk := s.toks) S (fun b o e => Heap.get?_push_of_some _ e) (get_size _) (vs := (List.replicate n.toNat vs).flatten) ?_ (repAll_rep hr _) h
    rw [fold_arr]; exact Heap.get?_push_size _ rfl
theorem mul_lst {trk : Bool} {a : D} {n : Int} {va vb : Value} (S : Sim h₀ W s) (ra : Rep W.R W.ρ a va) (rb : Rep W.R W.ρ (.int n) vb) (h : ∃ xs, lstD W.st a = some xs ∧ -lim ≤ n ∧ n < lim ∧ xs.length ≤ 1 ∧ mkList trk (List.replicate n.toNat xs).flatten W.st Q) : OK prog w A h₀ noOwn (binaryOp .Mult va vb) W s (VP Q) := by
  obtain ⟨u, rfl⟩ := rb
  revert h; intro z__113
  refine ex1 (z__113) fun xs q__113_1 => an5 q__113_1 fun hx hm hn h1 h => ?_
  clear z__113
  refine ex3 (S.lst ra hx) fun l vs k q__114_1 => an3 q__114_1 fun e__114_3 hg hr => ?_
  subst e__114_3
  obtain ⟨g1, g2, g3⟩ := rep_lim hm hn
  refine mul_any hg g1 g2 (Nat.le_trans (Nat.mul_le_mul (by rw [List.size_toArray, hr.length]; exact h1) g3) (by decide)) ?_
  refine done_list (n := 0) (tk := s.toks) S (fun b o e => Heap.get?_push_of_some _ e) (get_size _) (vs := (List.replicate n.toNat vs).flatten) ?_ (repAll_rep hr _) h
  rw [fold_if, fold_arr]; exact Heap.get?_push_size _ rfl
theorem ok_mul {trk : Bool} {a b : D} {va vb : Value} (S : Sim h₀ W s) (ra : Rep W.R W.ρ a va) (rb : Rep W.R W.ρ b vb) (h : wMul trk a b W.st Q) : OK prog w A h₀ noOwn (binaryOp .Mult va vb) W s (VP Q) := by
  cases b with
  | int n => cases a with
    | int i =>
      obtain ⟨t, rfl⟩ := ra; obtain ⟨u, rfl⟩ := rb
      exact P.mul_int (done_val (d := .int _) S ⟨_, rfl⟩ h.2 _) h.1
    | tup xs => exact mul_tup S ra rb h.1 h.2.1 h.2.2.1 h.2.2.2
    | _ => exact mul_lst S ra rb h
  | _ => exact False.elim h

theorem ok_bin {trk : Bool} {op : Operator} {a b : D} {va vb : Value} (S : Sim h₀ W s) (ra : Rep W.R W.ρ a va) (rb : Rep W.R W.ρ b vb) (h : wBin trk op a b W.st Q) : OK prog w A h₀ noOwn (binaryOp op va vb) W s (VP Q) := by
  cases op with
  | Add => exact ok_add S ra rb h
  | Mult => exact ok_mul S ra rb h
  | Sub =>
    obtain ⟨i, j, rfl, rfl, h⟩ := ii_of h
    obtain ⟨t, rfl⟩ := ra; obtain ⟨u, rfl⟩ := rb
    exact P.sub_int (done_val (d := .int _) S ⟨_, rfl⟩ h _)
  | FloorDiv =>
    obtain ⟨i, j, rfl, rfl, h0, h1, h⟩ := ii_of h
    obtain ⟨t, rfl⟩ := ra; obtain ⟨u, rfl⟩ := rb
    refine AutoIntOpsIf.floordiv ?_
    rw [if_neg (pos_ne h0), if_neg (by rw [noPylong h0 h1]; exact Bool.false_ne_true), fdiv_eq h0]
    exact done_val (d := .int _) S ⟨_, rfl⟩ h _
  | Mod =>
    obtain ⟨i, j, rfl, rfl, h0, h⟩ := ii_of h
    obtain ⟨t, rfl⟩ := ra; obtain ⟨u, rfl⟩ := rb
    refine AutoIntOpsIf.mod ?_
    rw [if_neg (pos_ne h0), fmod_eq h0]
    exact done_val (d := .int _) S ⟨_, rfl⟩ h _
  | Pow =>
    obtain ⟨i, j, rfl, rfl, e1, e2, hq⟩ := ii_of h
    subst e1; subst e2
    obtain ⟨t, rfl⟩ := ra; obtain ⟨u, rfl⟩ := rb
    refine AutoIntOpsIf.pow ?_
    rw [if_pos (by decide), if_neg (by decide), if_neg (by decide), if_neg (by decide), if_neg (by decide)]
    exact done_val (d := .int _) S ⟨_, rfl⟩ hq _
  | _ => exact False.elim h

theorem ok_truthy {d : D} {v : Value} {b : Bool} {K : Bool → St → Prop} (S : Sim h₀ W s) (hr : Rep W.R W.ρ d v) (ht : truth d = some b) (h : K b W.st) : OK prog w A h₀ noOwn (truthy v) W s (BP K) := by
  cases d with
  | bool c => simp only [truth, Option.some.injEq] at ht; subst ht; have hv : v = .bool c := hr; subst hv; exact wpAny_truthy_bool ⟨W, Step.refl s W, S, h⟩
  | _ => simp [truth] at ht

theorem ok_un {op : UnaryOp} {a : D} {va : Value} (S : Sim h₀ W s) (ra : Rep W.R W.ρ a va) (h : wUn op a W.st Q) : OK prog w A h₀ noOwn (unaryOp op va) W s (VP Q) := by
  cases op with
  | USub =>
    cases a with
    | int i => obtain ⟨t, rfl⟩ := ra; exact P.neg_int (done_val (d := .int _) S ⟨_, rfl⟩ h _)
    | _ => exact h.elim
  | Not =>
    obtain ⟨b, ht, h⟩ := h
    refine PyProof.Rows.not_of ?_
    exact wpAny_mono (ok_truthy (prog := prog) (w := w) (A := A) (K := fun b st => Q (.bool (!b)) st) S ra ht h) (fun b s' ⟨W', x, y, z⟩ => ⟨W', x, y, .bool (!b), rfl, z⟩) fun _ _ e => e
  | _ => exact h.elim
end
end Mine
end

section
set_option autoImplicit false
set_option linter.unusedVariables false
namespace Mine
open PySem

section
variable {prog : Program} {w : World} {A : Around} {h₀ : H0} {W : Wd} {s : Shared} {Q : D → St → Prop}

noncomputable def CP (W : Wd) (K : Bool → Prop) : Value → Wd → Shared → Prop := fun v W' _ => W' = W ∧ ∃ r, v = .bool r ∧ K r

theorem cmp_done {r : Bool} {K : Bool → Prop} (S : Sim h₀ W s) (h : K r) : Fin' h₀ noOwn s W (CP W K) (.bool r) s := ⟨W, Step.refl s W, S, rfl, r, rfl, h⟩
theorem room_ok {k : Nat} (a : AOk k A) {x y : PyData} (h : deepOk x y) : A.units + min x.depth y.depth < cLine := by
  have h1 := a.un
  have h2 : min x.depth y.depth ≤ 1000 := h
  show A.units + min x.depth y.depth < 9900
  omega

theorem ok_eqD {k : Nat} {a b : D} {va vb : Value} {K : Bool → Prop} (a1 : AOk k A) (S : Sim h₀ W s) (ra : Rep W.R W.ρ a va) (rb : Rep W.R W.ρ b vb) (h : eqD a b W.st K) :
    OK prog w A h₀ noOwn (compareOp .Eq va vb) W s (CP W K) := by
  revert h; intro z__26
  refine ex2 (z__26) fun x y q__26_1 => an4 q__26_1 fun hx hy hd h => ?_
  clear z__26
  obtain ⟨⟨as, r1⟩, l1⟩ := pyD_reads S 3 a va x ra hx
  obtain ⟨⟨bs, r2⟩, l2⟩ := pyD_reads S 3 b vb y rb hy
  exact SeqAt.compareEq_reads r1 r2 l1 l2 (room_ok a1 hd) (cmp_done S h)
theorem ok_neD {k : Nat} {a b : D} {va vb : Value} {K : Bool → Prop} (a1 : AOk k A) (S : Sim h₀ W s) (ra : Rep W.R W.ρ a va) (rb : Rep W.R W.ρ b vb) (h : eqD a b W.st fun r => K (!r)) :
    OK prog w A h₀ noOwn (compareOp .NotEq va vb) W s (CP W K) := by
  revert h; intro z__32
  refine ex2 (z__32) fun x y q__32_1 => an4 q__32_1 fun hx hy hd h => ?_
  clear z__32
  obtain ⟨⟨as, r1⟩, l1⟩ := pyD_reads S 3 a va x ra hx
  obtain ⟨⟨bs, r2⟩, l2⟩ := pyD_reads S 3 b vb y rb hy
  exact SeqAt.compareNe_reads r1 r2 l1 l2 (room_ok a1 hd) (cmp_done S h)
theorem wEq_of {a b : D} {K : Bool → Prop} {st : St} (h : wEq a b st K) : (∃ i j, a = .int i ∧ b = .int j ∧ K (i == j)) ∨ (∃ x y, a = .str x ∧ b = .str y ∧ K (x == y)) ∨ eqD a b st K := by
  cases a with
  | int i => cases b with
    | int j => exact .inl ⟨i, j, rfl, rfl, h⟩
    | _ => exact .inr (.inr h)
  | str i => cases b with
    | str j => exact .inr (.inl ⟨i, j, rfl, rfl, h⟩)
    | _ => exact .inr (.inr h)
  | _ => exact .inr (.inr h)
theorem ok_eq {k : Nat} {a b : D} {va vb : Value} {K : Bool → Prop} (a1 : AOk k A) (S : Sim h₀ W s) (ra : Rep W.R W.ρ a va) (rb : Rep W.R W.ρ b vb) (h : wEq a b W.st K) :
    OK prog w A h₀ noOwn (compareOp .Eq va vb) W s (CP W K) := by
  rcases wEq_of h with ⟨i, j, rfl, rfl, h⟩ | ⟨i, j, rfl, rfl, h⟩ | h
  · obtain ⟨t, rfl⟩ := ra; obtain ⟨u, rfl⟩ := rb
    exact P.eq_int (cmp_done S h)
  · obtain ⟨t, rfl⟩ := ra; obtain ⟨u, rfl⟩ := rb
    exact PyProof.Rows.eq_str (cmp_done S h)
  · exact ok_eqD a1 S ra rb h
theorem ok_ne {k : Nat} {a b : D} {va vb : Value} {K : Bool → Prop} (a1 : AOk k A) (S : Sim h₀ W s) (ra : Rep W.R W.ρ a va) (rb : Rep W.R W.ρ b vb) (h : wEq a b W.st fun r => K (!r)) :
    OK prog w A h₀ noOwn (compareOp .NotEq va vb) W s (CP W K) := by
  rcases wEq_of h with ⟨i, j, rfl, rfl, h⟩ | ⟨i, j, rfl, rfl, h⟩ | h
  · obtain ⟨t, rfl⟩ := ra; obtain ⟨u, rfl⟩ := rb
    exact P.ne_int (cmp_done S h)
  · obtain ⟨t, rfl⟩ := ra; obtain ⟨u, rfl⟩ := rb
    exact PyProof.Rows.ne_str (cmp_done S h)
  · exact ok_neD a1 S ra rb h

theorem mapM_get {α β : Type} {f : α → Option β} : ∀ {l : List α} {ys : List β}, l.mapM f = some ys → ys.length = l.length ∧ ∀ (i : Nat) (a : α), l[i]? = some a → ∃ y, ys[i]? = some y ∧ f a = some y
  | [], ys, h => by simp at h; subst h; exact ⟨rfl, fun i a e => by simp at e⟩
  | a :: l, ys, h => by
    refine ex2 (mapM_some_cons h) fun y zs q__65_1 => an3 q__65_1 fun h1 h2 e__65_4 => ?_
    subst e__65_4
    obtain ⟨h3, h4⟩ := mapM_get h2
    refine ⟨by simp [h3], fun i b e => ?_⟩
    cases i with
    | zero => simp at e; subst e; exact ⟨y, rfl, h1⟩
    | succ i => simpa using h4 i b (by simpa using e)

open Classical in
theorem in_facts {k : Nat} {a b : D} {va : Value} {K : Bool → Prop} (a1 : AOk k A) (S : Sim h₀ W s) (ra : Rep W.R W.ρ a va) (h : wIn a b W.st K) :
    ∃ ys, seqD W.st b = some ys ∧ ∀ vs, RepAll W.R W.ρ ys vs → ∃ e : Value → Bool, (∀ y, y ∈ vs.toArray → SeqAt.EqAt A.in1 s y va (e y)) ∧ K (vs.toArray.any e) := by
  revert h; intro z__75
  refine ex3 (z__75) fun ys x ps q__75_1 => an5 q__75_1 fun hb ha hp hd h => ?_
  clear z__75
  obtain ⟨⟨as, r1⟩, l1⟩ := pyD_reads S 3 a va x ra ha
  refine ⟨ys, hb, fun vs hr => ?_⟩
  obtain ⟨hl, hg⟩ := mapM_get hp
  have each : ∀ (i : Nat) (v : Value), vs[i]? = some v → ∃ p bs, ps[i]? = some p ∧ Reads s.heap v p bs ∧ p.canLay0 = true := by
    intro i v hv
    obtain ⟨d, hd', hrd⟩ := hr.get' i v hv
    obtain ⟨p, hp1, hp2⟩ := hg i d hd'
    obtain ⟨⟨bs, r2⟩, l2⟩ := pyD_reads S 3 d v p hrd hp2
    exact ⟨p, bs, hp1, r2, l2⟩
  let e : Value → Bool := fun v => decide (∃ p bs, Reads s.heap v p bs ∧ p.canLay0 = true ∧ PyData.eqv p x = true)
  have ev : ∀ v p bs, Reads s.heap v p bs → p.canLay0 = true → e v = PyData.eqv p x := by
    intro v p bs r l
    cases q : PyData.eqv p x with
    | true => exact decide_eq_true ⟨p, bs, r, l, q⟩
    | false =>
      refine decide_eq_false ?_
      intro  q__
      refine ex2 (q__) fun p' bs' q__92_1 => an3 q__92_1 fun r' l' q' => ?_
      clear q__
      have : p' = p := SeqAt.Reads.unique p' p v bs' bs l' r' r
      rw [this, q] at q'; cases q'
  refine ⟨e, fun y hy => ?_, ?_⟩
  · have hy' : y ∈ vs := by simpa using hy
    obtain ⟨i, hi, hv⟩ := List.getElem_of_mem hy'
    refine ex2 (each i y (by rw [List.getElem?_eq_getElem hi, hv])) fun p bs q__98_1 => an3 q__98_1 fun _ r l => ?_
    rw [ev y p bs r l]
    refine SeqAt.eqAt_reads p x A.in1 s y va bs as r r1 l l1 ?_
    have h1 := a1.un
    have : min p.depth x.depth ≤ 1000 := Nat.le_trans (Nat.min_le_right _ _) hd
    show A.units + 1 + min p.depth x.depth < 9900
    omega
  · have : vs.toArray.any e = ps.any fun y => PyData.eqv y x := by
      have hlen : vs.length = ps.length := by rw [hl]; exact hr.length
      rw [List.any_toArray]
      have : vs.map e = ps.map fun y => PyData.eqv y x := by
        refine List.ext_getElem (by simp [hlen]) fun i h1 h2 => ?_
        simp only [List.length_map] at h1 h2
        refine ex2 (each i vs[i] (List.getElem?_eq_getElem h1)) fun p bs q__111_1 => an3 q__111_1 fun hp' r l => ?_
        simp only [List.getElem_map]
        rw [ev _ p bs r l]
        rw [List.getElem?_eq_getElem h2] at hp'
        cases hp'; rfl
      have h3 : ∀ {α : Type} (l : List α) (f : α → Bool), l.any f = (l.map f).any id := by intro α l f; simp [List.any_map]
      rw [h3 vs e, this, ← h3]
    rw [this]; exact h

theorem ok_in {k : Nat} {a b : D} {va vb : Value} {K : Bool → Prop} (a1 : AOk k A) (S : Sim h₀ W s) (ra : Rep W.R W.ρ a va) (rb : Rep W.R W.ρ b vb) (h : wIn a b W.st K) :
    OK prog w A h₀ noOwn (compareOp .In va vb) W s (CP W K) := by
  obtain ⟨ys, hb, f⟩ := in_facts a1 S ra h
  rcases seqD_cases hb with rfl | hb'
  · refine ex3 (S.tup rb) fun l vs n q__124_1 => an3 q__124_1 fun e__124_3 hg hr => ?_
    subst e__124_3
    obtain ⟨e, he, hk⟩ := f vs hr
    exact SeqAt.in_tupleAt e ⟨_, hg, rfl, n, rfl⟩ he (cmp_done S hk)
  · refine ex3 (S.lst rb hb') fun l vs n q__127_1 => an3 q__127_1 fun e__127_3 hg hr => ?_
    subst e__127_3
    obtain ⟨e, he, hk⟩ := f vs hr
    exact SeqAt.in_listAt e ⟨_, hg, rfl, n, rfl⟩ he (cmp_done S hk)
theorem ok_cmp {k : Nat} {op : CmpOp} {a b : D} {va vb : Value} {K : Bool → Prop} (a1 : AOk k A) (S : Sim h₀ W s) (ra : Rep W.R W.ρ a va) (rb : Rep W.R W.ρ b vb) (h : wCmp1 op a b W.st K) :
    OK prog w A h₀ noOwn (compareOp op va vb) W s (CP W K) := by
  cases op with
  | Eq => exact ok_eq a1 S ra rb h
  | NotEq => exact ok_ne a1 S ra rb h
  | Lt => obtain ⟨i, j, rfl, rfl, h⟩ := ii_of h; obtain ⟨t, rfl⟩ := ra; obtain ⟨u, rfl⟩ := rb; exact P.lt_int (cmp_done S h)
  | LtE => obtain ⟨i, j, rfl, rfl, h⟩ := ii_of h; obtain ⟨t, rfl⟩ := ra; obtain ⟨u, rfl⟩ := rb; exact P.le_int (cmp_done S h)
  | Gt => obtain ⟨i, j, rfl, rfl, h⟩ := ii_of h; obtain ⟨t, rfl⟩ := ra; obtain ⟨u, rfl⟩ := rb; exact P.gt_int (cmp_done S h)
  | In => exact ok_in a1 S ra rb h
  | _ => exact False.elim h
end
end Mine
end

section
set_option autoImplicit false
set_option linter.unusedVariables false
namespace Mine
open PySem

section
variable {prog : Program} {w : World} {A : Around} {h₀ : H0} {W : Wd} {s : Shared} {Q : D → St → Prop}

theorem sub_plain {e : Expr} (h : isSliceE e = false) (o i : Value) : subscripted e false o i = operate [o, i] (getItem o i) := by
  cases e <;> first | rfl | cases h

theorem is_str (k : Str) (t : Tok) : (strKind prog w).is k (.str k t) = true := beq_self_eq_true k
theorem val_at {kvs : List (Str × Value)} {k : Str} : valueAt kvs k = kvs.lookup k := by
  unfold valueAt
  induction kvs with
  | nil => rfl
  | cons p r ih =>
    obtain ⟨x, v⟩ := p
    rw [List.find?_cons, List.lookup_cons]
    by_cases q : x = k
    · subst q; simp
    · have q' : ¬ k = x := fun z => q z.symm
      simp only [q, decide_false, beq_eq_false_iff_ne.mpr q']
      exact ih
theorem pairs_lookup {R : Addr → Option Obj} {ρ : Nat → Option Addr} : ∀ {es : List (Str × D)} {kvs : List (Str × Value)} {k : Str} {d : D}, kvs.map (·.1) = es.map (·.1) → RepAll R ρ (es.map (·.2)) (kvs.map (·.2)) → es.lookup k = some d → ∃ v, kvs.lookup k = some v ∧ Rep R ρ d v
  | [], _, _, _, _, _, h => by simp at h
  | (x, e) :: es, [], _, _, h, _, _ => by simp at h
  | (x, e) :: es, (y, u) :: kvs, k, d, h, hr, hl => by
    obtain ⟨v, ws, hv, hd, hr'⟩ := hr
    rw [List.map_cons] at hv
    cases hv
    simp only [List.map_cons, List.cons.injEq] at h
    obtain ⟨rfl, h⟩ := h
    rw [List.lookup_cons] at hl ⊢
    cases q : k == y with
    | true => rw [q] at hl; cases hl; exact ⟨u, rfl, hd⟩
    | false => rw [q] at hl; exact pairs_lookup h hr' hl

theorem ok_item {value slice : Expr} {d i : D} {vd vi : Value} (hw : h₀.w = w) (hs : isSliceE slice = false) (S : Sim h₀ W s) (rd : Rep W.R W.ρ d vd) (ri : Rep W.R W.ρ i vi) (h : wItem d i W.st Q) :
    OK prog w A h₀ noOwn (PyProof.Rows.subscriptTail value slice vd vi) W s (VP Q) := by
  unfold wItem at h
  split at h
  · rename_i k
    obtain ⟨t, rfl⟩ := ri
    revert h; intro z__51
    refine an3 (z__51) fun hlo hhi q__51_1 => ex3 q__51_1 fun xs j x q__51_2 => an5 q__51_2 fun hx hk hj hxj h => ?_
    clear z__51
    rcases seqD_cases hx with rfl | hx'
    · refine ex3 (S.tup rd) fun a vs n q__53_1 => an3 q__53_1 fun e__53_3 hg hr => ?_
      subst e__53_3
      obtain ⟨v, hv, hrv⟩ := hr.get j x hxj
      have hT : PyProof.Rows.IsTup s.heap a vs.toArray := ⟨_, hg, rfl, n, rfl⟩
      exact PyProof.Rows.item_tupleT hT (by omega) (by omega) (by rw [hr.length]; exact hj) hv (done_val' S hrv h) (sub_plain hs _ _)
    · refine ex3 (S.lst rd hx') fun a vs n q__57_1 => an3 q__57_1 fun e__57_3 hg hr => ?_
      subst e__57_3
      obtain ⟨v, hv, hrv⟩ := hr.get j x hxj
      have hL : s.heap.IsList a vs.toArray := ⟨_, hg, rfl, n, rfl⟩
      have h0 : 0 ≤ k := by rcases hk with q | q; exact q; rw [hx'] at q; cases q
      have hj' : k.toNat = j := by
        unfold seqIndex? at hj
        have q : ¬ k < 0 := by omega
        simp only [if_neg q] at hj
        split at hj
        · exact Option.some.inj hj
        · cases hj
      refine PyProof.Rows.tail_any hL.typeIs slot_list_getitem.lookup (wpAny_getItem_list hL h0 (by omega) ?_ (done_val' S hrv h)) (sub_plain hs _ _)
      rw [hj']; simpa using hv
  · rename_i k
    obtain ⟨t, rfl⟩ := ri
    revert h; intro z__72
    refine ex3 (z__72) fun n es x q__72_1 => an4 q__72_1 fun e__72_3 hc hl h => ?_
    clear z__72
    subst e__72_3
    obtain ⟨a, ha, rfl⟩ := rd
    refine ex1 (S.cel n _ hc) fun b q__74_1 => an2 q__74_1 fun hb q__74_2 => ex1 q__74_2 fun kvs q__74_3 => an4 q__74_3 fun _ hd he hr => ?_
    rw [ha] at hb; cases hb
    obtain ⟨v, hv, hrv⟩ := pairs_lookup he hr hl
    have hd' := hd prog
    rw [hw] at hd'
    refine PyProof.Rows.tail_any (T := "dict") hd'.typeIs slot_dict_getitem.lookup (wpAny_getItem_of (k := k) (is_str k t) hd'.mapOf (by rw [val_at]; exact hv) (done_val S hrv h _)) (sub_plain hs _ _)
  · exact h.elim

/-- a list cell's item is set: what stands there after is the same list object with that item turned -/
theorem setItem_cell {E : Value → Shared → Prop} {a : Addr} {vs : List Value} {n j : Nat} {k : Int} {t : Tok} {v x : Value} {R : Unit → Shared → Prop} (hg : s.heap.get? a = some (lstO vs n)) (hk : k = (j : Int)) (fit : Builtin.List.listFitsIndex k = true) (hx : vs.toArray[j]? = some x)
    (hR : R () { s with heap := s.heap.update a (Obj.mapSeq (·.setIfInBounds j v)) }) : wpAny (model prog w) A (setItem (.ref a) (.int k t) v) R E s := by
  have hT : s.heap.IsList a vs.toArray := ⟨_, hg, rfl, n, rfl⟩
  have cell : wpAny (model prog w) A.in1 (setSeqItemAt a j v) (fun _ s' => R () s') E s := wpAny_setSeqItemAt hg rfl hR
  unfold setItem
  with_reducible refine wpAny_holding ?_
  refine wpAny_bind (wpAny_sequenceKey hT.typeIs (by decide) ?_)
  refine wpAny_bind (wpAny_callSpecial?_slot (name := Str.ofString "__setitem__") hT.typeIs slot_list_setitem (wpAny_call_entry slot_list_setitem hT.typeIs entry_list_setitem ?_ (args_list_setitem _ _ _)))
  show wpAny _ _ (Builtin.List.listSubscript? (.int k t) >>= _) _ _ s
  refine wpAny_bind (wpAny_listSubscript_int fit ?_)
  clear fit
  subst hk
  show wpAny _ _ ((seqItemAt a j >>= fun r => pure (r.map (j, ·))) >>= _) _ _ s
  refine wpAny_bind (wpAny_bind (wpAny_seqItemAt hg rfl (wpAny_pure ?_)))
  rw [hx]
  refine wpAny_bind (wpAny_mono cell (fun _ s' h => ?_) fun _ _ e => e)
  exact wpAny_pure ⟨.none, rfl, wpAny_pure h⟩
theorem stored_key {kvs : List (Str × Value)} {k : Str} {v : Value} (h : (kvs.lookup k).isSome = true) : stored kvs k v = kvs.map fun p => if p.1 = k then (k, v) else p := by
  have hm : kvs.any (fun kv => decide (kv.1 = k)) = true := by
    induction kvs with
    | nil => cases h
    | cons p r ih =>
      rw [List.lookup_cons] at h
      rw [List.any_cons]
      by_cases q : p.1 = k
      · simp [q]
      · have q' : (k == p.1) = false := beq_eq_false_iff_ne.mpr fun z => q z.symm
        rw [q'] at h
        rw [ih h, Bool.or_true]
  unfold stored
  rw [if_pos hm]
  apply List.map_congr_left
  intro p _
  by_cases q : p.1 = k
  · rw [if_pos q, if_pos q, q]
  · rw [if_neg q, if_neg q]
theorem set_pairs {R : Addr → Option Obj} {ρ : Nat → Option Addr} {k : Str} {d : D} {v : Value} (hd : Rep R ρ d v) : ∀ {es : List (Str × D)} {kvs : List (Str × Value)}, kvs.map (·.1) = es.map (·.1) → RepAll R ρ (es.map (·.2)) (kvs.map (·.2)) →
    (kvs.map fun p => if p.1 = k then (k, v) else p).map (·.1) = (setKey es k d).map (·.1) ∧ RepAll R ρ ((setKey es k d).map (·.2)) ((kvs.map fun p => if p.1 = k then (k, v) else p).map (·.2))
  | [], [], _, _ => ⟨rfl, rfl⟩
  | [], _ :: _, h, _ => by simp at h
  | _ :: _, [], h, _ => by simp at h
  | (x, e) :: es, (y, u) :: kvs, h, hr => by
    obtain ⟨w', ws, hv, hd', hr'⟩ := hr
    rw [List.map_cons] at hv
    cases hv
    simp only [List.map_cons, List.cons.injEq] at h
    obtain ⟨rfl, h⟩ := h
    obtain ⟨h1, h2⟩ := set_pairs hd h hr'
    by_cases q : y = k
    · simp only [setKey, List.map_cons, if_pos q, List.cons.injEq, true_and]
      exact ⟨h1, v, _, rfl, hd, h2⟩
    · simp only [setKey, List.map_cons, if_neg q, List.cons.injEq, true_and]
      exact ⟨h1, u, _, rfl, hd', h2⟩
theorem lookup_some {es : List (Str × D)} {kvs : List (Str × Value)} {k : Str} (h : kvs.map (·.1) = es.map (·.1)) : (kvs.lookup k).isSome = (es.lookup k).isSome := by
  induction es generalizing kvs with
  | nil => cases kvs with
    | nil => rfl
    | cons _ _ => simp at h
  | cons p r ih =>
    cases kvs with
    | nil => simp at h
    | cons q s =>
      simp only [List.map_cons, List.cons.injEq] at h
      rw [List.lookup_cons, List.lookup_cons, h.1]
      cases k == p.1 with
      | true => rfl
      | false => exact ih h.2

theorem dict_prog {p p' : Program} {h : Heap} {a : Addr} {kvs : List (Str × Value)} (x : h.DictOf (strKind p w) a kvs) : h.DictOf (strKind p' w) a kvs := by
  obtain ⟨o, es, ep, h1, h2, h3, h4, h5, h6⟩ := x
  refine ⟨o, es, ep, h1, h2, h3, h4, ?_, h6⟩
  generalize es.toList = l at h5
  clear h3 h4
  induction h5 with
  | nil => exact .nil
  | cons a b c ih => exact .cons a b (ih (List.nodup_cons.mp h6).2)

theorem ok_setItem {d i v : D} {vd vi vv : Value} {K : St → Prop} (hw : h₀.w = w) (S : Sim h₀ W s) (rd : Rep W.R W.ρ d vd) (ri : Rep W.R W.ρ i vi) (rv : Rep W.R W.ρ v vv) (h : wSetItem d i v W.st K) :
    OK prog w A h₀ noOwn (setItem vd vi vv) W s (fun _ W' _ => K W'.st) := by
  unfold wSetItem at h
  split at h
  · rename_i k
    obtain ⟨t, rfl⟩ := ri
    revert h; intro z__166
    refine ex2 (z__166) fun n xs q__166_1 => an6 q__166_1 fun e__166_2 hc h0 h1 hl h => ?_
    clear z__166
    subst e__166_2
    obtain ⟨a, ha, rfl⟩ := rd
    refine ex1 (S.cel n _ hc) fun b q__168_1 => an2 q__168_1 fun hb q__168_2 => ex2 q__168_2 fun vs k' q__168_3 => an2 q__168_3 fun hg hr => ?_
    rw [ha] at hb; cases hb
    have hL : s.heap.IsList a vs.toArray := ⟨_, hg, rfl, k', rfl⟩
    have hlen := hr.length
    have hl' : xs.length ≤ 1000000 := hl
    obtain ⟨j, rfl⟩ := Int.eq_ofNat_of_zero_le h0
    rw [Int.toNat_natCast] at h
    have hj : j < vs.length := by rw [hlen]; omega
    refine setItem_cell (n := k') (x := vs[j]) hg rfl (fitsIndex_of (Int.natCast_nonneg j) (by omega)) (by simp [hj]) ?_
    have key : (s.heap.update a (Obj.mapSeq (·.setIfInBounds j vv))).get? a = some (lstO (vs.set j vv) k') := by
      rw [Heap.get?_update_self _ hg rfl]; simp [Obj.mapSeq]
    obtain ⟨st, sm⟩ := S.put (own := noOwn) (tk := s.toks) (k := k') ha hc (fun b o q e => (Heap.get?_update_other s.heap _ (Ne.symm q)).trans e) (vs := vs.set j vv) key (hr.set j rv)
    exact ⟨_, st, sm, h⟩
  · rename_i k
    obtain ⟨t, rfl⟩ := ri
    revert h; intro z__183
    refine ex2 (z__183) fun n es q__183_1 => an5 q__183_1 fun e__183_2 hc hl hsz h => ?_
    clear z__183
    subst e__183_2
    obtain ⟨a, ha, rfl⟩ := rd
    refine ex1 (S.cel n _ hc) fun b q__185_1 => an2 q__185_1 fun hb q__185_2 => ex1 q__185_2 fun kvs q__185_3 => an4 q__185_3 fun _ hd he hr => ?_
    rw [ha] at hb; cases hb
    have hd' := hd prog
    rw [hw] at hd'
    have hlen : kvs.length = es.length := by have := congrArg List.length he; simpa using this
    refine wpAny_setItem_pairs (k := k) (is_str k t) hd' (fun h' hn hs => ?_) (by rw [hlen]; exact le_line hsz)
    rw [stored_key (by rw [lookup_some he]; exact hl)] at hn
    obtain ⟨h1, h2⟩ := set_pairs (k := k) rv he hr
    obtain ⟨st, sm⟩ := S.putC (own := noOwn) (tk := s.toks + 1) (h' := h') (c0 := .dict (setKey es k v)) ha hc (fun b o q e => (hs.2 b q).trans e) ⟨_, let ⟨o, _, _, ho, _⟩ := hn; ⟨o, ho⟩, fun p => by
      rw [hw]; exact dict_prog hn, h1, h2⟩
    exact ⟨_, st, sm, h⟩
  · exact h.elim

theorem done_bool {b : Bool} (S : Sim h₀ W s) (h : Q (.bool b) W.st) : Fin' h₀ noOwn s W (VP Q) (.bool b) s := done_val' (d := .bool b) S rfl h
theorem done_boolT {b : Bool} (S : Sim h₀ W s) (h : Q (.bool b) W.st) (t : Nat) : Fin' h₀ noOwn s W (VP Q) (.bool b) { s with toks := t } := done_val (d := .bool b) S rfl h t

theorem ok_typeIs {d : D} {vd : Value} {T : String} {b : Bool} (S : Sim h₀ W s) (rd : Rep W.R W.ρ d vd) (ht : typeIs W.st d T = some b) (h : Q (.bool b) W.st) :
    OK prog w A h₀ noOwn (call (.builtin "isinstance") [vd, .type T]) W s (VP Q) := by
  unfold typeIs at ht
  cases hT : tyIn T with
  | false => rw [hT] at ht; cases ht
  | true =>
  rw [hT, cond_true] at ht
  unfold tyIn at hT
  simp only [Bool.or_eq_true, beq_iff_eq] at hT
  cases d with
  | none =>
    have e : vd = .none := rd
    subst e
    simp only [Option.some.injEq] at ht; subst ht
    rcases hT with (((rfl | rfl) | rfl) | rfl) | rfl
    · exact IsiPair.NoneType_int (done_boolT S h _)
    · exact IsiPair.NoneType_bool (done_boolT S h _)
    · exact IsiPair.NoneType_tuple (done_boolT S h _)
    · exact IsiPair.NoneType_list (done_boolT S h _)
    · exact IsiPair.NoneType_str (done_boolT S h _)
  | bool c =>
    have e : vd = .bool c := rd
    subst e
    rcases hT with (((rfl | rfl) | rfl) | rfl) | rfl <;> (simp only [String.reduceBEq, Bool.or_true, Bool.or_false, Bool.true_or, Bool.false_or, Option.some.injEq] at ht; subst ht)
    · exact IsiPair.bool_int (done_bool S h)
    · exact IsiPair.bool_bool (done_bool S h)
    · exact IsiPair.bool_tuple (done_boolT S h _)
    · exact IsiPair.bool_list (done_boolT S h _)
    · exact IsiPair.bool_str (done_boolT S h _)
  | int i =>
    obtain ⟨t, rfl⟩ := rd
    rcases hT with (((rfl | rfl) | rfl) | rfl) | rfl <;> (simp only [String.reduceBEq, Bool.or_true, Bool.or_false, Bool.true_or, Bool.false_or, Option.some.injEq] at ht; subst ht)
    · exact IsiPair.int_int (done_bool S h)
    · exact IsiPair.int_bool (done_boolT S h _)
    · exact IsiPair.int_tuple (done_boolT S h _)
    · exact IsiPair.int_list (done_boolT S h _)
    · exact IsiPair.int_str (done_boolT S h _)
  | str x =>
    obtain ⟨t, rfl⟩ := rd
    rcases hT with (((rfl | rfl) | rfl) | rfl) | rfl <;> (simp only [String.reduceBEq, Bool.or_true, Bool.or_false, Bool.true_or, Bool.false_or, Option.some.injEq] at ht; subst ht)
    · exact IsiPair.str_int (done_boolT S h _)
    · exact IsiPair.str_bool (done_boolT S h _)
    · exact IsiPair.str_tuple (done_boolT S h _)
    · exact IsiPair.str_list (done_boolT S h _)
    · exact IsiPair.str_str (done_bool S h)
  | tup ds =>
    refine ex3 (S.tup rd) fun a vs n q__247_1 => an3 q__247_1 fun e__247_3 hg _ => ?_
    subst e__247_3
    rcases hT with (((rfl | rfl) | rfl) | rfl) | rfl <;> (simp only [String.reduceBEq, Bool.or_true, Bool.or_false, Bool.true_or, Bool.false_or, Option.some.injEq] at ht; subst ht)
    · exact IsiPair.tuple_int hg rfl (done_boolT S h _)
    · exact IsiPair.tuple_bool hg rfl (done_boolT S h _)
    · exact IsiPair.tuple_tuple hg rfl (done_bool S h)
    · exact IsiPair.tuple_list hg rfl (done_boolT S h _)
    · exact IsiPair.tuple_str hg rfl (done_boolT S h _)
  | list ds =>
    refine ex3 (S.lst rd rfl) fun a vs n q__255_1 => an3 q__255_1 fun e__255_3 hg _ => ?_
    subst e__255_3
    rcases hT with (((rfl | rfl) | rfl) | rfl) | rfl <;> (simp only [String.reduceBEq, Bool.or_true, Bool.or_false, Bool.true_or, Bool.false_or, Option.some.injEq] at ht; subst ht)
    · exact IsiPair.list_int hg rfl (done_boolT S h _)
    · exact IsiPair.list_bool hg rfl (done_boolT S h _)
    · exact IsiPair.list_tuple hg rfl (done_boolT S h _)
    · exact IsiPair.list_list hg rfl (done_bool S h)
    · exact IsiPair.list_str hg rfl (done_boolT S h _)
  | loc c =>
    have hl : ∃ xs, lstD W.st (.loc c) = some xs ∧ some (T == "list") = some b := by
      simp only [lstD]
      simp only at ht
      cases hc : W.st.cs c with
      | none => rw [hc] at ht; cases ht
      | some cc =>
        rw [hc] at ht
        cases cc with
        | list ds => exact ⟨ds, rfl, ht⟩
        | dict _ => cases ht
        | ns _ => cases ht
    obtain ⟨xs, hx, ht⟩ := hl
    refine ex3 (S.lst rd hx) fun a vs n q__275_1 => an3 q__275_1 fun e__275_3 hg _ => ?_
    subst e__275_3
    rcases hT with (((rfl | rfl) | rfl) | rfl) | rfl <;> (simp only [String.reduceBEq, Bool.or_true, Bool.or_false, Bool.true_or, Bool.false_or, Option.some.injEq] at ht; subst ht)
    · exact IsiPair.list_int hg rfl (done_boolT S h _)
    · exact IsiPair.list_bool hg rfl (done_boolT S h _)
    · exact IsiPair.list_tuple hg rfl (done_boolT S h _)
    · exact IsiPair.list_list hg rfl (done_bool S h)
    · exact IsiPair.list_str hg rfl (done_boolT S h _)
  | exc c =>
    cases c with
    | type t =>
      cases q : t == "dict" with
      | false => simp only [q, cond_false] at ht; cases ht
      | true =>
        simp only [q, cond_true] at ht
        revert rd; intro z__289
        refine ex2 (z__289) fun a o q__289_1 => an3 q__289_1 fun e__289_2 hR hcl => ?_
        clear z__289
        subst e__289_2
        have hg := S.frz _ _ hR
        rw [beq_iff_eq.mp q] at hcl
        simp only [Option.some.injEq] at ht; subst ht
        rcases hT with (((rfl | rfl) | rfl) | rfl) | rfl
        · exact IsiPair.dict_int hg hcl (done_boolT S h _)
        · exact IsiPair.dict_bool hg hcl (done_boolT S h _)
        · exact IsiPair.dict_tuple hg hcl (done_boolT S h _)
        · exact IsiPair.dict_list hg hcl (done_boolT S h _)
        · exact IsiPair.dict_str hg hcl (done_boolT S h _)
    | _ => cases ht
  | val _ => cases ht
  | inst _ _ => cases ht

/-- what isinstance says of own objects -/
noncomputable def SubOK (prog : Program) (w : World) (h₀ : H0) (sub : Value → Value → Option Bool) : Prop := ∀ C V b, sub C V = some b → ∀ (A : Around) (s : Shared) (a : Addr) (o : Obj) (Q : Value → Shared → Prop) (E : Value → Shared → Prop),
  (∀ b o, h₀.h.get? b = some o → s.heap.get? b = some o) → s.heap.get? a = some o → o.cls = C → (∀ t, Q (.bool b) { s with toks := t }) → wpAny (model prog w) A (call (.builtin "isinstance") [.ref a, V]) Q E s

theorem tyV_inv {st : St} {d : D} {V : Value} {b : Bool} (h : tyV st d V = some b) : ∃ T, V = .type T ∧ typeIs st d T = some b := by
  cases V <;> first | cases h | exact ⟨_, rfl, h⟩
theorem excOf_inv {d : D} {C : Value} (h : excOf d = some C) : d = .exc C := by
  cases d <;> cases h; rfl
theorem ok_isinstance {sub : Value → Value → Option Bool} {d : D} {vd V : Value} {b : Bool} (hsub : SubOK prog w h₀ sub) (S : Sim h₀ W s) (rd : Rep W.R W.ρ d vd) (ht : isInst sub W.st d V = some b) (h : Q (.bool b) W.st) :
    OK prog w A h₀ noOwn (call (.builtin "isinstance") [vd, V]) W s (VP Q) := by
  unfold isInst at ht
  cases q : tyV W.st d V with
  | some c =>
    rw [q] at ht; cases ht
    obtain ⟨T, rfl, q⟩ := tyV_inv q
    exact ok_typeIs S rd q h
  | none =>
    rw [q] at ht
    cases q2 : excOf d with
    | none => rw [q2] at ht; cases ht
    | some C =>
      rw [q2] at ht
      obtain rfl := excOf_inv q2
      revert rd; intro z__326
      refine ex2 (z__326) fun a o q__326_1 => an3 q__326_1 fun e__326_2 hR hcl => ?_
      clear z__326
      subst e__326_2
      exact hsub C V b ht A s a o _ _ (fun b o e => S.frz b o (S.base b o e)) (S.frz _ _ hR) hcl fun t => done_boolT S h t

noncomputable def bltV (f : Str) : Option Value :=
  if f = "len" then some (.builtin "len")
  else if f = "isinstance" then some (.builtin "isinstance")
  else if f = "list" then some (.type "list")
  else if f = "tuple" then some (.type "tuple")
  else if f = "int" then some (.type "int")
  else if f = "zip" then some (.type "zip")
  else if f = "enumerate" then some (.type "enumerate")
  else if f = "range" then some (.type "range")
  else none

theorem reps1 {R : Addr → Option Obj} {ρ : Nat → Option Addr} {d : D} {vs : List Value} (h : RepAll R ρ [d] vs) : ∃ v, vs = [v] ∧ Rep R ρ d v := by
  revert h; intro z__341
  refine ex2 (z__341) fun v ws q__341_1 => an3 q__341_1 fun e__341_2 hr e => ?_
  clear z__341
  subst e__341_2
  have e' : ws = [] := e; subst e'; exact ⟨v, rfl, hr⟩
theorem reps2 {R : Addr → Option Obj} {ρ : Nat → Option Addr} {d e : D} {vs : List Value} (h : RepAll R ρ [d, e] vs) : ∃ v u, vs = [v, u] ∧ Rep R ρ d v ∧ Rep R ρ e u := by
  revert h; intro z__343
  refine ex2 (z__343) fun v ws q__343_1 => an3 q__343_1 fun e__343_2 hr h2 => ?_
  clear z__343
  subst e__343_2
  obtain ⟨u, rfl, hu⟩ := reps1 h2; exact ⟨v, u, rfl, hr, hu⟩

theorem ok_builtin {sub : Value → Value → Option Bool} {trk : Bool} {f : Str} {fv : Value} {ds : List D} {vs : List Value} (hsub : SubOK prog w h₀ sub) (S : Sim h₀ W s) (hf : bltV f = some fv) (hr : RepAll W.R W.ρ ds vs) (h : wBuiltin sub trk f ds W.st Q) :
    OK prog w A h₀ noOwn (call fv vs) W s (VP Q) := by
  unfold wBuiltin at h
  unfold bltV at hf
  by_cases e : f = "len"
  · rw [if_pos e] at h hf; cases hf
    revert h; intro z__355
    refine ex2 (z__355) fun d xs q__355_1 => an4 q__355_1 fun e__355_2 hx hl h => ?_
    clear z__355
    subst e__355_2
    obtain ⟨v, rfl, hd⟩ := reps1 hr
    have hl' : xs.length ≤ 1000000 := hl
    rcases seqD_cases hx with rfl | hx'
    · refine ex3 (S.tup hd) fun a us n q__359_1 => an3 q__359_1 fun e__359_3 hg hu => ?_
      subst e__359_3
      have e1 := hu.length
      refine PyProof.Rows.len_tuple (items := us.toArray) ⟨_, hg, rfl, n, rfl⟩ (by rw [List.size_toArray]; omega) ?_
      rw [List.size_toArray, e1]
      exact done_val (d := .int xs.length) S ⟨_, rfl⟩ h _
    · refine ex3 (S.lst hd hx') fun a us n q__364_1 => an3 q__364_1 fun e__364_3 hg hu => ?_
      subst e__364_3
      have e1 := hu.length
      refine Calls.call_len_list (items := us.toArray) ⟨_, hg, rfl, n, rfl⟩ (by rw [List.size_toArray]; omega) ?_
      rw [List.size_toArray, e1]
      exact done_val (d := .int xs.length) S ⟨_, rfl⟩ h _
  rw [if_neg e] at h hf
  by_cases e : f = "isinstance"
  · rw [if_pos e] at h hf; cases hf
    revert h; intro z__372
    refine ex3 (z__372) fun d V b q__372_1 => an3 q__372_1 fun e__372_3 ht h => ?_
    clear z__372
    subst e__372_3
    refine ex2 (reps2 hr) fun v u q__373_1 => an3 q__373_1 fun e__373_2 hd hu => ?_
    subst e__373_2
    have hu' : u = V := hu
    subst hu'
    exact ok_isinstance hsub S hd ht h
  rw [if_neg e] at h hf
  by_cases e : f = "list"
  · rw [if_pos e] at h hf; cases hf
    revert h; intro z__380
    refine ex2 (z__380) fun d xs q__380_1 => an3 q__380_1 fun e__380_2 hx h => ?_
    clear z__380
    subst e__380_2
    obtain ⟨v, rfl, hd⟩ := reps1 hr
    refine ex4 (S.seq hd hx) fun a us n T q__382_1 => an4 q__382_1 fun e__382_4 hT hg hu => ?_
    subst e__382_4
    refine call_list_seq a hT hg rfl rfl (fun h' c' hk hg' => ?_) (by rw [List.size_toArray, hu.length]; exact le_line h.1)
    exact done_list (n := c') (tk := s.toks) S hk (get_size _) (vs := us) hg' hu h
  rw [if_neg e] at h hf
  by_cases e : f = "tuple"
  · rw [if_pos e] at h hf; cases hf
    revert h; intro z__388
    refine ex2 (z__388) fun d xs q__388_1 => an4 q__388_1 fun e__388_2 hx hl h => ?_
    clear z__388
    subst e__388_2
    obtain ⟨v, rfl, hd⟩ := reps1 hr
    refine ex3 (S.lst hd hx) fun a us n q__390_1 => an3 q__390_1 fun e__390_3 hg hu => ?_
    subst e__390_3
    refine call_tuple_list (items := us.toArray) ⟨_, hg, rfl, n, rfl⟩ (fun h' hk => ?_) (by rw [List.size_toArray, hu.length]; exact le_line hl)
    have dead : s.heap.get? h'.objs.size = none := by
      cases q : s.heap.get? h'.objs.size with
      | none => rfl
      | some o => have := hk _ _ q; rw [get_size] at this; cases this
    exact done_tup (n := 0) (tk := s.toks) S (fun b o e => Heap.get?_push_of_some _ (hk b o e)) dead (vs := us) (Heap.get?_push_size _ rfl) hu h
  rw [if_neg e] at h hf
  by_cases e : f = "int"
  · rw [if_pos e] at h hf; cases hf
    obtain ⟨b, rfl, h⟩ := h
    obtain ⟨v, rfl, hd⟩ := reps1 hr
    have hd' : v = .bool b := hd
    subst hd'
    exact call_int_bool (done_val (d := .int (if b then 1 else 0)) S ⟨_, rfl⟩ h _)
  rw [if_neg e] at h
  exact h.elim
end
end Mine
end

section
set_option autoImplicit false
set_option linter.unusedVariables false
namespace Mine
open PySem

section
variable {prog : Program} {w : World} {A : Around} {h₀ : H0} {W : Wd} {s : Shared} {Q : D → St → Prop} {env : Env}

theorem name_of {o : Expr} (h : isNameE o = true) : ∃ x p, o = .Name x p := Expr.Name.elim (motive_1 := fun o => ∃ x p, o = .Name x p) o (beq_iff_eq.mp h) fun x p => ⟨x, p, rfl⟩
theorem base_plain {o : Expr} (h : isNameE o = true) (nm : Str) (t : Sem Value) : attributeBase o nm env t = t := by
  obtain ⟨x, p, rfl⟩ := name_of h; rfl

theorem not_star {n : Nat} {Γ : Ctx} {T : Tb} {trk : Bool} {e : Expr} {l : Ev} {st : St} {X : XP} (h : wE Γ n T trk e l st Q X) : ∀ x p, e ≠ .Starred x p := by
  intro x p q
  subst q
  cases n with
  | zero => exact h
  | succ n => exact h
theorem star_cons {e : Expr} {r : List Expr} (h : ∀ x p, e ≠ .Starred x p) : starEach (e :: r) env = (false, eval e env) :: starEach r env := by
  cases e <;> first | rfl | exact absurd rfl (h _ _)

theorem back_cons {e : Expr} {r : List Expr} {pos : Pos} (h : ∀ x p, e ≠ .Starred x p) : backTo pos (starEach (e :: r) env) = (false, eval e env) :: backTo pos (starEach r env) := by
  rw [star_cons h]; rfl
theorem upd_seq {h : Heap} {l : Addr} {vs ws : List Value} {n : Nat} {f : Array Value → Array Value} (hg : h.get? l = some (lstO vs n)) (hf : f vs.toArray = ws.toArray) :
    ∃ k, (h.update l (Obj.mapSeq f)).get? l = some (lstO ws k) := by
  refine ⟨if (ws.toArray.size == vs.toArray.size) = true then n else n + 1, ?_⟩
  rw [Heap.get?_update_self _ hg rfl]
  simp only [Obj.mapSeq, hf]

theorem ok_put {n : Nat} {l : Addr} {xs ys : List D} {vs ws : List Value} {k : Nat} {f : Array Value → Array Value} (S : Sim h₀ W s) (ha : W.ρ n = some l) (hc : W.st.cs n = some (.list xs)) (hg : s.heap.get? l = some (lstO vs k))
    (hf : f vs.toArray = ws.toArray) (hr : RepAll W.R W.ρ ys ws) (h : Q .none (W.st.put n (.list ys))) :
    Fin' h₀ noOwn s W (VP Q) .none { s with heap := s.heap.update l (Obj.mapSeq f) } := by
  obtain ⟨k', hg'⟩ := upd_seq hg hf
  obtain ⟨st, sm⟩ := S.put (own := noOwn) (tk := s.toks) (k := k') ha hc (fun b o q e => (Heap.get?_update_other s.heap _ (Ne.symm q)).trans e) hg' hr
  exact ⟨_, st, sm, .none, rfl, h⟩

theorem cel_at (S : Sim h₀ W s) {n : Nat} {xs : List D} {v : Value} (rd : Rep W.R W.ρ (.loc n) v) (hc : W.st.cs n = some (.list xs)) :
    ∃ l vs k, v = .ref l ∧ W.ρ n = some l ∧ s.heap.get? l = some (lstO vs k) ∧ RepAll W.R W.ρ xs vs := by
  obtain ⟨l, ha, rfl⟩ := rd
  obtain ⟨b, hb, vs, k, hg, hr⟩ := S.cel n _ hc
  rw [ha] at hb; cases hb
  exact ⟨l, vs, k, rfl, ha, hg, hr⟩

theorem seq_pre (S : Sim h₀ W s) {d : D} {xs : List D} {v : Value} (rd : Rep W.R W.ρ d v) (hx : lstD W.st d = some xs) : s.TypeIs v "list" ∧ (∀ a, v = .ref a → ∃ ob, s.heap.get? a = some ob ∧ ob.dict = none) := by
  refine ex3 (S.lst rd hx) fun l vs k q__49_1 => an3 q__49_1 fun e__49_3 hg _ => ?_
  subst e__49_3
  exact ⟨⟨_, hg, rfl⟩, fun a e => by cases e; exact ⟨_, hg, rfl⟩⟩

theorem star_of {e : Expr} (h : (!isStarE e) = true) : ∀ x p, e ≠ .Starred x p := by rintro x p rfl; cases h
theorem plain_args {pos : Pos} : ∀ {es : List Expr}, noStars es = true → (backTo pos (starEach es env)).any (·.1) = false ∧ (backTo pos (starEach es env)).all (fun x => !x.1) = true
  | [], _ => ⟨rfl, rfl⟩
  | e :: r, h => by
    have h' := Bool.and_eq_true_iff.mp h
    obtain ⟨h1, h2⟩ := plain_args (pos := pos) (es := r) h'.2
    rw [back_cons (star_of h'.1), List.any_cons, List.all_cons, h1, h2]; exact ⟨rfl, rfl⟩

/-- a method's call, when the method is found -/
theorem meth_go {E : Value → Shared → Prop} {o : Expr} {nm : Str} {apos pos : Pos} {es : List Expr} {ov : Value} {callee : Value} {first : List Value} {R : Value → Shared → Prop} (hns : noStars es = true) (hlen : es.length.blt 29 = true) (hln : (apos.endLine == pos.line) = true)
    (hg : ∀ pl R', R' (callee, first) s → wpAny (model prog w) A (getMethod ov nm pl) R' E s)
    (hc : wpAny (model prog w) A (callWith pos callee first (backTo pos (starEach es env)) []) R E s) :
    wpAny (model prog w) A (methodCall o nm apos pos env ov (es.length + ([] : List Keyword).length) (backTo pos (starEach es env)) (backToKw pos (keywordEach [] env))) R E s := by
  have hform : methodCallForm (es.length + ([] : List Keyword).length) (backTo pos (starEach es env)) (backToKw pos (keywordEach [] env)) = true := by
    have : es.length < 29 := Nat.blt_eq.mp hlen
    have h30 : decide (es.length + ([] : List Keyword).length + (if ([] : List Keyword).isEmpty then 0 else 1) < 30) = true := by
      refine decide_eq_true ?_
      simp only [List.length_nil, List.isEmpty_nil, if_true]
      omega
    unfold methodCallForm
    rw [(plain_args hns).2]
    exact h30
  have hpos : methodCallPos true o env apos pos = pure pos := by unfold methodCallPos; simp [hln]
  unfold methodCall
  rw [hform]
  exact wpAny_bind (wpAny_holding (hg _ _ (wpAny_bind (wpAny_of_eq hpos hc))))

theorem get_append {E : Value → Shared → Prop} {d : D} {xs : List D} {v : Value} (S : Sim h₀ W s) (rd : Rep W.R W.ρ d v) (hx : lstD W.st d = some xs) {pl : Sem Bool} {R : Value × List Value → Shared → Prop} (h : R (.builtin "list.append", [v]) s) :
    wpAny (model prog w) A (getMethod v "append" pl) R E s :=
  getMethod_builtin (seq_pre S rd hx).1 F.plainAttrs_list F.slot_list_append F.type_list_append (seq_pre S rd hx).2 h

theorem ok_append {d x : D} {v u : Value} (S : Sim h₀ W s) (rd : Rep W.R W.ρ d v) (rx : Rep W.R W.ρ x u) (h : wMeth d [x] W.st Q) : OK prog w A h₀ noOwn (call (.builtin "list.append") [v, u]) W s (VP Q) := by
  revert h; intro z__84
  refine ex3 (z__84) fun n x' xs q__84_1 => an5 q__84_1 fun e__84_3 e' hc hlen h => ?_
  clear z__84
  subst e__84_3
  cases e'
  refine ex3 (cel_at S rd hc) fun l vs k' q__86_1 => an4 q__86_1 fun e__86_3 ha hg hr => ?_
  subst e__86_3
  refine wpAny_call_entry PySem.slot_list_append ⟨_, hg, rfl⟩ PySem.entry_list_append ?_ (args_list_append _ _)
  show wpAny _ _ (updateSeq l (·.push u) >>= fun _ => ret .none) _ _ s
  refine wpAny_bind ?_
  have hz : vs.length ≤ sizeLine := by rw [hr.length]; exact le_line hlen
  refine wpAny_updateSeq hg rfl (wpAny_pure ⟨.none, rfl, ?_⟩) (by simpa using hz) (by simpa using hz)
  exact ok_put (f := fun xs => xs.push u) (ws := vs ++ [u]) S ha hc hg (by simp) (hr.append (RepAll.one rx)) h
end
end Mine
end

section
set_option autoImplicit false
set_option linter.unusedVariables false
namespace Mine
open PySem

/-- a sequence and an iterator over it: a tuple (true) or a list (false) -/
noncomputable def IsS (k : Bool) (h : Heap) (l : Addr) (items : Array Value) : Prop := match k with
  | true => h.IsTuple l items
  | false => h.IsList l items
noncomputable def IsIt (k : Bool) (h : Heap) (i l : Addr) (n : Nat) : Prop := match k with
  | true => h.IsTupleIter i l n
  | false => h.IsListIter i l n
noncomputable def itN (k : Bool) : String := if k then "tuple_iterator" else "list_iterator"
noncomputable abbrev itO (k : Bool) (l : Addr) : Obj := { cls := .type (itN k), data := .fields #[.ref l, .int 0 0] }

theorem IsS.at {k : Bool} {h h' : Heap} {l : Addr} {items : Array Value} (x : IsS k h l items) (hk : ∀ o, h.get? l = some o → h'.get? l = some o) : IsS k h' l items := by
  cases k with
  | true => obtain ⟨o, ho, r⟩ := x; exact ⟨o, hk o ho, r⟩
  | false => obtain ⟨o, ho, r⟩ := x; exact ⟨o, hk o ho, r⟩
theorem IsIt.at {k : Bool} {h h' : Heap} {i l : Addr} {n : Nat} (x : IsIt k h i l n) (hk : ∀ o, h.get? i = some o → h'.get? i = some o) : IsIt k h' i l n := by
  cases k with
  | true => obtain ⟨o, ho, r⟩ := x; exact ⟨o, hk o ho, r⟩
  | false => obtain ⟨o, ho, r⟩ := x; exact ⟨o, hk o ho, r⟩
theorem IsIt.new (k : Bool) {h : Heap} {i l : Addr} (hg : h.get? i = some (itO k l)) : IsIt k h i l 0 := by
  cases k with
  | true => exact ⟨_, hg, rfl, rfl⟩
  | false => exact ⟨_, hg, rfl, rfl⟩
theorem IsIt.alive {k : Bool} {h : Heap} {i l : Addr} {n : Nat} (x : IsIt k h i l n) : ∃ o, h.get? i = some o := by
  cases k with
  | true => obtain ⟨o, ho, _⟩ := x; exact ⟨o, ho⟩
  | false => obtain ⟨o, ho, _⟩ := x; exact ⟨o, ho⟩
theorem IsS.alive {k : Bool} {h : Heap} {l : Addr} {items : Array Value} (x : IsS k h l items) : ∃ o, h.get? l = some o := by
  cases k with
  | true => obtain ⟨o, ho, _⟩ := x; exact ⟨o, ho⟩
  | false => obtain ⟨o, ho, _⟩ := x; exact ⟨o, ho⟩

section
variable {prog : Program} {w : World} {A : Around} {E : Value → Shared → Prop} {s : Shared}

theorem pyIter_S {k : Bool} {l : Addr} {items : Array Value} {Q : Value → Shared → Prop} (hl : IsS k s.heap l items) (h : Q (.ref s.heap.objs.size) { s with heap := s.heap.push (itO k l) }) :
    wpAny (model prog w) A (pyIter (.ref l)) Q E s := by
  cases k with
  | true => exact wpAny_pyIter_tuple hl h
  | false => exact wpAny_pyIter_list hl h

theorem pyNext_S {k : Bool} {it l : Addr} {i : Nat} {items : Array Value} {x : Value} {Q : Option Value → Shared → Prop} (hit : IsIt k s.heap it l i) (hl : IsS k s.heap l items) (hx : items[i]? = some x)
    (hQ : ∀ h', IsIt k h' it l (i + 1) → Heap.SameBut it s.heap h' → Q (some x) { s with heap := h' }) : wpAny (model prog w) A (pyNext (.ref it)) Q E s := by
  cases k with
  | true => exact wpAny_pyNext_tuple_item hit hl hx hQ
  | false => exact wpAny_pyNext_list_item hit hl hx hQ
theorem pyNext_SE {k : Bool} {it l : Addr} {i : Nat} {items : Array Value} {Q : Option Value → Shared → Prop} (hh : A.handled = none) (hit : IsIt k s.heap it l i) (hl : IsS k s.heap l items) (hx : items[i]? = none)
    (hQ : ∀ h', Heap.ExtBut it s.heap h' → Q none { s with heap := h' }) : wpAny (model prog w) A (pyNext (.ref it)) Q E s := by
  cases k with
  | true => exact wpAny_pyNext_tuple_end hh hit hl hx hQ
  | false => exact wpAny_pyNext_list_end hh hit hl hx hQ

theorem nextOf_S {k : Bool} {it l : Addr} {i : Nat} {items : Array Value} {x : Value} {Q : Value → Shared → Prop} (hit : IsIt k s.heap it l i) (hl : IsS k s.heap l items) (hx : items[i]? = some x)
    (hQ : ∀ h', IsIt k h' it l (i + 1) → Heap.SameBut it s.heap h' → Q x { s with heap := h' }) : wpAny (model prog w) A (Builtin.SmallTypes.nextOf (.ref it)) Q E s := by
  cases k with
  | false => exact wpAny_nextOf_list_item hit hl hx hQ
  | true =>
    refine ex1 (id hit) fun o q__65_1 => an3 q__65_1 fun ho hc hd => ?_
    have hT : s.TypeIs (.ref it) "tuple_iterator" := ⟨o, ho, hc⟩
    revert hl; intro z__67
    refine ex1 (z__67) fun ol q__67_1 => an3 q__67_1 fun hol _ q__67_2 => ex1 q__67_2 fun nl hdl => ?_
    clear z__67
    unfold Builtin.SmallTypes.nextOf
    refine wpAny_bind (wpAny_callSpecial?_slot (name := Str.ofString "__next__") hT F.slot_tuple_iterator_next
      (wpAny_call_entry F.slot_tuple_iterator_next hT F.entry_tuple_iterator_next ?_ (F.args_tuple_iterator_next_1 _)))
    show wpAny _ _ (field (.ref it) 0 >>= _) _ _ s
    refine wpAny_bind (wpAny_field ho hd (x := .ref l) rfl ?_)
    show wpAny _ _ (if (Value.ref l == Value.none) = true then _ else _) _ _ s
    rw [if_neg (show ¬ ((Value.ref l == Value.none) = true) from Bool.false_ne_true)]
    show wpAny _ _ (field (.ref it) 1 >>= _) _ _ s
    refine wpAny_bind (wpAny_field ho hd (x := .int i 0) rfl ?_)
    show wpAny _ _ (seqItems? (.ref l) >>= _) _ _ s
    refine wpAny_bind (wpAny_seqItems hol hdl ?_)
    simp only [Int.toNat_natCast, hx]
    refine wpAny_bind (wpAny_setField ho hd (by simp) (wpAny_pure ⟨x, rfl, wpAny_pure (hQ _ ?_ (Heap.SameBut.update ..))⟩))
    exact ⟨_, Heap.get?_update_self _ ho (Obj.isFreed_of_fields (Obj.data_mapFields hd _)), (Obj.cls_mapFields ..).trans hc, by rw [Obj.data_mapFields hd]; simp [rawInt]⟩

theorem nextOf_SE {k : Bool} {it l : Addr} {i : Nat} {items : Array Value} {Q : Value → Shared → Prop} (hh : A.handled = none) (hit : IsIt k s.heap it l i) (hl : IsS k s.heap l items) (hx : items[i]? = none)
    (hE : ∀ h' e, Heap.ExtBut it s.heap h' → (∃ o, h'.get? e = some o ∧ o.cls = .type "StopIteration") → E (.ref e) { s with heap := h' }) : wpAny (model prog w) A (Builtin.SmallTypes.nextOf (.ref it)) Q E s := by
  cases k with
  | false => exact wpAny_nextOf_list_end hh hit hl hx hE
  | true =>
    refine ex1 (id hit) fun o q__88_1 => an3 q__88_1 fun ho hc hd => ?_
    have hT : s.TypeIs (.ref it) "tuple_iterator" := ⟨o, ho, hc⟩
    revert hl; intro z__90
    refine ex1 (z__90) fun ol q__90_1 => an3 q__90_1 fun hol _ q__90_2 => ex1 q__90_2 fun nl hdl => ?_
    clear z__90
    unfold Builtin.SmallTypes.nextOf
    refine wpAny_bind (wpAny_callSpecial?_slot (name := Str.ofString "__next__") hT F.slot_tuple_iterator_next
      (wpAny_call_entry F.slot_tuple_iterator_next hT F.entry_tuple_iterator_next ?_ (F.args_tuple_iterator_next_1 _)))
    show wpAny _ _ (field (.ref it) 0 >>= _) _ _ s
    refine wpAny_bind (wpAny_field ho hd (x := .ref l) rfl ?_)
    show wpAny _ _ (if (Value.ref l == Value.none) = true then _ else _) _ _ s
    rw [if_neg (show ¬ ((Value.ref l == Value.none) = true) from Bool.false_ne_true)]
    show wpAny _ _ (field (.ref it) 1 >>= _) _ _ s
    refine wpAny_bind (wpAny_field ho hd (x := .int i 0) rfl ?_)
    show wpAny _ _ (seqItems? (.ref l) >>= _) _ _ s
    refine wpAny_bind (wpAny_seqItems hol hdl ?_)
    simp only [Int.toNat_natCast, hx]
    refine wpAny_bind (wpAny_rule (wpAny_bind (wpAny_setField ho hd (by simp) ?_)))
    show wpAny _ _ (newExc (.type "StopIteration") [] >>= _) _ _ _
    refine wpAny_bind ?_
    simp only [newExc, newTuple]
    refine wpAny_bind (wpAny_newObj_type ?_ (by size_fits))
    refine wpAny_bind (m := firstArgMember _ _) (wpAny_of_eq (a := Value.none) (by first | rfl | (simp only [firstArgMember]; rfl)) ?_)
    refine wpAny_newObj_type ?_ (by size_fits)
    simp only [raiseNew]
    refine wpAny_bind (wpAny_handled ?_)
    first | rw [show A.in1.handled = none from hh] | rw [hh]
    refine wpAny_bind (wpAny_pure (wpAny_throw ?_))
    exact hE _ _ (((Heap.SameBut.update ..).extBut.push _).push _) ⟨_, Heap.get?_push_size _ rfl, rfl⟩
end
end Mine
end

section
set_option autoImplicit false
set_option linter.unusedVariables false
namespace Mine
open PySem

section
variable {prog : Program} {w : World} {A : Around} {E : Value → Shared → Prop} {s : Shared}

/-- enumerate over a sequence: the next pair -/
theorem enum_item {b : Bool} {e it l : Addr} {i : Nat} {items : Array Value} {x old : Value} {Q : Option Value → Shared → Prop}
    (he : IsEnum s.heap e it i old) (hit : IsIt b s.heap it l i) (hl : IsS b s.heap l items) (hx : items[i]? = some x) (hne : e ≠ it)
    (hQ : ∀ h', IsEnumOut h' e it ((i : Int) + 1) x s.heap.objs.size → IsIt b h' it l (i + 1) →
      h'.get? s.heap.objs.size = some { cls := .type "tuple", data := .seq #[.int i s.toks, x] } →
      (∀ c o, c ≠ e → c ≠ it → s.heap.get? c = some o → h'.get? c = some o) → Q (some (.ref s.heap.objs.size)) { s with heap := h', toks := s.toks + 1 }) :
    wpAny (model prog w) A (pyNext (.ref e)) Q E s := by
  have hT : s.TypeIs (.ref e) "enumerate" := ⟨_, he, rfl⟩
  unfold pyNext
  refine wpAny_bind (wpAny_attempt (wpAny_callSpecial?_slot (name := Str.ofString "__next__") hT F.slot_enumerate_next
    (wpAny_call_entry F.slot_enumerate_next hT F.entry_enumerate_next ?_ (F.args_enumerate_next_1 _))))
  show wpAny _ _ (field (.ref e) 2 >>= _) _ _ _
  refine wpAny_bind (wpAny_field he rfl (x := .ref it) rfl ?_)
  refine wpAny_bind (nextOf_S hit hl hx fun h1 hit1 hs1 => ?_)
  have he1 : IsEnum h1 e it i old := (hs1.2 e hne).trans he
  refine wpAny_bind (wpAny_field he1 rfl (x := rawInt i) rfl ?_)
  refine wpAny_bind (wpAny_field he1 rfl (x := .none) rfl ?_)
  show wpAny _ _ (mkInt i >>= _) _ _ _
  refine wpAny_bind (wpAny_mkInt ?_)
  refine wpAny_bind (wpAny_setField_rec he1 (by simp) fun h2 he2 hs2 => ?_)
  replace he2 : IsEnum h2 e it ((i : Int) + 1) old := he2
  refine wpAny_bind (wpAny_setField_rec he2 (by simp) fun h3 he3 hs3 => ?_)
  replace he3 : IsEnum h3 e it ((i : Int) + 1) old := he3
  refine wpAny_bind (wpAny_newTuple ?_)
  have hsz : h3.objs.size = s.heap.objs.size := by rw [hs3.1, hs2.1, hs1.1]
  have he4 : IsEnum (h3.push { cls := .type "tuple", data := .seq #[.int i s.toks, x] }) e it ((i : Int) + 1) old := Heap.get?_push_of_some _ he3
  have ht4 : (h3.push { cls := .type "tuple", data := .seq #[.int i s.toks, x] }).get? s.heap.objs.size = some { cls := .type "tuple", data := .seq #[.int i s.toks, x] } := by rw [← hsz]; exact Heap.get?_push_size _ rfl
  have hk4 : ∀ c o, c ≠ e → c ≠ it → s.heap.get? c = some o → (h3.push { cls := .type "tuple", data := .seq #[.int i s.toks, x] }).get? c = some o := fun c o c1 c2 q =>
    Heap.get?_push_of_some _ (hs3.extBut c o c1 (hs2.extBut c o c1 (hs1.extBut c o c2 q)))
  have hit4 : IsIt b (h3.push { cls := .type "tuple", data := .seq #[.int i s.toks, x] }) it l (i + 1) := hit1.at fun o q => Heap.get?_push_of_some _ (hs3.extBut _ o (Ne.symm hne) (hs2.extBut _ o (Ne.symm hne) q))
  have hel : e < s.heap.objs.size := Heap.lt_size he
  show wpAny _ _ (Builtin.SmallTypes.ownedTupleIsFree (.ref e) >>= _) _ _ _
  rw [hsz]
  refine wpAny_bind ?_
  unfold Builtin.SmallTypes.ownedTupleIsFree
  refine wpAny_bind (wpAny_field he4 rfl (x := .none) rfl (wpAny_pure ?_))
  simp only [if_true]
  refine wpAny_bind (wpAny_rule ?_)
  refine wpAny_bind (wpAny_field he4 rfl (x := old) rfl ?_)
  refine wpAny_bind (wpAny_setField_rec he4 (by simp) fun h5 he5 hs5 => ?_)
  replace he5 : IsEnum h5 e it ((i : Int) + 1) x := he5
  show wpAny _ _ (Builtin.SmallTypes.ownedTupleHandOut (.ref e) (.ref s.heap.objs.size) >>= _) _ _ _
  refine wpAny_bind ?_
  unfold Builtin.SmallTypes.ownedTupleHandOut
  refine wpAny_bind (wpAny_setField_rec he5 (by simp) fun h6 he6 hs6 => ?_)
  replace he6 : IsEnumOut h6 e it ((i : Int) + 1) x s.heap.objs.size := he6
  refine wpAny_setField_rec he6 (by simp) fun h7 he7 hs7 => ?_
  replace he7 : IsEnumOut h7 e it ((i : Int) + 1) x s.heap.objs.size := he7
  have up : ∀ c o, c ≠ e → (h3.push { cls := .type "tuple", data := .seq #[.int i s.toks, x] }).get? c = some o → h7.get? c = some o := fun c o c1 q => hs7.extBut c o c1 (hs6.extBut c o c1 (hs5.extBut c o c1 q))
  exact wpAny_bind (wpAny_letGo (wpAny_pure ⟨_, rfl, wpAny_pure (hQ h7 he7 (hit4.at fun o q => up _ o (Ne.symm hne) q) (up _ _ (Nat.ne_of_gt hel) ht4) fun c o c1 c2 q => up c o c1 (hk4 c o c1 c2 q))⟩))

theorem enum_end {b : Bool} {e it l : Addr} {i : Nat} {items : Array Value} {old : Value} {Q : Option Value → Shared → Prop} (hh : A.handled = none)
    (he : IsEnum s.heap e it i old) (hit : IsIt b s.heap it l i) (hl : IsS b s.heap l items) (hx : items[i]? = none)
    (hQ : ∀ h', Heap.ExtBut it s.heap h' → Q none { s with heap := h' }) : wpAny (model prog w) A (pyNext (.ref e)) Q E s := by
  have hT : s.TypeIs (.ref e) "enumerate" := ⟨_, he, rfl⟩
  unfold pyNext
  refine wpAny_bind (wpAny_attempt (wpAny_callSpecial?_slot (name := Str.ofString "__next__") hT F.slot_enumerate_next
    (wpAny_call_entry F.slot_enumerate_next hT F.entry_enumerate_next ?_ (F.args_enumerate_next_1 _))))
  show wpAny _ _ (field (.ref e) 2 >>= _) _ _ _
  refine wpAny_bind (wpAny_field he rfl (x := .ref it) rfl ?_)
  refine wpAny_bind (nextOf_SE hh hit hl hx fun h1 x hk hx => ?_)
  obtain ⟨o, ho, hc⟩ := hx
  refine wpAny_bind (wpAny_isInstance (T := "StopIteration") (b := true) ⟨o, ho, hc⟩ isSubtype_stop ?_)
  exact wpAny_pure (hQ _ hk)

theorem meets_enum (b : Bool) (l : Addr) (items : Array Value) :
    Meets (Builtin.«enumerate.__new__» ⟨[.type "enumerate", .ref l], []⟩) (fun _ R s => IsS b s.heap l items ∧
      R (.ok (.ret (.ref (s.heap.push (itO b l)).objs.size))) { s with heap := (s.heap.push (itO b l)).push { cls := .type "enumerate", data := .fields #[.none, .bool false, .ref s.heap.objs.size, rawInt 0, .none, .none] } }) :=
  .of_wp fun prog w A R s h => by
    obtain ⟨hp, g, d, tk, os⟩ := s; obtain ⟨hl, h⟩ := h
    have hsub := sub_enumerate
    have hL : IsS b (Shared.heap ⟨hp, g, d, tk, os⟩) l items := hl
    obtain ⟨o, ho⟩ := hl.alive
    wp_walk using AutoSeq1.wpAny_loadPart' ho
    refine wpAny_stack_any fun st => wpAny_pure ?_
    split
    · rename_i c _ _ _ _ _
      cases (c == Value.type "enumerate")
      · wp_walk using AutoSeq1.wpAny_loadPart' ho, pyIter_S hL
        exact ⟨_, rfl, h⟩
      · wp_walk using AutoSeq1.wpAny_loadPart' ho, pyIter_S hL
        exact ⟨_, rfl, h⟩
    · wp_walk using AutoSeq1.wpAny_loadPart' ho, pyIter_S hL
      exact ⟨_, rfl, h⟩

theorem call_enum {b : Bool} {l : Addr} {items : Array Value} {Q : Value → Shared → Prop} (hL : IsS b s.heap l items)
    (h : ∀ h', IsEnum h' (s.heap.objs.size + 1) s.heap.objs.size 0 .none → IsIt b h' s.heap.objs.size l 0 →
      (∀ b o, s.heap.get? b = some o → h'.get? b = some o) → Q (.ref (s.heap.objs.size + 1)) { s with heap := h' }) :
    wpAny (model prog w) A (call (.type "enumerate") [.ref l]) Q E s := by
  refine callType_new F.called_enumerate (by decide) (F.typeCall_enumerate_1 _) (F.newCall_enumerate_1 _) (fun obj => F.args_object_init_2 obj _) F.entry_enumerate_new
    (meets_enum b l items) ⟨hL, ?_⟩
  have hz : (s.heap.push (itO b l)).objs.size = s.heap.objs.size + 1 := Heap.size_push ..
  have he := Heap.get?_push_size (s.heap.push (itO b l)) (o := { cls := .type "enumerate", data := .fields #[.none, .bool false, .ref s.heap.objs.size, rawInt 0, .none, .none] }) rfl
  rw [hz] at he
  show _ ∧ _
  rw [hz]
  exact ⟨⟨_, he, rfl⟩, h _ he (IsIt.new b (Heap.get?_push_of_some _ (Heap.get?_push_size _ rfl))) fun c o x => Heap.get?_push_of_some _ (Heap.get?_push_of_some _ x)⟩
end
end Mine
end

section
set_option autoImplicit false
set_option linter.unusedVariables false
namespace Mine
open PySem

structure Turn (prog : Program) (w : World) (A : Around) (target : Expr) (I : Addr) (fp wr : List Addr) (n : Nat) (V : Nat → Value → Heap → Heap → Prop) (St : Nat → Heap → Prop) : Prop where
  frame : ∀ i h h', St i h → (∀ b ∈ fp, ∀ o, h.get? b = some o → h'.get? b = some o) → St i h'
  item : ∀ i (s : Shared) (Q : Value → Shared → Prop) (E : Value → Shared → Prop), i < n → St i s.heap →
    (∀ v h' tk, V i v s.heap h' → St (i + 1) h' → (∀ b o, b ∉ wr → s.heap.get? b = some o → h'.get? b = some o) → Q v { s with heap := h', toks := tk }) →
    wpAny (model prog w) A (pyNext (.ref I)) (fun r s1 => match r with
      | none => False
      | some v => wpAny (model prog w) A (letOwnedTupleGo target (.ref I) v) (fun _ s2 => Q v s2) E s1) E s
  done : ∀ (s : Shared) (Q : Shared → Prop) (E : Value → Shared → Prop), St n s.heap →
    (∀ h' tk, (∀ b o, b ∉ wr → s.heap.get? b = some o → h'.get? b = some o) → Q { s with heap := h', toks := tk }) →
    wpAny (model prog w) A (pyNext (.ref I)) (fun r s1 => match r with
      | none => Q s1
      | some _ => False) E s
  self : ∀ i (s : Shared) (Q : Value → Shared → Prop) (E : Value → Shared → Prop), St i s.heap → Q (.ref I) s → wpAny (model prog w) A (pyIter (.ref I)) Q E s
  alive : ∀ i h, St i h → ∀ b ∈ fp, ∃ o, h.get? b = some o

section
variable {prog : Program} {w : World} {A : Around}

theorem letGo_S {E : Value → Shared → Prop} {k : Bool} {target : Expr} {I l : Addr} {i : Nat} {v : Value} {Q : Unit → Shared → Prop} {s : Shared} (hit : IsIt k s.heap I l i) (h : Q () s) :
    wpAny (model prog w) A (letOwnedTupleGo target (.ref I) v) Q E s := by
  cases k with
  | true => exact PyProof.Rows.letGo_tupleiter hit h
  | false => exact PyProof.Rows.letGo_listiter hit h
theorem letGo_int {E : Value → Shared → Prop} {target : Expr} {it : Value} {i : Int} {t : Tok} {Q : Unit → Shared → Prop} {s : Shared} (h : Q () s) :
    wpAny (model prog w) A (letOwnedTupleGo target it (.int i t)) Q E s := by
  have : letOwnedTupleGo target it (.int i t) = pure () := by
    cases target <;> first | rfl | (cases it <;> rfl)
  rw [this]; exact wpAny_pure h
theorem pyIter_It {E : Value → Shared → Prop} {k : Bool} {I l : Addr} {i : Nat} {Q : Value → Shared → Prop} {s : Shared} (hit : IsIt k s.heap I l i) (h : Q (.ref I) s) : wpAny (model prog w) A (pyIter (.ref I)) Q E s := by
  cases k with
  | true => exact wpAny_pyIter_tupleiter hit h
  | false => exact wpAny_pyIter_listiter hit h

theorem Turn.seq (hh : A.handled = none) (k : Bool) (target : Expr) (I l : Addr) (hne : l ≠ I) (items : Array Value) :
    Turn prog w A target I [I, l] [I] items.size (fun i v _ _ => items[i]? = some v) (fun i h => IsIt k h I l i ∧ IsS k h l items) where
  frame := fun _ _ _ st hk => ⟨st.1.at fun o e => hk I (by simp) o e, st.2.at fun o e => hk l (by simp) o e⟩
  item := fun i s Q E hi st hQ => by
    refine pyNext_S st.1 st.2 (x := items[i]) (by simp [hi]) fun h' hit' hs' => ?_
    refine letGo_S (k := k) hit' ?_
    exact hQ _ h' s.toks (by simp [hi]) ⟨hit', st.2.at fun o e => hs'.extBut _ _ hne e⟩ fun b o hb e => hs'.extBut b o (fun h => hb (by simp [h])) e
  done := fun s Q E st hQ => pyNext_SE hh st.1 st.2 (by simp) fun h' he' => hQ h' s.toks fun b o hb e => he' b o (fun h => hb (by simp [h])) e
  self := fun _ _ _ _ st hQ => pyIter_It st.1 hQ
  alive := fun i h st b hb => by
    simp at hb
    rcases hb with rfl | rfl
    · exact st.1.alive
    · exact st.2.alive

theorem Turn.range (hh : A.handled = none) (target : Expr) (I : Addr) (a : Int) (n : Nat) :
    Turn prog w A target I [I] [I] n (fun i v _ _ => i < n ∧ ∃ t, v = .int (a + i) t) (fun i h => IsRangeIter h I (a + (i : Nat)) ((n : Int) - (i : Nat)) 1) where
  frame := fun _ _ _ st hk => hk I (by simp) _ st
  item := fun i s Q E hi st hQ => by
    refine wpAny_pyNext_range_item st (by omega) fun h' hit' hs' => ?_
    refine letGo_int ?_
    refine hQ _ h' _ ⟨hi, _, rfl⟩ ?_ fun b o hb e => hs'.extBut b o (fun h => hb (by simp [h])) e
    have e1 : a + ((i + 1 : Nat) : Int) = a + (i : Int) + 1 := by omega
    have e2 : (n : Int) - ((i + 1 : Nat) : Int) = (n : Int) - (i : Int) - 1 := by omega
    rw [e1, e2]; exact hit'
  done := fun s Q E st hQ => wpAny_pyNext_range_end hh st (by omega) fun h' he' => hQ h' s.toks fun b o hb e => he' b o (fun h => hb (by simp [h])) e
  self := fun _ _ _ _ st hQ => wpAny_pyIter_rangeiter st hQ
  alive := fun i h st b hb => by simp at hb; subst hb; exact ⟨_, st⟩

theorem Turn.zip (hh : A.handled = none) (elts : List Expr) (kk : Nat) (pos : Pos) (z TI TO i1 i2 l1 l2 : Addr) (D : ZipApart z TI TO i1 i2 l1 l2) (xs ys : Array Value) :
    Turn prog w A (.Tuple elts kk pos) z [z, TI, TO, i1, i2, l1, l2] [z, TO, i1, i2] (min xs.size ys.size)
      (fun i v h h' => ∃ T x y, v = .ref T ∧ h.get? T = none ∧ xs[i]? = some x ∧ ys[i]? = some y ∧ h'.get? T = some (tupO [x, y] 0))
      (fun i h => IsZip h z TI TO .none ∧ IsPair h TI (.ref i1) (.ref i2) ∧ (∃ a b, IsPair h TO a b) ∧ IsIt false h i1 l1 i ∧ IsIt false h i2 l2 i ∧ IsS false h l1 xs ∧ IsS false h l2 ys) where
  frame := fun i h h' hst hk => by
    revert hst; intro z__78
    refine an7 (z__78) fun hz hTI p__78_2 h1 h2 hl1 hl2 => ?_
    clear z__78
    obtain ⟨a, b, hTO⟩ := p__78_2
    exact ⟨hk z (by simp) _ hz, hk TI (by simp) _ hTI, ⟨a, b, hk TO (by simp) _ hTO⟩, h1.at fun o e => hk i1 (by simp) o e, h2.at fun o e => hk i2 (by simp) o e,
      hl1.at fun o e => hk l1 (by simp) o e, hl2.at fun o e => hk l2 (by simp) o e⟩
  item := fun i s Q E hi hst hQ => by
    revert hst; intro z__82
    refine an7 (z__82) fun hz hTI p__82_2 h1 h2 hl1 hl2 => ?_
    clear z__82
    obtain ⟨a, b, hTO⟩ := p__82_2
    have hix : i < xs.size := Nat.lt_of_lt_of_le hi (Nat.min_le_left ..)
    have hiy : i < ys.size := Nat.lt_of_lt_of_le hi (Nat.min_le_right ..)
    refine wpAny_pyNext_zip_item D hz hTI hTO h1 h2 hl1 hl2 (Array.getElem?_eq_getElem hix) (Array.getElem?_eq_getElem hiy) fun h' a1 a2 a3 a4 a5 a6 hk => ?_
    have lt : ∀ {c o}, s.heap.get? c = some o → s.heap.objs.size ≠ c := fun e => Nat.ne_of_gt (Heap.lt_size e)
    refine wpAny_letOwnedTupleGo_zip a1 fun h2' hz' hs' => ?_
    refine hQ _ h2' s.toks ⟨s.heap.objs.size, _, _, rfl, get_size _, Array.getElem?_eq_getElem hix, Array.getElem?_eq_getElem hiy, hs'.extBut _ _ (lt hz) a5⟩
      ⟨hz', hs'.extBut _ _ D.TIz (hk _ _ D.TIz D.TITO D.TIi1 D.TIi2 hTI), ⟨_, _, hs'.extBut _ _ D.TOz a2⟩, IsIt.at (k := false) a3 fun o e => hs'.extBut _ _ D.i1z e, IsIt.at (k := false) a4 fun o e => hs'.extBut _ _ D.i2z e,
        hl1.at fun o e => hs'.extBut _ _ D.l1z (hk _ o D.l1z D.l1TO D.l1i1 D.l1i2 e), hl2.at fun o e => hs'.extBut _ _ D.l2z (hk _ o D.l2z D.l2TO D.l2i1 D.l2i2 e)⟩
      fun c o hc e => hs'.extBut _ _ (fun x => hc (by simp [x])) (hk c o (fun x => hc (by simp [x])) (fun x => hc (by simp [x])) (fun x => hc (by simp [x])) (fun x => hc (by simp [x])) e)
  done := fun s Q E hst hQ => by
    revert hst; intro z__93
    refine an7 (z__93) fun hz hTI p__93_2 h1 h2 hl1 hl2 => ?_
    clear z__93
    obtain ⟨a, b, hTO⟩ := p__93_2
    refine wpAny_pyNext_zip_end hh D hz hTI hTO h1 h2 hl1 hl2 ?_ fun h' hk => hQ h' s.toks fun c o hc e => hk c o (fun x => hc (by simp [x])) (fun x => hc (by simp [x])) (fun x => hc (by simp [x])) (fun x => hc (by simp [x])) e
    by_cases q : xs.size ≤ ys.size
    · left; rw [Nat.min_eq_left q]; simp
    · right; rw [Nat.min_eq_right (by omega)]; simp
  self := fun _ _ _ _ st hQ => wpAny_pyIter_zip st.1 hQ
  alive := fun i h hst c hc => by
    revert hst; intro z__100
    refine an7 (z__100) fun hz hTI p__100_2 h1 h2 hl1 hl2 => ?_
    clear z__100
    obtain ⟨a, b, hTO⟩ := p__100_2
    simp at hc
    rcases hc with rfl | rfl | rfl | rfl | rfl | rfl | rfl
    · exact ⟨_, hz⟩
    · exact ⟨_, hTI⟩
    · exact ⟨_, hTO⟩
    · exact h1.alive
    · exact h2.alive
    · exact hl1.alive
    · exact hl2.alive

theorem Turn.enum (hh : A.handled = none) (b : Bool) (elts : List Expr) (kk : Nat) (pos : Pos) (e it l : Addr) (hei : e ≠ it) (hle : l ≠ e) (hli : l ≠ it) (items : Array Value) :
    Turn prog w A (.Tuple elts kk pos) e [e, it, l] [e, it] items.size
      (fun i v h h' => ∃ T x tk, v = .ref T ∧ h.get? T = none ∧ items[i]? = some x ∧ h'.get? T = some (tupO [.int (i : Nat) tk, x] 0))
      (fun i h => (∃ old, IsEnum h e it ((i : Nat) : Int) old) ∧ IsIt b h it l i ∧ IsS b h l items) where
  frame := fun i h h' hst hk => by
    obtain ⟨⟨old, he⟩, hi, hl⟩ := hst
    exact ⟨⟨old, hk e (by simp) _ he⟩, hi.at fun o q => hk it (by simp) o q, hl.at fun o q => hk l (by simp) o q⟩
  item := fun i s Q E hi hst hQ => by
    obtain ⟨⟨old, he⟩, hit, hl⟩ := hst
    have lt : ∀ {c o}, s.heap.get? c = some o → s.heap.objs.size ≠ c := fun e => Nat.ne_of_gt (Heap.lt_size e)
    refine enum_item he hit hl (Array.getElem?_eq_getElem hi) hei fun h' heo hit' ht' hk => ?_
    refine wpAny_letOwnedTupleGo_enum heo fun h2 he2 hs2 => ?_
    refine hQ _ h2 (s.toks + 1) ⟨s.heap.objs.size, _, s.toks, rfl, get_size _, Array.getElem?_eq_getElem hi, hs2.extBut _ _ (lt he) ht'⟩ ⟨⟨_, by exact he2⟩, hit'.at fun o q => hs2.extBut _ _ (Ne.symm hei) q, hl.at fun o q => hs2.extBut _ _ hle (hk l _ hle hli q)⟩
      fun c o hc q => hs2.extBut _ _ (fun x => hc (by simp [x])) (hk c o (fun x => hc (by simp [x])) (fun x => hc (by simp [x])) q)
  done := fun s Q E hst hQ => by
    obtain ⟨⟨old, he⟩, hit, hl⟩ := hst
    exact enum_end hh he hit hl (by simp) fun h' hk => hQ h' s.toks fun c o hc q => hk c o (fun x => hc (by simp [x])) q
  self := fun _ _ _ _ st hQ => by
    obtain ⟨⟨old, he⟩, _⟩ := st
    exact wpAny_pyIter_enum he hQ
  alive := fun i h hst c hc => by
    obtain ⟨⟨old, he⟩, hi, hl⟩ := hst
    simp at hc
    rcases hc with rfl | rfl | rfl
    · exact ⟨_, he⟩
    · exact hi.alive
    · exact hl.alive
end

/-- an iterator is ready: what it will yield, and what it leans on -/
structure IterOK (prog : Program) (w : World) (A : Around) (target : Expr) (own : Addr → Prop) (it : Value) (items : List D) (p : Nat → Bool) (s0 : Shared) (s : Shared) (W : Wd) : Prop where
  ex : ∃ I fp wr V St, it = .ref I ∧ Turn prog w A target I fp wr items.length V St ∧ St 0 s.heap ∧
    (∀ i v h h', V i v h h' → ∃ d, items[i]? = some d ∧ (Rep W.R W.ρ d v ∨ ∃ T vs ds, d = .tup ds ∧ v = .ref T ∧ h.get? T = none ∧ h'.get? T = some (tupO vs 0) ∧ RepAll W.R W.ρ ds vs)) ∧
    (∀ b ∈ wr, s0.heap.get? b = none ∧ W.R b = none ∧ ∀ n, W.ρ n ≠ some b) ∧
    (∀ b ∈ wr, b ∈ fp) ∧
    (∀ b ∈ fp, (∃ o, s.heap.get? b = some o) ∧ ¬ own b ∧ ¬ W.fr b ∧ ∀ n, W.ρ n = some b → p n = true)
  pd : ∀ n, p n = true → ∃ a, W.ρ n = some a

end Mine
end

section
set_option autoImplicit false
set_option linter.unusedVariables false
namespace Mine
open PySem

/-- a frame's own addresses: alive at s0, of no data, of no cell -/
noncomputable def OwnOK (own : Addr → Prop) (s0 : Shared) (W : Wd) : Prop := ∀ b, own b → (∃ o, s0.heap.get? b = some o) ∧ W.R b = none ∧ ∀ n, W.ρ n ≠ some b

section
variable {prog : Program} {w : World} {A : Around} {h₀ : H0} {own : Addr → Prop} {s0 s : Shared} {W0 W : Wd}

structure Fresh (own : Addr → Prop) (s0 : Shared) (W : Wd) (b : Addr) : Prop where
  dead0 : s0.heap.get? b = none
  R : W.R b = none
  ρ : ∀ n, W.ρ n ≠ some b
  own : ¬ own b
  fr : ¬ W.fr b

theorem fresh_of (S : Sim h₀ W s) (x : Step noOwn s0 W0 s W) (O : OwnOK own s0 W) {b : Addr} (hb : s.heap.get? b = none) : Fresh own s0 W b where
  dead0 := by
    cases q : s0.heap.get? b with
    | none => rfl
    | some o => obtain ⟨o', e⟩ := x.live b o q; rw [hb] at e; cases e
  R := by
    cases q : W.R b with
    | none => rfl
    | some o => have := S.frz b o q; rw [hb] at this; cases this
  ρ := fun n q => by obtain ⟨_, o, e⟩ := S.dis n b q; rw [hb] at e; cases e
  own := fun q => by
    obtain ⟨⟨o, e⟩, _⟩ := O b q
    obtain ⟨o', e'⟩ := x.live b o e; rw [hb] at e'; cases e'
  fr := S.frDead hb
theorem dead_ge {b : Addr} (hb : s.heap.objs.size ≤ b) : s.heap.get? b = none := by
  cases q : s.heap.get? b with
  | none => rfl
  | some o => exact absurd (Heap.lt_size q) (Nat.not_lt.mpr hb)

theorem lst_fp (S : Sim h₀ W s) (O : OwnOK own s0 W) {d : D} {xs : List D} {v : Value} (rd : Rep W.R W.ρ d v) (hx' : lstD W.st d = some xs) :
    ∃ l vs, v = .ref l ∧ IsS false s.heap l vs.toArray ∧ RepAll W.R W.ρ xs vs ∧ ¬ own l ∧ ¬ W.fr l ∧ ∀ n, W.ρ n = some l → pinOf d n = true := by
  refine ex3 (S.lst rd hx') fun l vs n q__40_1 => an3 q__40_1 fun e hg hr => ?_
  refine ⟨l, vs, e, ⟨_, hg, rfl, n, rfl⟩, hr, fun q => ?_, S.frNo hg (fun _ _ z => nomatch z), fun k q => ?_⟩
  · cases d with
    | list ds => obtain ⟨l', _, _, e', hR, _⟩ := rd; rw [e] at e'; cases e'; rw [(O l q).2.1] at hR; cases hR
    | loc j => obtain ⟨l', hl, e'⟩ := rd; rw [e] at e'; cases e'; exact (O l q).2.2 j hl
    | _ => simp [lstD] at hx'
  · cases d with
    | list ds => obtain ⟨l', _, _, e', hR, _⟩ := rd; rw [e] at e'; cases e'; rw [(S.dis k l q).1] at hR; cases hR
    | loc j =>
      obtain ⟨l', hl, e'⟩ := rd
      rw [e] at e'; cases e'
      have := S.inj k j l q hl
      subst this
      simp [pinOf]
    | _ => simp [lstD] at hx'
/-- what a sequence's own object must satisfy -/
theorem seq_fp (S : Sim h₀ W s) (O : OwnOK own s0 W) {d : D} {xs : List D} {v : Value} (rd : Rep W.R W.ρ d v) (hx : seqD W.st d = some xs) :
    ∃ l vs b, v = .ref l ∧ IsS b s.heap l vs.toArray ∧ RepAll W.R W.ρ xs vs ∧ ¬ own l ∧ ¬ W.fr l ∧ ∀ n, W.ρ n = some l → pinOf d n = true := by
  rcases seqD_cases hx with rfl | hx'
  · refine ex3 (id rd) fun l vs n q__59_1 => an3 q__59_1 fun e hR hr => ?_
    have hg := S.frz _ _ hR
    refine ⟨l, vs, true, e, ⟨_, hg, rfl, n, rfl⟩, hr, fun q => ?_, S.frNo hg (fun _ _ z => nomatch z), fun k q => ?_⟩
    · rw [(O l q).2.1] at hR; cases hR
    · rw [(S.dis k l q).1] at hR; cases hR
  · obtain ⟨l, vs, h⟩ := lst_fp S O rd hx'
    exact ⟨l, vs, false, h⟩

theorem pin_dom {d : D} {v : Value} (rd : Rep W.R W.ρ d v) (n : Nat) (h : pinOf d n = true) : ∃ a, W.ρ n = some a := by
  cases d with
  | loc j => obtain ⟨a, ha, _⟩ := rd; simp only [pinOf, beq_iff_eq] at h; subst h; exact ⟨a, ha⟩
  | _ => simp [pinOf] at h

theorem iter_seq {target : Expr} {d : D} {xs : List D} {v : Value} (hn : A.handled = none) (S : Sim h₀ W s) (x : Step noOwn s0 W0 s W) (O : OwnOK own s0 W) (rd : Rep W.R W.ρ d v) (hx : seqD W.st d = some xs) :
    OK prog w A h₀ noOwn (pyIter v) W s (fun it W' s' => W' = W ∧ IterOK prog w A target own it xs (pinOf d) s0 s' W) := by
  refine ex3 (seq_fp S O rd hx) fun l vs b q__74_1 => an6 q__74_1 fun e__74_3 hS hr hno hfr hpin => ?_
  subst e__74_3
  refine pyIter_S hS ?_
  obtain ⟨st, sm⟩ := S.grow (own := noOwn) (tk := s.toks) (h' := s.heap.push (itO b l)) (fun c o e => Heap.get?_push_of_some _ e)
  refine ⟨W, st, sm, rfl, ⟨s.heap.objs.size, [s.heap.objs.size, l], [s.heap.objs.size], fun i v _ _ => vs.toArray[i]? = some v, fun i h => IsIt b h s.heap.objs.size l i ∧ IsS b h l vs.toArray, rfl, ?_, ⟨IsIt.new b (Heap.get?_push_size _ rfl), hS.at fun o e => Heap.get?_push_of_some _ e⟩, ?_, ?_, ?_, ?_⟩, pin_dom rd⟩
  · have hne : l ≠ s.heap.objs.size := by obtain ⟨o, e⟩ := hS.alive; exact Nat.ne_of_lt (Heap.lt_size e)
    have := Turn.seq (prog := prog) (w := w) hn b target s.heap.objs.size l hne vs.toArray
    have e : vs.toArray.size = xs.length := by rw [List.size_toArray, hr.length]
    rw [e] at this
    exact this
  · intro i u h h' hv
    obtain ⟨d', h1, h2⟩ := hr.get' i u (by simpa using hv)
    exact ⟨d', h1, .inl h2⟩
  · intro c hc
    simp at hc; subst hc
    have f := fresh_of (own := own) S x O (get_size s.heap)
    exact ⟨f.dead0, f.R, f.ρ⟩
  · intro c hc; simp at hc; simp [hc]
  · intro c hc
    simp at hc
    rcases hc with rfl | rfl
    · have f := fresh_of (own := own) S x O (get_size s.heap)
      exact ⟨⟨_, Heap.get?_push_size _ rfl⟩, f.own, f.fr, fun n q => absurd q (f.ρ n)⟩
    · obtain ⟨o, e⟩ := hS.alive
      exact ⟨⟨o, Heap.get?_push_of_some _ e⟩, hno, hfr, hpin⟩

theorem zip_apart (I l1 l2 : Nat) (h1 : l1 < I) (h2 : l2 < I) : ZipApart (I + 4) (I + 2) (I + 3) I (I + 1) l1 l2 := by
  have p : ∀ {i j : Nat}, ¬ i = j → I + i ≠ I + j := fun h e => h (Nat.add_left_cancel e)
  have q : ∀ {l : Nat} (j : Nat), l < I → l ≠ I + j := fun j h => Nat.ne_of_lt (Nat.lt_of_lt_of_le h (Nat.le_add_right _ _))
  exact ⟨p (by decide), p (by decide), p (i := 0) (by decide), p (by decide), p (by decide), p (j := 0) (by decide), p (by decide), p (j := 0) (by decide), p (by decide), p (i := 0) (by decide),
    q 4 h1, q 3 h1, q 0 h1, q 1 h1, q 4 h2, q 3 h2, q 0 h2, q 1 h2⟩
theorem zip_reps {xs ys : List D} {us vs : List Value} (hr1 : RepAll W.R W.ρ xs us) (hr2 : RepAll W.R W.ρ ys vs) {i : Nat} {a b : Value} (h1 : us[i]? = some a) (h2 : vs[i]? = some b) :
    ∃ d, (zipL xs ys)[i]? = some d ∧ ∃ ds, d = .tup ds ∧ RepAll W.R W.ρ ds [a, b] := by
  obtain ⟨d1, e1, r1⟩ := hr1.get' i a h1
  obtain ⟨d2, e2, r2⟩ := hr2.get' i b h2
  refine ⟨.tup [d1, d2], ?_, [d1, d2], rfl, a, [b], rfl, r1, b, [], rfl, r2, rfl⟩
  have : (xs.zip ys)[i]? = some (d1, d2) := List.getElem?_zip_eq_some.mpr ⟨e1, e2⟩
  simp only [zipL, List.getElem?_map, this, Option.map_some]

theorem iter_zip {target : Expr} {d1 d2 : D} {xs ys : List D} {v1 v2 : Value} (hn : A.handled = none) (S : Sim h₀ W s) (x : Step noOwn s0 W0 s W) (O : OwnOK own s0 W) (ht : isTupE target = true)
    (r1 : Rep W.R W.ρ d1 v1) (hx : lstD W.st d1 = some xs) (r2 : Rep W.R W.ρ d2 v2) (hy : lstD W.st d2 = some ys) :
    OK prog w A h₀ noOwn (call (.type "zip") [v1, v2]) W s (fun z W' s' => W' = W ∧ OK prog w A h₀ noOwn (pyIter z) W s' (fun it W'' s'' => W'' = W ∧ IterOK prog w A target own it (zipL xs ys) (fun n => pinOf d1 n || pinOf d2 n) s0 s'' W)) := by
  obtain ⟨elts, kk, pos, rfl⟩ : ∃ elts kk pos, target = .Tuple elts kk pos := by
    cases target with
    | Tuple a b c => exact ⟨a, b, c, rfl⟩
    | _ => cases ht
  refine ex2 (lst_fp S O r1 hx) fun l1 us q__119_1 => an6 q__119_1 fun e__119_2 hS1 hr1 hno1 hfr1 hpin1 => ?_
  subst e__119_2
  refine ex2 (lst_fp S O r2 hy) fun l2 vs q__120_1 => an6 q__120_1 fun e__120_2 hS2 hr2 hno2 hfr2 hpin2 => ?_
  subst e__120_2
  refine call_zip_2 hS1 hS2 fun h' hz hTI hTO hi1 hi2 _ hk => ?_
  obtain ⟨st, sm⟩ := S.grow (own := noOwn) (tk := s.toks) hk
  refine ⟨W, st, sm, rfl, ?_⟩
  refine wpAny_pyIter_zip hz ⟨W, Step.refl _ _, sm, rfl, ?_⟩
  have lt1 : l1 < s.heap.objs.size := by obtain ⟨o, e⟩ := hS1.alive; exact Heap.lt_size e
  have lt2 : l2 < s.heap.objs.size := by obtain ⟨o, e⟩ := hS2.alive; exact Heap.lt_size e
  have fr : ∀ j, Fresh own s0 W (s.heap.objs.size + j) := fun j => fresh_of S x O (dead_ge (Nat.le_add_right _ _))
  have fr0 : Fresh own s0 W s.heap.objs.size := fr 0
  have D : ZipApart (s.heap.objs.size + 4) (s.heap.objs.size + 2) (s.heap.objs.size + 3) s.heap.objs.size (s.heap.objs.size + 1) l1 l2 := zip_apart _ _ _ lt1 lt2
  have hl : min us.toArray.size vs.toArray.size = (zipL xs ys).length := by simp [zipL, hr1.length, hr2.length]
  have TZ := Turn.zip (prog := prog) (w := w) hn elts kk pos _ _ _ _ _ l1 l2 D us.toArray vs.toArray
  rw [hl] at TZ
  refine ⟨⟨_, _, _, _, _, rfl, TZ, ⟨hz, hTI, ⟨_, _, hTO⟩, hi1, hi2, hS1.at fun o e => hk _ o e, hS2.at fun o e => hk _ o e⟩, ?_, ?_, ?_, ?_⟩, fun n q => by
    rcases Bool.or_eq_true_iff.mp q with q | q
    · exact pin_dom r1 n q
    · exact pin_dom r2 n q⟩
  · intro i u h h2 q__
    refine ex3 (q__) fun T a b q__137_1 => an5 q__137_1 fun e__137_3 hd ha hb hg => ?_
    clear q__
    subst e__137_3
    refine ex1 (zip_reps hr1 hr2 (i := i) (by simpa using ha) (by simpa using hb)) fun d q__138_1 => an2 q__138_1 fun e q__138_2 => ex1 q__138_2 fun ds q__138_3 => an2 q__138_3 fun e__138_3 hr => ?_
    subst e__138_3
    exact ⟨_, e, .inr ⟨T, [a, b], ds, rfl, rfl, hd, hg, hr⟩⟩
  · intro c hc
    simp at hc
    rcases hc with rfl | rfl | rfl | rfl
    · exact ⟨(fr 4).dead0, (fr 4).R, (fr 4).ρ⟩
    · exact ⟨(fr 3).dead0, (fr 3).R, (fr 3).ρ⟩
    · exact ⟨fr0.dead0, fr0.R, fr0.ρ⟩
    · exact ⟨(fr 1).dead0, (fr 1).R, (fr 1).ρ⟩
  · intro c hc; simp at hc; rcases hc with rfl | rfl | rfl | rfl <;> simp
  · intro c hc
    simp at hc
    rcases hc with rfl | rfl | rfl | rfl | rfl | rfl | rfl
    · exact ⟨⟨_, hz⟩, (fr 4).own, (fr 4).fr, fun n q => absurd q ((fr 4).ρ n)⟩
    · exact ⟨⟨_, hTI⟩, (fr 2).own, (fr 2).fr, fun n q => absurd q ((fr 2).ρ n)⟩
    · exact ⟨⟨_, hTO⟩, (fr 3).own, (fr 3).fr, fun n q => absurd q ((fr 3).ρ n)⟩
    · exact ⟨IsIt.alive (k := false) hi1, fr0.own, fr0.fr, fun n q => absurd q (fr0.ρ n)⟩
    · exact ⟨IsIt.alive (k := false) hi2, (fr 1).own, (fr 1).fr, fun n q => absurd q ((fr 1).ρ n)⟩
    · obtain ⟨o, e⟩ := hS1.alive
      exact ⟨⟨o, hk _ _ e⟩, hno1, hfr1, fun n q => by rw [hpin1 n q]; rfl⟩
    · obtain ⟨o, e⟩ := hS2.alive
      exact ⟨⟨o, hk _ _ e⟩, hno2, hfr2, fun n q => by rw [hpin2 n q]; simp⟩

theorem enum_reps {xs : List D} {us : List Value} (hr1 : RepAll W.R W.ρ xs us) {i : Nat} {tk : Tok} {b : Value} (h1 : us[i]? = some b) :
    ∃ d, (enumL xs)[i]? = some d ∧ ∃ ds, d = .tup ds ∧ RepAll W.R W.ρ ds [.int (i : Nat) tk, b] := by
  obtain ⟨d1, e1, r1⟩ := hr1.get' i b h1
  refine ⟨.tup [.int (i : Nat), d1], ?_, [.int (i : Nat), d1], rfl, _, [b], rfl, ⟨tk, rfl⟩, b, [], rfl, r1, rfl⟩
  simp only [enumL, List.getElem?_map, List.getElem?_zipIdx, e1, Option.map_some, Nat.zero_add]

theorem iter_enum {target : Expr} {d1 : D} {xs : List D} {v1 : Value} (hn : A.handled = none) (S : Sim h₀ W s) (x : Step noOwn s0 W0 s W) (O : OwnOK own s0 W) (ht : isTupE target = true)
    (r1 : Rep W.R W.ρ d1 v1) (hx : seqD W.st d1 = some xs) :
    OK prog w A h₀ noOwn (call (.type "enumerate") [v1]) W s (fun z W' s' => W' = W ∧ OK prog w A h₀ noOwn (pyIter z) W s' (fun it W'' s'' => W'' = W ∧ IterOK prog w A target own it (enumL xs) (pinOf d1) s0 s'' W)) := by
  obtain ⟨elts, kk, pos, rfl⟩ : ∃ elts kk pos, target = .Tuple elts kk pos := by
    cases target with
    | Tuple a b c => exact ⟨a, b, c, rfl⟩
    | _ => cases ht
  refine ex3 (seq_fp S O r1 hx) fun l1 us b q__174_1 => an6 q__174_1 fun e__174_3 hS1 hr1 hno1 hfr1 hpin1 => ?_
  subst e__174_3
  obtain ⟨ol, hol⟩ := hS1.alive
  refine call_enum hS1 fun h' he hit hk => ?_
  obtain ⟨st, sm⟩ := S.grow (own := noOwn) (tk := s.toks) hk
  refine ⟨W, st, sm, rfl, ?_⟩
  refine wpAny_pyIter_enum he ⟨W, Step.refl _ _, sm, rfl, ?_⟩
  have lt1 : l1 < s.heap.objs.size := Heap.lt_size hol
  have fr : ∀ j, Fresh own s0 W (s.heap.objs.size + j) := fun j => fresh_of S x O (dead_ge (Nat.le_add_right _ _))
  have fr0 : Fresh own s0 W s.heap.objs.size := fr 0
  have hl : us.toArray.size = (enumL xs).length := by simp [enumL, hr1.length]
  have TE := Turn.enum (prog := prog) (w := w) hn b elts kk pos (s.heap.objs.size + 1) s.heap.objs.size l1 (Nat.succ_ne_self _) (Nat.ne_of_lt (Nat.lt_succ_of_lt lt1)) (Nat.ne_of_lt lt1) us.toArray
  rw [hl] at TE
  refine ⟨⟨_, _, _, _, _, rfl, TE, ⟨⟨_, he⟩, hit, hS1.at fun o e => hk _ o e⟩, ?_, ?_, ?_, ?_⟩, pin_dom r1⟩
  · intro i u h h2 q__
    refine ex3 (q__) fun T a tk q__187_1 => an4 q__187_1 fun e__187_3 hd ha hg => ?_
    clear q__
    subst e__187_3
    refine ex1 (enum_reps (tk := tk) hr1 (i := i) (by simpa using ha)) fun d q__188_1 => an2 q__188_1 fun e q__188_2 => ex1 q__188_2 fun ds q__188_3 => an2 q__188_3 fun e__188_3 hr => ?_
    subst e__188_3
    exact ⟨_, e, .inr ⟨T, _, ds, rfl, rfl, hd, hg, hr⟩⟩
  · intro c hc
    simp at hc
    rcases hc with rfl | rfl
    · exact ⟨(fr 1).dead0, (fr 1).R, (fr 1).ρ⟩
    · exact ⟨fr0.dead0, fr0.R, fr0.ρ⟩
  · intro c hc; simp at hc; rcases hc with rfl | rfl <;> simp
  · intro c hc
    simp at hc
    rcases hc with rfl | rfl | rfl
    · exact ⟨⟨_, he⟩, (fr 1).own, (fr 1).fr, fun n q => absurd q ((fr 1).ρ n)⟩
    · exact ⟨hit.alive, fr0.own, fr0.fr, fun n q => absurd q (fr0.ρ n)⟩
    · exact ⟨⟨_, hk _ _ hol⟩, hno1, hfr1, hpin1⟩

theorem range_len (a b : Int) : (rangeL a b).length = (b - a).toNat := by simp [rangeL]
theorem range_get {a b : Int} {i : Nat} (h : i < (b - a).toNat) : (rangeL a b)[i]? = some (.int (a + i)) := by
  simp [rangeL, h]

theorem iter_range {target : Expr} {a b : Int} {r : Addr} {t u v : Tok} (hn : A.handled = none) (S : Sim h₀ W s) (x : Step noOwn s0 W0 s W) (O : OwnOK own s0 W) (ha : a ≤ lim) (ha' : -lim ≤ a) (hb : b ≤ lim) (hb' : -lim ≤ b)
    (hr : IsRange s.heap r a b 1 t u v) :
    OK prog w A h₀ noOwn (pyIter (.ref r)) W s (fun it W' s' => W' = W ∧ IterOK prog w A target own it (rangeL a b) (fun _ => false) s0 s' W) := by
  have ha1 : a ≤ 1000000 := ha
  have ha2 : -1000000 ≤ a := ha'
  have hb1 : b ≤ 1000000 := hb
  have hb2 : -1000000 ≤ b := hb'
  have hsz : Builtin.Range.rangeSize a b 1 = ((b - a).toNat : Int) := by
    unfold Builtin.Range.rangeSize
    simp
    omega
  refine wpAny_pyIter_range hr ?_ ?_
  · have f1 : ∀ z : Int, -3000000 ≤ z → z ≤ 3000000 → Builtin.Range.rangeFitsLong z = true := fun z q1 q2 => by
      unfold Builtin.Range.rangeFitsLong
      rw [Bool.and_eq_true]
      exact ⟨decide_eq_true (by omega), decide_eq_true (by omega)⟩
    unfold Builtin.Range.small
    simp only [hsz]
    rw [f1 a (by omega) (by omega), f1 b (by omega) (by omega), f1 1 (by omega) (by omega), f1 _ (by omega) (by omega)]
    simp [f1 (b + (1 - 1)) (by omega) (by omega), f1 b (by omega) (by omega)]
  · obtain ⟨st, sm⟩ := S.grow (own := noOwn) (tk := s.toks) (h' := s.heap.push { cls := .type "range_iterator", data := .fields #[rawInt a, rawInt (Builtin.Range.rangeSize a b 1), rawInt 1] }) (fun c o e => Heap.get?_push_of_some _ e)
    have TR := Turn.range (prog := prog) (w := w) hn target s.heap.objs.size a (b - a).toNat
    rw [← range_len] at TR
    have f := fresh_of (own := own) S x O (get_size s.heap)
    refine ⟨W, st, sm, rfl, ⟨_, _, _, _, _, rfl, TR, ?_, ?_, ?_, ?_, ?_⟩, fun n q => by cases q⟩
    · have := Heap.get?_push_size s.heap (o := { cls := .type "range_iterator", data := .fields #[rawInt a, rawInt (Builtin.Range.rangeSize a b 1), rawInt 1] }) rfl
      rw [range_len]
      show IsRangeIter _ _ _ _ _
      rw [hsz] at this
      rw [hsz]
      simpa using this
    · rintro i z h h' ⟨hi, tt, rfl⟩
      rw [range_len] at hi
      exact ⟨_, range_get hi, .inl ⟨tt, rfl⟩⟩
    · intro c hc; simp at hc; subst hc; exact ⟨f.dead0, f.R, f.ρ⟩
    · intro c hc; exact hc
    · intro c hc; simp at hc; subst hc
      exact ⟨⟨_, Heap.get?_push_size _ rfl⟩, f.own, f.fr, fun n q => absurd q (f.ρ n)⟩
end
end Mine
end

section
set_option autoImplicit false
set_option linter.unusedVariables false
namespace Mine
open PySem

noncomputable def FlRep (W : Wd) : Fl → Flow → Prop
  | .next, f => f = .next
  | .ret d, f => ∃ v, f = .ret v ∧ Rep W.R W.ρ d v
/-- the environment as a map of names -/
noncomputable def mT (T : Tb) (l : Ev) : Loc := fun x => lookT T l x
noncomputable def FP (own : Addr → Prop) (env : Env) (T : Tb) (K : Fl → Ev → St → Prop) : Flow → Wd → Shared → Prop :=
  fun f W s => ∃ fl l, FlRep W fl f ∧ Fram own env T.kd (mT T l) W s ∧ K fl l W.st

theorem Fram.heap {own : Addr → Prop} {env : Env} {kd : Kd} {m : Loc} {W : Wd} {s : Shared} (F : Fram own env kd m W s) {h' : Heap} {tk : Nat} (hl : ∀ o, s.heap.get? env.locals = some o → h'.get? env.locals = some o)
    (hc : ∀ y c o, env.cells.lookup y = some c → s.heap.get? c = some o → h'.get? c = some o) : Fram own env kd m W { s with heap := h', toks := tk } := by
  refine ⟨F.fn, F.gl, F.bi, F.kE, F.dbg, fun y d e => ?_, ?_, fun y c q => ?_, F.ci, F.lo, F.co, F.kF⟩
  · refine an2 (F.nm y d e) fun h1 q__17_1 => ex1 q__17_1 fun v q__17_2 => an2 q__17_2 fun h2 h3 => ?_
    exact ⟨h1, v, h2.at (fun mv e => ns_at e hl) (fun c o q e => hc y c o q e), h3⟩
  · refine ex4 (F.ns) fun mv o es ep q__19_1 => an2 q__19_1 fun ho r => ?_
    exact ⟨mv, o, es, ep, hl o ho, r⟩
  · obtain ⟨⟨v, o', e', r'⟩, h2⟩ := F.cl y c q
    exact ⟨⟨v, o', hc y c o' q e', r'⟩, h2⟩

structure LInv (h₀ : H0) (own : Addr → Prop) (s0 : Shared) (W0 : Wd) (s : Shared) (W : Wd) (p : Nat → Bool) (fp wr : List Addr) (St : Nat → Heap → Prop) (i : Nat) (W' : Wd) (s' : Shared) : Prop where
  st : Step own s0 W0 s' W'
  sm : Sim h₀ W' s'
  inv : St i s'.heap
  mR : ∀ a o, W.R a = some o → W'.R a = some o
  mρ : ∀ n a, W.ρ n = some a → W'.ρ n = some a
  wrF : ∀ b ∈ wr, s0.heap.get? b = none ∧ W'.R b = none ∧ ∀ n, W'.ρ n ≠ some b
  fpF : ∀ b ∈ fp, (∃ o, s'.heap.get? b = some o) ∧ ¬ own b ∧ ¬ W'.fr b ∧ ∀ n, W'.ρ n = some b → p n = true
  sub : ∀ b ∈ wr, b ∈ fp
  hid : ∀ n, p n = true → n < W'.st.hi ∧ W'.st.cs n = none
  kp : ∀ n a o, p n = true → W.ρ n = some a → s.heap.get? a = some o → s'.heap.get? a = some o
  po : ∀ n a, p n = true → W.ρ n = some a → ¬ own a

section
variable {h₀ : H0} {own : Addr → Prop} {s0 s s' : Shared} {W0 W W' : Wd} {p : Nat → Bool} {fp wr : List Addr} {St : Nat → Heap → Prop} {i : Nat}

theorem LInv.start (S : Sim h₀ W s) (x : Step own s0 W0 s W) (hst : St 0 s.heap) (hwr : ∀ b ∈ wr, s0.heap.get? b = none ∧ W.R b = none ∧ ∀ n, W.ρ n ≠ some b)
    (hsub : ∀ b ∈ wr, b ∈ fp) (hfp : ∀ b ∈ fp, (∃ o, s.heap.get? b = some o) ∧ ¬ own b ∧ ¬ W.fr b ∧ ∀ n, W.ρ n = some b → p n = true) (hpd : ∀ n, p n = true → ∃ a, W.ρ n = some a) (hpo : ∀ n a, p n = true → W.ρ n = some a → ¬ own a) :
    LInv h₀ own s0 W0 s W p fp wr St 0 { W with st := W.st.hide p } s where
  st := ⟨x.rest, x.keep, x.kfr, x.live, x.extR, x.extF, x.rho, x.new, x.hi, fun n hn e => by
    show (if p n then none else W.st.cs n) = none
    split
    · rfl
    · exact x.hid n hn e⟩
  sm := S.hide p
  inv := hst
  mR := fun _ _ e => e
  mρ := fun _ _ e => e
  wrF := hwr
  fpF := hfp
  sub := hsub
  hid := fun n q => ⟨let ⟨a, ha⟩ := hpd n q; S.dom n a ha, by show (if p n then none else W.st.cs n) = none; rw [q]; rfl⟩
  kp := fun _ _ _ _ _ e => e
  po := hpo

/-- the iterator moves -/
theorem LInv.next (L : LInv h₀ own s0 W0 s W p fp wr St i W' s') {h' : Heap} {tk j : Nat} (hst : St j h') (hk : ∀ b o, b ∉ wr → s'.heap.get? b = some o → h'.get? b = some o)
    (hal : ∀ b ∈ fp, ∃ o, h'.get? b = some o) : LInv h₀ own s0 W0 s W p fp wr St j W' { s' with heap := h', toks := tk } := by
  have nw : ∀ b o, s0.heap.get? b = some o → b ∉ wr := fun b o e q => by rw [(L.wrF b q).1] at e; cases e
  have nR : ∀ b o, W'.R b = some o → b ∉ wr := fun b o e q => by rw [(L.wrF b q).2.1] at e; cases e
  have nρ : ∀ n b, W'.ρ n = some b → b ∉ wr := fun n b e q => (L.wrF b q).2.2 n e
  have nf : ∀ b, W'.fr b → b ∉ wr := fun b e q => (L.fpF b (L.sub b q)).2.2.1 e
  refine ⟨⟨L.st.rest, fun b o e hm ho hf => hk b o (nw b o e) (L.st.keep b o e hm ho hf), fun b o e hf ho => (let ⟨sl, e1⟩ := L.st.kfr b o e hf ho; ⟨sl, hk b _ (nw b o e) e1⟩), fun b o e => ?_, L.st.extR, L.st.extF, L.st.rho, L.st.new, L.st.hi, L.st.hid⟩, ⟨L.sm.base, fun b o e => hk b o (nR b o e) (L.sm.frz b o e), fun n c e => ?_, fun n a e => ?_, L.sm.inj, L.sm.dom, fun b q => (let ⟨h1, h2, mv, h3⟩ := L.sm.fr b q; ⟨h1, h2, mv, ns_at h3 fun o e => hk b o (nf b q) e⟩)⟩, hst, L.mR, L.mρ, L.wrF, fun b q => ⟨hal b q, (L.fpF b q).2⟩, L.sub, L.hid, fun n a o q e1 e2 => hk a o (nρ n a (L.mρ n a e1)) (L.kp n a o q e1 e2), L.po⟩
  · obtain ⟨o', e'⟩ := L.st.live b o e
    exact ⟨o', hk b o' (nw b o e) e'⟩
  · obtain ⟨a, ha, hc⟩ := L.sm.cel n c e
    refine ⟨a, ha, ?_⟩
    exact hc.mono (fun o e => hk _ o (nρ n a ha) e) (fun _ _ e => e) fun _ _ e => e
  · obtain ⟨h1, o, h2⟩ := L.sm.dis n a e
    exact ⟨h1, o, hk a o (nρ n a e) h2⟩

/-- the iterator is done -/
theorem LInv.last (L : LInv h₀ own s0 W0 s W p fp wr St i W' s') {h' : Heap} {tk : Nat} (hk : ∀ b o, b ∉ wr → s'.heap.get? b = some o → h'.get? b = some o) :
    LInv h₀ own s0 W0 s W p [] [] (fun _ _ => True) 0 W' { s' with heap := h', toks := tk } := by
  have nw : ∀ b o, s0.heap.get? b = some o → b ∉ wr := fun b o e q => by rw [(L.wrF b q).1] at e; cases e
  have nR : ∀ b o, W'.R b = some o → b ∉ wr := fun b o e q => by rw [(L.wrF b q).2.1] at e; cases e
  have nρ : ∀ n b, W'.ρ n = some b → b ∉ wr := fun n b e q => (L.wrF b q).2.2 n e
  have nf : ∀ b, W'.fr b → b ∉ wr := fun b e q => (L.fpF b (L.sub b q)).2.2.1 e
  refine ⟨⟨L.st.rest, fun b o e hm ho hf => hk b o (nw b o e) (L.st.keep b o e hm ho hf), fun b o e hf ho => (let ⟨sl, e1⟩ := L.st.kfr b o e hf ho; ⟨sl, hk b _ (nw b o e) e1⟩), fun b o e => ?_, L.st.extR, L.st.extF, L.st.rho, L.st.new, L.st.hi, L.st.hid⟩, ⟨L.sm.base, fun b o e => hk b o (nR b o e) (L.sm.frz b o e), fun n c e => ?_, fun n a e => ?_, L.sm.inj, L.sm.dom, fun b q => (let ⟨h1, h2, mv, h3⟩ := L.sm.fr b q; ⟨h1, h2, mv, ns_at h3 fun o e => hk b o (nf b q) e⟩)⟩, trivial, L.mR, L.mρ, (fun b q => nomatch q), (fun b q => nomatch q), (fun b q => nomatch q), L.hid, fun n a o q e1 e2 => hk a o (nρ n a (L.mρ n a e1)) (L.kp n a o q e1 e2), L.po⟩
  · obtain ⟨o', e'⟩ := L.st.live b o e
    exact ⟨o', hk b o' (nw b o e) e'⟩
  · obtain ⟨a, ha, hc⟩ := L.sm.cel n c e
    refine ⟨a, ha, ?_⟩
    exact hc.mono (fun o e => hk _ o (nρ n a ha) e) (fun _ _ e => e) fun _ _ e => e
  · obtain ⟨h1, o, h2⟩ := L.sm.dis n a e
    exact ⟨h1, o, hk a o (nρ n a e) h2⟩

/-- a fresh object is frozen -/
theorem LInv.freeze (L : LInv h₀ own s0 W0 s W p fp wr St i W' s') {T : Addr} {o : Obj} (hg : s'.heap.get? T = some o) (h0 : s0.heap.get? T = none) (hR : W'.R T = none) (hρ : ∀ n, W'.ρ n ≠ some T) (hw : T ∉ wr) (hf : ¬ W'.fr T) :
    LInv h₀ own s0 W0 s W p fp wr St i { W' with R := fun b => if b = T then some o else W'.R b } s' := by
  have mono : ∀ b o', W'.R b = some o' → (if b = T then some o else W'.R b) = some o' := fun b o' e => by
    rw [if_neg (fun q => by subst q; rw [hR] at e; cases e)]; exact e
  refine ⟨⟨L.st.rest, L.st.keep, L.st.kfr, L.st.live, fun b o' e => ?_, L.st.extF, L.st.rho, L.st.new, L.st.hi, L.st.hid⟩, ⟨fun b o' e => mono b o' (L.sm.base b o' e), fun b o' e => ?_, fun n c e => ?_, fun n a e => ?_, L.sm.inj, L.sm.dom, fun b q => ⟨by
    show (if b = T then some o else W'.R b) = none
    rw [if_neg (fun z : b = T => hf (z ▸ q))]; exact (L.sm.fr b q).1, (L.sm.fr b q).2⟩⟩, L.inv, fun a o' e => mono a o' (L.mR a o' e), L.mρ, fun b q => ⟨(L.wrF b q).1, ?_, (L.wrF b q).2.2⟩, L.fpF, L.sub, L.hid, L.kp, L.po⟩
  · show (if b = T then some o else W'.R b) = W0.R b
    rw [if_neg (fun q => by subst q; rw [h0] at e; cases e)]; exact L.st.extR b o' e
  · have e1 : (if b = T then some o else W'.R b) = some o' := e
    by_cases q : b = T
    · rw [if_pos q] at e1; cases e1; subst q; exact hg
    · rw [if_neg q] at e1; exact L.sm.frz b o' e1
  · obtain ⟨a, ha, hc⟩ := L.sm.cel n c e
    refine ⟨a, ha, ?_⟩
    exact hc.mono (fun _ e => e) mono fun _ _ e => e
  · obtain ⟨h1, h2⟩ := L.sm.dis n a e
    refine ⟨?_, h2⟩
    show (if a = T then some o else W'.R a) = none
    rw [if_neg (fun q => hρ n (by rw [← q]; exact e))]; exact h1
  · show (if b = T then some o else W'.R b) = none
    rw [if_neg (fun r => hw (by rw [← r]; exact q))]; exact (L.wrF b q).2.1

/-- a piece of code runs -/
theorem LInv.go {W2 : Wd} {s2 : Shared} (S0 : Sim h₀ W0 s0) (L : LInv h₀ own s0 W0 s W p fp wr St i W' s') (hf : ∀ j h h', St j h → (∀ b ∈ fp, ∀ o, h.get? b = some o → h'.get? b = some o) → St j h') (x : Step own s' W' s2 W2) (S2 : Sim h₀ W2 s2) :
    LInv h₀ own s0 W0 s W p fp wr St i W2 s2 := by
  have kf : ∀ b ∈ fp, ∀ o, s'.heap.get? b = some o → s2.heap.get? b = some o := fun b q o e => x.keep b o e (fun n hn => (L.hid n ((L.fpF b q).2.2.2 n hn)).2) (L.fpF b q).2.1 (L.fpF b q).2.2.1
  have newF : ∀ b o, s'.heap.get? b = some o → ∀ n, W2.ρ n = some b → W'.ρ n = some b := fun b o e n q => by
    rcases x.new n b q with h | h
    · exact h
    · rw [h] at e; cases e
  refine ⟨L.st.trans S0 x, S2, hf i _ _ L.inv kf, fun a o e => x.repR L.sm a o (L.mR a o e), fun n a e => x.rho n a (L.mρ n a e), fun b q => ?_, fun b q => ?_, L.sub, fun n q => ⟨Nat.lt_of_lt_of_le (L.hid n q).1 x.hi, x.hid n (L.hid n q).1 (L.hid n q).2⟩, fun n a o q e1 e2 => ?_, L.po⟩
  · obtain ⟨o, e⟩ := (L.fpF b (L.sub b q)).1
    exact ⟨(L.wrF b q).1, by rw [x.extR b o e]; exact (L.wrF b q).2.1, fun n r => (L.wrF b q).2.2 n (newF b o e n r)⟩
  · obtain ⟨o, e⟩ := (L.fpF b q).1
    exact ⟨⟨o, kf b q o e⟩, (L.fpF b q).2.1, fun z => (L.fpF b q).2.2.1 ((x.extF b o e).mp z), fun n r => (L.fpF b q).2.2.2 n (newF b o e n r)⟩
  · have e3 := L.kp n a o q e1 e2
    refine x.keep a o e3 (fun k hk => ?_) (L.po n a q e1) fun z => (L.sm.fr a z).2.1 n (L.mρ n a e1)
    have := L.sm.inj k n a hk (L.mρ n a e1)
    subst this
    exact (L.hid k q).2

/-- the loop is over: the pinned cells are looked at again -/
theorem LInv.stop (S : Sim h₀ W s) (x : Step own s0 W0 s W) (L : LInv h₀ own s0 W0 s W p fp wr St i W' s') :
    Step own s0 W0 s' { W' with st := W'.st.back W.st p } ∧ Sim h₀ { W' with st := W'.st.back W.st p } s' := by
  refine ⟨⟨L.st.rest, L.st.keep, L.st.kfr, L.st.live, L.st.extR, L.st.extF, L.st.rho, L.st.new, L.st.hi, fun n hn e => ?_⟩, ⟨L.sm.base, L.sm.frz, fun n c e => ?_, L.sm.dis, L.sm.inj, L.sm.dom, L.sm.fr⟩⟩
  · show (if p n then W.st.cs n else W'.st.cs n) = none
    split
    · exact x.hid n hn e
    · exact L.st.hid n hn e
  · have e' : (if p n then W.st.cs n else W'.st.cs n) = some c := e
    split at e'
    · rename_i q
      obtain ⟨a, ha, hc⟩ := S.cel n c e'
      refine ⟨a, L.mρ n a ha, ?_⟩
      exact hc.mono (fun o e => L.kp n a o q ha e) L.mR L.mρ
    · exact L.sm.cel n c e'

/-- one turn: the iterator moves, and yields d -/
theorem LInv.turn {target : Expr} {prog : Program} {w : World} {A : Around} {I : Addr} {n : Nat} {V : Nat → Value → Heap → Heap → Prop} (T : Turn prog w A target I fp wr n V St)
    (L : LInv h₀ own s0 W0 s W p fp wr St i W' s') {h' : Heap} {tk : Nat} {v : Value} {d : D} (hst : St (i + 1) h') (hk : ∀ b o, b ∉ wr → s'.heap.get? b = some o → h'.get? b = some o)
    (hd : Rep W.R W.ρ d v ∨ ∃ T vs ds, d = .tup ds ∧ v = .ref T ∧ s'.heap.get? T = none ∧ h'.get? T = some (tupO vs 0) ∧ RepAll W.R W.ρ ds vs) :
    ∃ W'', LInv h₀ own s0 W0 s W p fp wr St (i + 1) W'' { s' with heap := h', toks := tk } ∧ Rep W''.R W''.ρ d v ∧ W''.st = W'.st ∧ Step (fun b => b ∈ wr) s' W' { s' with heap := h', toks := tk } W'' := by
  have L1 := L.next (tk := tk) hst hk (T.alive _ _ hst)
  have lv : ∀ b o, s'.heap.get? b = some o → ∃ o', h'.get? b = some o' := fun b o e => by
    by_cases q : b ∈ wr
    · exact T.alive _ _ hst b (L.sub b q)
    · exact ⟨o, hk b o q e⟩
  rcases hd with hd | ⟨T', vs, ds, rfl, rfl, hdead, hg, hr⟩
  · exact ⟨W', L1, Rep.mono L.mR L.mρ d v hd, rfl, ⟨rfl, rfl, rfl⟩, fun b o e _ q _ => hk b o q e, fun b o e _ q => ⟨o.slots, hk b o q e⟩, lv, fun _ _ _ => rfl, fun _ _ _ => Iff.rfl, fun _ _ e => e, fun _ _ e => .inl e, Nat.le_refl _, fun _ _ e => e⟩
  · have h0 : s0.heap.get? T' = none := by
      cases q : s0.heap.get? T' with
      | none => rfl
      | some o => obtain ⟨o', e⟩ := L.st.live T' o q; rw [hdead] at e; cases e
    have hR : W'.R T' = none := by
      cases q : W'.R T' with
      | none => rfl
      | some o => have := L.sm.frz T' o q; rw [hdead] at this; cases this
    have hρ : ∀ n, W'.ρ n ≠ some T' := fun n q => by obtain ⟨_, o, e⟩ := L.sm.dis n T' q; rw [hdead] at e; cases e
    have hw : T' ∉ wr := fun q => by obtain ⟨o, e⟩ := (L.fpF T' (L.sub T' q)).1; rw [hdead] at e; cases e
    have mono : ∀ b o', W'.R b = some o' → (if b = T' then some (tupO vs 0) else W'.R b) = some o' := fun b o' e => by
      rw [if_neg (fun q => by subst q; rw [hR] at e; cases e)]; exact e
    refine ⟨_, L1.freeze hg h0 hR hρ hw (L.sm.frDead hdead), ⟨T', vs, 0, rfl, by show (if T' = T' then some (tupO vs 0) else W'.R T') = _; rw [if_pos rfl], RepAll.mono (fun a o e => mono a o (L.mR a o e)) L.mρ ds vs hr⟩, rfl, ⟨rfl, rfl, rfl⟩, fun b o e _ q _ => hk b o q e, fun b o e _ q => ⟨o.slots, hk b o q e⟩, lv, fun b o e => ?_, fun _ _ _ => Iff.rfl, fun _ _ e => e, fun _ _ e => .inl e, Nat.le_refl _, fun _ _ e => e⟩
    show (if b = T' then some (tupO vs 0) else W'.R b) = W'.R b
    rw [if_neg (fun q => by subst q; rw [hdead] at e; cases e)]
end
end Mine
end

section
set_option autoImplicit false
set_option linter.unusedVariables false
namespace Mine
open PySem

/-- the traceback of an exception in flight -/
noncomputable def FlyT (s : Shared) (W' : Wd) (e : Addr) (s' : Shared) (vs : Array Value) : Option Value → Prop
  | none => vs[1]? = some .none
  | some fl => ∃ T oT ts, vs[1]? = some (.ref T) ∧ s.heap.get? T = none ∧ T ≠ e ∧ W'.R T = none ∧ (∀ n, W'.ρ n ≠ some T) ∧ s'.heap.get? T = some oT ∧ oT.data = .fields ts ∧ ts[3]? = some fl
/-- an exception in flight: a new record of its class, and what its traceback says -/
structure Fly (P : Option Value → Prop) (s : Shared) (W' : Wd) (e : Addr) (C : Value) (s' : Shared) : Prop where
  new : s.heap.get? e = none
  R : W'.R e = none
  ρ : ∀ n, W'.ρ n ≠ some e
  obj : ∃ oe vs a0 q, s'.heap.get? e = some oe ∧ oe.cls = C ∧ oe.data = .fields vs ∧ vs[0]? = some a0 ∧ P q ∧ FlyT s W' e s' vs q

/-- in a frame's code -/
noncomputable def inF (L : Addr) : Option Value → Prop := fun q => q = none ∨ q = some .none ∨ q = some (rawInt L)

noncomputable def FrOK (A : Around) (W : Wd) : Prop := ∃ fl, A.frames = some fl ∧ ∀ env ∈ fl, env.scope.kind ≠ .module ∧ ∃ L, env.frame = some L ∧ W.fr L

section
variable {own : Addr → Prop} {h₀ : H0} {s s' s1 : Shared} {W W' W1 : Wd} {e : Addr} {C : Value} {P : Option Value → Prop}

theorem Step.deadB (x : Step own s W s1 W1) {b : Addr} (h : s1.heap.get? b = none) : s.heap.get? b = none := by
  cases q : s.heap.get? b with
  | none => rfl
  | some o => obtain ⟨o', e⟩ := x.live b o q; rw [h] at e; cases e
theorem Sim.deadR (S : Sim h₀ W s) {b : Addr} (h : s.heap.get? b = none) : W.R b = none := by
  cases q : W.R b with
  | none => rfl
  | some o => have := S.frz b o q; rw [h] at this; cases this
theorem Sim.deadρ (S : Sim h₀ W s) {b : Addr} (h : s.heap.get? b = none) (n : Nat) : W.ρ n ≠ some b := fun q => by
  obtain ⟨_, o, e⟩ := S.dis n b q; rw [h] at e; cases e

theorem FrOK.step {A : Around} (S : Sim h₀ W s) (x : Step own s W s' W') (F : FrOK A W) : FrOK A W' := by
  obtain ⟨fl, h1, h2⟩ := F
  refine ⟨fl, h1, fun env he => ?_⟩
  refine an2 (h2 env he) fun h3 q__40_1 => ex1 q__40_1 fun L q__40_2 => an2 q__40_2 fun h4 h5 => ?_
  refine an3 (S.fr L h5) fun _ _ q__41_1 => ex1 q__41_1 fun mv hn => ?_
  obtain ⟨o, ho⟩ := ns_there hn
  exact ⟨h3, L, h4, (x.extF L o ho).mpr h5⟩

theorem Fly.back (x : Step own s W s1 W1) (f : Fly P s1 W' e C s') : Fly P s W' e C s' := by
  refine ex4 (f.obj) fun oe vs a0 q q__46_1 => an6 q__46_1 fun h1 h2 h3 h4 h5 h6 => ?_
  refine ⟨x.deadB f.new, f.R, f.ρ, oe, vs, a0, q, h1, h2, h3, h4, h5, ?_⟩
  cases q with
  | none => exact h6
  | some fl =>
    revert h6; intro z__51
    refine ex3 (z__51) fun T oT ts q__51_1 => an3 q__51_1 fun g1 g2 g3 => ?_
    clear z__51
    exact ⟨T, oT, ts, g1, x.deadB g2, g3⟩
theorem Fly.mono {P' : Option Value → Prop} (f : Fly P s W' e C s') (h : ∀ q, P q → P' q) : Fly P' s W' e C s' := by
  refine ex4 (f.obj) fun oe vs a0 q q__54_1 => an6 q__54_1 fun h1 h2 h3 h4 h5 h6 => ?_
  exact ⟨f.new, f.R, f.ρ, oe, vs, a0, q, h1, h2, h3, h4, h q h5, h6⟩

theorem Fly.get {G : Prop} (f : Fly P s W' e C s') (h : ∀ oe vs a0 q, s'.heap.get? e = some oe → oe.cls = C → oe.data = .fields vs → vs[0]? = some a0 → P q → FlyT s W' e s' vs q → G) : G := by
  refine ex4 (f.obj) fun oe vs a0 q q__58_1 => an6 q__58_1 fun h1 h2 h3 h4 h5 h6 => ?_
  exact h oe vs a0 q h1 h2 h3 h4 h5 h6
theorem FlyT.get {G : Prop} {vs : Array Value} {v : Value} (f : FlyT s W' e s' vs (some v)) (h : ∀ T oT ts, vs[1]? = some (.ref T) → s.heap.get? T = none → T ≠ e → W'.R T = none → (∀ n, W'.ρ n ≠ some T) → s'.heap.get? T = some oT → oT.data = .fields ts → ts[3]? = some v → G) : G := by
  revert f; intro z__61
  refine ex3 (z__61) fun T oT ts q__61_1 => an8 q__61_1 fun h1 h2 h3 h4 h5 h6 h7 h8 => ?_
  clear z__61
  exact h T oT ts h1 h2 h3 h4 h5 h6 h7 h8
theorem free_one (h : Heap) (a : Addr) : ∃ h' : Heap, ∀ b, h'.get? b = if b = a then none else h.get? b := by
  refine ⟨h.update a fun o => { o with data := .freed }, fun b => ?_⟩
  by_cases q : b = a
  · subst q
    rw [if_pos rfl]
    cases h
    simp only [Heap.update, Heap.get?, Array.getElem?_modify, if_true]
    split
    · rfl
    · rename_i x1 x2
      cases hx : (_ : Array Obj)[b]? with
      | none => rfl
      | some o => exact absurd (congrArg (Option.map _) hx) (x2 _ _ _)
  · rw [if_neg q, Heap.get?_update_other _ _ (Ne.symm q)]
theorem free_list (h : Heap) : ∀ S : List Addr, ∃ h' : Heap, ∀ b, h'.get? b = if b ∈ S then none else h.get? b
  | [] => ⟨h, fun b => by simp⟩
  | a :: S => by
    obtain ⟨h1, e1⟩ := free_list h S
    obtain ⟨h2, e2⟩ := free_one h1 a
    refine ⟨h2, fun b => ?_⟩
    rw [e2 b, e1 b]
    by_cases q : b = a
    · simp [q]
    · simp [q]
end

section
variable {own : Addr → Prop} {h₀ : H0} {s s' : Shared} {W W' : Wd} {e : Addr} {C : Value} {P : Option Value → Prop}

/-- what a traceback's making changes: frames up to slots, the exception and its traceback -/
structure Bas (W' : Wd) (h : Heap) (fl : List Env) (e : Addr) (TT : List Addr) (base : Heap) : Prop where
  get : ∀ b, base.get? b = if b ∈ TT ++ (e :: fl.filterMap (·.frame)) then none else h.get? b
  fr : ∀ env ∈ fl, env.scope.kind ≠ .module ∧ ∃ L, env.frame = some L ∧ W'.fr L

theorem Bas.stays {h base : Heap} {fl : List Env} {TT : List Addr} (B : Bas W' h fl e TT base) : base.StaysIn h := fun b o q => by
  rw [B.get b] at q
  split at q
  · cases q
  · exact q
theorem Bas.noneE {h base : Heap} {fl : List Env} {TT : List Addr} (B : Bas W' h fl e TT base) : base.get? e = none := by
  rw [B.get e, if_pos (by simp)]
theorem Bas.noneT {h base : Heap} {fl : List Env} {TT : List Addr} (B : Bas W' h fl e TT base) {T : Addr} (q : T ∈ TT) : base.get? T = none := by
  rw [B.get T, if_pos (by simp [q])]
theorem Bas.frames {base : Heap} {fl : List Env} {TT : List Addr} (S : Sim h₀ W' s') (B : Bas W' s'.heap fl e TT base) : s'.heap.FunFrames base fl := by
  have go : ∀ l : List Env, (∀ env ∈ l, env ∈ fl) → s'.heap.FunFrames base l := by
    intro l
    induction l with
    | nil => intro _; trivial
    | cons env r ih =>
      intro hl
      refine an2 (B.fr env (hl env (.head _))) fun h1 q__113_1 => ex1 q__113_1 fun L q__113_2 => an2 q__113_2 fun h2 h3 => ?_
      refine an3 (S.fr L h3) fun _ _ q__114_1 => ex4 q__114_1 fun mv o es ep q__114_2 => an3 q__114_2 fun h4 h5 _ => ?_
      refine ⟨h1, ⟨L, o, h2, ?_, h4, fun vs q => by rw [h5] at q; cases q⟩, ih fun x hx => hl x (.tail _ hx)⟩
      rw [B.get L, if_pos]
      simp only [List.mem_append, List.mem_cons, List.mem_filterMap]
      exact .inr (.inr ⟨env, hl env (.head _), h2⟩)
  exact go fl fun _ h => h

theorem fly_move {base h' : Heap} {fl : List Env} {TT : List Addr} {a0 v : Value} {P' : Option Value → Prop} (x : Step own s W s' W') (S' : Sim h₀ W' s') (f : Fly P s W' e C s') (B : Bas W' s'.heap fl e TT base)
    (hT : ∀ T ∈ TT, s.heap.get? T = none ∧ W'.R T = none ∧ (∀ n, W'.ρ n ≠ some T) ∧ ¬ W'.fr T) (hfe : ¬ W'.fr e)
    (k1 : base.StaysIn h') (k3 : h'.TracedAtW base e C a0 v) (k4 : s'.heap.UpToSlots h') (hP : P' (some v)) :
    Step own s W { s' with heap := h' } W' ∧ Sim h₀ W' { s' with heap := h' } ∧ Fly P' s W' e C { s' with heap := h' } := by
  have out : ∀ b o, ¬ W'.fr b → b ≠ e → b ∉ TT → s'.heap.get? b = some o → h'.get? b = some o := fun b o h1 h2 h3 q => k1 b o (by
    rw [B.get b, if_neg]
    · exact q
    · simp only [List.mem_append, List.mem_cons, List.mem_filterMap, not_or]
      refine ⟨h3, h2, ?_⟩
      rintro ⟨env, h4, h5⟩
      refine an2 (B.fr env h4) fun _ q__131_1 => ex1 q__131_1 fun L q__131_2 => an2 q__131_2 fun h6 h7 => ?_
      rw [h5] at h6; cases h6
      exact h1 h7)
  have inn : ∀ b mv, W'.fr b → s'.heap.Ns b mv → h'.Ns b mv := fun b mv _ q => k4.ns q
  have ns0 : ∀ b o, s.heap.get? b = some o → b ≠ e ∧ b ∉ TT := fun b o q => ⟨(fun z => by rw [z, f.new] at q; cases q), (fun z => by rw [(hT b z).1] at q; cases q)⟩
  refine ⟨⟨x.rest, fun b o q hm ho hf => ?_, fun b o q hf ho => ?_, fun b o q => ?_, x.extR, x.extF, x.rho, x.new, x.hi, x.hid⟩, ⟨S'.base, fun b o q => ?_, fun n c q => ?_, fun n a q => ?_, S'.inj, S'.dom, fun b q => ?_⟩, ?_⟩
  · exact out b o (fun z => hf ((x.extF b o q).mp z)) (ns0 b o q).1 (ns0 b o q).2 (x.keep b o q hm ho hf)
  · obtain ⟨sl, q1⟩ := x.kfr b o q hf ho
    refine an3 (S'.fr b ((x.extF b o q).mpr hf)) fun _ _ q__139_1 => ex4 q__139_1 fun mv o' es ep q__139_2 => an3 q__139_2 fun h1 h2 _ => ?_
    rw [q1] at h1; cases h1
    obtain ⟨sl', q2⟩ := k4 b { o with slots := sl } q1 (fun vs z => by rw [h2] at z; cases z)
    exact ⟨sl', q2⟩
  · obtain ⟨o', q1⟩ := x.live b o q
    by_cases hf : W'.fr b
    · refine an3 (S'.fr b hf) fun _ _ q__145_1 => ex1 q__145_1 fun mv h1 => ?_
      exact ns_there (inn b mv hf h1)
    · exact ⟨o', out b o' hf (ns0 b o q).1 (ns0 b o q).2 q1⟩
  · refine out b o (fun z => ?_) (fun z => ?_) (fun z => ?_) (S'.frz b o q)
    · rw [(S'.fr b z).1] at q; cases q
    · rw [z, f.R] at q; cases q
    · rw [(hT b z).2.1] at q; cases q
  · obtain ⟨a, ha, hc⟩ := S'.cel n c q
    exact ⟨a, ha, hc.mono (fun o q => out a o (fun z => (S'.fr a z).2.1 n ha) (fun z => f.ρ n (z ▸ ha)) (fun z => (hT a z).2.2.1 n ha) q) (fun _ _ q => q) fun _ _ q => q⟩
  · obtain ⟨h1, o, h2⟩ := S'.dis n a q
    exact ⟨h1, o, out a o (fun z => (S'.fr a z).2.1 n q) (fun z => f.ρ n (z ▸ q)) (fun z => (hT a z).2.2.1 n q) h2⟩
  · refine an3 (S'.fr b q) fun h1 h2 q__156_1 => ex1 q__156_1 fun mv h3 => ?_
    exact ⟨h1, h2, mv, inn b mv q h3⟩
  · revert k3; intro z__158
    refine ex5 (z__158) fun oe vs T oT ts q__158_1 => an9 q__158_1 fun g1 p__158_6 g4 g5 g6 g7 g8 g9 g10 => ?_
    clear z__158
    obtain ⟨g2, g3⟩ := p__158_6
    have hd : s.heap.get? T = none ∧ W'.R T = none ∧ ∀ n, W'.ρ n ≠ some T := by
      by_cases hf : W'.fr T
      · refine an3 (S'.fr T hf) fun _ _ q__161_1 => ex1 q__161_1 fun mv h1 => ?_
        refine ex3 (inn T mv hf h1) fun o es ep q__162_1 => an3 q__162_1 fun h2 h3 _ => ?_
        rw [g8] at h2; cases h2
        rw [g9] at h3; cases h3
      · by_cases ht : T ∈ TT
        · exact ⟨(hT T ht).1, (hT T ht).2.1, (hT T ht).2.2.1⟩
        · have hq : s'.heap.get? T = none := by
            cases q : s'.heap.get? T with
            | none => rfl
            | some o =>
              rw [B.get T, if_neg] at g6
              · rw [q] at g6; cases g6
              · simp only [List.mem_append, List.mem_cons, List.mem_filterMap, not_or]
                refine ⟨ht, g7, ?_⟩
                rintro ⟨env, h4, h5⟩
                refine an2 (B.fr env h4) fun _ q__176_1 => ex1 q__176_1 fun L q__176_2 => an2 q__176_2 fun h6 h7 => ?_
                rw [h5] at h6; cases h6
                exact hf h7
          exact ⟨x.deadB hq, S'.deadR hq, S'.deadρ hq⟩
    exact ⟨f.new, f.R, f.ρ, oe, vs, a0, some v, g1, g2, g4, g3, hP, T, oT, ts, g5, hd.1, g7, hd.2.1, hd.2.2, g8, g9, g10⟩
end

section
variable {own : Addr → Prop} {h₀ : H0} {s s' : Shared} {W W' : Wd} {e : Addr} {C : Value} {P : Option Value → Prop} {M : Model} {A : Around} {E : Value → Shared → Prop} {env : Env} {outer : List Env} {L : Addr} {Q : Unit → Shared → Prop}

theorem bas_of (S' : Sim h₀ W' s') (f : Fly P s W' e C s') (hfr : A.frames = some (env :: outer)) (F : FrOK A W') (TT : List Addr) : ∃ base, Bas W' s'.heap (env :: outer) e TT base := by
  obtain ⟨fl, h1, h2⟩ := F
  rw [hfr] at h1; cases h1
  obtain ⟨base, hb⟩ := free_list s'.heap (TT ++ (e :: (env :: outer).filterMap (·.frame)))
  exact ⟨base, hb, h2⟩
theorem fields_no (S' : Sim h₀ W' s') {b : Addr} {o : Obj} {vs : Array Value} (h : s'.heap.get? b = some o) (hd : o.data = .fields vs) : ¬ W'.fr b := S'.frNo h (by rw [hd]; exact fun _ _ z => nomatch z)

/-- a frame is left by an exception -/
theorem fly_leave (x : Step own s W s' W') (S' : Sim h₀ W' s') (f : Fly (inF L) s W' e C s') (hfr : A.frames = some (env :: outer)) (F : FrOK A W') (hf : env.frame = some L)
    (hQ : ∀ h', Step own s W { s' with heap := h' } W' → Sim h₀ W' { s' with heap := h' } → Fly (· = some .none) s W' e C { s' with heap := h' } → Q () { s' with heap := h' }) : wpAny M A (leaving env (.ref e)) Q E s' := by
  refine f.get fun oe vs a0 q g1 g2 g3 g4 g5 g6 => ?_
  have hfe := fields_no S' g1 g3
  subst g2
  cases q with
  | none =>
    obtain ⟨base, B⟩ := bas_of S' f hfr F []
    refine wpAny_leaving_firstW hfr (B.frames S') hf g1 B.stays B.noneE g3 g6 g4 ?_
    intro h' q__
    refine an4 (q__) fun k1 _ k3 k4 => ?_
    clear q__
    obtain ⟨r1, r2, r3⟩ := fly_move (P' := (· = some .none)) x S' f B (fun T h => nomatch h) hfe k1 k3 k4 rfl
    exact hQ h' r1 r2 r3
  | some v =>
    refine g6.get fun T oT ts t1 t2 t3 t4 t5 t6 t7 t8 => ?_
    obtain ⟨base, B⟩ := bas_of S' f hfr F [T]
    have hT : ∀ T' ∈ [T], s.heap.get? T' = none ∧ W'.R T' = none ∧ (∀ n, W'.ρ n ≠ some T') ∧ ¬ W'.fr T' := fun T' h => by
      rw [List.mem_singleton.mp h]; exact ⟨t2, t4, t5, fields_no S' t6 t7⟩
    have tr : s'.heap.TracedAtW base e oe.cls a0 v := ⟨oe, vs, T, oT, ts, g1, ⟨rfl, g4⟩, g3, t1, B.noneT (.head _), t3, t6, t7, t8⟩
    rcases g5 with g5 | g5 | g5
    · cases g5
    · cases g5
      refine wpAny_leaving_nextW hfr (B.frames S') hf tr B.stays B.noneE ?_
      intro h' q__
      refine an4 (q__) fun k1 _ k3 k4 => ?_
      clear q__
      obtain ⟨r1, r2, r3⟩ := fly_move (P' := (· = some .none)) x S' f B hT hfe k1 k3 k4 rfl
      exact hQ h' r1 r2 r3
    · cases g5
      unfold leaving
      refine wpAny_bind (wpAny_noteFrame_againW hf tr ?_)
      refine wpAny_landsW (l := env :: outer) ⟨B.stays, B.noneE, B.frames S', tr⟩ ?_
      rintro h' ⟨k1, _, _, k3⟩ k4
      obtain ⟨r1, r2, r3⟩ := fly_move (P' := (· = some .none)) x S' f B hT hfe k1 k3 k4 rfl
      exact hQ h' r1 r2 r3

/-- a frame is noted -/
theorem fly_note (x : Step own s W s' W') (S' : Sim h₀ W' s') (f : Fly (inF L) s W' e C s') (hfr : A.frames = some (env :: outer)) (F : FrOK A W') (hf : env.frame = some L)
    (hQ : ∀ h', Step own s W { s' with heap := h' } W' → Sim h₀ W' { s' with heap := h' } → Fly (· = some (rawInt L)) s W' e C { s' with heap := h' } → Q () { s' with heap := h' }) : wpAny M A (noteFrame (.ref e) env) Q E s' := by
  refine f.get fun oe vs a0 q g1 g2 g3 g4 g5 g6 => ?_
  have hfe := fields_no S' g1 g3
  subst g2
  cases q with
  | none =>
    obtain ⟨base, B⟩ := bas_of S' f hfr F []
    unfold noteFrame
    simp only [hf]
    refine wpAny_bind (wpAny_field g1 g3 g6 ?_)
    rw [if_neg (by decide)]
    refine wpAny_entryW hfr (B.frames S') hf g1 B.stays B.noneE g3 (Array.getElem?_eq_some_iff.mp g6).1 g4 ?_
    intro h' q__
    refine an4 (q__) fun k1 _ k3 k4 => ?_
    clear q__
    obtain ⟨r1, r2, r3⟩ := fly_move (P' := (· = some (rawInt L))) x S' f B (fun T h => nomatch h) hfe k1 k3 k4 rfl
    exact hQ h' r1 r2 r3
  | some v =>
    refine g6.get fun T oT ts t1 t2 t3 t4 t5 t6 t7 t8 => ?_
    obtain ⟨base, B⟩ := bas_of S' f hfr F [T]
    have hT : ∀ T' ∈ [T], s.heap.get? T' = none ∧ W'.R T' = none ∧ (∀ n, W'.ρ n ≠ some T') ∧ ¬ W'.fr T' := fun T' h => by
      rw [List.mem_singleton.mp h]; exact ⟨t2, t4, t5, fields_no S' t6 t7⟩
    have tr : s'.heap.TracedAtW base e oe.cls a0 v := ⟨oe, vs, T, oT, ts, g1, ⟨rfl, g4⟩, g3, t1, B.noneT (.head _), t3, t6, t7, t8⟩
    rcases g5 with g5 | g5 | g5
    · cases g5
    · cases g5
      refine wpAny_noteFrame_onW hfr (B.frames S') hf tr B.stays B.noneE ?_
      intro h' q__
      refine an4 (q__) fun k1 _ k3 k4 => ?_
      clear q__
      obtain ⟨r1, r2, r3⟩ := fly_move (P' := (· = some (rawInt L))) x S' f B hT hfe k1 k3 k4 rfl
      exact hQ h' r1 r2 r3
    · cases g5
      exact wpAny_noteFrame_againW hf tr (hQ s'.heap x S' ⟨f.new, f.R, f.ρ, oe, vs, a0, _, g1, rfl, g3, g4, rfl, T, oT, ts, t1, t2, t3, t4, t5, t6, t7, t8⟩)

/-- the exception lands -/
theorem fly_land (x : Step own s W s' W') (S' : Sim h₀ W' s') (f : Fly P s W' e C s') (hfr : A.frames = some (env :: outer)) (F : FrOK A W') (hP : ∀ q, P q → q ≠ none)
    (hQ : ∀ h', Step own s W { s' with heap := h' } W' → Sim h₀ W' { s' with heap := h' } → Fly (· = some .none) s W' e C { s' with heap := h' } → Q () { s' with heap := h' }) : wpAny M A (setFlight (.ref e) none) Q E s' := by
  refine f.get fun oe vs a0 q g1 g2 g3 g4 g5 g6 => ?_
  have hfe := fields_no S' g1 g3
  subst g2
  cases q with
  | none => exact absurd rfl (hP _ g5)
  | some v =>
    refine g6.get fun T oT ts t1 t2 t3 t4 t5 t6 t7 t8 => ?_
    obtain ⟨base, B⟩ := bas_of S' f hfr F [T]
    have hT : ∀ T' ∈ [T], s.heap.get? T' = none ∧ W'.R T' = none ∧ (∀ n, W'.ρ n ≠ some T') ∧ ¬ W'.fr T' := fun T' h => by
      rw [List.mem_singleton.mp h]; exact ⟨t2, t4, t5, fields_no S' t6 t7⟩
    refine wpAny_setFlight_noneW (l := env :: outer) B.stays (B.frames S') ⟨oe, vs, T, oT, ts, g1, ⟨rfl, g4⟩, g3, t1, B.noneT (.head _), t3, t6, t7, t8⟩ ?_
    intro h' k1 _ k3 k4
    obtain ⟨r1, r2, r3⟩ := fly_move (P' := (· = some .none)) x S' f B hT hfe k1 k3 (fun b o q1 q2 => ⟨o.slots, k4 b o q1 q2⟩) rfl
    exact hQ h' r1 r2 r3
end

/-- the exceptional end -/
noncomputable def EX (h₀ : H0) (own : Addr → Prop) (L : Addr) (s : Shared) (W : Wd) (X : XP) : Value → Shared → Prop := fun ev s' => ∃ e C W', ev = .ref e ∧ Step own s W s' W' ∧ Sim h₀ W' s' ∧ Fly (inF L) s W' e C s' ∧ X C W'.st
noncomputable def OKX (prog : Program) (w : World) (A : Around) (h₀ : H0) (own : Addr → Prop) (L : Addr) {α : Type} (t : Sem α) (W : Wd) (s : Shared) (post : α → Wd → Shared → Prop) (X : XP) : Prop :=
  wpAny (model prog w) A t (Fin' h₀ own s W post) (EX h₀ own L s W X) s

section
variable {prog : Program} {w : World} {A : Around} {h₀ : H0} {own : Addr → Prop} {L : Addr} {α β : Type} {W W1 : Wd} {s s1 : Shared} {X : XP}
theorem EX.back (S : Sim h₀ W s) (x : Step own s W s1 W1) {ev : Value} {s' : Shared} (h : EX h₀ own L s1 W1 X ev s') : EX h₀ own L s W X ev s' := by
  revert h; intro z__287
  refine ex3 (z__287) fun e C W' q__287_1 => an5 q__287_1 fun h1 h2 h3 h4 h5 => ?_
  clear z__287
  exact ⟨e, C, W', h1, x.trans S h2, h3, h4.back x, h5⟩
theorem EX.wide {own' : Addr → Prop} (h : ∀ b o, s.heap.get? b = some o → own b → own' b) {ev : Value} {s' : Shared} (q : EX h₀ own L s W X ev s') : EX h₀ own' L s W X ev s' := by
  revert q; intro z__290
  refine ex3 (z__290) fun e C W' q__290_1 => an5 q__290_1 fun h1 h2 h3 h4 h5 => ?_
  clear z__290
  exact ⟨e, C, W', h1, h2.wide h, h3, h4, h5⟩
theorem EX.wide0 {ev : Value} {s' : Shared} (q : EX h₀ noOwn L s W X ev s') : EX h₀ own L s W X ev s' := q.wide fun _ _ _ z => z.elim
theorem EX.none {ev : Value} {s' : Shared} (q : EX h₀ own L s W noX ev s') : False := by
  revert q; intro z__294
  refine ex3 (z__294) fun e C W' q__294_1 => an5 q__294_1 fun h1 h2 h3 h4 h5 => ?_
  clear z__294
  exact h5
/-- what an expression gives, taken apart -/
theorem goV {m : Sem Value} {Q : D → St → Prop} {P E : Value → Shared → Prop} (h : OKX prog w A h₀ own L m W s (VP Q) X) (f : ∀ u s1 W1 d, Step own s W s1 W1 → Sim h₀ W1 s1 → Rep W1.R W1.ρ d u → Q d W1.st → P u s1)
    (e : ∀ v s', EX h₀ own L s W X v s' → E v s') : wpAny (model prog w) A m P E s := wpAny_mono h (fun u s1 q => by obtain ⟨W1, x1, S1, d, rd, h1⟩ := q; exact f u s1 W1 d x1 S1 rd h1) e
/-- what leaves the world as it was -/
theorem goW {m : Sem α} {R : α → Wd → Shared → Prop} {P : α → Shared → Prop} {E : Value → Shared → Prop} (h : OK prog w A h₀ own m W s (fun v W' s' => W' = W ∧ R v W' s')) (f : ∀ v s1, Step own s W s1 W → Sim h₀ W s1 → R v W s1 → P v s1) :
    wpAny (model prog w) A m P E s := wpAny_mono h (fun v s1 q => by obtain ⟨W1, x1, S1, e, r⟩ := q; subst e; exact f v s1 x1 S1 r) fun _ _ e => e.elim
theorem OK.toX {t : Sem α} {post : α → Wd → Shared → Prop} (h : OK prog w A h₀ own t W s post) : OKX prog w A h₀ own L t W s post X := wpAny_mono h (fun _ _ q => q) fun _ _ q => q.elim
theorem OKX.pure {a : α} {post : α → Wd → Shared → Prop} (S : Sim h₀ W s) (h : post a W s) : OKX prog w A h₀ own L (Pure.pure a) W s post X := wpAny_pure ⟨W, Step.refl s W, S, h⟩
theorem OKX.mono {t : Sem α} {P P' : α → Wd → Shared → Prop} (h : OKX prog w A h₀ own L t W s P X) (k : ∀ v W' s', Step own s W s' W' → Sim h₀ W' s' → P v W' s' → P' v W' s') : OKX prog w A h₀ own L t W s P' X :=
  wpAny_mono h (fun v s' q => by obtain ⟨W', a, b, c⟩ := q; exact ⟨W', a, b, k v W' s' a b c⟩) fun _ _ q => q
theorem OKX.after {t : Sem α} {post : α → Wd → Shared → Prop} (S : Sim h₀ W s) (x : Step own s W s1 W1) (h : OKX prog w A h₀ own L t W1 s1 post X) : wpAny (model prog w) A t (Fin' h₀ own s W post) (EX h₀ own L s W X) s1 :=
  wpAny_mono h (fun r s' q => by obtain ⟨W', a', b', c'⟩ := q; exact ⟨W', x.trans S a', b', c'⟩) fun _ _ q => q.back S x
theorem OKX.nest {t : Sem α} {T : α → Sem β} {P : α → Wd → Shared → Prop} {post : β → Wd → Shared → Prop} (S : Sim h₀ W s) (h : OKX prog w A h₀ own L t W s P X)
    (k : ∀ v W1 s1, Step own s W s1 W1 → Sim h₀ W1 s1 → P v W1 s1 → OKX prog w A h₀ own L (T v) W1 s1 post X) :
    wpAny (model prog w) A t (fun v s1 => wpAny (model prog w) A (T v) (Fin' h₀ own s W post) (EX h₀ own L s W X) s1) (EX h₀ own L s W X) s :=
  wpAny_mono h (fun v s1 q => by obtain ⟨W1, a, b, c⟩ := q; exact OKX.after S a (k v W1 s1 a b c)) fun _ _ q => q
theorem OKX.bind {t : Sem α} {f : α → Sem β} {P : α → Wd → Shared → Prop} {post : β → Wd → Shared → Prop} (S : Sim h₀ W s) (h : OKX prog w A h₀ own L t W s P X)
    (k : ∀ v W1 s1, Step own s W s1 W1 → Sim h₀ W1 s1 → P v W1 s1 → OKX prog w A h₀ own L (f v) W1 s1 post X) : OKX prog w A h₀ own L (t >>= f) W s post X := wpAny_bind (OKX.nest S h k)
theorem OKX.holding {vs : List Value} {t : Sem α} {post : α → Wd → Shared → Prop} (h : OKX prog w A h₀ own L t W s post X) : OKX prog w A h₀ own L (holding vs t) W s post X := wpAny_holding h
theorem OKX.stand {pos : Pos} {f : Unit → Sem β} {post : β → Wd → Shared → Prop} (h : OKX prog w A h₀ own L (f ()) W s post X) : OKX prog w A h₀ own L (standAt pos >>= f) W s post X := wpAny_bind (wpAny_standAt h)
theorem OKX.ite {c : Prop} [Decidable c] {a b : Sem α} {post : α → Wd → Shared → Prop} (h1 : c → OKX prog w A h₀ own L a W s post X) (h2 : ¬ c → OKX prog w A h₀ own L b W s post X) : OKX prog w A h₀ own L (if c then a else b) W s post X := by
  by_cases q : c
  · rw [if_pos q]; exact h1 q
  · rw [if_neg q]; exact h2 q
end
end Mine
end

section
set_option autoImplicit false
set_option linter.unusedVariables false
namespace Mine
open PySem

theorem ix_inj : ∀ {N : Sc} {x y : Str} {a b : NameKind}, N.lookup x = some a → N.lookup y = some b → ixN N x = ixN N y → x = y
  | [], _, _, _, _, h, _, _ => by simp at h
  | p :: r, x, y, a, b, h1, h2, h3 => by
    rw [List.lookup_cons] at h1 h2
    unfold ixN at h3
    cases q1 : x == p.1 <;> cases q2 : y == p.1 <;> rw [q1, q2] at h3 <;> rw [q1] at h1 <;> rw [q2] at h2
    · exact ix_inj h1 h2 (Nat.succ.inj h3)
    · cases h3
    · cases h3
    · rw [beq_iff_eq.mp q1, beq_iff_eq.mp q2]
theorem pl_inv {T : Tb} {x : Str} {i : Nat} {o b : Bool} (h : T.pl x = .loc i o b) : (∃ k, T.N.lookup x = some k) ∧ ixN T.N x = i ∧ T.kd x ≠ none ∧ isOwn T.kd x = o := by
  unfold Tb.pl at h
  unfold isOwn Tb.kd
  cases q : T.N.lookup x with
  | none => rw [q] at h; cases h
  | some k =>
    rw [q] at h
    cases k <;> cases h <;> exact ⟨⟨_, rfl⟩, rfl, (fun z => nomatch z), rfl⟩
theorem pl_inj {T : Tb} {x y : Str} {i : Nat} {o b o' b' : Bool} (h1 : T.pl x = .loc i o b) (h2 : T.pl y = .loc i o' b') : x = y := by
  obtain ⟨⟨k1, a1⟩, a2, _⟩ := pl_inv h1
  obtain ⟨⟨k2, b1⟩, b2, _⟩ := pl_inv h2
  exact ix_inj a1 b1 (a2.trans b2.symm)
theorem look_ne : ∀ {l : Ev} {i j : Nat} {o : Option D}, j ≠ i → look (setE l i o) j = look l j
  | [], _, _, _, _ => rfl
  | _ :: _, 0, 0, _, h => absurd rfl h
  | _ :: _, 0, _ + 1, _, _ => rfl
  | _ :: _, _ + 1, 0, _, _ => rfl
  | _ :: l, i + 1, j + 1, _, h => look_ne (l := l) fun q => h (congrArg _ q)
theorem look_eq : ∀ {l : Ev} {i : Nat} {o : Option D} {d : D}, look (setE l i o) i = some d → o = some d
  | [], _, _, _, h => by cases h
  | _ :: _, 0, _, _, h => h
  | _ :: l, i + 1, _, _, h => look_eq (l := l) (i := i) h

section
variable {T : Tb} {l : Ev} {x : Str} {i : Nat} {b : Bool}
theorem mT_set {d : D} {y : Str} {d' : D} (h : T.pl x = .loc i true b) (hy : mT T (setE l i (some d)) y = some d') : upd (mT T l) x d y = some d' := by
  unfold mT lookT at hy
  unfold upd
  cases q : T.pl y with
  | no => rw [q] at hy; cases hy
  | gl g => rw [q] at hy; cases hy
  | loc j o b' =>
    rw [q] at hy
    by_cases z : j = i
    · subst z
      rw [if_pos (pl_inj q h)]
      exact look_eq hy
    · have hne : y ≠ x := fun w => by subst w; rw [h] at q; cases q; exact z rfl
      rw [if_neg hne]
      unfold mT lookT
      rw [q]
      exact (look_ne z).symm.trans hy
theorem mT_else {o : Option D} {y : Str} (h : T.pl x = .loc i true b) (hy : isOwn T.kd y = false) : mT T (setE l i o) y = mT T l y := by
  unfold mT lookT
  cases q : T.pl y with
  | no => rfl
  | gl g => rfl
  | loc j o' b' =>
    refine look_ne fun z => ?_
    subst z
    have := pl_inj q h
    subst this
    rw [(pl_inv h).2.2.2] at hy; cases hy
theorem mT_none {y : Str} {d' : D} (h : T.pl x = .loc i true b) (hy : mT T (setE l i none) y = some d') : mT T l y = some d' ∧ y ≠ x := by
  unfold mT lookT at hy ⊢
  cases q : T.pl y with
  | no => rw [q] at hy; cases hy
  | gl g => rw [q] at hy; cases hy
  | loc j o b' =>
    rw [q] at hy
    by_cases z : j = i
    · subst z; cases look_eq hy
    · exact ⟨(look_ne z).symm.trans hy, fun w => by subst w; rw [h] at q; cases q; exact z rfl⟩
end

section
variable {prog : Program} {w : World} {A : Around} {h₀ : H0} {own : Addr → Prop} {env : Env} {T : Tb} {l : Ev} {W : Wd} {s : Shared}

theorem ok_setN {x : Str} {d : D} {v : Value} {i : Nat} {b : Bool} (S : Sim h₀ W s) (F : Fram own env T.kd (mT T l) W s) (hx : T.pl x = .loc i true b) (hr : Rep W.R W.ρ d v) :
    OK prog w A h₀ own (bindName env x v) W s (fun _ W' s' => W' = W ∧ Fram own env T.kd (mT T (setE l i (some d))) W s') :=
  (ok_bind_name S F (pl_inv hx).2.2.2 hr).mono fun _ W1 s1 _ _ h => ⟨h.1, h.2.forget fun y d' e => mT_set hx e⟩

theorem setN_inv {x : Str} {d : D} {K : Ev → Prop} (h : setN T x d l K) : ∃ i b, T.pl x = .loc i true b ∧ K (setE l i (some d)) := by
  unfold setN at h
  cases q : T.pl x with
  | no => rw [q] at h; cases h
  | gl g => rw [q] at h; cases h
  | loc i o b =>
    rw [q] at h
    cases o with
    | false => cases h
    | true => exact ⟨i, b, rfl, h⟩

theorem tg_inv {e : Expr} {r : List Expr} {ds : List D} {K : Ev → Prop} (h : wTg T (e :: r) ds l K) : ∃ x p d ds', e = .Name x p ∧ ds = d :: ds' ∧ setN T x d l fun l1 => wTg T r ds' l1 K := by
  cases ds with
  | nil => exact h.elim
  | cons d ds =>
    cases q : nameOf e with
    | none => have h' : (match nameOf e with | some x => setN T x d l fun l1 => wTg T r ds l1 K | none => False) := h; rw [q] at h'; exact h'.elim
    | some x =>
      obtain ⟨p, rfl⟩ := name_inv q
      exact ⟨_, _, _, _, rfl, rfl, h⟩

theorem tg_ok : ∀ {es : List Expr} {ds : List D} {l : Ev} {K : Ev → Prop}, wTg T es ds l K → (assignEach es env).length = ds.length ∧ (assignEach es env).findIdx? (·.1) = none
  | [], [], _, _, _ => ⟨rfl, rfl⟩
  | [], _ :: _, _, _, h => h.elim
  | e :: r, ds, l, K, h => by
    refine ex4 (tg_inv h) fun x p d ds' q__114_1 => an3 q__114_1 fun e__114_4 e__114_5 h3 => ?_
    subst e__114_4
    subst e__114_5
    refine ex2 (setN_inv h3) fun i b q__115_1 => an2 q__115_1 fun _ h4 => ?_
    obtain ⟨h1, h2⟩ := tg_ok h4
    simp only [assignEach, List.length_cons, h1, List.findIdx?_cons, Bool.false_eq_true, if_false, h2]
    exact ⟨trivial, rfl⟩

theorem ok_inOrder : ∀ (es : List Expr) (ds : List D) (vs : List Value) (l : Ev) (K : Ev → Prop) (s : Shared), Sim h₀ W s → Fram own env T.kd (mT T l) W s → RepAll W.R W.ρ ds vs → wTg T es ds l K →
    OK prog w A h₀ own (assignInOrder ((assignEach es env).map (·.2)) vs) W s (fun _ W' s' => W' = W ∧ ∃ l', K l' ∧ Fram own env T.kd (mT T l') W s' ∧ ∀ x, isOwn T.kd x = false → mT T l' x = mT T l x) := by
  intro es
  induction es with
  | nil =>
    intro ds vs l K s S F hr h
    cases ds with
    | cons _ _ => exact h.elim
    | nil => exact PyProof.Rows.assignInOrder_nil ⟨W, Step.refl _ _, S, rfl, l, h, F, fun _ _ => rfl⟩
  | cons t r ih =>
    intro ds vs l K s S F hr h
    refine ex4 (tg_inv h) fun x p d ds' q__131_1 => an3 q__131_1 fun e__131_4 e__131_5 h3 => ?_
    subst e__131_4
    subst e__131_5
    refine ex2 (setN_inv h3) fun i b q__132_1 => an2 q__132_1 fun hx h4 => ?_
    revert hr; intro z__133
    refine ex2 (z__133) fun v ws q__133_1 => an3 q__133_1 fun e__133_2 hd hr' => ?_
    clear z__133
    subst e__133_2
    refine PyProof.Rows.assignInOrder_cons ?_
    show wpAny _ _ (standAt p >>= fun _ => bindName env x v) _ _ s
    refine wpAny_bind (wpAny_standAt ?_)
    refine OK.nest S (ok_setN S F hx hd) fun _ W1 s1 x1 S1 h1 => ?_
    obtain ⟨rfl, F1⟩ := h1
    refine (ih ds' ws _ K s1 S1 F1 hr' h4).mono fun _ W2 s2 _ _ h2 => ?_
    revert h2; intro z__140
    refine an2 (z__140) fun e q__140_1 => ex1 q__140_1 fun l' q__140_2 => an3 q__140_2 fun k1 k2 k3 => ?_
    clear z__140
    exact ⟨e, l', k1, k2, fun y hy => (k3 y hy).trans (mT_else hx hy)⟩

theorem ok_target {t : Expr} {d : D} {v : Value} {K : Ev → Prop} (hn : A.handled = none) (S : Sim h₀ W s) (F : Fram own env T.kd (mT T l) W s) (hr : Rep W.R W.ρ d v) (h : wTarget T t d l K) :
    OK prog w A h₀ own (assign t env v) W s (fun _ W' s' => W' = W ∧ ∃ l', K l' ∧ Fram own env T.kd (mT T l') W s' ∧ ∀ x, isOwn T.kd x = false → mT T l' x = mT T l x) := by
  unfold wTarget at h
  cases q : nameOf t with
  | some x =>
    rw [q] at h
    obtain ⟨p, rfl⟩ := name_inv q
    refine ex2 (setN_inv h) fun i b q__150_1 => an2 q__150_1 fun hx h => ?_
    show wpAny _ _ (standAt p >>= fun _ => bindName env x v) _ _ s
    refine wpAny_bind (wpAny_standAt ?_)
    exact (ok_setN S F hx hr).mono fun _ W1 s1 _ _ k => ⟨k.1, _, h, k.2, fun y q => mT_else hx q⟩
  | none =>
    rw [q] at h
    cases q2 : tupOf t with
    | none => rw [q2] at h; exact h.elim
    | some es =>
    rw [q2] at h
    obtain ⟨kk, p, rfl⟩ := tup_inv q2
    cases d with
    | tup ds =>
      revert hr; intro z__163
      refine ex3 (z__163) fun a vs n q__163_1 => an3 q__163_1 fun e__163_3 hR hra => ?_
      clear z__163
      subst e__163_3
      have hg := S.frz _ _ hR
      obtain ⟨t1, t2⟩ := tg_ok (env := env) h
      refine PyProof.Rows.assign_Tuple_tuple (items := vs.toArray) hn ⟨_, hg, rfl, n, rfl⟩ ?_ t2 fun h' he => ?_
      · rw [t1, List.size_toArray, hra.length]
      · have hk : ∀ b o, s.heap.get? b = some o → h'.get? b = some o := fun b o e => he b o (Nat.ne_of_lt (Heap.lt_size e)) e
        obtain ⟨st, sm⟩ := S.grow (own := own) (tk := s.toks) (h' := h') hk
        exact OK.after S st (ok_inOrder es ds vs l K _ sm (F.step0 S (S.grow (own := noOwn) (tk := s.toks) (h' := h') hk).1) hra h)
    | _ => exact h.elim

theorem OwnOK.step {own own' : Addr → Prop} {s0 s : Shared} {W0 W : Wd} (O : OwnOK own s0 W0) (x : Step own' s0 W0 s W) : OwnOK own s W := fun b hb => by
  obtain ⟨⟨o, e⟩, h2, h3⟩ := O b hb
  obtain ⟨o', e'⟩ := x.live b o e
  refine ⟨⟨o', e'⟩, (x.extR b o e).trans h2, fun n q => ?_⟩
  rcases x.new n b q with z | z
  · exact h3 n z
  · rw [z] at e; cases e
theorem OwnOK.at {own own' : Addr → Prop} {s0 s : Shared} {W0 W : Wd} (O : OwnOK own s0 W0) (x : Step own' s0 W0 s W) : OwnOK own s0 W := fun b hb => ⟨(O b hb).1, (O.step x b hb).2⟩


/-- a frame, and the frames below it -/
structure FX (A : Around) (gk : Str → Gk) (own : Addr → Prop) (env : Env) (T : Tb) (l : Ev) (W : Wd) (s : Shared) : Prop where
  f : Fram own env T.kd (mT T l) W s
  a : FrOK A W
  h : T.hq = false → A.handled = none
  g : T.gk = gk
theorem FX.step0 {gk : Str → Gk} {W' : Wd} {s' : Shared} (S : Sim h₀ W s) (F : FX A gk own env T l W s) (x : Step noOwn s W s' W') : FX A gk own env T l W' s' := ⟨F.f.step0 S x, F.a.step S x, F.h, F.g⟩
theorem FrOK.st {st' : St} (F : FrOK A W) : FrOK A { W with st := st' } := F

/-- what a loop's body does -/
noncomputable def BodyOK (prog : Program) (w : World) (A : Around) (h₀ : H0) (gk : Str → Gk) (own : Addr → Prop) (env : Env) (T : Tb) (L : Addr) (t : Expr) (body : List Stmt) (step : D → Ev → St → (Fl → Ev → St → Prop) → Prop) (X : XP) : Prop :=
  ∀ d l W s v K, Sim h₀ W s → FX A gk own env T l W s → OwnOK own s W → Rep W.R W.ρ d v → step d l W.st K →
    wpAny (model prog w) A (assign t env v) (fun _ s₂ => wpAny (model prog w) A (execs body env) (Fin' h₀ own s W (FP own env T K)) (EX h₀ own L s W X) s₂) E0 s

theorem wFor_next {step : D → Ev → St → (Fl → Ev → St → Prop) → Prop} {items : List D} {i : Nat} {d : D} {m : Ev} {st : St} {Q : Fl → Ev → St → Prop} (hd : items[i]? = some d) (h : wFor step (items.drop i) m st Q) :
    step d m st fun fl m' st' => match fl with
      | .next => wFor step (items.drop (i + 1)) m' st' Q
      | .ret d => Q (.ret d) m' st' := by
  obtain ⟨hi, rfl⟩ := List.getElem?_eq_some_iff.mp hd
  rw [List.drop_eq_getElem_cons hi] at h
  exact h

theorem ok_forLoop {gk : Str → Gk} {s0 : Shared} {W0 : Wd} {t : Expr} {body : List Stmt} {it : Value} {items : List D} {p : Nat → Bool} {K : Fl → Ev → St → Prop} {step : D → Ev → St → (Fl → Ev → St → Prop) → Prop} {m m0 : Ev} {L : Addr} {outer : List Env} {X : XP}
    (S0 : Sim h₀ W0 s0) (F0 : FX A gk own env T m0 W0 s0) (x : Step own s0 W0 s W) (S : Sim h₀ W s) (F : FX A gk own env T m W s) (I : IterOK prog w A t own it items p s0 s W)
    (O0 : OwnOK own s0 W0) (hfr : A.frames = some (env :: outer)) (hf : env.frame = some L)
    (hb : BodyOK prog w A h₀ gk own env T L t body step fun C st2 => X C (st2.back W.st p))
    (h : wFor step items m (W.st.hide p) fun fl m2 st2 => K fl m2 (st2.back W.st p)) {R : Result → Shared → Prop}
    (hR : ∀ f s', (∃ W', Step own s0 W0 s' W' ∧ Sim h₀ W' s' ∧ FP own env T K f W' s') → R (.ok f) s')
    (hE : ∀ e C W' s', Step own s0 W0 s' W' → Sim h₀ W' s' → Fly (· = some (rawInt L)) s0 W' e C s' → X C W'.st → R (.error (.ref e)) s') :
    codeAny (model prog w) A (.forLoop t it body [] env) R s := by
  obtain ⟨⟨Ia, fp, wr, V, St, rfl, Tn, hst, hV, hwr, hsub, hfp⟩, hpd⟩ := I
  have fin : ∀ {fp wr St} i W' s' fl f m', LInv h₀ own s0 W0 s W p fp wr St i W' s' → FlRep W' fl f → Fram own env T.kd (mT T m') W' s' → K fl m' (W'.st.back W.st p) → R (.ok f) s' := fun {fp wr St} i W' s' fl f m' L hf F' hK => by
    obtain ⟨x', S'⟩ := L.stop S x
    refine hR f s' ⟨_, x', S', fl, m', ?_, F'.st _, hK⟩
    cases fl <;> exact hf
  have noWr : ∀ c, (∃ o, s0.heap.get? c = some o) → c ∉ wr := fun c ⟨o, e⟩ q => by rw [(hwr c q).1] at e; cases e
  have hl0 : ∃ o, s0.heap.get? env.locals = some o := by obtain ⟨mv, o, _, _, e, _⟩ := F0.f.ns; exact ⟨o, e⟩
  have hc0 : ∀ y c, env.cells.lookup y = some c → ∃ o, s0.heap.get? c = some o := fun y c e => by obtain ⟨⟨v, o, e', _⟩, _⟩ := F0.f.cl y c e; exact ⟨o, e'⟩
  refine codeAny_forLoop_any (fun n s' => ∃ i W' m', n = items.length - i ∧ i ≤ items.length ∧ LInv h₀ own s0 W0 s W p fp wr St i W' s' ∧ FX A gk own env T m' W' s' ∧ wFor step (items.drop i) m' W'.st fun fl m2 st2 => K fl m2 (st2.back W.st p)) ?_ items.length
    ⟨0, _, m, rfl, Nat.zero_le _, LInv.start S x hst hwr hsub hfp hpd (fun n a q e z => ((O0.step x) a z).2.2 n e), ⟨F.f.st _, F.a, F.h, F.g⟩, h⟩
  intro n s' q__
  refine ex3 (q__) fun i W' m' q__223_1 => an5 q__223_1 fun e__223_3 hi LI F' hw => ?_
  clear q__
  subst e__223_3
  rcases Nat.lt_or_ge i items.length with hlt | hge
  · refine wpAny_mono (Tn.item i s' (fun v s2 => wpAny (model prog w) A (assign t env v) (fun _ s₂ => wpAny (model prog w) A (execs body env) (fun f s₃ => match f with
            | .next | .cont => ∃ m, m < items.length - i ∧ ∃ i W' m', m = items.length - i ∧ i ≤ items.length ∧ LInv h₀ own s0 W0 s W p fp wr St i W' s₃ ∧ FX A gk own env T m' W' s₃ ∧ wFor step (items.drop i) m' W'.st fun fl m2 st2 => K fl m2 (st2.back W.st p)
            | .brk => R (.ok .next) s₃
            | .ret v => R (.ok (.ret v)) s₃) (notedBy (model prog w) A env fun e s' => R (.error e) s') s₂) (notedBy (model prog w) A env fun e s' => R (.error e) s') s2) _ hlt LI.inv fun v h' tk hv hst' hk => ?_) (fun r s1 hr => ?_) fun _ _ e => e
    · obtain ⟨d, hd, hrep⟩ := hV i v _ _ hv
      refine ex1 (LI.turn Tn (tk := tk) hst' hk hrep) fun W2 q__230_1 => an4 q__230_1 fun L2 hr2 hs2 xs2 => ?_
      have F2 : FX A gk own env T m' W2 _ := ⟨F'.f.step LI.sm xs2 ⟨noWr _ hl0, fun y c e => noWr c (hc0 y c e)⟩, F'.a.step LI.sm xs2, F'.h, F'.g⟩
      have hw2 := wFor_next hd hw
      rw [← hs2] at hw2
      have main := hb d m' W2 _ v _ L2.sm F2 (O0.step L2.st) hr2 hw2
      refine wpAny_mono main (fun _ s2 h2 => ?_) fun _ _ e => e.elim
      refine wpAny_mono h2 (fun f s3 hf => ?_) fun ev s3 hx => ?_
      · revert hf; intro z__237
        refine ex1 (z__237) fun W3 q__237_1 => an3 q__237_1 fun x3 S3 q__237_2 => ex2 q__237_2 fun fl m3 q__237_3 => an3 q__237_3 fun hfl F3 hK3 => ?_
        clear z__237
        have L3 := L2.go S0 Tn.frame x3 S3
        have A3 : FrOK A W3 := F2.a.step L2.sm x3
        cases fl with
        | next => have e : f = .next := hfl; subst e; exact ⟨items.length - (i + 1), by omega, i + 1, W3, m3, rfl, hlt, L3, ⟨F3, A3, F'.h, F'.g⟩, hK3⟩
        | ret d' => obtain ⟨u, e, hu⟩ := hfl; subst e; exact fin _ _ _ (.ret d') (.ret u) m3 L3 ⟨u, rfl, hu⟩ F3 hK3
      · revert hx; intro z__243
        refine ex3 (z__243) fun e C W3 q__243_1 => an5 q__243_1 fun e__243_3 x3 S3 f3 hX => ?_
        clear z__243
        subst e__243_3
        have L3 := L2.go S0 Tn.frame x3 S3
        obtain ⟨x4, S4⟩ := L3.stop S x
        have f4 : Fly (inF L) s0 { W3 with st := W3.st.back W.st p } e C s3 := let f' := f3.back L2.st; ⟨f'.new, f'.R, f'.ρ, f'.obj⟩
        have A3 : FrOK A W3 := F2.a.step L2.sm x3
        exact fly_note x4 S4 f4 hfr A3.st hf fun h' r1 r2 r3 => hE e C _ _ r1 r2 r3 hX
    · cases r with
      | none => exact hr.elim
      | some v => exact hr
  · have e : i = items.length := Nat.le_antisymm hi hge
    subst e
    rw [List.drop_length] at hw
    refine wpAny_mono (Tn.done s' (fun s1 => wpAny (model prog w) A (execs [] env) (fun f s₃ => R (.ok f) s₃) (notedBy (model prog w) A env fun e s' => R (.error e) s') s1) _ LI.inv fun h' tk hk => ?_) (fun r s1 hr => ?_) fun _ _ e => e
    · refine wpAny_execs_nil ?_
      exact fin 0 W' _ .next .next m' (LI.last hk) rfl (F'.f.heap (fun o e => hk _ o (noWr _ hl0) e) fun y c o q e => hk _ o (noWr c (hc0 y c q)) e) hw
    · cases r with
      | none => exact hr
      | some v => exact hr.elim

/-- what a loop's exception becomes -/
theorem fly_came {s' : Shared} {W' : Wd} {e : Addr} {C : Value} {outer : List Env} {L : Addr} {E : Value → Shared → Prop} (x : Step own s W s' W') (S' : Sim h₀ W' s') (f : Fly (· = some (rawInt L)) s W' e C s') (hfr : A.frames = some (env :: outer)) (F : FrOK A W') (hf : env.frame = some L)
    (hQ : ∀ h', Step own s W { s' with heap := h' } W' → Sim h₀ W' { s' with heap := h' } → Fly (· = some (rawInt L)) s W' e C { s' with heap := h' } → E (.ref e) { s' with heap := h' }) : cameBackBy (model prog w) A env E (.ref e) s' := by
  refine f.get fun oe vs a0 q g1 g2 g3 g4 g5 g6 => ?_
  have hfe := fields_no S' g1 g3
  subst g2 g5
  revert g6; intro z__268
  refine ex3 (z__268) fun T' oT ts q__268_1 => an8 q__268_1 fun t1 t2 t3 t4 t5 t6 t7 t8 => ?_
  clear z__268
  obtain ⟨base, B⟩ := bas_of S' f hfr F [T']
  have hT : ∀ T ∈ [T'], s.heap.get? T = none ∧ W'.R T = none ∧ (∀ n, W'.ρ n ≠ some T) ∧ ¬ W'.fr T := fun T h => by
    rw [List.mem_singleton.mp h]; exact ⟨t2, t4, t5, fields_no S' t6 t7⟩
  unfold cameBackBy
  refine wpAny_bind (wpAny_field g1 g3 t1 ?_)
  rw [if_neg (show ¬ ((Value.ref T' == Value.none) = true) from Bool.false_ne_true)]
  unfold setFlight
  refine wpAny_bind (wpAny_field g1 g3 t1 ?_)
  rw [if_pos (show (Value.ref T' != Value.none) = true from by simp)]
  have hsz3 : 3 < ts.size := (Array.getElem?_eq_some_iff.mp t8).1
  refine wpAny_setField t6 t7 hsz3 ?_
  have other : ∀ b, b ≠ T' → ∀ g : Obj → Obj, (s'.heap.update T' g).get? b = s'.heap.get? b := fun b hb g => Heap.get?_update_other _ _ (Ne.symm hb)
  obtain ⟨r1, r2, r3⟩ := fly_move (P' := (· = some (rawInt L))) (v := rawInt L) (a0 := a0) (h' := s'.heap.update T' (Obj.mapFields (·.setIfInBounds 3 (env.frame.elim Value.none fun f => rawInt f)))) x S' f B hT hfe
    (fun b o q => (other b (fun z => by rw [z, B.noneT (.head _)] at q; cases q) _).trans (B.stays b o q))
    ⟨oe, vs, T', _, _, (other e (Ne.symm t3) _).trans g1, ⟨rfl, g4⟩, g3, t1, B.noneT (.head _), t3, Heap.get?_update_self _ t6 (Obj.isFreed_of_fields (Obj.data_mapFields t7 _)), Obj.data_mapFields t7 _, by simp [hsz3, hf]⟩
    (fun b o q hn => ⟨o.slots, (other b (fun z => by rw [z, t6] at q; cases q; exact hn _ t7) _).trans q⟩) rfl
  exact hQ _ r1 r2 r3
end
end Mine
end

section
set_option autoImplicit false
set_option linter.unusedVariables false
namespace Mine
open PySem

noncomputable def clo (cells : List (Str × Addr)) : List (Str × NameKind) → List (Str × Addr) → List (Str × Addr)
  | [], acc => acc
  | (x, k) :: r, acc => if k == .free then (match cells.lookup x with
    | some c => clo cells r ((x, c) :: acc)
    | none => clo cells r acc) else clo cells r acc

theorem clo_eq {env : Env} {scope : Scope} (h : ∀ p ∈ scope.names, p.2 = .free → ∃ c, env.cells.lookup p.1 = some c) : closureFor scope env = pure (clo env.cells scope.names []) := by
  have go : ∀ (l : List (Str × NameKind)) (acc : List (Str × Addr)), (∀ p ∈ l, p.2 = .free → ∃ c, env.cells.lookup p.1 = some c) →
      (forIn l acc fun (x : Str × NameKind) (cs : List (Str × Addr)) => (if x.2 == .free then (do let c ← cellOf env x.1; pure (ForInStep.yield ((x.1, c) :: cs))) else pure (ForInStep.yield cs) : Sem _)) = pure (clo env.cells l acc) := by
    intro l
    induction l with
    | nil => intro acc _; rfl
    | cons p r ih =>
      intro acc hp
      obtain ⟨x, k⟩ := p
      rw [List.forIn_cons]
      cases q : k == NameKind.free with
      | true =>
        obtain ⟨c, hc⟩ := hp (x, k) (.head _) (by simpa using q)
        have hc' : List.lookup x env.cells = some c := hc
        simp only [q, if_true, clo, hc', cellOf, pure_bind]
        exact ih _ fun p hp' => hp p (.tail _ hp')
      | false =>
        simp only [q, Bool.false_eq_true, if_false, clo, pure_bind]
        exact ih _ fun p hp' => hp p (.tail _ hp')
  unfold closureFor
  show (forIn scope.names [] _ >>= fun r => pure r) = _
  rw [bind_pure]
  exact go scope.names [] h

theorem clo_mem {cells : List (Str × Addr)} : ∀ (l : List (Str × NameKind)) (acc : List (Str × Addr)), (∀ p ∈ acc, cells.lookup p.1 = some p.2) → ∀ p ∈ clo cells l acc, cells.lookup p.1 = some p.2
  | [], _, h => h
  | (x, k) :: r, acc, h => by
    unfold clo
    split
    · split
      · rename_i c hc
        exact clo_mem r _ fun p hp => by
          rcases List.mem_cons.mp hp with rfl | hp
          · exact hc
          · exact h p hp
      · exact clo_mem r _ h
    · exact clo_mem r _ h
theorem clo_acc {cells : List (Str × Addr)} : ∀ (l : List (Str × NameKind)) (acc : List (Str × Addr)), ∀ p ∈ acc, p ∈ clo cells l acc
  | [], _, _, h => h
  | (x, k) :: r, acc, p, h => by
    unfold clo
    split
    · split
      · exact clo_acc r _ p (.tail _ h)
      · exact clo_acc r _ p h
    · exact clo_acc r _ p h
theorem clo_has {cells : List (Str × Addr)} : ∀ (l : List (Str × NameKind)) (acc : List (Str × Addr)) (x : Str) (c : Addr), (x, NameKind.free) ∈ l → cells.lookup x = some c → (x, c) ∈ clo cells l acc
  | (y, k) :: r, acc, x, c, h, hc => by
    unfold clo
    rcases List.mem_cons.mp h with e | h
    · cases e
      simp only [beq_self_eq_true, if_true, hc]
      exact clo_acc r _ _ (.head _)
    · split
      · split
        · exact clo_has r _ x c h hc
        · exact clo_has r _ x c h hc
      · exact clo_has r _ x c h hc

theorem cf_app : ∀ (l : List (Str × NameKind)) (n : Nat) (acc : List (Str × Addr)), cellsFrom n l acc = cellsFrom n l [] ++ acc
  | [], _, _ => rfl
  | (x, k) :: r, n, acc => by
    unfold cellsFrom
    split
    · rw [cf_app r (n + 1) ((x, n) :: acc), cf_app r (n + 1) [(x, n)]]; simp
    · exact cf_app r n acc
theorem cf_has : ∀ (l : List (Str × NameKind)) (n : Nat) (x : Str), (x, NameKind.cell) ∈ l → ∃ c, (x, c) ∈ cellsFrom n l []
  | (y, k) :: r, n, x, h => by
    unfold cellsFrom
    rcases List.mem_cons.mp h with e | h
    · cases e
      simp only [beq_self_eq_true, if_true]
      rw [cf_app]; exact ⟨n, by simp⟩
    · split
      · obtain ⟨c, hc⟩ := cf_has r (n + 1) x h
        rw [cf_app]; exact ⟨c, by simp [hc]⟩
      · exact cf_has r n x h
theorem cf_from : ∀ (l : List (Str × NameKind)) (n : Nat) (x : Str) (c : Addr), (x, c) ∈ cellsFrom n l [] → (x, NameKind.cell) ∈ l
  | [], _, _, _, h => by simp [cellsFrom] at h
  | (y, k) :: r, n, x, c, h => by
    unfold cellsFrom at h
    split at h
    · rename_i q
      rw [cf_app] at h
      rcases List.mem_append.mp h with h | h
      · exact .tail _ (cf_from r _ x c h)
      · simp at h; rw [h.1, beq_iff_eq.mp q]; exact .head _
    · exact .tail _ (cf_from r n x c h)

theorem lookup_mem {α : Type} : ∀ {l : List (Str × α)} {x : Str} {c : α}, (x, c) ∈ l → ∃ c', l.lookup x = some c'
  | (y, v) :: r, x, c, h => by
    rw [List.lookup_cons]
    cases q : x == y with
    | true => exact ⟨v, rfl⟩
    | false =>
      rcases List.mem_cons.mp h with e | h
      · cases e; simp at q
      · exact lookup_mem h
theorem lookup_nodup {α : Type} : ∀ {l : List (Str × α)}, (l.map (·.1)).Nodup → ∀ {x : Str} {c : α}, (x, c) ∈ l → l.lookup x = some c
  | (y, v) :: r, hn, x, c, h => by
    rw [List.lookup_cons]
    simp only [List.map_cons, List.nodup_cons] at hn
    rcases List.mem_cons.mp h with e | h
    · cases e; simp
    · cases q : x == y with
      | true => exact absurd (List.mem_map.mpr ⟨_, h, (beq_iff_eq.mp q)⟩) hn.1
      | false => exact lookup_nodup hn.2 h
theorem lookup_app {α : Type} : ∀ (l l' : List (Str × α)) (x : Str), (l ++ l').lookup x = (l.lookup x).or (l'.lookup x)
  | [], _, _ => rfl
  | (y, v) :: r, l', x => by
    rw [List.cons_append, List.lookup_cons, List.lookup_cons]
    cases q : x == y with
    | true => rfl
    | false => exact lookup_app r l' x

theorem relabel_other {env : Env} : ∀ {names : List (Str × NameKind)} {x : Str} {k : NameKind}, k ≠ .free → names.lookup x = some k →
    (names.map fun (n, k) => if (k == NameKind.free && env.scope.kind == .function && env.kindOf n == some .cell) then (n, NameKind.cell) else (n, k)).lookup x = some k
  | [], _, _, _, h => by simp at h
  | (n, k') :: r, x, k, hk, h => by
    have ih := @relabel_other env r x k hk
    show List.lookup x ((if (k' == NameKind.free && env.scope.kind == .function && env.kindOf n == some .cell) = true then (n, NameKind.cell) else (n, k')) :: _) = _
    cases hx : x == n with
    | true =>
      simp only [List.lookup_cons, hx] at h
      cases h
      simp [List.lookup_cons, hx, hk]
    | false =>
      simp only [List.lookup_cons, hx] at h
      by_cases hc : (k' == NameKind.free && env.scope.kind == .function && env.kindOf n == some .cell) = true
      · rw [if_pos hc]; simp only [List.lookup_cons, hx]; exact ih h
      · rw [if_neg hc]; simp only [List.lookup_cons, hx]; exact ih h
theorem relabel_free {env : Env} : ∀ {names : List (Str × NameKind)} {x : Str}, names.lookup x = some .free →
    (names.map fun (n, k) => if (k == NameKind.free && env.scope.kind == .function && env.kindOf n == some .cell) then (n, NameKind.cell) else (n, k)).lookup x = some .cell ∨
    (names.map fun (n, k) => if (k == NameKind.free && env.scope.kind == .function && env.kindOf n == some .cell) then (n, NameKind.cell) else (n, k)).lookup x = some .free
  | [], _, h => by simp at h
  | (n, k') :: r, x, h => by
    have ih := @relabel_free env r x
    show List.lookup x ((if (k' == NameKind.free && env.scope.kind == .function && env.kindOf n == some .cell) = true then (n, NameKind.cell) else (n, k')) :: _) = _ ∨ List.lookup x ((if (k' == NameKind.free && env.scope.kind == .function && env.kindOf n == some .cell) = true then (n, NameKind.cell) else (n, k')) :: _) = _
    cases hx : x == n with
    | true =>
      simp only [List.lookup_cons, hx] at h
      cases h
      split
      · left; simp [List.lookup_cons, hx]
      · right; simp [List.lookup_cons, hx]
    | false =>
      simp only [List.lookup_cons, hx] at h
      by_cases hc : (k' == NameKind.free && env.scope.kind == .function && env.kindOf n == some .cell) = true
      · rw [if_pos hc]; simp only [List.lookup_cons, hx]; exact ih h
      · rw [if_neg hc]; simp only [List.lookup_cons, hx]; exact ih h

noncomputable def compEnv (scope : Scope) (cl : List (Str × Addr)) (C : Addr) (env : Env) : Env :=
  { scope := relabel scope env, locals := C, globals := env.globals, cells := cellsFrom (C + 1) scope.names cl, qual := env.qual, func := none, code := env.code, frame := env.frame, builtins := env.builtins }

theorem newCompEnv {M : Model} {A : Around} {E : Value → Shared → Prop} {s : Shared} {scope : Scope} {globals : Addr} {cl : List (Str × Addr)} {qual : Str} {outer : Env} {Q : Env → Shared → Prop}
    (h : Q { scope, locals := s.heap.objs.size, globals, cells := cellsFrom (s.heap.objs.size + 1) scope.names cl, qual, func := none, code := outer.code, frame := outer.frame, builtins := outer.builtins }
      { s with heap := pushCells (s.heap.push { cls := .type "dict", data := .dict #[] }) scope.names }) :
    wpAny M A (newFunctionEnv scope globals cl [] qual none .none (some outer)) Q E s := by
  simp only [newFunctionEnv, Option.isSome_some, if_true]
  refine wpAny_bind (wpAny_alloc ?_)
  refine wpAny_bind (wpAny_layCells _ (fun name kind cells => by cases hkc : kind == NameKind.cell <;> simp [hkc]) _ _ _ _ ?_)
  rw [show ({ s with heap := s.heap.push { cls := .type "dict", data := .dict #[] } } : Shared).heap.objs.size = s.heap.objs.size + 1 from Heap.size_push ..]
  simp only [List.forIn_nil]
  exact wpAny_bind (wpAny_pure (wpAny_pure h))

section
variable {prog : Program} {w : World} {A : Around} {E : Value → Shared → Prop} {s : Shared}

theorem appendD {l : Addr} {vs : List Value} {n : Nat} {x : Value} {Q : Value → Shared → Prop} (hg : s.heap.get? l = some (lstO vs n)) (hsz : vs.length ≤ sizeLine)
    (hQ : ∀ h' k, h'.get? l = some (lstO (vs ++ [x]) k) → Heap.SameBut l s.heap h' → Q .none { s with heap := h' }) :
    wpAny (model prog w) A (call (.builtin "list.append") [.ref l, x]) Q E s := by
  refine wpAny_call_entry PySem.slot_list_append ⟨_, hg, rfl⟩ PySem.entry_list_append ?_ (args_list_append _ _)
  show wpAny _ _ (updateSeq l (·.push x) >>= fun _ => ret .none) _ _ s
  refine wpAny_bind ?_
  obtain ⟨k, hk⟩ := upd_seq (f := (·.push x)) (ws := vs ++ [x]) hg (by simp)
  refine wpAny_updateSeq hg rfl (wpAny_pure ⟨.none, rfl, hQ _ k hk (Heap.SameBut.update ..)⟩) (by simpa using hsz) (by simpa using hsz)

noncomputable abbrev tests (ifs : List Expr) (env : Env) : Sem Bool := forIn ifs true fun c r => if r = true then do let ok ← isTrue c env (eval c env); pure (ForInStep.yield ok) else pure (ForInStep.yield r)

theorem codeAny_compLoop_gen {elt target iter : Expr} {ifs : List Expr} {scope : Scope} {pos : Pos} {it acc : Value} {env : Env} {R : Result → Shared → Prop} (I : Nat → Shared → Prop)
    (turn : ∀ n s, I n s → wpAny (model prog w) A (pyNext it) (fun r s₁ => match r with
      | none => R (.ok .next) s₁
      | some v => wpAny (model prog w) A (letOwnedTupleGo target it v) (fun _ s₁' => wpAny (model prog w) A (assign target env v) (fun _ s₂ =>
          wpAny (model prog w) A (tests ifs env) (fun ok s₃ =>
            if ok = true then wpAny (model prog w) A (eval elt env) (fun x s₄ =>
              wpAny (model prog w) A (call (.builtin "list.append") [acc, x]) (fun _ s₅ => ∃ m, m < n ∧ I m s₅) (notedBy (model prog w) A env fun e s' => R (.error e) s') s₄) (notedBy (model prog w) A env fun e s' => R (.error e) s') s₃
            else ∃ m, m < n ∧ I m s₃) (notedBy (model prog w) A env fun e s' => R (.error e) s') s₂) (notedBy (model prog w) A env fun e s' => R (.error e) s') s₁') (notedBy (model prog w) A env fun e s' => R (.error e) s') s₁) (notedBy (model prog w) A env fun e s' => R (.error e) s') s)
    (n : Nat) (h : I n s) :
    codeAny (model prog w) A (.compLoop (.ListComp elt [⟨target, iter, ifs, 0⟩] scope pos) 0 it acc env) R s := by
  refine codeAny_loop rfl I (fun n s hI => ?_) n h
  show wpAny _ A ((compTurn (.ListComp elt [⟨target, iter, ifs, 0⟩] scope pos) 0 it acc env).onRaise (fun x => do noteFrame x env; theTreesLotGoes x)) _ _ s
  refine wpAny_noted ?_
  rw [compTurn_list]
  refine wpAny_bind (wpAny_standAt (wpAny_bind (wpAny_mono (turn n s hI) (fun r s₁ h₁ => ?_) fun _ _ h' => h')))
  cases r with
  | none => exact wpAny_pure h₁
  | some v =>
    refine wpAny_bind (wpAny_mono h₁ (fun _ s₁' h₁' => ?_) fun _ _ h' => h')
    refine wpAny_bind (wpAny_mono h₁' (fun _ s₂ h₂ => wpAny_bind (wpAny_mono h₂ (fun ok s₃ h₃ => ?_) fun _ _ h' => h')) fun _ _ h' => h')
    cases ok with
    | false => exact wpAny_pure ⟨rfl, h₃⟩
    | true =>
      exact wpAny_bind (wpAny_bind (wpAny_mono h₃ (fun x s₄ h₄ => wpAny_bind (wpAny_mono h₄ (fun _ s₅ h₅ => wpAny_pure (wpAny_pure ⟨rfl, h₅⟩)) fun _ _ h' => h')) fun _ _ h' => h'))
end
end Mine
end

section
set_option autoImplicit false
set_option linter.unusedVariables false
namespace Mine
open PySem

noncomputable def ScopeOk (kd : Kd) (scope : Scope) : Prop := scope.kind = .function ∧ (scope.names.map (·.1)).Nodup ∧
  ∀ p ∈ scope.names, p.1 ≠ "__debug__" ∧ p.1 ≠ "__classdict__" ∧ (p.2 = .free → kd p.1 = some .cell ∨ kd p.1 = some .free)
theorem nodupS_of : ∀ {l : List Str}, nodupS l = true → l.Nodup
  | [], _ => .nil
  | x :: r, h => by
    have h' := Bool.and_eq_true_iff.mp h
    refine List.nodup_cons.mpr ⟨fun q => ?_, nodupS_of h'.2⟩
    have := h'.1
    rw [List.contains_iff_mem.mpr q] at this; cases this
theorem scope_of {kd : Kd} {scope : Scope} (h : scopeB kd scope = true) : ScopeOk kd scope := by
  have h1 := Bool.and_eq_true_iff.mp h
  have h2 := Bool.and_eq_true_iff.mp h1.1
  refine ⟨beq_iff_eq.mp h2.1, nodupS_of h2.2, fun p hp => ?_⟩
  have h3 := List.all_eq_true.mp h1.2 p hp
  unfold scRow at h3
  have h4 := Bool.and_eq_true_iff.mp h3
  have h5 := Bool.and_eq_true_iff.mp h4.1
  refine ⟨bne_iff_ne.mp h5.1, bne_iff_ne.mp h5.2, fun q => ?_⟩
  rcases Bool.or_eq_true_iff.mp h4.2 with h6 | h6
  · rcases Bool.or_eq_true_iff.mp h6 with h7 | h7
    · rw [q] at h7; cases h7
    · exact .inl (beq_iff_eq.mp h7)
  · exact .inr (beq_iff_eq.mp h6)

section
variable {h₀ : H0} {own : Addr → Prop} {s0 s : Shared} {W0 W : Wd}

theorem Step.freeze' (x : Step own s0 W0 s W) (S : Sim h₀ W s) {T : Addr} {o : Obj} (hg : s.heap.get? T = some o) (h0 : s0.heap.get? T = none) (hR : W.R T = none) (hρ : ∀ n, W.ρ n ≠ some T) (hF : ¬ W.fr T) :
    Step own s0 W0 s { W with R := fun b => if b = T then some o else W.R b } ∧ Sim h₀ { W with R := fun b => if b = T then some o else W.R b } s := by
  have mono : ∀ b o', W.R b = some o' → (if b = T then some o else W.R b) = some o' := fun b o' e => by
    rw [if_neg (fun q => by subst q; rw [hR] at e; cases e)]; exact e
  refine ⟨⟨x.rest, x.keep, x.kfr, x.live, fun b o' e => ?_, x.extF, x.rho, x.new, x.hi, x.hid⟩, ⟨fun b o' e => mono b o' (S.base b o' e), fun b o' e => ?_, fun n c e => ?_, fun n a e => ?_, S.inj, S.dom, fun b q => ⟨by
    show (if b = T then some o else W.R b) = none
    rw [if_neg (fun z : b = T => hF (z ▸ q))]; exact (S.fr b q).1, (S.fr b q).2⟩⟩⟩
  · show (if b = T then some o else W.R b) = W0.R b
    rw [if_neg (fun q => by subst q; rw [h0] at e; cases e)]; exact x.extR b o' e
  · have e1 : (if b = T then some o else W.R b) = some o' := e
    by_cases q : b = T
    · rw [if_pos q] at e1; cases e1; subst q; exact hg
    · rw [if_neg q] at e1; exact S.frz b o' e1
  · obtain ⟨a, ha, hc⟩ := S.cel n c e
    refine ⟨a, ha, ?_⟩
    exact hc.mono (fun _ e => e) mono fun _ _ e => e
  · obtain ⟨h1, h2⟩ := S.dis n a e
    refine ⟨?_, h2⟩
    show (if a = T then some o else W.R a) = none
    rw [if_neg (fun q => hρ n (by rw [← q]; exact e))]; exact h1

theorem Step.trackC' (x : Step own s0 W0 s W) (S : Sim h₀ W s) {a : Addr} {c0 : Cell} (hg : CellIs h₀.w W.R W.ρ s.heap a c0) (h0 : s0.heap.get? a = none) (hR : W.R a = none) (na : ∀ n, W.ρ n ≠ some a) (hF : ¬ W.fr a) :
    let W' : Wd := { W with ρ := fun n => if n = W.st.hi then some a else W.ρ n, st := W.st.alloc c0 }
    Step own s0 W0 s W' ∧ Sim h₀ W' s ∧ W'.ρ W.st.hi = some a := by
  intro W'
  have old : ∀ n b, W.ρ n = some b → W'.ρ n = some b := fun n b e => by
    show (if n = W.st.hi then some a else W.ρ n) = some b
    rw [if_neg (Nat.ne_of_lt (S.dom n b e))]; exact e
  have cases' : ∀ n b, W'.ρ n = some b → (n = W.st.hi ∧ b = a) ∨ W.ρ n = some b := fun n b e => by
    by_cases q : n = W.st.hi
    · left; refine ⟨q, ?_⟩
      have : (if n = W.st.hi then some a else W.ρ n) = some b := e
      rw [if_pos q] at this; exact (Option.some.inj this).symm
    · right
      have : (if n = W.st.hi then some a else W.ρ n) = some b := e
      rwa [if_neg q] at this
  refine ⟨⟨x.rest, x.keep, x.kfr, x.live, x.extR, x.extF, fun n b e => old n b (x.rho n b e), fun n b e => ?_, Nat.le_succ_of_le x.hi, fun n hn e => ?_⟩, ⟨S.base, S.frz, fun n c e => ?_, fun n b e => ?_, fun n k' b e1 e2 => ?_, fun n b e => ?_, fun b q => ⟨(S.fr b q).1, fun n e => (by
    rcases cases' n b e with ⟨_, z⟩ | z
    · exact hF (z ▸ q)
    · exact (S.fr b q).2.1 n z), (S.fr b q).2.2⟩⟩, ?_⟩
  · rcases cases' n b e with ⟨_, rfl⟩ | h
    · exact .inr h0
    · exact x.new n b h
  · show (if n = W.st.hi then some _ else W.st.cs n) = none
    rw [if_neg (Nat.ne_of_lt (Nat.lt_of_lt_of_le hn x.hi))]; exact x.hid n hn e
  · have e' : (if n = W.st.hi then some c0 else W.st.cs n) = some c := e
    by_cases q : n = W.st.hi
    · rw [if_pos q] at e'; cases e'
      exact ⟨a, by show (if n = W.st.hi then some a else W.ρ n) = some a; rw [if_pos q], hg.mono (fun _ e => e) (fun _ _ e => e) old⟩
    · rw [if_neg q] at e'
      obtain ⟨b, hb, hc⟩ := S.cel n c e'
      refine ⟨b, old n b hb, ?_⟩
      exact hc.mono (fun _ e => e) (fun _ _ e => e) old
  · rcases cases' n b e with ⟨_, rfl⟩ | h
    · exact ⟨hR, hg.there⟩
    · exact S.dis n b h
  · rcases cases' n b e1 with ⟨q1, r1⟩ | h1
    · rcases cases' k' b e2 with ⟨q2, _⟩ | h2
      · rw [q1, q2]
      · exact absurd (r1 ▸ h2) (na k')
    · rcases cases' k' b e2 with ⟨_, r2⟩ | h2
      · exact absurd (r2 ▸ h1) (na n)
      · exact S.inj n k' b h1 h2
  · rcases cases' n b e with ⟨q, _⟩ | h
    · rw [q]; exact Nat.lt_succ_self _
    · exact Nat.lt_succ_of_lt (S.dom n b h)
  · show (if W.st.hi = W.st.hi then some a else W.ρ W.st.hi) = some a
    rw [if_pos rfl]

theorem Step.track' (x : Step own s0 W0 s W) (S : Sim h₀ W s) {a : Addr} {vs : List Value} {k : Nat} {ds : List D} (hg : s.heap.get? a = some (lstO vs k)) (h0 : s0.heap.get? a = none) (hR : W.R a = none) (na : ∀ n, W.ρ n ≠ some a) (hF : ¬ W.fr a) (hr : RepAll W.R W.ρ ds vs) :
    let W' : Wd := { W with ρ := fun n => if n = W.st.hi then some a else W.ρ n, st := W.st.alloc (.list ds) }
    Step own s0 W0 s W' ∧ Sim h₀ W' s ∧ W'.ρ W.st.hi = some a := x.trackC' (c0 := .list ds) S ⟨vs, k, hg, hr⟩ h0 hR na hF

/-- an object nobody looks at changes -/
theorem Step.dead' (x : Step own s0 W0 s W) (S : Sim h₀ W s) {C : Addr} {h' : Heap} (h0 : s0.heap.get? C = none) (hR : W.R C = none) (hρ : ∀ n, W.ρ n ≠ some C) (hF : ¬ W.fr C) (hs : ∀ b o, b ≠ C → s.heap.get? b = some o → h'.get? b = some o) :
    Step own s0 W0 { s with heap := h' } W ∧ Sim h₀ W { s with heap := h' } := by
  refine ⟨⟨x.rest, fun b o e hm ho hf => hs b o (fun q => by rw [q, h0] at e; cases e) (x.keep b o e hm ho hf), fun b o e hf ho => (let ⟨sl, e1⟩ := x.kfr b o e hf ho; ⟨sl, hs b _ (fun q => by rw [q, h0] at e; cases e) e1⟩), fun b o e => ?_, x.extR, x.extF, x.rho, x.new, x.hi, x.hid⟩, ⟨S.base, fun b o e => hs b o (fun q => by rw [q, hR] at e; cases e) (S.frz b o e), fun n c e => ?_, fun n a e => ?_, S.inj, S.dom, fun b q => (let ⟨h1, h2, mv, h3⟩ := S.fr b q; ⟨h1, h2, mv, ns_at h3 fun o e => hs b o (fun z => hF (z ▸ q)) e⟩)⟩⟩
  · obtain ⟨o', e'⟩ := x.live b o e
    exact ⟨o', hs b o' (fun q => by rw [q, h0] at e; cases e) e'⟩
  · obtain ⟨a, ha, hc⟩ := S.cel n c e
    refine ⟨a, ha, ?_⟩
    exact hc.mono (fun o e => hs a o (fun q => hρ n (by rw [← q]; exact ha)) e) (fun _ _ e => e) fun _ _ e => e
  · obtain ⟨h1, o, h2⟩ := S.dis n a e
    exact ⟨h1, o, hs a o (fun q => hρ n (by rw [← q]; exact e)) h2⟩
end

/-- the comprehension's frame -/
noncomputable def compOwn (C : Addr) (names : List (Str × NameKind)) : Addr → Prop := fun b => b = C ∨ ∃ x, (x, b) ∈ cellsFrom (C + 1) names []

section
variable {prog : Program} {w : World} {A : Around} {h₀ : H0} {own : Addr → Prop} {env : Env} {kd : Kd} {m : Loc} {s0 s : Shared} {W0 W : Wd}

noncomputable abbrev compM (scope : Scope) (m : Loc) : Loc := fun x => if scope.names.lookup x = some .free then m x else none
noncomputable abbrev compK (scope : Scope) : Kd := fun x => scope.names.lookup x

noncomputable def CompStep (prog : Program) (w : World) (A : Around) (h₀ : H0) (scope : Scope) (m : Loc) (t elt : Expr) (ifs : List Expr) (step : D → St → (Option D → St → Prop) → Prop) : Prop :=
  ∀ (own' : Addr → Prop) (cenv : Env) d W s v K, Sim h₀ W s → Fram own' cenv (compK scope) (compM scope m) W s → FrOK A W → Rep W.R W.ρ d v → step d W.st K →
    wpAny (model prog w) A (assign t cenv v) (fun _ s1 => wpAny (model prog w) A (tests ifs cenv) (fun ok s2 =>
      if ok = true then wpAny (model prog w) A (eval elt cenv) (fun x s3 => Fin' h₀ own' s W (fun x W' s' => Fram own' cenv (compK scope) (compM scope m) W' s' ∧ ∃ dx, Rep W'.R W'.ρ dx x ∧ K (some dx) W'.st) x s3) E0 s2
      else Fin' h₀ own' s W (fun (_ : Unit) W' s' => Fram own' cenv (compK scope) (compM scope m) W' s' ∧ K none W'.st) () s2) E0 s1) E0 s

theorem compFram {D C : Addr} {H : Heap} {tk : Nat} {scope : Scope} (F : Fram own env kd m W s) (S : Sim h₀ W s) (sc : ScopeOk kd scope) (hD : C = s.heap.objs.size + 1) (hDD : D = s.heap.objs.size)
    (hH : H = pushCells (((s.heap.push (lstO [] 0))).push { cls := .type "dict", data := .dict #[] }) scope.names) :
    Fram (compOwn C scope.names) (compEnv scope (clo env.cells scope.names []) C env) (compK scope) (compM scope m) W { s with heap := H, toks := tk } ∧
    (∀ b o, s.heap.get? b = some o → H.get? b = some o) ∧ H.get? D = some (lstO [] 0) ∧ (∀ b, compOwn C scope.names b → s.heap.get? b = none ∧ b ≠ D) ∧ (∀ x c, (compEnv scope (clo env.cells scope.names []) C env).cells.lookup x = some c → compOwn C scope.names c ∨ env.cells.lookup x = some c) := by
  have sz : ((s.heap.push (lstO [] 0))).objs.size = s.heap.objs.size + 1 := Heap.size_push ..
  have sz2 : (((s.heap.push (lstO [] 0))).push { cls := .type "dict", data := .dict #[] }).objs.size = s.heap.objs.size + 2 := by rw [Heap.size_push, sz]
  have ok := cellsFrom_ok scope.names (((s.heap.push (lstO [] 0))).push { cls := .type "dict", data := .dict #[] }) (s.heap.objs.size + 2) [] ⟨fun _ _ hm => (nomatch hm), List.Pairwise.nil⟩ (by rw [sz2]; exact Nat.le_refl _)
  rw [sz2, ← hH] at ok
  have hC1 : C + 1 = s.heap.objs.size + 2 := by rw [hD]
  have hkeep : ∀ b o, s.heap.get? b = some o → H.get? b = some o := fun b o e => by rw [hH]; exact pushCells_keeps _ _ b o (Heap.get?_push_of_some _ (Heap.get?_push_of_some _ e))
  have cfm : ∀ x c, (x, c) ∈ cellsFrom (C + 1) scope.names [] → H.IsCell c none ∧ s.heap.objs.size + 2 ≤ c := fun x c hm => ok.empty x c (by rw [← hC1]; exact hm)
  have clm : ∀ x c, (x, c) ∈ clo env.cells scope.names [] → env.cells.lookup x = some c := fun x c hm => clo_mem scope.names [] (fun p hp => nomatch hp) (x, c) hm
  have dead : ∀ b, s.heap.objs.size ≤ b → s.heap.get? b = none := fun b hb => dead_ge hb
  have ρd : ∀ b, s.heap.get? b = none → ∀ n, W.ρ n ≠ some b := fun b hb n q => by obtain ⟨_, o, e⟩ := S.dis n b q; rw [hb] at e; cases e
  have Rd : ∀ b, s.heap.get? b = none → W.R b = none := fun b hb => by
    cases q : W.R b with
    | none => rfl
    | some o => have := S.frz b o q; rw [hb] at this; cases this
  have hcd : ∀ x c, (x, c) ∈ cellsFrom (C + 1) scope.names [] → s.heap.get? c = none := fun x c hm => dead c (Nat.le_trans (Nat.le_add_right _ 2) (cfm x c hm).2)
  have hClt : s.heap.get? C = none := dead C (by rw [hD]; exact Nat.le_succ _)
  have hns : H.Ns C (fun _ => none) := by
    rw [hH, hD, ← sz]
    exact (Heap.Ns.new _ (.type "dict")).keeps (pushCells_keeps _ _)
  have cells : (compEnv scope (clo env.cells scope.names []) C env).cells = cellsFrom (C + 1) scope.names [] ++ clo env.cells scope.names [] := cf_app _ _ _
  have nofree : ∀ x, (x, NameKind.free) ∈ scope.names → (cellsFrom (C + 1) scope.names []).lookup x = none := fun x hx => by
    cases q : (cellsFrom (C + 1) scope.names []).lookup x with
    | none => rfl
    | some c =>
      have h1 := lookup_nodup sc.2.1 (cf_from _ _ x c (mem_of_lookup q))
      have h2 := lookup_nodup sc.2.1 hx
      rw [h1] at h2; cases h2
  have cases' : ∀ x c, (compEnv scope (clo env.cells scope.names []) C env).cells.lookup x = some c → (x, c) ∈ cellsFrom (C + 1) scope.names [] ∨ env.cells.lookup x = some c := fun x c e => by
    have := mem_of_lookup e
    rw [cells] at this
    rcases List.mem_append.mp this with h | h
    · exact .inl h
    · exact .inr (clm x c h)
  have frees : ∀ x, scope.names.lookup x = some .free → ∃ c, env.cells.lookup x = some c ∧ (compEnv scope (clo env.cells scope.names []) C env).cells.lookup x = some c := fun x hx => by
    have hm := mem_of_lookup hx
    have hout : ∃ c, env.cells.lookup x = some c := by
      rcases (sc.2.2 _ hm).2.2 rfl with q | q
      · obtain ⟨c, h, _⟩ := F.co x q; exact ⟨c, h⟩
      · exact (F.kF x q).2
    obtain ⟨c, hc⟩ := hout
    obtain ⟨c', hc'⟩ := lookup_mem (clo_has scope.names [] x c hm hc)
    have := clm x c' (mem_of_lookup hc')
    rw [hc] at this; cases this
    refine ⟨c, hc, ?_⟩
    rw [cells, lookup_app, nofree x hm, Option.none_or, hc']
  refine ⟨⟨by show (relabel scope env).kind = _; exact sc.1, F.gl, F.bi, fun x k hk hkf => relabel_other hkf hk, ⟨?_, ?_⟩, fun x d hx => ?_, ⟨_, hns⟩, fun x c e => ?_, fun x y c e1 e2 => ?_, ⟨.inl rfl, Rd C hClt, ρd C hClt⟩, fun x hx => ?_, fun x hx => ⟨relabel_free hx, let ⟨c, _, h⟩ := frees x hx; ⟨c, h⟩⟩⟩, hkeep, ?_, ?_, fun x c e => (cases' x c e).imp (fun h => .inr ⟨x, h⟩) id⟩
  · cases q : scope.names.lookup ("__debug__" : Str) with
    | none => exact q
    | some k => exact absurd rfl (sc.2.2 _ (mem_of_lookup q)).1
  · cases q : scope.names.lookup ("__classdict__" : Str) with
    | none => exact q
    | some k => exact absurd rfl (sc.2.2 _ (mem_of_lookup q)).2.1
  · have hx' : (if scope.names.lookup x = some .free then m x else none) = some d := hx
    split at hx'
    · rename_i hf
      obtain ⟨c, hc, hc'⟩ := frees x hf
      refine an2 (F.nm x d hx') fun _ q__194_1 => ex1 q__194_1 fun v q__194_2 => an2 q__194_2 fun H' hr => ?_
      have hne : compK scope x ≠ none := by show scope.names.lookup x ≠ none; rw [hf]; exact fun z => nomatch z
      refine ⟨hne, v, Or.inr ⟨relabel_free hf, c, hc', ?_⟩, hr⟩
      rcases H' with ⟨kl, _⟩ | ⟨_, c2, hc2, hv⟩
      · exfalso
        rcases (sc.2.2 _ (mem_of_lookup hf)).2.2 rfl with q | q
        · rw [F.kE x _ q (by intro z; cases z)] at kl; cases kl
        · rcases (F.kF x q).1 with z | z <;> rw [z] at kl <;> cases kl
      · rw [hc] at hc2; cases hc2
        exact hv.keeps hkeep
    · cases hx'
  · rcases cases' x c e with h | h
    · refine ⟨⟨none, (cfm x c h).1⟩, ?_, ρd c (hcd x c h)⟩
      intro q
      have h2 := (cfm x c h).2
      have q' : c = C := q
      rw [q', hD] at h2
      exact absurd h2 (by omega)
    · obtain ⟨⟨v, hv⟩, _, h3⟩ := F.cl x c h
      refine ⟨⟨v, hv.keeps hkeep⟩, ?_, h3⟩
      intro q
      have q' : c = C := q
      obtain ⟨o, e', _⟩ := hv
      rw [q', hClt] at e'; cases e'
  · rcases cases' x c e1 with h1 | h1 <;> rcases cases' y c e2 with h2 | h2
    · have := ok.apart
      rw [← hC1] at this
      exact name_of_addr this h1 h2
    · obtain ⟨⟨v, o, e', _⟩, _⟩ := F.cl y c h2
      rw [hcd x c h1] at e'; cases e'
    · obtain ⟨⟨v, o, e', _⟩, _⟩ := F.cl x c h1
      rw [hcd y c h2] at e'; cases e'
    · exact F.ci x y c h1 h2
  · have hm := mem_of_lookup hx
    obtain ⟨c, hc⟩ := cf_has scope.names (C + 1) x hm
    obtain ⟨c', hc'⟩ := lookup_mem hc
    refine ⟨c', ?_, .inr ⟨x, mem_of_lookup hc'⟩, Rd c' (hcd x c' (mem_of_lookup hc'))⟩
    rw [cells, lookup_app, hc']; rfl
  · rw [hH, hDD]
    exact pushCells_keeps _ _ _ _ (Heap.get?_push_of_some _ (Heap.get?_push_size _ rfl))
  · rintro b (rfl | ⟨x, hx⟩)
    · exact ⟨hClt, by rw [hD, hDD]; exact fun e => absurd (show (_ : Nat) = _ from e) (by omega)⟩
    · refine ⟨hcd x b hx, fun q => ?_⟩
      have h2 := (cfm x b hx).2
      rw [q, hDD] at h2
      exact absurd h2 (by omega)
end
end Mine
end

section
set_option autoImplicit false
set_option linter.unusedVariables false
namespace Mine
open PySem

theorem wComp_next {step : D → St → (Option D → St → Prop) → Prop} {items acc : List D} {i : Nat} {d : D} {st : St} {Q : List D → St → Prop} (hd : items[i]? = some d) (h : wComp step (items.drop i) acc st Q) :
    step d st fun r st' => match r with
      | some x => wComp step (items.drop (i + 1)) (acc ++ [x]) st' Q
      | none => wComp step (items.drop (i + 1)) acc st' Q := by
  obtain ⟨hi, rfl⟩ := List.getElem?_eq_some_iff.mp hd
  rw [List.drop_eq_getElem_cons hi] at h
  exact h

section
variable {prog : Program} {w : World} {A : Around} {h₀ : H0} {own : Addr → Prop} {env : Env} {kd : Kd} {m m0 : Loc} {s0 s : Shared} {W0 W : Wd}

structure CInv (A : Around) (h₀ : H0) (step : D → St → (Option D → St → Prop) → Prop) (Q' : List D → St → Prop) (scope : Scope) (m : Loc) (cenv : Env) (C D' : Addr) (s0 : Shared) (W0 : Wd) (s4 : Shared) (W : Wd) (p : Nat → Bool) (fp wr : List Addr) (St : Nat → Heap → Prop) (items : List D) (i : Nat) (W' : Wd) (acc : List D) (vs : List Value) (k : Nat) (s' : Shared) : Prop where
  le : i ≤ items.length
  len : acc.length ≤ i
  L : LInv h₀ (fun b => compOwn C scope.names b ∨ b = D') s0 W0 s4 W p fp wr St i W' s'
  F : Fram (compOwn C scope.names) cenv (compK scope) (compM scope m) W' s'
  hD : s'.heap.get? D' = some (lstO vs k)
  rep : RepAll W'.R W'.ρ acc vs
  RD : W'.R D' = none
  ρD : ∀ n, W'.ρ n ≠ some D'
  w : wComp step (items.drop i) acc W'.st Q'
  fo : FrOK A W'
  fC : ¬ W'.fr C

theorem comp_core {t elt iter : Expr} {ifs : List Expr} {scope : Scope} {pos : Pos} {it : Value} {items : List D} {p : Nat → Bool} {trk : Bool} {Q : D → St → Prop} {step : D → St → (Option D → St → Prop) → Prop}
    (S0 : Sim h₀ W0 s0) (F0 : Fram own env kd m0 W0 s0) (x : Step noOwn s0 W0 s W) (S : Sim h₀ W s) (F : Fram own env kd m W s) (FO : FrOK A W) (I : IterOK prog w A t noOwn it items p s0 s W) (hlen : items.length ≤ 2 * lim) (sc : ScopeOk kd scope)
    (hb : CompStep prog w A h₀ scope m t elt ifs step)
    (h : wComp step items [] (W.st.hide p) fun acc st5 => mkList trk acc (st5.back W.st p) Q)
    {RR : Value → Addr → Result → Shared → Prop}
    (hRR : ∀ D' C s' W', Step noOwn s0 W0 s' W' → Sim h₀ W' s' → VP Q (.ref D') W' s' → s0.heap.get? C = none → W'.R C = none → (∀ n, W'.ρ n ≠ some C) → ¬ W'.fr C → (∃ mv, s'.heap.Ns C mv) → RR (.ref D') C (.ok .next) s') :
    wpAny (model prog w) A (newList []) (fun acc s₃ => wpAny (model prog w) A (newFunctionEnv scope env.globals (clo env.cells scope.names []) [] env.qual none .none (some env)) (fun cenv s₄ =>
      codeAny (model prog w) A (.compStart (.ListComp elt [⟨t, iter, ifs, 0⟩] scope pos) 0 it acc { cenv with scope := relabel scope env }) (RR acc cenv.locals) s₄) E0 s₃) E0 s := by
  refine wpAny_newObj_type (newCompEnv ?_)
  show codeAny (model prog w) A (.compStart (.ListComp elt [⟨t, iter, ifs, 0⟩] scope pos) 0 it (.ref s.heap.objs.size) (compEnv scope (clo env.cells scope.names []) ((s.heap.push (lstO [] 0))).objs.size env)) (RR (.ref s.heap.objs.size) ((s.heap.push (lstO [] 0))).objs.size) { s with heap := pushCells (((s.heap.push (lstO [] 0))).push { cls := .type "dict", data := .dict #[] }) scope.names }
  have sz : ((s.heap.push (lstO [] 0))).objs.size = s.heap.objs.size + 1 := Heap.size_push ..
  generalize hC : s.heap.objs.size + 1 = C at sz
  generalize hD' : s.heap.objs.size = D'
  generalize hH : pushCells (((s.heap.push (lstO [] 0))).push { cls := .type "dict", data := .dict #[] }) scope.names = H
  refine an5 (compFram (D := D') (C := C) (H := H) (tk := s.toks) F S sc hC.symm hD'.symm hH.symm) fun Fc hkeep hgD hownd hcl => ?_
  rw [sz]
  generalize hcenv : compEnv scope (clo env.cells scope.names []) C env = cenv at Fc hcl
  have hloc : cenv.locals = C := by rw [← hcenv]; rfl
  have dD : s.heap.get? D' = none := dead_ge (by rw [hD']; exact Nat.le_refl _)
  obtain ⟨g, Sg⟩ := S.grow (own := noOwn) (tk := s.toks) hkeep
  have dead0 : ∀ b, s.heap.get? b = none → s0.heap.get? b = none := fun b hb => by
    cases q : s0.heap.get? b with
    | none => rfl
    | some o => obtain ⟨o', e⟩ := x.live b o q; rw [hb] at e; cases e
  obtain ⟨⟨Ia, fp, wr, V, St, rfl, T, hst, hV, hwr, hsub, hfp⟩, hpd⟩ := I
  have ownd : ∀ b, (compOwn C scope.names b ∨ b = D') → s.heap.get? b = none := fun b hb => by
    rcases hb with hb | rfl
    · exact (hownd b hb).1
    · exact dD
  have wrs : ∀ b ∈ wr, ∃ o, s.heap.get? b = some o := fun b hb => (hfp b (hsub b hb)).1
  have nwr : ∀ b, s.heap.get? b = none → b ∉ wr := fun b hb q => by obtain ⟨o, e⟩ := wrs b q; rw [hb] at e; cases e
  have hst' : St 0 H := T.frame 0 _ _ hst fun b _ o e => hkeep b o e
  have x4 : Step (fun b => compOwn C scope.names b ∨ b = D') s0 W0 { s with heap := H } W := (x.trans S0 g).wide fun _ _ _ q => q.elim
  have L0 := LInv.start (p := p) (fp := fp) (wr := wr) (St := St) (s := { s with heap := H }) Sg x4 hst' hwr hsub (fun b q => by
      obtain ⟨o, e⟩ := (hfp b q).1
      exact ⟨⟨o, hkeep b o e⟩, (fun z => by rw [ownd b z] at e; cases e), (hfp b q).2.2⟩) hpd
    (fun n a q e z => by obtain ⟨_, o, e'⟩ := S.dis n a e; rw [ownd a z] at e'; cases e')
  have cellwr : ∀ y c, cenv.cells.lookup y = some c → c ∉ wr := fun y c e => by
    rcases hcl y c e with h | h
    · exact nwr c (hownd c h).1
    · intro q
      obtain ⟨⟨v, o, e', _⟩, _⟩ := F0.cl y c h
      rw [(hwr c q).1] at e'; cases e'
  have cellD : ∀ y c, cenv.cells.lookup y = some c → c ≠ D' := fun y c e => by
    rcases hcl y c e with h | h
    · exact (hownd c h).2
    · rintro rfl
      obtain ⟨⟨v, o, e', _⟩, _⟩ := F.cl y c h
      rw [dD] at e'; cases e'
  have hCd : s.heap.get? C = none := (hownd C (.inl rfl)).1
  have hCD : C ≠ D' := (hownd C (.inl rfl)).2
  have loop : codeAny (model prog w) A (.compLoop (.ListComp elt [⟨t, iter, ifs, 0⟩] scope pos) 0 (.ref Ia) (.ref D') cenv) (RR (.ref D') C) { s with heap := H } := by
    refine codeAny_compLoop_gen (fun n s' => ∃ i W' acc vs k, n = items.length - i ∧ CInv A h₀ step (fun acc st5 => mkList trk acc (st5.back W.st p) Q) scope m cenv C D' s0 W0 { s with heap := H } W p fp wr St items i W' acc vs k s') ?_ items.length
      ⟨0, _, [], [], 0, rfl, Nat.zero_le _, Nat.zero_le _, L0, Fc.st _, hgD, rfl, ?_, ?_, h, FO, S.frDead hCd⟩
    · intro n s' q__
      refine ex5 (q__) fun i W' acc vs k q__84_1 => an2 q__84_1 fun e__84_5 Z => ?_
      clear q__
      subst e__84_5
      rcases Nat.lt_or_ge i items.length with hlt | hge
      · refine wpAny_mono (T.item i s' (fun v s2 => wpAny (model prog w) A (assign t cenv v) (fun _ s₂ =>
          wpAny (model prog w) A (tests ifs cenv) (fun ok s₃ =>
            if ok = true then wpAny (model prog w) A (eval elt cenv) (fun x s₄ =>
              wpAny (model prog w) A (call (.builtin "list.append") [.ref D', x]) (fun _ s₅ => ∃ m_1, m_1 < items.length - i ∧ ∃ i W' acc vs k, m_1 = items.length - i ∧ CInv A h₀ step (fun acc st5 => mkList trk acc (st5.back W.st p) Q) scope m cenv C D' s0 W0 { s with heap := H } W p fp wr St items i W' acc vs k s₅) (notedBy (model prog w) A cenv fun e s' => RR (.ref D') C (.error e) s') s₄) (notedBy (model prog w) A cenv fun e s' => RR (.ref D') C (.error e) s') s₃
            else ∃ m_1, m_1 < items.length - i ∧ ∃ i W' acc vs k, m_1 = items.length - i ∧ CInv A h₀ step (fun acc st5 => mkList trk acc (st5.back W.st p) Q) scope m cenv C D' s0 W0 { s with heap := H } W p fp wr St items i W' acc vs k s₃) (notedBy (model prog w) A cenv fun e s' => RR (.ref D') C (.error e) s') s₂) (notedBy (model prog w) A cenv fun e s' => RR (.ref D') C (.error e) s') s2) _ hlt Z.L.inv fun v h' tk hv hst' hk => ?_) (fun r s1 hr => ?_) fun _ _ e => e
        · obtain ⟨d, hd, hrep⟩ := hV i v _ _ hv
          refine ex1 (Z.L.turn T (tk := tk) hst' hk hrep) fun W2 q__92_1 => an4 q__92_1 fun L2 hr2 hs2 xs2 => ?_
          have F2 := Z.F.step Z.L.sm xs2 ⟨by rw [hloc]; exact nwr C hCd, cellwr⟩
          have hw2 := wComp_next hd Z.w
          rw [← hs2] at hw2
          have hD2 : h'.get? D' = some (lstO vs k) := hk D' _ (nwr D' dD) Z.hD
          have RD2 : W2.R D' = none := (xs2.extR D' _ Z.hD).trans Z.RD
          have ρD2 : ∀ n, W2.ρ n ≠ some D' := fun n q => by
            rcases xs2.new n D' q with z | z
            · exact Z.ρD n z
            · rw [Z.hD] at z; cases z
          have rep2 := xs2.repAll Z.L.sm Z.rep
          have fo2 : FrOK A W2 := Z.fo.step Z.L.sm xs2
          have fC2 : ¬ W2.fr C := fun q => Z.fC (by
            obtain ⟨mv, hn⟩ := Z.F.ns
            obtain ⟨o, ho⟩ := ns_there hn
            rw [hloc] at ho
            exact (xs2.extF C o ho).mp q)
          have more : ∀ {s3 : Shared} {W3 : Wd}, Step (compOwn C scope.names) { s' with heap := h', toks := tk } W2 s3 W3 → Sim h₀ W3 s3 →
              LInv h₀ (fun b => compOwn C scope.names b ∨ b = D') s0 W0 { s with heap := H } W p fp wr St (i + 1) W3 s3 ∧ s3.heap.get? D' = some (lstO vs k) ∧ RepAll W3.R W3.ρ acc vs ∧ W3.R D' = none ∧ (∀ n, W3.ρ n ≠ some D') ∧ FrOK A W3 ∧ ¬ W3.fr C := fun {s3 W3} x3 S3 => by
            refine ⟨L2.go S0 T.frame (x3.wide fun _ _ _ q => .inl q) S3, x3.keep D' _ hD2 (fun n q => absurd q (ρD2 n)) (fun q => (hownd D' q).2 rfl) (L2.sm.frNo hD2 fun _ _ z => nomatch z), x3.repAll L2.sm rep2, (x3.extR D' _ hD2).trans RD2, fun n q => ?_, fo2.step L2.sm x3, fun q => fC2 (by
              obtain ⟨mv, hn⟩ := F2.ns
              obtain ⟨o, ho⟩ := ns_there hn
              rw [hloc] at ho
              exact (x3.extF C o ho).mp q)⟩
            rcases x3.new n D' q with z | z
            · exact ρD2 n z
            · rw [show h'.get? D' = none from z] at hD2; cases hD2
          refine wpAny_mono (hb _ cenv d W2 _ v _ L2.sm F2 fo2 hr2 hw2) (fun _ s3 h3 => wpAny_mono h3 (fun ok s4 h4 => ?_) fun _ _ e => e.elim) fun _ _ e => e.elim
          cases ok with
          | false =>
            simp only [Bool.false_eq_true, if_false] at h4 ⊢
            revert h4; intro z__123
            refine ex1 (z__123) fun W3 q__123_1 => an4 q__123_1 fun x3 S3 F3 K3 => ?_
            clear z__123
            refine an7 (more x3 S3) fun L3 hD3 rep3 RD3 ρD3 fo3 fC3 => ?_
            exact ⟨items.length - (i + 1), by omega, i + 1, W3, acc, vs, k, rfl, hlt, Nat.le_succ_of_le Z.len, L3, F3, hD3, rep3, RD3, ρD3, K3, fo3, fC3⟩
          | true =>
            simp only [if_true] at h4 ⊢
            refine wpAny_mono h4 (fun y s5 h5 => ?_) fun _ _ e => e.elim
            revert h5; intro z__129
            refine ex1 (z__129) fun W3 q__129_1 => an4 q__129_1 fun x3 S3 F3 q__129_2 => ex1 q__129_2 fun dx q__129_3 => an2 q__129_3 fun rdx K3 => ?_
            clear z__129
            refine an7 (more x3 S3) fun L3 hD3 rep3 RD3 ρD3 fo3 fC3 => ?_
            have hl : vs.length ≤ sizeLine := by
              have q1 := rep3.length
              have q2 := Z.len
              have q3 : lim = 1000000 := rfl
              have q4 : sizeLine = 16777216 := by decide
              omega
            refine appendD hD3 hl fun h6 k6 hg6 hs6 => ?_
            have ext : ∀ b o, b ≠ D' → s5.heap.get? b = some o → h6.get? b = some o := fun b o q e => (hs6.2 b q).trans e
            obtain ⟨x6, S6⟩ := S3.ownStep (own := fun b => compOwn C scope.names b ∨ b = D') (tk := s5.toks) (.inr rfl) RD3 ρD3 ext ⟨_, hg6⟩ (fun q => absurd q (S3.frNo hD3 fun _ _ z => nomatch z))
            have L6 := L3.go S0 T.frame x6 S6
            have F6 : Fram (compOwn C scope.names) cenv (compK scope) (compM scope m) W3 { s5 with heap := h6 } := F3.heap (tk := s5.toks) (fun o e => ext _ o (by rw [hloc]; exact hCD) e) (fun y c o q e => ext c o (cellD y c q) e)
            exact ⟨items.length - (i + 1), by omega, i + 1, W3, acc ++ [dx], vs ++ [y], k6, rfl, hlt, by simpa using Z.len, L6, F6, hg6, rep3.append (RepAll.one rdx), RD3, ρD3, K3, fo3, fC3⟩
        · cases r with
          | none => exact hr.elim
          | some v => exact hr
      · have e : i = items.length := Nat.le_antisymm Z.le hge
        subst e
        have hw := Z.w
        rw [List.drop_length] at hw
        refine wpAny_mono (T.done s' (fun s1 => RR (.ref D') C (.ok .next) s1) _ Z.L.inv fun h' tk hk => ?_) (fun r s1 hr => ?_) fun _ _ e => e
        · have hD2 : h'.get? D' = some (lstO vs k) := hk D' _ (nwr D' dD) Z.hD
          have F2 : Fram (compOwn C scope.names) cenv (compK scope) (compM scope m) W' { s' with heap := h', toks := tk } := Z.F.heap (fun o e => hk _ o (by rw [hloc]; exact nwr C hCd) e) fun y c o q e => hk c o (cellwr y c q) e
          obtain ⟨x5, S5⟩ := (Z.L.last (tk := tk) hk).stop Sg x4
          have x5' : Step noOwn s0 W0 { s' with heap := h', toks := tk } { W' with st := W'.st.back W.st p } := x5.wide fun b o e q => by rw [dead0 b (ownd b q)] at e; cases e
          have hns : ∃ mv, h'.Ns C mv := by have := F2.ns; rw [hloc] at this; exact this
          have RC : W'.R C = none := by have := F2.lo.2.1; rw [hloc] at this; exact this
          have ρC : ∀ n, W'.ρ n ≠ some C := by have := F2.lo.2.2; rw [hloc] at this; exact this
          obtain ⟨hl, hq⟩ := hw
          cases trk with
          | true =>
            obtain ⟨x6, S6, e6⟩ := x5'.track' S5 hD2 (dead0 D' dD) Z.RD Z.ρD (S5.frNo hD2 fun _ _ z => nomatch z) Z.rep
            refine hRR D' C _ _ x6 S6 ⟨.loc _, ⟨D', e6, rfl⟩, hq⟩ (dead0 C hCd) RC (fun n q => ?_) Z.fC hns
            have q' : (if n = (W'.st.back W.st p).hi then some D' else W'.ρ n) = some C := q
            split at q'
            · exact hCD (Option.some.inj q').symm
            · exact ρC n q'
          | false =>
            obtain ⟨x6, S6⟩ := x5'.freeze' S5 hD2 (dead0 D' dD) Z.RD Z.ρD (S5.frNo hD2 fun _ _ z => nomatch z)
            refine hRR D' C _ _ x6 S6 ⟨.list acc, ⟨D', vs, k, rfl, by show (if D' = D' then _ else _) = _; rw [if_pos rfl], RepAll.mono (fun a o e => ?_) (fun _ _ e => e) acc vs Z.rep⟩, hq⟩ (dead0 C hCd) ?_ ρC Z.fC hns
            · show (if a = D' then some (lstO vs k) else W'.R a) = some o
              rw [if_neg (fun q => by subst q; rw [Z.RD] at e; cases e)]; exact e
            · show (if C = D' then some (lstO vs k) else W'.R C) = none
              rw [if_neg hCD]; exact RC
        · cases r with
          | none => exact hr
          | some v => exact hr.elim
    · cases q : W.R D' with
      | none => rfl
      | some o => have := S.frz D' o q; rw [dD] at this; cases this
    · intro n q
      obtain ⟨_, o, e⟩ := S.dis n D' q; rw [dD] at e; cases e
  exact codeAny_compStart_list loop (T.self 0 _ _ _ hst' loop)
end
end Mine
end

section
set_option autoImplicit false
set_option linter.unusedVariables false
namespace Mine
open PySem

noncomputable def FvOK (h₀ : H0) (v : Value) : Prop := (∃ a o fd, v = .ref a ∧ h₀.h.get? a = some o ∧ o.data = .func fd) ∨ (∃ T, v = .type T) ∨ (∃ id, v = .builtin id) ∨ ∃ C N mN, v = .ref C ∧ PyProof.Rows.ClsAt h₀.h C N mN

noncomputable def CallOK (prog : Program) (w : World) (h₀ : H0) (k : Nat) (S : FSpec) (v : Value) : Prop :=
  ∀ (A : Around) (W : Wd) (s : Shared) (ds : List D) (vs : List Value) (Q : D → St → Prop) (X : XP) (L : Addr), AOk k A → A.handled = none → FrOK A W → Sim h₀ W s → RepAll W.R W.ρ ds vs → S ds W.st Q X → OKX prog w A h₀ noOwn L (call v vs) W s (VP Q) X

/-- an own exception class -/
noncomputable def ExOK (h₀ : H0) (C : Value) : Prop := ∃ x c bmB newId mg B initId, C = .ref c ∧ PyProof.Rows.OwnCls x c bmB newId mg h₀.h ∧ ExcBaseFacts B newId initId bmB
/-- a plain class and its methods -/
noncomputable def ClOK (prog : Program) (w : World) (h₀ : H0) (k : Nat) (me : Str → Option FSpec) (C : Value) : Prop := ∃ c N mN, C = .ref c ∧ PyProof.Rows.ClsAt h₀.h c N mN ∧ mN "__getattribute__" = none ∧ mN "__getattr__" = none ∧ mN "__setattr__" = none ∧
  (∀ nm, isAt nm = true → mN nm = none ∧ typeLookup (.type "object") nm = pure none) ∧
  ∀ nm S, me nm = some S → ∃ f o fd y, mN nm = some (.ref f) ∧ h₀.h.get? f = some o ∧ o.cls = .type "function" ∧ o.data = .func fd ∧ typeLookup (.type "object") nm = pure y ∧ CallOK prog w h₀ k S (.ref f)

noncomputable def GlOK (h₀ : H0) (mg mb : Str → Option Value) (x : Str) (d : D) : Prop := ∃ v, (mg x).or (mb x) = some v ∧ ∀ (R : Addr → Option Obj) (ρ : Nat → Option Addr), (∀ a o, h₀.h.get? a = some o → R a = some o) → Rep R ρ d v
structure CtxOK (prog : Program) (w : World) (h₀ : H0) (k : Nat) (Γ : Ctx) (gk : Str → Gk) : Prop where
  hw : h₀.w = w
  sub : SubOK prog w h₀ Γ.sub
  ex : ∀ C, Γ.ex C = true → ExOK h₀ C
  cl : ∀ C, Γ.cl C → ClOK prog w h₀ k (Γ.me C) C
  ns : ∃ mg mb, h₀.h.Ns mainGlobals mg ∧ h₀.h.Ns builtinsNs mb ∧ (∀ x d, Γ.gl x = some d → GlOK h₀ mg mb x d) ∧ (∀ x d, gk x = .cst d ∨ gk x = .blt d → GlOK h₀ mg mb x d) ∧
    (∀ x, gk x = .fn → ∃ v, (mg x).or (mb x) = some v ∧ FvOK h₀ v ∧ ∀ S, Γ.fn x = some S → CallOK prog w h₀ k S v) ∧
    (∀ x, (∃ d, gk x = .blt d) ∨ gk x = .itr → ∃ v, bltV x = some v ∧ mg x = none ∧ mb x = some v)

structure Snd (prog : Program) (w : World) (A : Around) (h₀ : H0) (Γ : Ctx) (gk : Str → Gk) (n : Nat) : Prop where
  e : ∀ {T trk e l Q X own env W s L}, Sim h₀ W s → FX A gk own env T l W s → wE Γ n T trk e l W.st Q X → OKX prog w A h₀ noOwn L (eval e env) W s (VP Q) X
  es : ∀ {T trk es l Q X own env W s L pos}, Sim h₀ W s → FX A gk own env T l W s → wEs Γ n T trk es l W.st Q X → OKX prog w A h₀ noOwn L (spliced (backTo pos (starEach es env))) W s (VPs Q) X
  opt : ∀ {T e l Q X own env W s L}, Sim h₀ W s → FX A gk own env T l W s → wOpt Γ n T e l W.st Q X → OKX prog w A h₀ noOwn L (valueOrNone (evalOpt e env)) W s (VP Q) X
  bool : ∀ {T op es l Q X own env W s L pos}, Sim h₀ W s → FX A gk own env T l W s → wBool Γ n T op es l W.st Q X → OKX prog w A h₀ noOwn L (boolOp pos op (evalEach es env)) W s (VP Q) X
  chV : ∀ {T a va ops rs l K X own env W s L pos}, Sim h₀ W s → FX A gk own env T l W s → Rep W.R W.ρ a va → wChain Γ n T a ops rs l W.st K X → OKX prog w A h₀ noOwn L (compareChain pos va ops (markedEach ops rs (evalEach rs env))) W s (fun v W' _ => ∃ b, v = .bool b ∧ K b W'.st) X
  chT : ∀ {T a va ops rs l K X own env W s L pos}, Sim h₀ W s → FX A gk own env T l W s → Rep W.R W.ρ a va → wChain Γ n T a ops rs l W.st K X → OKX prog w A h₀ noOwn L (testChain pos va ops (markedEach ops rs (evalEach rs env))) W s (BP K) X
  t : ∀ {T e l K X own env W s L}, Sim h₀ W s → FX A gk own env T l W s → wT Γ n T e l W.st K X → OKX prog w A h₀ noOwn L (isTrue e env (eval e env)) W s (BP K) X
  all : ∀ {T op es l K X own env W s L}, Sim h₀ W s → FX A gk own env T l W s → wAll Γ n T op es l W.st K X → OKX prog w A h₀ noOwn L (allTrue op es env) W s (BP K) X
  it : ∀ {T t it l K X own own0 env W s L}, T.hq = false → Sim h₀ W s → FX A gk own env T l W s → OwnOK own0 s W → wIter Γ n T t it l W.st K X → (∀ x, foldedSetIterable it env x = pure x) ∧
    wpAny (model prog w) A (eval it env) (fun x s1 => wpAny (model prog w) A (pyIter x) (fun itv s2 => ∃ W2 items p, Step noOwn s W s2 W2 ∧ Sim h₀ W2 s2 ∧ IterOK prog w A t own0 itv items p s s2 W2 ∧ items.length ≤ 2 * lim ∧ K items p W2.st) (EX h₀ noOwn L s W X) s1) (EX h₀ noOwn L s W X) s

section
variable {prog : Program} {w : World} {A : Around} {h₀ : H0} {Γ : Ctx} {gk : Str → Gk} {k n : Nat}
variable {T : Tb} {trk : Bool} {l : Ev} {X : XP} {own : Addr → Prop} {env : Env} {W : Wd} {s : Shared} {L : Addr} {Q : D → St → Prop} {K : Bool → St → Prop}

theorem snd_zero : Snd prog w A h₀ Γ gk 0 where
  e := fun _ _ h => False.elim h
  es := fun _ _ h => False.elim h
  opt := fun _ _ h => False.elim h
  bool := fun _ _ h => False.elim h
  chV := fun _ _ _ h => False.elim h
  chT := fun _ _ _ h => False.elim h
  t := fun _ _ h => False.elim h
  all := fun _ _ h => False.elim h
  it := fun _ _ _ _ h => False.elim h

theorem dbg_ne {kd : Kd} {m : Loc} (F : Fram own env kd m W s) {x : Str} (h : kd x ≠ none) : (x == ("__debug__" : Str)) = false := by
  cases q : x == ("__debug__" : Str) with
  | false => rfl
  | true => rw [beq_iff_eq.mp q] at h; exact absurd F.dbg.1 h

theorem pl_gl {x : Str} {g : Gk} (h : T.pl x = .gl g) : T.kd x = some .globalImplicit ∧ T.gk x = g := by
  unfold Tb.pl at h
  unfold Tb.kd
  cases q : T.N.lookup x with
  | none => rw [q] at h; cases h
  | some k => rw [q] at h; cases k <;> cases h; exact ⟨rfl, rfl⟩

theorem ok_global {x : Str} {v : Value} {E : Value → Shared → Prop} {R : Value → Shared → Prop} {mg mb : Str → Option Value} {p : Pos} (S : Sim h₀ W s) (F : FX A gk own env T l W s) (hk : T.kd x = some .globalImplicit)
    (h1 : h₀.h.Ns mainGlobals mg) (h2 : h₀.h.Ns builtinsNs mb) (hv : (mg x).or (mb x) = some v) (h : R v s) : wpAny (model prog w) A (eval (.Name x p) env) R E s := by
  have up : ∀ b o, h₀.h.get? b = some o → s.heap.get? b = some o := fun b o e => S.frz b o (S.base b o e)
  refine wpAny_Name ?_ (dbg_ne F.f (by rw [hk]; exact fun z => nomatch z))
  rw [PyProof.Rows.loadName_read F.f.fn (F.f.kE x _ hk (by intro z; cases z))]
  unfold loadGlobal
  rw [F.f.gl, F.f.bi]
  refine wpAny_bind (wpAny_nsGet (h1.keeps up) ?_)
  cases q : mg x with
  | some u =>
    rw [q] at hv
    have : u = v := Option.some.inj hv
    subst this
    exact wpAny_pure h
  | none =>
    rw [q] at hv
    have hv' : mb x = some v := hv
    refine wpAny_bind (wpAny_nsGet (h2.keeps up) ?_)
    rw [hv']
    exact wpAny_pure h

theorem snd_es (H : Snd prog w A h₀ Γ gk n) {es : List Expr} {KL : List D → St → Prop} {pos : Pos} (S : Sim h₀ W s) (F : FX A gk own env T l W s) (h : wEs Γ (n + 1) T trk es l W.st KL X) : OKX prog w A h₀ noOwn L (spliced (backTo pos (starEach es env))) W s (VPs KL) X := by
  cases es with
  | nil => exact wpAny_items_nil ⟨W, Step.refl _ _, S, [], rfl, h⟩
  | cons e r =>
    rw [f_cons] at h
    refine wpAny_items_cons ?_ (star_cons (not_star h))
    refine goV (H.e S F h) (fun v s1 W1 d x1 S1 rd h1 => ?_) fun _ _ e => e
    refine wpAny_mono (H.es S1 (F.step0 S x1) h1) ?_ fun _ _ e => e.back S x1
    intro vs s2 q__
    refine ex1 (q__) fun W2 q__102_1 => an3 q__102_1 fun x2 S2 q__102_2 => ex1 q__102_2 fun ds q__102_3 => an2 q__102_3 fun rds h2 => ?_
    clear q__
    exact ⟨W2, x1.trans S x2, S2, d :: ds, ⟨v, vs, rfl, x2.rep S1 rd, rds⟩, h2⟩

theorem snd_opt (H : Snd prog w A h₀ Γ gk n) {e : Option Expr} (S : Sim h₀ W s) (F : FX A gk own env T l W s) (h : wOpt Γ (n + 1) T e l W.st Q X) : OKX prog w A h₀ noOwn L (valueOrNone (evalOpt e env)) W s (VP Q) X := by
  cases e with
  | none => exact OKX.pure S ⟨.none, rfl, h⟩
  | some e => exact H.e S F h

set_option backward.match.sparseCases true in
theorem snd_bool (H : Snd prog w A h₀ Γ gk n) {op : BoolOp} {es : List Expr} {pos : Pos} (S : Sim h₀ W s) (F : FX A gk own env T l W s) (h : wBool Γ (n + 1) T op es l W.st Q X) : OKX prog w A h₀ noOwn L (boolOp pos op (evalEach es env)) W s (VP Q) X := by
  cases es with
  | nil => exact False.elim h
  | cons x r =>
    cases r with
    | nil => exact H.e S F h
    | cons y r =>
      rw [f_b2] at h
      show OKX prog w A h₀ noOwn L (eval x env >>= fun v => standAt pos >>= fun _ => holding [v] (truthy v) >>= fun t => match op, t with
        | .And, false | .Or, true => pure v
        | _, _ => boolOp pos op (evalEach (y :: r) env)) W s (VP Q) X
      refine OKX.bind S (H.e S F h) fun v W1 s1 x1 S1 h1 => OKX.stand ?_
      obtain ⟨d, rd, b, hb, h1⟩ := h1
      refine OKX.bind S1 (OK.toX (OK.holding (ok_truthy (K := fun c st => c = b ∧ (if stopsAnd op b then Q d st else wBool Γ n T op (y :: r) l st Q X)) S1 rd hb ⟨rfl, h1⟩))) fun c W2 s2 x2 S2 h2 => ?_
      obtain ⟨rfl, h2⟩ := h2
      have F2 := (F.step0 S x1).step0 S1 x2
      cases op <;> cases c <;> simp only [stopsAnd, if_true, Bool.false_eq_true, if_false] at h2
      · exact OKX.pure S2 ⟨d, x2.rep S1 rd, h2⟩
      · exact H.bool S2 F2 h2
      · exact H.bool S2 F2 h2
      · exact OKX.pure S2 ⟨d, x2.rep S1 rd, h2⟩

theorem marks_no {e : Expr} {st : St} (op : CmpOp) (h : wE Γ n T trk e l st Q X) (t : Sem Value) : markedBehindIn op e t = t := by
  have : behindInMarks op e = false := by
    cases e with
    | Set a b c => cases n <;> exact False.elim h
    | _ => rfl
  unfold markedBehindIn
  rw [this]

theorem snd_chT (a1 : AOk k A) (H : Snd prog w A h₀ Γ gk n) {a : D} {va : Value} {ops : List CmpOp} {rs : List Expr} {pos : Pos} (S : Sim h₀ W s) (F : FX A gk own env T l W s) (ra : Rep W.R W.ρ a va) (h : wChain Γ (n + 1) T a ops rs l W.st K X) :
    OKX prog w A h₀ noOwn L (testChain pos va ops (markedEach ops rs (evalEach rs env))) W s (BP K) X := by
  cases ops with
  | nil => exact False.elim h
  | cons op ops =>
    cases rs with
    | nil => cases ops <;> exact False.elim h
    | cons r rs =>
      cases ops with
      | nil =>
        cases rs with
        | cons _ _ => exact False.elim h
        | nil =>
          rw [f_c1] at h
          show OKX prog w A h₀ noOwn L (holding [va] (markedBehindIn op r (eval r env)) >>= fun rv => standAt pos >>= fun _ => operate [va, rv] (compareOp op va rv) >>= fun c => holding [c] (truthy c)) W s (BP K) X
          rw [marks_no op h]
          refine OKX.bind S (OKX.holding (H.e S F h)) fun rv W1 s1 x1 S1 h1 => OKX.stand (OK.toX ?_)
          obtain ⟨d, rd, h1⟩ := h1
          refine OK.bind S1 (OK.operate (ok_cmp a1 S1 (x1.rep S ra) rd h1)) fun c W2 s2 x2 S2 h2 => ?_
          obtain ⟨rfl, b, rfl, hk⟩ := h2
          exact OK.holding (ok_truthy (d := .bool b) (b := b) S2 rfl rfl hk)
      | cons o2 ops =>
        cases rs with
        | nil => exact False.elim h
        | cons r2 rs =>
          rw [f_c2] at h
          show OKX prog w A h₀ noOwn L (holding [va] (eval r env) >>= fun rv => standAt pos >>= fun _ => holding [va, rv] (compareOp op va rv) >>= fun c => release [va, rv] [c] >>= fun _ => holding [c, rv] (truthy c) >>= fun b =>
            if b = true then testChain pos rv (o2 :: ops) (markedEach (o2 :: ops) (r2 :: rs) (evalEach (r2 :: rs) env)) else pure false) W s (BP K) X
          refine OKX.bind S (OKX.holding (H.e S F h)) fun rv W1 s1 x1 S1 h1 => OKX.stand ?_
          obtain ⟨d, rd, h1⟩ := h1
          refine OKX.bind S1 (OK.toX (OK.holding (ok_cmp a1 S1 (x1.rep S ra) rd h1))) fun c W2 s2 x2 S2 h2 => ?_
          obtain ⟨rfl, b, rfl, hk⟩ := h2
          refine wpAny_bind (wpAny_release ?_)
          refine OKX.bind S2 (OK.toX (OK.holding (ok_truthy (K := fun c st => c = b ∧ (if b = true then wChain Γ n T d (o2 :: ops) (r2 :: rs) l st K X else K false st)) (d := .bool b) (b := b) S2 rfl rfl ⟨rfl, hk⟩))) fun c W3 s3 x3 S3 h3 => ?_
          obtain ⟨rfl, h3⟩ := h3
          refine OKX.ite (fun q => ?_) fun q => ?_
          · rw [if_pos q] at h3
            exact H.chT S3 (((F.step0 S x1).step0 S1 x2).step0 S2 x3) (x3.rep S2 (x2.rep S1 rd)) h3
          · rw [if_neg q] at h3
            exact OKX.pure S3 h3

theorem snd_chV (a1 : AOk k A) (H : Snd prog w A h₀ Γ gk n) {a : D} {va : Value} {ops : List CmpOp} {rs : List Expr} {pos : Pos} (S : Sim h₀ W s) (F : FX A gk own env T l W s) (ra : Rep W.R W.ρ a va) (h : wChain Γ (n + 1) T a ops rs l W.st K X) :
    OKX prog w A h₀ noOwn L (compareChain pos va ops (markedEach ops rs (evalEach rs env))) W s (fun v W' _ => ∃ b, v = .bool b ∧ K b W'.st) X := by
  cases ops with
  | nil => exact False.elim h
  | cons op ops =>
    cases rs with
    | nil => cases ops <;> exact False.elim h
    | cons r rs =>
      cases ops with
      | nil =>
        cases rs with
        | cons _ _ => exact False.elim h
        | nil =>
          rw [f_c1] at h
          show OKX prog w A h₀ noOwn L (holding [va] (markedBehindIn op r (eval r env)) >>= fun rv => standAt pos >>= fun _ => operate [va, rv] (compareOp op va rv)) W s _ X
          rw [marks_no op h]
          refine OKX.bind S (OKX.holding (H.e S F h)) fun rv W1 s1 x1 S1 h1 => OKX.stand (OK.toX ?_)
          obtain ⟨d, rd, h1⟩ := h1
          refine OK.mono (OK.operate (ok_cmp a1 S1 (x1.rep S ra) rd h1)) fun c W2 s2 x2 S2 h2 => ?_
          obtain ⟨rfl, b, rfl, hk⟩ := h2
          exact ⟨b, rfl, hk⟩
      | cons o2 ops =>
        cases rs with
        | nil => exact False.elim h
        | cons r2 rs =>
          rw [f_c2] at h
          show OKX prog w A h₀ noOwn L (holding [va] (eval r env) >>= fun rv => standAt pos >>= fun _ => holding [va, rv] (compareOp op va rv) >>= fun c => release [va, rv] [c] >>= fun _ => holding [c, rv] (truthy c) >>= fun b =>
            if b = true then compareChain pos rv (o2 :: ops) (markedEach (o2 :: ops) (r2 :: rs) (evalEach (r2 :: rs) env)) else pure c) W s _ X
          refine OKX.bind S (OKX.holding (H.e S F h)) fun rv W1 s1 x1 S1 h1 => OKX.stand ?_
          obtain ⟨d, rd, h1⟩ := h1
          refine OKX.bind S1 (OK.toX (OK.holding (ok_cmp a1 S1 (x1.rep S ra) rd h1))) fun c W2 s2 x2 S2 h2 => ?_
          obtain ⟨rfl, b, rfl, hk⟩ := h2
          refine wpAny_bind (wpAny_release ?_)
          refine OKX.bind S2 (OK.toX (OK.holding (ok_truthy (K := fun c st => c = b ∧ (if b = true then wChain Γ n T d (o2 :: ops) (r2 :: rs) l st K X else K false st)) (d := .bool b) (b := b) S2 rfl rfl ⟨rfl, hk⟩))) fun c W3 s3 x3 S3 h3 => ?_
          obtain ⟨rfl, h3⟩ := h3
          refine OKX.ite (fun q => ?_) fun q => ?_
          · rw [if_pos q] at h3
            exact H.chV S3 (((F.step0 S x1).step0 S1 x2).step0 S2 x3) (x3.rep S2 (x2.rep S1 rd)) h3
          · rw [if_neg q] at h3
            refine OKX.pure S3 ⟨_, rfl, ?_⟩
            have : c = false := by cases c <;> simp at q ⊢
            rw [this]; exact h3

theorem snd_all (H : Snd prog w A h₀ Γ gk n) {op : BoolOp} {es : List Expr} (S : Sim h₀ W s) (F : FX A gk own env T l W s) (h : wAll Γ (n + 1) T op es l W.st K X) : OKX prog w A h₀ noOwn L (allTrue op es env) W s (BP K) X := by
  cases es with
  | nil => exact OKX.pure S h
  | cons x r =>
    rw [f_ac] at h
    rw [arm_allTrue_cons]
    refine OKX.bind S (H.t S F h) fun b W1 s1 x1 S1 h1 => ?_
    have h1' : if stopsAnd op b = true then K b W1.st else wAll Γ n T op r l W1.st K X := h1
    cases op <;> cases b <;> simp only [stopsAnd, if_true, Bool.false_eq_true, if_false] at h1'
    · exact OKX.pure S1 h1'
    · exact H.all S1 (F.step0 S x1) h1'
    · exact H.all S1 (F.step0 S x1) h1'
    · exact OKX.pure S1 h1'

theorem snd_plain (H : Snd prog w A h₀ Γ gk n) {e : Expr} (S : Sim h₀ W s) (F : FX A gk own env T l W s) (h : wE Γ n T false e l W.st (fun d st1 => ∃ b, truth d = some b ∧ K b st1) X) :
    OKX prog w A h₀ noOwn L (eval e env >>= fun v => standAt e.pos >>= fun _ => holding [v] (truthy v)) W s (BP K) X := by
  refine OKX.bind S (H.e S F h) fun v W1 s1 x1 S1 h1 => OKX.stand (OK.toX (OK.holding ?_))
  revert h1; intro z__242
  refine ex1 (z__242) fun d q__242_1 => an2 q__242_1 fun rd q__242_2 => ex1 q__242_2 fun b q__242_3 => an2 q__242_3 fun hb h1 => ?_
  clear z__242
  exact ok_truthy S1 rd hb h1

theorem snd_t (H : Snd prog w A h₀ Γ gk n) {e : Expr} (S : Sim h₀ W s) (F : FX A gk own env T l W s) (h : wT Γ (n + 1) T e l W.st K X) : OKX prog w A h₀ noOwn L (isTrue e env (eval e env)) W s (BP K) X := by
  cases e with
  | UnaryOp op x p =>
    cases op with
    | Not =>
      rw [f_not] at h
      rw [arm_isTrue_UnaryOp]
      exact OKX.bind S (H.t S F h) fun b W1 s1 x1 S1 h1 => OKX.pure S1 h1
    | _ => exact snd_plain H S F h
  | BoolOp op es p => rw [f_tb] at h; rw [arm_isTrue_BoolOp]; exact H.all S F h
  | IfExp => exact False.elim h
  | Compare a ops rs p =>
    rw [f_tc] at h
    rw [arm_isTrue_Compare]
    refine OKX.bind S (H.e S F h) fun va W1 s1 x1 S1 h1 => ?_
    obtain ⟨d, rd, h1⟩ := h1
    exact H.chT S1 (F.step0 S x1) rd h1
  | _ => exact snd_plain H S F h
end
end Mine
end

section
set_option autoImplicit false
set_option linter.unusedVariables false
namespace Mine
open PySem

section
variable {prog : Program} {w : World} {A : Around} {h₀ : H0} {Γ : Ctx} {gk : Str → Gk} {k n : Nat}
variable {T : Tb} {trk : Bool} {l : Ev} {X : XP} {own : Addr → Prop} {env : Env} {W : Wd} {s : Shared} {L : Addr} {Q : D → St → Prop} {KL : List D → St → Prop}

theorem ok_args (H : Snd prog w A h₀ Γ gk n) {es : List Expr} {f : Value} {pos : Pos} {R : Args → Shared → Prop} (hs : noStars es = true) (S : Sim h₀ W s) (F : FX A gk own env T l W s) (h : wEs Γ n T false es l W.st KL X)
    (hR : ∀ vs s1, Fin' h₀ noOwn s W (VPs KL) vs s1 → R ⟨vs, []⟩ s1) : wpAny (model prog w) A (evalArgs f true (backTo pos (starEach es env)) []) R (EX h₀ noOwn L s W X) s := by
  cases es with
  | nil =>
    cases n with
    | zero => exact False.elim h
    | succ n => exact PySem.evalArgs_none (hR [] s ⟨W, Step.refl _ _, S, [], rfl, h⟩)
  | cons e r =>
    have hs' := Bool.and_eq_true_iff.mp hs
    have hh := H.es (L := L) (pos := pos) S F h
    unfold OKX at hh
    rw [back_cons (star_of hs'.1)] at hh ⊢
    exact Calls.evalArgs_plain (wpAny_mono hh (fun vs s1 h1 => hR vs s1 h1) fun _ _ e => e)

theorem ok_callWith (H : Snd prog w A h₀ Γ gk n) {es : List Expr} {fv : Value} {pos : Pos} {R : Value → Shared → Prop} (hs : plainA es = true) (S : Sim h₀ W s) (F : FX A gk own env T l W s) (hfv : FvOK h₀ fv) (h : wEs Γ n T false es l W.st KL X)
    (hk : ∀ vs ds W1 s1, Step noOwn s W s1 W1 → Sim h₀ W1 s1 → FX A gk own env T l W1 s1 → RepAll W1.R W1.ρ ds vs → KL ds W1.st → wpAny (model prog w) A (call fv vs) R (EX h₀ noOwn L s W X) s1) :
    wpAny (model prog w) A (callWith pos fv [] (backTo pos (starEach es env)) []) R (EX h₀ noOwn L s W X) s := by
  have hs' := Bool.and_eq_true_iff.mp hs
  have fin : ∀ vs s1, Fin' h₀ noOwn s W (VPs KL) vs s1 → wpAny (model prog w) A (call fv vs) R (EX h₀ noOwn L s W X) s1 := fun vs s1 q => by
    revert q; intro z__30
    refine ex1 (z__30) fun W1 q__30_1 => an3 q__30_1 fun x1 S1 q__30_2 => ex1 q__30_2 fun ds q__30_3 => an2 q__30_3 fun rds q => ?_
    clear z__30
    exact hk vs ds W1 s1 x1 S1 (F.step0 S x1) rds q
  have up : ∀ vs s1, Fin' h₀ noOwn s W (VPs KL) vs s1 → ∀ b o, h₀.h.get? b = some o → s1.heap.get? b = some o := fun vs s1 q b o e => by
    revert q; intro z__33
    refine ex1 (z__33) fun W1 q__33_1 => an3 q__33_1 fun _ S1 _ => ?_
    clear z__33
    exact S1.frz _ _ (S1.base _ _ e)
  rcases hfv with ⟨a, o, fd, rfl, ho, hd⟩ | ⟨T, rfl⟩ | ⟨id, rfl⟩ | ⟨C, N, mN, rfl, hC⟩
  · exact Calls.callWith_function (o := o) (fd := fd) (ok_args H hs'.1 S F h fun vs s1 q => ⟨⟨up vs s1 q _ _ ho, hd⟩, fin vs s1 q⟩)
  · exact PySem.callWith_type (plain_args hs'.1).1 (ok_args H hs'.1 S F h fun vs s1 q => fin vs s1 q)
  · exact Calls.callWith_builtin (plain_args hs'.1).1 (ok_args H hs'.1 S F h fun vs s1 q => fin vs s1 q)
  · cases es with
    | nil => cases hs'.2
    | cons e r =>
      have h1 := Bool.and_eq_true_iff.mp hs'.1
      exact PyProof.Rows.callWith_cls hC (wpAny_mono (H.es (L := L) S F h) (fun vs s1 q => ⟨up vs s1 q, fin vs s1 q⟩) fun _ _ e => e) (star_cons (star_of h1.1)) (plain_args h1.2).1

theorem ok_call (H : Snd prog w A h₀ Γ gk n) {es : List Expr} {x : Str} {fv : Value} {p pos : Pos} {R : Value → Shared → Prop} {mg mb : Str → Option Value}
    (hs : plainA es = true) (S : Sim h₀ W s) (F : FX A gk own env T l W s) (hg : T.kd x = some .globalImplicit) (h1 : h₀.h.Ns mainGlobals mg) (h2 : h₀.h.Ns builtinsNs mb) (hv : (mg x).or (mb x) = some fv) (hfv : FvOK h₀ fv) (h : wEs Γ n T false es l W.st KL X)
    (hk : ∀ vs ds W1 s1, Step noOwn s W s1 W1 → Sim h₀ W1 s1 → FX A gk own env T l W1 s1 → RepAll W1.R W1.ρ ds vs → KL ds W1.st → wpAny (model prog w) A (call fv vs) R (EX h₀ noOwn L s W X) s1) :
    wpAny (model prog w) A (eval (.Call (.Name x p) es [] pos) env) R (EX h₀ noOwn L s W X) s := by
  rw [arm_eval_Call_Name']
  exact wpAny_bind (ok_global S F hg h1 h2 hv (ok_callWith H hs S F hfv h hk))

theorem iterD_inv {d : D} {st : St} {K : List D → (Nat → Bool) → Prop} (h : wIterD d st K) : ∃ xs, seqD st d = some xs ∧ K xs (pinOf d) := by
  cases d with
  | loc n => obtain ⟨xs, hc, hk⟩ := h; exact ⟨xs, by simp only [seqD, hc], hk⟩
  | _ => exact h

noncomputable abbrev ItP (prog : Program) (w : World) (A : Around) (h₀ : H0) (t : Expr) (own0 : Addr → Prop) (s : Shared) (W : Wd) (KI : List D → (Nat → Bool) → St → Prop) (itv : Value) (s2 : Shared) : Prop :=
  ∃ W2 items p, Step noOwn s W s2 W2 ∧ Sim h₀ W2 s2 ∧ IterOK prog w A t own0 itv items p s s2 W2 ∧ items.length ≤ 2 * lim ∧ KI items p W2.st

theorem len_range {i j : Int} (h1 : i ≤ lim) (h2 : -lim ≤ i) (h3 : j ≤ lim) (h4 : -lim ≤ j) : (rangeL i j).length ≤ 2 * lim := by
  rw [range_len]; omega

theorem blt_fv {x : Str} {v : Value} (hb : bltV x = some v) : FvOK h₀ v := by
  unfold bltV at hb
  repeat' split at hb
  all_goals first
    | (cases hb; exact .inr (.inr (.inl ⟨_, rfl⟩)))
    | (cases hb; exact .inr (.inl ⟨_, rfl⟩))
    | cases hb

/-- the making of an iterator by zip, enumerate or range -/
theorem ok_iterCall {t : Expr} {f : Str} {fv : Value} {own0 : Addr → Prop} {W1 : Wd} {s1 : Shared} {ds : List D} {vs : List Value} {KI : List D → (Nat → Bool) → St → Prop} (hn : A.handled = none) (hb : bltV f = some fv) (S : Sim h₀ W s) (O : OwnOK own0 s W) (x1 : Step noOwn s W s1 W1) (S1 : Sim h₀ W1 s1) (rds : RepAll W1.R W1.ρ ds vs)
    (h : iterCall t f ds W1.st fun xs p => KI xs p W1.st) : wpAny (model prog w) A (call fv vs) (fun z s2 => wpAny (model prog w) A (pyIter z) (ItP prog w A h₀ t own0 s W KI) E0 s2) E0 s1 := by
  unfold iterCall at h
  by_cases e : f = "zip"
  · rw [if_pos e] at h
    subst e
    cases hb.symm.trans (show bltV "zip" = some (.type "zip") by decide +kernel)
    obtain ⟨ht, a, b, xs, ys, rfl, hx, hy, hlx, hly, hk⟩ := h
    obtain ⟨va, vb, rfl, ra, rb⟩ := reps2 rds
    refine goW (iter_zip (target := t) (own := own0) hn S1 x1 (O.at x1) ht ra hx rb hy) (fun z s2 x2 S2 h2 => ?_)
    refine wpAny_mono h2 ?_ fun _ _ e => e
    rintro itv s3 ⟨W3, x3, S3, e3, I⟩
    subst e3
    refine ⟨_, _, _, (x1.trans S x2).trans S x3, S3, I, ?_, hk⟩
    simp only [zipL, List.length_map, List.length_zip]
    omega
  rw [if_neg e] at h
  by_cases e : f = "enumerate"
  · rw [if_pos e] at h
    subst e
    cases hb.symm.trans (show bltV "enumerate" = some (.type "enumerate") by decide +kernel)
    obtain ⟨ht, a, xs, rfl, hx, hlx, hk⟩ := h
    obtain ⟨va, rfl, ra⟩ := reps1 rds
    refine goW (iter_enum (target := t) (own := own0) hn S1 x1 (O.at x1) ht ra hx) (fun z s2 x2 S2 h2 => ?_)
    refine wpAny_mono h2 ?_ fun _ _ e => e
    rintro itv s3 ⟨W3, x3, S3, e3, I⟩
    subst e3
    refine ⟨_, _, _, (x1.trans S x2).trans S x3, S3, I, ?_, hk⟩
    simp only [enumL, List.length_map, List.length_zipIdx]
    omega
  rw [if_neg e] at h
  by_cases e : f = "range"
  · rw [if_pos e] at h
    subst e
    cases hb.symm.trans (show bltV "range" = some (.type "range") by decide +kernel)
    have l0 : (0 : Int) ≤ lim := by decide
    have l1 : -(lim : Int) ≤ 0 := by decide
    obtain ⟨i, rfl, h1, h2, hk⟩ := h
    obtain ⟨va, rfl, ⟨t', rfl⟩⟩ := reps1 rds
    refine call_range_1 ?_
    obtain ⟨st, sm⟩ := S1.grow (own := noOwn) (tk := s1.toks + 1 + 1) (h' := s1.heap.push { cls := .type "range", data := .fields #[.int 0 s1.toks, .int i t', .int 1 (s1.toks + 1)] }) (fun b o e => Heap.get?_push_of_some _ e)
    have x2 := x1.trans S st
    refine goW (iter_range (target := t) (own := own0) (a := 0) (b := i) hn sm x2 (O.at x2) l0 l1 h1 h2 (Heap.get?_push_size _ rfl)) (fun itv s3 x3 S3 I => ?_)
    exact ⟨_, _, _, x2.trans S x3, S3, I, len_range l0 l1 h1 h2, hk⟩
  rw [if_neg e] at h
  exact h.elim

theorem fold_no {it : Expr} (h : (it.ctorIdx == 7) = false) (x : Value) : foldedSetIterable it env x = pure x := by
  cases it <;> first | rfl | cases h
theorem snd_it (C : CtxOK prog w h₀ k Γ gk) (H : Snd prog w A h₀ Γ gk n) {t it : Expr} {KI : List D → (Nat → Bool) → St → Prop} {own0 : Addr → Prop} (hq : T.hq = false) (S : Sim h₀ W s) (F : FX A gk own env T l W s) (O : OwnOK own0 s W) (h : wIter Γ (n + 1) T t it l W.st KI X) :
    (∀ x, foldedSetIterable it env x = pure x) ∧ wpAny (model prog w) A (eval it env) (fun x s1 => wpAny (model prog w) A (pyIter x) (ItP prog w A h₀ t own0 s W KI) (EX h₀ noOwn L s W X) s1) (EX h₀ noOwn L s W X) s := by
  have hn := F.h hq
  have gen : wE Γ n T false it l W.st (fun d st1 => wIterD d st1 fun xs p => xs.length ≤ lim ∧ KI xs p st1) X → wpAny (model prog w) A (eval it env) (fun x s1 => wpAny (model prog w) A (pyIter x) (ItP prog w A h₀ t own0 s W KI) (EX h₀ noOwn L s W X) s1) (EX h₀ noOwn L s W X) s := fun h => by
    refine goV (H.e S F h) (fun v s1 W1 d x1 S1 rd h1 => ?_) fun _ _ e => e
    refine ex1 (iterD_inv h1) fun xs q__126_1 => an3 q__126_1 fun hx hl hk => ?_
    refine wpAny_mono (iter_seq (target := t) (own := own0) hn S1 x1 (O.at x1) rd hx) (fun itv s2 h2 => ?_) fun _ _ e => e.elim
    revert h2; intro z__128
    refine ex1 (z__128) fun W2 q__128_1 => an4 q__128_1 fun x2 S2 e__128_3 I => ?_
    clear z__128
    subst e__128_3
    exact ⟨_, xs, _, x1.trans S x2, S2, I, by omega, hk⟩
  have h0 : bif it.ctorIdx == 7 then False else (match itOf it with
    | some (f, args) => (match T.pl f with
      | .gl .itr => bif plainA args then wEs Γ n T false args l W.st (fun ds st1 => iterCall t f ds st1 fun xs p => KI xs p st1) X else False
      | _ => wE Γ n T false it l W.st (fun d st1 => wIterD d st1 fun xs p => xs.length ≤ lim ∧ KI xs p st1) X)
    | none => wE Γ n T false it l W.st (fun d st1 => wIterD d st1 fun xs p => xs.length ≤ lim ∧ KI xs p st1) X) := h
  obtain ⟨h7, h0⟩ := of_bif' h0
  refine ⟨fold_no h7, ?_⟩
  cases q : itOf it with
  | none => rw [q] at h0; exact gen h0
  | some y =>
    rw [q] at h0
    rcases pl_itr h0 with ⟨hg, h0⟩ | h0
    · obtain ⟨hs, h0⟩ := of_bif h0
      refine it_elim (P := fun it => wpAny (model prog w) A (eval it env) (fun x s1 => wpAny (model prog w) A (pyIter x) (ItP prog w A h₀ t own0 s W KI) (EX h₀ noOwn L s W X) s1) (EX h₀ noOwn L s W X) s) q fun p1 p2 => ?_
      refine ex2 (C.ns) fun mg mb q__144_1 => an6 q__144_1 fun hmg hmb _ _ _ hbl => ?_
      obtain ⟨hk, hgk⟩ := pl_gl hg
      refine ex1 (hbl y.1 (.inr (by rw [← F.g]; exact hgk))) fun v q__146_1 => an3 q__146_1 fun hb g1 g2 => ?_
      refine ok_call H hs S F hk hmg hmb (by rw [g1, g2]; rfl) (blt_fv hb) h0 fun vs ds W1 s1 x1 S1 F1 rds q => ?_
      exact wpAny_mono (ok_iterCall hn hb S O x1 S1 rds q) (fun z s2 h2 => wpAny_mono h2 (fun _ _ q => q) fun _ _ e => e.elim) fun _ _ e => e.elim
    · exact gen h0
end
end Mine
end

section
set_option autoImplicit false
set_option linter.unusedVariables false
namespace Mine
open PySem

section
variable {prog : Program} {w : World} {A : Around} {h₀ : H0} {Γ : Ctx} {gk : Str → Gk} {k n : Nat}
variable {T : Tb} {trk : Bool} {l : Ev} {X : XP} {own : Addr → Prop} {env : Env} {W : Wd} {s : Shared} {L : Addr} {Q : D → St → Prop} {KL : List D → St → Prop}

theorem part_is {R : Addr → Option Obj} {ρ : Nat → Option Addr} {d : D} {v : Value} {o : Option Int} (h : part d = some o) (r : Rep R ρ d v) : IsPart v o := by
  cases d with
  | none => have e : v = .none := r; subst e; cases h; exact .none
  | int i => obtain ⟨t, rfl⟩ := r; cases h; exact .int i t
  | _ => simp [part] at h

theorem pick_arr (vs : List Value) (lo hi sp : Option Int) : slicePick vs.toArray lo hi sp = (pickL vs lo hi sp).toArray := by
  unfold slicePick pickL
  simp

theorem sliceApplied_any {E : Value → Shared → Prop} {sl : Addr} {n : Nat} {va vb : Value} {lo hi : Option Int} {R : Int × Int × Nat → Shared → Prop} (pl : IsPart va lo) (pu : IsPart vb hi) (hs : s.heap.IsSliceOf sl va vb .none)
    (h : R ((Builtin.Slice.sliceAdjust lo hi 1 n).1, 1, Builtin.Slice.slicePlaces (Builtin.Slice.sliceAdjust lo hi 1 n).1 (Builtin.Slice.sliceAdjust lo hi 1 n).2 1) s) :
    wpAny (model prog w) A (Builtin.Slice.sliceApplied (.ref sl) (pure (n : Int))) R E s := by
  obtain ⟨os, hos, hcs, hds⟩ := id hs
  unfold Builtin.Slice.sliceApplied Builtin.Slice.sliceFields
  refine wpAny_bind (wpAny_bind (wpAny_field hos hds (x := va) rfl (wpAny_bind (wpAny_field hos hds (x := vb) rfl (wpAny_bind (wpAny_field hos hds (x := .none) rfl (wpAny_pure ?_)))))))
  refine wpAny_bind (PyProof.Rows.slicePart_none ?_)
  show wpAny _ _ (if ((1 : Int) == 0) = true then _ else _) _ _ s
  rw [if_neg (by decide)]
  have tail : wpAny (model prog w) A (match Builtin.Slice.sliceAdjust lo hi 1 (n : Int) with | (a, b) => pure (a, (1 : Int), Builtin.Slice.slicePlaces a b 1)) R E s := by
    show wpAny _ _ (pure ((Builtin.Slice.sliceAdjust lo hi 1 (n : Int)).1, (1 : Int), Builtin.Slice.slicePlaces _ _ 1)) _ _ s
    exact wpAny_pure h
  cases pl <;> cases pu
  · exact wpAny_bind (PyProof.Rows.slicePart_none (wpAny_bind (PyProof.Rows.slicePart_none (wpAny_bind (wpAny_pure tail)))))
  · exact wpAny_bind (PyProof.Rows.slicePart_none (wpAny_bind (PyProof.Rows.slicePart_int (wpAny_bind (wpAny_pure tail)))))
  · exact wpAny_bind (PyProof.Rows.slicePart_int (wpAny_bind (PyProof.Rows.slicePart_none (wpAny_bind (wpAny_pure tail)))))
  · exact wpAny_bind (PyProof.Rows.slicePart_int (wpAny_bind (PyProof.Rows.slicePart_int (wpAny_bind (wpAny_pure tail)))))
theorem tupS_le {α : Type} (xs : List α) (lo hi : Option Int) (hl : xs.length ≤ lim) : (tupS xs lo hi).length ≤ lim := by
  have h1 : (tupS xs lo hi).length ≤ Builtin.Slice.slicePlaces (Builtin.Slice.sliceAdjust lo hi 1 xs.length).1 (Builtin.Slice.sliceAdjust lo hi 1 xs.length).2 1 := by
    unfold tupS
    exact Nat.le_trans (List.length_filterMap_le _ _) (Nat.le_of_eq List.length_range)
  have h2 : Builtin.Slice.slicePlaces (Builtin.Slice.sliceAdjust lo hi 1 xs.length).1 (Builtin.Slice.sliceAdjust lo hi 1 xs.length).2 1 ≤ xs.length := by
    have ha : 0 ≤ (Builtin.Slice.sliceAdjust lo hi 1 xs.length).1 := by
      cases lo with
      | none => exact Int.le_refl _
      | some v =>
        show 0 ≤ (if v < 0 then max (v + (xs.length : Int)) 0 else min v (xs.length : Int))
        split <;> omega
    have hb : (Builtin.Slice.sliceAdjust lo hi 1 xs.length).2 ≤ xs.length := by
      cases hi with
      | none => exact Int.le_refl _
      | some v =>
        show (if v < 0 then max (v + (xs.length : Int)) 0 else min v (xs.length : Int)) ≤ xs.length
        split <;> omega
    generalize (Builtin.Slice.sliceAdjust lo hi 1 xs.length).1 = a at ha
    generalize (Builtin.Slice.sliceAdjust lo hi 1 xs.length).2 = b at hb
    unfold Builtin.Slice.slicePlaces
    rw [if_pos (by decide), Int.ediv_one]
    split <;> omega
  omega
theorem tupS_all {α : Type} (xs : List α) (lo hi : Option Int) (h0 : (Builtin.Slice.sliceAdjust lo hi 1 xs.length).1 = 0) (h1 : Builtin.Slice.slicePlaces (Builtin.Slice.sliceAdjust lo hi 1 xs.length).1 (Builtin.Slice.sliceAdjust lo hi 1 xs.length).2 1 = xs.length) : tupS xs lo hi = xs := by
  unfold tupS
  rw [h1, h0]
  have e : (fun k : Nat => xs[((0 : Int) + (k : Int) * 1).toNat]?) = fun k : Nat => xs[k]? := by
    funext k
    have : ((0 : Int) + (k : Int) * 1).toNat = k := by omega
    rw [this]
  rw [e]
  have : ∀ b, b ≤ xs.length → ((List.range b).filterMap fun k : Nat => xs[k]?) = xs.take b := by
    intro b
    induction b with
    | zero => intro _; simp
    | succ b ih =>
      intro hb
      rw [List.range_succ, List.filterMap_append, ih (by omega), List.take_add_one]
      have : b < xs.length := by omega
      simp [this]
  rw [this _ (Nat.le_refl _), List.take_length]

theorem getItem_tuple_any {E : Value → Shared → Prop} {t sl : Addr} {vs : List Value} {nn : Nat} {va vb : Value} {lo hi : Option Int} {R : Value → Shared → Prop} (pl : IsPart va lo) (pu : IsPart vb hi) (ht : s.heap.get? t = some (tupO vs nn)) (hs : s.heap.IsSliceOf sl va vb .none)
    (h1 : (∀ {α : Type} (xs : List α), xs.length = vs.length → tupS xs lo hi = xs) → R (.ref t) s) (h2 : R (.ref s.heap.objs.size) { s with heap := s.heap.push (tupO (tupS vs lo hi) 0) })
    (hsz : vs.length ≤ lim) : wpAny (model prog w) A (getItem (.ref t) (.ref sl)) R E s := by
  have htu : PyProof.Rows.IsTup s.heap t vs.toArray := ⟨_, ht, rfl, nn, rfl⟩
  have hdrop : sizeOk (.seq (tupS vs lo hi).toArray) := by
    show (tupS vs lo hi).toArray.size ≤ sizeLine
    rw [List.size_toArray]
    exact le_line (tupS_le vs lo hi hsz)
  refine ex1 (id hs) fun os q__89_1 => an3 q__89_1 fun hos hcs hds => ?_
  have hTs : s.TypeIs (.ref sl) "slice" := ⟨os, hos, hcs⟩
  unfold getItem
  try with_reducible refine wpAny_holding ?_
  first | refine wpAny_bind (wpAny_pure ?_) | skip
  refine wpAny_bind (wpAny_sequenceKey htu.typeIs (by decide) ?_)
  refine wpAny_bind (wpAny_callSpecial?_slot (name := Str.ofString "__getitem__") htu.typeIs PyProof.Rows.slot_tuple_getitem
    (wpAny_call_entry PyProof.Rows.slot_tuple_getitem htu.typeIs PyProof.Rows.entry_tuple_getitem ?_ (PyProof.Rows.args_tuple_getitem _ _)))
  show wpAny _ _ (Builtin.Tuple.tupleItemsOf (.ref t) >>= _) _ _ s
  refine wpAny_bind (PyProof.Rows.tupleItemsOf_ htu ?_)
  refine wpAny_bind (wpAny_typeOf hTs ?_)
  rw [if_pos (by decide)]
  have e0 : vs.toArray.size = vs.length := List.size_toArray ..
  rw [e0]
  refine wpAny_bind (sliceApplied_any pl pu hs ?_)
  generalize hst : (Builtin.Slice.sliceAdjust lo hi 1 (vs.length : Int)).1 = st
  generalize hct : Builtin.Slice.slicePlaces st (Builtin.Slice.sliceAdjust lo hi 1 (vs.length : Int)).2 1 = ct
  have hpk : ((List.range ct).filterMap fun (k : Nat) => vs.toArray[(st + (k : Int) * 1).toNat]?).toArray = (tupS vs lo hi).toArray := by
    unfold tupS
    rw [hst, hct]
    congr 2
    funext k
    simp
  show wpAny _ _ (if (st == 0 && (1 : Int) == 1 && ct == vs.length) = true then _ else _) _ _ s
  by_cases hw : (st == 0 && (1 : Int) == 1 && ct == vs.length) = true
  · rw [if_pos hw]
    have hw' := Bool.and_eq_true_iff.mp hw
    have hw2 := Bool.and_eq_true_iff.mp hw'.1
    have fin : R (.ref t) s := h1 fun xs hx => tupS_all xs lo hi (by rw [hx]; exact hst.trans (beq_iff_eq.mp hw2.1)) (by rw [hx, hst, hct]; exact beq_iff_eq.mp hw'.2)
    unfold Builtin.Tuple.tupleIsExact
    refine wpAny_bind (wpAny_bind (wpAny_typeOf htu.typeIs (wpAny_pure ?_)))
    rw [if_pos (by decide)]
    exact wpAny_bind (wpAny_rule (wpAny_pure ⟨_, rfl, wpAny_pure fin⟩))
  · rw [if_neg hw, hpk]
    first
      | exact wpAny_bind (m := Builtin.Tuple.tupleExact _) (wpAny_newObj_type (wpAny_pure ⟨_, rfl, wpAny_pure h2⟩) hdrop)
      | exact wpAny_bind (m := Builtin.Tuple.tupleExact _) (wpAny_newObj_type (wpAny_bind (wpAny_pure (wpAny_pure ⟨_, rfl, wpAny_pure h2⟩))) hdrop)
      | exact wpAny_bind (wpAny_bind (m := Builtin.Tuple.tupleExact _) (wpAny_newObj_type (wpAny_pure (wpAny_pure ⟨_, rfl, wpAny_pure h2⟩)) hdrop))
      | exact wpAny_bind (wpAny_bind (m := Builtin.Tuple.tupleExact _) (wpAny_newObj_type (wpAny_pure ⟨_, rfl, wpAny_pure h2⟩) hdrop))

theorem sub_ops (l u sp : Option Expr) (p : Pos) (a b : Addr) : ∃ ops, subscripted (.Slice l u sp p) false (.ref a) (.ref b) = operate ops (getItem (.ref a) (.ref b)) := by
  cases sp with
  | none => exact ⟨_, rfl⟩
  | some _ => exact ⟨_, rfl⟩
theorem ok_slice {trk : Bool} {value : Expr} {l u sp : Option Expr} {p : Pos} {d a b c : D} {vd va vb vc : Value} {W : Wd} {s : Shared} {Q : D → St → Prop} (S : Sim h₀ W s) (rd : Rep W.R W.ρ d vd) (ra : Rep W.R W.ρ a va) (rb : Rep W.R W.ρ b vb) (rc : Rep W.R W.ρ c vc)
    (h : wSlice trk d a b c W.st Q) {s' : Shared} (hs' : s' = { s with heap := s.heap.push { cls := .type "slice", data := .fields #[va, vb, vc] } }) :
    wpAny (model prog w) A (PyProof.Rows.subscriptTail value (.Slice l u sp p) vd (.ref s.heap.objs.size)) (Fin' h₀ noOwn s W (VP Q)) E0 s' := by
  subst hs'
  revert h; intro z__137
  refine ex3 (z__137) fun lo hi st q__137_1 => an5 q__137_1 fun hl hu hs h0 h => ?_
  clear z__137
  have pl := part_is hl ra
  have pu := part_is hu rb
  have ps := part_is hs rc
  by_cases hT : ∃ ys, d = .tup ys
  · obtain ⟨ys, rfl⟩ := hT
    obtain ⟨rfl, hlen, h⟩ := h
    cases ps
    refine ex3 (S.tup rd) fun a' vs n' q__145_1 => an3 q__145_1 fun e__145_3 hg hr => ?_
    subst e__145_3
    have hg' : (s.heap.push { cls := .type "slice", data := .fields #[va, vb, .none] }).get? a' = some (tupO vs n') := Heap.get?_push_of_some _ hg
    have hT : PyProof.Rows.IsTup (s.heap.push { cls := .type "slice", data := .fields #[va, vb, .none] }) a' vs.toArray := ⟨_, hg', rfl, n', rfl⟩
    obtain ⟨ops, e1⟩ := sub_ops l u sp p a' s.heap.objs.size
    have hr' : RepAll W.R W.ρ (tupS ys lo hi) (tupS vs lo hi) := by
      unfold tupS
      rw [hr.length]
      exact hr.nth _ _
    refine PyProof.Rows.tail_any (T := "tuple") hT.typeIs PyProof.Rows.slot_tuple_getitem.lookup (getItem_tuple_any pl pu hg' (Heap.IsSliceOf.new ..) (fun hall => ?_) ?_ (by rw [hr.length]; exact hlen)) e1
    · rw [hall ys hr.length.symm] at h
      obtain ⟨x1, S1⟩ := S.grow (own := noOwn) (tk := s.toks) (h' := s.heap.push { cls := .type "slice", data := .fields #[va, vb, .none] }) (fun b o e => Heap.get?_push_of_some _ e)
      exact ⟨W, x1, S1, .tup ys, rd, h⟩
    · refine done_tup (n := 0) (tk := s.toks) (vs := tupS vs lo hi) S (fun b o e => Heap.get?_push_of_some _ (Heap.get?_push_of_some _ e)) (dead_ge ?_) (Heap.get?_push_size _ rfl) hr' h
      rw [Heap.size_push]; exact Nat.le_succ _
  have hd : ∃ xs, lstD W.st d = some xs ∧ xs.length ≤ lim ∧ mkList trk (pickL xs lo hi st) W.st Q := by
    cases d <;> first | exact h | exact absurd ⟨_, rfl⟩ hT
  revert hd; intro z__161
  refine ex1 (z__161) fun xs q__161_1 => an3 q__161_1 fun hx hlen hm => ?_
  clear z__161
  refine ex3 (S.lst rd hx) fun a' vs n' q__162_1 => an3 q__162_1 fun e__162_3 hg hr => ?_
  subst e__162_3
  have hg' : (s.heap.push { cls := .type "slice", data := .fields #[va, vb, vc] }).get? a' = some (lstO vs n') := Heap.get?_push_of_some _ hg
  have hL : (s.heap.push { cls := .type "slice", data := .fields #[va, vb, vc] }).IsList a' vs.toArray := ⟨_, hg', rfl, n', rfl⟩
  obtain ⟨ops, e1⟩ := sub_ops l u sp p a' s.heap.objs.size
  refine PyProof.Rows.tail_any (T := "list") hL.typeIs slot_list_getitem.lookup (wpAny_getItem_list_slice hL (Heap.IsSliceOf.new ..) pl pu ps h0 ?_ (by rw [List.size_toArray, hr.length]; exact le_line hlen)) e1
  rw [pick_arr]
  refine done_list (n := 0) (tk := s.toks) (vs := pickL vs lo hi st) S (fun b o e => Heap.get?_push_of_some _ (Heap.get?_push_of_some _ e)) (dead_ge ?_) (Heap.get?_push_size _ rfl) ?_ hm
  · rw [Heap.size_push]; exact Nat.le_succ _
  · have := hr.nth (sliceRange (sliceBounds lo hi st xs.length).1 (sliceBounds lo hi st xs.length).2.1 (sliceBounds lo hi st xs.length).2.2) id
    unfold pickL
    rw [hr.length]
    exact this


/-- a comprehension's names -/
theorem look_into : ∀ {N : Sc} {x : Str} {k : NameKind}, N.lookup x = some k → look (into T l N) (ixN N x) = (match k with
    | .free => lookT T l x
    | _ => none)
  | [], _, _, h => by simp at h
  | p :: r, x, k, h => by
    rw [List.lookup_cons] at h
    unfold ixN into
    cases q : x == p.1 with
    | true =>
      rw [q] at h
      cases h
      rw [beq_iff_eq.mp q]
      rfl
    | false =>
      rw [q] at h
      exact look_into (N := r) h
theorem into_mT (sc : Scope) (x : Str) : mT (T.sub sc) (into T l sc.names) x = compM sc (mT T l) x := by
  show lookT (T.sub sc) (into T l sc.names) x = if sc.names.lookup x = some .free then lookT T l x else none
  unfold lookT Tb.pl
  show (match plK (ixN sc.names x) _ _ (sc.names.lookup x) with
    | .loc i _ _ => look (into T l sc.names) i
    | _ => none) = _
  cases q : sc.names.lookup x with
  | none => rfl
  | some k =>
    have h := look_into (T := T) (l := l) q
    cases k with
    | «local» => exact h
    | cell => exact h
    | free => rw [if_pos rfl]; exact h
    | _ => rfl

theorem snd_comp (H : Snd prog w A h₀ Γ gk n) {t elt : Expr} {ifs : List Expr} {scope : Scope} (hn : A.handled = none) (hg : T.gk = gk) :
    CompStep prog w A h₀ scope (mT T l) t elt ifs (fun d st2 k => wTarget (T.sub scope) t d (into T l scope.names) fun l1 =>
          match ifs with
          | [] => wE Γ n (T.sub scope) trk elt l1 st2 (fun x st4 => k (some x) st4) noX
          | [c] => wT Γ n (T.sub scope) c l1 st2 (fun b st3 => if b then wE Γ n (T.sub scope) trk elt l1 st3 (fun x st4 => k (some x) st4) noX else k none st3) noX
          | _ => False) := by
  intro own' cenv d W s v K S F FO rd h
  have F0 : Fram own' cenv (T.sub scope).kd (mT (T.sub scope) (into T l scope.names)) W s := F.forget fun x d e => (into_mT scope x).symm.trans e
  refine goW (ok_target hn S F0 rd h) (fun _ s1 x1 S1 qq => ?_)
  obtain ⟨l', h1, F1, hm'⟩ := qq
  have X1 : FX A gk own' cenv (T.sub scope) l' W s1 := ⟨F1, FO.step S x1, fun _ => hn, hg⟩
  have back : ∀ {W2 s2}, Fram own' cenv (T.sub scope).kd (mT (T.sub scope) l') W2 s2 → Fram own' cenv (compK scope) (compM scope (mT T l)) W2 s2 := fun F2 => F2.forget fun x d hx => by
    have hx' : (if scope.names.lookup x = some .free then mT T l x else none) = some d := hx
    by_cases q : scope.names.lookup x = some .free
    · have : isOwn (T.sub scope).kd x = false := by unfold isOwn Tb.kd Tb.sub; rw [q]; rfl
      rw [hm' x this, into_mT]; exact hx
    · rw [if_neg q] at hx'; cases hx'
  have elts : ∀ {W2 s2}, Step noOwn s1 W s2 W2 → Sim h₀ W2 s2 → wE Γ n (T.sub scope) trk elt l' W2.st (fun x st4 => K (some x) st4) noX →
      wpAny (model prog w) A (eval elt cenv) (fun x s3 => Fin' h₀ own' s W (fun x W' s' => Fram own' cenv (compK scope) (compM scope (mT T l)) W' s' ∧ ∃ dx, Rep W'.R W'.ρ dx x ∧ K (some dx) W'.st) x s3) E0 s2 := fun {W2 s2} x2 S2 h2 => by
    have X2 := X1.step0 S1 x2
    refine goV (H.e (L := 0) S2 X2 h2) (fun y s3 W3 dx x3 S3 rx h3 => ?_) fun _ _ e => e.none
    exact ⟨W3, x1.trans S ((x2.trans S1 x3).wide fun _ _ _ q => q.elim), S3, back (X2.step0 S2 x3).f, dx, rx, h3⟩
  cases ifs with
  | nil =>
    refine wpAny_tests_nil ?_
    simp only [if_true]
    exact elts (Step.refl _ _) S1 h1
  | cons c r =>
    cases r with
    | cons _ _ => exact False.elim h1
    | nil =>
      refine wpAny_tests_one (wpAny_mono (H.t (L := 0) S1 X1 h1) ?_ fun _ _ e => e.none)
      rintro b s2 ⟨W2, x2, S2, h2⟩
      have h2' : if b = true then wE Γ n (T.sub scope) trk elt l' W2.st (fun x st4 => K (some x) st4) noX else K none W2.st := h2
      cases b with
      | true => simp only [if_true] at h2' ⊢; exact elts x2 S2 h2'
      | false =>
        simp only [Bool.false_eq_true, if_false] at h2' ⊢
        exact ⟨W2, x1.trans S (x2.wide fun _ _ _ q => q.elim), S2, back (X1.step0 S1 x2).f, h2'⟩

theorem noOwnOK (s : Shared) (W : Wd) : OwnOK noOwn s W := fun _ h => h.elim
theorem hnames_of {kd : Kd} {scope : Scope} (sc : ScopeOk kd scope) : ∀ x ∈ scope.names, x.2 = .local → scope.names.lookup x.1 = some .local := fun x hx hl => by
  obtain ⟨n, k⟩ := x
  have e : k = .local := hl
  subst e
  exact lookup_nodup sc.2.1 hx

theorem hclos_of {kd : Kd} {scope : Scope} {own : Addr → Prop} {env : Env} {m : Loc} {W : Wd} {s : Shared} (F : Fram own env kd m W s) (sc : ScopeOk kd scope) : closureFor scope env = pure (clo env.cells scope.names []) :=
  clo_eq fun p hp hf => by
    rcases (sc.2.2 p hp).2.2 hf with q | q
    · obtain ⟨c, h, _⟩ := F.co p.1 q; exact ⟨c, h⟩
    · exact (F.kF p.1 q).2


/-- an own object and its names -/
theorem inst_at {C : Value} {c : Addr} {m : Nat} {es : List (Str × D)} {v : Value} (S : Sim h₀ W s) (hC : C = .ref c) (rd : Rep W.R W.ρ (.inst C m) v) (hc : W.st.cs m = some (.ns es)) :
    ∃ x dx mA o, v = .ref x ∧ s.heap.get? x = some o ∧ o.cls = C ∧ o.dict = some dx ∧ W.ρ m = some dx ∧ s.heap.Ns1 dx mA ∧ s.heap.Inst x c mA ∧ ∀ y, (match es.lookup y with
    | some d => ∃ v, mA y = some v ∧ Rep W.R W.ρ d v
    | none => mA y = none) := by
  subst hC
  revert rd; intro z__269
  refine ex3 (z__269) fun x dx o q__269_1 => an6 q__269_1 fun e__269_3 hR h1 h2 h3 hρ => ?_
  clear z__269
  subst e__269_3
  refine ex1 (S.cel m _ hc) fun b q__270_1 => an2 q__270_1 fun hb q__270_2 => ex1 q__270_2 fun mA q__270_3 => an2 q__270_3 fun hn hm => ?_
  rw [hρ] at hb; cases hb
  have hx := S.frz _ _ hR
  refine ⟨x, dx, mA, o, rfl, hx, h1, h2, hρ, hn, ⟨_, hx, h1, h3, .inr ⟨dx, h2, fun z => ?_, hn⟩⟩, hm⟩
  rw [((S.dis m x (z ▸ hρ)).1)] at hR; cases hR
theorem obj_inv {st : St} {d : D} {C : Value} {es : List (Str × D)} (h : objAt st d = some (C, es)) : ∃ m, d = .inst C m ∧ st.cs m = some (.ns es) := by
  cases d with
  | inst C' m =>
    simp only [objAt] at h
    cases q : st.cs m with
    | none => rw [q] at h; cases h
    | some c => rw [q] at h; cases c <;> cases h; exact ⟨m, rfl, q⟩
  | _ => cases h
theorem handed {R : Addr → Option Obj} {ρ : Nat → Option Addr} {d : D} {v : Value} (h : isValD d = false) (r : Rep R ρ d v) : handedOut v = pure v := by
  cases d with
  | val _ => cases h
  | none => have e : v = .none := r; subst e; rfl
  | bool b => have e : v = .bool b := r; subst e; rfl
  | int i => obtain ⟨t, rfl⟩ := r; rfl
  | str i => obtain ⟨t, rfl⟩ := r; rfl
  | tup _ => obtain ⟨_, _, _, rfl, _⟩ := r; rfl
  | list _ => obtain ⟨_, _, _, rfl, _⟩ := r; rfl
  | loc _ => obtain ⟨_, _, rfl⟩ := r; rfl
  | exc _ => obtain ⟨_, _, rfl, _⟩ := r; rfl
  | inst _ _ => obtain ⟨_, _, _, rfl, _⟩ := r; rfl

theorem ok_attr {nm : Str} {d : D} {v : Value} (C : CtxOK prog w h₀ k Γ gk) (S : Sim h₀ W s) (rd : Rep W.R W.ρ d v) (h : wAttr Γ nm d W.st Q) : OK prog w A h₀ noOwn (getAttr v nm true) W s (VP Q) := by
  revert h; intro z__297
  refine ex3 (z__297) fun C' es u q__297_1 => an6 q__297_1 fun ho hcl hl hat hv h => ?_
  clear z__297
  obtain ⟨m, rfl, hc⟩ := obj_inv ho
  refine ex3 (C.cl C' hcl) fun c N mN q__299_1 => an7 q__299_1 fun hC X g1 g2 g3 ha _ => ?_
  refine ex4 (inst_at S hC rd hc) fun x dx mA ox q__300_1 => an8 q__300_1 fun e__300_4 hx _ _ _ _ hI hm => ?_
  subst e__300_4
  have hmn := hm nm
  rw [hl] at hmn
  obtain ⟨uv, hu, ru⟩ := hmn
  have up : ∀ b o, h₀.h.get? b = some o → s.heap.get? b = some o := fun b o e => S.frz b o (S.base b o e)
  refine ex12 ((X.keeps up).obj) fun nm' q bs sn sub col dd k0 k1 k2 k3 k5 hCo => ?_
  obtain ⟨hh', g, d', t, os⟩ := s
  exact load_attr hCo (X.keeps up).ns g1 (ha nm hat).1 (ha nm hat).2 hI hu (handed hv ru) (done_val (s := ⟨hh', g, d', t, os⟩) S ru h (t + 1))

theorem lookup_app1 {es : List (Str × D)} {nm y : Str} {d : D} : (es ++ [(nm, d)]).lookup y = (match es.lookup y with
    | some e => some e
    | none => if y = nm then some d else none) := by
  rw [lookup_app]
  cases es.lookup y with
  | some e => rfl
  | none =>
    show List.lookup y [(nm, d)] = _
    rw [List.lookup_cons]
    cases q : y == nm with
    | true => rw [if_pos (beq_iff_eq.mp q)]
    | false => rw [if_neg (fun z => by rw [z] at q; simp at q)]; rfl
theorem ok_setAttr {nm : Str} {od d : D} {ov v : Value} {K : St → Prop} (C : CtxOK prog w h₀ k Γ gk) (S : Sim h₀ W s) (ro : Rep W.R W.ρ od ov) (rd : Rep W.R W.ρ d v) (h : wAttrS Γ nm od d W.st K) : OK prog w A h₀ noOwn (setAttr ov nm v) W s (fun _ W' _ => K W'.st) := by
  revert h; intro z__322
  refine ex3 (z__322) fun m C' es q__322_1 => an7 q__322_1 fun e__322_3 hcl hat hc hl hlen h => ?_
  clear z__322
  subst e__322_3
  refine ex3 (C.cl C' hcl) fun c N mN q__323_1 => an7 q__323_1 fun hC X g1 g2 g3 ha _ => ?_
  refine ex4 (inst_at S hC ro hc) fun x dx mA ox q__324_1 => an8 q__324_1 fun e__324_4 hx hox hod hρ hn1 hI hm => ?_
  subst e__324_4
  have up : ∀ b o, h₀.h.get? b = some o → s.heap.get? b = some o := fun b o e => S.frz b o (S.base b o e)
  refine ex12 ((X.keeps up).obj) fun nm' q bs sn sub col dd k0 k1 k2 k3 k5 hCo => ?_
  obtain ⟨hh', g, d', t, os⟩ := s
  have hxC : x ≠ c := fun z => by
    subst z
    revert hI; intro z__330
    refine ex1 (z__330) fun o' q__330_1 => an4 q__330_1 fun p1 p2 p3 _ => ?_
    clear z__330
    rw [show hh'.get? x = some o' from p1] at hCo
    cases hCo
    exact p3 _ rfl
  refine store_attr PySem.F.store_object hCo (X.keeps up).ns g3 (ha nm hat).1 (ha nm hat).2 hxC hI (fun h' tk' I' hk hsame => ?_) (ns := es.map (·.1)) (fun y u => ?_) ?_
  · refine ex1 (hsame _ hx) fun o1 q__335_1 => an5 q__335_1 fun e1 c1 c2 c3 c4 => ?_
    have e1' : h'.get? x = some ox := by
      rw [e1]
      have := c4 dx hod
      obtain ⟨oc, od, oda, osl⟩ := o1
      obtain ⟨pc, pd, pda, psl⟩ := ox
      simp only at c1 c2 c3 this hod
      subst c1 c2 c3 this hod
      rfl
    revert I'; intro z__344
    refine ex1 (z__344) fun o2 q__344_1 => an4 q__344_1 fun f1 f2 f3 f4 => ?_
    clear z__344
    rw [e1'] at f1; cases f1
    rcases f4 with ⟨f4, _⟩ | ⟨d2, f4, _, f5⟩
    · rw [hod] at f4; cases f4
    rw [hod] at f4; cases f4
    have keep : ∀ b o, b ≠ dx → hh'.get? b = some o → h'.get? b = some o := fun b o q e => by
      by_cases z : b = x
      · subst z; rw [show hh'.get? b = _ from hx] at e; cases e; exact e1'
      · exact hk b o z (fun o0 dx0 p1 p2 => by rw [show hh'.get? x = _ from hx] at p1; cases p1; rw [hod] at p2; cases p2; exact q) e
    obtain ⟨st, sm⟩ := S.putC (own := noOwn) (tk := tk') (h' := h') (c0 := .ns (es ++ [(nm, d)])) hρ hc keep ⟨_, f5, fun y => by
      rw [lookup_app1]
      have := hm y
      cases q : es.lookup y with
      | some e =>
        rw [q] at this
        obtain ⟨u, p1, p2⟩ := this
        have hne : y ≠ nm := fun z => by rw [z, hl] at q; cases q
        exact ⟨u, by rw [if_neg hne]; exact p1, p2⟩
      | none =>
        rw [q] at this
        by_cases z : y = nm
        · simp only [if_pos z]; exact ⟨v, rfl, rd⟩
        · simp only [if_neg z]; exact this⟩
    exact ⟨_, st, sm, h⟩
  · have := hm y
    cases q : es.lookup y with
    | none => rw [q] at this; exact absurd this u
    | some d => exact List.mem_map.mpr ⟨(y, d), mem_of_lookup q, rfl⟩
  · rw [List.length_map]
    exact le_line (Nat.le_trans hlen (by decide))
end
end Mine
end

section
set_option autoImplicit false
set_option linter.unusedVariables false
namespace Mine
open PySem

theorem merged_app : ∀ {kvs acc : List (Str × Value)}, ((acc ++ kvs).map (·.1)).Nodup → merged acc kvs = acc ++ kvs
  | [], acc, _ => by simp [merged]
  | p :: r, acc, h => by
    have hst : stored acc p.1 p.2 = acc ++ [p] := by
      unfold stored
      rw [if_neg]
      intro q
      rw [List.any_eq_true] at q
      obtain ⟨z, hz, hq⟩ := q
      have hq' : z.1 = p.1 := of_decide_eq_true hq
      rw [List.map_append, List.nodup_append] at h
      exact h.2.2 z.1 (List.mem_map.mpr ⟨z, hz, rfl⟩) p.1 (List.mem_map.mpr ⟨p, .head _, rfl⟩) hq'
    have ih := merged_app (kvs := r) (acc := acc ++ [p]) (by rw [List.append_assoc]; exact h)
    rw [List.append_assoc] at ih
    have : merged acc (p :: r) = merged (stored acc p.1 p.2) r := rfl
    rw [this, hst]
    exact ih

section
variable {prog : Program} {w : World} {A : Around} {h₀ : H0} {Γ : Ctx} {gk : Str → Gk} {k n : Nat}
variable {T : Tb} {trk : Bool} {l : Ev} {X : XP} {own : Addr → Prop} {env : Env} {W : Wd} {s : Shared} {L : Addr} {Q : D → St → Prop}

noncomputable def prs (env : Env) (pos : Pos) : List (Option Expr) → List Expr → List (Sem Value × Sem Value)
  | some e :: ks, v :: vs => (eval e env, do let x ← eval v env; standAt pos; pure x) :: prs env pos ks vs
  | _, _ => []
theorem key_cons {o : Option Expr} {ks : List (Option Expr)} (h : (keyL (o :: ks)).length = (o :: ks).length) : ∃ x a p, o = some (.Constant (.str x) a p) ∧ keyL (o :: ks) = x :: keyL ks ∧ (keyL ks).length = ks.length := by
  cases o with
  | none => exact absurd h (Nat.succ_ne_zero _).symm
  | some e =>
    cases q : strX e with
    | none => have h' : (match strX e with | some x => x :: keyL ks | none => []).length = ks.length + 1 := h; rw [q] at h'; exact absurd h' (Nat.succ_ne_zero _).symm
    | some x => obtain ⟨k, p, rfl⟩ := str_inv q; exact ⟨_, _, _, rfl, rfl, Nat.succ.inj h⟩
theorem prs_shape {pos : Pos} : ∀ {ks : List (Option Expr)} {vs : List Expr}, (keyL ks).length = ks.length → (evalEachOpt ks env).zip ((evalEach vs env).map fun v => do let x ← v; standAt pos; pure x) = (prs env pos ks vs).map fun p => (some p.1, p.2)
  | [], _, _ => rfl
  | none :: _, _, h => by cases h
  | some e :: ks, [], _ => rfl
  | some e :: ks, v :: vs, h => by
    refine ex3 (key_cons h) fun x a p q__43_1 => an3 q__43_1 fun he _ ih => ?_
    show (some (eval e env), _) :: ((evalEachOpt ks env).zip _) = _
    rw [prs_shape (pos := pos) (vs := vs) ih]; rfl
theorem prs_len {pos : Pos} : ∀ {ks : List (Option Expr)} {vs : List Expr}, (keyL ks).length = ks.length → ks.length = vs.length → (prs env pos ks vs).length = vs.length
  | [], [], _, _ => rfl
  | [], _ :: _, _, h => by cases h
  | _ :: _, [], _, h => by cases h
  | o :: ks, v :: vs, h, h2 => by
    refine ex3 (key_cons h) fun x a p q__51_1 => an3 q__51_1 fun e__51_3 _ h3 => ?_
    subst e__51_3
    simp only [prs, List.length_cons]
    rw [prs_len h3 (Nat.succ.inj h2)]

theorem ok_pairs (HH : ∀ m, m ≤ n → Snd prog w A h₀ Γ gk m) {pos : Pos} : ∀ {ks : List (Option Expr)} {vs : List Expr} {m : Nat} {W : Wd} {s : Shared} {KL : List D → St → Prop}, m ≤ n → (keyL ks).length = ks.length → ks.length = vs.length → Sim h₀ W s → FX A gk own env T l W s → wEs Γ m T false vs l W.st KL X →
    wpAny (model prog w) A (evalPairs (prs env pos ks vs)) (fun kvs s1 => ∃ W1 ds ws, Step noOwn s W s1 W1 ∧ Sim h₀ W1 s1 ∧ RepAll W1.R W1.ρ ds ws ∧ KL ds W1.st ∧ ds.length = vs.length ∧ Carries (strKind prog w) kvs ((keyL ks).zip ws)) (EX h₀ noOwn L s W X) s
  | [], [], m, W, s, KL, _, _, _, S, F, h => by
    cases m with
    | zero => exact h.elim
    | succ m => exact evalPairs_nil ⟨W, [], [], Step.refl _ _, S, rfl, h, rfl, trivial⟩
  | [], _ :: _, _, _, _, _, _, _, h, _, _, _ => by cases h
  | _ :: _, [], _, _, _, _, _, _, h, _, _, _ => by cases h
  | o :: ks, v :: vs, m, W, s, KL, hm, h1, h2, S, F, h => by
    refine ex3 (key_cons h1) fun x a p q__64_1 => an3 q__64_1 fun e__64_3 hk h3 => ?_
    subst e__64_3
    cases m with
    | zero => exact h.elim
    | succ m =>
      rw [f_cons] at h
      have hm' : m ≤ n := Nat.le_of_succ_le hm
      refine evalPairs_cons ?_
      rw [arm_eval_Constant]
      refine wpAny_mono (ok_const (Q := fun d st => d = .str x ∧ st = W.st) S (show _ from ⟨rfl, rfl⟩)) ?_ fun _ _ e => e.elim
      intro kv s1 q__
      refine ex1 (q__) fun W1 q__73_1 => an3 q__73_1 fun x1 S1 q__73_2 => ex1 q__73_2 fun d q__73_3 => an3 q__73_3 fun rk e__73_5 hst => ?_
      clear q__
      subst e__73_5
      obtain ⟨t, rfl⟩ := rk
      rw [← hst] at h
      have F1 := F.step0 S x1
      refine wpAny_bind (goV ((HH m hm').e (L := L) S1 F1 h) (fun u s2 W2 d2 x2 S2 r2 h => ?_) fun _ _ e => e.back S x1)
      refine wpAny_bind (wpAny_standAt (wpAny_pure ?_))
      have x12 := x1.trans S x2
      refine wpAny_mono (ok_pairs HH (pos := pos) (ks := ks) (vs := vs) hm' h3 (Nat.succ.inj h2) S2 (F1.step0 S1 x2) h) ?_ fun _ _ e => e.back S x12
      intro kvs s3 q__
      refine ex3 (q__) fun W3 ds ws q__81_1 => an6 q__81_1 fun x3 S3 r3 hq hl hc => ?_
      clear q__
      refine ⟨W3, d2 :: ds, u :: ws, x12.trans S x3, S3, ⟨u, ws, rfl, x3.rep S2 r2, r3⟩, hq, by rw [List.length_cons, List.length_cons, hl], ?_⟩
      rw [hk]
      exact ⟨is_str x t, rfl, hc⟩

theorem ok_dict (HH : ∀ m, m ≤ n → Snd prog w A h₀ Γ gk m) (hw : h₀.w = w) {ks : List (Option Expr)} {v : Expr} {r : List Expr} {pos : Pos} (hb : dictB ks (v :: r) = true) (S : Sim h₀ W s) (F : FX A gk own env T l W s)
    (h : wEs Γ n T false (v :: r) l W.st (fun ds st1 => Q (.loc st1.hi) (st1.alloc (.dict ((keyL ks).zip ds)))) X) : OKX prog w A h₀ noOwn L (eval (.Dict ks (v :: r) pos) env) W s (VP Q) X := by
  have b1 := Bool.and_eq_true_iff.mp hb
  have b2 := Bool.and_eq_true_iff.mp b1.1
  have b3 := Bool.and_eq_true_iff.mp b2.1
  have hk : (keyL ks).length = ks.length := beq_iff_eq.mp b3.2
  have hv : ks.length = (v :: r).length := beq_iff_eq.mp b2.2
  have hl16 : ks.length < 16 := Nat.blt_eq.mp b1.2
  have hnd := nodupS_of b3.1
  have hpl : (prs env pos ks (v :: r)).length = (v :: r).length := prs_len hk hv
  have h0 : prs env pos ks (v :: r) ≠ [] := fun z => by rw [z] at hpl; cases hpl
  obtain ⟨x0, S0⟩ := S.grow (own := noOwn) (tk := s.toks) (h' := s.heap.push { cls := .type "dict", data := .dict #[] }) (fun b o e => Heap.get?_push_of_some _ e)
  have hnew : (s.heap.push { cls := .type "dict", data := .dict #[] }).get? s.heap.objs.size = some { cls := .type "dict", data := .dict #[] } := Heap.get?_push_size _ rfl
  have dead : s.heap.get? s.heap.objs.size = none := dead_ge (Nat.le_refl _)
  refine wpAny_Dict_pairs (knd := strKind prog w) (pairs := prs env pos ks (v :: r)) (prs_shape hk) h0 (by rw [hpl, ← hv]; omega) ?_
  refine wpAny_mono (ok_pairs HH (pos := pos) (Nat.le_refl n) hk hv S0 (F.step0 S x0) h) ?_ fun _ _ e => e.back S x0
  intro kvs s1 q__
  refine ex3 (q__) fun W1 ds ws q__102_1 => an6 q__102_1 fun x1 S1 r1 hq hl hc => ?_
  clear q__
  have hz : (keyL ks).length = ws.length := by rw [r1.length, hl, hk, hv]
  have k1 : ((keyL ks).zip ws).map (·.1) = keyL ks := List.map_fst_zip (Nat.le_of_eq hz)
  have k2 : ((keyL ks).zip ws).map (·.2) = ws := List.map_snd_zip (Nat.le_of_eq hz.symm)
  have k3 : ((keyL ks).zip ds).map (·.1) = keyL ks := List.map_fst_zip (Nat.le_of_eq (hz.trans r1.length))
  have k4 : ((keyL ks).zip ds).map (·.2) = ds := List.map_snd_zip (Nat.le_of_eq (hz.trans r1.length).symm)
  have g1 : s1.heap.get? s.heap.objs.size = some { cls := .type "dict", data := .dict #[] } := x1.keep _ _ hnew (fun n q => absurd q (S.deadρ dead n)) id (S.frDead dead)
  refine ⟨(keyL ks).zip ws, hc, ⟨_, #[], 0, g1, ⟨rfl, rfl, rfl⟩, rfl, (fun _ he => by simp at he), .nil, .nil⟩, fun h' hd hs => ?_⟩
  have hR1 : W1.R s.heap.objs.size = none := (x1.extR _ _ hnew).trans (S.deadR dead)
  have hρ1 : ∀ n, W1.ρ n ≠ some s.heap.objs.size := fun n q => by
    rcases x1.new n _ q with z | z
    · exact S.deadρ dead n z
    · rw [show (s.heap.push { cls := .type "dict", data := .dict #[] }).get? s.heap.objs.size = none from z] at hnew; cases hnew
  have hF1 : ¬ W1.fr s.heap.objs.size := fun q => S.frDead dead ((x1.extF _ _ hnew).mp q)
  have x01 := x0.trans S x1
  obtain ⟨x2, S2⟩ := x01.dead' S1 dead hR1 hρ1 hF1 (fun b o q e => (hs.2 b q).trans e)
  have x3 := x2.trans S (Step.toks { s1 with heap := h' } W1 (s1.toks + kvs.length))
  have S3 := S2.toks (s1.toks + kvs.length)
  have hnd' : ((([] : List (Str × Value)) ++ (keyL ks).zip ws).map (·.1)).Nodup := by rw [List.nil_append, k1]; exact hnd
  rw [merged_app hnd', List.nil_append] at hd
  obtain ⟨x4, S4, e4⟩ := x3.trackC' (c0 := .dict ((keyL ks).zip ds)) S3 ⟨(keyL ks).zip ws, (let ⟨o, _, _, ho, _⟩ := hd; ⟨o, ho⟩), (fun p => by rw [hw]; exact dict_prog hd), by rw [k1, k3], by rw [k2, k4]; exact r1⟩ dead hR1 hρ1 hF1
  exact ⟨_, x4, S4, .loc _, ⟨_, e4, rfl⟩, hq⟩

theorem snd_e (a1 : AOk k A) (C : CtxOK prog w h₀ k Γ gk) (HH : ∀ m, m ≤ n → Snd prog w A h₀ Γ gk m) {e : Expr} (S : Sim h₀ W s) (F : FX A gk own env T l W s) (h : wE Γ (n + 1) T trk e l W.st Q X) : OKX prog w A h₀ noOwn L (eval e env) W s (VP Q) X := by
  have H := HH n (Nat.le_refl n)
  refine ex2 (C.ns) fun mg mb q__127_1 => an6 q__127_1 fun hmg hmb hgl hcst hfn hbl => ?_
  cases e with
  | Constant c x1 x2 =>
    rw [arm_eval_Constant]
    exact OK.toX (ok_const S h)
  | Name x p =>
    rw [f_name] at h
    unfold wName at h
    cases q : T.pl x with
    | no => rw [q] at h; exact h.elim
    | loc i o b =>
      rw [q] at h
      cases q2 : look l i with
      | none => have h' : eVal (look l i) W.st Q := h; rw [q2] at h'; exact h'.elim
      | some d =>
        have h' : eVal (look l i) W.st Q := h
        rw [q2] at h'
        have hd : mT T l x = some d := by unfold mT lookT; rw [q]; exact q2
        exact wpAny_Name (OK.toX (ok_load S F.f hd h')) (dbg_ne F.f (F.f.nm x d hd).1)
    | gl g =>
      rw [q] at h
      obtain ⟨hk, hgk⟩ := pl_gl q
      rw [F.g] at hgk
      have go : ∀ d, GlOK h₀ mg mb x d → Q d W.st → OKX prog w A h₀ noOwn L (eval (.Name x p) env) W s (VP Q) X := fun d hd hq => by
        obtain ⟨v, hv, hr⟩ := hd
        exact ok_global S F hk hmg hmb hv ⟨W, Step.refl _ _, S, d, hr _ _ S.base, hq⟩
      cases g with
      | cst d => exact go d (hcst x d (.inl hgk)) h
      | blt d => exact go d (hcst x d (.inr hgk)) h
      | dyn => obtain ⟨d, hd, hq⟩ := h; exact go d (hgl x d hd) hq
      | _ => exact h.elim
  | BoolOp op es p => rw [f_boolop] at h; rw [arm_eval_BoolOp]; exact H.bool S F h
  | BinOp a op r p =>
    rw [f_bin] at h
    rw [arm_eval_BinOp]
    refine OKX.bind S (H.e S F h) ?_
    rintro a W1 s1 x1 S1 ⟨da, ra, h1⟩
    refine OKX.bind S1 (OKX.holding (H.e S1 (F.step0 S x1) h1)) ?_
    rintro b W2 s2 x2 S2 ⟨db, rb, h2⟩
    exact OKX.stand (OK.toX (OK.operate (ok_bin S2 (x2.rep S1 ra) rb h2)))
  | UnaryOp op x p =>
    rw [f_un] at h
    rw [arm_eval_UnaryOp]
    refine OKX.bind S (H.e S F h) ?_
    rintro a W1 s1 x1 S1 ⟨da, ra, h1⟩
    exact OKX.stand (OK.toX (OK.holding (ok_un S1 ra h1)))
  | Compare a ops rs p =>
    rw [f_cmp] at h
    rw [arm_eval_Compare]
    refine OKX.bind S (H.e S F h) ?_
    rintro va W1 s1 x1 S1 ⟨d, rd, h1⟩
    refine OKX.mono (H.chV S1 (F.step0 S x1) rd h1) ?_
    rintro v W2 s2 _ _ ⟨b, e, hk⟩
    exact ⟨.bool b, e, hk⟩
  | Call f args kws pos =>
    cases kws with
    | cons _ _ => exact False.elim h
    | nil =>
      cases qf : nameOf f with
      | some x =>
        obtain ⟨p, rfl⟩ := name_inv qf
        rw [f_call] at h
        obtain ⟨hs, h⟩ := of_bif h
        cases q : T.pl x with
        | no => rw [q] at h; exact h.elim
        | loc i o b => rw [q] at h; exact h.elim
        | gl g =>
          rw [q] at h
          obtain ⟨hk, hgk⟩ := pl_gl q
          rw [F.g] at hgk
          cases g with
          | fn =>
            obtain ⟨hq, h⟩ := of_bif' h
            refine ex1 (hfn x hgk) fun v q__200_1 => an3 q__200_1 fun hv hfv hS => ?_
            refine ok_call H hs S F hk hmg hmb hv hfv h fun vs ds W1 s1 x1 S1 F1 rds q => ?_
            obtain ⟨Sp, hSp, q⟩ := q
            exact OKX.after S x1 (hS Sp hSp A W1 s1 ds vs Q X L a1 (F.h hq) F1.a S1 rds q)
          | blt d0 =>
            refine ex1 (hbl x (.inl ⟨_, hgk⟩)) fun v q__205_1 => an3 q__205_1 fun hb g1 g2 => ?_
            refine ok_call H hs S F hk hmg hmb (by rw [g1, g2]; rfl) (blt_fv hb) h fun vs ds W1 s1 x1 S1 F1 rds q => ?_
            exact OKX.after S x1 (OK.toX (ok_builtin C.sub S1 hb rds q))
          | _ => exact h.elim
      | none =>
        have h0 : (match nameOf f with
          | some x => _
          | none => (match attrOf f with
            | some (o, nm, apos) => bif isNameE o && apos.endLine == pos.line && noStars args && args.length.blt 29 then wE Γ n T false o l W.st (fun d st1 => wCallM Γ T.hq nm d st1 (fun K => wEs Γ n T false args l st1 K X) Q X) X else False
            | none => False)) := h
        rw [qf] at h0
        cases qa : attrOf f with
        | none => rw [qa] at h0; exact False.elim h0
        | some y =>
        rw [qa] at h0
        obtain rfl := attr_inv qa
        obtain ⟨o, nm, apos⟩ := y
        obtain ⟨hb, h⟩ := of_bif h0
        have b1 := Bool.and_eq_true_iff.mp hb
        have b2 := Bool.and_eq_true_iff.mp b1.1
        have b3 := Bool.and_eq_true_iff.mp b2.1
        show wpAny _ _ (eval (.Call (.Attribute o nm apos) args [] pos) env) _ _ _
        rw [arm_eval_Call, base_plain b3.1]
        refine wpAny_bind (goV (H.e S F h) (fun ov s1 W1 d x1 S1 rd h1 => ?_) fun _ _ e => e)
        have F1 := F.step0 S x1
        refine wpAny_bind (wpAny_standAt ?_)
        rcases h1 with ⟨rfl, hl, h1⟩ | ⟨hq, C', es, Sp, ho, hln, hcl, hme, h1⟩
        · obtain ⟨xs, hx⟩ := Option.isSome_iff_exists.mp hl
          refine meth_go b2.2 b1.2 b3.2 (fun pl R' hR => get_append S1 rd hx hR) ?_
          refine Calls.callWith_builtin (plain_args b2.2).1 (wpAny_mono (ok_args (L := L) H b2.2 S1 F1 h1 (R := fun a s2 => a.kw = [] ∧ Fin' h₀ noOwn s1 W1 (VPs fun ds st2 => wMeth d ds st2 Q) a.pos s2) fun vs s2 q => ⟨rfl, q⟩) ?_ fun _ _ e => e.back S x1)
          rintro ⟨vs, kw⟩ s2 ⟨rfl, W2, x2, S2, ds, rds, q⟩
          obtain ⟨x', hds⟩ : ∃ x', ds = [x'] := by obtain ⟨_, x', _, _, e, _⟩ := q; exact ⟨x', e⟩
          subst hds
          obtain ⟨u, rfl, ru⟩ := reps1 rds
          exact OKX.after S (x1.trans S x2) (OK.toX (ok_append S2 (x2.rep S1 rd) ru q))
        · obtain ⟨m, rfl, hc⟩ := obj_inv ho
          refine ex3 (C.cl C' hcl) fun c N mN q__241_1 => an7 q__241_1 fun hC Xc g1 g2 g3 _ hM => ?_
          refine ex4 (hM nm Sp hme) fun f of fd y q__242_1 => an6 q__242_1 fun m1 m2 m3 m4 m5 m6 => ?_
          refine ex4 (inst_at S1 hC rd hc) fun xa dx mA oxa q__243_1 => an8 q__243_1 fun e__243_4 _ _ _ _ _ hI hm => ?_
          subst e__243_4
          have hmn := hm nm
          rw [hln] at hmn
          have up : ∀ b o, h₀.h.get? b = some o → s1.heap.get? b = some o := fun b o e => S1.frz b o (S1.base b o e)
          refine meth_go b2.2 b1.2 b3.2 (fun pl R' hR => ?_) ?_ (callee := .ref f) (first := [.ref xa])
          · refine ex12 ((Xc.keeps up).obj) fun nm' q bs sn sub col dd k0 k1 k2 k3 k5 hCo => ?_
            obtain ⟨hh', g, d', t, os⟩ := s1
            exact method_of hCo (Xc.keeps up).ns g1 g2 m1 (up _ _ m2) m3 m5 hI hmn hR
          · refine Calls.callWith_function (o := of) (fd := fd) (wpAny_mono (ok_args (L := L) H b2.2 S1 F1 h1 (R := fun a s2 => a.kw = [] ∧ Fin' h₀ noOwn s1 W1 (VPs fun ds st2 => Sp (.inst C' m :: ds) st2 Q X) a.pos s2) fun vs s2 q => ⟨rfl, q⟩) ?_ fun _ _ e => e.back S x1)
            rintro ⟨vs, kw⟩ s2 ⟨rfl, W2, x2, S2, ds, rds, q⟩
            refine ⟨⟨S2.frz _ _ (S2.base _ _ m2), m4⟩, ?_⟩
            exact OKX.after S (x1.trans S x2) (m6 A W2 s2 (.inst C' m :: ds) (.ref xa :: vs) Q X L a1 (F.h hq) (F1.step0 S1 x2).a S2 ⟨_, _, rfl, x2.rep S1 rd, rds⟩ q)
  | Attribute o nm p =>
    rw [f_attr] at h
    obtain ⟨hb, h⟩ := of_bif h
    obtain ⟨xn, pn, rfl⟩ := name_of hb
    rw [arm_eval_Attribute]
    refine OKX.bind S (H.e S F h) ?_
    rintro ov W1 s1 x1 S1 ⟨d, rd, h1⟩
    exact OKX.stand (OK.toX (OK.bind S1 (OK.holding (ok_attr C S1 rd h1)) fun r W2 s2 x2 S2 h2 => OK.pure (α := Value) S2 h2))
  | Subscript v sl p =>
    refine PyProof.Rows.Subscript_ ?_
    cases qs : sliceOf sl with
    | none =>
      have h0 : (match sliceOf sl with
        | some (a, u, sp) => _
        | none => wE Γ n T false v l W.st (fun d st1 => wE Γ n T false sl l st1 (fun i st2 => wItem d i st2 Q) X) X) := h
      rw [qs] at h0
      refine goV (H.e S F h0) (fun o s1 W1 d x1 S1 rd h1 => ?_) fun _ _ e => e
      refine goV (H.e S1 (F.step0 S x1) h1) (fun i s2 W2 di x2 S2 ri h2 => ?_) fun _ _ e => e.back S x1
      exact OKX.after S (x1.trans S x2) (OK.toX (ok_item C.hw (slice_no qs) S2 (x2.rep S1 rd) ri h2))
    | some y =>
      obtain ⟨p', rfl⟩ := slice_inv qs
      rw [f_slice] at h
      refine goV (H.e S F h) (fun o s1 W1 d x1 S1 rd h1 => ?_) fun _ _ e => e
      have F1 := F.step0 S x1
      rw [arm_eval_Slice]
      refine wpAny_bind (goV (H.opt S1 F1 h1) (fun vl s2 W2 dl x2 S2 rl h2 => ?_) fun _ _ e => e.back S x1)
      have F2 := F1.step0 S1 x2
      have y2 := x1.trans S x2
      refine wpAny_bind (wpAny_holding (goV (H.opt S2 F2 h2) (fun vu s3 W3 du x3 S3 ru h3 => ?_) fun _ _ e => e.back S y2))
      have F3 := F2.step0 S2 x3
      have y3 := y2.trans S x3
      refine wpAny_bind (wpAny_holding (goV (H.opt S3 F3 h3) (fun vs s4 W4 dp x4 S4 rp h4 => ?_) fun _ _ e => e.back S y3))
      refine wpAny_newObj_type ?_
      refine wpAny_mono (ok_slice (trk := trk) S4 (x4.rep S3 (x3.rep S2 (x2.rep S1 rd))) (x4.rep S3 (x3.rep S2 rl)) (x4.rep S3 ru) rp h4 rfl) ?_ fun _ _ e => e.elim
      intro r s5 q__
      refine ex1 (q__) fun W5 q__289_1 => an3 q__289_1 fun x5 S5 q => ?_
      clear q__
      exact ⟨W5, (y3.trans S x4).trans S x5, S5, q⟩
  | Tuple es x1 p =>
    rw [f_tup] at h
    rw [arm_eval_Tuple]
    refine OKX.stand (OKX.bind S (H.es S F h) ?_)
    intro vs W1 s1 x1 S1 q__
    refine ex1 (q__) fun ds q__295_1 => an3 q__295_1 fun rds hl hq => ?_
    clear q__
    exact OK.toX (ok_newTuple S1 rds hl hq)
  | List es p =>
    rw [f_list] at h
    rw [arm_eval_List]
    refine OKX.stand (OKX.bind S (H.es S F h) ?_)
    rintro vs W1 s1 x1 S1 ⟨ds, rds, hq⟩
    exact OK.toX (ok_newList S1 rds hq)
  | Dict ks vs p =>
    cases vs with
    | nil =>
      have h' : bif ks.isEmpty && !trk then Q (.exc (.type "dict")) W.st else False := h
      obtain ⟨hb, hQ⟩ := of_bif h'
      have b1 := Bool.and_eq_true_iff.mp hb
      have e : ks = [] := List.isEmpty_iff.mp b1.1
      subst e
      refine wpAny_Dict_empty ?_
      obtain ⟨x1, S1⟩ := S.ext (own := noOwn) (tk := s.toks) (h' := s.heap.push { cls := .type "dict", data := .dict #[] }) (fun b o e => Heap.get?_push_of_some _ e) (fun b => if b = s.heap.objs.size then some { cls := .type "dict", data := .dict #[] } else none) (fun b o e => by
        split at e
        · rename_i z; cases e; subst z; exact ⟨dead_ge (Nat.le_refl _), Heap.get?_push_size _ rfl⟩
        · cases e)
      exact ⟨_, x1, S1, .exc (.type "dict"), ⟨_, _, rfl, by show Option.or (if s.heap.objs.size = s.heap.objs.size then _ else _) _ = _; rw [if_pos rfl]; rfl, rfl⟩, hQ⟩
    | cons v r =>
      rw [f_dict] at h
      obtain ⟨hb, h⟩ := of_bif h
      exact ok_dict HH C.hw (Bool.and_eq_true_iff.mp hb).2 S F h
  | ListComp elt gens scope pos =>
    have h0 : (match genOf gens with
      | some (t, it, ifs) => _
      | none => False) := h
    cases qg : genOf gens with
    | none => rw [qg] at h0; exact False.elim h0
    | some y =>
    clear h0
    revert h
    refine gen_elim (P := fun gens => wE Γ (n + 1) T trk (.ListComp elt gens scope pos) l W.st Q X → OKX prog w A h₀ noOwn L (eval (.ListComp elt gens scope pos) env) W s (VP Q) X) qg fun h => ?_
    obtain ⟨t, it, ifs⟩ := y
    rw [f_comp] at h
    obtain ⟨hb, h⟩ := of_bif h
    have b1 := Bool.and_eq_true_iff.mp hb
    have sc := scope_of b1.2
    have hq : T.hq = false := nf_of b1.1
    obtain ⟨hfold, hit⟩ := H.it (L := L) hq S F (noOwnOK s W) h
    rw [eval_ListComp]
    refine wpAny_comprehension_free (use := none) rfl hfold (hclos_of F.f sc) sc.1 (hnames_of sc) ?_
    show wpAny (model prog w) A (eval it env) _ _ s
    refine wpAny_mono hit (fun x s1 h1 => wpAny_mono h1 ?_ fun _ _ e => e) fun _ _ e => e
    intro itv s2 q__
    refine ex3 (q__) fun W2 items p q__342_1 => an5 q__342_1 fun x2 S2 I hlen hk => ?_
    clear q__
    have F2 := F.step0 S x2
    refine wpAny_mono (comp_core S F.f x2 S2 F2.f F2.a I hlen sc (snd_comp H (F.h hq) F.g) hk ?_) (fun acc s3 h3 => wpAny_mono h3 (fun _ _ q => q) fun _ _ e => e.elim) fun _ _ e => e.elim
    rintro D' C s' W' x' S' hv h0 hR hρ hF ⟨mv, hns⟩
    refine ⟨mv, hns, fun h' hs' => ?_⟩
    obtain ⟨x6, S6⟩ := x'.dead' S' h0 hR hρ hF (fun b o q e => (hs'.2 b q).trans e)
    exact ⟨W', x6, S6, hv⟩
  | _ => exact False.elim h

theorem snd_n (a1 : AOk k A) (C : CtxOK prog w h₀ k Γ gk) (n : Nat) : Snd prog w A h₀ Γ gk n := by
  have all : ∀ n, ∀ m, m ≤ n → Snd prog w A h₀ Γ gk m := by
    intro n
    induction n with
    | zero => intro m hm; rw [Nat.le_zero.mp hm]; exact snd_zero
    | succ n ih =>
      intro m hm
      rcases Nat.lt_or_ge m (n + 1) with q | q
      · exact ih m (Nat.le_of_lt_succ q)
      · have e : m = n + 1 := Nat.le_antisymm hm q
        subst e
        have H := ih n (Nat.le_refl n)
        exact { e := fun S F h => snd_e a1 C ih S F h, es := fun S F h => snd_es H S F h, opt := fun S F h => snd_opt H S F h, bool := fun S F h => snd_bool H S F h, chV := fun S F r h => snd_chV a1 H S F r h, chT := fun S F r h => snd_chT a1 H S F r h, t := fun S F h => snd_t H S F h, all := fun S F h => snd_all H S F h, it := fun hq S F O h => snd_it C H hq S F O h }
  exact all n n (Nat.le_refl n)
end
end Mine
end

section
set_option autoImplicit false
set_option linter.unusedVariables false
namespace Mine
open PySem

theorem nt_of {b : Bool} (h : (!b) = false) : b = true := by cases b with
  | true => rfl
  | false => cases h

section
variable {prog : Program} {w : World} {A : Around} {h₀ : H0} {Γ : Ctx} {gk : Str → Gk} {k n : Nat}

structure SndS (prog : Program) (w : World) (A : Around) (h₀ : H0) (Γ : Ctx) (gk : Str → Gk) (n : Nat) : Prop where
  s : ∀ {T st l K X own env W s L outer}, Sim h₀ W s → FX A gk own env T l W s → OwnOK own s W → A.frames = some (env :: outer) → env.frame = some L → wS Γ n T st l W.st K X → OKX prog w A h₀ own L (exec st env) W s (FP own env T K) X
  ss : ∀ {T ss l K X own env W s L outer}, Sim h₀ W s → FX A gk own env T l W s → OwnOK own s W → A.frames = some (env :: outer) → env.frame = some L → wSs Γ n T ss l W.st K X → OKX prog w A h₀ own L (execs ss env) W s (FP own env T K) X

theorem sndS_zero : SndS prog w A h₀ Γ gk 0 where
  s := fun _ _ _ _ _ h => False.elim h
  ss := fun _ _ _ _ _ h => False.elim h

variable {T : Tb} {trk : Bool} {l : Ev} {X : XP} {own : Addr → Prop} {env : Env} {W : Wd} {s : Shared} {L : Addr} {outer : List Env} {K : Fl → Ev → St → Prop}

theorem not_inter (F : FX A gk own env T l W s) : interactive env = false := by
  unfold interactive; rw [F.f.fn]; rfl

theorem flNext (F : Fram own env T.kd (mT T l) W s) (h : K .next l W.st) : FP own env T K .next W s := ⟨.next, l, rfl, F, h⟩

theorem snd_expr (H : Snd prog w A h₀ Γ gk n) {v : Expr} {p : Pos} {X' : XP} (S : Sim h₀ W s) (F : FX A gk own env T l W s) (hc : isCallE v = true) (h : wE Γ n T false v l W.st (fun _ st1 => K .next l st1) X') :
    wpAny (model prog w) A (exec (.Expr v p) env) (Fin' h₀ own s W fun f W' s' => f = .next ∧ Fram own env T.kd (mT T l) W' s' ∧ K .next l W'.st) (EX h₀ noOwn L s W X') s := by
  have hsw : swapsWith v none p.line env = pure false := by cases v <;> first | rfl | cases hc
  refine wpAny_Expr_any (goV (H.e S F h) (fun u s1 W1 d x1 S1 rd h1 => ?_) fun _ _ e => e) (not_inter F) hsw
  exact ⟨W1, x1.wide fun _ _ _ q => q.elim, S1, rfl, (F.step0 S x1).f, h1⟩

theorem snd_assign (HH : ∀ n, Snd prog w A h₀ Γ gk n) {x : Str} {p' p : Pos} {v : Expr} {i : Nat} {b : Bool} (S : Sim h₀ W s) (F : FX A gk own env T l W s) (O : OwnOK own s W) (hx : T.pl x = .loc i true b)
    (h : wE Γ n T b v l W.st (fun d st1 => K .next (setE l i (some d)) st1) X) : OKX prog w A h₀ own L (exec (.Assign [.Name x p'] v p) env) W s (FP own env T K) X := by
  have hsw : ∃ b, swapsWith v (some (.Name x p')) p.line env = pure b ∧ (b = true → ∃ elt gens scope pos, v = .ListComp elt gens scope pos) := by
    cases v with
    | ListComp a b c d => exact ⟨_, rfl, fun _ => ⟨a, b, c, d, rfl⟩⟩
    | SetComp => cases n <;> exact False.elim h
    | DictComp => cases n <;> exact False.elim h
    | _ => exact ⟨false, rfl, fun q => nomatch q⟩
  obtain ⟨b', hb, hl⟩ := hsw
  cases b' with
  | false =>
    unfold OKX
    rw [exec_Assign_Name _ _ _ _ _ hb]
    refine wpAny_bind (wpAny_standAt (wpAny_bind (goV ((HH n).e S F h) (fun u s1 W1 d x1 S1 rd h1 => ?_) fun _ _ e => e.wide0)))
    have x1' : Step own s W s1 W1 := x1.wide fun _ _ _ q => q.elim
    refine wpAny_bind (wpAny_standAt (wpAny_bind (goW (ok_setN S1 (F.step0 S x1).f hx rd) (fun _ s2 x2 S2 F2 => ?_))))
    exact wpAny_pure ⟨_, x1'.trans S x2, S2, flNext F2 h1⟩
  | true =>
    refine ex4 (hl rfl) fun elt gens scope pos e__54_4 => ?_
    subst e__54_4
    cases n with
    | zero => exact False.elim h
    | succ n =>
    have h0 : (match genOf gens with
      | some (t, it, ifs) => _
      | none => False) := h
    cases qg : genOf gens with
    | none => rw [qg] at h0; exact False.elim h0
    | some y =>
    clear h0 hl
    refine gen_elim (P := fun gens => wE Γ (n + 1) T b (.ListComp elt gens scope pos) l W.st (fun d st1 => K .next (setE l i (some d)) st1) X → swapsWith (.ListComp elt gens scope pos) (some (.Name x p')) p.line env = pure true → OKX prog w A h₀ own L (exec (.Assign [.Name x p'] (.ListComp elt gens scope pos) p) env) W s (FP own env T K) X) qg (fun h hb => ?_) h hb
    obtain ⟨t, it, ifs⟩ := y
    rw [f_comp] at h
    obtain ⟨hbb, h⟩ := of_bif h
    have b1 := Bool.and_eq_true_iff.mp hbb
    have sc := scope_of b1.2
    have hq : T.hq = false := nf_of b1.1
    obtain ⟨hfold, hit⟩ := (HH n).it (L := L) hq S F (noOwnOK s W) h
    unfold OKX
    rw [exec_Assign_Name_used _ _ _ _ hb]
    refine wpAny_bind (wpAny_standAt (wpAny_bind ?_))
    show wpAny _ A (do let _ ← comprehension (.ListComp elt [⟨t, it, ifs, 0⟩] scope pos) scope env _ (newList []) false (eval it env) (some (assign (.Name x p') env))) _ _ s
    refine wpAny_bind (wpAny_mono (wpAny_comprehension_free (use := some (assign (.Name x p') env)) (Q := fun _ s' => Fin' h₀ own s W (FP own env T K) .next s') (E := EX h₀ own L s W X) rfl hfold (hclos_of F.f sc) sc.1 (hnames_of sc) ?_) (fun _ s' hq => wpAny_pure (wpAny_pure hq)) fun _ _ e => e)
    refine wpAny_mono hit (fun x s1 h1 => wpAny_mono h1 ?_ fun _ _ e => e.wide0) fun _ _ e => e.wide0
    intro itv s2 q__
    refine ex3 (q__) fun W2 items p q__79_1 => an5 q__79_1 fun x2 S2 I hlen hk => ?_
    clear q__
    have F2 := F.step0 S x2
    refine wpAny_mono (comp_core S F.f x2 S2 F2.f F2.a I hlen sc (snd_comp (HH n) (F.h hq) F.g) hk ?_) (fun acc s3 h3 => wpAny_mono h3 (fun _ _ q => q) fun _ _ e => e.elim) fun _ _ e => e.elim
    rintro D' C s' W' x' S' ⟨d, rd, h1⟩ h0 hR hρ hF ⟨mv, hns⟩
    show wpAny _ A (standAt p' >>= fun _ => bindName env _ (.ref D')) _ _ _
    have F' := F.step0 S x'
    have neL : env.locals ≠ C := fun q => by obtain ⟨_, o, _, _, e, _⟩ := F.f.ns; rw [q, h0] at e; cases e
    have neC : ∀ y c, env.cells.lookup y = some c → c ≠ C := fun y c e q => by obtain ⟨⟨_, o, e', _⟩, _⟩ := F.f.cl y c e; rw [q, h0] at e'; cases e'
    refine wpAny_bind (wpAny_standAt (goW (ok_setN S' F'.f hx rd) (fun _ s3 x3 S3 F3 => ?_)))
    revert hns; intro z__88
    refine ex3 (z__88) fun o es ep q__88_1 => an2 q__88_1 fun ho r => ?_
    clear z__88
    refine ⟨mv, ⟨o, es, ep, x3.keep C o ho (fun n q => absurd q (hρ n)) (fun q => ?_) hF, r⟩, fun h' hs' => ?_⟩
    · obtain ⟨⟨o', e'⟩, _⟩ := O C q
      rw [h0] at e'; cases e'
    · have ext : ∀ b o, b ≠ C → s3.heap.get? b = some o → h'.get? b = some o := fun b o q e => (hs'.2 b q).trans e
      have x4 : Step own s W s3 W' := (x'.wide fun _ _ _ q => q.elim).trans S x3
      obtain ⟨x6, S6⟩ := x4.dead' S3 h0 hR hρ hF ext
      exact ⟨W', x6, S6, flNext (F3.heap (tk := s3.toks) (fun o e => ext _ o neL e) fun y c o q e => ext c o (neC y c q) e) h1⟩

/-- a name goes behind an except suite -/
theorem ok_unbind {y : Str} {i : Nat} {b : Bool} {pos : Pos} (S : Sim h₀ W s) (F : Fram own env T.kd (mT T l) W s) (hy : T.pl y = .loc i true b) (hk : T.kd y = some .local) :
    OK prog w A h₀ own (do bindName env y .none; unbindBehindTheSuite env y pos) W s (fun _ W' s' => W' = W ∧ Fram own env T.kd (mT T (setE l i none)) W s') := by
  have hkE := F.kE y _ hk (by intro z; cases z)
  obtain ⟨mv, hns⟩ := F.ns
  refine wpAny_nameGoes_keeps hkE hns (by rw [F.fn]; rfl) fun h' v hn' hs' => ?_
  have ext : ∀ b o, b ≠ env.locals → s.heap.get? b = some o → h'.get? b = some o := fun b o q e => (hs'.2 b q).trans e
  obtain ⟨st, sm⟩ := S.ownStep (own := own) (tk := s.toks + 1) F.lo.1 F.lo.2.1 F.lo.2.2 ext (ns_there hn') fun _ => ⟨_, hn'⟩
  refine ⟨W, st, sm, rfl, F.fn, F.gl, F.bi, F.kE, F.dbg, fun z d hz => ?_, ⟨_, hn'⟩, fun z c q => ?_, F.ci, F.lo, F.co, F.kF⟩
  · obtain ⟨hz1, hz2⟩ := mT_none hy hz
    refine an2 (F.nm z d hz1) fun h1 q__107_1 => ex1 q__107_1 fun u q__107_2 => an2 q__107_2 fun H hu => ?_
    refine ⟨h1, u, ?_, hu⟩
    rcases H with ⟨k, mv', hns', hv'⟩ | ⟨k, c, hc, o, ho, r⟩
    · refine .inl ⟨k, _, hn', ?_⟩
      show (if z = y then v else mv z) = some u
      rw [if_neg hz2]
      have : mv' = mv := by
        revert hns'; intro z__114
        refine ex3 (z__114) fun o1 es1 ep1 q__114_1 => an4 q__114_1 fun ho1 hd1 _ hf1 => ?_
        clear z__114
        revert hns; intro z__115
        refine ex3 (z__115) fun o2 es2 ep2 q__115_1 => an4 q__115_1 fun ho2 hd2 _ hf2 => ?_
        clear z__115
        rw [ho1] at ho2; cases ho2
        rw [hd1] at hd2; cases hd2
        funext z; rw [← hf1 z, hf2 z]
      rw [← this]; exact hv'
    · exact .inr ⟨k, c, hc, o, ext c o (F.cl z c hc).2.1 ho, r⟩
  · obtain ⟨⟨u, o, ho, r⟩, h2, h3⟩ := F.cl z c q
    exact ⟨⟨u, o, ext c o h2 ho, r⟩, h2, h3⟩

theorem snd_raise (a1 : AOk k A) (C : CtxOK prog w h₀ k Γ gk) (HH : ∀ n, Snd prog w A h₀ Γ gk n) {x : Str} {c : Str} {p1 p3 p4 : Pos} {p2 a} {V : Value} {R : Flow → Shared → Prop} (S : Sim h₀ W s) (F : FX A gk own env T l W s) (hq : T.hq = false) (hg : T.pl x = .gl .dyn) (hv : Γ.gl x = some (.val V)) (hex : Γ.ex V = true) (h : X V W.st) :
    wpAny (model prog w) A (exec (.Raise (some (.Call (.Name x p1) [.Constant (.str c) p2 a] [] p3)) none p4) env) R (EX h₀ own L s W X) s := by
  refine ex2 (C.ns) fun mg mb q__126_1 => an4 q__126_1 fun hmg hmb hgl _ => ?_
  refine ex7 (C.ex V hex) fun xx cc bmB newId mg' B initId q__127_1 => an3 q__127_1 fun e__127_7 O FB => ?_
  subst e__127_7
  obtain ⟨u, hu, hr⟩ := hgl x _ hv
  have hu' : u = .ref cc := hr W.R W.ρ S.base
  subst hu'
  obtain ⟨tl, N, nm, q, bs, hdct, sn, sub, ab, col, dd, k0, k1, k2, k3, k5, mN, hC, hN, hni, Tl⟩ := O.obj
  refine wpAny_Raise_call_subT (C := cc) (nm := nm) (q := q) (N := N) (bs := bs) (bm := tl) (hdct := hdct) (sn := sn) (sub := sub) (ab := ab) (col := col) (dd := dd) (k0 := k0) (k1 := k1) (k2 := k2) (k3 := k3) (k5 := k5)
    FB (mN := mN) (Tl.hasType FB.hasBase) (F.h hq) (by rfl) hni (ok_global S F (pl_gl hg).1 hmg hmb hu ⟨rfl, ?_⟩)
  refine wpAny_mono (ok_args (L := L) (HH 3) (KL := fun ds st => st = W.st ∧ ds.length = 1) (X := noX) (R := fun a s2 => a.kw = [] ∧ Fin' h₀ noOwn s W (VPs fun ds st => st = W.st ∧ ds.length = 1) a.pos s2) rfl S F (show _ from ⟨rfl, rfl⟩) fun vs s2 q => ⟨rfl, q⟩) ?_ fun _ _ e => e.none.elim
  rintro ⟨vs, kw⟩ s2 ⟨hkw, W2, x2, S2, ds, rds, hst, hdl⟩
  have up : ∀ b o, h₀.h.get? b = some o → s2.heap.get? b = some o := fun b o e => S2.frz b o (S2.base b o e)
  have hvl : vs.length = 1 := rds.length.trans hdl
  refine ⟨hkw, by rw [hvl]; decide, up _ _ hC, hN.keeps up, Tl.keeps up, fun h' e M => ?_⟩
  obtain ⟨x3, S3⟩ := S2.grow (own := noOwn) (tk := s2.toks) M.keeps
  have x4 := x2.trans S x3
  refine ex1 (M.there) fun t q__141_1 => an3 q__141_1 fun he _ _ => ?_
  exact ⟨e, .ref cc, W2, rfl, x4.wide fun _ _ _ q => q.elim, S3, ⟨x2.deadB M.new, S2.deadR M.new, S2.deadρ M.new, _, _, _, none, he, rfl, rfl, rfl, .inl rfl, rfl⟩, by rw [hst]; exact h⟩

theorem AOk.mark (a1 : AOk k A) (h : Option Value) : AOk k (A.mark h) := ⟨a1.dp, a1.un⟩

theorem snd_try (a1 : AOk k A) (C : CtxOK prog w h₀ k Γ gk) (HH : ∀ A, AOk k A → ∀ n, Snd prog w A h₀ Γ gk n) (HS : ∀ A, AOk k A → SndS prog w A h₀ Γ gk n) {v : Expr} {p1 p2 p3 p4 : Pos} {h' y : Str} {suite : List Stmt} {i : Nat} {b : Bool}
    (S : Sim h₀ W s) (F : FX A gk own env T l W s) (O : OwnOK own s W) (hfr : A.frames = some (env :: outer)) (hf : env.frame = some L) (hgh : T.pl h' = .gl .dyn) (hy : T.pl y = .loc i true b) (hq : T.hq = false) (hc : isCallE v = true) (hne : suite.isEmpty = false) (hky : T.kd y = some .local)
    (h : wE Γ n T false v l W.st (fun _ st1 => K .next l st1) fun C st1 => Γ.gl h' = some (.val C) ∧ Γ.ex C = true ∧ wSs Γ n { T with hq := true } suite (setE l i (some (.exc C))) st1 (fun fl l2 st2 => K fl (setE l2 i none) st2) noX) :
    OKX prog w A h₀ own L (exec (.Try [.Expr v p1] [.ExceptHandler (some (.Name h' p2)) (some y) suite p3] [] [] p4) env) W s (FP own env T K) X := by
  refine wpAny_Try_except ?_
  refine wpAny_execs_cons (wpAny_mono (snd_expr (L := L) (HH A a1 n) S F hc h) ?_ ?_)
  · intro f s1 q__
    refine ex1 (q__) fun W1 q__152_1 => an5 q__152_1 fun x1 S1 e__152_3 F1 h1 => ?_
    clear q__
    subst e__152_3
    exact wpAny_execs_nil (wpAny_execs_nil ⟨W1, x1, S1, flNext F1 h1⟩)
  intro ev s1 q__
  refine ex3 (q__) fun e V W1 q__154_1 => an7 q__154_1 fun e__154_3 x1 S1 f1 hV hex hw => ?_
  clear q__
  subst e__154_3
  have FO1 : FrOK A W1 := F.a.step S x1
  refine fly_note x1 S1 f1 hfr FO1 hf fun h2 x2 S2 f2 => ?_
  refine fly_land x2 S2 f2 hfr FO1 (fun q e => by rw [e]; exact fun z => nomatch z) fun h3 x3 S3 f3 => ?_
  have F3 : FX (A.mark (some (.ref e))) gk own env { T with hq := true } l W1 _ := ⟨F.f.step0 S x3, FO1, (fun z => nomatch z), F.g⟩
  refine ex2 (C.ns) fun mg mb q__159_1 => an4 q__159_1 fun hmg hmb hgl _ => ?_
  refine ex7 (C.ex V hex) fun xx cc bmB newId mg' B initId q__160_1 => an3 q__160_1 fun e__160_7 Oc FB => ?_
  subst e__160_7
  obtain ⟨u, hu, hr⟩ := hgl h' _ hV
  have hu' : u = .ref cc := hr W.R W.ρ S.base
  subst hu'
  obtain ⟨tl, N, nm, q, bs, hdct, sn, sub, ab, col, dd, k0, k1, k2, k3, k5, mN, hC, hN, hni, Tl⟩ := Oc.obj
  have up : ∀ b o, h₀.h.get? b = some o → h3.get? b = some o := fun b o e => S3.frz b o (S3.base b o e)
  refine ex4 (f3.obj) fun oe vs a0 q' q__166_1 => an6 q__166_1 fun g1 g2 g3 g4 g5 g6 => ?_
  refine wpAny_handleBy_cons (codeAny_handlers_test (ok_global S3 F3 (pl_gl hgh).1 hmg hmb hu ?_)) (by intro q; cases q)
  refine wpAny_excMatches_sub_self (up _ _ hC) g1 g2 (Tl.hasType FB.hasBase) ?_
  cases suite with
  | nil => cases hne
  | cons b0 rest =>
  refine codeAny_handlers_suite_as ?_
  refine fly_land x3 S3 f3 (A := A.mark (some (.ref e))) hfr FO1 (fun q e => by rw [e]; exact fun z => nomatch z) fun h4 x4 S4 f4 => ?_
  refine ex4 (f4.obj) fun oe vs a0 q' q__174_1 => an6 q__174_1 fun g1 g2 g3 g4 g5 g6 => ?_
  obtain ⟨x5, S5⟩ := x4.freeze' S4 g1 f4.new f4.R f4.ρ (fields_no S4 g1 g3)
  have F5 : Fram own env T.kd (mT T l) _ _ := F.f.step0 S x5
  have x5' : Step own s W _ _ := x5.wide fun _ _ _ q => q.elim
  have rd : Rep (fun b => if b = e then some oe else W1.R b) W1.ρ (.exc (.ref cc)) (.ref e) := ⟨e, oe, rfl, if_pos rfl, g2⟩
  refine goW (ok_store (A := A.mark (some (.ref e))) S5 F5 (pl_inv hy).2.2.2 rd) (fun _ s6 x6 S6 F6 => ?_)
  have y6 := x5'.trans S x6
  have F6' : Fram own env T.kd (mT T (setE l i (some (.exc (.ref cc))))) _ s6 := F6.forget fun z d e => mT_set hy e
  have FO6 : FrOK A _ := F.a.step S y6
  have X6 : FX (A.mark (some (.ref e))) gk own env { T with hq := true } (setE l i (some (.exc (.ref cc)))) _ s6 := ⟨F6', FO6, (fun z => nomatch z), F.g⟩
  refine wpAny_mono ((HS _ (a1.mark _)).ss (L := L) S6 X6 (O.step y6) hfr hf hw) ?_ fun _ _ e => e.none.elim
  intro f s7 q__
  refine ex1 (q__) fun W7 q__185_1 => an3 q__185_1 fun x7 S7 q__185_2 => ex2 q__185_2 fun fl l7 q__185_3 => an3 q__185_3 fun hfl F7 hK => ?_
  clear q__
  refine goW (ok_unbind (A := A) (pos := p3) S7 F7 hy hky) (fun _ s8 x8 S8 F8 => ?_)
  exact ⟨_, (y6.trans S x7).trans S x8, S8, fl, _, hfl, F8, hK⟩

theorem pl_dyn {P : Prop} {p : Pl} (h : match p with
    | .gl .dyn => P
    | _ => False) : p = .gl .dyn ∧ P := by
  cases p with
  | gl g => cases g with
    | dyn => exact ⟨rfl, h⟩
    | _ => exact h.elim
  | _ => exact h.elim
theorem pl_loc {P : Nat → Prop} {p : Pl} (h : match p with
    | .loc i true _ => P i
    | _ => False) : ∃ i b, p = .loc i true b ∧ P i := by
  cases p with
  | loc i o b => cases o with
    | true => exact ⟨i, b, rfl, h⟩
    | false => exact h.elim
  | _ => exact h.elim
theorem Step.up {s1 : Shared} {W1 : Wd} (x : Step noOwn s W s1 W1) : Step own s W s1 W1 := x.wide fun _ _ _ q => q.elim

theorem snd_asgT (H : Snd prog w A h₀ Γ gk n) {t v : Expr} {p : Pos} (S : Sim h₀ W s) (F : FX A gk own env T l W s) (O : OwnOK own s W) (ht : t.ctorIdx = 25)
    (h : bif T.hq || isTupE v then False else wE Γ n T false v l W.st (fun d st1 => wTarget T t d l fun l1 => K .next l1 st1) X) : OKX prog w A h₀ own L (exec (.Assign [t] v p) env) W s (FP own env T K) X := by
  obtain ⟨ht', h⟩ := of_bif' h
  have ht' := Bool.or_eq_false_iff.mp ht'
  revert h
  refine Expr.Tuple.elim (motive_1 := fun t => wE Γ n T false v l W.st (fun d st1 => wTarget T t d l fun l1 => K .next l1 st1) X → OKX prog w A h₀ own L (exec (.Assign [t] v p) env) W s (FP own env T K) X) t ht fun es kk p' h => ?_
  have hs : swapsWithSole [.Tuple es kk p'] v p.line env = pure false := by cases v <;> rfl
  have hw : swappedStores [.Tuple es kk p'] v env = pure none := by cases v <;> first | rfl | cases ht'.2
  refine PyProof.Rows.Assign_Tuple (goV (H.e S F h) (fun u s1 W1 d x1 S1 rd h1 => ?_) fun _ _ e => e.wide0) hs hw
  refine goW (ok_target (F.h ht'.1) S1 (F.step0 S x1).f rd h1) (fun _ s2 x2 S2 qq => ?_)
  revert qq; intro z__217
  refine ex1 (z__217) fun l' q__217_1 => an3 q__217_1 fun hk F2 _ => ?_
  clear z__217
  exact ⟨_, x1.up.trans S x2, S2, flNext F2 hk⟩
theorem snd_asgS (C : CtxOK prog w h₀ k Γ gk) (H : Snd prog w A h₀ Γ gk n) {o i v : Expr} {p p' : Pos} (S : Sim h₀ W s) (F : FX A gk own env T l W s) (O : OwnOK own s W)
    (h : bif isSliceE i then False else wE Γ n T false v l W.st (fun d st1 => wE Γ n T false o l st1 (fun od st2 => wE Γ n T false i l st2 (fun id st3 => wSetItem od id d st3 fun st4 => K .next l st4) X) X) X) : OKX prog w A h₀ own L (exec (.Assign [.Subscript o i p'] v p) env) W s (FP own env T K) X := by
  obtain ⟨hi, h⟩ := of_bif' h
  have hs : swapsWith v (some (.Subscript o i p')) p.line env = pure false := by cases v <;> rfl
  refine wpAny_Assign_Subscript (goV (H.e S F h) (fun u s1 W1 d x1 S1 rd h1 => ?_) fun _ _ e => e.wide0) hs
  have F1 := F.step0 S x1
  refine goV (H.e S1 F1 h1) (fun ov s2 W2 d2 x2 S2 rd2 h2 => ?_) fun _ _ e => (e.back S x1).wide0
  have F2 := F1.step0 S1 x2
  have y2 := x1.trans S x2
  refine goV (H.e S2 F2 h2) (fun iv s3 W3 d3 x3 S3 rd3 h3 => ?_) fun _ _ e => (e.back S y2).wide0
  have F3 := F2.step0 S2 x3
  refine wpAny_mono (ok_setItem C.hw S3 (x3.rep S2 rd2) rd3 (x3.rep S2 (x2.rep S1 rd)) h3) ?_ fun _ _ e => e.elim
  intro _ s4 q__
  refine ex1 (q__) fun W4 q__231_1 => an3 q__231_1 fun x4 S4 hk => ?_
  clear q__
  exact ⟨W4, ((y2.trans S x3).trans S x4).up, S4, flNext (F3.step0 S3 x4).f hk⟩
theorem snd_asgA (C : CtxOK prog w h₀ k Γ gk) (H : Snd prog w A h₀ Γ gk n) {o v : Expr} {nm : Str} {p p' : Pos} (S : Sim h₀ W s) (F : FX A gk own env T l W s) (O : OwnOK own s W)
    (h : bif isNameE o then wE Γ n T false v l W.st (fun d st1 => wE Γ n T false o l st1 (fun od st2 => wAttrS Γ nm od d st2 fun st3 => K .next l st3) X) X else False) : OKX prog w A h₀ own L (exec (.Assign [.Attribute o nm p'] v p) env) W s (FP own env T K) X := by
  obtain ⟨hb, h⟩ := of_bif h
  have hs : swapsWith v (some (.Attribute o nm p')) p.line env = pure false := by cases v <;> rfl
  refine plainObj_wpAny_Assign_Attribute (goV (H.e S F h) (fun u s1 W1 d x1 S1 rd h1 => ?_) fun _ _ e => e.wide0) hs
  have F1 := F.step0 S x1
  refine goV (H.e S1 F1 h1) (fun ov s2 W2 d2 x2 S2 rd2 h2 => ?_) fun _ _ e => (e.back S x1).wide0
  refine wpAny_mono (ok_setAttr C S2 rd2 (x2.rep S1 rd) h2) ?_ fun _ _ e => e.elim
  intro _ s3 q__
  refine ex1 (q__) fun W3 q__241_1 => an3 q__241_1 fun x3 S3 hk => ?_
  clear q__
  exact ⟨W3, ((x1.trans S x2).trans S x3).up, S3, flNext ((F1.step0 S1 x2).step0 S2 x3).f hk⟩

theorem sndS_s (a1 : AOk k A) (C : CtxOK prog w h₀ k Γ gk) (HH : ∀ A, AOk k A → ∀ n, Snd prog w A h₀ Γ gk n) (HS : ∀ A, AOk k A → SndS prog w A h₀ Γ gk n) {st : Stmt} (S : Sim h₀ W s) (F : FX A gk own env T l W s) (O : OwnOK own s W) (hfr : A.frames = some (env :: outer)) (hf : env.frame = some L)
    (h : wS Γ (n + 1) T st l W.st K X) : OKX prog w A h₀ own L (exec st env) W s (FP own env T K) X := by
  have H := HH A a1 n
  have up : ∀ {s1 : Shared} {W1 : Wd}, Step noOwn s W s1 W1 → Step own s W s1 W1 := fun x => x.wide fun _ _ _ q => q.elim
  cases st with
  | Expr v p =>
    rw [f_expr] at h
    obtain ⟨hc, h⟩ := of_bif h
    refine wpAny_mono (snd_expr H S F hc h) ?_ fun _ _ e => e.wide0
    intro f s1 q__
    refine ex1 (q__) fun W1 q__253_1 => an5 q__253_1 fun x1 S1 e__253_3 F1 h1 => ?_
    clear q__
    subst e__253_3
    exact ⟨W1, x1, S1, flNext F1 h1⟩
  | Assign ts v p =>
    cases ts with
    | nil => exact False.elim h
    | cons t r =>
      cases r with
      | cons _ _ => exact False.elim h
      | nil =>
        cases qn : nameOf t with
        | some x =>
          obtain ⟨p', rfl⟩ := name_inv qn
          rw [f_asgN] at h
          cases q : T.pl x with
          | no => rw [q] at h; exact h.elim
          | gl g => rw [q] at h; exact h.elim
          | loc i o b =>
            rw [q] at h
            cases o with
            | false => exact h.elim
            | true => exact snd_assign (HH A a1) S F O q h
        | none =>
          have h0 : (match nameOf t with
            | some x => _
            | none => bif isTupE t then (bif T.hq || isTupE v then False else wE Γ n T false v l W.st (fun d st1 => wTarget T t d l fun l1 => K .next l1 st1) X) else (match subOf t with
              | some (o, i) => bif isSliceE i then False else wE Γ n T false v l W.st (fun d st1 => wE Γ n T false o l st1 (fun od st2 => wE Γ n T false i l st2 (fun id st3 => wSetItem od id d st3 fun st4 => K .next l st4) X) X) X
              | none => (match attrOf t with
                | some (o, nm, _) => bif isNameE o then wE Γ n T false v l W.st (fun d st1 => wE Γ n T false o l st1 (fun od st2 => wAttrS Γ nm od d st2 fun st3 => K .next l st3) X) X else False
                | none => False))) := h
          rw [qn] at h0
          cases qt : isTupE t with
          | true =>
          rw [qt] at h0
          exact snd_asgT H S F O (beq_iff_eq.mp qt) h0
          | false =>
          rw [qt] at h0
          cases qs : subOf t with
          | some y =>
            rw [qs] at h0
            obtain ⟨p', rfl⟩ := sub_inv qs
            exact snd_asgS C H S F O h0
          | none =>
            rw [qs] at h0
            cases qa : attrOf t with
            | none => rw [qa] at h0; exact False.elim h0
            | some y =>
              rw [qa] at h0
              obtain rfl := attr_inv qa
              exact snd_asgA C H S F O h0
  | If c a b p =>
    rw [f_if] at h
    refine wpAny_If (wpAny_mono (H.t S F h) ?_ fun _ _ e => e.wide0)
    intro r s1 q__
    refine ex1 (q__) fun W1 q__305_1 => an3 q__305_1 fun x1 S1 h1 => ?_
    clear q__
    have h1' : if r = true then wSs Γ n T a l W1.st K X else wSs Γ n T b l W1.st K X := h1
    cases r with
    | true => exact OKX.after S (up x1) ((HS A a1).ss S1 (F.step0 S x1) (O.step x1) hfr hf h1')
    | false => exact OKX.after S (up x1) ((HS A a1).ss S1 (F.step0 S x1) (O.step x1) hfr hf h1')
  | For t it body els p =>
    cases els with
    | cons _ _ => exact False.elim h
    | nil =>
      rw [f_for] at h
      obtain ⟨hq, h⟩ := of_bif' h
      obtain ⟨hfold, hit⟩ := H.it (own0 := own) (L := L) hq S F O h
      refine wpAny_For (wpAny_mono hit (fun x s1 h1 => wpAny_mono h1 ?_ fun _ _ e => e.wide0) fun _ _ e => e.wide0) hfold
      intro itv s2 q__
      refine ex3 (q__) fun W2 items p q__318_1 => an5 q__318_1 fun x2 S2 I hlen hk => ?_
      clear q__
      refine ok_forLoop (X := X) S F (up x2) S2 (F.step0 S x2) I O hfr hf ?_ hk (fun f s' q => q) fun e C' W' s' r1 r2 r3 r4 => ?_
      · intro d m' W3 s3 v K' S3 F3 O3 rd hst
        refine goW (ok_target (F.h hq) S3 F3.f rd hst) (fun _ s4 x4 S4 qq => ?_)
        revert qq; intro z__322
        refine ex1 (z__322) fun m4 q__322_1 => an3 q__322_1 fun hk4 F4 _ => ?_
        clear z__322
        exact OKX.after S3 x4 ((HS A a1).ss S4 ⟨F4, F3.a.step S3 x4, F3.h, F3.g⟩ (O3.step x4) hfr hf hk4)
      · exact fly_came r1 r2 r3 hfr (F.a.step S r1) hf fun h' q1 q2 q3 => ⟨e, C', W', rfl, q1, q2, q3.mono fun z hz => .inr (.inr hz), r4⟩
  | Return e p =>
    cases e with
    | none => exact False.elim h
    | some e =>
      rw [f_ret] at h
      refine wpAny_Return_some (goV (H.e S F h) (fun u s1 W1 d x1 S1 rd h1 => ?_) fun _ _ e => e.wide0)
      exact ⟨W1, up x1, S1, .ret d, l, ⟨u, rfl, rd⟩, (F.step0 S x1).f, h1⟩
  | Raise e c p =>
    cases e with
    | none => exact False.elim h
    | some e =>
      cases c with
      | some _ => exact False.elim h
      | none =>
        have h0 : (match raiseOf e with
          | some x => (match T.pl x with
            | .gl .dyn => bif T.hq then False else ∃ C, Γ.gl x = some (.val C) ∧ Γ.ex C = true ∧ X C W.st
            | _ => False)
          | none => False) := h
        cases q : raiseOf e with
        | none => rw [q] at h0; exact False.elim h0
        | some x =>
          rw [q] at h0
          obtain ⟨qx, h0⟩ := pl_dyn h0
          refine an2 (of_bif' h0) fun hq q__349_1 => ex1 q__349_1 fun V q__349_2 => an3 q__349_2 fun hv hex hX => ?_
          exact raise_elim (P := fun e => OKX prog w A h₀ own L (exec (.Raise (some e) none p) env) W s (FP own env T K) X) q fun p1 c k p2 p3 => snd_raise a1 C (HH A a1) S F hq qx hv hex hX
  | Try body hs els fin p =>
    have h0 : (match tryOf body hs els fin with
      | some (v, h, y, suite) => (match T.pl h with
        | .gl .dyn => (match T.pl y with
          | .loc i true _ => bif T.hq || !isCallE v || suite.isEmpty || !(T.kd y == some .local) then False else wE Γ n T false v l W.st (fun _ st1 => K .next l st1) fun C st1 => Γ.gl h = some (.val C) ∧ Γ.ex C = true ∧
              wSs Γ n { T with hq := true } suite (setE l i (some (.exc C))) st1 (fun fl l2 st2 => K fl (setE l2 i none) st2) noX
          | _ => False)
        | _ => False)
      | none => False) := h
    cases q : tryOf body hs els fin with
    | none => rw [q] at h0; exact False.elim h0
    | some x =>
      rw [q] at h0
      obtain ⟨qx, h0⟩ := pl_dyn h0
      refine ex2 (pl_loc h0) fun i b q__365_1 => an2 q__365_1 fun q2 h0 => ?_
      obtain ⟨hb, h0⟩ := of_bif' h0
      have b1 := Bool.or_eq_false_iff.mp hb
      have b2 := Bool.or_eq_false_iff.mp b1.1
      have b3 := Bool.or_eq_false_iff.mp b2.1
      exact try_elim (P := fun body hs els fin => OKX prog w A h₀ own L (exec (.Try body hs els fin p) env) W s (FP own env T K) X) q fun p1 p2 p3 => snd_try a1 C HH HS S F O hfr hf qx q2 b3.1 (nt_of b3.2) b2.2 (beq_iff_eq.mp (nt_of b1.2)) h0
  | _ => exact False.elim h

theorem sndS_ss (HS : SndS prog w A h₀ Γ gk n) {ss : List Stmt} (S : Sim h₀ W s) (F : FX A gk own env T l W s) (O : OwnOK own s W) (hfr : A.frames = some (env :: outer)) (hf : env.frame = some L)
    (h : wSs Γ (n + 1) T ss l W.st K X) : OKX prog w A h₀ own L (execs ss env) W s (FP own env T K) X := by
  cases ss with
  | nil => exact wpAny_execs_nil ⟨W, Step.refl _ _, S, flNext F.f h⟩
  | cons st r =>
    rw [f_ss] at h
    refine wpAny_execs_cons (wpAny_mono (HS.s S F O hfr hf h) ?_ fun _ _ e => e)
    rintro f s1 ⟨W1, x1, S1, fl, l1, hfl, F1, h1⟩
    cases fl with
    | next => have e : f = .next := hfl; subst e; exact OKX.after S x1 (HS.ss S1 ⟨F1, F.a.step S x1, F.h, F.g⟩ (O.step x1) hfr hf h1)
    | ret d => obtain ⟨u, e, hu⟩ := hfl; subst e; exact ⟨W1, x1, S1, .ret d, l1, ⟨u, rfl, hu⟩, F1, h1⟩

theorem sndS_n (C : CtxOK prog w h₀ k Γ gk) : ∀ n A, AOk k A → SndS prog w A h₀ Γ gk n
  | 0, _, _ => sndS_zero
  | n + 1, A, a1 => ⟨fun S F O hfr hf h => sndS_s a1 C (fun A a n => snd_n a C n) (sndS_n C n) S F O hfr hf h, fun S F O hfr hf h => sndS_ss (sndS_n C n A a1) S F O hfr hf h⟩
end
end Mine
end

section
set_option autoImplicit false
set_option linter.unusedVariables false
namespace Mine
open PySem

noncomputable def bindM : List Str → List D → Loc
  | x :: xs, d :: ds => upd (bindM xs ds) x d
  | _, _ => fun _ => none
theorem bindE_no : ∀ {N : Sc} {j : Nat}, look (bindE N []) j = none
  | [], _ => rfl
  | _ :: _, 0 => rfl
  | _ :: N, j + 1 => bindE_no (N := N) (j := j)
theorem bindE_has : ∀ {N : Sc} {ds : List D} {x : Str} {k : NameKind} {d : D}, N.lookup x = some k → look (bindE N ds) (ixN N x) = some d → bindM ((N.map (·.1)).take ds.length) ds x = some d
  | [], _, _, _, _, h, _ => by cases h
  | p :: r, [], x, k, d, _, h => by rw [bindE_no] at h; cases h
  | p :: r, e :: ds, x, k, d, h1, h => by
    rw [List.lookup_cons] at h1
    unfold ixN at h
    show upd (bindM ((r.map (·.1)).take ds.length) ds) p.1 e x = some d
    unfold upd
    cases q : x == p.1 with
    | true => rw [q] at h; rw [if_pos (beq_iff_eq.mp q)]; exact h
    | false =>
      rw [q] at h1 h
      rw [if_neg (fun z => by rw [z] at q; simp at q)]
      exact bindE_has h1 h
theorem mT_bind {T : Tb} {ds : List D} {x : Str} {d : D} (h : mT T (bindE T.N ds) x = some d) : bindM ((T.N.map (·.1)).take ds.length) ds x = some d := by
  unfold mT lookT at h
  cases q : T.pl x with
  | no => rw [q] at h; cases h
  | gl g => rw [q] at h; cases h
  | loc i o b =>
    rw [q] at h
    obtain ⟨⟨k, hk⟩, rfl, _⟩ := pl_inv q
    exact bindE_has hk h

section
variable {R : Addr → Option Obj} {ρ : Nat → Option Addr} {kindOf : Str → Option NameKind}
theorem bindL_else : ∀ (ps : List Str) (vs : List Value) (m : Str → Option Value) (x : Str), x ∉ ps → bindL kindOf (ps.zip vs) m x = m x
  | [], _, _, _, _ => by simp [bindL]
  | _ :: _, [], _, _, _ => by simp [bindL]
  | p :: ps, v :: vs, m, x, h => by
    simp only [List.mem_cons, not_or] at h
    rw [List.zip_cons_cons, bindL, bindL_else ps vs _ x h.2]
    split
    · exact if_neg h.1
    · rfl
theorem bindC_else : ∀ (ps : List Str) (vs : List Value) (m : Str → Option Value) (x : Str), x ∉ ps → bindC kindOf (ps.zip vs) m x = m x
  | [], _, _, _, _ => by simp [bindC]
  | _ :: _, [], _, _, _ => by simp [bindC]
  | p :: ps, v :: vs, m, x, h => by
    simp only [List.mem_cons, not_or] at h
    rw [List.zip_cons_cons, bindC, bindC_else ps vs _ x h.2]
    split
    · rfl
    · exact if_neg h.1

theorem bind_has : ∀ (ps : List Str) (ds : List D) (vs : List Value) (m m' : Str → Option Value), ps.Nodup → RepAll R ρ ds vs → ∀ x d, bindM ps ds x = some d → x ∈ ps ∧ ∃ v, Rep R ρ d v ∧
    (kindOf x = some .local → bindL kindOf (ps.zip vs) m x = some v) ∧ (kindOf x ≠ some .local → bindC kindOf (ps.zip vs) m' x = some v)
  | [], _, _, _, _, _, _, _, _, h => by simp [bindM] at h
  | _ :: _, [], _, _, _, _, _, _, _, h => by simp [bindM] at h
  | p :: ps, d' :: ds, vs, m, m', hn, hr, x, d, h => by
    revert hr; intro z__64
    refine ex2 (z__64) fun v ws q__64_1 => an3 q__64_1 fun e__64_2 rd rs => ?_
    clear z__64
    subst e__64_2
    rw [List.nodup_cons] at hn
    have h' : (if x = p then some d' else bindM ps ds x) = some d := h
    by_cases q : x = p
    · rw [if_pos q] at h'; cases h'
      subst q
      refine ⟨.head _, v, rd, fun hk => ?_, fun hk => ?_⟩
      · rw [List.zip_cons_cons, bindL, bindL_else _ _ _ _ hn.1, if_pos hk]; simp
      · rw [List.zip_cons_cons, bindC, bindC_else _ _ _ _ hn.1, if_neg hk]; simp
    · rw [if_neg q] at h'
      refine an2 (bind_has ps ds ws (if kindOf p = some .local then fun y => if y = p then some v else m y else m) (if kindOf p = some .local then m' else fun y => if y = p then some v else m' y) hn.2 rs x d h') fun hm q__74_1 => ex1 q__74_1 fun u q__74_2 => an3 q__74_2 fun ru h1 h2 => ?_
      exact ⟨.tail _ hm, u, ru, h1, h2⟩
end

section
variable {h₀ : H0}
mutual
theorem Rep.low {R R' : Addr → Option Obj} {ρ ρ' : Nat → Option Addr} {hi : Nat} (hR : ∀ a o, R a = some o → R' a = some o) (hρ : ∀ n a, n < hi → ρ n = some a → ρ' n = some a) : ∀ (d : D) (v : Value), d.undr hi = true → Rep R ρ d v → Rep R' ρ' d v
  | .none, _, _, h => h
  | .bool _, _, _, h => h
  | .int _, _, _, h => h
  | .str _, _, _, h => h
  | .val _, _, _, h => h
  | .exc _, _, _, ⟨a, o, e, h, c⟩ => ⟨a, o, e, hR _ _ h, c⟩
  | .inst _ _, _, u, ⟨a, dx, o, e, h, h1, h2, h3, r⟩ => ⟨a, dx, o, e, hR _ _ h, h1, h2, h3, hρ _ _ (of_decide_eq_true u) r⟩
  | .loc _, _, u, ⟨a, h, e⟩ => ⟨a, hρ _ _ (of_decide_eq_true u) h, e⟩
  | .tup ds, _, u, ⟨a, vs, n, e, h, r⟩ => ⟨a, vs, n, e, hR _ _ h, RepAll.low hR hρ ds vs u r⟩
  | .list ds, _, u, ⟨a, vs, n, e, h, r⟩ => ⟨a, vs, n, e, hR _ _ h, RepAll.low hR hρ ds vs u r⟩
theorem RepAll.low {R R' : Addr → Option Obj} {ρ ρ' : Nat → Option Addr} {hi : Nat} (hR : ∀ a o, R a = some o → R' a = some o) (hρ : ∀ n a, n < hi → ρ n = some a → ρ' n = some a) : ∀ (ds : List D) (vs : List Value), undrAll hi ds = true → RepAll R ρ ds vs → RepAll R' ρ' ds vs
  | [], _, _, h => h
  | d :: ds, _, u, ⟨v, ws, e, h, r⟩ => by
    have u' := Bool.and_eq_true_iff.mp u
    exact ⟨v, ws, e, Rep.low hR hρ d v u'.1 h, RepAll.low hR hρ ds ws u'.2 r⟩
end
theorem undr_lookup {hi : Nat} : ∀ {es : List (Str × D)} {x : Str} {d : D}, undrAll hi (es.map (·.2)) = true → es.lookup x = some d → d.undr hi = true
  | [], _, _, _, h => by cases h
  | p :: r, x, d, u, h => by
    have u' := Bool.and_eq_true_iff.mp u
    rw [List.lookup_cons] at h
    cases q : x == p.1 with
    | true => rw [q] at h; cases h; exact u'.1
    | false => rw [q] at h; exact undr_lookup u'.2 h
theorem CellIs.low {w : World} {R R' : Addr → Option Obj} {ρ ρ' : Nat → Option Addr} {hi : Nat} {h : Heap} {a : Addr} (hR : ∀ a o, R a = some o → R' a = some o) (hρ : ∀ n a, n < hi → ρ n = some a → ρ' n = some a) : ∀ {c : Cell}, c.undr hi = true → CellIs w R ρ h a c → CellIs w R' ρ' h a c
  | .list ds, u, ⟨vs, k, hg, hr⟩ => ⟨vs, k, hg, RepAll.low hR hρ ds vs u hr⟩
  | .dict es, u, ⟨kvs, ho, hd, he, hr⟩ => ⟨kvs, ho, hd, he, RepAll.low hR hρ _ _ u hr⟩
  | .ns es, u, ⟨mA, hn, hm⟩ => ⟨mA, hn, fun x => by
      have := hm x
      cases q : es.lookup x with
      | none => rw [q] at this; exact this
      | some d => rw [q] at this; obtain ⟨v, h1, h2⟩ := this; exact ⟨v, h1, Rep.low hR hρ d v (undr_lookup u q) h2⟩⟩

theorem reps_mapM {R R' : Addr → Option Obj} {ρ ρ' : Nat → Option Addr} {f : D → Option D} (hf : ∀ d v d', f d = some d' → Rep R ρ d v → Rep R' ρ' d' v) :
    ∀ (ds ds' : List D) (vs : List Value), ds.mapM f = some ds' → RepAll R ρ ds vs → RepAll R' ρ' ds' vs
  | [], ds', vs, h, r => by simp at h; subst h; exact r
  | d :: ds, ds', vs, h, r => by
    refine ex2 (mapM_some_cons h) fun y zs q__119_1 => an3 q__119_1 fun h1 h2 e__119_4 => ?_
    subst e__119_4
    revert r; intro z__120
    refine ex2 (z__120) fun v ws q__120_1 => an3 q__120_1 fun e__120_2 rd rs => ?_
    clear z__120
    subst e__120_2
    exact ⟨v, ws, rfl, hf d v y h1 rd, reps_mapM hf ds zs ws h2 rs⟩

/-- the world a call leaves behind: the call's own cells are frozen -/
noncomputable def leave (W : Wd) (s : Shared) (hi : Nat) (fr : Addr → Prop) : Wd :=
  { R := fun b => (W.R b).or (open Classical in if ∃ n, hi ≤ n ∧ W.ρ n = some b then s.heap.get? b else none)
    ρ := fun n => if n < hi then W.ρ n else none
    st := W.st.cut hi
    fr := fr }

theorem leave_R {W : Wd} {s : Shared} {hi : Nat} {fr : Addr → Prop} (a : Addr) (o : Obj) (h : W.R a = some o) : (leave W s hi fr).R a = some o := by
  show (W.R a).or _ = some o
  rw [h]; rfl
theorem leave_ρ {W : Wd} {s : Shared} {hi : Nat} {fr : Addr → Prop} (n : Nat) (a : Addr) (q : n < hi) (h : W.ρ n = some a) : (leave W s hi fr).ρ n = some a := by
  show (if n < hi then W.ρ n else none) = some a
  rw [if_pos q]; exact h
theorem leave_no {W : Wd} {s : Shared} {hi : Nat} {fr : Addr → Prop} {b : Addr} (h : W.R b = none) (hρ : ∀ n, W.ρ n ≠ some b) : (leave W s hi fr).R b = none := by
  show (W.R b).or _ = none
  rw [h, Option.none_or, if_neg]
  rintro ⟨n, _, z⟩
  exact hρ n z
theorem leave_ρ' {W : Wd} {s : Shared} {hi : Nat} {fr : Addr → Prop} {n : Nat} {a : Addr} (e : (leave W s hi fr).ρ n = some a) : n < hi ∧ W.ρ n = some a := by
  have e' : (if n < hi then W.ρ n else none) = some a := e
  split at e'
  · rename_i q; exact ⟨q, e'⟩
  · cases e'

theorem frz_rep {W : Wd} {s : Shared} (S : Sim h₀ W s) (hi : Nat) (fr : Addr → Prop) : ∀ (k : Nat) (d d' : D) (v : Value), frz hi W.st k d = some d' → Rep W.R W.ρ d v → Rep (leave W s hi fr).R (leave W s hi fr).ρ d' v := by
  intro k
  induction k with
  | zero =>
    intro d d' v h r
    unfold frz at h
    split at h
    · cases h; rename_i u; exact Rep.low leave_R leave_ρ _ _ u r
    · cases h
  | succ k ih =>
    intro d d' v h r
    cases d with
    | loc n =>
      simp only [frz] at h
      split at h
      · cases h; rename_i q
        obtain ⟨a, ha, e⟩ := r
        exact ⟨a, leave_ρ n a q ha, e⟩
      · rename_i q
        cases hc : W.st.cs n with
        | none => rw [hc] at h; cases h
        | some c =>
          rw [hc] at h
          cases c with
          | dict es => cases h
          | ns es => cases h
          | list ds =>
            simp only [Option.map_eq_some_iff] at h
            obtain ⟨ds', hm, rfl⟩ := h
            obtain ⟨a, ha, rfl⟩ := r
            refine ex1 (S.cel n _ hc) fun b q__177_1 => an2 q__177_1 fun hb q__177_2 => ex2 q__177_2 fun vs k' q__177_3 => an2 q__177_3 fun hg hr => ?_
            rw [ha] at hb; cases hb
            refine ⟨a, vs, k', rfl, ?_, reps_mapM (fun d v d' h1 h2 => ih d d' v h1 h2) ds ds' vs hm hr⟩
            show (W.R a).or _ = _
            rw [(S.dis n a ha).1, Option.none_or, if_pos ⟨n, Nat.le_of_not_lt q, ha⟩]
            exact hg
    | tup ds =>
      simp only [frz] at h
      split at h
      · cases h; rename_i u; exact Rep.low leave_R leave_ρ (.tup ds) v u r
      · simp only [Option.map_eq_some_iff] at h
        obtain ⟨ds', hm, rfl⟩ := h
        revert r; intro z__189
        refine ex3 (z__189) fun a vs n q__189_1 => an3 q__189_1 fun e__189_3 hR hr => ?_
        clear z__189
        subst e__189_3
        exact ⟨a, vs, n, rfl, leave_R _ _ hR, reps_mapM (fun d v d' h1 h2 => ih d d' v h1 h2) ds ds' vs hm hr⟩
    | list ds =>
      simp only [frz] at h
      split at h
      · cases h; rename_i u; exact Rep.low leave_R leave_ρ (.list ds) v u r
      · simp only [Option.map_eq_some_iff] at h
        obtain ⟨ds', hm, rfl⟩ := h
        revert r; intro z__197
        refine ex3 (z__197) fun a vs n q__197_1 => an3 q__197_1 fun e__197_3 hR hr => ?_
        clear z__197
        subst e__197_3
        exact ⟨a, vs, n, rfl, leave_R _ _ hR, reps_mapM (fun d v d' h1 h2 => ih d d' v h1 h2) ds ds' vs hm hr⟩
    | inst C n =>
      simp only [frz] at h
      split at h
      · cases h; rename_i q
        revert r; intro z__203
        refine ex3 (z__203) fun a dx o q__203_1 => an6 q__203_1 fun e h h1 h2 h3 r => ?_
        clear z__203
        exact ⟨a, dx, o, e, leave_R _ _ h, h1, h2, h3, leave_ρ n dx q r⟩
      · cases h
    | exc C =>
      simp only [frz, Option.some.injEq] at h; subst h
      revert r; intro z__208
      refine ex2 (z__208) fun a o q__208_1 => an3 q__208_1 fun e h c => ?_
      clear z__208
      exact ⟨a, o, e, leave_R _ _ h, c⟩
    | _ => simp only [frz, Option.some.injEq] at h; subst h; exact r

theorem leave_step {own : Addr → Prop} {W0 W : Wd} {s0 s : Shared} (S0 : Sim h₀ W0 s0) (x : Step own s0 W0 s W) (S : Sim h₀ W s) : Step own s0 W0 s (leave W s W0.st.hi W0.fr) ∧ Sim h₀ (leave W s W0.st.hi W0.fr) s := by
  have frW : ∀ b, W0.fr b → W.fr b := fun b q => by
    refine an3 (S0.fr b q) fun _ _ q__214_1 => ex1 q__214_1 fun mv hn => ?_
    obtain ⟨o, ho⟩ := ns_there hn
    exact (x.extF b o ho).mpr q
  refine ⟨⟨x.rest, x.keep, x.kfr, x.live, fun b o e => ?_, fun _ _ _ => Iff.rfl, fun n a e => leave_ρ n a (S0.dom n a e) (x.rho n a e), fun n a e => x.new n a (leave_ρ' e).2, Nat.le_refl _, fun n hn e => ?_⟩, ⟨fun b o e => leave_R b o (S.base b o e), fun b o e => ?_, fun n c e => ?_, fun n a e => ?_, fun n k a e1 e2 => S.inj n k a (leave_ρ' e1).2 (leave_ρ' e2).2, fun n a e => (leave_ρ' e).1, fun b q => ?_⟩⟩
  · show (W.R b).or _ = W0.R b
    rw [← x.extR b o e]
    cases q : W.R b with
    | some o' => rfl
    | none =>
      rw [Option.none_or, if_neg]
      rintro ⟨n, hn, hb⟩
      rcases x.new n b hb with z | z
      · exact Nat.lt_irrefl _ (Nat.lt_of_lt_of_le (S0.dom n b z) hn)
      · rw [z] at e; cases e
  · show (if n < W0.st.hi then (match W.st.cs n with
      | some c => if c.undr W0.st.hi = true then some c else none
      | none => none) else none) = none
    rw [if_pos hn, x.hid n hn e]
  · have e' : (W.R b).or (open Classical in if ∃ n, W0.st.hi ≤ n ∧ W.ρ n = some b then s.heap.get? b else none) = some o := e
    cases q : W.R b with
    | some o' => rw [q] at e'; have : some o' = some o := e'; cases this; exact S.frz b _ q
    | none =>
      rw [q, Option.none_or] at e'
      split at e'
      · exact e'
      · cases e'
  · have e' : (if n < W0.st.hi then (match W.st.cs n with
      | some c => if c.undr W0.st.hi = true then some c else none
      | none => none) else none) = some c := e
    split at e'
    · rename_i hn
      cases hc : W.st.cs n with
      | none => rw [hc] at e'; cases e'
      | some c' =>
        rw [hc] at e'
        have e2 : (if c'.undr W0.st.hi = true then some c' else none) = some c := e'
        split at e2
        · cases e2
          rename_i u
          obtain ⟨a, ha, hcell⟩ := S.cel n _ hc
          exact ⟨a, leave_ρ n a hn ha, hcell.low leave_R leave_ρ u⟩
        · cases e2
    · cases e'
  · obtain ⟨hn, ha⟩ := leave_ρ' e
    obtain ⟨h1, h2⟩ := S.dis n a ha
    refine ⟨?_, h2⟩
    show (W.R a).or _ = none
    rw [h1, Option.none_or, if_neg]
    rintro ⟨j, hj, hb⟩
    exact Nat.lt_irrefl _ (Nat.lt_of_lt_of_le hn ((S.inj n j a ha hb) ▸ hj))
  · obtain ⟨h1, h2, h3⟩ := S.fr b (frW b q)
    exact ⟨leave_no h1 h2, fun n e => h2 n (leave_ρ' e).2, h3⟩

/-- the frames after a call are those before it -/
theorem refr {own : Addr → Prop} {W0 W : Wd} {s0 s : Shared} (S0 : Sim h₀ W0 s0) (x : Step own s0 W0 s W) (S : Sim h₀ W s) : Step own s0 W0 s { W with fr := W0.fr } ∧ Sim h₀ { W with fr := W0.fr } s := by
  refine ⟨⟨x.rest, x.keep, x.kfr, x.live, x.extR, fun _ _ _ => Iff.rfl, x.rho, x.new, x.hi, x.hid⟩, ⟨S.base, S.frz, S.cel, S.dis, S.inj, S.dom, fun b q => ?_⟩⟩
  refine an3 (S0.fr b q) fun _ _ q__270_1 => ex1 q__270_1 fun mv hn => ?_
  obtain ⟨o, ho⟩ := ns_there hn
  exact S.fr b ((x.extF b o ho).mpr q)
end

theorem cf_nodup : ∀ (l : List (Str × NameKind)) (n : Nat), (l.map (·.1)).Nodup → ((cellsFrom n l []).map (·.1)).Nodup
  | [], _, _ => by simp [cellsFrom]
  | (x, k) :: r, n, h => by
    rw [List.map_cons, List.nodup_cons] at h
    unfold cellsFrom
    split
    · rw [cf_app, List.map_append, List.nodup_append]
      refine ⟨cf_nodup r _ h.2, by simp, ?_⟩
      intro a ha b hb q
      simp at hb
      subst hb
      subst q
      obtain ⟨⟨y, c⟩, hm, e⟩ := List.mem_map.mp ha
      have e' : y = a := e
      subst e'
      exact h.1 (List.mem_map.mpr ⟨_, cf_from r _ y c hm, rfl⟩)
    · exact cf_nodup r n h.2
theorem lookup_nodupC {l : List (Str × NameKind)} {n : Nat} (h : (l.map (·.1)).Nodup) {x : Str} {c : Addr} (hm : (x, c) ∈ cellsFrom n l []) : (cellsFrom n l []).lookup x = some c := lookup_nodup (cf_nodup l n h) hm

/-- a plain def of the module -/
structure FnAt (h₀ : H0) (v : Value) (k : Nat) (body : List Stmt) (scope : Scope) : Prop where
  ex : ∃ a o fd, v = .ref a ∧ h₀.h.get? a = some o ∧ o.data = .func fd ∧ h₀.h.CodeRec fd.code fd.qualname ∧ fd.body = .stmts body ∧ fd.scope = scope ∧ fd.closure = [] ∧ fd.globals = mainGlobals ∧ fd.builtins = builtinsNs ∧
    (∀ vs : List Value, vs.length = k → bindArgs fd ⟨vs, []⟩ = pure (((scope.names.map (·.1)).take k).zip vs))

noncomputable def scFn (scope : Scope) (k : Nat) : Bool := scope.kind == .function && !scope.isCoroutine && !scope.isGenerator && nodupS (scope.names.map (·.1)) && (scope.names.take k).all (fun p => p.2 == .local || p.2 == .cell) && scope.names.all fun p => p.1 != "__debug__" && p.1 != "__classdict__" && !(p.2 == .free)

noncomputable def ScopeFn (scope : Scope) (k : Nat) : Prop := scope.kind = .function ∧ scope.isCoroutine = false ∧ scope.isGenerator = false ∧ (scope.names.map (·.1)).Nodup ∧
  (∀ x ∈ (scope.names.map (·.1)).take k, scope.names.lookup x = some .local ∨ scope.names.lookup x = some .cell) ∧ ∀ p ∈ scope.names, p.1 ≠ "__debug__" ∧ p.1 ≠ "__classdict__" ∧ p.2 ≠ .free

theorem nt_f {b : Bool} (h : (!b) = true) : b = false := by cases b with
  | false => rfl
  | true => cases h
theorem scFn_of {scope : Scope} {k : Nat} (h : scFn scope k = true) : ScopeFn scope k := by
  have h1 := Bool.and_eq_true_iff.mp h
  have h2 := Bool.and_eq_true_iff.mp h1.1
  have h3 := Bool.and_eq_true_iff.mp h2.1
  have h4 := Bool.and_eq_true_iff.mp h3.1
  have h5 := Bool.and_eq_true_iff.mp h4.1
  have hnd := nodupS_of h3.2
  refine ⟨beq_iff_eq.mp h5.1, nt_f h5.2, nt_f h4.2, hnd, fun x hx => ?_, fun p hp => ?_⟩
  · rw [← List.map_take] at hx
    obtain ⟨⟨y, kk⟩, hp, rfl⟩ := List.mem_map.mp hx
    have hl := lookup_nodup hnd (List.mem_of_mem_take hp)
    have := List.all_eq_true.mp h2.2 _ hp
    rcases Bool.or_eq_true_iff.mp this with q | q
    · left; rw [hl]; exact congrArg some (beq_iff_eq.mp q)
    · right; rw [hl]; exact congrArg some (beq_iff_eq.mp q)
  · have := Bool.and_eq_true_iff.mp (List.all_eq_true.mp h1.2 p hp)
    have t2 := Bool.and_eq_true_iff.mp this.1
    refine ⟨bne_iff_ne.mp t2.1, bne_iff_ne.mp t2.2, fun z => ?_⟩
    have := nt_f this.2
    rw [z] at this; cases this

noncomputable def fnOwn (L : Addr) (names : List (Str × NameKind)) : Addr → Prop := fun b => b = L ∨ ∃ x, (x, b) ∈ cellsFrom (L + 1) names []

section
variable {prog : Program} {w : World} {h₀ : H0} {Γ : Ctx} {gk : Str → Gk} {k : Nat}

theorem fn_code {v : Value} {np : Nat} {body : List Stmt} {scope : Scope} {T : Tb} (n : Nat) (C : CtxOK prog w h₀ k Γ gk) (hlim : h₀.h.NoLimit) (f : FnAt h₀ v np body scope) (sc : ScopeFn scope np) (hTN : T.N = scope.names) (hTq : T.hq = false) (hTg : T.gk = gk)
    (A : Around) (W : Wd) (s : Shared) (ds : List D) (vs : List Value) (Q : D → St → Prop) (X : XP) (Lc : Addr) (a1 : AOk (k + 1) A) (hn : A.handled = none) (FO : FrOK A W) (S : Sim h₀ W s) (hr : RepAll W.R W.ρ ds vs) (h : wFn Γ n T np body ds W.st Q X) :
    codeAny (model prog w) A (.call v ⟨vs, []⟩) (fun r s' => match r with | .ok (.ret u) => Fin' h₀ noOwn s W (VP Q) u s' | .ok _ => False | .error e => EX h₀ noOwn Lc s W X e s') s := by
  refine ex3 (f.ex) fun a o fd q__336_1 => an10 q__336_1 fun e__336_3 ho hd hcd hbody e__336_8 hclo hgl hbi hbind => ?_
  subst e__336_3
  subst e__336_8
  obtain ⟨hlen, h⟩ := h
  have up : ∀ b o, h₀.h.get? b = some o → s.heap.get? b = some o := fun b o e => S.frz b o (S.base b o e)
  have hvl : vs.length = np := by rw [hr.length]; exact hlen
  refine (codeAny_call_cells (by have := a1.dp; show A.depth < 1000; omega) (up _ _ ho) hd (hlim.keeps up) (hcd.keeps up) hbody (hbind vs hvl) hclo ?_ ?_ sc.2.1 sc.2.2.1 sc.1)
  · intro x hx
    have hm : x.1 ∈ (fd.scope.names.map (·.1)).take np := (List.of_mem_zip hx).1
    rcases sc.2.2.2.2.1 x.1 hm with q | q
    · exact .inl q
    · refine .inr ⟨q, ?_⟩
      obtain ⟨c, hc⟩ := cf_has fd.scope.names (s.heap.objs.size + 1) x.1 (mem_of_lookup q)
      obtain ⟨c', hc'⟩ := lookup_mem hc
      rw [hc']; rfl
  · intro s1 XX
    generalize henv : callEnvC fd s.heap.objs.size a = env at XX ⊢
    have hL : env.locals = s.heap.objs.size := by rw [← henv]; rfl
    have hF : env.frame = some s.heap.objs.size := by rw [← henv]; rfl
    have hcells : env.cells = cellsFrom (s.heap.objs.size + 1) fd.scope.names [] := by rw [← henv]; rfl
    have hko : env.kindOf = fun x => fd.scope.names.lookup x := by rw [← henv]; rfl
    have hkf : env.scope.kind = .function := by rw [← henv]; exact sc.1
    obtain ⟨h1, tk1, hs1⟩ := XX.toInCall.same
    have dead : ∀ b, s.heap.objs.size ≤ b → s.heap.get? b = none := fun b hb => dead_ge hb
    have dL : s.heap.get? s.heap.objs.size = none := dead _ (Nat.le_refl _)
    have gst : Step noOwn s W s1 W ∧ Sim h₀ W s1 := by
      subst hs1
      exact S.grow (tk := tk1) XX.toInCall.keep
    have nsL : ∃ mv, s1.heap.Ns s.heap.objs.size mv := ⟨_, by have := XX.toInCall.ns; rw [hL] at this; exact this⟩
    -- the frame is laid
    let W1 : Wd := { W with fr := fun b => W.fr b ∨ b = s.heap.objs.size }
    have x1 : Step noOwn s W s1 W1 := ⟨gst.1.rest, gst.1.keep, gst.1.kfr, gst.1.live, gst.1.extR, fun b o e => ⟨(fun q => q.elim id fun z => by rw [z, dL] at e; cases e), .inl⟩, gst.1.rho, gst.1.new, gst.1.hi, gst.1.hid⟩
    have S1 : Sim h₀ W1 s1 := ⟨gst.2.base, gst.2.frz, gst.2.cel, gst.2.dis, gst.2.inj, gst.2.dom, fun b q => by
      rcases q with q | q
      · exact gst.2.fr b q
      · rw [q]; exact ⟨S.deadR dL, S.deadρ dL, nsL⟩⟩
    have above : ∀ x c, (x, c) ∈ cellsFrom (s.heap.objs.size + 1) fd.scope.names [] → s.heap.objs.size < c := fun x c hm => by have := XX.above x c (by rw [hcells]; exact hm); rwa [hL] at this
    have hcd' : ∀ x c, (x, c) ∈ cellsFrom (s.heap.objs.size + 1) fd.scope.names [] → s.heap.get? c = none := fun x c hm => dead c (Nat.le_of_lt (above x c hm))
    have ownd : ∀ b, fnOwn s.heap.objs.size fd.scope.names b → s.heap.get? b = none := by
      rintro b (rfl | ⟨x, hx⟩)
      · exact dL
      · exact hcd' x b hx
    have hkd : T.kd = fun x => fd.scope.names.lookup x := by unfold Tb.kd; rw [hTN]
    have F : Fram (fnOwn s.heap.objs.size fd.scope.names) env T.kd (mT T (bindE T.N ds)) W1 s1 := by
      rw [hkd]
      refine ⟨hkf, by rw [← henv]; exact hgl, by rw [← henv]; exact hbi, fun x k hk _ => by rw [hko]; exact hk, ⟨?_, ?_⟩, fun x d hx => ?_, ⟨_, XX.toInCall.ns⟩, fun x c e => ?_, fun x y c e1 e2 => ?_, ⟨by rw [hL]; exact .inl rfl, by rw [hL]; exact S.deadR dL, by rw [hL]; exact S.deadρ dL⟩, fun x hx => ?_, fun x hx => ?_⟩
      · cases q : fd.scope.names.lookup ("__debug__" : Str) with
        | none => rfl
        | some k => exact absurd rfl (sc.2.2.2.2.2 _ (mem_of_lookup q)).1
      · cases q : fd.scope.names.lookup ("__classdict__" : Str) with
        | none => rfl
        | some k => exact absurd rfl (sc.2.2.2.2.2 _ (mem_of_lookup q)).2.1
      · have hx := mT_bind hx
        rw [hTN, hlen] at hx
        refine an2 (bind_has (kindOf := env.kindOf) ((fd.scope.names.map (·.1)).take np) ds vs (fun _ => none) (fun _ => none) (sc.2.2.2.1.sublist (List.take_sublist _ _)) hr x d hx) fun hm q__388_1 => ex1 q__388_1 fun v q__388_2 => an3 q__388_2 fun rv b1 b2 => ?_
        rcases sc.2.2.2.2.1 x hm with q | q
        · have hne : fd.scope.names.lookup x ≠ none := by rw [q]; exact fun z => nomatch z
          refine ⟨hne, v, Or.inl ⟨by rw [hko]; exact q, _, XX.toInCall.ns, b1 (by rw [hko]; exact q)⟩, rv⟩
        · have hk : env.kindOf x = some .cell := by rw [hko]; exact q
          obtain ⟨c, hc⟩ := cf_has fd.scope.names (s.heap.objs.size + 1) x (mem_of_lookup q)
          obtain ⟨c', hc'⟩ := lookup_mem hc
          have hne : fd.scope.names.lookup x ≠ none := by rw [q]; exact fun z => nomatch z
          refine ⟨hne, v, Or.inr ⟨.inl hk, c', by rw [hcells]; exact hc', ?_⟩, rv⟩
          have := XX.cell x c' (by rw [hcells]; exact hc')
          rw [b2 (by rw [hk]; exact fun z => nomatch z)] at this
          exact this
      · have e' := mem_of_lookup e
        rw [hcells] at e'
        refine ⟨⟨_, XX.cell x c e⟩, fun q => ?_, S.deadρ (hcd' x c e')⟩
        have := above x c e'
        rw [q, hL] at this
        exact Nat.lt_irrefl _ this
      · exact name_of_addr XX.apart (mem_of_lookup e1) (mem_of_lookup e2)
      · obtain ⟨c, hc⟩ := cf_has fd.scope.names (s.heap.objs.size + 1) x (mem_of_lookup hx)
        obtain ⟨c', hc'⟩ := lookup_mem hc
        exact ⟨c', by rw [hcells]; exact hc', .inr ⟨x, mem_of_lookup hc'⟩, S.deadR (hcd' x c' (mem_of_lookup hc'))⟩
      · exact absurd rfl (sc.2.2.2.2.2 _ (mem_of_lookup hx)).2.2
    have O : OwnOK (fnOwn s.heap.objs.size fd.scope.names) s1 W1 := by
      rintro b hb
      refine ⟨?_, S.deadR (ownd b hb), S.deadρ (ownd b hb)⟩
      rcases hb with rfl | ⟨x, hx⟩
      · refine ex3 (XX.toInCall.ns) fun o _ _ q__415_1 => an2 q__415_1 fun e _ => ?_
        rw [hL] at e; exact ⟨o, e⟩
      · obtain ⟨o, e, _⟩ := XX.cell x b (by rw [hcells]; exact lookup_nodupC sc.2.2.2.1 hx)
        exact ⟨o, e⟩
    obtain ⟨fl0, hfl0, hfl1⟩ := FO
    have hfr : (A.deeper env).frames = some (env :: fl0) := Around.frames_deeper hfl0
    have FO1 : FrOK (A.deeper env) W1 := ⟨env :: fl0, hfr, fun e' he => by
      rcases List.mem_cons.mp he with z | z
      · rw [z]; exact ⟨by rw [hkf]; exact (fun z => nomatch z), _, hF, .inr rfl⟩
      · refine an2 (hfl1 e' z) fun p1 q__423_1 => ex1 q__423_1 fun L' q__423_2 => an2 q__423_2 fun p2 p3 => ?_
        exact ⟨p1, L', p2, .inl p3⟩⟩
    have a2 : AOk k (A.deeper env) := ⟨by have := a1.dp; show A.depth + 1 + k < 990; omega, by have := a1.un; show A.units + 3 + 8 * k < 8000; omega⟩
    have FX1 : FX (A.deeper env) gk (fnOwn s.heap.objs.size fd.scope.names) env T (bindE T.N ds) W1 s1 := ⟨F, FO1, fun _ => hn, hTg⟩
    have wid : ∀ {s2 W2}, Step (fnOwn s.heap.objs.size fd.scope.names) s1 W1 s2 W2 → Step noOwn s W s2 W2 := fun x2 => ((x1.wide fun _ _ _ q => q.elim).trans S x2).wide fun b o e q => by rw [ownd b q] at e; cases e
    refine wpAny_mono ((sndS_n C n _ a2).ss (L := s.heap.objs.size) S1 FX1 O hfr hF h) ?_ ?_
    · intro fl s2 q__
      refine ex1 (q__) fun W2 q__429_1 => an3 q__429_1 fun x2 S2 q__429_2 => ex2 q__429_2 fun q l2 q__429_3 => an3 q__429_3 fun hf _ hq => ?_
      clear q__
      have x3 := wid x2
      have fin : ∀ (u : Value) (d : D), Rep W2.R W2.ρ d u → (Q d W2.st ∨ ∃ d', frz W.st.hi W2.st 3 d = some d' ∧ Q d' (W2.st.cut W.st.hi)) → Fin' h₀ noOwn s W (VP Q) u s2 := fun u d ru hq => by
        rcases hq with hq | ⟨d', hz, hq⟩
        · obtain ⟨x4, S4⟩ := refr S x3 S2
          exact ⟨_, x4, S4, d, ru, hq⟩
        · obtain ⟨x4, S4⟩ := leave_step S x3 S2
          exact ⟨_, x4, S4, d', frz_rep S2 _ _ 3 d d' u hz ru, hq⟩
      cases q with
      | next =>
        have e : fl = .next := hf
        subst e
        refine fin .none .none rfl ?_
        have hq' : Q .none W2.st ∨ Q .none (W2.st.cut W.st.hi) := hq
        exact hq'.elim .inl fun z => .inr ⟨.none, rfl, z⟩
      | ret d => obtain ⟨u, e, ru⟩ := hf; subst e; exact fin u d ru hq
    · intro ev s2 q__
      refine ex3 (q__) fun e Cc W2 q__445_1 => an5 q__445_1 fun e__445_3 x2 S2 f2 hX => ?_
      clear q__
      subst e__445_3
      have x3 := wid x2
      have FO2 : FrOK (A.deeper env) W2 := FO1.step S1 x2
      refine fly_leave x3 S2 (f2.back x1) hfr FO2 hF fun h' x4 S4 f4 => ?_
      obtain ⟨x5, S5⟩ := leave_step S x4 S4
      refine ⟨e, Cc, _, rfl, x5, S5, ?_, hX⟩
      refine ex4 (f4.obj) fun oe us a0 q q__451_1 => an6 q__451_1 fun g1 g2 g3 g4 g5 g6 => ?_
      cases g5
      revert g6; intro z__453
      refine ex3 (z__453) fun T' oT ts q__453_1 => an6 q__453_1 fun t1 t2 t3 t4 t5 t6 => ?_
      clear z__453
      exact ⟨f4.new, leave_no f4.R f4.ρ, fun n z => f4.ρ n (leave_ρ' z).2, oe, us, a0, some .none, g1, g2, g3, g4, .inr (.inl rfl), T', oT, ts, t1, t2, t3, leave_no t4 t5, fun n z => t5 n (leave_ρ' z).2, t6⟩

theorem fn_sound {v : Value} {np : Nat} {body : List Stmt} {scope : Scope} {T : Tb} (n : Nat) (C : CtxOK prog w h₀ k Γ gk) (hlim : h₀.h.NoLimit) (f : FnAt h₀ v np body scope) (sc : scFn scope np = true) (hTN : T.N = scope.names) (hTq : T.hq = false) (hTg : T.gk = gk) :
    CallOK prog w h₀ (k + 1) (wFn Γ n T np body) v :=
  fun A W s ds vs Q X L a1 hn FO S hr h => wpAny_call (codeAny_mono (fn_code n C hlim f (scFn_of sc) hTN hTq hTg A W s ds vs Q X L a1 hn FO S hr h) fun r s' q => by
    cases r with
    | error e => exact q
    | ok f => cases f <;> exact q)
theorem CallOK.up {S : FSpec} {v : Value} {j : Nat} (h : CallOK prog w h₀ k S v) (hk : k ≤ j) : CallOK prog w h₀ j S v :=
  fun A W s ds vs Q X L a1 => h A W s ds vs Q X L ⟨by have := a1.dp; omega, by have := a1.un; omega⟩

/-- a plain class's call -/
theorem make_sound {c N fI : Addr} {mN : Str → Option Value} {oI : Obj} {Sp : FSpec} (hcl : PyProof.Rows.ClsAt h₀.h c N mN) (hi : mN "__init__" = some (.ref fI)) (ho : h₀.h.get? fI = some oI) (hfc : oI.cls = .type "function") (hS : CallOK prog w h₀ k Sp (.ref fI)) :
    CallOK prog w h₀ (k + 1) (wMake (.ref c) Sp) (.ref c) := by
  intro A W s ds vs Q X L a1 hn FO S hr h
  refine wpAny_call ?_
  have up : ∀ b o, h₀.h.get? b = some o → s.heap.get? b = some o := fun b o e => S.frz b o (S.base b o e)
  refine ex12 ((hcl.keeps up).obj) fun nm q bs sn sub col dd k0 k1 k2 k3 k5 hC => ?_
  have hNs := (hcl.keeps up).ns
  have hfI := up _ _ ho
  obtain ⟨hp, g, d, t, os⟩ := s
  refine codeAny_call_obj_init PySem.F.objNew hC hNs hi hfI hfc fun h' x dx Mk => ?_
  refine ex1 (Mk.inst) fun ox q__476_1 => an4 q__476_1 fun hx hcx hncx hdx => ?_
  have hdd := Mk.dict ox hx
  have hnsd : h'.Ns1 dx fun _ => none := by
    rcases hdx with ⟨hn0, _⟩ | ⟨d', hd', _, hns', _⟩
    · rw [hn0] at hdd; cases hdd
    · obtain rfl := Option.some.inj (hd'.symm.trans hdd); exact hns'
  have hne : x ≠ dx := by
    rcases hdx with ⟨hn0, _⟩ | ⟨d', hd', hne', _, _⟩
    · rw [hn0] at hdd; cases hdd
    · obtain rfl := Option.some.inj (hd'.symm.trans hdd); exact Ne.symm hne'
  obtain ⟨x1, S1, e1⟩ := S.trackC (own := noOwn) (tk := t) (h' := h') (c0 := .ns []) Mk.keeps Mk.newD ⟨_, hnsd, fun y => rfl⟩
  have hR1 : W.R x = none := S.deadR Mk.newX
  have hρ1 : ∀ n, (if n = W.st.hi then some dx else W.ρ n) ≠ some x := fun n z => by
    split at z
    · exact hne (Option.some.inj z).symm
    · exact S.deadρ Mk.newX n z
  have hF1 : ¬ W.fr x := S.frDead Mk.newX
  obtain ⟨x2, S2⟩ := x1.freeze' S1 hx Mk.newX hR1 hρ1 hF1
  have a2 : AOk k (A.under (.builtin "type.__call__" ⟨.ref c :: vs, []⟩)) := ⟨by have := a1.dp; show A.depth + 1 + k < 990; omega, by have := a1.un; show A.units + (1 + 3 * 0) + 8 * k < 8000; omega⟩
  have FO2 : FrOK (A.under (.builtin "type.__call__" ⟨.ref c :: vs, []⟩)) _ := FO.step S x2
  have rd : Rep (fun b => if b = x then some ox else W.R b) (fun n => if n = W.st.hi then some dx else W.ρ n) (.inst (.ref c) W.st.hi) (.ref x) := ⟨x, dx, ox, rfl, if_pos rfl, hcx, hdd, hncx, if_pos rfl⟩
  have mo : RepAll _ _ ds vs := x2.repAll S hr
  refine wpAny_mono (hS _ _ _ (.inst (.ref c) W.st.hi :: ds) (.ref x :: vs) _ _ L a2 hn FO2 S2 ⟨_, _, rfl, rd, mo⟩ h) ?_ ?_
  · intro r s' q__
    refine ex1 (q__) fun W' q__499_1 => an3 q__499_1 fun x' S' q__499_2 => ex1 q__499_2 fun dr q__499_3 => an3 q__499_3 fun rr hnn hq => ?_
    clear q__
    have hr' : r = .none := by
      cases dr with
      | none => exact rr
      | _ => cases hnn
    refine ⟨hr', W', x2.trans S x', S', .inst (.ref c) W.st.hi, x'.rep S2 rd, hq⟩
  · intro ev s' q__
    refine ex3 (q__) fun e Cc W' q__505_1 => an5 q__505_1 fun e__505_3 x' S' f' hX => ?_
    clear q__
    subst e__505_3
    have x3 := x2.trans S x'
    obtain ⟨x4, S4⟩ := leave_step S x3 S'
    refine ⟨e, Cc, _, rfl, x4, S4, ?_, hX⟩
    have f4 := f'.back x2
    refine ex4 (f4.obj) fun oe us a0 q q__510_1 => an6 q__510_1 fun g1 g2 g3 g4 g5 g6 => ?_
    refine ⟨f4.new, leave_no f4.R f4.ρ, fun n z => f4.ρ n (leave_ρ' z).2, oe, us, a0, q, g1, g2, g3, g4, g5, ?_⟩
    cases q with
    | none => exact g6
    | some fl =>
      revert g6; intro z__515
      refine ex3 (z__515) fun T' oT ts q__515_1 => an6 q__515_1 fun t1 t2 t3 t4 t5 t6 => ?_
      clear z__515
      exact ⟨T', oT, ts, t1, t2, t3, leave_no t4 t5, fun n z => t5 n (leave_ρ' z).2, t6⟩
end
end Mine
end

section
set_option autoImplicit false
set_option linter.unusedVariables false
set_option maxRecDepth 100000
namespace Mine
open PySem PySem.W PySem.Spec PySem.Calls PyProof.Rows PySem.Builtin PySem.Builtin.ObjectAttr PySem.Builtin.Getset_descriptor
section
variable {prog : Program} {w : World} {A : Around} {E : Value → Shared → Prop} {h : Heap} {g : Array GenState} {d : Drawn} {t : Nat} {os : OsState} {a C : Addr} {o : Obj} {K : Frag}
theorem ex_type {M : Model} (hx : h.get? a = some o) (hc : o.cls = .ref C) : Looks M h (typeOf (.ref a)) (.ref C) := by
  intro A' Q' E' s' k q
  unfold typeOf
  refine wpAny_bind (wpAny_loadPart (k _ _ hx) ?_)
  rw [hc]; exact wpAny_pure q
/-- what the class of an own exception must look like -/
structure ExK (K : Frag) (C : Addr) : Prop where
  ga : findIn K (.ref C) "__getattribute__" = some (some (.builtin "BaseException.__getattribute__"))
  no : findIn K (.ref C) "__getattr__" = some none
  cl : findIn K (.ref C) "__class__" = some (some (.builtin "object.__class__"))
  ob : mroIn K C (.type "object") = some true
  be : mroIn K C (.type "BaseException") = some true
theorem ex_get {R : Result → Shared → Prop} (X : K.In h) (Z : ExK K C) (hx : h.get? a = some o) (hc : o.cls = .ref C) (hq : R (.ok (.ret (.ref C))) ⟨h, g, d, t, os⟩) :
    codeAny (model prog w) A (.call (.builtin "getset_descriptor.__get__") ⟨[.builtin "object.__class__", .ref a, .ref C], []⟩) R ⟨h, g, d, t, os⟩ := by
  have L0 := ex_type (M := model prog w) hx hc
  have L1 := looks_mroIn (M := model prog w) X Z.ob
  refine codeAny_call_builtin KF.slot_gs.plain KF.entry_gs (KF.slot_gs.check _ _ _ _ _ _ _ _ KF.type_class (KF.args_gs _ _ _) ?_)
  unfold Builtin.«getset_descriptor.__get__» descrGet
  rw [dga_obj]
  refine wpAny_bind (wpAny_pure ?_)
  unfold descrGetter descrCheckInstance descrNameAndClass isInstance
  simp only [KF.owner_class]
  repeat lk
  refine ⟨Code.quiet_builtin _ (by decide +kernel), codeAny_builtin KF.entry_class ?_⟩
  unfold Builtin.«object.__class__» shownTypeOf
  repeat lk
  exact hq
theorem ex_entry {tk : Tok} {Q : Fin → Shared → Prop} (X : K.In h) (Z : ExK K C) (hx : h.get? a = some o) (hc : o.cls = .ref C) (hq : Q (.done (.ret (.ref C))) ⟨h, g, d, t, os⟩) :
    wpAny (model prog w) A (Builtin.«object.__getattribute__» ⟨[.ref a, .str "__class__" tk], []⟩) Q E ⟨h, g, d, t, os⟩ := by
  have hT5 : (⟨h, g, d, t, os⟩ : Shared).TypeIs (.builtin "object.__class__") "getset_descriptor" := F.typeOf_object_class
  have f5 := F.typeOf_object_class
  have f6 := F.slot_gs_get.lookup
  have f7 := F.slot_gs_set.lookup
  repeat (any_goals (first | assumption | (with_reducible refine wpAny_loadPart_at hx ?_; rw [hc]) | with_reducible refine (looks_findIn X Z.cl).at ?_ | wp_step))
  refine ex_get X Z hx hc ?_
  repeat (any_goals (first | assumption | wp_step))
theorem ex_check {M : Model} {nameV : Value} {Q : Unit → Shared → Prop} (X : K.In h) (Z : ExK K C) (hx : h.get? a = some o) (hc : o.cls = .ref C) (hq : Q () ⟨h, g, d, t, os⟩) : wpAny M A (checkBuiltinCall "BaseException.__getattribute__" ⟨[.ref a, nameV], []⟩) Q E ⟨h, g, d, t, os⟩ := by
  have hk : builtinKind "BaseException.__getattribute__" = some .slot := by decide +kernel
  have hsplit : splitId "BaseException.__getattribute__" = some ("BaseException", "__getattribute__") := by decide +kernel
  have ha := F.args_bexc_ga (.ref a) nameV
  simp only [checkBuiltinCall, hk, hsplit]
  refine wpAny_bind ?_
  · unfold isInstance
    repeat (first | (with_reducible refine wpAny_loadPart_at hx ?_; rw [hc]) | (with_reducible refine (looks_mroIn X Z.be).at ?_) | wp_step)
    exact hq
theorem ex_call {tk : Tok} {R : Result → Shared → Prop} (X : K.In h) (Z : ExK K C) (hx : h.get? a = some o) (hc : o.cls = .ref C) (hq : R (.ok (.ret (.ref C))) ⟨h, g, d, t, os⟩) :
    codeAny (model prog w) A (.call (.builtin "BaseException.__getattribute__") ⟨[.ref a, .str "__class__" tk], []⟩) R ⟨h, g, d, t, os⟩ :=
  codeAny_call_builtin F.attr_ValueError.ga.plain F.entry_bexc_ga (ex_check X Z hx hc (ex_entry X Z hx hc hq))
theorem ex_by {tk : Tok} {fill : Bool} {Q : Value → Shared → Prop} (X : K.In h) (Z : ExK K C) (hx : h.get? a = some o) (hc : o.cls = .ref C) (hq : Q (.ref C) ⟨h, g, d, t, os⟩) :
    wpAny (model prog w) A (getAttrBy (.ref a) (.str "__class__" tk) fill) Q E ⟨h, g, d, t, os⟩ := by
  have f3 := F.attr_ValueError.ga.bind (.ref a)
  have hx2 : (Value.builtin "BaseException.__getattribute__" == Value.builtin "object.__getattribute__") = false := by decide +kernel
  have hx1 : (onTheHeap (Value.ref C) && Value.builtin "BaseException.__getattribute__" == Value.builtin "object.__getattribute__") = false := by rw [hx2]; rfl
  repeat (any_goals (first | assumption | (with_reducible refine wpAny_loadPart_at hx ?_; rw [hc]) | with_reducible refine (looks_findIn X Z.ga).at ?_ | with_reducible refine (looks_findIn X Z.no).at ?_ | wp_step))
  refine ex_call X Z hx hc ?_
  repeat (any_goals (first | assumption | wp_step))
theorem ex_attr {Q : Option Value → Shared → Prop} (X : K.In h) (Z : ExK K C) (hx : h.get? a = some o) (hc : o.cls = .ref C) (hq : Q (some (.ref C)) ⟨h, g, d, t + 1, os⟩) : wpAny (model prog w) A (getAttr? (.ref a) "__class__") Q E ⟨h, g, d, t, os⟩ := by
  unfold getAttr? getAttrBy?
  repeat (any_goals (first | assumption | with_reducible apply ex_by X Z hx hc | wp_step))
theorem ex_nested {V : Value} {b : Bool} {dep : Int} {tk : Tok} {Q : Fin → Shared → Prop} (X : K.In h) (Z : ExK K C) (hK : (clsIn K C).isSome = true) (hx : h.get? a = some o) (hc : o.cls = .ref C) (hne : (Value.ref C == V) = false)
    (L1 : Looks (model prog w) h (typeOf V) (.type "type")) (L2 : Looks (model prog w) h (isType V) true) (L3 : Looks (model prog w) h (isSubtype (.ref C) V) b) (hq : ∀ t, Q (.done (.ret (.bool b))) ⟨h, g, d, t, os⟩) :
    wpAny (model prog w) A (Builtin.«isinstance.nested» ⟨[.ref a, V, .int dep tk], []⟩) Q E ⟨h, g, d, t, os⟩ := by
  have L0 := ex_type (M := model prog w) hx hc
  have L4 : Looks (model prog w) h (isType (.ref C)) true := by
    unfold clsIn at hK
    split at hK
    · next c' d' cd' sl' ho =>
      intro A' Q' E' s' k q
      unfold isType loadHead
      exact wpAny_bind (wpAny_loadPart (k _ _ (X _ _ ho)) (wpAny_pure q))
    · cases hK
  have LI : Looks (model prog w) h (isInstance (.ref a) V) b := L0.andThen L3
  unfold Builtin.«isinstance.nested»
  refine wpAny_bind (L0.at ?_)
  rw [if_neg (fun q => by rw [hne] at q; exact Bool.noConfusion q)]
  refine wpAny_bind (L1.at ?_)
  rw [if_pos (by decide)]
  refine wpAny_bind ?_
  show wpAny (model prog w) A (isType V >>= _) _ _ _
  refine wpAny_bind (L2.at ?_)
  simp only [Bool.not_true, Bool.false_eq_true, if_false]
  refine wpAny_bind (LI.at ?_)
  cases b with
  | true => exact wpAny_pure (wpAny_pure (hq _))
  | false =>
    simp only [Bool.false_eq_true, if_false]
    refine wpAny_bind (ex_attr X Z hx hc ?_)
    refine wpAny_bind (L4.at ?_)
    simp only [Bool.not_true, Bool.false_eq_true, if_false]
    refine wpAny_bind (wpAny_rule (L3.at ?_))
    exact wpAny_pure (hq _)
end
end Mine
end

section
set_option autoImplicit false
set_option linter.unusedVariables false
set_option maxRecDepth 100000
namespace Mine
open PySem PySem.W PySem.Spec PySem.Calls PyProof.Rows
noncomputable def clsO (h : Heap) (a : Addr) : Option (Addr × Frag) := match h.get? a with
  | some ⟨c, d, .cls cd, sl⟩ => (h.get? cd.ns).map fun n => (a, [(a, ⟨c, d, .cls cd, sl⟩), (cd.ns, n)])
  | _ => none
noncomputable def clsF (h : Heap) (x : Str) : Option (Addr × Frag) := match h.nsMap mainGlobals x with
  | some (.ref a) => clsO h a
  | _ => none
noncomputable def FrIn (K : Frag) (h : Heap) : Prop := ∀ p ∈ K, h.get? p.1 = some p.2
theorem clsF_in {h : Heap} {x : Str} {a : Addr} {K : Frag} (e : clsF h x = some (a, K)) : h.nsMap mainGlobals x = some (.ref a) ∧ FrIn K h := by
  unfold clsF at e
  split at e
  · next b hb =>
    unfold clsO at e
    split at e
    · next c d cd sl ho =>
      cases hn : h.get? cd.ns with
      | none => rw [hn] at e; cases e
      | some n =>
        rw [hn] at e
        cases e
        refine ⟨hb, fun p hp => ?_⟩
        cases hp with
        | head => exact ho
        | tail _ hp => cases hp with
          | head => exact hn
          | tail _ hp => exact nomatch hp
    · cases e
  · cases e
theorem fr_lookup {K : Frag} {h : Heap} (x : FrIn K h) : K.In h := by
  intro a o e
  induction K with
  | nil => cases e
  | cons p r ih =>
    obtain ⟨b, ob⟩ := p
    rw [List.lookup_cons] at e
    cases q : (a == b) with
    | true => rw [q] at e; cases e; rw [eq_of_beq q]; exact x _ (.head _)
    | false => rw [q] at e; exact ih (fun p hp => x p (.tail _ hp)) e
/-- an own class that is, or is not, a base -/
noncomputable def ansK (K : Frag) (B V : Addr) (b : Bool) : Bool := !(Value.ref B == .ref V) && ((clsIn K V).isSome && (typeIn K (.ref V) == some (.type "type") && mroIn K B (.ref V) == some b))
noncomputable def exOkK (K : Frag) (B L F N : Addr) : Bool :=
  (clsIn K B).isSome && ansK K B F false && ansK K B N false && ansK K B L true && mroIn K B (.type "ValueError") == some true &&
  findIn K (.ref B) "__getattribute__" == some (some (.builtin "BaseException.__getattribute__")) && findIn K (.ref B) "__getattr__" == some none && findIn K (.ref B) "__class__" == some (some (.builtin "object.__class__")) &&
  mroIn K B (.type "object") == some true && mroIn K B (.type "BaseException") == some true
noncomputable def exOk (h : Heap) : Bool := (clsF h "BadProgram").any fun b => (clsF h "LoopError").any fun l => (clsF h "BadFilling").any fun f => (clsF h "NoLoop").any fun n => h.isNs mainGlobals && exOkK (b.2 ++ (l.2 ++ (f.2 ++ n.2))) b.1 l.1 f.1 n.1
/-- what the end of the module says of the own exceptions -/
noncomputable def ExSays (h : Heap) : Prop := ∃ m K B L F N, h.Ns mainGlobals m ∧ m "BadProgram" = some (.ref B) ∧ m "LoopError" = some (.ref L) ∧ m "BadFilling" = some (.ref F) ∧ m "NoLoop" = some (.ref N) ∧ Frag.In K h ∧ exOkK K B L F N = true
theorem any_in {α : Type} {o : Option α} {f : α → Bool} (h : o.any f = true) : ∃ a, o = some a ∧ f a = true := by
  cases o with
  | none => cases h
  | some a => exact ⟨a, rfl, h⟩
theorem exSays_of {h : Heap} (e : exOk h = true) : ExSays h := by
  obtain ⟨b, e1, e⟩ := any_in e
  obtain ⟨l, e2, e⟩ := any_in e
  obtain ⟨f, e3, e⟩ := any_in e
  obtain ⟨n, e4, e⟩ := any_in e
  have e := Bool.and_eq_true_iff.mp e
  refine ⟨_, _, b.1, l.1, f.1, n.1, .of_isNs e.1, (clsF_in e1).1, (clsF_in e2).1, (clsF_in e3).1, (clsF_in e4).1, fr_lookup fun p hp => ?_, e.2⟩
  cases List.mem_append.mp hp with
  | inl h => exact (clsF_in e1).2 p h
  | inr h => cases List.mem_append.mp h with
    | inl h => exact (clsF_in e2).2 p h
    | inr h => cases List.mem_append.mp h with
      | inl h => exact (clsF_in e3).2 p h
      | inr h => exact (clsF_in e4).2 p h
theorem ExSays.keeps {h h' : Heap} (x : ExSays h) (k : ∀ b o, h.get? b = some o → h'.get? b = some o) : ExSays h' := by
  revert x; intro z__72
  refine ex6 (z__72) fun m K B L F N q__72_1 => an7 q__72_1 fun h1 h2 h3 h4 h5 h6 h7 => ?_
  clear z__72
  exact ⟨m, K, B, L, F, N, h1.keeps k, h2, h3, h4, h5, h6.keeps k, h7⟩
noncomputable def exHook : Hook where
  α := Bool
  obs := fun s => exOk s.heap
  val := fun _ => true
  says := fun _ h => ExSays h
  of := fun _ _ e => exSays_of e
  keeps := fun _ _ _ x k => x.keeps k
/-- the answers -/
noncomputable def sub02 (B L F N : Addr) (C V : Value) : Option Bool := bif C == .ref B then (bif V == .ref F then some false else bif V == .ref N then some false else bif V == .ref L then some true else bif V == .type "ValueError" then some true else none) else none
section
variable {K : Frag} {B L F N : Addr}
/-- what an answer rests on -/
structure Ans (K : Frag) (B : Addr) (V : Value) (b : Bool) : Prop where
  ne : (Value.ref B == V) = false
  ty : ∀ (M : Model) (h : Heap), K.In h → Looks M h (typeOf V) (.type "type")
  is : ∀ (M : Model) (h : Heap), K.In h → Looks M h (isType V) true
  su : mroIn K B V = some b
theorem ans_ref {V : Addr} {b : Bool} (e : ansK K B V b = true) : Ans K B (.ref V) b := by
  have e := Bool.and_eq_true_iff.mp e
  have e1 := Bool.and_eq_true_iff.mp e.2
  have e2 := Bool.and_eq_true_iff.mp e1.2
  refine ⟨by cases q : (Value.ref B == Value.ref V) with | false => rfl | true => rw [q] at e; exact Bool.noConfusion e.1, fun M h X => looks_typeIn X (eq_of_beq e2.1), fun M h X => ?_, eq_of_beq e2.2⟩
  have h0 := e1.1
  unfold clsIn at h0
  split at h0
  · next c d cd sl ho =>
    intro A' Q' E' s' k q
    unfold isType loadHead
    exact wpAny_bind (wpAny_loadPart (k _ _ (X _ _ ho)) (wpAny_pure q))
  · cases h0
theorem ans_ve (e : mroIn K B (.type "ValueError") = some true) : Ans K B (.type "ValueError") true :=
  ⟨rfl, fun M h X => Looks.of_pure (by kernel_rfl), fun M h X => Looks.of_pure rfl, e⟩
theorem exK_of (e : exOkK K B L F N = true) : ExK K B ∧ (clsIn K B).isSome = true ∧ ∀ C V b, sub02 B L F N C V = some b → C = .ref B ∧ Ans K B V b := by
  unfold exOkK at e
  simp only [Bool.and_eq_true] at e
  obtain ⟨⟨⟨⟨⟨⟨⟨⟨⟨e0, e1⟩, e2⟩, e3⟩, e4⟩, e5⟩, e6⟩, e7⟩, e8⟩, e9⟩ := e
  refine ⟨⟨eq_of_beq e5, eq_of_beq e6, eq_of_beq e7, eq_of_beq e8, eq_of_beq e9⟩, e0, fun C V b h => ?_⟩
  unfold sub02 at h
  cases q0 : (C == Value.ref B) with
  | false => rw [q0] at h; cases h
  | true =>
    refine ⟨eq_of_beq q0, ?_⟩
    rw [q0] at h
    cases q1 : (V == Value.ref F) with
    | true => rw [q1] at h; cases h; rw [eq_of_beq q1]; exact ans_ref e1
    | false =>
    cases q2 : (V == Value.ref N) with
    | true => rw [q1, q2] at h; cases h; rw [eq_of_beq q2]; exact ans_ref e2
    | false =>
    cases q3 : (V == Value.ref L) with
    | true => rw [q1, q2, q3] at h; cases h; rw [eq_of_beq q3]; exact ans_ref e3
    | false =>
    cases q4 : (V == Value.type "ValueError") with
    | true => rw [q1, q2, q3, q4] at h; cases h; rw [eq_of_beq q4]; exact ans_ve (eq_of_beq e4)
    | false => rw [q1, q2, q3, q4] at h; cases h
theorem subOK_of {prog : Program} {w : World} {h₀ : H0} (X : Frag.In K h₀.h) (e : exOkK K B L F N = true) : SubOK prog w h₀ (sub02 B L F N) := by
  obtain ⟨Z, hB, hs⟩ := exK_of e
  intro C V b hb A s a o Q E up ho hc hq
  obtain ⟨rfl, hk⟩ := hs C V b hb
  exact call_isinstance (S := fun _ R s => (K.In s.heap ∧ s.heap.get? a = some o) ∧ ∀ t, R (.ok (.ret (.bool b))) { s with toks := t })
    (fun _ _ _ _ _ hs => isinstance_outer (ex_nested hs.1.1 Z hB hs.1.2 hc hk.ne (hk.ty _ _ hs.1.1) (hk.is _ _ hs.1.1) (looks_mroIn hs.1.1 hk.su) hs.2) (fun z => nomatch z)) ⟨⟨X.keeps up, ho⟩, hq⟩
end
end Mine
end

section
set_option autoImplicit false
set_option linter.unusedVariables false
set_option maxRecDepth 100000
namespace Mine
open PySem

noncomputable def fdOf : Stmt → Option (Str × Arguments × List Stmt × Scope × Pos)
  | .FunctionDef name a b _ _ _ sc _ _ pos => some (name, a, b, sc, pos)
  | _ => none
noncomputable def clOf : Stmt → List Stmt
  | .ClassDef _ _ _ b _ _ _ _ _ _ _ => b
  | _ => []
noncomputable def defAt (i : Nat) : Option (Str × Arguments × List Stmt × Scope × Pos) := (PySem.Challenge.pw_uf010033_02.main.body[i]?).bind fdOf
noncomputable def methAt (i j : Nat) : Option (Str × Arguments × List Stmt × Scope × Pos) := (((PySem.Challenge.pw_uf010033_02.main.body[i]?).elim [] clOf)[j]?).bind fdOf
noncomputable def bodyOf (i : Nat) : List Stmt := (defAt i).elim [] fun q => q.2.2.1
noncomputable def bodyM (i j : Nat) : List Stmt := (methAt i j).elim [] fun q => q.2.2.1
noncomputable def gkL : List (Str × Gk) := [(Str.ofString "is_among", Gk.fn), (Str.ofString "is_sum", Gk.fn), (Str.ofString "are_words", Gk.fn), (Str.ofString "need", Gk.fn), (Str.ofString "counted_row", Gk.fn), (Str.ofString "counted_rows", Gk.fn), (Str.ofString "need_tops", Gk.fn), (Str.ofString "loops_in", Gk.fn), (Str.ofString "Program", Gk.fn), (Str.ofString "rows_of", Gk.fn), (Str.ofString "is_within", Gk.fn), (Str.ofString "_law_at", Gk.fn), (Str.ofString "_law_whole", Gk.fn), (Str.ofString "_law_tops", Gk.fn), (Str.ofString "_law_unit", Gk.fn), (Str.ofString "_law_word", Gk.fn), (Str.ofString "_law_into", Gk.fn), (Str.ofString "_law_row", Gk.fn), (Str.ofString "_law_rows", Gk.fn), (Str.ofString "_law_program", Gk.fn), (Str.ofString "_law_places", Gk.fn), (Str.ofString "_law_changed", Gk.fn), (Str.ofString "_law_bad_sum", Gk.fn), (Str.ofString "_law_bad_row", Gk.fn), (Str.ofString "_law_bad", Gk.fn), (Str.ofString "_law_refused", Gk.fn), (Str.ofString "_law_right", Gk.fn), (Str.ofString "law", Gk.fn), (Str.ofString "len", Gk.blt (D.val (Value.builtin "len"))), (Str.ofString "isinstance", Gk.blt (D.val (Value.builtin "isinstance"))), (Str.ofString "list", Gk.blt (D.val (Value.type "list"))), (Str.ofString "tuple", Gk.blt (D.val (Value.type "tuple"))), (Str.ofString "int", Gk.blt (D.val (Value.type "int"))), (Str.ofString "zip", Gk.itr), (Str.ofString "enumerate", Gk.itr), (Str.ofString "range", Gk.itr), (Str.ofString "bool", Gk.cst (D.val (Value.type "bool"))), (Str.ofString "str", Gk.cst (D.val (Value.type "str"))), (Str.ofString "ValueError", Gk.cst (D.val (Value.type "ValueError"))), (Str.ofString "MOST_BOXES", Gk.cst (D.int 3)), (Str.ofString "MOST_TOP", Gk.cst (D.int 9)), (Str.ofString "MOST_ROWS", Gk.cst (D.int 12)), (Str.ofString "MOST_DEEP", Gk.cst (D.int 3)), (Str.ofString "MOST_WORDS", Gk.cst (D.int 3)), (Str.ofString "LoopError", Gk.dyn), (Str.ofString "BadProgram", Gk.dyn), (Str.ofString "BadFilling", Gk.dyn), (Str.ofString "NoLoop", Gk.dyn)]
noncomputable def gk02 (x : Str) : Gk := (gkL.lookup x).getD .no
noncomputable def tb (N : Sc) (tr : List Str) : Tb := ⟨N, fun x => tr.contains x, false, gk02⟩

/-- a name is bound to something that meets a specification -/
noncomputable def Has (Γ : Ctx) (x : Str) (Sp : FSpec → Prop) : Prop := ∃ S, Γ.fn x = some S ∧ Sp S

section
variable {Γ : Ctx} {T : Tb} {n : Nat} {trk : Bool} {l : Ev} {st : St} {Q : D → St → Prop} {X : XP} {K : Bool → St → Prop} {KI : List D → (Nat → Bool) → St → Prop} {KS : Fl → Ev → St → Prop} {KL : List D → St → Prop}
theorem f_itemC {v a b c p} : wE Γ (n + 1) T trk (.Subscript v (.Constant a b c) p) l st Q X = wE Γ n T false v l st (fun d st1 => wE Γ n T false (.Constant a b c) l st1 (fun i st2 => wItem d i st2 Q) X) X := rfl
theorem f_itemN {v a b p} : wE Γ (n + 1) T trk (.Subscript v (.Name a b) p) l st Q X = wE Γ n T false v l st (fun d st1 => wE Γ n T false (.Name a b) l st1 (fun i st2 => wItem d i st2 Q) X) X := rfl
theorem f_itemB {v a b c q p} : wE Γ (n + 1) T trk (.Subscript v (.BinOp a b c q) p) l st Q X = wE Γ n T false v l st (fun d st1 => wE Γ n T false (.BinOp a b c q) l st1 (fun i st2 => wItem d i st2 Q) X) X := rfl
theorem f_itemU {v a b q p} : wE Γ (n + 1) T trk (.Subscript v (.UnaryOp a b q) p) l st Q X = wE Γ n T false v l st (fun d st1 => wE Γ n T false (.UnaryOp a b q) l st1 (fun i st2 => wItem d i st2 Q) X) X := rfl
theorem f_itemF {v a b c q p} : wE Γ (n + 1) T trk (.Subscript v (.Call a b c q) p) l st Q X = wE Γ n T false v l st (fun d st1 => wE Γ n T false (.Call a b c q) l st1 (fun i st2 => wItem d i st2 Q) X) X := rfl
theorem f_itemS {v a b q p} : wE Γ (n + 1) T trk (.Subscript v (.Subscript a b q) p) l st Q X = wE Γ n T false v l st (fun d st1 => wE Γ n T false (.Subscript a b q) l st1 (fun i st2 => wItem d i st2 Q) X) X := rfl
theorem f_inm {t x q} : wIter Γ (n + 1) T t (.Name x q) l st KI X = wE Γ n T false (.Name x q) l st (fun d st1 => wIterD d st1 fun xs p => xs.length ≤ lim ∧ KI xs p st1) X := rfl
theorem f_isb {t x y q} : wIter Γ (n + 1) T t (.Subscript x y q) l st KI X = wE Γ n T false (.Subscript x y q) l st (fun d st1 => wIterD d st1 fun xs p => xs.length ≤ lim ∧ KI xs p st1) X := rfl
theorem f_icl {t x a args q} : wIter Γ (n + 1) T t (.Call (.Name x a) args [] q) l st KI X = (match T.pl x with
      | .gl .itr => bif plainA args then wEs Γ n T false args l st (fun ds st1 => iterCall t x ds st1 fun xs p => KI xs p st1) X else False
      | _ => wE Γ n T false (.Call (.Name x a) args [] q) l st (fun d st1 => wIterD d st1 fun xs p => xs.length ≤ lim ∧ KI xs p st1) X) := rfl
theorem f_tn {r} : thenE Γ n T r KS X .next l st = wSs Γ n T r l st KS X := rfl
theorem f_tr {r} {d : D} : thenE Γ n T r KS X (.ret d) l st = KS (.ret d) l st := rfl
theorem lk_s {a : Option D} {l : Ev} {n : Nat} : look (a :: l) (n + 1) = look l n := rfl
theorem lk_0 {a : Option D} {l : Ev} : look (a :: l) 0 = a := rfl
theorem se_s {a : Option D} {l : Ev} {n : Nat} {d : Option D} : setE (a :: l) (n + 1) d = a :: setE l n d := rfl
theorem se_0 {a : Option D} {l : Ev} {d : Option D} : setE (a :: l) 0 d = d :: l := rfl
theorem ev_s {d : D} : eVal (some d) st Q = Q d st := rfl
theorem pl_a {e r} : plainA (e :: r) = (!isStarE e && noStars r && true) := rfl
theorem ns_c {e r} : noStars (e :: r) = (!isStarE e && noStars r) := rfl
theorem ns_n : noStars [] = true := rfl
theorem s1 {a b} : isStarE (.Name a b) = false := rfl
theorem s2 {a b c} : isStarE (.Constant a b c) = false := rfl
theorem s3 {a b c d} : isStarE (.Call a b c d) = false := rfl
theorem s4 {a b c d} : isStarE (.BinOp a b c d) = false := rfl
theorem s5 {a b c} : isStarE (.UnaryOp a b c) = false := rfl
theorem s6 {a b c} : isStarE (.Subscript a b c) = false := rfl
theorem s7 {a b c} : isStarE (.Tuple a b c) = false := rfl
theorem s8 {a b} : isStarE (.List a b) = false := rfl
theorem s9 {a b c d} : isStarE (.Compare a b c d) = false := rfl
theorem s10 {a b c} : isStarE (.BoolOp a b c) = false := rfl
theorem s11 {a b c} : isStarE (.Attribute a b c) = false := rfl
theorem s12 {a b c d} : isStarE (.ListComp a b c d) = false := rfl
theorem c1 {a b c d} : isCallE (.Call a b c d) = true := rfl
theorem n1 {a b} : isNameE (.Name a b) = true := rfl
theorem t1 {a b c d} : isTupE (.Call a b c d) = false := rfl
theorem l1 {a b} : isSliceE (.Name a b) = false := rfl
theorem l2 {a b c} : isSliceE (.Constant a b c) = false := rfl
theorem l3 {a b c d} : isSliceE (.BinOp a b c d) = false := rfl
theorem nf : (!false) = true := rfl
theorem nt : (!true) = false := rfl
theorem ta {b : Bool} : (true && b) = b := rfl
theorem fo {b : Bool} : (false || b) = b := rfl
theorem x_add {i j : Int} : wBin trk .Add (.int i) (.int j) st Q = Q (.int (i + j)) st := rfl
theorem x_sub {i j : Int} : wBin trk .Sub (.int i) (.int j) st Q = Q (.int (i - j)) st := rfl
theorem x_mul {i j : Int} : wBin trk .Mult (.int i) (.int j) st Q = (IntMulOk i j ∧ Q (.int (i * j)) st) := rfl
theorem x_div {i j : Int} : wBin trk .FloorDiv (.int i) (.int j) st Q = (0 < j ∧ j < 2 ^ 30 ∧ Q (.int (i / j)) st) := rfl
theorem x_mod {i j : Int} : wBin trk .Mod (.int i) (.int j) st Q = (0 < j ∧ Q (.int (i % j)) st) := rfl
theorem x_pow : wBin trk .Pow (.int 10) (.int 20) st Q = ((10 : Int) = 10 ∧ (20 : Int) = 20 ∧ Q (.int (10 ^ 20)) st) := rfl
theorem x_neg {i : Int} : wUn .USub (.int i) st Q = Q (.int (-i)) st := rfl
theorem x_not {d : D} : wUn .Not d st Q = (∃ b, truth d = some b ∧ Q (.bool (!b)) st) := rfl
theorem mk_f {ds : List D} : mkList false ds st Q = (ds.length ≤ lim ∧ Q (.list ds) st) := rfl
theorem mk_t {ds : List D} : mkList true ds st Q = (ds.length ≤ lim ∧ Q (.loc st.hi) (st.alloc (.list ds))) := rfl
theorem q_lt {i j : Int} {k : Bool → Prop} : wCmp1 .Lt (.int i) (.int j) st k = k (decide (i < j)) := rfl
theorem q_le {i j : Int} {k : Bool → Prop} : wCmp1 .LtE (.int i) (.int j) st k = k (decide (i ≤ j)) := rfl
theorem q_gt {i j : Int} {k : Bool → Prop} : wCmp1 .Gt (.int i) (.int j) st k = k (decide (i > j)) := rfl
theorem q_eq {i j : Int} {k : Bool → Prop} : wCmp1 .Eq (.int i) (.int j) st k = k (i == j) := rfl
theorem q_ne {i j : Int} {k : Bool → Prop} : wCmp1 .NotEq (.int i) (.int j) st k = k (!(i == j)) := rfl
theorem q_seq {i j : Str} {k : Bool → Prop} : wCmp1 .Eq (.str i) (.str j) st k = k (i == j) := rfl
theorem ss_at {b : List Stmt} {k : Nat} {s : Stmt} (h : b[k]? = some s) (h1 : wS Γ n T s l st (thenE Γ n T (b.drop (k + 1)) KS X) X) : wSs Γ (n + 1) T (b.drop k) l st KS X := by
  obtain ⟨hk, rfl⟩ := List.getElem?_eq_some_iff.mp h
  rw [List.drop_eq_getElem_cons hk]
  exact h1
theorem ss_end {b : List Stmt} {k : Nat} (h : b.length = k) (h1 : KS .next l st) : wSs Γ (n + 1) T (b.drop k) l st KS X := by
  rw [← h, List.drop_length]; exact h1
theorem tr_of {b : Bool} {P : Bool → Prop} (h : P b) : ∃ c, truth (.bool b) = some c ∧ P c := ⟨b, rfl, h⟩
theorem ite_t {A B : Prop} (h : A) : if true = true then A else B := h
theorem ite_f {A B : Prop} (h : B) : if false = true then A else B := h
theorem ite_d {p : Prop} [Decidable p] {A B : Prop} (h1 : p → A) (h2 : ¬ p → B) : if decide p = true then A else B := by
  by_cases h : p
  · rw [if_pos (decide_eq_true h)]; exact h1 h
  · rw [if_neg (fun z => h (of_decide_eq_true z))]; exact h2 h
theorem ite_b {b : Bool} {A B : Prop} (h1 : b = true → A) (h2 : b = false → B) : if b = true then A else B := by
  cases b with
  | true => exact h1 rfl
  | false => exact h2 rfl
theorem and_b {b : Bool} {A B : Prop} (h1 : b = false → A) (h2 : b = true → B) : if stopsAnd .And b = true then A else B := by
  cases b with
  | true => exact h2 rfl
  | false => exact h1 rfl
theorem hide_no : st.hide (fun _ => false) = st := rfl
theorem back_no {st' : St} : st'.back st (fun _ => false) = st' := rfl
theorem wi_tup {xs : List D} {K' : List D → (Nat → Bool) → Prop} (h : K' xs fun _ => false) : wIterD (.tup xs) st K' := ⟨xs, rfl, h⟩
theorem wi_lst {xs : List D} {K' : List D → (Nat → Bool) → Prop} (h : K' xs fun _ => false) : wIterD (.list xs) st K' := ⟨xs, rfl, h⟩
theorem wi_loc {m : Nat} {xs : List D} {K' : List D → (Nat → Bool) → Prop} (hc : st.cs m = some (.list xs)) (h : K' xs fun k => k == m) : wIterD (.loc m) st K' := ⟨xs, hc, h⟩
theorem f_tgN {x c} {d : D} {K' : Ev → Prop} : wTarget T (.Name x c) d l K' = setN T x d l K' := rfl
theorem f_tgT {es a b} {ds : List D} {K' : Ev → Prop} : wTarget T (.Tuple es a b) (.tup ds) l K' = wTg T es ds l K' := rfl
theorem f_tg0 {K' : Ev → Prop} : wTg T [] [] l K' = K' l := rfl
theorem f_tg1 {x c r} {d : D} {ds : List D} {K' : Ev → Prop} : wTg T (.Name x c :: r) (d :: ds) l K' = setN T x d l fun l1 => wTg T r ds l1 K' := rfl
noncomputable def nextF {ε : Type} (step : D → ε → St → (Fl → ε → St → Prop) → Prop) (ds : List D) (Q : Fl → ε → St → Prop) : Fl → ε → St → Prop := fun fl m' st' => match fl with
    | .next => wFor step ds m' st' Q
    | .ret d => Q (.ret d) m' st'
theorem wf_n {ε : Type} {step : D → ε → St → (Fl → ε → St → Prop) → Prop} {m : ε} {Q : Fl → ε → St → Prop} : wFor step [] m st Q = Q .next m st := rfl
theorem wf_c {ε : Type} {step : D → ε → St → (Fl → ε → St → Prop) → Prop} {d : D} {ds : List D} {m : ε} {Q : Fl → ε → St → Prop} : wFor step (d :: ds) m st Q = step d m st (nextF step ds Q) := rfl
theorem nf_n {ε : Type} {step : D → ε → St → (Fl → ε → St → Prop) → Prop} {ds : List D} {m : ε} {Q : Fl → ε → St → Prop} : nextF step ds Q .next m st = wFor step ds m st Q := rfl
theorem nf_r {ε : Type} {step : D → ε → St → (Fl → ε → St → Prop) → Prop} {d : D} {ds : List D} {m : ε} {Q : Fl → ε → St → Prop} : nextF step ds Q (.ret d) m st = Q (.ret d) m st := rfl
noncomputable def nextC (step : D → St → (Option D → St → Prop) → Prop) (ds acc : List D) (Q : List D → St → Prop) : Option D → St → Prop := fun r st' => match r with
    | some x => wComp step ds (acc ++ [x]) st' Q
    | none => wComp step ds acc st' Q
theorem or_t {b : Bool} {A B C : Prop} (h1 : b = true → A) (h2 : b = false → C) : if stopsAnd .Or b = true then (if b = true then A else B) else C := by
  cases b with
  | true => exact h1 rfl
  | false => exact h2 rfl
theorem or_tn {b : Bool} {A B C : Prop} (h1 : b = false → A) (h2 : b = true → C) : if stopsAnd .Or (!b) = true then (if (!b) = true then A else B) else C := by
  cases b with
  | true => exact h2 rfl
  | false => exact h1 rfl
theorem or_l {b : Bool} {A B : Prop} (h1 : b = true → A) (h2 : b = false → B) : if stopsAnd .Or b = true then (if b = true then A else B) else (if (BoolOp.Or == BoolOp.And) = true then A else B) := by
  cases b with
  | true => exact h1 rfl
  | false => exact h2 rfl
theorem or_ln {b : Bool} {A B : Prop} (h1 : b = false → A) (h2 : b = true → B) : if stopsAnd .Or (!b) = true then (if (!b) = true then A else B) else (if (BoolOp.Or == BoolOp.And) = true then A else B) := by
  cases b with
  | true => exact h2 rfl
  | false => exact h1 rfl
theorem and_t {b : Bool} {A B C : Prop} (h1 : b = false → B) (h2 : b = true → C) : if stopsAnd .And b = true then (if b = true then A else B) else C := by
  cases b with
  | true => exact h2 rfl
  | false => exact h1 rfl
theorem and_l {b : Bool} {A B : Prop} (h1 : b = false → B) (h2 : b = true → A) : if stopsAnd .And b = true then (if b = true then A else B) else (if (BoolOp.And == BoolOp.And) = true then A else B) := by
  cases b with
  | true => exact h2 rfl
  | false => exact h1 rfl
theorem ite_n {b : Bool} {A B : Prop} (h1 : b = false → A) (h2 : b = true → B) : if (!b) = true then A else B := by
  cases b with
  | true => exact h2 rfl
  | false => exact h1 rfl
theorem it_0 {x : D} {r : List D} (h : Q x st) : wItem (.tup (x :: r)) (.int 0) st Q := ⟨by decide, by decide, x :: r, 0, x, rfl, .inl (by decide), by simp [seqIndex?], rfl, h⟩
theorem it_1 {x y : D} {r : List D} (h : Q y st) : wItem (.tup (x :: y :: r)) (.int 1) st Q := ⟨by decide, by decide, x :: y :: r, 1, y, rfl, .inl (by decide), by simp [seqIndex?]; omega, rfl, h⟩
variable {sub : Value → Value → Option Bool}
theorem b_len {d : D} {xs : List D} (h : seqD st d = some xs) (h1 : xs.length ≤ lim) (h2 : Q (.int xs.length) st) : wBuiltin sub trk "len" [d] st Q := by
  unfold wBuiltin; rw [if_pos rfl]; exact ⟨d, xs, rfl, h, h1, h2⟩
theorem b_isi {d : D} {V : Value} {b : Bool} (h : isInst sub st d V = some b) (h2 : Q (.bool b) st) : wBuiltin sub trk "isinstance" [d, .val V] st Q := by
  unfold wBuiltin; rw [if_neg (by decide +kernel), if_pos rfl]; exact ⟨d, V, b, rfl, h, h2⟩
theorem b_list {d : D} {xs : List D} (h : seqD st d = some xs) (h2 : mkList trk xs st Q) : wBuiltin sub trk "list" [d] st Q := by
  unfold wBuiltin; rw [if_neg (by decide +kernel), if_neg (by decide +kernel), if_pos rfl]; exact ⟨d, xs, rfl, h, h2⟩
theorem b_tuple {d : D} {xs : List D} (h : lstD st d = some xs) (h1 : xs.length ≤ lim) (h2 : Q (.tup xs) st) : wBuiltin sub trk "tuple" [d] st Q := by
  unfold wBuiltin; rw [if_neg (by decide +kernel), if_neg (by decide +kernel), if_neg (by decide +kernel), if_pos rfl]; exact ⟨d, xs, rfl, h, h1, h2⟩
theorem b_int {b : Bool} (h2 : Q (.int (if b then 1 else 0)) st) : wBuiltin sub trk "int" [.bool b] st Q := by
  unfold wBuiltin; rw [if_neg (by decide +kernel), if_neg (by decide +kernel), if_neg (by decide +kernel), if_neg (by decide +kernel), if_pos rfl]; exact ⟨b, rfl, h2⟩
theorem i_range {t : Expr} {i : Int} {K' : List D → (Nat → Bool) → Prop} (h1 : i ≤ lim) (h2 : -lim ≤ i) (h : K' (rangeL 0 i) fun _ => false) : iterCall t "range" [.int i] st K' := by
  unfold iterCall; rw [if_neg (by decide +kernel), if_neg (by decide +kernel), if_pos rfl]; exact ⟨i, rfl, h1, h2, h⟩
theorem i_enum {t : Expr} {d : D} {xs : List D} {K' : List D → (Nat → Bool) → Prop} (ht : isTupE t = true) (h1 : seqD st d = some xs) (h2 : xs.length ≤ lim) (h : K' (enumL xs) (pinOf d)) : iterCall t "enumerate" [d] st K' := by
  unfold iterCall; rw [if_neg (by decide +kernel), if_pos rfl]; exact ⟨ht, d, xs, rfl, h1, h2, h⟩
theorem i_zip {t : Expr} {a b : D} {xs ys : List D} {K' : List D → (Nat → Bool) → Prop} (ht : isTupE t = true) (h1 : lstD st a = some xs) (h2 : lstD st b = some ys) (h3 : xs.length ≤ lim) (h4 : ys.length ≤ lim) (h : K' (zipL xs ys) (fun k => pinOf a k || pinOf b k)) : iterCall t "zip" [a, b] st K' := by
  unfold iterCall; rw [if_pos rfl]; exact ⟨ht, a, b, xs, ys, rfl, h1, h2, h3, h4, h⟩
end
end Mine
end

section
set_option autoImplicit false
set_option linter.unusedVariables false
set_option linter.unusedSimpArgs false
set_option maxRecDepth 100000
namespace Mine
open PySem
noncomputable abbrev dI (ns : List Int) : List D := ns.map .int
noncomputable def atV (sc : List Int) (k : Int) : Int := ((if 0 < sc.length then sc.getD (k % sc.length).toNat 0 else 0) + 17 * k) * 48271 % 1000003
noncomputable def SpAt (S : FSpec) : Prop := ∀ (sc : List Int) (k : Int) (st : St) (Q : D → St → Prop) (X : XP), sc.length ≤ 1000 → Q (.int (atV sc k)) st → S [.list (dI sc), .int k] st Q X
section
variable {st st' : St} {Q : D → St → Prop} {l : Ev} {d d' : D}
theorem fin_k (h : Q d st') : finE st Q (.ret d) l st' := .inl h
theorem fin_z (h1 : frz st.hi st' 3 d = some d') (h : Q d' (st'.cut st.hi)) : finE st Q (.ret d) l st' := .inr ⟨d', h1, h⟩
theorem it_nn {i : Int} {k : Nat} {xs : List D} {x : D} (hs : seqD st d = some xs) (hi : i = k) (hk : xs.length ≤ lim) (hx : xs[k]? = some x) (h : Q x st) : wItem d (.int i) st Q := by
  subst hi
  have hl : k < xs.length := (List.getElem?_eq_some_iff.mp hx).1
  have hk' : xs.length ≤ 1000000 := hk
  refine ⟨by omega, by omega, xs, k, x, hs, .inl (Int.natCast_nonneg k), ?_, hx, h⟩
  have q1 : ¬ ((k : Int) < 0) := by omega
  have q2 : (0 : Int) ≤ k ∧ (k : Int) < xs.length := by omega
  simp [seqIndex?, q1, hl]
end
theorem mulL {i j : Int} (h1 : -(2 ^ 64 : Int) < i := by decide) (h2 : i < 2 ^ 64 := by decide) : IntMulOk i j := IntMulOk.of_left (intBits_le_64 h1 h2)
theorem mulR {i j : Int} (h1 : -(2 ^ 64 : Int) < j := by decide) (h2 : j < 2 ^ 64 := by decide) : IntMulOk i j := IntMulOk.of_right (intBits_le_64 h1 h2)
noncomputable def t23 : Tb := tb [("_law_script", .local), ("_law_k", .local), ("_law_cell", .local), ("len", .globalImplicit)] []
noncomputable abbrev b23 : List Stmt := bodyOf 23
theorem p23_0 : t23.pl "_law_script" = .loc 0 true false := rfl
theorem p23_1 : t23.pl "_law_k" = .loc 1 true false := rfl
theorem p23_2 : t23.pl "_law_cell" = .loc 2 true false := rfl
theorem p23_3 : t23.pl "len" = .gl (.blt (.val (.builtin "len"))) := rfl
theorem q23 : t23.hq = false := rfl
theorem at_ok {Γ : Ctx} : SpAt (wFn Γ 60 t23 2 b23) := by
  intro sc k st Q X hl hQ
  have hl' : (dI sc).length ≤ lim := by rw [List.length_map]; exact Nat.le_trans hl (by decide)
  refine ⟨rfl, ?_⟩; show wSs Γ 60 t23 (b23.drop 0) [some (.list (dI sc)), some (.int k), none, none] st _ _
  refine ss_at rfl ?_; dsimp only [f_int, f_asgN, f_tn, se_s, se_0, p23_2]
  refine ss_at rfl ?_; dsimp only [f_int, f_name, f_bin, f_call, f_nil, f_cons, f_c1, f_tc, f_asgN, f_if, f_ssn, f_ss, f_itemB, f_tn, wName, lk_s, lk_0, se_s, se_0, ev_s, pl_a, ns_n, s1, nf, ta, cond_true, cond_false, p23_0, p23_1, p23_2, p23_3, q23]
  refine b_len rfl hl' ?_
  dsimp only [q_gt]
  unfold atV at hQ
  refine ite_d (fun h0 => ?_) fun h0 => ?_
  · refine b_len rfl hl' ?_
    dsimp only [x_mod]
    rw [List.length_map] at h0 ⊢
    have p1 := Int.emod_nonneg k (b := (sc.length : Int)) (by omega)
    have p2 := Int.emod_lt_of_pos k (b := (sc.length : Int)) (by omega)
    rw [if_pos (by omega)] at hQ
    have p3 : (k % (sc.length : Int)).toNat < sc.length := by omega
    refine ⟨by omega, it_nn (k := (k % (sc.length : Int)).toNat) rfl (by omega) hl' (x := .int (sc.getD (k % sc.length).toNat 0)) (by simp [p3]) ?_⟩
    refine ss_at rfl ?_; dsimp only [f_int, f_name, f_bin, f_ret, f_tr, wName, lk_s, lk_0, ev_s, x_add, x_mul, x_mod, p23_1, p23_2]
    exact ⟨mulL, mulR, by decide, fin_k hQ⟩
  · rw [List.length_map] at h0
    rw [if_neg (by omega)] at hQ
    refine ss_at rfl ?_; dsimp only [f_int, f_name, f_bin, f_ret, f_tr, wName, lk_s, lk_0, ev_s, x_add, x_mul, x_mod, p23_1, p23_2]
    exact ⟨mulL, mulR, by decide, fin_k hQ⟩
end Mine
end

section
set_option autoImplicit false
set_option linter.unusedVariables false
set_option linter.unusedSimpArgs false
set_option maxRecDepth 100000
namespace Mine
open PySem
theorem tf {P : Prop} (h : true = false) : P := Bool.noConfusion h
theorem ft {P : Prop} (h : false = true) : P := Bool.noConfusion h
mutual
noncomputable def D.pln : D → Bool
  | .none => true
  | .bool _ => true
  | .int _ => true
  | .str x => PyData.strOk x
  | .tup ds => decide (ds.length ≤ lim) && plnAll ds
  | .list ds => decide (ds.length ≤ lim) && plnAll ds
  | .exc (.type c) => c == "dict"
  | _ => false
noncomputable def plnAll : List D → Bool
  | [] => true
  | d :: ds => d.pln && plnAll ds
end
theorem plnAll_c {d : D} {ds : List D} : plnAll (d :: ds) = (d.pln && plnAll ds) := rfl
theorem D.pln_t {ds : List D} : (D.tup ds).pln = (decide (ds.length ≤ lim) && plnAll ds) := rfl
theorem D.pln_l {ds : List D} : (D.list ds).pln = (decide (ds.length ≤ lim) && plnAll ds) := rfl
theorem plnAll_iff {ds : List D} : plnAll ds = true ↔ ∀ d ∈ ds, d.pln = true := by
  induction ds with
  | nil => exact ⟨fun _ _ h => absurd h (List.not_mem_nil), fun _ => rfl⟩
  | cons a r ih => rw [plnAll_c, Bool.and_eq_true, ih, List.forall_mem_cons]
theorem pln_tup {ds : List D} : (D.tup ds).pln = true ↔ ds.length ≤ lim ∧ ∀ d ∈ ds, d.pln = true := by
  rw [D.pln_t, Bool.and_eq_true, decide_eq_true_iff, plnAll_iff]
theorem pln_list {ds : List D} : (D.list ds).pln = true ↔ ds.length ≤ lim ∧ ∀ d ∈ ds, d.pln = true := by
  rw [D.pln_l, Bool.and_eq_true, decide_eq_true_iff, plnAll_iff]
noncomputable def isI : D → Bool
  | .int _ => true
  | .bool _ => true
  | _ => false
noncomputable def isB : D → Bool
  | .bool _ => true
  | _ => false
noncomputable def isS : D → Bool
  | .str _ => true
  | _ => false
noncomputable def isTu : D → Bool
  | .tup _ => true
  | _ => false
noncomputable def isLi : D → Bool
  | .list _ => true
  | _ => false
noncomputable def tyD (a b c e g : Bool) : D → Bool
  | .bool _ => a
  | .int _ => b
  | .str _ => c
  | .tup _ => e
  | .list _ => g
  | _ => false
theorem ty_go {sub : Value → Value → Option Bool} {st : St} {d : D} {T : String} {a b c e g : Bool} (ht : tyIn T = true) (h1 : (T == "int" || T == "bool") = a) (h2 : (T == "int") = b) (h3 : (T == "str") = c) (h4 : (T == "tuple") = e) (h5 : (T == "list") = g) (h : d.pln = true) :
    isInst sub st d (.type T) = some (tyD a b c e g d) := by
  unfold isInst tyV typeIs
  dsimp only
  rw [ht]
  cases d with
  | exc v => cases v with
    | type x => dsimp only [D.pln, cond_true] at h ⊢; rw [h]; rfl
    | _ => exact ft h
  | loc n => exact ft h
  | val n => exact ft h
  | inst n => exact ft h
  | _ => subst h1 h2 h3 h4 h5; rfl
section
variable {sub : Value → Value → Option Bool} {st : St} {d : D}
theorem ty_int (h : d.pln = true) : isInst sub st d (.type "int") = some (isI d) := (ty_go (a := true) (b := true) (c := false) (e := false) (g := false) (by decide +kernel) (by decide +kernel) (by decide +kernel) (by decide +kernel) (by decide +kernel) (by decide +kernel) h).trans (by cases d <;> rfl)
theorem ty_bool (h : d.pln = true) : isInst sub st d (.type "bool") = some (isB d) := (ty_go (a := true) (b := false) (c := false) (e := false) (g := false) (by decide +kernel) (by decide +kernel) (by decide +kernel) (by decide +kernel) (by decide +kernel) (by decide +kernel) h).trans (by cases d <;> rfl)
theorem ty_str (h : d.pln = true) : isInst sub st d (.type "str") = some (isS d) := (ty_go (a := false) (b := false) (c := true) (e := false) (g := false) (by decide +kernel) (by decide +kernel) (by decide +kernel) (by decide +kernel) (by decide +kernel) (by decide +kernel) h).trans (by cases d <;> rfl)
theorem ty_tup (h : d.pln = true) : isInst sub st d (.type "tuple") = some (isTu d) := (ty_go (a := false) (b := false) (c := false) (e := true) (g := false) (by decide +kernel) (by decide +kernel) (by decide +kernel) (by decide +kernel) (by decide +kernel) (by decide +kernel) h).trans (by cases d <;> rfl)
theorem ty_list (h : d.pln = true) : isInst sub st d (.type "list") = some (isLi d) := (ty_go (a := false) (b := false) (c := false) (e := false) (g := true) (by decide +kernel) (by decide +kernel) (by decide +kernel) (by decide +kernel) (by decide +kernel) (by decide +kernel) h).trans (by cases d <;> rfl)
end
theorem tu_inv {d : D} (h : isTu d = true) : ∃ ds, d = .tup ds := by
  cases d with
  | tup ds => exact ⟨ds, rfl⟩
  | _ => exact ft h
noncomputable def amongD (lo hi : Int) : D → Bool
  | .int i => decide (lo ≤ i) && decide (i ≤ hi)
  | _ => false
noncomputable def SpAmong (S : FSpec) : Prop := ∀ (d : D) (lo hi : Int) (st : St) (Q : D → St → Prop) (X : XP), d.pln = true → Q (.bool (amongD lo hi d)) st → S [d, .int lo, .int hi] st Q X
noncomputable def t11 : Tb := tb [("thing", .local), ("least", .local), ("most", .local), ("isinstance", .globalImplicit), ("int", .globalImplicit), ("bool", .globalImplicit)] []
noncomputable abbrev b11 : List Stmt := bodyOf 11
theorem p11_0 : t11.pl "thing" = .loc 0 true false := rfl
theorem p11_1 : t11.pl "least" = .loc 1 true false := rfl
theorem p11_2 : t11.pl "most" = .loc 2 true false := rfl
theorem p11_3 : t11.pl "isinstance" = .gl (.blt (.val (.builtin "isinstance"))) := rfl
theorem p11_4 : t11.pl "int" = .gl (.blt (.val (.type "int"))) := rfl
theorem p11_5 : t11.pl "bool" = .gl (.cst (.val (.type "bool"))) := rfl
theorem q11 : t11.hq = false := rfl
theorem among_ok {Γ : Ctx} : SpAmong (wFn Γ 60 t11 3 b11) := by
  intro d lo hi st Q X hp hQ
  refine ⟨rfl, ?_⟩; show wSs Γ 60 t11 (b11.drop 0) [some (d), some (.int lo), some (.int hi), none, none, none] st _ _
  refine ss_at rfl ?_; dsimp only [f_name, f_boolop, f_un, f_cmp, f_call, f_nil, f_cons, f_b1, f_b2, f_c1, f_c2, f_ret, f_tr, wName, lk_s, lk_0, ev_s, pl_a, ns_c, ns_n, s1, nf, ta, cond_true, cond_false, x_not, p11_0, p11_1, p11_2, p11_3, p11_4, p11_5, q11]
  refine b_isi (ty_int hp) (tr_of (and_b (fun h => fin_k ?_) fun h => ?_))
  · cases d <;> first | exact hQ | exact tf h
  refine b_isi (ty_bool hp) (tr_of (tr_of (and_b (fun h' => fin_k ?_) fun h' => ?_)))
  · cases d <;> first | exact hQ | exact ft h | exact tf h'
  cases d with
  | int i =>
    dsimp only [q_le]
    have hQ : Q (.bool (decide (lo ≤ i) && decide (i ≤ hi))) st := hQ
    refine ite_b (fun h => fin_k ?_) fun h => fin_k ?_
    · rw [h] at hQ; exact hQ
    · rw [h] at hQ; exact hQ
  | bool i => exact ft h'
  | _ => exact ft h
noncomputable def t24 : Tb := tb [("_law_thing", .local), ("isinstance", .globalImplicit), ("int", .globalImplicit), ("bool", .globalImplicit)] []
end Mine
end

section
set_option autoImplicit false
set_option linter.unusedVariables false
set_option linter.unusedSimpArgs false
set_option maxRecDepth 100000
namespace Mine
open PySem
noncomputable def numsD (m : Nat) : D → Bool
  | .tup ns => ns.length == m && ns.all (amongD (-9) 9)
  | _ => false
noncomputable def sumD (m : Nat) : D → Bool
  | .tup (a :: b :: []) => numsD m a && amongD (-99) 99 b
  | _ => false
theorem sumD_len {m : Nat} {xs : List D} (h : ((xs.length : Int) == 2) = false) : sumD m (.tup xs) = false := by
  match xs, h with
  | [], _ => rfl
  | [_], _ => rfl
  | [_, _], h => exact tf h
  | _ :: _ :: _ :: _, _ => rfl
theorem len2 {xs : List D} (h : ((xs.length : Int) == 2) = true) : ∃ a b, xs = [a, b] := by
  match xs, h with
  | [_, _], _ => exact ⟨_, _, rfl⟩
  | [], h => exact ft h
  | [_], h => exact ft h
  | _ :: _ :: _ :: _, h => exact absurd (eq_of_beq h) (by simp only [List.length_cons]; omega)
noncomputable def SpSum (S : FSpec) : Prop := ∀ (d : D) (m : Nat) (st : St) (Q : D → St → Prop) (X : XP), d.pln = true → Q (.bool (sumD m d)) st → S [d, .int m] st Q X
noncomputable def t12 : Tb := tb [("thing", .local), ("many", .local), ("number", .local), ("isinstance", .globalImplicit), ("tuple", .globalImplicit), ("len", .globalImplicit), ("is_among", .globalImplicit)] []
noncomputable abbrev b12 : List Stmt := bodyOf 12
theorem p12_0 : t12.pl "thing" = .loc 0 true false := rfl
theorem p12_1 : t12.pl "many" = .loc 1 true false := rfl
theorem p12_2 : t12.pl "number" = .loc 2 true false := rfl
theorem p12_3 : t12.pl "isinstance" = .gl (.blt (.val (.builtin "isinstance"))) := rfl
theorem p12_4 : t12.pl "tuple" = .gl (.blt (.val (.type "tuple"))) := rfl
theorem p12_5 : t12.pl "len" = .gl (.blt (.val (.builtin "len"))) := rfl
theorem p12_6 : t12.pl "is_among" = .gl (.fn) := rfl
theorem q12 : t12.hq = false := rfl
theorem sum_ok {Γ : Ctx} (hA : Has Γ "is_among" SpAmong) : SpSum (wFn Γ 60 t12 2 b12) := by
  intro d m st Q X hp hQ
  obtain ⟨S, hS, hS'⟩ := hA
  refine ⟨rfl, ?_⟩; show wSs Γ 60 t12 (b12.drop 0) [some (d), some (.int m), none, none, none, none, none] st _ _
  refine ss_at rfl ?_; dsimp only [f_bool, f_int, f_name, f_call, f_nil, f_cons, f_c1, f_not, f_tb, f_tc, f_tcall, f_an, f_ac, f_if, f_ret, f_ssn, f_ss, f_tn, f_tr, wName, lk_0, ev_s, pl_a, ns_c, ns_n, s1, nf, ta, cond_true, cond_false, p12_0, p12_3, p12_4, p12_5, q12]
  refine b_isi (ty_tup hp) (tr_of ?_)
  refine or_tn (fun h => fin_k ?_) fun h => ?_
  · cases d <;> first | exact hQ | exact tf h
  obtain ⟨xs, rfl⟩ := tu_inv h
  refine b_len rfl (pln_tup.mp hp).1 ?_
  dsimp only [q_ne]
  refine or_ln (fun h => fin_k ?_) fun h => ?_
  · rw [sumD_len h] at hQ; exact hQ
  obtain ⟨a, b, rfl⟩ := len2 h
  have hp' := (pln_tup.mp hp).2
  have ha := hp' a (.head _)
  have hb := hp' b (.tail _ (.head _))
  refine ss_at rfl ?_; dsimp only [f_bool, f_int, f_name, f_call, f_nil, f_cons, f_c1, f_not, f_tb, f_tc, f_tcall, f_an, f_ac, f_if, f_ret, f_ssn, f_ss, f_itemC, f_tn, f_tr, wName, lk_s, lk_0, ev_s, pl_a, ns_c, ns_n, s1, s6, nf, ta, cond_true, cond_false, p12_0, p12_1, p12_3, p12_4, p12_5, q12]
  refine it_0 ?_
  refine b_isi (ty_tup ha) (tr_of ?_)
  refine or_tn (fun h => fin_k ?_) fun h => ?_
  · cases a <;> first | exact hQ | exact tf h
  obtain ⟨ns, rfl⟩ := tu_inv h
  have hn := pln_tup.mp ha
  refine it_0 (b_len rfl hn.1 ?_)
  dsimp only [q_ne]
  have hQ : Q (.bool ((ns.length == m && ns.all (amongD (-9) 9)) && amongD (-99) 99 b)) st := hQ
  refine or_ln (fun h => fin_k ?_) fun h => ?_
  · rw [show (ns.length == m) = false from beq_false_of_ne fun z => by rw [z, beq_self_eq_true] at h; exact Bool.noConfusion h] at hQ; exact hQ
  rw [show (ns.length == m) = true from beq_iff_eq.mpr (Int.ofNat_inj.mp (eq_of_beq h)), Bool.true_and] at hQ
  refine ss_at rfl ?_; dsimp only [f_bool, f_int, f_name, f_un, f_call, f_nil, f_cons, f_not, f_tcall, f_if, f_for, f_ret, f_ssn, f_ss, f_itemC, f_isb, f_tn, f_tr, wName, lk_0, ev_s, pl_a, ns_c, ns_n, s1, s2, s5, nf, ta, cond_true, cond_false, x_neg, f_tgN, setN, p12_0, p12_2, p12_6, q12]
  refine it_0 (wi_tup ⟨hn.1, ?_⟩)
  dsimp only [hide_no, back_no]
  refine (fun hs : ∀ ks : List D, (∀ d ∈ ks, d.pln = true) → Q (.bool (ks.all (amongD (-9) 9) && amongD (-99) 99 b)) st → ∀ o : Option D, wFor _ ks [some (.tup [.tup ns, b]), some (.int m), o, none, none, none, none] st _ => hs ns hn.2 hQ none) ?_
  intro ks
  induction ks with
  | nil =>
    intro _ hQ o
    dsimp only [f_tn, wf_n]
    refine ss_at rfl ?_; dsimp only [f_int, f_name, f_un, f_call, f_nil, f_cons, f_ret, f_itemC, f_tr, wName, lk_0, ev_s, pl_a, ns_c, ns_n, s2, s5, s6, nf, ta, cond_true, cond_false, x_neg, p12_0, p12_6, q12]
    refine it_1 ?_
    exact ⟨S, hS, hS' _ _ _ _ _ _ hb (fin_k hQ)⟩
  | cons x r ih =>
    intro hp hQ o
    dsimp only [f_tr, lk_s, lk_0, se_s, se_0, ev_s, wf_c, nf_n, nf_r]
    refine ⟨S, hS, hS' _ _ _ _ _ _ (hp x (.head _)) (tr_of (ite_n (fun h => ?_) fun h => ?_))⟩
    · skip
      refine fin_k ?_
      rw [List.all_cons, h] at hQ; exact hQ
    · skip
      rw [List.all_cons, h] at hQ
      exact ih (fun d hd => hp d (.tail _ hd)) hQ _
noncomputable def wordsD (m : Nat) : D → Bool
  | .tup ws => decide (ws.length ≤ 3) && ws.all (sumD m)
  | _ => false
noncomputable def SpWords (S : FSpec) : Prop := ∀ (d : D) (m : Nat) (st : St) (Q : D → St → Prop) (X : XP), d.pln = true → Q (.bool (wordsD m d)) st → S [d, .int m] st Q X
noncomputable def t13 : Tb := tb [("things", .local), ("many", .local), ("thing", .local), ("isinstance", .globalImplicit), ("tuple", .globalImplicit), ("len", .globalImplicit), ("MOST_WORDS", .globalImplicit), ("is_sum", .globalImplicit)] []
noncomputable abbrev b13 : List Stmt := bodyOf 13
theorem p13_0 : t13.pl "things" = .loc 0 true false := rfl
theorem p13_1 : t13.pl "many" = .loc 1 true false := rfl
theorem p13_2 : t13.pl "thing" = .loc 2 true false := rfl
theorem p13_3 : t13.pl "isinstance" = .gl (.blt (.val (.builtin "isinstance"))) := rfl
theorem p13_4 : t13.pl "tuple" = .gl (.blt (.val (.type "tuple"))) := rfl
theorem p13_5 : t13.pl "len" = .gl (.blt (.val (.builtin "len"))) := rfl
theorem p13_6 : t13.pl "MOST_WORDS" = .gl (.cst (.int 3)) := rfl
theorem p13_7 : t13.pl "is_sum" = .gl (.fn) := rfl
theorem q13 : t13.hq = false := rfl
theorem words_ok {Γ : Ctx} (hA : Has Γ "is_sum" SpSum) : SpWords (wFn Γ 60 t13 2 b13) := by
  intro d m st Q X hp hQ
  obtain ⟨S, hS, hS'⟩ := hA
  refine ⟨rfl, ?_⟩; show wSs Γ 60 t13 (b13.drop 0) [some (d), some (.int m), none, none, none, none, none, none] st _ _
  refine ss_at rfl ?_; dsimp only [f_bool, f_name, f_call, f_nil, f_cons, f_c1, f_not, f_tb, f_tc, f_tcall, f_an, f_ac, f_if, f_ret, f_ssn, f_ss, f_tn, f_tr, wName, lk_0, ev_s, pl_a, ns_c, ns_n, s1, nf, ta, cond_true, cond_false, p13_0, p13_3, p13_4, p13_5, p13_6, q13]
  refine b_isi (ty_tup hp) (tr_of ?_)
  refine or_tn (fun h => fin_k ?_) fun h => ?_
  · cases d <;> first | exact hQ | exact tf h
  obtain ⟨xs, rfl⟩ := tu_inv h
  have hn := pln_tup.mp hp
  refine b_len rfl hn.1 ?_
  dsimp only [q_gt]
  have hQ : Q (.bool (decide (xs.length ≤ 3) && xs.all (sumD m))) st := hQ
  refine or_l (fun h => fin_k ?_) fun h => ?_
  · rw [show decide (xs.length ≤ 3) = false from decide_eq_false (by have := of_decide_eq_true h; omega)] at hQ; exact hQ
  rw [show decide (xs.length ≤ 3) = true from decide_eq_true (by have := of_decide_eq_false h; omega), Bool.true_and] at hQ
  refine ss_at rfl ?_; dsimp only [f_bool, f_name, f_call, f_nil, f_cons, f_not, f_tcall, f_if, f_for, f_ret, f_ssn, f_ss, f_inm, f_tn, f_tr, wName, lk_0, ev_s, pl_a, ns_c, ns_n, s1, nf, ta, cond_true, cond_false, f_tgN, setN, p13_0, p13_1, p13_2, p13_7, q13]
  refine wi_tup ⟨hn.1, ?_⟩
  dsimp only [hide_no, back_no]
  refine (fun hs : ∀ ks : List D, (∀ d ∈ ks, d.pln = true) → Q (.bool (ks.all (sumD m))) st → ∀ o : Option D, wFor _ ks [some (.tup xs), some (.int m), o, none, none, none, none, none] st _ => hs xs hn.2 hQ none) ?_
  intro ks
  induction ks with
  | nil =>
    intro _ hQ o
    dsimp only [f_tn, wf_n]
    refine ss_at rfl ?_; dsimp only [f_bool, f_ret, f_tr]
    exact fin_k hQ
  | cons x r ih =>
    intro hp hQ o
    dsimp only [f_tr, lk_s, lk_0, se_s, se_0, ev_s, wf_c, nf_n, nf_r]
    refine ⟨S, hS, hS' _ _ _ _ _ (hp x (.head _)) (tr_of (ite_n (fun h => ?_) fun h => ?_))⟩
    · skip
      refine fin_k ?_
      rw [List.all_cons, h] at hQ; exact hQ
    · skip
      rw [List.all_cons, h] at hQ
      exact ih (fun d hd => hp d (.tail _ hd)) hQ _
/-- well made stores -/
noncomputable def WfSt (st : St) : Prop := ∀ n c, st.cs n = some c → n < st.hi ∧ c.undr st.hi = true
theorem cut_wf {st : St} (h : WfSt st) : st.cut st.hi = st := by
  unfold St.cut
  congr 1
  funext n
  cases e : st.cs n with
  | none => simp
  | some c =>
    have := h n c e
    simp [this.1, this.2]
noncomputable def SpNeed (CB : Value) (S : FSpec) : Prop := ∀ (b : Bool) (st : St) (Q : D → St → Prop) (X : XP), WfSt st → (if b then Q .none st else X CB st) → S [.bool b] st Q X
noncomputable def t14 : Tb := tb [("holds", .local), ("BadProgram", .globalImplicit)] []
noncomputable abbrev b14 : List Stmt := bodyOf 14
theorem p14_0 : t14.pl "holds" = .loc 0 true false := rfl
theorem p14_1 : t14.pl "BadProgram" = .gl (.dyn) := rfl
theorem q14 : t14.hq = false := rfl
theorem need_ok {Γ : Ctx} {CB : Value} (hg : Γ.gl "BadProgram" = some (.val CB)) (hx : Γ.ex CB = true) : SpNeed CB (wFn Γ 60 t14 1 b14) := by
  intro b st Q X hw hQ
  refine ⟨rfl, ?_⟩; show wSs Γ 60 t14 (b14.drop 0) [some (.bool b), none] st _ _
  refine ss_at rfl ?_; dsimp only [f_name, f_not, f_tname, f_if, f_raise, f_ssn, f_ss, f_tn, wName, lk_0, ev_s, cond_false, p14_0, p14_1, q14]
  refine tr_of (ite_n (fun h => ?_) fun h => ?_)
  · subst h
    refine ⟨CB, hg, hx, ?_⟩
    rw [cut_wf hw]; exact hQ
  · subst h
    exact ss_end rfl (.inl hQ)
end Mine
end

section
set_option autoImplicit false
set_option linter.unusedVariables false
set_option linter.unusedSimpArgs false
set_option maxRecDepth 100000
namespace Mine
open PySem
noncomputable def plus (a : Nat) : Option Nat → Option Nat := Option.map (a + ·)
noncomputable def plusO (o p : Option Nat) : Option Nat := o.bind fun a => plus a p
noncomputable def at_ (r : List D) (k : Nat) : D := r.getD k .none
noncomputable def putR (m : Nat) (r : List D) : Option Nat := bif (r.length : Int) == 3 && (amongD 0 (m - 1) (at_ r 1) && sumD m (at_ r 2)) then some 1 else none
noncomputable def sayR (m : Nat) (r : List D) : Option Nat := bif (r.length : Int) == 2 && sumD m (at_ r 1) then some 1 else none
noncomputable def nodeR (m : Nat) (inner : D → Option Nat) (w : Str) (r : List D) : Option Nat :=
  bif (r.length : Int) == 4 && ((w == "if" || w == "loop") && sumD m (at_ r 1)) then (bif w == "if" then plusO (plus 1 (inner (at_ r 2))) (inner (at_ r 3)) else bif wordsD m (at_ r 2) then plus 1 (inner (at_ r 3)) else none) else none
noncomputable def rowS (m : Nat) (inner : D → Option Nat) (w : Str) (r : List D) : Option Nat := bif w == "put" then putR m r else bif w == "say" then sayR m r else nodeR m inner w r
noncomputable def rowL (m : Nat) (inner : D → Option Nat) (r : List D) : D → Option Nat
  | .str w => rowS m inner w r
  | _ => none
noncomputable def rowB (m : Nat) (inner : D → Option Nat) : D → Option Nat
  | .tup r => rowL m inner r (at_ r 0)
  | _ => none
noncomputable def sumO (f : D → Option Nat) : List D → Option Nat
  | [] => some 0
  | d :: ds => plusO (f d) (sumO f ds)
noncomputable def listB (f : D → Option Nat) : D → Option Nat
  | .tup ds => if decide (ds.length ≤ 12) then sumO f ds else none
  | _ => none
noncomputable def rowD (m : Nat) : Nat → D → Option Nat
  | 0 => rowB m fun _ => none
  | g + 1 => rowB m (listB (rowD m g))
theorem rowB_t {m : Nat} {f : D → Option Nat} {r : List D} : rowB m f (.tup r) = rowL m f r (at_ r 0) := rfl
theorem listB_t {f : D → Option Nat} {ds : List D} : listB f (.tup ds) = if decide (ds.length ≤ 12) = true then sumO f ds else none := rfl
theorem sumO_cc {f : D → Option Nat} {d : D} {ds : List D} : sumO f (d :: ds) = plusO (f d) (sumO f ds) := rfl
/-- how a counting call ends -/
noncomputable def ends (Q : D → St → Prop) (X : XP) (CB : Value) (st : St) : Option Nat → Prop
  | some n => Q (.int n) st
  | none => X CB st
noncomputable def SpCount (CB : Value) (f : Nat → D → Option Nat) (deep : Int) (S : FSpec) : Prop := ∀ (m : Nat) (d : D) (st : St) (Q : D → St → Prop) (X : XP), d.pln = true → WfSt st → ends Q X CB st (f m d) → S [d, .int m, .int deep] st Q X
theorem needF {CB : Value} {S : FSpec} {b : Bool} {st : St} {Q : D → St → Prop} {X : XP} (h : SpNeed CB S) (hb : b = false) (hw : WfSt st) (hX : X CB st) : S [.bool b] st Q X := h b st Q X hw (by subst hb; exact hX)
theorem needT {CB : Value} {S : FSpec} {b : Bool} {st : St} {Q : D → St → Prop} {X : XP} (h : SpNeed CB S) (hb : b = true) (hw : WfSt st) (hX : Q .none st) : S [.bool b] st Q X := h b st Q X hw (by subst hb; exact hX)
theorem st_inv {d : D} (h : isS d = true) : ∃ w, d = .str w := by
  cases d with
  | str ds => exact ⟨ds, rfl⟩
  | _ => exact ft h
theorem en_s {Q : D → St → Prop} {X : XP} {CB : Value} {st : St} {n : Nat} : ends Q X CB st (some n) = Q (.int n) st := rfl
theorem py_str {st : St} {w : Str} (h : PyData.strOk w = true) : pyD st 3 (.str w) = some (.str w) := if_pos h
theorem py_ifl {st : St} : List.mapM (pyD st 3) [D.str "if", D.str "loop"] = some [.str "if", .str "loop"] := by
  rw [List.mapM_cons, List.mapM_cons, List.mapM_nil, py_str (by decide +kernel), py_str (by decide +kernel)]; rfl
theorem q_in2 {w : Str} {st : St} {k : Bool → Prop} (h : PyData.strOk w = true) (hk : k (w == "if" || w == "loop")) : wCmp1 .In (.str w) (.tup [.str "if", .str "loop"]) st k := by
  refine ⟨_, .str w, [.str "if", .str "loop"], rfl, if_pos h, py_ifl, by simp [PyData.depth], ?_⟩
  have e : ([PyData.str "if", .str "loop"].any fun y => PyData.eqv y (.str w)) = (w == "if" || w == "loop") := by
    show (("if" == w) || (("loop" == w) || false)) = _
    rw [Bool.or_false, Bool.beq_comm (a := w), Bool.beq_comm (a := w)]
  rw [e]; exact hk
theorem c_pos {n : Nat} (h : decide ((n : Int) > 0) = true) : 0 < n := by have := of_decide_eq_true h; omega
theorem it_k {xs : List D} {k : Nat} {st : St} {Q : D → St → Prop} (i : Int) (hi : i = (k : Int)) (hk : k < xs.length) (hl : xs.length ≤ lim) (h : Q (at_ xs k) st) : wItem (.tup xs) (.int i) st Q := by
  refine it_nn rfl hi hl (x := at_ xs k) ?_ h
  rw [at_, List.getD_eq_getElem?_getD, List.getElem?_eq_getElem hk]; rfl
theorem pl_at {xs : List D} (k : Nat) (h : ∀ d ∈ xs, d.pln = true) : (at_ xs k).pln = true := by
  rw [at_, List.getD_eq_getElem?_getD]
  cases e : xs[k]? with
  | none => rfl
  | some x => exact h x (List.mem_of_getElem? e)
theorem rowB_no {m : Nat} {f : D → Option Nat} {xs : List D} (h : isS (at_ xs 0) = false) : rowB m f (.tup xs) = none := by
  rw [rowB_t]
  cases e : at_ xs 0 with
  | str w => rw [e] at h; exact tf h
  | _ => rfl
theorem rowB_nt {m : Nat} {f : D → Option Nat} {d : D} (h : isTu d = false) : rowB m f d = none := by
  cases d with
  | tup ds => exact tf h
  | _ => rfl
theorem rowB_s {m : Nat} {f : D → Option Nat} {xs : List D} {w : Str} (h : at_ xs 0 = .str w) : rowB m f (.tup xs) = rowS m f w xs := by
  rw [rowB_t, h]; rfl
theorem lenE {n : Nat} {k : Nat} (h : ((n : Int) == (k : Int)) = true) : n = k := Int.ofNat_inj.mp (eq_of_beq h)
section
variable {Q : D → St → Prop} {X : XP} {CB : Value} {st : St}
theorem en_n {o : Option Nat} (h : ends Q X CB st o) (ho : o = none) : X CB st := by subst ho; exact h
theorem en_c {c : Bool} {o : Option Nat} (h : ends Q X CB st (bif c then o else none)) : (c = false → X CB st) ∧ (c = true → ends Q X CB st o) := by
  cases c with
  | true => exact ⟨fun z => tf z, fun _ => h⟩
  | false => exact ⟨fun _ => h, fun z => ft z⟩
theorem en_a {a b : Bool} {o : Option Nat} (h : ends Q X CB st (bif a && b then o else none)) : (a = false → X CB st) ∧ (a = true → ends Q X CB st (bif b then o else none)) := by
  cases a with
  | true => exact ⟨fun z => tf z, fun _ => h⟩
  | false => exact ⟨fun _ => h, fun z => ft z⟩
theorem en_i {c : Bool} {o p : Option Nat} (h : ends Q X CB st (bif c then o else p)) : (c = true → ends Q X CB st o) ∧ (c = false → ends Q X CB st p) := by
  cases c with
  | true => exact ⟨fun _ => h, fun z => tf z⟩
  | false => exact ⟨fun z => ft z, fun _ => h⟩
theorem en_m {o : Option Nat} {g : Nat → Nat} (h : ends Q X CB st (o.map g)) : ends (fun d st' => ∀ n : Nat, d = .int n → Q (.int (g n : Nat)) st') X CB st o := by
  cases o with
  | none => exact h
  | some n => intro k hk; cases hk; exact h
theorem en_w {Q' : D → St → Prop} {X' : XP} {o : Option Nat} (h : ends Q X CB st o) (hq : ∀ n : Nat, o = some n → Q (.int n) st → Q' (.int n) st) (hx : X CB st → X' CB st) : ends Q' X' CB st o := by
  cases o with
  | none => exact hx h
  | some n => exact hq n rfl h
theorem nd {S : FSpec} {b : Bool} (h : SpNeed CB S) (hw : WfSt st) (h1 : b = false → X CB st) (h2 : b = true → Q .none st) : S [.bool b] st Q X := h b st Q X hw (by
  cases b with
  | true => exact h2 rfl
  | false => exact h1 rfl)
end
noncomputable def t15 : Tb := tb [("row", .local), ("many", .local), ("deep", .local), ("need", .globalImplicit), ("isinstance", .globalImplicit), ("tuple", .globalImplicit), ("len", .globalImplicit), ("str", .globalImplicit), ("is_among", .globalImplicit), ("is_sum", .globalImplicit), ("MOST_DEEP", .globalImplicit), ("counted_rows", .globalImplicit), ("are_words", .globalImplicit)] []
noncomputable abbrev b15 : List Stmt := bodyOf 15
theorem p15_0 : t15.pl "row" = .loc 0 true false := rfl
theorem p15_1 : t15.pl "many" = .loc 1 true false := rfl
theorem p15_2 : t15.pl "deep" = .loc 2 true false := rfl
theorem p15_3 : t15.pl "need" = .gl (.fn) := rfl
theorem p15_4 : t15.pl "isinstance" = .gl (.blt (.val (.builtin "isinstance"))) := rfl
theorem p15_5 : t15.pl "tuple" = .gl (.blt (.val (.type "tuple"))) := rfl
theorem p15_6 : t15.pl "len" = .gl (.blt (.val (.builtin "len"))) := rfl
theorem p15_7 : t15.pl "str" = .gl (.cst (.val (.type "str"))) := rfl
theorem p15_8 : t15.pl "is_among" = .gl (.fn) := rfl
theorem p15_9 : t15.pl "is_sum" = .gl (.fn) := rfl
theorem p15_10 : t15.pl "MOST_DEEP" = .gl (.cst (.int 3)) := rfl
theorem p15_11 : t15.pl "counted_rows" = .gl (.fn) := rfl
theorem p15_12 : t15.pl "are_words" = .gl (.fn) := rfl
theorem q15 : t15.hq = false := rfl
theorem row_ok {Γ : Ctx} {CB : Value} {f : Nat → D → Option Nat} {deep : Int} (hN : Has Γ "need" (SpNeed CB)) (hA : Has Γ "is_among" SpAmong) (hU : Has Γ "is_sum" SpSum) (hW : Has Γ "are_words" SpWords)
    (hR : deep < 3 → Has Γ "counted_rows" (SpCount CB f (deep + 1))) (hR' : ¬ deep < 3 → ∀ m d, f m d = none) : SpCount CB (fun m => rowB m (f m)) deep (wFn Γ 60 t15 3 b15) := by
  intro m d st Q X hp hw hQ
  obtain ⟨N, hN, hN'⟩ := hN
  obtain ⟨A, hA, hA'⟩ := hA
  obtain ⟨U, hU, hU'⟩ := hU
  obtain ⟨W, hW, hW'⟩ := hW
  have hQ : ends Q X CB st (rowB m (f m) d) := hQ
  have hX : X CB st → X CB (st.cut st.hi) := fun z => by rw [cut_wf hw]; exact z
  refine ⟨rfl, ?_⟩; show wSs Γ 60 t15 (b15.drop 0) [some (d), some (.int m), some (.int deep), none, none, none, none, none, none, none, none, none, none] st _ _
  refine ss_at rfl ?_; dsimp only [f_int, f_name, f_boolop, f_cmp, f_call, f_nil, f_cons, f_b1, f_b2, f_c1, f_expr, f_itemC, f_tn, wName, lk_0, ev_s, pl_a, ns_c, ns_n, s1, s6, s10, c1, nf, ta, cond_true, cond_false, p15_0, p15_3, p15_4, p15_5, p15_6, p15_7, q15]
  refine b_isi (ty_tup hp) (tr_of (and_b (fun h => ⟨N, hN, needF hN' h hw (hX (en_n hQ (rowB_nt h)))⟩) fun h => ?_))
  obtain ⟨xs, rfl⟩ := tu_inv h
  have hn := pln_tup.mp hp
  refine b_len rfl hn.1 ?_
  dsimp only [q_gt]
  refine tr_of (and_b (fun h => ⟨N, hN, needF hN' h hw (hX (en_n hQ (rowB_no ?_)))⟩) fun h => it_k (k := 0) 0 rfl (c_pos h) hn.1 ?_)
  · have h1 := of_decide_eq_false h
    rw [List.eq_nil_of_length_eq_zero (by omega : xs.length = 0)]; rfl
  refine b_isi (ty_str (pl_at 0 hn.2)) ⟨N, hN, nd hN' hw (fun h => hX (en_n hQ (rowB_no h))) fun hs => ?_⟩
  obtain ⟨w, hw1⟩ := st_inv hs
  have hw2 : PyData.strOk w = true := by have := pl_at 0 hn.2; rw [hw1] at this; exact this
  rw [rowB_s hw1] at hQ
  have hQ := en_i hQ
  refine ss_at rfl ?_; dsimp only [f_int, f_str, f_name, f_boolop, f_bin, f_cmp, f_call, f_nil, f_cons, f_b1, f_b2, f_c1, f_tc, f_expr, f_if, f_ret, f_ssn, f_ss, f_itemC, f_tn, f_tr, wName, lk_s, lk_0, ev_s, pl_a, ns_c, ns_n, s1, s2, s4, s6, s10, c1, nf, ta, cond_true, cond_false, x_sub, p15_0, p15_1, p15_3, p15_6, p15_8, p15_9, q15]
  refine it_k (k := 0) 0 rfl (c_pos h) hn.1 ?_
  rw [hw1]
  dsimp only [q_seq]
  refine ite_b (fun e => ?_) fun e => ?_
  · have hQ := en_a (hQ.1 e)
    refine b_len rfl hn.1 ?_
    dsimp only [q_eq]
    refine tr_of (and_b (fun h => ⟨N, hN, needF hN' h hw (hX (hQ.1 h))⟩) fun h => it_k (k := 1) 1 rfl (by have := lenE (k := 3) h; omega) hn.1 ?_)
    have hQ := en_a (hQ.2 h)
    refine ⟨A, hA, hA' _ _ _ _ _ _ (pl_at 1 hn.2) (tr_of (and_b (fun h => ⟨N, hN, needF hN' h hw (hX (hQ.1 h))⟩) fun h' => it_k (k := 2) 2 rfl (by have := lenE (k := 3) h; omega) hn.1 ?_))⟩
    have hQ := en_c (hQ.2 h')
    exact ⟨U, hU, hU' _ _ _ _ _ (pl_at 2 hn.2) ⟨N, hN, nd hN' hw (fun h => hX (hQ.1 h)) fun h => fin_k (hQ.2 h)⟩⟩
  have hQ := en_i (hQ.2 e)
  refine ss_at rfl ?_; dsimp only [f_int, f_str, f_name, f_boolop, f_cmp, f_call, f_nil, f_cons, f_b1, f_b2, f_c1, f_tc, f_expr, f_if, f_ret, f_ssn, f_ss, f_itemC, f_tn, f_tr, wName, lk_s, lk_0, ev_s, pl_a, ns_c, ns_n, s1, s6, s10, c1, nf, ta, cond_true, cond_false, p15_0, p15_1, p15_3, p15_6, p15_9, q15]
  refine it_k (k := 0) 0 rfl (c_pos h) hn.1 ?_
  rw [hw1]
  dsimp only [q_seq]
  refine ite_b (fun e => ?_) fun e => ?_
  · have hQ := en_a (hQ.1 e)
    refine b_len rfl hn.1 ?_
    dsimp only [q_eq]
    refine tr_of (and_b (fun h => ⟨N, hN, needF hN' h hw (hX (hQ.1 h))⟩) fun h => it_k (k := 1) 1 rfl (by have := lenE (k := 2) h; omega) hn.1 ?_)
    have hQ := en_c (hQ.2 h)
    exact ⟨U, hU, hU' _ _ _ _ _ (pl_at 1 hn.2) ⟨N, hN, nd hN' hw (fun h => hX (hQ.1 h)) fun h => fin_k (hQ.2 h)⟩⟩
  have hQ := en_a (hQ.2 e)
  refine ss_at rfl ?_; dsimp only [f_int, f_str, f_name, f_boolop, f_cmp, f_call, f_tup, f_nil, f_cons, f_b1, f_b2, f_c1, f_expr, f_itemC, f_tn, wName, lk_s, lk_0, ev_s, pl_a, ns_c, ns_n, s1, s6, s10, c1, nf, ta, cond_true, cond_false, q_lt, p15_0, p15_1, p15_2, p15_3, p15_6, p15_9, p15_10, q15]
  refine b_len rfl hn.1 ?_
  dsimp only [q_eq]
  refine tr_of (and_b (fun h => ⟨N, hN, needF hN' h hw (hX (hQ.1 h))⟩) fun h4 => it_k (k := 0) 0 rfl (c_pos h) hn.1 ?_)
  have hl := lenE (k := 4) h4
  have hQ := en_a (hQ.2 h4)
  rw [hw1]
  refine ⟨by decide, q_in2 hw2 (tr_of (and_b (fun h => ⟨N, hN, needF hN' h hw (hX (hQ.1 h))⟩) fun h => it_k (k := 1) 1 rfl (by omega) hn.1 ?_))⟩
  have hQ := en_c (hQ.2 h)
  refine ⟨U, hU, hU' _ _ _ _ _ (pl_at 1 hn.2) (tr_of (and_b (fun h => ⟨N, hN, needF hN' h hw (hX (hQ.1 h))⟩) fun hs => ⟨N, hN, ?_⟩))⟩
  have hQ := en_i (hQ.2 hs)
  refine nd hN' hw (fun hd => hX ?_) fun hd => ?_
  · have hf := hR' (of_decide_eq_false hd) m
    rw [hf, hf] at hQ
    cases e : (w == "if") with
    | true => exact hQ.1 e
    | false => exact en_n (hQ.2 e) (by cases wordsD m (at_ xs 2) <;> rfl)
  obtain ⟨R, hR, hR''⟩ := hR (of_decide_eq_true hd)
  refine ss_at rfl ?_; dsimp only [f_int, f_str, f_name, f_bin, f_call, f_nil, f_cons, f_c1, f_tc, f_if, f_ret, f_ssn, f_ss, f_itemC, f_tn, f_tr, wName, lk_s, lk_0, ev_s, pl_a, ns_c, ns_n, s1, s4, s6, nf, ta, cond_true, cond_false, x_add, p15_0, p15_1, p15_2, p15_11, q15]
  refine it_k (k := 0) 0 rfl (by omega) hn.1 ?_
  rw [hw1]
  dsimp only [q_seq]
  refine ite_b (fun e3 => it_k (k := 2) 2 rfl (by omega) hn.1 ?_) fun e3 => ?_
  · have hQ := hQ.1 e3
    refine ⟨R, hR, hR'' _ _ _ _ _ (pl_at 2 hn.2) hw ?_⟩
    cases ha : f m (at_ xs 2) with
    | none => rw [ha] at hQ; exact hX hQ
    | some x =>
      rw [ha] at hQ
      have hQ := en_m (g := ((1 + x) + ·)) hQ
      dsimp only [x_add, en_s]
      refine it_k (k := 3) 3 rfl (by omega) hn.1 ?_
      refine ⟨R, hR, hR'' _ _ _ _ _ (pl_at 3 hn.2) hw (en_w hQ (fun y _ h => ?_) hX)⟩
      dsimp only [x_add]
      exact fin_k (h y rfl)
  have hQ := en_c (hQ.2 e3)
  refine ss_at rfl ?_; dsimp only [f_int, f_name, f_call, f_nil, f_cons, f_expr, f_itemC, f_tn, wName, lk_s, lk_0, ev_s, pl_a, ns_c, ns_n, s1, s3, s6, c1, nf, ta, cond_true, cond_false, p15_0, p15_1, p15_3, p15_12, q15]
  refine it_k (k := 2) 2 rfl (by omega) hn.1 ?_
  refine ⟨W, hW, hW' _ _ _ _ _ (pl_at 2 hn.2) ⟨N, hN, nd hN' hw (fun h => hX (hQ.1 h)) fun h => ?_⟩⟩
  have hQ := en_m (g := (1 + ·)) (hQ.2 h)
  refine ss_at rfl ?_; dsimp only [f_int, f_name, f_bin, f_call, f_nil, f_cons, f_ret, f_itemC, f_tr, wName, lk_s, lk_0, ev_s, pl_a, ns_c, ns_n, s1, s4, s6, nf, ta, cond_true, cond_false, x_add, p15_0, p15_1, p15_2, p15_11, q15]
  refine it_k (k := 3) 3 rfl (by omega) hn.1 ?_
  refine ⟨R, hR, hR'' _ _ _ _ _ (pl_at 3 hn.2) hw (en_w hQ (fun y _ h => ?_) hX)⟩
  dsimp only [x_add]
  exact fin_k (h y rfl)
noncomputable def t16 : Tb := tb [("rows", .local), ("many", .local), ("deep", .local), ("found", .local), ("row", .local), ("need", .globalImplicit), ("isinstance", .globalImplicit), ("tuple", .globalImplicit), ("len", .globalImplicit), ("MOST_ROWS", .globalImplicit), ("counted_row", .globalImplicit)] []
noncomputable abbrev b16 : List Stmt := bodyOf 16
theorem p16_0 : t16.pl "rows" = .loc 0 true false := rfl
theorem p16_1 : t16.pl "many" = .loc 1 true false := rfl
theorem p16_2 : t16.pl "deep" = .loc 2 true false := rfl
theorem p16_3 : t16.pl "found" = .loc 3 true false := rfl
theorem p16_4 : t16.pl "row" = .loc 4 true false := rfl
theorem p16_5 : t16.pl "need" = .gl (.fn) := rfl
theorem p16_6 : t16.pl "isinstance" = .gl (.blt (.val (.builtin "isinstance"))) := rfl
theorem p16_7 : t16.pl "tuple" = .gl (.blt (.val (.type "tuple"))) := rfl
theorem p16_8 : t16.pl "len" = .gl (.blt (.val (.builtin "len"))) := rfl
theorem p16_9 : t16.pl "MOST_ROWS" = .gl (.cst (.int 12)) := rfl
theorem p16_10 : t16.pl "counted_row" = .gl (.fn) := rfl
theorem q16 : t16.hq = false := rfl
theorem rows_ok {Γ : Ctx} {CB : Value} {f : Nat → D → Option Nat} {deep : Int} (hN : Has Γ "need" (SpNeed CB)) (hR : Has Γ "counted_row" (SpCount CB f deep)) : SpCount CB (fun m => listB (f m)) deep (wFn Γ 60 t16 3 b16) := by
  intro m d st Q X hp hw hQ
  obtain ⟨N, hN, hN'⟩ := hN
  obtain ⟨R, hR, hR'⟩ := hR
  have hQ : ends Q X CB st (listB (f m) d) := hQ
  have hX : X CB st → X CB (st.cut st.hi) := fun z => by rw [cut_wf hw]; exact z
  refine ⟨rfl, ?_⟩; show wSs Γ 60 t16 (b16.drop 0) [some (d), some (.int m), some (.int deep), none, none, none, none, none, none, none, none] st _ _
  refine ss_at rfl ?_; dsimp only [f_name, f_boolop, f_cmp, f_call, f_nil, f_cons, f_b1, f_b2, f_c1, f_expr, f_tn, wName, lk_0, ev_s, pl_a, ns_c, ns_n, s1, s10, c1, nf, ta, cond_true, cond_false, p16_0, p16_5, p16_6, p16_7, p16_8, p16_9, q16]
  refine b_isi (ty_tup hp) (tr_of (and_b (fun h => ⟨N, hN, needF hN' h hw (hX ?_)⟩) fun h => ?_))
  · cases d <;> first | exact hQ | exact tf h
  obtain ⟨xs, rfl⟩ := tu_inv h
  have hn := pln_tup.mp hp
  refine b_len rfl hn.1 ?_
  dsimp only [q_le]
  refine ⟨N, hN, ?_⟩
  rw [show decide ((xs.length : Int) ≤ 12) = decide (xs.length ≤ 12) from decide_eq_decide.mpr (by omega)]
  rw [listB_t] at hQ
  cases hd : decide (xs.length ≤ 12) with
  | false => rw [hd] at hQ; exact needF hN' rfl hw (hX hQ)
  | true =>
  rw [hd] at hQ
  have hQ : ends Q X CB st (sumO (f m) xs) := hQ
  refine needT hN' rfl hw ?_
  refine ss_at rfl ?_; dsimp only [f_int, f_asgN, f_tn, se_s, se_0, p16_3]
  refine ss_at rfl ?_; dsimp only [f_name, f_bin, f_call, f_nil, f_cons, f_asgN, f_for, f_ssn, f_ss, f_inm, f_tn, wName, lk_0, ev_s, pl_a, ns_c, ns_n, s1, nf, ta, cond_true, cond_false, f_tgN, setN, p16_0, p16_1, p16_2, p16_3, p16_4, p16_10, q16]
  refine wi_tup ⟨hn.1, ?_⟩
  dsimp only [hide_no, back_no]
  refine (fun hs : ∀ (ks : List D) (c : Nat), (∀ d ∈ ks, d.pln = true) → ends Q X CB st (plus c (sumO (f m) ks)) → ∀ o : Option D, wFor _ ks [some (.tup xs), some (.int m), some (.int deep), some (.int (c : Nat)), o, none, none, none, none, none, none] st _ => hs xs 0 hn.2 (by
    rw [show plus 0 (sumO (f m) xs) = sumO (f m) xs by cases sumO (f m) xs <;> simp [plus]]; exact hQ) none) ?_
  intro ks
  induction ks with
  | nil =>
    intro c _ hQ o
    dsimp only [f_tn, wf_n]
    refine ss_at rfl ?_; dsimp only [f_name, f_ret, f_tr, wName, lk_s, lk_0, ev_s, p16_3]
    exact fin_k hQ
  | cons x r ih =>
    intro c hp hQ o
    dsimp only [lk_s, lk_0, se_s, se_0, ev_s, wf_c, nf_n]
    refine ⟨R, hR, hR' _ _ _ _ _ (hp x (.head _)) hw ?_⟩
    rw [sumO_cc] at hQ
    cases hx : f m x with
    | none => rw [hx] at hQ; exact hX hQ
    | some y =>
      rw [hx] at hQ
      show wFor _ r _ _ _
      rw [show (c : Int) + (y : Int) = ((c + y : Nat) : Int) by omega]
      refine ih (c + y) (fun d hd => hp d (.tail _ hd)) ?_ _
      revert hQ
      show ends Q X CB st (plus c (plus y (sumO (f m) r))) → _
      cases sumO (f m) r with
      | none => exact id
      | some z => intro hQ; show ends Q X CB st (some (c + y + z)); rw [Nat.add_assoc]; exact hQ
end Mine
end

section
set_option autoImplicit false
set_option linter.unusedVariables false
set_option linter.unusedSimpArgs false
set_option maxRecDepth 100000
namespace Mine
open PySem
theorem undr_cc {hi : Nat} {d : D} {ds : List D} : undrAll hi (d :: ds) = (d.undr hi && undrAll hi ds) := rfl
noncomputable def lstC : Option Cell → Option (List D)
  | some (.list ds) => some ds
  | _ => none
theorem lst_c {st : St} {n : Nat} : lstD st (.loc n) = lstC (st.cs n) := rfl
theorem seq_c {st : St} {n : Nat} : seqD st (.loc n) = lstC (st.cs n) := rfl
noncomputable def objC (C : Value) : Option Cell → Option (Value × List (Str × D))
  | some (.ns es) => some (C, es)
  | _ => none
theorem obj_c {st : St} {C : Value} {n : Nat} : objAt st (.inst C n) = objC C (st.cs n) := rfl
mutual
theorem pln_undr {hi : Nat} : (d : D) → d.pln = true → d.undr hi = true
  | .tup ds, h => undrAll_pln ds (Bool.and_eq_true_iff.mp h).2
  | .list ds, h => undrAll_pln ds (Bool.and_eq_true_iff.mp h).2
  | .loc n, h => ft h
  | .inst _ n, h => ft h
  | .none, _ => rfl
  | .bool _, _ => rfl
  | .int _, _ => rfl
  | .str _, _ => rfl
  | .val _, _ => rfl
  | .exc _, _ => rfl
theorem undrAll_pln {hi : Nat} : (ds : List D) → plnAll ds = true → undrAll hi ds = true
  | [], _ => rfl
  | d :: ds, h => by
    have h := Bool.and_eq_true_iff.mp h
    rw [undr_cc, pln_undr d h.1, undrAll_pln ds h.2]; rfl
end
theorem frz_pln {hi k : Nat} {st : St} {d : D} (h : d.pln = true) : frz hi st k d = some d := by
  have hu := pln_undr (hi := hi) d h
  cases k with
  | zero => exact if_pos hu
  | succ k =>
    cases d with
    | tup ds => exact if_pos hu
    | list ds => exact if_pos hu
    | loc n => exact ft h
    | inst n => exact ft h
    | _ => rfl
structure Ext (st st' : St) : Prop where
  hi : st.hi ≤ st'.hi
  cs : ∀ k, k < st.hi → st'.cs k = st.cs k
  wf : WfSt st'
theorem Ext.refl {st : St} (h : WfSt st) : Ext st st := ⟨Nat.le_refl _, fun _ _ => rfl, h⟩
theorem Ext.trans {a b c : St} (h : Ext a b) (h' : Ext b c) : Ext a c := ⟨Nat.le_trans h.hi h'.hi, fun k hk => (h'.cs k (Nat.lt_of_lt_of_le hk h.hi)).trans (h.cs k hk), h'.wf⟩
theorem undr_up {a b : Nat} (h : a ≤ b) : ∀ d : D, d.undr a = true → d.undr b = true := by
  intro d
  refine D.rec (motive_1 := fun d => d.undr a = true → d.undr b = true) (motive_2 := fun ds => undrAll a ds = true → undrAll b ds = true) ?_ ?_ ?_ ?_ ?_ ?_ ?_ ?_ ?_ ?_ ?_ ?_ d
  · exact id
  · exact fun _ => id
  · exact fun _ => id
  · exact fun _ => id
  · exact fun _ z => z
  · exact fun _ z => z
  · intro n hn; exact decide_eq_true (Nat.lt_of_lt_of_le (of_decide_eq_true hn) h)
  · exact fun _ => id
  · exact fun _ => id
  · intro _ n hn; exact decide_eq_true (Nat.lt_of_lt_of_le (of_decide_eq_true hn) h)
  · exact id
  · intro d ds h1 h2 h3
    have h3 := Bool.and_eq_true_iff.mp h3
    rw [undr_cc, h1 h3.1, h2 h3.2]; rfl
theorem undrAll_iff {a : Nat} {ds : List D} : undrAll a ds = true ↔ ∀ d ∈ ds, d.undr a = true := by
  induction ds with
  | nil => exact ⟨fun _ _ h => absurd h (List.not_mem_nil), fun _ => rfl⟩
  | cons x r ih => rw [undr_cc, Bool.and_eq_true, ih, List.forall_mem_cons]
noncomputable def Cell.vals : Cell → List D
  | .list ds => ds
  | .dict es => es.map (·.2)
  | .ns es => es.map (·.2)
theorem undr_c {a : Nat} {c : Cell} : c.undr a = true ↔ ∀ d ∈ c.vals, d.undr a = true := by
  cases c <;> exact undrAll_iff
theorem ext_alloc {st : St} (h : WfSt st) {c : Cell} (hc : ∀ d ∈ c.vals, d.undr st.hi = true) : Ext st (st.alloc c) := by
  refine ⟨Nat.le_succ _, fun k hk => if_neg (Nat.ne_of_lt hk), fun n c' hn => ?_⟩
  have hn : (if n = st.hi then some c else st.cs n) = some c' := hn
  split at hn
  · next e =>
    cases hn
    exact ⟨by rw [e]; exact Nat.lt_succ_self _, undr_c.mpr fun d hd => undr_up (Nat.le_succ _) d (hc d hd)⟩
  · have := h n c' hn
    exact ⟨Nat.lt_succ_of_lt this.1, undr_c.mpr fun d hd => undr_up (Nat.le_succ _) d (undr_c.mp this.2 d hd)⟩
theorem wf_put {st : St} (h : WfSt st) {n : Nat} {c : Cell} (hn : n < st.hi) (hc : ∀ d ∈ c.vals, d.undr st.hi = true) : WfSt (st.put n c) := by
  intro k c' hk
  have hk : (if k = n then some c else st.cs k) = some c' := hk
  split at hk
  · next e => cases hk; exact ⟨by rw [e]; exact hn, undr_c.mpr hc⟩
  · exact h k c' hk
theorem ext_put {st st' : St} (h : Ext st st') {n : Nat} {c : Cell} (hl : st.hi ≤ n) (hn : n < st'.hi) (hc : ∀ d ∈ c.vals, d.undr st'.hi = true) : Ext st (st'.put n c) :=
  ⟨h.hi, fun k hk => (if_neg (Nat.ne_of_lt (Nat.lt_of_lt_of_le hk hl))).trans (h.cs k hk), wf_put h.wf hn hc⟩
theorem cut_ext {st st' : St} (h : WfSt st) (e : Ext st st') : st'.cut st.hi = st := by
  refine Eq.trans ?_ (cut_wf h)
  unfold St.cut
  congr 1
  funext n
  by_cases hn : n < st.hi
  · rw [if_pos hn, if_pos hn, e.cs n hn]
  · rw [if_neg hn, if_neg hn]
theorem al_hi {st : St} {c : Cell} : (st.alloc c).cs st.hi = some c := if_pos rfl
theorem pu_n {st : St} {n : Nat} {c : Cell} : (st.put n c).cs n = some c := if_pos rfl
theorem pln_vals {hi : Nat} {ds : List D} (h : ∀ d ∈ ds, d.pln = true) : ∀ d ∈ (Cell.list ds).vals, d.undr hi = true := fun d hd => pln_undr d (h d hd)
theorem frz_l {hi k : Nat} {st : St} {ds : List D} (h : ∀ d ∈ ds, d.pln = true) : ds.mapM (frz hi st k) = some ds := by
  induction ds with
  | nil => rfl
  | cons a r ih => rw [List.mapM_cons, frz_pln (h a (.head _)), ih fun d hd => h d (.tail _ hd)]; rfl
theorem frz_loc {st st' : St} {n : Nat} {ds : List D} (hn : st.hi ≤ n) (hc : st'.cs n = some (.list ds)) (h : ∀ d ∈ ds, d.pln = true) : frz st.hi st' 3 (.loc n) = some (.list ds) := by
  show (if n < st.hi then _ else _) = _
  rw [if_neg (Nat.not_lt.mpr hn), hc]
  show Option.map _ (ds.mapM _) = _
  rw [frz_l h]; rfl
theorem fin_l {st st' : St} {Q : D → St → Prop} {l : Ev} {n : Nat} {ds : List D} (hw : WfSt st) (e : Ext st st') (hn : st.hi ≤ n) (hc : st'.cs n = some (.list ds)) (h : ∀ d ∈ ds, d.pln = true) (hQ : Q (.list ds) st) : finE st Q (.ret (.loc n)) l st' :=
  fin_z (frz_loc hn hc h) (by rw [cut_ext hw e]; exact hQ)
theorem fin_p {st st' : St} {Q : D → St → Prop} {l : Ev} {d : D} (hw : WfSt st) (e : Ext st st') (h : d.pln = true) (hQ : Q d st) : finE st Q (.ret d) l st' :=
  fin_z (frz_pln h) (by rw [cut_ext hw e]; exact hQ)
theorem lst_loc {st : St} {n : Nat} {ds : List D} (h : st.cs n = some (.list ds)) : lstD st (.loc n) = some ds := by rw [lst_c, h]; rfl
theorem seq_loc {st : St} {n : Nat} {ds : List D} (h : st.cs n = some (.list ds)) : seqD st (.loc n) = some ds := by rw [seq_c, h]; rfl
theorem lst_seq {st : St} {d : D} {xs : List D} (h : lstD st d = some xs) : seqD st d = some xs := by
  cases d with
  | tup ds => exact nomatch h
  | _ => exact h
theorem ty_lst {sub : Value → Value → Option Bool} {st : St} {d : D} {xs : List D} (h : lstD st d = some xs) : isInst sub st d (.type "list") = some true := by
  unfold isInst tyV typeIs
  dsimp only
  rw [show tyIn "list" = true by decide +kernel, show (("list" : String) == "list") = true by decide +kernel]
  cases d with
  | list ds => rfl
  | loc n =>
    cases hc : st.cs n with
    | none => rw [lst_c, hc] at h; exact nomatch h
    | some c => cases c with
      | list ds => dsimp only [cond_true]; rw [hc]
      | _ => rw [lst_c, hc] at h; exact nomatch h
  | _ => exact nomatch h
theorem wi_any {st : St} {d : D} {xs : List D} {K : List D → (Nat → Bool) → Prop} (h : lstD st d = some xs) (hK : K xs (pinOf d)) : wIterD d st K := by
  cases d with
  | loc n =>
    cases hc : st.cs n with
    | none => rw [lst_c, hc] at h; exact nomatch h
    | some c => cases c with
      | list ds => rw [lst_c, hc] at h; cases h; exact ⟨xs, hc, hK⟩
      | _ => rw [lst_c, hc] at h; exact nomatch h
  | list ds => exact ⟨xs, h, hK⟩
  | _ => exact nomatch h
theorem wf_hide {st : St} {p : Nat → Bool} (h : WfSt st) : WfSt (st.hide p) := by
  intro n c hn
  have hn : (if p n = true then none else st.cs n) = some c := hn
  split at hn
  · exact nomatch hn
  · exact h n c hn
theorem hb {st : St} {p : Nat → Bool} : (st.hide p).back st p = st := by
  unfold St.hide St.back
  congr 1
  funext n
  dsimp only
  split <;> first | rfl | next h => rw [if_neg h]
noncomputable def topsD (xs : List D) : Bool := (decide (1 ≤ xs.length) && decide (xs.length ≤ 3)) && xs.all (amongD 0 9)
noncomputable def SpTops (CB : Value) (S : FSpec) : Prop := ∀ (t : D) (st : St) (Q : D → St → Prop) (X : XP), WfSt st →
  ((∃ xs, lstD st t = some xs ∧ xs.length ≤ lim ∧ (∀ d ∈ xs, d.pln = true) ∧ (if topsD xs then Q .none st else X CB st)) ∨ (t.pln = true ∧ isLi t = false ∧ X CB st)) → S [t] st Q X
noncomputable def t17 : Tb := tb [("tops", .local), ("top", .local), ("need", .globalImplicit), ("isinstance", .globalImplicit), ("list", .globalImplicit), ("len", .globalImplicit), ("MOST_BOXES", .globalImplicit), ("is_among", .globalImplicit), ("MOST_TOP", .globalImplicit)] []
noncomputable abbrev b17 : List Stmt := bodyOf 17
theorem p17_0 : t17.pl "tops" = .loc 0 true false := rfl
theorem p17_1 : t17.pl "top" = .loc 1 true false := rfl
theorem p17_2 : t17.pl "need" = .gl (.fn) := rfl
theorem p17_3 : t17.pl "isinstance" = .gl (.blt (.val (.builtin "isinstance"))) := rfl
theorem p17_4 : t17.pl "list" = .gl (.blt (.val (.type "list"))) := rfl
theorem p17_5 : t17.pl "len" = .gl (.blt (.val (.builtin "len"))) := rfl
theorem p17_6 : t17.pl "MOST_BOXES" = .gl (.cst (.int 3)) := rfl
theorem p17_7 : t17.pl "is_among" = .gl (.fn) := rfl
theorem p17_8 : t17.pl "MOST_TOP" = .gl (.cst (.int 9)) := rfl
theorem q17 : t17.hq = false := rfl
theorem tops_ok {Γ : Ctx} {CB : Value} (hN : Has Γ "need" (SpNeed CB)) (hA : Has Γ "is_among" SpAmong) : SpTops CB (wFn Γ 60 t17 1 b17) := by
  intro t st Q X hw hQ
  obtain ⟨N, hN, hN'⟩ := hN
  obtain ⟨A, hA, hA'⟩ := hA
  have hX : X CB st → X CB (st.cut st.hi) := fun z => by rw [cut_wf hw]; exact z
  refine ⟨rfl, ?_⟩; show wSs Γ 60 t17 (b17.drop 0) [some (t), none, none, none, none, none, none, none, none] st _ _
  refine ss_at rfl ?_; dsimp only [f_int, f_name, f_boolop, f_cmp, f_call, f_nil, f_cons, f_b1, f_b2, f_c1, f_c2, f_expr, f_tn, wName, lk_0, ev_s, pl_a, ns_c, ns_n, s1, s10, c1, nf, ta, cond_true, cond_false, p17_0, p17_2, p17_3, p17_4, p17_5, p17_6, q17]
  obtain ⟨xs, h1, h2, h3, hQ⟩ | ⟨h1, h2, hQ⟩ := hQ
  · refine b_isi (ty_lst h1) (tr_of (and_b (fun z => tf z) fun _ => b_len (lst_seq h1) h2 ?_))
    dsimp only [q_le]
    have hQ1 : topsD xs = false → X CB (st.cut st.hi) := fun h => hX (by rw [h] at hQ; exact hQ)
    refine ite_d (fun h4 => ⟨N, hN, nd hN' hw (fun h => hQ1 ?_) fun h5 => ?_⟩) fun h4 => ⟨N, hN, needF hN' rfl hw (hQ1 ?_)⟩
    · have := of_decide_eq_false h
      rw [topsD, decide_eq_false (show ¬ xs.length ≤ 3 by omega), Bool.and_false]; rfl
    · have h5 := of_decide_eq_true h5
      refine ss_at rfl ?_; dsimp only [f_int, f_name, f_call, f_nil, f_cons, f_expr, f_for, f_ssn, f_ss, f_inm, f_tn, wName, lk_0, ev_s, pl_a, ns_c, ns_n, s1, s2, s3, c1, nf, ta, cond_true, cond_false, f_tgN, setN, p17_0, p17_1, p17_2, p17_7, p17_8, q17]
      refine wi_any h1 ⟨h2, ?_⟩
      have e : topsD xs = xs.all (amongD 0 9) := by rw [topsD, decide_eq_true (show xs.length ≤ 3 by omega), decide_eq_true (show 1 ≤ xs.length by omega)]; rfl
      rw [e] at hQ
      clear e hQ1
      refine (fun hs : ∀ ks : List D, (∀ d ∈ ks, d.pln = true) → (if ks.all (amongD 0 9) then Q .none st else X CB st) → ∀ o : Option D, wFor _ ks [some (t), o, none, none, none, none, none, none, none] (st.hide (pinOf t)) _ => hs xs h3 hQ none) ?_
      intro ks
      induction ks with
      | nil =>
        intro _ hQ o
        dsimp only [f_tn, wf_n]
        rw [hb]
        exact ss_end rfl (.inl hQ)
      | cons x r ih =>
        intro hp hQ o
        dsimp only [lk_s, lk_0, se_s, se_0, ev_s, wf_c, nf_n]
        rw [List.all_cons] at hQ
        refine ⟨A, hA, hA' _ _ _ _ _ _ (hp x (.head _)) ⟨N, hN, nd hN' (wf_hide hw) (fun h => ?_) fun h => ?_⟩⟩
        · rw [hb]; rw [h] at hQ; exact hX hQ
        · skip
          rw [h] at hQ
          exact ih (fun d hd => hp d (.tail _ hd)) hQ _
    · rw [topsD, decide_eq_false (show ¬ 1 ≤ xs.length by omega)]; rfl
  · exact b_isi (ty_list h1) (tr_of (and_b (fun h => ⟨N, hN, needF hN' h hw (hX hQ)⟩) fun h => tf (h2.symm.trans h).symm))
noncomputable def inB (fs ts : List Int) : Bool := (fs.zip ts).all fun p => decide (0 ≤ p.1) && decide (p.1 ≤ p.2)
theorem at_ns {Γ : Ctx} {st : St} {C : Value} {n : Nat} {es : List (Str × D)} {nm : Str} {v : D} {Q : D → St → Prop} (h1 : st.cs n = some (.ns es)) (hc : Γ.cl C) (h2 : es.lookup nm = some v) (h3 : isAt nm = true) (h4 : isValD v = false) (h : Q v st) : wAttr Γ nm (.inst C n) st Q :=
  ⟨C, es, v, by rw [obj_c, h1]; rfl, hc, h2, h3, h4, h⟩
theorem zip_i {fs ts : List Int} : zipL (dI fs) (dI ts) = (fs.zip ts).map fun p => .tup [.int p.1, .int p.2] := by
  rw [zipL, List.zip_map, List.map_map]; rfl
/-- a program: its two attributes -/
noncomputable def prL (xs : List D) (rows : D) : List (Str × D) := [("tops", .list xs), ("rows", rows)]
noncomputable def prog (xs : List D) (rows : D) : Cell := .ns (prL xs rows)
theorem pr_t {xs : List D} {rows : D} : (prL xs rows).lookup (Str.ofString "tops") = some (D.list xs) := List.lookup_cons_self
theorem pr_r {xs : List D} {rows : D} : (prL xs rows).lookup (Str.ofString "rows") = some rows := by
  rw [prL, List.lookup, show (("rows" : Str) == "tops") = false by decide +kernel]; exact List.lookup_cons_self
theorem dI_len {l : List Int} : (dI l).length = l.length := List.length_map _
noncomputable def SpWithin (C : Value) (S : FSpec) : Prop := ∀ (n : Nat) (ts fs : List Int) (rows : D) (st : St) (Q : D → St → Prop) (X : XP), st.cs n = some (prog (dI ts) rows) → ts.length ≤ lim → fs.length ≤ lim → Q (.bool (inB fs ts)) st → S [.inst C n, .list (dI fs)] st Q X
theorem pn_l {xs : List D} : pinOf (.list xs) = fun _ => false := rfl
noncomputable def t21 : Tb := tb [("program", .local), ("filling", .local), ("held", .local), ("top", .local), ("zip", .globalImplicit)] []
noncomputable abbrev b21 : List Stmt := bodyOf 21
theorem p21_0 : t21.pl "program" = .loc 0 true false := rfl
theorem p21_1 : t21.pl "filling" = .loc 1 true false := rfl
theorem p21_2 : t21.pl "held" = .loc 2 true false := rfl
theorem p21_3 : t21.pl "top" = .loc 3 true false := rfl
theorem p21_4 : t21.pl "zip" = .gl (.itr) := rfl
theorem q21 : t21.hq = false := rfl
theorem within_ok {Γ : Ctx} {C : Value} (hc : Γ.cl C) : SpWithin C (wFn Γ 60 t21 2 b21) := by
  intro n ts fs rows st Q X h1 h2 h3 hQ
  refine ⟨rfl, ?_⟩; show wSs Γ 60 t21 (b21.drop 0) [some (.inst C n), some (.list (dI fs)), none, none, none] st _ _
  refine ss_at rfl ?_; dsimp only [f_bool, f_int, f_name, f_call, f_attr, f_nil, f_cons, f_c1, f_c2, f_not, f_tc, f_if, f_for, f_ret, f_ssn, f_ss, f_icl, f_tn, f_tr, wName, lk_s, lk_0, ev_s, pl_a, ns_c, ns_n, s1, s11, n1, nf, ta, cond_true, cond_false, p21_0, p21_1, p21_2, p21_3, p21_4, q21]
  refine at_ns h1 hc pr_t (by decide +kernel) rfl ?_
  refine i_zip rfl rfl rfl (by rw [dI_len]; exact h3) (by rw [dI_len]; exact h2) ?_
  rw [zip_i]
  dsimp only [fo, hide_no, back_no, pn_l]
  unfold inB at hQ
  generalize hz : fs.zip ts = zs at hQ ⊢
  clear hz
  refine (fun hs : ∀ o p : Option D, wFor _ (zs.map _) [some (.inst C n), some (.list (dI fs)), o, p, none] st _ => hs none none) ?_
  induction zs with
  | nil =>
    intro o p
    rw [List.map_nil]
    dsimp only [f_tn, wf_n]
    refine ss_at rfl ?_; dsimp only [f_bool, f_ret, f_tr]
    exact fin_k hQ
  | cons x r ih =>
    intro o p
    rw [List.map_cons]
    dsimp only [f_tr, lk_s, lk_0, se_s, se_0, ev_s, q_le, f_tgT, f_tg0, f_tg1, setN, wf_c, nf_n, nf_r, p21_2, p21_3]
    rw [List.all_cons] at hQ
    refine ite_b (fun h => ?_) fun h => ?_
    · rw [h] at hQ
      refine ite_n (fun h' => ?_) fun h' => ?_
      · rw [h'] at hQ; exact fin_k hQ
      · rw [h'] at hQ; exact ih hQ _ _
    · rw [h] at hQ
      refine ite_t ?_
      exact fin_k hQ
end Mine
end

section
set_option autoImplicit false
set_option linter.unusedVariables false
set_option linter.unusedSimpArgs false
set_option maxRecDepth 100000
namespace Mine
open PySem
noncomputable abbrev dN (p : List Nat) : List D := p.map fun k : Nat => .int (k : Int)
noncomputable def strOf : D → Str
  | .str w => w
  | _ => ""
noncomputable def parts : D → List D
  | .tup r => r
  | _ => []
noncomputable def wordD (d : D) : Str := strOf (at_ (parts d) 0)
noncomputable def kidsW (w : Str) (r : List D) : List (Nat × D) := bif w == "if" then [(0, at_ r 2), (1, at_ r 3)] else bif w == "loop" then [(0, at_ r 3)] else []
noncomputable def kids (d : D) : List (Nat × D) := kidsW (wordD d) (parts d)
noncomputable abbrev Pth := List Nat × D
theorem parts_t {r : List D} : parts (.tup r) = r := rfl
noncomputable def walkR (F : D → List Nat → List Pth) : Nat → List D → List Nat → List Pth
  | _, [], _ => []
  | k, d :: ds, ah => ((ah ++ [k], d) :: (kids d).flatMap fun p => F p.2 ((ah ++ [k]) ++ [p.1])) ++ walkR F (k + 1) ds ah
theorem walkR_c {F : D → List Nat → List Pth} {k : Nat} {d : D} {ds : List D} {ah : List Nat} : walkR F k (d :: ds) ah = ((ah ++ [k], d) :: (kids d).flatMap fun p => F p.2 ((ah ++ [k]) ++ [p.1])) ++ walkR F (k + 1) ds ah := rfl
theorem walkR_n {F : D → List Nat → List Pth} {k : Nat} {ah : List Nat} : walkR F k [] ah = [] := rfl
noncomputable def inn : Nat → D → List Nat → List Pth
  | 0, d, ah => walkR (fun _ _ => []) 0 (parts d) ah
  | g + 1, d, ah => walkR (inn g) 0 (parts d) ah
noncomputable def subF : Nat → D → List Nat → List Pth
  | 0 => fun _ _ => []
  | g + 1 => inn g
theorem inn_eq {g : Nat} {d : D} {ah : List Nat} : inn g d ah = walkR (subF g) 0 (parts d) ah := by cases g <;> rfl
noncomputable def subC (m : Nat) : Nat → D → Option Nat
  | 0 => fun _ => none
  | g + 1 => listB (rowD m g)
theorem rowD_eq {m g : Nat} : rowD m g = rowB m (subC m g) := by cases g <;> rfl
noncomputable def pD (p : Pth) : D := .tup [.tup (dN p.1), p.2]
noncomputable def isLoop (d : D) : Bool := wordD d == "loop"
noncomputable def loopsL (ps : List Pth) : List D := (ps.filter fun p => isLoop p.2).map fun p => .tup (dN p.1)
/-- what a good row is -/
structure RowI (m : Nat) (f : D → Option Nat) (r : List D) (n : Nat) : Prop where
  str : at_ r 0 = .str (wordD (.tup r))
  len : 2 ≤ r.length
  four : ((wordD (.tup r) == "if") = true ∨ (wordD (.tup r) == "loop") = true) → r.length = 4
  fine : (wordD (.tup r) == "if") = true → (wordD (.tup r) == "loop") = false
  kid : ∃ k, sumO f ((kids (.tup r)).map (·.2)) = some k ∧ n = 1 + k
theorem rowB_inv {m : Nat} {f : D → Option Nat} {d : D} {n : Nat} (h : rowB m f d = some n) : ∃ r, d = .tup r ∧ RowI m f r n := by
  cases d with
  | tup r =>
    refine ⟨r, rfl, ?_⟩
    rw [rowB_t] at h
    cases e : at_ r 0 with
    | str w =>
      rw [e] at h
      have hw : wordD (.tup r) = w := by rw [wordD, parts_t, e]; rfl
      have h : rowS m f w r = some n := h
      have hk : kids (.tup r) = kidsW w r := by rw [kids, hw]; rfl
      unfold rowS at h
      have inv : ∀ {c : Bool} {o : Option Nat}, (bif c then o else none) = some n → c = true ∧ o = some n := by
        intro c o h
        cases c with
        | true => exact ⟨rfl, h⟩
        | false => exact nomatch h
      have q1 : ∀ {a b : Str}, (w == a) = true → (a == b) = false → (w == b) = false := by
        intro a b h1 h2; rw [eq_of_beq h1]; exact h2
      cases e1 : (w == "put") with
      | true =>
        rw [e1] at h
        have h1 := Bool.and_eq_true_iff.mp (inv h).1
        have e2 := q1 e1 (b := "if") (by decide +kernel)
        have e3 := q1 e1 (b := "loop") (by decide +kernel)
        refine ⟨by rw [hw, e], by have := lenE (k := 3) h1.1; omega, fun z => ?_, fun z => ?_, 0, ?_, ?_⟩
        · rw [hw, e2, e3] at z; exact z.elim ft ft
        · rw [hw, e2] at z; exact ft z
        · rw [hk, kidsW, e2, e3]; rfl
        · exact (Option.some.inj (inv h).2).symm
      | false =>
      rw [e1] at h
      cases e1 : (w == "say") with
      | true =>
        rw [e1] at h
        have h1 := Bool.and_eq_true_iff.mp (inv h).1
        have e2 := q1 e1 (b := "if") (by decide +kernel)
        have e3 := q1 e1 (b := "loop") (by decide +kernel)
        refine ⟨by rw [hw, e], by have := lenE (k := 2) h1.1; omega, fun z => ?_, fun z => ?_, 0, ?_, ?_⟩
        · rw [hw, e2, e3] at z; exact z.elim ft ft
        · rw [hw, e2] at z; exact ft z
        · rw [hk, kidsW, e2, e3]; rfl
        · exact (Option.some.inj (inv h).2).symm
      | false =>
      rw [e1] at h
      have h1 := inv h
      have h2 := Bool.and_eq_true_iff.mp h1.1
      have h3 := lenE (k := 4) h2.1
      refine ⟨by rw [hw, e], by omega, fun _ => h3, fun z => by rw [hw] at z ⊢; exact q1 z (by decide +kernel), ?_⟩
      rw [hk, kidsW]
      have h4 := h1.2
      cases e2 : (w == "if") with
      | true =>
        rw [e2] at h4
        cases ha : f (at_ r 2) with
        | none => rw [ha] at h4; exact nomatch h4
        | some x =>
          cases hb : f (at_ r 3) with
          | none => rw [ha, hb] at h4; exact nomatch h4
          | some y =>
            rw [ha, hb] at h4
            exact ⟨x + y, by show plusO (f (at_ r 2)) (plusO (f (at_ r 3)) (some 0)) = _; rw [ha, hb]; rfl, by have h5 : some (1 + x + y) = some n := h4; have := Option.some.inj h5; omega⟩
      | false =>
        rw [e2] at h4 h2
        have h5 := (inv h4).2
        have e3 : (w == "loop") = true := (Bool.and_eq_true_iff.mp h2.2).1
        cases hb : f (at_ r 3) with
        | none => rw [hb] at h5; exact nomatch h5
        | some y =>
          rw [hb] at h5
          exact ⟨y, by rw [e3]; show plusO (f (at_ r 3)) (some 0) = _; rw [hb]; rfl, (Option.some.inj h5).symm⟩
    | _ => rw [e] at h; exact nomatch h
  | _ => exact nomatch h
theorem sumO_c {f : D → Option Nat} {a : D} {r : List D} {n : Nat} (h : sumO f (a :: r) = some n) : ∃ x y, f a = some x ∧ sumO f r = some y ∧ n = x + y := by
  rw [sumO_cc] at h
  cases ha : f a with
  | none => rw [ha] at h; exact nomatch h
  | some x =>
    cases hr : sumO f r with
    | none => rw [ha, hr] at h; exact nomatch h
    | some y => rw [ha, hr] at h; exact ⟨x, y, rfl, rfl, (Option.some.inj h).symm⟩
theorem listB_inv {f : D → Option Nat} {d : D} {n : Nat} (h : listB f d = some n) : ∃ ds, d = .tup ds ∧ ds.length ≤ 12 ∧ sumO f ds = some n := by
  cases d with
  | tup ds =>
    refine ⟨ds, rfl, ?_⟩
    rw [listB_t] at h
    split at h
    · next e => exact ⟨of_decide_eq_true e, h⟩
    · exact nomatch h
  | _ => exact nomatch h
theorem w_if {F : D → List Nat → List Pth} {k : Nat} {d : D} {ds : List D} {ah : List Nat} (h : (wordD d == "if") = true) :
    walkR F k (d :: ds) ah = ((ah ++ [k], d) :: (F (at_ (parts d) 2) ((ah ++ [k]) ++ [0]) ++ F (at_ (parts d) 3) ((ah ++ [k]) ++ [1]))) ++ walkR F (k + 1) ds ah := by
  rw [walkR_c, kids, kidsW, h]; simp only [cond_true, List.flatMap_cons, List.flatMap_nil, List.append_nil]
theorem w_loop {F : D → List Nat → List Pth} {k : Nat} {d : D} {ds : List D} {ah : List Nat} (h : (wordD d == "if") = false) (h' : (wordD d == "loop") = true) :
    walkR F k (d :: ds) ah = ((ah ++ [k], d) :: F (at_ (parts d) 3) ((ah ++ [k]) ++ [0])) ++ walkR F (k + 1) ds ah := by
  rw [walkR_c, kids, kidsW, h, h']; simp only [cond_true, cond_false, List.flatMap_cons, List.flatMap_nil, List.append_nil]
theorem w_no {F : D → List Nat → List Pth} {k : Nat} {d : D} {ds : List D} {ah : List Nat} (h : (wordD d == "if") = false) (h' : (wordD d == "loop") = false) :
    walkR F k (d :: ds) ah = (ah ++ [k], d) :: walkR F (k + 1) ds ah := by
  rw [walkR_c, kids, kidsW, h, h']; rfl
/-- what holds of every place of a good rows tuple -/
theorem walk_all {P : Pth → Prop} {F : D → List Nat → List Pth} {k : Nat} {ds : List D} {ah : List Nat} (h : ∀ i d, ds[i]? = some d → P (ah ++ [k + i], d) ∧ ∀ p ∈ kids d, ∀ x ∈ F p.2 ((ah ++ [k + i]) ++ [p.1]), P x) : ∀ x ∈ walkR F k ds ah, P x := by
  induction ds generalizing k with
  | nil => intro x hx; exact nomatch hx
  | cons d ds ih =>
    intro x hx
    rw [walkR_c] at hx
    cases List.mem_append.mp hx with
    | inl hx =>
      have h0 := h 0 d rfl
      cases hx with
      | head => exact h0.1
      | tail _ hx =>
        obtain ⟨p, hp, hx⟩ := List.mem_flatMap.mp hx
        exact h0.2 p hp x hx
    | inr hx =>
      refine ih (fun i d hi => ?_) x hx
      rw [show k + 1 + i = k + (i + 1) by omega]
      exact h (i + 1) d hi
theorem kid_pln {d : D} (h : d.pln = true) : ∀ p ∈ kids d, p.2.pln = true := by
  have h1 : ∀ d' ∈ parts d, d'.pln = true := by
    cases d with
    | tup r => exact (pln_tup.mp h).2
    | _ => intro _ z; exact nomatch z
  intro p hp
  rw [kids, kidsW] at hp
  cases e : (wordD d == "if") with
  | true =>
    rw [e] at hp
    cases hp with
    | head => exact pl_at 2 h1
    | tail _ hp => cases hp with
      | head => exact pl_at 3 h1
      | tail _ hp => exact nomatch hp
  | false =>
    rw [e] at hp
    cases e : (wordD d == "loop") with
    | true =>
      rw [e] at hp
      cases hp with
      | head => exact pl_at 3 h1
      | tail _ hp => exact nomatch hp
    | false => rw [e] at hp; exact nomatch hp
theorem parts_pln {d : D} (h : d.pln = true) : ∀ x ∈ parts d, x.pln = true := by
  cases d with
  | tup r => exact (pln_tup.mp h).2
  | _ => intro _ z; exact nomatch z
theorem inn_pln {g : Nat} {d : D} {ah : List Nat} (h : d.pln = true) : ∀ x ∈ inn g d ah, x.2.pln = true ∧ x.1.length ≤ ah.length + 2 * g + 1 := by
  induction g generalizing d ah with
  | zero =>
    refine walk_all fun i d' hi => ⟨⟨parts_pln h d' (List.mem_of_getElem? hi), by rw [List.length_append]; exact Nat.le_refl _⟩, fun p _ x hx => nomatch hx⟩
  | succ g ih =>
    refine walk_all fun i d' hi => ?_
    have hd := parts_pln h d' (List.mem_of_getElem? hi)
    refine ⟨⟨hd, by rw [List.length_append]; simp only [List.length_cons, List.length_nil]; omega⟩, fun p hp x hx => ?_⟩
    have := ih (kid_pln hd p hp) x hx
    refine ⟨this.1, Nat.le_trans this.2 ?_⟩
    simp only [List.length_append, List.length_cons, List.length_nil]; omega
theorem walk_len {m : Nat} {f : D → Option Nat} {F : D → List Nat → List Pth} (hF : ∀ d ah n, f d = some n → (F d ah).length = n) {ds : List D} : ∀ {k n : Nat} {ah : List Nat}, sumO (rowB m f) ds = some n → (walkR F k ds ah).length = n := by
  induction ds with
  | nil => intro k n ah h; exact Option.some.inj h
  | cons d ds ih =>
    intro k n ah h
    refine ex2 (sumO_c h) fun x y q__207_1 => an3 q__207_1 fun hx hy e__207_4 => ?_
    subst e__207_4
    obtain ⟨r, rfl, hr⟩ := rowB_inv hx
    obtain ⟨c, hc, rfl⟩ := hr.kid
    rw [walkR_c, List.length_append, ih hy, List.length_cons]
    have : ∀ (ks : List (Nat × D)) (c : Nat), sumO f (ks.map (·.2)) = some c → (ks.flatMap fun p => F p.2 ((ah ++ [k]) ++ [p.1])).length = c := by
      intro ks
      induction ks with
      | nil => intro c hc; exact Option.some.inj hc
      | cons q qs ih =>
        intro c hc
        refine ex2 (sumO_c hc) fun x y q__217_1 => an3 q__217_1 fun hx hy e__217_4 => ?_
        subst e__217_4
        rw [List.flatMap_cons, List.length_append, ih y hy, hF _ _ _ hx]
    rw [this _ _ hc]; omega
theorem inn_len {m g : Nat} {d : D} {n : Nat} {ah : List Nat} (h : listB (rowD m g) d = some n) : (inn g d ah).length = n := by
  induction g generalizing d ah n with
  | zero =>
    obtain ⟨ds, rfl, _, h⟩ := listB_inv h
    exact walk_len (m := m) (f := fun _ => none) (F := fun _ _ => []) (fun d ah n h => nomatch h) h
  | succ g ih =>
    obtain ⟨ds, rfl, _, h⟩ := listB_inv h
    exact walk_len (m := m) (f := listB (rowD m g)) (F := inn g) (fun d ah n h => ih h) h
end Mine
end

section
set_option autoImplicit false
set_option linter.unusedVariables false
set_option linter.unusedSimpArgs false
set_option maxRecDepth 100000
namespace Mine
open PySem
section
variable {trk : Bool} {st : St} {Q : D → St → Prop}
theorem add_l {a b : D} {xs ys : List D} (ha : lstD st a = some xs) (hb : lstD st b = some ys) (h : mkList trk (xs ++ ys) st Q) : wBin trk .Add a b st Q := by
  cases a with
  | int i => exact nomatch ha
  | tup i => exact nomatch ha
  | _ => exact ⟨xs, ys, ha, hb, h⟩
theorem add_k {ah : List Nat} {k : Nat} (hl : ah.length ≤ 1000) (h : Q (.tup (dN (ah ++ [k]))) st) : wBin trk .Add (.tup (dN ah)) (.tup [.int (k : Int)]) st Q := by
  refine ⟨by rw [List.length_map]; exact Nat.le_trans (Nat.add_le_add_right hl 1) (by decide), ?_⟩
  rw [show dN ah ++ [.int (k : Int)] = dN (ah ++ [k]) by rw [dN, dN, List.map_append]; rfl]
  exact h
theorem i_range' {t : Expr} {n : Nat} {K' : List D → (Nat → Bool) → Prop} (h1 : n ≤ 1000) (h : K' (dN (List.range' 0 n)) fun _ => false) : iterCall t "range" [.int (n : Int)] st K' := by
  refine i_range (Int.ofNat_le.mpr (Nat.le_trans h1 (by decide))) (Int.le_trans (by decide) (Int.natCast_nonneg n)) ?_
  rw [show rangeL 0 (n : Int) = dN (List.range' 0 n) by
    rw [rangeL, dN, Int.sub_zero, Int.toNat_natCast, List.range_eq_range']; simp only [Int.zero_add]]
  exact h
end
theorem dN_pln {p : List Nat} (h : p.length ≤ 1000) : (D.tup (dN p)).pln = true := by
  refine pln_tup.mpr ⟨by rw [List.length_map]; exact Nat.le_trans h (by decide), fun d hd => ?_⟩
  obtain ⟨k, _, rfl⟩ := List.mem_map.mp hd
  rfl
/-- rows that count at most 1000 -/
noncomputable def Good (m g : Nat) (d : D) : Prop := ∃ n, n ≤ 1000 ∧ listB (rowD m g) d = some n
/-- the rows of a row that is being walked -/
structure RowW (m g : Nat) (r : List D) : Prop where
  str : at_ r 0 = .str (wordD (.tup r))
  pos : 0 < r.length
  lim : r.length ≤ lim
  four : ((wordD (.tup r) == "if") = true ∨ (wordD (.tup r) == "loop") = true) → r.length = 4
  fine : (wordD (.tup r) == "if") = true → (wordD (.tup r) == "loop") = false
  pln : ∀ d ∈ r, d.pln = true
  kid : ∀ p ∈ kids (.tup r), ∃ n, n ≤ 1000 ∧ subC m g p.2 = some n
theorem sumO_le {f : D → Option Nat} {ds : List D} {n : Nat} (h : sumO f ds = some n) : ∀ d ∈ ds, ∃ k, k ≤ n ∧ f d = some k := by
  induction ds generalizing n with
  | nil => intro d hd; exact nomatch hd
  | cons a r ih =>
    refine ex2 (sumO_c h) fun x y q__43_1 => an3 q__43_1 fun hx hy e__43_4 => ?_
    subst e__43_4
    intro d hd
    cases hd with
    | head => exact ⟨x, Nat.le_add_right _ _, hx⟩
    | tail _ hd =>
      obtain ⟨k, hk, e⟩ := ih hy d hd
      exact ⟨k, Nat.le_trans hk (Nat.le_add_left _ _), e⟩
theorem row_w {m g n : Nat} {d : D} (hp : d.pln = true) (hn : n ≤ 1000) (h : rowD m g d = some n) : ∃ r, d = .tup r ∧ RowW m g r := by
  rw [rowD_eq] at h
  obtain ⟨r, rfl, hr⟩ := rowB_inv h
  have h1 := pln_tup.mp hp
  obtain ⟨k, hk, e⟩ := hr.kid
  refine ⟨r, rfl, hr.str, Nat.lt_of_lt_of_le (by decide) hr.len, h1.1, hr.four, hr.fine, h1.2, fun p hp => ?_⟩
  obtain ⟨x, hx, e'⟩ := sumO_le hk p.2 (List.mem_map_of_mem hp)
  exact ⟨x, Nat.le_trans hx (Nat.le_trans (e ▸ Nat.le_add_left k 1) hn), e'⟩
theorem kid_if {r : List D} (h : (wordD (.tup r) == "if") = true) : (0, at_ r 2) ∈ kids (.tup r) ∧ (1, at_ r 3) ∈ kids (.tup r) := by
  rw [kids, kidsW, h]; exact ⟨.head _, .tail _ (.head _)⟩
theorem kid_loop {r : List D} (h : (wordD (.tup r) == "if") = false) (h' : (wordD (.tup r) == "loop") = true) : (0, at_ r 3) ∈ kids (.tup r) := by
  rw [kids, kidsW, h, h']; exact .head _
/-- a recursive call on the rows of a row -/
theorem sub_good {m g n : Nat} {d : D} (h : subC m g d = some n) (hn : n ≤ 1000) : ∃ g', g = g' + 1 ∧ Good m g' d := by
  cases g with
  | zero => exact nomatch h
  | succ g => exact ⟨g, rfl, n, hn, h⟩
noncomputable def SpPlaces (g : Nat) (S : FSpec) : Prop := ∀ (m : Nat) (d : D) (ah : List Nat) (st : St) (Q : D → St → Prop) (X : XP), d.pln = true → WfSt st → Good m g d → ah.length + 2 * g ≤ 900 →
  Q (.list ((inn g d ah).map pD)) st → S [d, .tup (dN ah)] st Q X
noncomputable def SpLoops (g : Nat) (S : FSpec) : Prop := ∀ (m : Nat) (d : D) (ah : List Nat) (st : St) (Q : D → St → Prop) (X : XP), d.pln = true → WfSt st → Good m g d → ah.length + 2 * g ≤ 900 →
  (Q (.list (loopsL (inn g d ah))) st ∨ ∀ n st', Ext st st' → st.hi ≤ n → n < st'.hi → st'.cs n = some (.list (loopsL (inn g d ah))) → Q (.loc n) st') → S [d, .tup (dN ah)] st Q X
theorem ah1 {n g : Nat} (h : n + 2 * g ≤ 900) : n ≤ 1000 := Nat.le_trans (Nat.le_add_right _ _) (Nat.le_trans h (by decide))
theorem ah2 {ah : List Nat} {g k : Nat} (h : ah.length + 2 * g ≤ 900) : (ah ++ [k]).length ≤ 1000 := by rw [List.length_append]; exact Nat.le_trans (Nat.add_le_add_right (Nat.le_trans (Nat.le_add_right _ _) h) 1) (by decide)
theorem ah3 {ah : List Nat} {g g' k j : Nat} (h : ah.length + 2 * g ≤ 900) (e : g = g' + 1) : ((ah ++ [k]) ++ [j]).length + 2 * g' ≤ 900 := by
  subst e; simp only [List.length_append, List.length_cons, List.length_nil]; omega
theorem ah4 {n g m : Nat} (h : n + 2 * g ≤ 900) (hm : m ≤ n + 2 * g + 1) : m ≤ 1000 := Nat.le_trans hm (Nat.le_trans (Nat.add_le_add_right h 1) (by decide))
theorem enum_c {k : Nat} {x : D} {r : List D} : ((x :: r).zipIdx k).map (fun p => D.tup [.int (p.2 : Nat), p.1]) = .tup [.int (k : Nat), x] :: (r.zipIdx (k + 1)).map (fun p => D.tup [.int (p.2 : Nat), p.1]) := by rw [List.zipIdx_cons, List.map_cons]
theorem pn_t {xs : List D} : pinOf (.tup xs) = fun _ => false := rfl
theorem ll_app {a b : List Pth} : loopsL (a ++ b) = loopsL a ++ loopsL b := by rw [loopsL, List.filter_append, List.map_append]; rfl
theorem ll_y {p : List Nat} {d : D} {ps : List Pth} (h : isLoop d = true) : loopsL ((p, d) :: ps) = [.tup (dN p)] ++ loopsL ps := by rw [loopsL, List.filter_cons_of_pos (p := fun p : Pth => isLoop p.2) (a := (p, d)) h]; rfl
theorem ll_n {p : List Nat} {d : D} {ps : List Pth} (h : isLoop d = false) : loopsL ((p, d) :: ps) = loopsL ps := by rw [loopsL, List.filter_cons_of_neg (p := fun p : Pth => isLoop p.2) (a := (p, d)) (by rw [h]; decide)]; rfl
theorem ll_len {ps : List Pth} : (loopsL ps).length ≤ ps.length := by rw [loopsL, List.length_map]; exact List.length_filter_le _ _
theorem ll_pln {ps : List Pth} (h : ∀ x ∈ ps, x.1.length ≤ 1000) : ∀ d ∈ loopsL ps, d.pln = true := by
  intro d hd
  obtain ⟨x, hx, rfl⟩ := List.mem_map.mp hd
  exact dN_pln (h x (List.mem_filter.mp hx).1)
theorem l_1 {d : D} : [d].length ≤ lim := by show 1 ≤ lim; decide
theorem l_2 {d e : D} : [d, e].length ≤ lim := by show 2 ≤ lim; decide
/-- the walk's list so far, as a cell -/
structure Acc (st st1 : St) (n : Nat) (L : List D) : Prop where
  ext : Ext st st1
  lo : st.hi ≤ n
  hi : n < st1.hi
  cs : st1.cs n = some (.list L)
theorem acc_new {st st1 : St} {n : Nat} {L L' : List D} (h : Acc st st1 n L) (hp : ∀ d ∈ L', d.pln = true) : Acc st (st1.alloc (.list L')) st1.hi L' :=
  ⟨h.ext.trans (ext_alloc h.ext.wf (pln_vals hp)), h.ext.hi, Nat.lt_succ_self _, al_hi⟩
theorem acc_0 {st : St} {L : List D} (h : WfSt st) (hp : ∀ d ∈ L, d.pln = true) : Acc st (st.alloc (.list L)) st.hi L :=
  ⟨ext_alloc h (pln_vals hp), Nat.le_refl _, Nat.lt_succ_self _, al_hi⟩
theorem mkl {L L' : List D} {st : St} {Q : D → St → Prop} (e : L = L') (h : L'.length ≤ 1000) (hQ : Q (.list L') st) : mkList false L st Q := by
  subst e; exact ⟨Nat.le_trans h (by decide), hQ⟩
theorem mkt {L L' : List D} {st : St} {Q : D → St → Prop} (e : L = L') (h : L'.length ≤ 1000) (hQ : Q (.loc st.hi) (st.alloc (.list L'))) : mkList true L st Q := by
  subst e; exact ⟨Nat.le_trans h (by decide), hQ⟩
theorem su {Γ : Ctx} {T : Tb} {n : Nat} {l : Ev} {st : St} {X : XP} {KS : Fl → Ev → St → Prop} {s : Stmt} {r : List Stmt} (h : wS Γ n T s l st (thenE Γ n T r KS X) X) : wSs Γ (n + 1) T (s :: r) l st KS X := h
theorem le_app {L A B : List D} (e : L = A ++ B) (h : L.length ≤ 1000) : A.length ≤ 1000 := Nat.le_trans (by rw [e, List.length_append]; exact Nat.le_add_right _ _) h
theorem lt4 {n k : Nat} (h : n = 4) (hk : k < 4 := by decide) : k < n := h ▸ hk
theorem sub_eq {g g' : Nat} (h : g = g' + 1) : subF g = inn g' := by subst h; rfl
noncomputable def t18 : Tb := tb [("rows", .local), ("ahead", .local), ("found", .local), ("number", .local), ("row", .local), ("place", .local), ("enumerate", .globalImplicit), ("loops_in", .globalImplicit)] ["found"]
noncomputable abbrev b18 : List Stmt := bodyOf 18
theorem p18_0 : t18.pl "rows" = .loc 0 true false := rfl
theorem p18_1 : t18.pl "ahead" = .loc 1 true false := rfl
theorem p18_2 : t18.pl "found" = .loc 2 true true := rfl
theorem p18_3 : t18.pl "number" = .loc 3 true false := rfl
theorem p18_4 : t18.pl "row" = .loc 4 true false := rfl
theorem p18_5 : t18.pl "place" = .loc 5 true false := rfl
theorem p18_6 : t18.pl "enumerate" = .gl (.itr) := rfl
theorem p18_7 : t18.pl "loops_in" = .gl (.fn) := rfl
theorem q18 : t18.hq = false := rfl
theorem loops_ok {Γ : Ctx} {g : Nat} (hL : ∀ g', g = g' + 1 → Has Γ "loops_in" (SpLoops g')) : SpLoops g (wFn Γ 60 t18 2 b18) := by
  intro m d ah st Q X hp hw hg hl hQ
  obtain ⟨n, hn, hg⟩ := hg
  refine ex1 (listB_inv hg) fun ds q__120_1 => an3 q__120_1 fun e__120_1 hd hs => ?_
  subst e__120_1
  have hlen := inn_len (ah := ah) hg
  have hall := inn_pln (g := g) (ah := ah) hp
  have hps := (pln_tup.mp hp).2
  have hps' := hps
  have hs' := hs
  have hn' := hn
  rw [inn_eq] at hQ hlen hall
  refine ⟨rfl, ?_⟩; show wSs Γ 60 t18 (b18.drop 0) [some (.tup ds), some (.tup (dN ah)), none, none, none, none, none, none] st _ _
  refine ss_at rfl ?_; dsimp only [f_list, f_nil, f_asgN, f_tn, se_s, se_0, mk_t, p18_2]
  refine ⟨by decide, ?_⟩
  refine ss_at rfl ?_; dsimp only [f_name, f_call, f_nil, f_cons, f_for, f_icl, wName, lk_0, ev_s, pl_a, ns_n, s1, nf, ta, cond_true, cond_false, p18_0, p18_6, q18]
  refine i_enum rfl rfl (pln_tup.mp hp).1 ?_
  dsimp only [hide_no, back_no, pn_t]
  generalize hT : walkR (subF g) 0 (parts (D.tup ds)) ah = tot at hQ hlen hall
  have hl0 : ah.length ≤ 1000 := ah1 hl
  have hl1 : ∀ {k : Nat}, (ah ++ [k]).length ≤ 1000 := ah2 hl
  have hl2 : ∀ {g' k j : Nat}, g = g' + 1 → ((ah ++ [k]) ++ [j]).length + 2 * g' ≤ 900 := fun h => ah3 hl h
  have hlp : ∀ x ∈ tot, x.1.length ≤ 1000 := fun x hx => ah4 hl (hall x hx).2
  have hl3 : tot.length ≤ 1000 := by rw [hlen]; exact hn
  have hb0 : ∀ {a b : List Pth}, a ++ b = tot → (loopsL a).length ≤ 1000 ∧ ∀ d ∈ loopsL a, d.pln = true := by
    intro a b h
    refine ⟨Nat.le_trans ll_len (Nat.le_trans ?_ hl3), ll_pln fun x hx => hlp x (h ▸ List.mem_append_left _ hx)⟩
    rw [← h, List.length_append]; exact Nat.le_add_right _ _
  clear hall hlen hp hs hps hg hn hl
  refine (fun z : ∀ (es : List D) (k c nn : Nat) (done : List Pth) (st1 : St) (o p q : Option D), (∀ d ∈ es, d.pln = true) → sumO (rowD m g) es = some c → c ≤ 1000 → done ++ walkR (subF g) k es ah = tot → Acc st st1 nn (loopsL done) →
    wFor _ ((es.zipIdx k).map fun p => D.tup [.int (p.2 : Nat), p.1]) [some (.tup ds), some (.tup (dN ah)), some (.loc nn), o, p, q, none, none] st1 _ => z ds 0 n st.hi [] _ none none none hps' hs' hn' hT (acc_0 hw fun _ h => nomatch h)) ?_
  intro es
  induction es with
  | nil =>
    intro k c nn done st1 o p q _ _ _ hd ha
    rw [walkR_n, List.append_nil] at hd
    subst hd
    show wFor _ [] _ _ _
    dsimp only [f_tn, wf_n]
    refine ss_at rfl ?_; dsimp only [f_name, f_ret, f_tr, wName, lk_s, lk_0, ev_s, p18_2]
    cases hQ with
    | inl hQ => exact fin_l hw ha.ext ha.lo ha.cs (ll_pln hlp) hQ
    | inr hQ => exact fin_k (hQ _ _ ha.ext ha.lo ha.hi ha.cs)
  | cons x es ih =>
    intro k c nn done st1 o p q hp hs hc hd ha
    rw [enum_c]
    refine ex2 (sumO_c hs) fun a b q__162_1 => an3 q__162_1 fun hx hy e__162_4 => ?_
    subst e__162_4
    obtain ⟨r, rfl, hr⟩ := row_w (hp x (.head _)) (Nat.le_trans (Nat.le_add_right _ _) hc) hx
    have hc' : b ≤ 1000 := Nat.le_trans (Nat.le_add_left _ _) hc
    have hps : ∀ d ∈ es, d.pln = true := fun d hd => hp d (.tail _ hd)
    dsimp only [se_s, se_0, f_tgT, f_tg0, f_tg1, setN, wf_c, p18_3, p18_4]
    refine su ?_; dsimp only [f_name, f_bin, f_tup, f_nil, f_cons, f_asgN, f_tn, wName, lk_s, lk_0, se_s, se_0, ev_s, p18_1, p18_3, p18_5]
    refine ⟨l_1, add_k hl0 ?_⟩
    refine su ?_; dsimp only [f_int, f_str, f_name, f_c1, f_tc, f_if, f_itemC, wName, lk_s, lk_0, ev_s, p18_4]
    refine it_k (k := 0) 0 rfl hr.pos hr.lim ?_
    rw [hr.str]
    dsimp only [q_seq]
    refine ite_b (fun e => ?_) fun e => ?_
    · refine su ?_; dsimp only [f_int, f_name, f_bin, f_call, f_tup, f_list, f_nil, f_cons, f_asgN, f_ssn, f_itemC, f_tn, wName, lk_s, lk_0, se_s, se_0, ev_s, pl_a, ns_c, ns_n, s4, s6, nf, ta, cond_true, cond_false, mk_f, nf_n, p18_2, p18_4, p18_5, p18_7, q18]
      have e' : (wordD (.tup r) == "if") = false := by
        cases z : (wordD (.tup r) == "if") with
        | true => exact e.symm.trans (hr.fine z)
        | false => rfl
      have h4 := hr.four (.inr e)
      obtain ⟨y, hy1, hy2⟩ := hr.kid _ (kid_loop e' e)
      obtain ⟨g', hgg, hg'⟩ := sub_good hy2 hy1
      obtain ⟨S, hS, hS'⟩ := hL g' hgg
      rw [w_loop e' e, ← List.append_assoc, sub_eq hgg] at hd
      have hb := hb0 hd
      have e1 : loopsL (done ++ (ah ++ [k], D.tup r) :: inn g' (at_ r 3) ((ah ++ [k]) ++ [0])) = loopsL done ++ [.tup (dN (ah ++ [k]))] ++ loopsL (inn g' (at_ r 3) ((ah ++ [k]) ++ [0])) := by rw [ll_app, ll_y e]; exact (List.append_assoc _ _ _).symm
      have e2 : (loopsL done ++ [D.tup (dN (ah ++ [k]))]).length ≤ 1000 := by
        exact le_app e1 hb.1
      refine ⟨l_1, add_l (lst_loc ha.cs) rfl (mkl rfl e2 ?_)⟩
      refine it_k (k := 3) 3 rfl (lt4 h4) hr.lim ?_
      refine ⟨l_1, add_k (k := 0) hl1 ⟨S, hS, hS' m _ _ _ _ _ (pl_at 3 hr.pln) ha.ext.wf hg' (hl2 hgg) (.inl (add_l rfl rfl (mkt e1.symm hb.1 ?_)))⟩⟩
      exact ih _ _ _ _ _ _ _ _ hps hy hc' (by rw [sub_eq hgg]; exact hd) (acc_new ha hb.2)
    · refine su ?_; dsimp only [f_int, f_str, f_name, f_c1, f_tc, f_if, f_ssn, f_itemC, f_tn, wName, lk_s, lk_0, ev_s, nf_n, p18_4]
      refine it_k (k := 0) 0 rfl hr.pos hr.lim ?_
      rw [hr.str]
      dsimp only [q_seq]
      refine ite_b (fun e' => ?_) fun e' => ?_
      · refine su ?_; dsimp only [f_int, f_name, f_bin, f_call, f_tup, f_nil, f_cons, f_asgN, f_ssn, f_itemC, f_tn, wName, lk_s, lk_0, se_s, se_0, ev_s, pl_a, ns_c, ns_n, s4, s6, nf, ta, cond_true, cond_false, nf_n, p18_2, p18_4, p18_5, p18_7, q18]
        have h4 := hr.four (.inl e')
        obtain ⟨y, hy1, hy2⟩ := hr.kid _ (kid_if e').1
        obtain ⟨g', hgg, hg'⟩ := sub_good hy2 hy1
        obtain ⟨y, hy1, hy2⟩ := hr.kid _ (kid_if e').2
        obtain ⟨g2, h2, hg2⟩ := sub_good hy2 hy1
        cases hgg.symm.trans h2
        obtain ⟨S, hS, hS'⟩ := hL g' hgg
        rw [w_if e', ← List.append_assoc, sub_eq hgg] at hd
        have hb := hb0 hd
        have e1 : loopsL (done ++ (ah ++ [k], D.tup r) :: (inn g' (at_ r 2) ((ah ++ [k]) ++ [0]) ++ inn g' (at_ r 3) ((ah ++ [k]) ++ [1]))) = loopsL done ++ loopsL (inn g' (at_ r 2) ((ah ++ [k]) ++ [0])) ++ loopsL (inn g' (at_ r 3) ((ah ++ [k]) ++ [1])) := by rw [ll_app, ll_n e, ll_app]; exact (List.append_assoc _ _ _).symm
        have e2 : (loopsL done ++ loopsL (inn g' (at_ r 2) ((ah ++ [k]) ++ [0]))).length ≤ 1000 := by
          exact le_app e1 hb.1
        refine it_k (k := 2) 2 rfl (lt4 h4) hr.lim ?_
        refine ⟨l_1, add_k (k := 0) hl1 ⟨S, hS, hS' m _ _ _ _ _ (pl_at 2 hr.pln) ha.ext.wf hg' (hl2 hgg) (.inl (add_l (lst_loc ha.cs) rfl (mkl rfl e2 ?_)))⟩⟩
        refine it_k (k := 3) 3 rfl (lt4 h4) hr.lim ?_
        refine ⟨l_1, add_k (k := 1) hl1 ⟨S, hS, hS' m _ _ _ _ _ (pl_at 3 hr.pln) ha.ext.wf hg2 (hl2 hgg) (.inl (add_l rfl rfl (mkt e1.symm hb.1 ?_)))⟩⟩
        exact ih _ _ _ _ _ _ _ _ hps hy hc' (by rw [sub_eq hgg]; exact hd) (acc_new ha hb.2)
      · rw [w_no e' e, List.append_cons] at hd
        have e1 : loopsL (done ++ [(ah ++ [k], D.tup r)]) = loopsL done := by rw [ll_app, ll_n e]; exact List.append_nil _
        exact ih _ _ _ _ _ _ _ _ hps hy hc' hd (by rw [e1]; exact ha)
end Mine
end

section
set_option autoImplicit false
set_option linter.unusedVariables false
set_option linter.unusedSimpArgs false
set_option maxRecDepth 100000
namespace Mine
open PySem
theorem bif_t {c : Bool} {A B : Prop} (hc : c = true) (h : A) : bif c then A else B := by subst hc; exact h
theorem meth_app {Γ : Ctx} {hq : Bool} {n : Nat} {xs : List D} {st : St} {Q : D → St → Prop} {X : XP} {args : (List D → St → Prop) → Prop} (hc : st.cs n = some (.list xs)) (h : args fun ds st2 => wMeth (.loc n) ds st2 Q) : wCallM Γ hq "append" (.loc n) st args Q X :=
  .inl ⟨rfl, by rw [lst_c, hc]; rfl, h⟩
theorem meth_do {n : Nat} {x : D} {xs : List D} {st : St} {Q : D → St → Prop} (hc : st.cs n = some (.list xs)) (hl : xs.length ≤ 1000) (h : Q .none (st.put n (.list (xs ++ [x])))) : wMeth (.loc n) [x] st Q :=
  ⟨n, x, xs, rfl, rfl, hc, Nat.le_trans hl (by decide), h⟩
theorem acc_put {st st1 : St} {n : Nat} {L L' : List D} (h : Acc st st1 n L) (hp : ∀ d ∈ L', d.undr st1.hi = true) : Acc st (st1.put n (.list L')) n L' :=
  ⟨ext_put h.ext h.lo h.hi hp, h.lo, h.hi, pu_n⟩
theorem pD_pln {x : Pth} (h1 : x.2.pln = true) (h2 : x.1.length ≤ 1000) : (pD x).pln = true := by
  rw [pD, pln_tup]
  refine ⟨l_2, fun d hd => ?_⟩
  cases hd with
  | head => exact dN_pln h2
  | tail _ hd => cases hd with
    | head => exact h1
    | tail _ hd => exact nomatch hd
noncomputable def t32 : Tb := tb [("_law_rows_here", .local), ("_law_ahead", .local), ("_law_found", .local), ("_law_k", .local), ("_law_place", .local), ("range", .globalImplicit), ("len", .globalImplicit), ("_law_places", .globalImplicit)] ["_law_found"]
noncomputable abbrev b32 : List Stmt := bodyOf 32
theorem p32_0 : t32.pl "_law_rows_here" = .loc 0 true false := rfl
theorem p32_1 : t32.pl "_law_ahead" = .loc 1 true false := rfl
theorem p32_2 : t32.pl "_law_found" = .loc 2 true true := rfl
theorem p32_3 : t32.pl "_law_k" = .loc 3 true false := rfl
theorem p32_4 : t32.pl "_law_place" = .loc 4 true false := rfl
theorem p32_5 : t32.pl "range" = .gl (.itr) := rfl
theorem p32_6 : t32.pl "len" = .gl (.blt (.val (.builtin "len"))) := rfl
theorem p32_7 : t32.pl "_law_places" = .gl (.fn) := rfl
theorem q32 : t32.hq = false := rfl
theorem places_ok {Γ : Ctx} {g : Nat} (hL : ∀ g', g = g' + 1 → Has Γ "_law_places" (SpPlaces g')) : SpPlaces g (wFn Γ 60 t32 2 b32) := by
  intro m d ah st Q X hp hw hg hl hQ
  obtain ⟨n, hn, hg⟩ := hg
  refine ex1 (listB_inv hg) fun ds q__36_1 => an3 q__36_1 fun e__36_1 hd hs => ?_
  subst e__36_1
  have hlen := inn_len (ah := ah) hg
  have hall := inn_pln (g := g) (ah := ah) hp
  have hps := pln_tup.mp hp
  rw [inn_eq] at hQ hlen hall
  refine ⟨rfl, ?_⟩; show wSs Γ 60 t32 (b32.drop 0) [some (.tup ds), some (.tup (dN ah)), none, none, none, none, none, none] st _ _
  refine ss_at rfl ?_; dsimp only [f_list, f_nil, f_asgN, f_tn, se_s, se_0, mk_t, p32_2]
  refine ⟨by decide, ?_⟩
  refine ss_at rfl ?_; dsimp only [f_name, f_call, f_nil, f_cons, f_for, f_icl, wName, lk_0, ev_s, pl_a, ns_n, s1, s3, nf, ta, cond_true, cond_false, f_tgN, setN, p32_0, p32_3, p32_5, p32_6, q32]
  refine b_len rfl hps.1 (i_range' (Nat.le_trans hd (by decide)) ?_)
  dsimp only [hide_no, back_no]
  generalize hT : walkR (subF g) 0 (parts (D.tup ds)) ah = tot at hQ hlen hall
  have hl0 : ah.length ≤ 1000 := ah1 hl
  have hl1 : ∀ {k : Nat}, (ah ++ [k]).length ≤ 1000 := ah2 hl
  have hl2 : ∀ {g' k j : Nat}, g = g' + 1 → ((ah ++ [k]) ++ [j]).length + 2 * g' ≤ 900 := fun h => ah3 hl h
  have hlp : ∀ d ∈ tot.map pD, d.pln = true := fun d hd => by
    obtain ⟨x, hx, rfl⟩ := List.mem_map.mp hd
    exact pD_pln (hall x hx).1 (ah4 hl (hall x hx).2)
  have hl3 : tot.length ≤ 1000 := by rw [hlen]; exact hn
  have hb0 : ∀ {a b : List Pth}, a ++ b = tot → (a.map pD).length ≤ 1000 ∧ ∀ d ∈ a.map pD, d.pln = true := by
    intro a b h
    refine ⟨Nat.le_trans ?_ hl3, fun d hd => hlp d ?_⟩
    · rw [← h, List.length_append, List.length_map]; exact Nat.le_add_right _ _
    · rw [← h, List.map_append]; exact List.mem_append_left _ hd
  clear hall hlen hp hg hl
  refine (fun z : ∀ (es : List D) (k c nn : Nat) (done : List Pth) (st1 : St) (o p : Option D), (∀ i, es[i]? = ds[k + i]?) → sumO (rowD m g) es = some c → c ≤ 1000 → done ++ walkR (subF g) k es ah = tot → Acc st st1 nn (done.map pD) →
    wFor _ (dN (List.range' k es.length)) [some (.tup ds), some (.tup (dN ah)), some (.loc nn), o, p, none, none, none] st1 _ => z ds 0 n st.hi [] _ none none (fun i => by rw [Nat.zero_add]) hs hn hT (acc_0 hw fun _ h => nomatch h)) ?_
  clear hs hn hT
  intro es
  induction es with
  | nil =>
    intro k c nn done st1 o p _ _ _ hd ha
    rw [walkR_n, List.append_nil] at hd
    subst hd
    show wFor _ [] _ _ _
    dsimp only [f_tn, wf_n]
    refine ss_at rfl ?_; dsimp only [f_name, f_ret, f_tr, wName, lk_s, lk_0, ev_s, p32_2]
    exact fin_l hw ha.ext ha.lo ha.cs hlp hQ
  | cons x es ih =>
    intro k c nn done st1 o p hp hs hc hd ha
    have hx0 : ds[k]? = some x := (hp 0).symm
    have hps' : ∀ i, es[i]? = ds[k + 1 + i]? := fun i => by rw [Nat.add_assoc, Nat.add_comm 1 i, ← hp]; rfl
    refine ex2 (sumO_c hs) fun a b q__78_1 => an3 q__78_1 fun hx hy e__78_4 => ?_
    subst e__78_4
    obtain ⟨r, rfl, hr⟩ := row_w (hps.2 x (List.mem_of_getElem? hx0)) (Nat.le_trans (Nat.le_add_right _ _) hc) hx
    have hc' : b ≤ 1000 := Nat.le_trans (Nat.le_add_left _ _) hc
    have hit : ∀ {st' : St} {Q : D → St → Prop}, Q (.tup r) st' → wItem (.tup ds) (.int (k : Nat)) st' Q := fun h => it_nn rfl rfl hps.1 hx0 h
    have hd1 : (done ++ [(ah ++ [k], D.tup r)]) ++ (((kids (.tup r)).flatMap fun p => subF g p.2 ((ah ++ [k]) ++ [p.1])) ++ walkR (subF g) (k + 1) es ah) = tot := by
      rw [← hd, walkR_c, List.append_assoc]; rfl
    have e0 : (done ++ [(ah ++ [k], D.tup r)]).map pD = done.map pD ++ [.tup [.tup (dN (ah ++ [k])), .tup r]] := by rw [List.map_append]; rfl
    have hb1 := hb0 hd1
    show wFor _ (.int (k : Nat) :: dN (List.range' (k + 1) es.length)) _ _ _
    dsimp only [se_s, se_0, wf_c]
    refine su ?_; dsimp only [f_name, f_bin, f_tup, f_nil, f_cons, f_asgN, f_tn, wName, lk_s, lk_0, se_s, se_0, ev_s, p32_1, p32_3, p32_4]
    refine ⟨l_1, add_k hl0 ?_⟩
    refine su ?_; dsimp only [f_name, f_meth, f_tup, f_nil, f_cons, f_expr, f_itemN, f_tn, wName, lk_s, lk_0, ev_s, ns_c, ns_n, s7, c1, n1, nf, ta, cond_true, p32_0, p32_2, p32_3, p32_4, q32]
    refine bif_t rfl (meth_app ha.cs ?_)
    dsimp only []
    refine hit ⟨l_2, meth_do ha.cs (le_app e0 hb1.1) ?_⟩
    rw [← e0]
    have ha := acc_put (L' := (done ++ [(ah ++ [k], D.tup r)]).map pD) ha (pln_vals hb1.2)
    revert ha
    generalize st1.put nn (.list ((done ++ [(ah ++ [k], D.tup r)]).map pD)) = st1
    intro ha
    refine su ?_; dsimp only [f_int, f_str, f_name, f_c1, f_tc, f_if, f_ssn, f_itemC, f_itemN, f_tn, wName, lk_s, lk_0, ev_s, p32_0, p32_3]
    refine hit (it_k (k := 0) 0 rfl hr.pos hr.lim ?_)
    rw [hr.str]
    dsimp only [q_seq]
    refine ite_b (fun e' => ?_) fun e' => ?_
    · refine su ?_; dsimp only [f_int, f_name, f_bin, f_call, f_tup, f_nil, f_cons, f_asgN, f_ssn, f_itemC, f_itemN, f_tn, wName, lk_s, lk_0, se_s, se_0, ev_s, pl_a, ns_c, ns_n, s4, s6, nf, ta, cond_true, cond_false, p32_0, p32_2, p32_3, p32_4, p32_7, q32]
      have h4 := hr.four (.inl e')
      obtain ⟨y, hy1, hy2⟩ := hr.kid _ (kid_if e').1
      obtain ⟨g', hgg, hg'⟩ := sub_good hy2 hy1
      obtain ⟨y, hy1, hy2⟩ := hr.kid _ (kid_if e').2
      obtain ⟨g2, h2, hg2⟩ := sub_good hy2 hy1
      cases hgg.symm.trans h2
      obtain ⟨S, hS, hS'⟩ := hL g' hgg
      rw [w_if e', ← List.append_assoc, sub_eq hgg] at hd
      have hb := hb0 hd
      have e1 : (done ++ (ah ++ [k], D.tup r) :: (inn g' (at_ r 2) ((ah ++ [k]) ++ [0]) ++ inn g' (at_ r 3) ((ah ++ [k]) ++ [1]))).map pD = (done ++ [(ah ++ [k], D.tup r)]).map pD ++ (inn g' (at_ r 2) ((ah ++ [k]) ++ [0])).map pD ++ (inn g' (at_ r 3) ((ah ++ [k]) ++ [1])).map pD := by simp only [List.map_append, List.map_cons, List.map_nil, List.append_assoc, List.cons_append, List.nil_append]
      refine hit (it_k (k := 2) 2 rfl (lt4 h4) hr.lim ?_)
      refine ⟨l_1, add_k (k := 0) hl1 ⟨S, hS, hS' m _ _ _ _ _ (pl_at 2 hr.pln) ha.ext.wf hg' (hl2 hgg) (add_l (lst_loc ha.cs) rfl (mkl rfl (le_app e1 hb.1) ?_))⟩⟩
      refine hit (it_k (k := 3) 3 rfl (lt4 h4) hr.lim ?_)
      refine ⟨l_1, add_k (k := 1) hl1 ⟨S, hS, hS' m _ _ _ _ _ (pl_at 3 hr.pln) ha.ext.wf hg2 (hl2 hgg) (add_l rfl rfl (mkt e1.symm hb.1 ?_))⟩⟩
      refine su ?_; dsimp only [f_int, f_str, f_name, f_c1, f_tc, f_if, f_ssn, f_itemC, f_itemN, f_tn, wName, lk_s, lk_0, ev_s, nf_n, p32_0, p32_3]
      refine hit (it_k (k := 0) 0 rfl hr.pos hr.lim ?_)
      rw [hr.str]
      dsimp only [q_seq]
      rw [hr.fine e']
      refine ite_f ?_
      exact ih _ _ _ _ _ _ _ hps' hy hc' (by rw [sub_eq hgg]; exact hd) (acc_new ha hb.2)
    · refine su ?_; dsimp only [f_int, f_str, f_name, f_c1, f_tc, f_if, f_ssn, f_itemC, f_itemN, f_tn, wName, lk_s, lk_0, ev_s, nf_n, p32_0, p32_3]
      refine hit (it_k (k := 0) 0 rfl hr.pos hr.lim ?_)
      rw [hr.str]
      dsimp only [q_seq]
      refine ite_b (fun e => ?_) fun e => ?_
      · refine su ?_; dsimp only [f_int, f_name, f_bin, f_call, f_tup, f_nil, f_cons, f_asgN, f_ssn, f_itemC, f_itemN, f_tn, wName, lk_s, lk_0, se_s, se_0, ev_s, pl_a, ns_c, ns_n, s4, s6, nf, ta, cond_true, cond_false, nf_n, p32_0, p32_2, p32_3, p32_4, p32_7, q32]
        have h4 := hr.four (.inr e)
        obtain ⟨y, hy1, hy2⟩ := hr.kid _ (kid_loop e' e)
        obtain ⟨g', hgg, hg'⟩ := sub_good hy2 hy1
        obtain ⟨S, hS, hS'⟩ := hL g' hgg
        rw [w_loop e' e, ← List.append_assoc, sub_eq hgg] at hd
        have hb := hb0 hd
        have e1 : (done ++ (ah ++ [k], D.tup r) :: inn g' (at_ r 3) ((ah ++ [k]) ++ [0])).map pD = (done ++ [(ah ++ [k], D.tup r)]).map pD ++ (inn g' (at_ r 3) ((ah ++ [k]) ++ [0])).map pD := by rw [List.append_cons, List.map_append]
        refine hit (it_k (k := 3) 3 rfl (lt4 h4) hr.lim ?_)
        refine ⟨l_1, add_k (k := 0) hl1 ⟨S, hS, hS' m _ _ _ _ _ (pl_at 3 hr.pln) ha.ext.wf hg' (hl2 hgg) (add_l (lst_loc ha.cs) rfl (mkt e1.symm hb.1 ?_))⟩⟩
        exact ih _ _ _ _ _ _ _ hps' hy hc' (by rw [sub_eq hgg]; exact hd) (acc_new ha hb.2)
      · rw [w_no e' e, List.append_cons] at hd
        exact ih _ _ _ _ _ _ _ hps' hy hc' hd ha
end Mine
end

section
set_option autoImplicit false
set_option linter.unusedVariables false
set_option linter.unusedSimpArgs false
set_option maxRecDepth 100000
namespace Mine
open PySem
inductive Fr : D → List Nat → D → Prop
  | top {ds : List D} {k : Nat} {r : D} : ds.length ≤ lim → ds[k]? = some r → Fr (.tup ds) [k] r
  | sub {ds : List D} {k j : Nat} {r : List D} {d : D} {q : List Nat} {r' : D} : ds.length ≤ lim → ds[k]? = some (.tup r) → at_ r 0 = .str (wordD (.tup r)) → r.length = 4 → (j, d) ∈ kids (.tup r) → Fr d q r' → Fr (.tup ds) (k :: j :: q) r'
/-- where rows_of leads -/
inductive FrS (R : D) : List Nat → D → Prop
  | here : FrS R [] R
  | sub {p : List Nat} {r : List D} {j : Nat} {d : D} : Fr R p (.tup r) → at_ r 0 = .str (wordD (.tup r)) → r.length = 4 → (j, d) ∈ kids (.tup r) → FrS R (p ++ [j]) d
theorem fr_inv {R : D} {p : List Nat} {r : D} (h : Fr R p r) : ∃ q k ds, p = q ++ [k] ∧ FrS R q (.tup ds) ∧ ds.length ≤ lim ∧ ds[k]? = some r := by
  induction h with
  | top h1 h2 => exact ⟨[], _, _, rfl, .here, h1, h2⟩
  | sub h1 h2 h3 h4 h5 h6 ih =>
    revert ih; intro z__18
    refine ex3 (z__18) fun q k ds q__18_1 => an4 q__18_1 fun e__18_3 hf hl hk => ?_
    clear z__18
    subst e__18_3
    refine ⟨_ :: _ :: q, k, ds, rfl, ?_, hl, hk⟩
    cases hf with
    | here => exact FrS.sub (p := [_]) (.top h1 h2) h3 h4 h5
    | sub g1 g2 g3 g4 => exact FrS.sub (p := _ :: _ :: _) (.sub h1 h2 h3 h4 h5 g1) g2 g3 g4
theorem inn_fr {m g : Nat} {d : D} {ah : List Nat} (hp : d.pln = true) (h : Good m g d) : ∀ x ∈ inn g d ah, ∃ q, x.1 = ah ++ q ∧ Fr d q x.2 := by
  induction g generalizing d ah with
  | zero =>
    obtain ⟨n, hn, h⟩ := h
    refine ex1 (listB_inv h) fun ds q__27_1 => an3 q__27_1 fun e__27_1 hd hs => ?_
    subst e__27_1
    refine walk_all fun i d' hi => ⟨⟨[0 + i], rfl, .top (pln_tup.mp hp).1 (by rw [Nat.zero_add]; exact hi)⟩, fun p _ x hx => nomatch hx⟩
  | succ g ih =>
    obtain ⟨n, hn, h⟩ := h
    refine ex1 (listB_inv h) fun ds q__31_1 => an3 q__31_1 fun e__31_1 hd hs => ?_
    subst e__31_1
    have hps := pln_tup.mp hp
    refine walk_all fun i d' hi => ⟨⟨[0 + i], rfl, .top hps.1 (by rw [Nat.zero_add]; exact hi)⟩, fun p hpk x hx => ?_⟩
    obtain ⟨c, hc, hc'⟩ := sumO_le hs d' (List.mem_of_getElem? hi)
    obtain ⟨r, rfl, hr⟩ := row_w (hps.2 _ (List.mem_of_getElem? hi)) (Nat.le_trans hc hn) hc'
    obtain ⟨y, hy, hy'⟩ := hr.kid p hpk
    obtain ⟨q, e1, e2⟩ := ih (kid_pln (hps.2 _ (List.mem_of_getElem? hi)) p hpk) ⟨y, hy, hy'⟩ x hx
    refine ⟨(0 + i) :: p.1 :: q, by rw [e1, List.append_assoc, List.append_assoc]; rfl, .sub (j := p.1) (d := p.2) hps.1 (by rw [Nat.zero_add]; exact hi) hr.str (hr.four ?_) hpk e2⟩
    rw [kids, kidsW] at hpk
    cases e : (wordD (.tup r) == "if") with
    | true => exact .inl rfl
    | false =>
      cases e' : (wordD (.tup r) == "loop") with
      | true => exact .inr rfl
      | false => rw [e, e'] at hpk; exact nomatch hpk
noncomputable def HasM (Γ : Ctx) (C : Value) (x : Str) (Sp : FSpec → Prop) : Prop := ∃ S, Γ.me C x = some S ∧ Sp S
noncomputable def SpRowsOf (C : Value) (L : Nat) (S : FSpec) : Prop := ∀ (n : Nat) (xs : List D) (R : D) (q : List Nat) (d : D) (st : St) (Q : D → St → Prop) (X : XP), st.cs n = some (prog xs R) → isValD R = false → q.length ≤ 2 * L → FrS R q d → Q d st → S [.inst C n, .tup (dN q)] st Q X
noncomputable def SpRowM (C : Value) (L : Nat) (S : FSpec) : Prop := ∀ (n : Nat) (xs : List D) (R : D) (p : List Nat) (d : D) (st : St) (Q : D → St → Prop) (X : XP), st.cs n = some (prog xs R) → isValD R = false → p.length ≤ 2 * L + 1 → Fr R p d → Q d st → S [.inst C n, .tup (dN p)] st Q X
theorem fm_range {l : List D} {f : Nat → Option D} : ∀ b, b ≤ l.length → (∀ k, k < b → f k = l[k]?) → (List.range b).filterMap f = l.take b := by
  intro b
  induction b with
  | zero => intro _ _; rfl
  | succ b ih =>
    intro hb h
    have e := h b (Nat.lt_succ_self b)
    rw [List.getElem?_eq_getElem hb] at e
    rw [List.range_succ, List.filterMap_append, ih (Nat.le_of_succ_le hb) fun k hk => h k (Nat.lt_succ_of_lt hk), List.take_add_one, List.getElem?_eq_getElem hb, List.filterMap_cons_some e]; rfl
theorem sp_ab {a b : Nat} (h : a ≤ b) : Builtin.Slice.slicePlaces (a : Int) (b : Int) 1 = b - a := by
  rw [Builtin.Slice.slicePlaces, if_pos (by decide), Int.ediv_one, Int.sub_add_cancel]
  split
  · exact Int.toNat_sub b a
  · next z => rw [Nat.le_antisymm (Int.ofNat_le.mp (Int.not_lt.mp z)) h, Nat.sub_self]; rfl
theorem tup_gen {xs : List D} {lo hi : Option Int} (a b : Nat) (h1 : Builtin.Slice.sliceAdjust lo hi 1 xs.length = ((a : Int), (b : Int))) (hab : a ≤ b) (hb : b ≤ xs.length) : tupS xs lo hi = (xs.take b).drop a := by
  unfold tupS
  rw [h1]
  have e2 : ((xs.take b).drop a).length = b - a := by rw [List.length_drop, List.length_take, Nat.min_eq_left hb]
  rw [sp_ab hab, ← e2]
  refine (fm_range (l := (xs.take b).drop a) _ (Nat.le_refl _) fun k hk => ?_).trans (List.take_length ..)
  rw [e2] at hk
  rw [List.getElem?_drop, List.getElem?_take_of_lt (Nat.add_lt_of_lt_sub' hk), Int.mul_one]
  rfl
theorem nneg {k : Nat} : ¬ ((k : Int) < 0) := Int.not_lt.mpr (Int.natCast_nonneg k)
/-- xs[k:] -/
theorem tupS_from {xs : List D} {k : Nat} (h : k ≤ xs.length) : tupS xs (some (k : Int)) none = xs.drop k := by
  rw [tup_gen k xs.length ?_ h (Nat.le_refl _), List.take_length]
  simp only [Builtin.Slice.sliceAdjust, nneg, if_false]
  show (min (k : Int) (xs.length : Int), (xs.length : Int)) = _
  rw [Int.min_eq_left (Int.ofNat_le.mpr h)]
/-- xs[:k] -/
theorem tupS_to {xs : List D} {k : Nat} (h : k ≤ xs.length) : tupS xs none (some (k : Int)) = xs.take k := by
  rw [tup_gen 0 k ?_ (Nat.zero_le _) h]
  · rfl
  simp only [Builtin.Slice.sliceAdjust, nneg, if_false]
  show ((0 : Int), min (k : Int) (xs.length : Int)) = _
  rw [Int.min_eq_left (Int.ofNat_le.mpr h)]; rfl
theorem tupS_init {xs : List D} {n : Nat} (h : xs.length = n + 1) : tupS xs none (some (-1)) = xs.dropLast := by
  rw [tup_gen 0 n ?_ (Nat.zero_le _) (by rw [h]; exact Nat.le_succ _), List.dropLast_eq_take, h]; · rfl
  rw [h]
  unfold Builtin.Slice.sliceAdjust
  dsimp only
  rw [if_neg (by decide), if_neg (by decide), if_pos (by decide)]
  refine Prod.ext rfl ?_
  show max (-1 + ((n + 1 : Nat) : Int)) 0 = (n : Int)
  rw [Int.natCast_add, Int.add_comm, Int.natCast_one, Int.add_neg_cancel_right]
  exact Int.max_eq_left (Int.natCast_nonneg n)
theorem dN_init {q : List Nat} {k : Nat} : (dN (q ++ [k])).dropLast = dN q := by
  rw [dN, List.map_append, List.map_cons, List.map_nil, List.dropLast_concat]
theorem sl_init {trk : Bool} {q : List Nat} {k : Nat} {st : St} {Q : D → St → Prop} (hl : (q ++ [k]).length ≤ 1000) (h : Q (.tup (dN q)) st) : wSlice trk (.tup (dN (q ++ [k]))) .none (.int (-1)) .none st Q := by
  have hl' : (dN (q ++ [k])).length ≤ lim := by rw [List.length_map]; exact Nat.le_trans hl (by decide)
  refine ⟨none, some (-1), none, rfl, rfl, rfl, nofun, rfl, hl', ?_⟩
  rw [tupS_init (n := q.length) (by rw [List.length_map, List.length_append]; rfl), dN_init]; exact h
theorem it_last {q : List Nat} {k : Nat} {st : St} {Q : D → St → Prop} (hl : (q ++ [k]).length ≤ 1000) (h : Q (.int (k : Int)) st) : wItem (.tup (dN (q ++ [k]))) (.int (-1)) st Q := by
  refine ⟨by decide, by decide, _, q.length, .int (k : Int), rfl, .inr rfl, ?_, by rw [dN, List.map_append, List.getElem?_append_right (by rw [List.length_map]; exact Nat.le_refl _), List.length_map, Nat.sub_self]; rfl, h⟩
  rw [List.length_map, List.length_append]
  simp [seqIndex?]
  omega
theorem two_l {n L : Nat} (h : n + 1 ≤ 2 * L) : ∃ L', L = L' + 1 ∧ n ≤ 2 * L' + 1 := by
  cases L with
  | zero => exact absurd h (Nat.not_succ_le_zero _)
  | succ L => exact ⟨L, rfl, Nat.le_of_succ_le_succ h⟩
noncomputable def pysC : Option PyData → Option (List PyData) → Option (List PyData)
  | some x, some xs => some (x :: xs)
  | _, _ => none
theorem pys_c {d : D} {ds : List D} : pys (d :: ds) = pysC (D.py d) (pys ds) := rfl
theorem D.py_t {ds : List D} : D.py (.tup ds) = (pys ds).map .tuple := rfl
theorem D.py_l {ds : List D} : D.py (.list ds) = (pys ds).map .list := rfl
theorem py_s3 {st : St} {ds : List D} {x : PyData} {k : Nat} (h : D.py (.tup ds) = some x) : pyD st (k + 1) (.tup ds) = some x := by
  show (match D.py (.tup ds) with | some x => some x | none => _) = _
  rw [h]
theorem py_s4 {st : St} {ds : List D} {x : PyData} {k : Nat} (h : D.py (.list ds) = some x) : pyD st (k + 1) (.list ds) = some x := by
  show (match D.py (.list ds) with | some x => some x | none => _) = _
  rw [h]
theorem py_dN {st : St} {q : List Nat} : pyD st 3 (.tup (dN q)) = some (.tuple (q.map fun k : Nat => .int (k : Int))) := by
  have h : pys (dN q) = some (q.map fun k : Nat => .int (k : Int)) := by
    induction q with
    | nil => rfl
    | cons a r ih => show pysC (D.py (.int (a : Int))) (pys (dN r)) = _; rw [ih]; rfl
  refine py_s3 ?_
  rw [show D.py (.tup (dN q)) = some (.tuple (q.map fun k : Nat => .int (k : Int))) by rw [D.py_t, h]; rfl]
theorem q_nil {st : St} {q : List Nat} {K : Bool → Prop} (h1 : q = [] → K true) (h2 : q ≠ [] → K false) : wCmp1 .Eq (.tup (dN q)) (.tup []) st K := by
  refine ⟨_, .tuple [], py_dN, rfl, Nat.le_trans (Nat.min_le_right _ _) (by simp [PyData.depth, PyData.depthAll]), ?_⟩
  cases q with
  | nil => exact h1 rfl
  | cons a r => exact h2 nofun
theorem m_obj {Γ : Ctx} {C : Value} {nm : Str} {n : Nat} {xs : List D} {R : D} {st : St} {Q : D → St → Prop} {X : XP} {args : (List D → St → Prop) → Prop} {S : FSpec} (hc : Γ.cl C) (h1 : st.cs n = some (prog xs R)) (h2 : (prL xs R).lookup nm = none) (h3 : Γ.me C nm = some S) (h : args fun ds st2 => S (.inst C n :: ds) st2 Q X) : wCallM Γ false nm (.inst C n) st args Q X :=
  .inr ⟨rfl, C, prL xs R, S, by rw [obj_c, h1]; rfl, h2, hc, h3, h⟩
theorem pr_no {xs : List D} {R : D} {nm : Str} (h1 : (nm == "tops") = false) (h2 : (nm == "rows") = false) : (prL xs R).lookup nm = none := by
  rw [prL, List.lookup_cons, h1, List.lookup_cons, h2]; rfl
noncomputable def t19_1 : Tb := tb [("self", .local), ("place", .local), ("rows_of", .globalImplicit)] []
noncomputable abbrev b19_1 : List Stmt := bodyM 19 1
theorem p19_1_0 : t19_1.pl "self" = .loc 0 true false := rfl
theorem p19_1_1 : t19_1.pl "place" = .loc 1 true false := rfl
theorem p19_1_2 : t19_1.pl "rows_of" = .gl (.fn) := rfl
theorem q19_1 : t19_1.hq = false := rfl
theorem rowm_ok {Γ : Ctx} {C : Value} {L : Nat} (hL : L ≤ 400) (hO : Has Γ "rows_of" (SpRowsOf C L)) : SpRowM C L (wFn Γ 60 t19_1 2 b19_1) := by
  intro n xs R p d st Q X h1 h2 h3 h4 hQ
  obtain ⟨O, hO, hO'⟩ := hO
  refine ex3 (fr_inv h4) fun q k ds q__148_1 => an4 q__148_1 fun e__148_3 hf hl hk => ?_
  subst e__148_3
  have hl1 : (q ++ [k]).length ≤ 1000 := Nat.le_trans h3 (Nat.le_trans (Nat.add_le_add_right (Nat.mul_le_mul_left 2 hL) 1) (by decide))
  refine ⟨rfl, ?_⟩; show wSs Γ 60 t19_1 (b19_1.drop 0) [some (.inst C n), some (.tup (dN (q ++ [k]))), none] st _ _
  refine ss_at rfl ?_; dsimp only [f_int, f_name, f_un, f_call, f_slice, f_nil, f_cons, f_on, f_os, f_ret, f_itemU, f_itemS, f_tr, wName, lk_s, lk_0, ev_s, pl_a, ns_c, ns_n, s1, s6, nf, ta, cond_true, cond_false, x_neg, p19_1_0, p19_1_1, p19_1_2, q19_1]
  refine sl_init hl1 ?_
  refine ⟨O, hO, hO' _ _ _ _ _ _ _ _ h1 h2 (by rw [List.length_append] at h3; exact Nat.le_of_succ_le_succ h3) hf (it_last hl1 ?_)⟩
  exact it_nn rfl rfl hl hk (fin_k hQ)
noncomputable def t20 : Tb := tb [("program", .local), ("ahead", .local), ("row", .local)] []
noncomputable abbrev b20 : List Stmt := bodyOf 20
theorem p20_0 : t20.pl "program" = .loc 0 true false := rfl
theorem p20_1 : t20.pl "ahead" = .loc 1 true false := rfl
theorem p20_2 : t20.pl "row" = .loc 2 true false := rfl
theorem q20 : t20.hq = false := rfl
theorem rowsof_ok {Γ : Ctx} {C : Value} {L : Nat} (hL : L ≤ 400) (hc : Γ.cl C) (hR : ∀ L', L = L' + 1 → HasM Γ C "row" (SpRowM C L')) : SpRowsOf C L (wFn Γ 60 t20 2 b20) := by
  intro n xs R q d st Q X h1 h2 h3 h4 hQ
  refine ⟨rfl, ?_⟩; show wSs Γ 60 t20 (b20.drop 0) [some (.inst C n), some (.tup (dN q)), none] st _ _
  refine ss_at rfl ?_; dsimp only [f_name, f_tup, f_nil, f_c1, f_tc, f_if, f_ssn, f_tn, wName, lk_s, lk_0, ev_s, p20_1]
  cases h4 with
  | here =>
    refine ⟨by decide, q_nil (fun _ => ite_t ?_) fun z => absurd rfl z⟩
    refine su ?_; dsimp only [f_name, f_attr, f_ret, f_tr, wName, lk_0, ev_s, n1, cond_true, p20_0]
    exact at_ns h1 hc pr_r (by decide +kernel) h2 (fin_k hQ)
  | @sub p r j d f1 f2 f3 f4 =>
    refine ⟨by decide, q_nil (fun z => absurd z (by simp)) fun z => ite_f ?_⟩
    have hl1 : (p ++ [j]).length ≤ 1000 := Nat.le_trans h3 (Nat.le_trans (Nat.mul_le_mul_left 2 hL) (by decide))
    rw [List.length_append] at h3
    have h3 : p.length + 1 ≤ 2 * L := h3
    obtain ⟨L', rfl, h3'⟩ := two_l h3
    obtain ⟨S, hS, hS'⟩ := hR L' rfl
    refine ss_at rfl ?_; dsimp only [f_int, f_name, f_un, f_meth, f_slice, f_nil, f_cons, f_on, f_os, f_asgN, f_tn, wName, lk_s, lk_0, se_s, se_0, ev_s, ns_c, ns_n, s6, n1, nf, ta, x_neg, p20_0, p20_1, p20_2, q20]
    refine bif_t rfl (m_obj hc h1 (pr_no (by decide +kernel) (by decide +kernel)) hS ?_)
    dsimp only []
    refine sl_init hl1 ?_
    refine hS' _ _ _ _ _ _ _ _ h1 h2 h3' f1 ?_
    refine ss_at rfl ?_; dsimp only [f_int, f_str, f_name, f_c1, f_tc, f_if, f_ssn, f_itemC, f_tn, wName, lk_s, lk_0, ev_s, p20_2]
    have hlim : r.length ≤ lim := by rw [f3]; decide
    refine it_k (k := 0) 0 rfl (lt4 f3) hlim ?_
    rw [f2]
    dsimp only [q_seq]
    rw [kids, kidsW] at f4
    refine ite_b (fun e => ?_) fun e => ?_
    · rw [e, show (wordD (.tup r) == "if") = false by rw [eq_of_beq e]; decide +kernel] at f4
      cases f4 with
      | head =>
        refine su ?_; dsimp only [f_int, f_name, f_ret, f_itemC, f_tr, wName, lk_s, lk_0, ev_s, p20_2]
        exact it_k (k := 3) 3 rfl (lt4 f3) hlim (fin_k hQ)
      | tail _ z => exact nomatch z
    · rw [e] at f4
      cases e' : (wordD (.tup r) == "if") with
      | false => rw [e'] at f4; exact nomatch f4
      | true =>
        rw [e'] at f4
        refine ss_at rfl ?_; dsimp only [f_int, f_name, f_bin, f_un, f_ret, f_itemB, f_itemU, f_tr, wName, lk_s, lk_0, ev_s, x_neg, p20_1, p20_2]
        refine it_last hl1 ?_
        dsimp only [x_add]
        cases f4 with
        | head => exact it_k (k := 2) _ rfl (lt4 f3) hlim (fin_k hQ)
        | tail _ z => cases z with
          | head => exact it_k (k := 3) _ rfl (lt4 f3) hlim (fin_k hQ)
          | tail _ z => exact nomatch z
end Mine
end

section
set_option autoImplicit false
set_option linter.unusedVariables false
set_option linter.unusedSimpArgs false
set_option maxRecDepth 100000
namespace Mine
open PySem
noncomputable def fits : Option Nat → Bool
  | some k => decide (k ≤ 12)
  | none => false
noncomputable def okP (xs : List D) (rows : D) : Bool := topsD xs && fits (listB (rowD xs.length 3) rows)
/-- how a call of Program ends -/
noncomputable def SpProg (CB C : Value) (S : FSpec) : Prop := ∀ (t rows : D) (st : St) (Q : D → St → Prop) (X : XP), WfSt st → rows.pln = true →
  ((∃ xs, lstD st t = some xs ∧ xs.length ≤ lim ∧ (∀ d ∈ xs, d.pln = true) ∧ (if okP xs rows then Q (.inst C st.hi) (st.alloc (prog xs rows)) else X CB st)) ∨ (t.pln = true ∧ isLi t = false ∧ X CB st)) → S [t, rows] st Q X
noncomputable def SpInit (CB C : Value) (S : FSpec) : Prop := ∀ (t rows : D) (n : Nat) (st : St) (Q : D → St → Prop) (X : XP), WfSt st → rows.pln = true → st.cs n = some (.ns []) →
  ((∃ xs, lstD st t = some xs ∧ xs.length ≤ lim ∧ (∀ d ∈ xs, d.pln = true) ∧ (if okP xs rows then Q .none (st.put n (prog xs rows)) else X CB st)) ∨ (t.pln = true ∧ isLi t = false ∧ X CB st)) → S [.inst C n, t, rows] st Q X
theorem put_put {st : St} {n : Nat} {a b : Cell} : (st.put n a).put n b = st.put n b := by
  unfold St.put
  congr 1
  funext k
  dsimp only
  split <;> first | rfl | next h => rw [if_neg h]
theorem alloc_put {st : St} {a b : Cell} : (st.alloc a).put st.hi b = st.alloc b := by
  unfold St.put St.alloc
  congr 1
  funext k
  dsimp only
  split <;> first | rfl | next h => rw [if_neg h]
theorem set_at {Γ : Ctx} {nm : Str} {C : Value} {n : Nat} {es : List (Str × D)} {v : D} {st : St} {K : St → Prop} (hc : Γ.cl C) (h1 : st.cs n = some (.ns es)) (h2 : isAt nm = true) (h3 : es.lookup nm = none) (h4 : es.length ≤ 4) (h : K (st.put n (.ns (es ++ [(nm, v)])))) : wAttrS Γ nm (.inst C n) v st K := ⟨n, C, es, rfl, hc, h2, h1, h3, h4, h⟩
noncomputable def t19_0 : Tb := tb [("self", .local), ("tops", .local), ("rows", .local), ("need_tops", .globalImplicit), ("need", .globalImplicit), ("counted_rows", .globalImplicit), ("len", .globalImplicit), ("MOST_ROWS", .globalImplicit), ("list", .globalImplicit)] []
noncomputable abbrev b19_0 : List Stmt := bodyM 19 0
theorem p19_0_0 : t19_0.pl "self" = .loc 0 true false := rfl
theorem p19_0_1 : t19_0.pl "tops" = .loc 1 true false := rfl
theorem p19_0_2 : t19_0.pl "rows" = .loc 2 true false := rfl
theorem p19_0_3 : t19_0.pl "need_tops" = .gl (.fn) := rfl
theorem p19_0_4 : t19_0.pl "need" = .gl (.fn) := rfl
theorem p19_0_5 : t19_0.pl "counted_rows" = .gl (.fn) := rfl
theorem p19_0_6 : t19_0.pl "len" = .gl (.blt (.val (.builtin "len"))) := rfl
theorem p19_0_7 : t19_0.pl "MOST_ROWS" = .gl (.cst (.int 12)) := rfl
theorem p19_0_8 : t19_0.pl "list" = .gl (.blt (.val (.type "list"))) := rfl
theorem q19_0 : t19_0.hq = false := rfl
theorem init_ok {Γ : Ctx} {CB C : Value} (hc : Γ.cl C) (hN : Has Γ "need" (SpNeed CB)) (hT : Has Γ "need_tops" (SpTops CB)) (hR : Has Γ "counted_rows" (SpCount CB (fun m => listB (rowD m 3)) 0)) : SpInit CB C (wFn Γ 60 t19_0 3 b19_0) := by
  intro t rows n st Q X hw hp hn hQ
  obtain ⟨N, hN, hN'⟩ := hN
  obtain ⟨U, hU, hU'⟩ := hT
  obtain ⟨R, hR, hR'⟩ := hR
  have hX : X CB st → X CB (st.cut st.hi) := fun z => by rw [cut_wf hw]; exact z
  refine ⟨rfl, ?_⟩; show wSs Γ 60 t19_0 (b19_0.drop 0) [some (.inst C n), some (t), some (rows), none, none, none, none, none, none] st _ _
  refine ss_at rfl ?_; dsimp only [f_name, f_call, f_nil, f_cons, f_expr, f_tn, wName, lk_s, lk_0, ev_s, pl_a, ns_n, s1, c1, nf, ta, cond_true, cond_false, p19_0_1, p19_0_3, q19_0]
  refine ⟨U, hU, hU' _ _ _ _ hw ?_⟩
  obtain ⟨xs, h1, h2, h3, hQ⟩ | ⟨h1, h2, hQ⟩ := hQ
  · refine .inl ⟨xs, h1, h2, h3, ?_⟩
    unfold okP at hQ
    refine ite_b (fun h => ?_) fun h => ?_
    · rw [h, Bool.true_and] at hQ
      refine ss_at rfl ?_; dsimp only [f_int, f_name, f_cmp, f_call, f_nil, f_cons, f_c1, f_expr, f_tn, wName, lk_s, lk_0, ev_s, pl_a, ns_c, ns_n, s1, s2, s3, s9, c1, nf, ta, cond_true, cond_false, p19_0_1, p19_0_2, p19_0_4, p19_0_5, p19_0_6, p19_0_7, q19_0]
      refine b_len (lst_seq h1) h2 ?_
      refine ⟨R, hR, hR' _ _ _ _ _ hp hw ?_⟩
      show ends _ _ _ _ (listB (rowD xs.length 3) rows)
      cases hk : listB (rowD xs.length 3) rows with
      | none => rw [hk] at hQ; exact hX hQ
      | some k =>
        rw [hk] at hQ
        dsimp only [q_le, en_s]
        have hQ : if decide (k ≤ 12) = true then Q .none (st.put n (prog xs rows)) else X CB st := hQ
        rw [show decide ((k : Int) ≤ 12) = decide (k ≤ 12) from decide_eq_decide.mpr (by omega)]
        refine ⟨N, hN, nd hN' hw (fun h => hX (by rw [h] at hQ; exact hQ)) fun h => ?_⟩
        rw [h] at hQ
        refine ss_at rfl ?_; dsimp only [f_name, f_call, f_nil, f_cons, f_asgA, f_tn, wName, lk_s, lk_0, ev_s, pl_a, ns_n, s1, n1, nf, ta, cond_true, cond_false, p19_0_0, p19_0_1, p19_0_8, q19_0]
        refine b_list (lst_seq h1) ⟨h2, ?_⟩
        dsimp only [cond_false]
        refine set_at hc hn (by decide +kernel) rfl (by decide) ?_
        refine ss_at rfl ?_; dsimp only [f_name, f_asgA, f_tn, wName, lk_s, lk_0, ev_s, n1, cond_true, p19_0_0, p19_0_2]
        refine set_at hc pu_n (by decide +kernel) ?_ (by show 1 ≤ 4; decide) ?_
        · show List.lookup _ [(Str.ofString "tops", _)] = none
          rw [List.lookup_cons, show ((Str.ofString "rows") == (Str.ofString "tops")) = false by decide +kernel]; rfl
        · rw [put_put]
          exact ss_end rfl (.inl hQ)
    · rw [h] at hQ; exact hX hQ
  · exact .inr ⟨h1, h2, hX hQ⟩
theorem lst_alloc {st : St} {t : D} {c : Cell} {xs : List D} (hw : WfSt st) (h : lstD st t = some xs) : lstD (st.alloc c) t = some xs := by
  cases t with
  | loc n =>
    cases e : st.cs n with
    | none => rw [lst_c, e] at h; exact nomatch h
    | some c' =>
      have := (hw n c' e).1
      rw [lst_c, show (st.alloc c).cs n = st.cs n from if_neg (Nat.ne_of_lt this)]
      exact h
  | _ => exact h
theorem prog_of {CB C : Value} {S : FSpec} (h : SpInit CB C S) : SpProg CB C (wMake C S) := by
  intro t rows st Q X hw hp hQ
  have he : Ext st (st.alloc (.ns [])) := ext_alloc hw fun _ z => nomatch z
  have hx : X CB st → X CB ((st.alloc (.ns [])).cut st.hi) := fun z => by rw [cut_ext hw he]; exact z
  refine h t rows st.hi (st.alloc (.ns [])) _ _ he.wf hp al_hi ?_
  obtain ⟨xs, h1, h2, h3, hQ⟩ | ⟨h1, h2, hQ⟩ := hQ
  · refine .inl ⟨xs, lst_alloc hw h1, h2, h3, ?_⟩
    refine ite_b (fun h => ?_) fun h => ?_
    · rw [h] at hQ; rw [alloc_put]; exact ⟨rfl, hQ⟩
    · rw [h] at hQ; exact hx hQ
  · exact .inr ⟨h1, h2, hx hQ⟩
noncomputable def t19_2 : Tb := tb [("self", .local), ("loops_in", .globalImplicit)] []
noncomputable abbrev b19_2 : List Stmt := bodyM 19 2
theorem p19_2_0 : t19_2.pl "self" = .loc 0 true false := rfl
theorem p19_2_1 : t19_2.pl "loops_in" = .gl (.fn) := rfl
theorem q19_2 : t19_2.hq = false := rfl
noncomputable def SpLoopsM (C : Value) (S : FSpec) : Prop := ∀ (n m : Nat) (xs : List D) (d : D) (st : St) (Q : D → St → Prop) (X : XP), st.cs n = some (prog xs d) → d.pln = true → WfSt st → Good m 3 d →
  (∀ n st', Ext st st' → st.hi ≤ n → n < st'.hi → st'.cs n = some (.list (loopsL (inn 3 d []))) → Q (.loc n) st') → S [.inst C n] st Q X
theorem loopsm_ok {Γ : Ctx} {C : Value} (hc : Γ.cl C) (hL : Has Γ "loops_in" (SpLoops 3)) : SpLoopsM C (wFn Γ 60 t19_2 1 b19_2) := by
  intro n m xs d st Q X h1 h2 h3 h4 hQ
  obtain ⟨S, hS, hS'⟩ := hL
  refine ⟨rfl, ?_⟩; show wSs Γ 60 t19_2 (b19_2.drop 0) [some (.inst C n), none] st _ _
  refine ss_at rfl ?_; dsimp only [f_name, f_call, f_attr, f_tup, f_nil, f_cons, f_ret, f_tr, wName, lk_0, ev_s, pl_a, ns_c, ns_n, s7, s11, n1, nf, ta, cond_true, cond_false, p19_2_0, p19_2_1, q19_2]
  refine at_ns h1 hc pr_r (by decide +kernel) ?_ ?_
  · cases d with
    | val => exact ft h2
    | _ => rfl
  exact ⟨by decide, S, hS, hS' m d [] _ _ _ h2 h3 h4 (by decide) (.inr fun n st' a b c d => fin_k (hQ n st' a b c d))⟩
end Mine
end

section
set_option autoImplicit false
set_option linter.unusedVariables false
set_option linter.unusedSimpArgs false
set_option maxRecDepth 100000
namespace Mine
open PySem
theorem among_of {lo hi i : Int} (h1 : lo ≤ i) (h2 : i ≤ hi) : amongD lo hi (.int i) = true := by
  show (decide (lo ≤ i) && decide (i ≤ hi)) = true
  rw [decide_eq_true h1, decide_eq_true h2]; rfl
theorem sum_of {m : Nat} {ns : List D} {i : Int} (h1 : ns.length = m) (h2 : ∀ x ∈ ns, amongD (-9) 9 x = true) (h3 : -99 ≤ i) (h4 : i ≤ 99) : sumD m (.tup [.tup ns, .int i]) = true := by
  show ((ns.length == m && ns.all (amongD (-9) 9)) && amongD (-99) 99 (.int i)) = true
  rw [beq_iff_eq.mpr h1, List.all_eq_true.mpr h2, among_of h3 h4]; rfl
theorem am_inv {lo hi : Int} {d : D} (h : amongD lo hi d = true) : ∃ i, d = .int i ∧ lo ≤ i ∧ i ≤ hi := by
  cases d with
  | int i =>
    have h : (decide (lo ≤ i) && decide (i ≤ hi)) = true := h
    have h := Bool.and_eq_true_iff.mp h
    exact ⟨i, rfl, of_decide_eq_true h.1, of_decide_eq_true h.2⟩
  | _ => exact ft h
theorem sum_inv {m : Nat} {d : D} (h : sumD m d = true) : ∃ ns i, d = .tup [.tup ns, .int i] ∧ ns.length = m ∧ (∀ x ∈ ns, amongD (-9) 9 x = true) ∧ -99 ≤ i ∧ i ≤ 99 := by
  cases d with
  | tup xs =>
    match xs, h with
    | [a, b], h =>
      have h : (numsD m a && amongD (-99) 99 b) = true := h
      have h := Bool.and_eq_true_iff.mp h
      refine ex1 (am_inv h.2) fun i q__27_1 => an3 q__27_1 fun e__27_1 h3 h4 => ?_
      subst e__27_1
      cases a with
      | tup ns =>
        have h1 : (ns.length == m && ns.all (amongD (-9) 9)) = true := h.1
        have h1 := Bool.and_eq_true_iff.mp h1
        exact ⟨ns, i, rfl, eq_of_beq h1.1, List.all_eq_true.mp h1.2, h3, h4⟩
      | _ => exact ft h.1
    | [], h => exact ft h
    | [_], h => exact ft h
    | _ :: _ :: _ :: _, h => exact ft h
  | _ => exact ft h
theorem sum_pln {m : Nat} {d : D} (hm : m ≤ 1000) (h : sumD m d = true) : d.pln = true := by
  refine ex2 (sum_inv h) fun ns i q__39_1 => an5 q__39_1 fun e__39_2 h1 h2 _ _ => ?_
  subst e__39_2
  refine pln_tup.mpr ⟨l_2, fun d hd => ?_⟩
  cases hd with
  | head =>
    refine pln_tup.mpr ⟨by rw [h1]; exact Nat.le_trans hm (by decide), fun d hd => ?_⟩
    obtain ⟨i, rfl, _⟩ := am_inv (h2 d hd)
    rfl
  | tail _ hd => cases hd with
    | head => rfl
    | tail _ hd => exact nomatch hd
theorem rep_flat {x : D} {n : Nat} : (List.replicate n [x]).flatten = List.replicate n x := by
  induction n with
  | zero => rfl
  | succ n ih => rw [List.replicate_succ, List.flatten_cons, ih]; rfl
theorem mul_r {x : D} {n : Nat} {st : St} {Q : D → St → Prop} (hn : n ≤ 1000) (h : Q (.loc st.hi) (st.alloc (.list (List.replicate n x)))) : wBin true .Mult (.list [x]) (.int (n : Int)) st Q := by
  refine ⟨[x], rfl, Int.le_trans (by decide) (Int.natCast_nonneg n), Int.ofNat_lt.mpr (Nat.lt_of_le_of_lt hn (by decide)), Nat.le_refl _, ?_⟩
  rw [Int.toNat_natCast, rep_flat]
  exact ⟨by rw [List.length_replicate]; exact Nat.le_trans hn (by decide), h⟩
theorem set_k {n k : Nat} {i : Int} {v : D} {xs : List D} {st : St} {K : St → Prop} (hc : st.cs n = some (.list xs)) (hi : i = (k : Int)) (hk : k < xs.length) (hl : xs.length ≤ 1000) (h : K (st.put n (.list (xs.set k v)))) : wSetItem (.loc n) (.int i) v st K := by
  subst hi
  exact ⟨n, xs, rfl, hc, Int.natCast_nonneg _, Int.ofNat_lt.mpr hk, Nat.le_trans hl (by decide), by rw [Int.toNat_natCast]; exact h⟩
theorem mem_set {xs : List D} {k : Nat} {v x : D} (h : x ∈ xs.set k v) : x ∈ xs ∨ x = v := List.mem_or_eq_of_mem_set h
noncomputable def SpUnit (S : FSpec) : Prop := ∀ (m b : Nat) (x y : Int) (st : St) (Q : D → St → Prop) (X : XP), WfSt st → b < m → m ≤ 3 → -9 ≤ x → x ≤ 9 → -99 ≤ y → y ≤ 99 → (∀ d, sumD m d = true → Q d st) → S [.int m, .int b, .int x, .int y] st Q X
noncomputable def t26 : Tb := tb [("_law_many", .local), ("_law_box", .local), ("_law_number", .local), ("_law_more", .local), ("_law_numbers", .local), ("tuple", .globalImplicit)] ["_law_numbers"]
noncomputable abbrev b26 : List Stmt := bodyOf 26
theorem p26_0 : t26.pl "_law_many" = .loc 0 true false := rfl
theorem p26_1 : t26.pl "_law_box" = .loc 1 true false := rfl
theorem p26_2 : t26.pl "_law_number" = .loc 2 true false := rfl
theorem p26_3 : t26.pl "_law_more" = .loc 3 true false := rfl
theorem p26_4 : t26.pl "_law_numbers" = .loc 4 true true := rfl
theorem p26_5 : t26.pl "tuple" = .gl (.blt (.val (.type "tuple"))) := rfl
theorem q26 : t26.hq = false := rfl
theorem unit_ok {Γ : Ctx} : SpUnit (wFn Γ 60 t26 4 b26) := by
  intro m b x y st Q X hw hb hm h1 h2 h3 h4 hQ
  have hl : (List.replicate m (D.int 0)).length = m := List.length_replicate
  have hv : ∀ d ∈ (List.replicate m (D.int 0)).set b (.int x), amongD (-9) 9 d = true := fun d hd => by
    cases mem_set hd with
    | inl h => rw [(List.mem_replicate.mp h).2]; rfl
    | inr h => rw [h]; exact among_of h1 h2
  have hu : ∀ (ds : List D), (∀ d ∈ ds, amongD (-9) 9 d = true) → ∀ d ∈ ds, d.pln = true := fun ds h d hd => by
    obtain ⟨i, rfl, _⟩ := am_inv (h d hd); rfl
  refine ⟨rfl, ?_⟩; show wSs Γ 60 t26 (b26.drop 0) [some (.int m), some (.int b), some (.int x), some (.int y), none, none] st _ _
  refine ss_at rfl ?_; dsimp only [f_int, f_name, f_bin, f_list, f_nil, f_cons, f_asgN, f_tn, wName, lk_0, se_s, se_0, ev_s, mk_f, p26_0, p26_4]
  refine ⟨l_1, mul_r (Nat.le_trans hm (by decide)) ?_⟩
  refine ss_at rfl ?_; dsimp only [f_name, f_asgS, f_tn, wName, lk_s, lk_0, ev_s, l1, cond_false, p26_1, p26_2, p26_4]
  refine set_k al_hi rfl (by rw [hl]; exact hb) (by rw [hl]; exact Nat.le_trans hm (by decide)) ?_
  refine ss_at rfl ?_; dsimp only [f_name, f_call, f_tup, f_nil, f_cons, f_ret, f_tr, wName, lk_s, lk_0, ev_s, pl_a, ns_n, s1, nf, ta, cond_true, cond_false, p26_3, p26_4, p26_5, q26]
  have ha : Acc st _ st.hi _ := acc_put (L' := (List.replicate m (D.int 0)).set b (.int x)) (acc_0 (L := List.replicate m (.int 0)) hw fun d hd => by rw [(List.mem_replicate.mp hd).2]; rfl) (pln_vals (hu _ hv))
  have hl2 : ((List.replicate m (D.int 0)).set b (.int x)).length = m := by rw [List.length_set]; exact hl
  refine b_tuple (lst_loc ha.cs) (by rw [hl2]; exact Nat.le_trans hm (by decide)) ?_
  have hs := sum_of hl2 hv h3 h4
  exact ⟨l_2, fin_p hw ha.ext (sum_pln (Nat.le_trans hm (by decide)) hs) (hQ _ hs)⟩
end Mine
end

section
set_option autoImplicit false
set_option linter.unusedVariables false
set_option linter.unusedSimpArgs false
set_option maxRecDepth 100000
namespace Mine
open PySem
section
variable {Γ : Ctx} {T T' : Tb} {n : Nat} {trk : Bool} {l l' : Ev} {st : St} {Q : D → St → Prop} {X : XP}
theorem comp0 {elt t it : Expr} {sc : Scope} {p : Pos} (T' : Tb) (l' : Ev) (hs : (!T.hq && scopeB T.kd sc) = true) (hT : T.sub sc = T') (hl : into T l sc.names = l')
    (h : wIter Γ n T t it l st (fun items p st1 => wComp (fun d st2 k => wTarget T' t d l' fun l1 => wE Γ n T' trk elt l1 st2 (fun x st4 => k (some x) st4) noX) items [] (st1.hide p) fun acc st5 => mkList trk acc (st5.back st1 p) Q) X) :
    wE Γ (n + 1) T trk (.ListComp elt [⟨t, it, [], 0⟩] sc p) l st Q X := by
  subst hT hl; rw [f_comp]; exact bif_t hs h
theorem comp1 {elt t it c : Expr} {sc : Scope} {p : Pos} (T' : Tb) (l' : Ev) (hs : (!T.hq && scopeB T.kd sc) = true) (hT : T.sub sc = T') (hl : into T l sc.names = l')
    (h : wIter Γ n T t it l st (fun items p st1 => wComp (fun d st2 k => wTarget T' t d l' fun l1 => wT Γ n T' c l1 st2 (fun b st3 => if b then wE Γ n T' trk elt l1 st3 (fun x st4 => k (some x) st4) noX else k none st3) noX) items [] (st1.hide p) fun acc st5 => mkList trk acc (st5.back st1 p) Q) X) :
    wE Γ (n + 1) T trk (.ListComp elt [⟨t, it, [c], 0⟩] sc p) l st Q X := by
  subst hT hl; rw [f_comp]; exact bif_t hs h
theorem comp_all {step : D → St → (Option D → St → Prop) → Prop} {K : List D → St → Prop} (P : D → Prop) {items : List D} (h : ∀ d ∈ items, ∀ k : Option D → St → Prop, (∀ x, P x → k (some x) st) → step d st k) (hK : ∀ acc : List D, acc.length = items.length → (∀ x ∈ acc, P x) → K acc st) : wComp step items [] st K := by
  have : ∀ (ds acc : List D), (∀ d ∈ ds, d ∈ items) → acc.length + ds.length = items.length → (∀ x ∈ acc, P x) → wComp step ds acc st K := by
    intro ds
    induction ds with
    | nil => intro acc _ hl ha; exact hK acc hl ha
    | cons d ds ih =>
      intro acc hm hl ha
      refine h d (hm d (.head _)) _ fun x hx => ih (acc ++ [x]) (fun d hd => hm d (.tail _ hd)) ?_ fun y hy => ?_
      · rw [List.length_append]; simp only [List.length_cons, List.length_nil] at hl ⊢; omega
      · cases List.mem_append.mp hy with
        | inl h => exact ha y h
        | inr h => cases h with
          | head => exact hx
          | tail _ h => exact nomatch h
  exact this items [] (fun _ h => h) (by rw [List.length_nil]; omega) fun _ h => nomatch h
theorem it_l3 {a b c : Int} {k : Nat} (hk : k < 3) (h : ∀ v : Int, 0 < v → v < 2 ^ 30 → Q (.int v) st) (ha : 0 < a ∧ a < 2 ^ 30 := by decide) (hb : 0 < b ∧ b < 2 ^ 30 := by decide) (hc : 0 < c ∧ c < 2 ^ 30 := by decide) : wItem (.list [.int a, .int b, .int c]) (.int (k : Int)) st Q := by
  match k, hk with
  | 0, _ => exact it_nn (k := 0) rfl rfl (by show 3 ≤ lim; decide) rfl (h a ha.1 ha.2)
  | 1, _ => exact it_nn (k := 1) rfl rfl (by show 3 ≤ lim; decide) rfl (h b hb.1 hb.2)
  | 2, _ => exact it_nn (k := 2) rfl rfl (by show 3 ≤ lim; decide) rfl (h c hc.1 hc.2)
end
theorem modN (c : Int) {m : Nat} (h : 0 < m) : ∃ b : Nat, c % (m : Int) = (b : Int) ∧ b < m := by
  have h1 := Int.emod_nonneg c (b := (m : Int)) (by omega)
  have h2 := Int.emod_lt_of_pos c (b := (m : Int)) (by omega)
  exact ⟨(c % (m : Int)).toNat, by omega, by omega⟩
theorem modB (c : Int) {k : Int} (h : 0 < k) : 0 ≤ c % k ∧ c % k ≤ k - 1 := ⟨Int.emod_nonneg c (by omega), by have := Int.emod_lt_of_pos c h; omega⟩
theorem modT (c k lo hi : Int) (hk : 0 < k := by decide) (h1 : lo ≤ 0 := by decide) (h2 : k - 1 ≤ hi := by decide) : lo ≤ c % k ∧ c % k ≤ hi := ⟨Int.le_trans h1 (modB c hk).1, Int.le_trans (modB c hk).2 h2⟩
theorem modM (c k lo hi : Int) (hk : 0 < k := by decide) (h1 : 0 ≤ hi := by decide) (h2 : lo ≤ -(k - 1) := by decide) : lo ≤ -(c % k) ∧ -(c % k) ≤ hi := ⟨Int.le_trans h2 (Int.neg_le_neg (modB c hk).2), Int.le_trans (Int.neg_le_neg (modB c hk).1) h1⟩
theorem modS (c k s lo hi : Int) (hk : 0 < k := by decide) (h1 : lo ≤ 0 - s := by decide) (h2 : k - 1 - s ≤ hi := by decide) : lo ≤ c % k - s ∧ c % k - s ≤ hi := ⟨Int.le_trans h1 (Int.sub_le_sub_right (modB c hk).1 _), Int.le_trans (Int.sub_le_sub_right (modB c hk).2 _) h2⟩
theorem dN_mem {n : Nat} {d : D} (h : d ∈ dN (List.range' 0 n)) : ∃ k : Nat, d = .int (k : Int) ∧ k < n := by
  obtain ⟨k, hk, rfl⟩ := List.mem_map.mp h
  exact ⟨k, rfl, by have := (List.mem_range'_1.mp hk).2; rw [Nat.zero_add] at this; exact this⟩
theorem dN_len {n : Nat} : (dN (List.range' 0 n)).length = n := by rw [List.length_map, List.length_range']
noncomputable def SpWord (S : FSpec) : Prop := ∀ (c : Int) (m : Nat) (st : St) (Q : D → St → Prop) (X : XP), WfSt st → 1 ≤ m → m ≤ 3 → (∀ d, sumD m d = true → Q d st) → S [.int c, .int m] st Q X
noncomputable def t27 : Tb := tb [("_law_cell", .cell), ("_law_many", .local), ("_law_way", .local), ("_law_box", .local), ("_law_more", .local), ("_law_numbers", .local), ("_law_unit", .globalImplicit), ("list", .globalImplicit), ("tuple", .globalImplicit), ("range", .globalImplicit)] ["_law_numbers"]
noncomputable abbrev b27 : List Stmt := bodyOf 27
theorem p27_0 : t27.pl "_law_cell" = .loc 0 true false := rfl
theorem p27_1 : t27.pl "_law_many" = .loc 1 true false := rfl
theorem p27_2 : t27.pl "_law_way" = .loc 2 true false := rfl
theorem p27_3 : t27.pl "_law_box" = .loc 3 true false := rfl
theorem p27_4 : t27.pl "_law_more" = .loc 4 true false := rfl
theorem p27_5 : t27.pl "_law_numbers" = .loc 5 true true := rfl
theorem p27_6 : t27.pl "_law_unit" = .gl (.fn) := rfl
theorem p27_7 : t27.pl "list" = .gl (.blt (.val (.type "list"))) := rfl
theorem p27_8 : t27.pl "tuple" = .gl (.blt (.val (.type "tuple"))) := rfl
theorem p27_9 : t27.pl "range" = .gl (.itr) := rfl
theorem q27 : t27.hq = false := rfl
noncomputable def t27c0 : Tb := tb [(".0", .local), ("_law_k", .local), ("_law_cell", .free)] ["_law_numbers"]
theorem p27c0_1 : t27c0.pl "_law_k" = .loc 1 true false := rfl
theorem p27c0_2 : t27c0.pl "_law_cell" = .loc 2 false false := rfl
theorem word_ok {Γ : Ctx} (hU : Has Γ "_law_unit" SpUnit) : SpWord (wFn Γ 60 t27 2 b27) := by
  intro c m st Q X hw h1 h3 hQ
  obtain ⟨U, hU, hU'⟩ := hU
  have hm : (0 : Int) < (m : Int) := by omega
  obtain ⟨b, eb, hb⟩ := modN (c / 6) h1
  have hml : m ≤ 1000 := Nat.le_trans h3 (by decide)
  have hu : ∀ (ds : List D), (∀ d ∈ ds, amongD (-9) 9 d = true) → ∀ d ∈ ds, d.pln = true := fun ds h d hd => by
    obtain ⟨i, rfl, _⟩ := am_inv (h d hd); rfl
  refine ⟨rfl, ?_⟩; show wSs Γ 60 t27 (b27.drop 0) [some (.int c), some (.int m), none, none, none, none, none, none, none, none] st _ _
  refine ss_at rfl ?_; dsimp only [f_int, f_name, f_bin, f_asgN, f_tn, wName, lk_0, se_s, se_0, ev_s, x_mod, p27_0, p27_2]
  refine ⟨by decide, ?_⟩
  refine ss_at rfl ?_; dsimp only [f_int, f_name, f_bin, f_asgN, f_tn, wName, lk_s, lk_0, se_s, se_0, ev_s, x_div, x_mod, p27_0, p27_1, p27_3]
  refine ⟨by decide, by decide, hm, ?_⟩
  rw [eb]
  refine ss_at rfl ?_; dsimp only [f_int, f_name, f_bin, f_asgN, f_tn, wName, lk_0, se_s, se_0, ev_s, x_div, x_mod, p27_0, p27_4]
  refine ⟨by decide, by decide, by decide, ?_⟩
  refine ss_at rfl ?_; dsimp only [f_int, f_name, f_c1, f_tc, f_if, f_ssn, f_tn, wName, lk_s, lk_0, ev_s, q_lt, p27_2]
  refine ite_d (fun _ => ?_) fun _ => ?_
  · refine su ?_; dsimp only [f_int, f_name, f_un, f_call, f_nil, f_cons, f_ret, f_tr, wName, lk_s, lk_0, ev_s, pl_a, ns_c, ns_n, s1, s2, s5, nf, ta, cond_true, cond_false, x_neg, p27_1, p27_3, p27_4, p27_6, q27]
    exact ⟨U, hU, hU' _ _ _ _ _ _ _ hw hb h3 (by decide) (by decide) (modM (c / 18) 5 (-99) 99).1 (modM (c / 18) 5 (-99) 99).2 fun d hd => fin_k (hQ d hd)⟩
  refine ss_at rfl ?_; dsimp only [f_int, f_name, f_c1, f_tc, f_if, f_ssn, f_tn, wName, lk_s, lk_0, ev_s, q_lt, p27_2]
  refine ite_d (fun _ => ?_) fun _ => ?_
  · refine su ?_; dsimp only [f_int, f_name, f_un, f_call, f_nil, f_cons, f_ret, f_tr, wName, lk_s, lk_0, ev_s, pl_a, ns_c, ns_n, s1, s5, nf, ta, cond_true, cond_false, x_neg, p27_1, p27_3, p27_4, p27_6, q27]
    exact ⟨U, hU, hU' _ _ _ _ _ _ _ hw hb h3 (by decide) (by decide) (modT (c / 18) 5 (-99) 99).1 (modT (c / 18) 5 (-99) 99).2 fun d hd => fin_k (hQ d hd)⟩
  refine ss_at rfl ?_; dsimp only [f_int, f_name, f_c1, f_tb, f_tc, f_an, f_ac, f_if, f_ssn, f_tn, wName, lk_s, lk_0, ev_s, q_gt, q_eq, p27_1, p27_2]
  refine (fun hB => and_t (fun _ => hB) fun _ => and_l (fun _ => hB) fun _ => ?_) ?_
  · refine su ?_; dsimp only [f_int, f_name, f_call, f_nil, f_cons, f_asgN, f_itemC, f_tn, wName, lk_s, lk_0, se_s, se_0, ev_s, pl_a, ns_c, ns_n, s1, s2, s6, nf, ta, cond_true, cond_false, p27_1, p27_3, p27_5, p27_6, p27_7, q27]
    refine ⟨U, hU, hU' _ _ _ _ _ _ _ hw hb h3 (by decide) (by decide) (by decide) (by decide) fun d hd => ?_⟩
    refine ex2 (sum_inv hd) fun ns i q__97_1 => an5 q__97_1 fun e__97_2 hn hns _ _ => ?_
    subst e__97_2
    refine it_0 (b_list rfl ⟨by rw [hn]; exact Nat.le_trans hml (by decide), ?_⟩)
    dsimp only [cond_true]
    refine su ?_; dsimp only [f_int, f_name, f_bin, f_un, f_asgS, f_tn, wName, lk_s, lk_0, ev_s, l3, cond_false, x_add, x_mod, x_neg, p27_1, p27_3, p27_5]
    obtain ⟨b', eb', hb'⟩ := modN ((b : Int) + 1) h1
    refine ⟨hm, ?_⟩
    rw [eb']
    refine set_k al_hi rfl (by rw [hn]; exact hb') (by rw [hn]; exact hml) ?_
    have hv : ∀ d ∈ ns.set b' (.int (-1)), amongD (-9) 9 d = true := fun d hd => by
      cases mem_set hd with
      | inl h => exact hns d h
      | inr h => rw [h]; rfl
    have ha : Acc st _ st.hi _ := acc_put (L' := ns.set b' (.int (-1))) (acc_0 hw (hu ns hns)) (pln_vals (hu _ hv))
    have hl2 : (ns.set b' (.int (-1))).length = m := by rw [List.length_set]; exact hn
    refine su ?_; dsimp only [f_int, f_name, f_bin, f_call, f_tup, f_nil, f_cons, f_ret, f_tr, wName, lk_s, lk_0, ev_s, pl_a, ns_n, s1, nf, ta, cond_true, cond_false, x_sub, x_div, x_mod, p27_0, p27_5, p27_8, q27]
    refine b_tuple (lst_loc ha.cs) (by rw [hl2]; exact Nat.le_trans hml (by decide)) ?_
    have hs := sum_of hl2 hv (modS (c / 90) 5 2 (-99) 99).1 (modS (c / 90) 5 2 (-99) 99).2
    exact ⟨by decide, by decide, by decide, l_2, fin_p hw ha.ext (sum_pln hml hs) (hQ _ hs)⟩
  · refine ss_at rfl ?_; dsimp only [f_int, f_name, f_bin, f_c1, f_tc, f_if, f_ssn, f_tn, wName, lk_0, ev_s, x_div, x_mod, q_gt, p27_0]
    refine ⟨by decide, by decide, by decide, ?_⟩
    refine ite_d (fun _ => ?_) fun _ => ?_
    · refine su ?_; dsimp only [f_int, f_name, f_bin, f_call, f_tup, f_nil, f_cons, f_ret, f_tr, wName, lk_0, ev_s, pl_a, ns_n, s12, nf, ta, cond_true, cond_false, x_sub, x_div, x_mod, p27_0, p27_8, q27]
      refine comp0 t27c0 [none, none, some (.int c)] rfl rfl rfl ?_
      dsimp only [f_int, f_name, f_bin, f_call, f_list, f_nil, f_cons, f_itemN, f_icl, wName, lk_s, lk_0, se_s, se_0, ev_s, pl_a, ns_n, s1, nf, ta, cond_true, cond_false, mk_f, f_tgN, setN, p27_1, p27_9, q27, p27c0_1, p27c0_2]
      refine i_range' hml ?_
      dsimp only [hide_no, back_no]
      refine comp_all (fun x => amongD (-9) 9 x = true) (fun d hd k hk => ?_) fun acc ha hp => ?_
      · obtain ⟨j, rfl, hj⟩ := dN_mem hd
        refine ⟨by show 3 ≤ lim; decide, it_l3 (Nat.lt_of_lt_of_le hj h3) fun v hv hv' => ?_⟩
        dsimp only [x_sub, x_div, x_mod]
        exact ⟨hv, hv', by decide, hk _ (among_of (modS (c / v) 5 2 (-9) 9).1 (modS (c / v) 5 2 (-9) 9).2)⟩
      · skip
        rw [dN_len] at ha
        refine ⟨by rw [ha]; exact Nat.le_trans hml (by decide), b_tuple rfl (by rw [ha]; exact Nat.le_trans hml (by decide)) ?_⟩
        exact ⟨by decide, by decide, by decide, l_2, fin_k (hQ _ (sum_of ha hp (modS (c / 2250) 13 6 (-99) 99).1 (modS (c / 2250) 13 6 (-99) 99).2))⟩
    · refine ss_at rfl ?_; dsimp only [f_int, f_name, f_bin, f_call, f_tup, f_nil, f_cons, f_ret, f_tr, wName, lk_0, ev_s, pl_a, ns_n, s12, nf, ta, cond_true, cond_false, x_sub, x_div, x_mod, p27_0, p27_8, q27]
      refine comp0 t27c0 [none, none, some (.int c)] rfl rfl rfl ?_
      dsimp only [f_int, f_name, f_bin, f_call, f_list, f_nil, f_cons, f_itemN, f_icl, wName, lk_s, lk_0, se_s, se_0, ev_s, pl_a, ns_n, s1, nf, ta, cond_true, cond_false, mk_f, f_tgN, setN, p27_1, p27_9, q27, p27c0_1, p27c0_2]
      refine i_range' hml ?_
      dsimp only [hide_no, back_no]
      refine comp_all (fun x => amongD (-9) 9 x = true) (fun d hd k hk => ?_) fun acc ha hp => ?_
      · obtain ⟨j, rfl, hj⟩ := dN_mem hd
        refine ⟨by show 3 ≤ lim; decide, it_l3 (Nat.lt_of_lt_of_le hj h3) fun v hv hv' => ?_⟩
        dsimp only [x_sub, x_div, x_mod]
        exact ⟨hv, hv', by decide, hk _ (among_of (modS (c / v) 19 9 (-9) 9).1 (modS (c / v) 19 9 (-9) 9).2)⟩
      · skip
        rw [dN_len] at ha
        refine ⟨by rw [ha]; exact Nat.le_trans hml (by decide), b_tuple rfl (by rw [ha]; exact Nat.le_trans hml (by decide)) ?_⟩
        exact ⟨by decide, by decide, by decide, l_2, fin_k (hQ _ (sum_of ha hp (modS (c / 7) 199 99 (-99) 99).1 (modS (c / 7) 199 99 (-99) 99).2))⟩
end Mine
end

section
set_option autoImplicit false
set_option linter.unusedVariables false
set_option linter.unusedSimpArgs false
set_option maxRecDepth 100000
namespace Mine
open PySem
theorem it_p {P : Int → Prop} {vs : List Int} {k : Nat} {st : St} {Q : D → St → Prop} (hk : k < vs.length) (hl : vs.length ≤ 1000) (hP : ∀ v ∈ vs, P v) (h : ∀ v, P v → Q (.int v) st) : wItem (.list (dI vs)) (.int (k : Int)) st Q :=
  it_nn rfl rfl (by rw [dI_len]; exact Nat.le_trans hl (by decide)) (by rw [List.getElem?_map, List.getElem?_eq_getElem hk]; rfl) (h _ (hP _ (List.getElem_mem hk)))
noncomputable def SpInto (S : FSpec) : Prop := ∀ (c : Int) (m b : Nat) (st : St) (Q : D → St → Prop) (X : XP), WfSt st → b < m → m ≤ 3 → (∀ d, sumD m d = true → Q d st) → S [.int c, .int m, .int b] st Q X
noncomputable def t28 : Tb := tb [("_law_cell", .local), ("_law_many", .local), ("_law_box", .local), ("_law_way", .local), ("_law_unit", .globalImplicit), ("_law_word", .globalImplicit)] []
noncomputable abbrev b28 : List Stmt := bodyOf 28
theorem p28_0 : t28.pl "_law_cell" = .loc 0 true false := rfl
theorem p28_1 : t28.pl "_law_many" = .loc 1 true false := rfl
theorem p28_2 : t28.pl "_law_box" = .loc 2 true false := rfl
theorem p28_3 : t28.pl "_law_way" = .loc 3 true false := rfl
theorem p28_4 : t28.pl "_law_unit" = .gl (.fn) := rfl
theorem p28_5 : t28.pl "_law_word" = .gl (.fn) := rfl
theorem q28 : t28.hq = false := rfl
theorem into_ok {Γ : Ctx} (hU : Has Γ "_law_unit" SpUnit) (hW : Has Γ "_law_word" SpWord) : SpInto (wFn Γ 60 t28 3 b28) := by
  intro c m b st Q X hw hb h3 hQ
  obtain ⟨U, hU, hU'⟩ := hU
  obtain ⟨W, hW, hW'⟩ := hW
  have h1 : 1 ≤ m := Nat.succ_le_of_lt (Nat.lt_of_le_of_lt (Nat.zero_le b) hb)
  obtain ⟨w, ew, hw7⟩ := modN c (m := 7) (by decide)
  have ew : c % 7 = (w : Int) := ew
  refine ⟨rfl, ?_⟩; show wSs Γ 60 t28 (b28.drop 0) [some (.int c), some (.int m), some (.int b), none, none, none] st _ _
  refine ss_at rfl ?_; dsimp only [f_int, f_name, f_bin, f_asgN, f_tn, wName, lk_0, se_s, se_0, ev_s, x_mod, p28_0, p28_3]
  refine ⟨by decide, ?_⟩
  rw [ew]
  refine ss_at rfl ?_; dsimp only [f_int, f_name, f_c1, f_tc, f_if, f_ssn, f_tn, wName, lk_s, lk_0, ev_s, q_lt, p28_3]
  refine ite_d (fun h => ?_) fun _ => ?_
  · refine su ?_; dsimp only [f_int, f_name, f_un, f_call, f_list, f_nil, f_cons, f_ret, f_itemN, f_tr, wName, lk_s, lk_0, ev_s, pl_a, ns_c, ns_n, s1, s2, s6, nf, ta, cond_true, cond_false, x_neg, mk_f, p28_1, p28_2, p28_3, p28_4, q28]
    refine ⟨by decide, it_p (vs := [1, 1, -1]) (P := fun v => -99 ≤ v ∧ v ≤ 99) (by exact Int.ofNat_lt.mp h) (by decide) (by decide) fun v hv => ?_⟩
    exact ⟨U, hU, hU' _ _ _ _ _ _ _ hw hb h3 (by decide) (by decide) hv.1 hv.2 fun d hd => fin_k (hQ d hd)⟩
  refine ss_at rfl ?_; dsimp only [f_int, f_name, f_c1, f_tc, f_if, f_ssn, f_tn, wName, lk_s, lk_0, ev_s, q_eq, p28_3]
  refine ite_b (fun _ => ?_) fun _ => ?_
  · refine su ?_; dsimp only [f_int, f_name, f_bin, f_call, f_nil, f_cons, f_ret, f_tr, wName, lk_s, lk_0, ev_s, pl_a, ns_c, ns_n, s1, s2, s4, nf, ta, cond_true, cond_false, x_div, x_mod, p28_0, p28_1, p28_2, p28_4, q28]
    exact ⟨by decide, by decide, by decide, U, hU, hU' _ _ _ _ _ _ _ hw hb h3 (by decide) (by decide) (modT (c / 7) 5 (-99) 99).1 (modT (c / 7) 5 (-99) 99).2 fun d hd => fin_k (hQ d hd)⟩
  refine ss_at rfl ?_; dsimp only [f_int, f_name, f_c1, f_tc, f_if, f_ssn, f_tn, wName, lk_s, lk_0, ev_s, q_eq, p28_3]
  refine ite_b (fun _ => ?_) fun _ => ?_
  · refine su ?_; dsimp only [f_int, f_name, f_bin, f_call, f_nil, f_cons, f_ret, f_tr, wName, lk_s, lk_0, ev_s, pl_a, ns_c, ns_n, s1, s2, s4, nf, ta, cond_true, cond_false, x_sub, x_div, x_mod, p28_0, p28_1, p28_4, q28]
    obtain ⟨b', eb', hb'⟩ := modN (c / 7) h1
    rw [eb']
    exact ⟨by decide, by decide, Int.ofNat_lt.mpr h1, by decide, by decide, by decide, U, hU, hU' _ _ _ _ _ _ _ hw hb' h3 (by decide) (by decide) (modS (c / 21) 3 1 (-99) 99).1 (modS (c / 21) 3 1 (-99) 99).2 fun d hd => fin_k (hQ d hd)⟩
  refine ss_at rfl ?_; dsimp only [f_int, f_name, f_bin, f_call, f_nil, f_cons, f_ret, f_tr, wName, lk_s, lk_0, ev_s, pl_a, ns_c, ns_n, s1, s4, nf, ta, cond_true, cond_false, x_div, p28_0, p28_1, p28_5, q28]
  exact ⟨by decide, by decide, W, hW, hW' _ _ _ _ _ hw h1 h3 fun d hd => fin_k (hQ d hd)⟩
/-- tops that a program may have -/
structure TopsOk (ts : List Int) : Prop where
  pos : 1 ≤ ts.length
  le : ts.length ≤ 3
  all : ∀ t ∈ ts, 0 ≤ t ∧ t ≤ 9
theorem am_list {lo hi : Int} {ds : List D} (h : ∀ d ∈ ds, amongD lo hi d = true) : ∃ ts : List Int, ds = dI ts ∧ ∀ t ∈ ts, lo ≤ t ∧ t ≤ hi := by
  induction ds with
  | nil => exact ⟨[], rfl, fun _ z => nomatch z⟩
  | cons d ds ih =>
    obtain ⟨ts, rfl, ht⟩ := ih fun d hd => h d (.tail _ hd)
    obtain ⟨i, rfl, h1, h2⟩ := am_inv (h d (.head _))
    exact ⟨i :: ts, rfl, fun t ht' => by
      cases ht' with
      | head => exact ⟨h1, h2⟩
      | tail _ z => exact ht t z⟩
theorem am_pln {lo hi : Int} {ds : List D} (h : ∀ d ∈ ds, amongD lo hi d = true) : ∀ d ∈ ds, d.pln = true := fun d hd => by
  obtain ⟨i, rfl, _⟩ := am_inv (h d hd); rfl
theorem nat3 {v : Int} (h : 1 ≤ v ∧ v ≤ 3) : ∃ m : Nat, v = (m : Int) ∧ 1 ≤ m ∧ m ≤ 3 := ⟨v.toNat, by omega, by omega, by omega⟩
noncomputable def SpTopsL (S : FSpec) : Prop := ∀ (sc : List Int) (st : St) (Q : D → St → Prop) (X : XP), WfSt st → sc.length ≤ 1000 → (∀ ts, TopsOk ts → Q (.list (dI ts)) st) → S [.list (dI sc)] st Q X
noncomputable def t25 : Tb := tb [("_law_script", .cell), ("_law_cell", .local), ("_law_many", .local), ("_law_most", .cell), ("_law_found", .local), ("_law_at", .globalImplicit), ("range", .globalImplicit)] ["_law_found"]
noncomputable abbrev b25 : List Stmt := bodyOf 25
theorem p25_0 : t25.pl "_law_script" = .loc 0 true false := rfl
theorem p25_1 : t25.pl "_law_cell" = .loc 1 true false := rfl
theorem p25_2 : t25.pl "_law_many" = .loc 2 true false := rfl
theorem p25_3 : t25.pl "_law_most" = .loc 3 true false := rfl
theorem p25_4 : t25.pl "_law_found" = .loc 4 true true := rfl
theorem p25_5 : t25.pl "_law_at" = .gl (.fn) := rfl
theorem p25_6 : t25.pl "range" = .gl (.itr) := rfl
theorem q25 : t25.hq = false := rfl
noncomputable def t25c0 : Tb := tb [(".0", .local), ("_law_k", .local), ("_law_at", .globalImplicit), ("_law_most", .free), ("_law_script", .free)] ["_law_found"]
theorem p25c0_1 : t25c0.pl "_law_k" = .loc 1 true false := rfl
theorem p25c0_2 : t25c0.pl "_law_at" = .gl (.fn) := rfl
theorem p25c0_3 : t25c0.pl "_law_most" = .loc 3 false false := rfl
theorem p25c0_4 : t25c0.pl "_law_script" = .loc 4 false false := rfl
theorem topsl_ok {Γ : Ctx} (hA : Has Γ "_law_at" SpAt) : SpTopsL (wFn Γ 60 t25 1 b25) := by
  intro sc st Q X hw hl hQ
  obtain ⟨A, hA, hA'⟩ := hA
  refine ⟨rfl, ?_⟩; show wSs Γ 60 t25 (b25.drop 0) [some (.list (dI sc)), none, none, none, none, none, none] st _ _
  refine ss_at rfl ?_; dsimp only [f_int, f_name, f_call, f_nil, f_cons, f_asgN, f_tn, wName, lk_0, se_s, se_0, ev_s, pl_a, ns_c, ns_n, s1, s2, nf, ta, cond_true, cond_false, p25_0, p25_1, p25_5, q25]
  refine ⟨A, hA, hA' _ _ _ _ _ hl ?_⟩
  generalize atV sc 0 = c
  refine ss_at rfl ?_; dsimp only [f_int, f_name, f_bin, f_list, f_nil, f_cons, f_asgN, f_itemB, f_tn, wName, lk_s, lk_0, se_s, se_0, ev_s, x_mod, mk_f, p25_1, p25_2]
  obtain ⟨w, ew, hw4⟩ := modN c (m := 4) (by decide)
  have ew : c % 4 = (w : Int) := ew
  rw [ew]
  refine ⟨by decide, by decide, it_p (vs := [1, 2, 2, 3]) (P := fun v => 1 ≤ v ∧ v ≤ 3) hw4 (by decide) (by decide) fun v hv => ?_⟩
  refine ex1 (nat3 hv) fun m q__95_1 => an3 q__95_1 fun e__95_1 h1 h3 => ?_
  subst e__95_1
  refine ss_at rfl ?_; dsimp only [f_int, f_name, f_bin, f_list, f_nil, f_cons, f_asgN, f_itemB, f_tn, wName, lk_s, lk_0, se_s, se_0, ev_s, x_sub, mk_f, p25_2, p25_3]
  rw [show (m : Int) - 1 = ((m - 1 : Nat) : Int) from (Int.ofNat_sub h1).symm]
  refine ⟨by decide, it_p (vs := [10, 4, 3]) (P := fun v => 0 < v ∧ v ≤ 10) (Nat.lt_of_lt_of_le (Nat.sub_lt h1 (by decide)) h3) (by decide) (by decide) fun u hu => ?_⟩
  refine ss_at rfl ?_; dsimp only [f_asgN, f_tn, se_s, se_0, p25_4]
  refine comp0 t25c0 [none, none, none, some (.int u), some (.list (dI sc))] rfl rfl rfl ?_
  dsimp only [f_int, f_name, f_bin, f_call, f_nil, f_cons, f_icl, wName, lk_s, lk_0, se_s, se_0, ev_s, pl_a, ns_c, ns_n, s1, s4, nf, ta, cond_true, cond_false, mk_t, f_tgN, setN, p25_2, p25_6, q25, p25c0_1, p25c0_2, p25c0_3, p25c0_4]
  refine i_range' (Nat.le_trans h3 (by decide)) ?_
  dsimp only [hide_no, back_no]
  refine comp_all (fun x => amongD 0 9 x = true) (fun d hd k hk => ?_) fun acc ha hp => ?_
  · obtain ⟨j, rfl, hj⟩ := dN_mem hd
    dsimp only [x_add]
    refine ⟨A, hA, hA' _ _ _ _ _ hl ⟨hu.1, hk _ (among_of (modB _ hu.1).1 (Int.le_trans (modB _ hu.1).2 (Int.sub_le_sub_right hu.2 1)))⟩⟩
  rw [dN_len] at ha
  refine ⟨by rw [ha]; exact Nat.le_trans h3 (by decide), ?_⟩
  have h0 := acc_0 hw (am_pln hp)
  have hfin : ∀ (L : List D) (st1 : St) (l : Ev), L.length = m → (∀ d ∈ L, amongD 0 9 d = true) → Acc st st1 st.hi L → finE st Q (.ret (.loc st.hi)) l st1 := by
    intro L st1 l hL hp h
    obtain ⟨ts, rfl, ht⟩ := am_list hp
    rw [dI_len] at hL
    exact fin_l hw h.ext h.lo h.cs (am_pln hp) (hQ ts ⟨by rw [hL]; exact h1, by rw [hL]; exact h3, ht⟩)
  refine ss_at rfl ?_; dsimp only [f_int, f_name, f_bin, f_c1, f_tc, f_if, f_ssn, f_tn, wName, lk_s, lk_0, ev_s, x_div, x_mod, q_eq, p25_1]
  refine ⟨by decide, by decide, by decide, ?_⟩
  refine ite_b (fun _ => ?_) fun _ => ?_
  · refine su ?_; dsimp only [f_int, f_name, f_bin, f_asgS, f_ssn, f_tn, wName, lk_s, lk_0, ev_s, l3, cond_false, x_div, x_mod, p25_1, p25_2, p25_4]
    obtain ⟨b, eb, hb⟩ := modN (c / 64) h1
    rw [eb]
    refine ⟨by decide, by decide, Int.ofNat_lt.mpr h1, set_k al_hi rfl (by rw [ha]; exact hb) (by rw [ha]; exact Nat.le_trans h3 (by decide)) ?_⟩
    have hv : ∀ d ∈ acc.set b (.int 9), amongD 0 9 d = true := fun d hd => by
      cases mem_set hd with
      | inl h => exact hp d h
      | inr h => rw [h]; rfl
    refine ss_at rfl ?_; dsimp only [f_name, f_ret, f_tr, wName, lk_s, lk_0, ev_s, p25_4]
    exact hfin _ _ _ (by rw [List.length_set]; exact ha) hv (acc_put (L' := acc.set b (.int 9)) h0 (pln_vals (am_pln hv)))
  · refine ss_at rfl ?_; dsimp only [f_name, f_ret, f_tr, wName, lk_s, lk_0, ev_s, p25_4]
    exact hfin _ _ _ ha hp h0
end Mine
end

section
set_option autoImplicit false
set_option linter.unusedVariables false
set_option linter.unusedSimpArgs false
set_option maxRecDepth 100000
namespace Mine
open PySem
noncomputable def stL (sc : List Int) (a f : Int) (ts : List Int) : List (Str × D) := [("script", .list (dI sc)), ("at", .int a), ("left", .int f), ("tops", .list (dI ts))]
section
variable {sc ts : List Int} {a f a' f' : Int}
theorem ne_s {a b : Str} (h : (a == b) = false) : ¬ a = b := fun z => by rw [z, beq_self_eq_true] at h; exact tf h
theorem lk_sc : (stL sc a f ts).lookup (Str.ofString "script") = some (D.list (dI sc)) := List.lookup_cons_self
theorem lk_at : (stL sc a f ts).lookup (Str.ofString "at") = some (D.int a) := by
  rw [stL, List.lookup_cons, show ((Str.ofString "at") == (Str.ofString "script")) = false by decide +kernel]; exact List.lookup_cons_self
theorem lk_le : (stL sc a f ts).lookup (Str.ofString "left") = some (D.int f) := by
  rw [stL, List.lookup_cons, show ((Str.ofString "left") == (Str.ofString "script")) = false by decide +kernel, List.lookup_cons, show ((Str.ofString "left") == (Str.ofString "at")) = false by decide +kernel]; exact List.lookup_cons_self
theorem lk_to : (stL sc a f ts).lookup (Str.ofString "tops") = some (D.list (dI ts)) := by
  rw [stL, List.lookup_cons, show ((Str.ofString "tops") == (Str.ofString "script")) = false by decide +kernel, List.lookup_cons, show ((Str.ofString "tops") == (Str.ofString "at")) = false by decide +kernel, List.lookup_cons, show ((Str.ofString "tops") == (Str.ofString "left")) = false by decide +kernel]; exact List.lookup_cons_self
theorem sk_at : setKey (stL sc a f ts) (Str.ofString "at") (.int a') = stL sc a' f ts := by
  simp only [setKey, stL, List.map_cons, List.map_nil]
  rw [if_neg (ne_s (by decide +kernel)), if_pos trivial, if_neg (ne_s (by decide +kernel)), if_neg (ne_s (by decide +kernel))]
theorem sk_le : setKey (stL sc a f ts) (Str.ofString "left") (.int f') = stL sc a f' ts := by
  simp only [setKey, stL, List.map_cons, List.map_nil]
  rw [if_neg (ne_s (by decide +kernel)), if_neg (ne_s (by decide +kernel)), if_pos trivial, if_neg (ne_s (by decide +kernel))]
theorem it_d {st : St} {n : Nat} {es : List (Str × D)} {k : Str} {x : D} {Q : D → St → Prop} (h : st.cs n = some (.dict es)) (h1 : es.lookup k = some x) (hQ : Q x st) : wItem (.loc n) (.str k) st Q := ⟨n, es, x, rfl, h, h1, hQ⟩
theorem set_d {st : St} {n : Nat} {es es' : List (Str × D)} {k : Str} {x v : D} {K : St → Prop} (h : st.cs n = some (.dict es)) (h1 : es.lookup k = some x) (hl : es.length ≤ lim) (he : setKey es k v = es') (hK : K (st.put n (.dict es'))) : wSetItem (.loc n) (.str k) v st K := ⟨n, es, rfl, h, by rw [h1]; rfl, hl, by rw [he]; exact hK⟩
end
/-- the state's dict -/
structure Sta (st : St) (n : Nat) (sc : List Int) (a f : Int) (ts : List Int) : Prop where
  wf : WfSt st
  cs : st.cs n = some (.dict (stL sc a f ts))
theorem Sta.put {st : St} {n : Nat} {sc : List Int} {a f : Int} {ts : List Int} (h : Sta st n sc a f ts) (a' f' : Int) : Sta (st.put n (.dict (stL sc a' f' ts))) n sc a' f' ts := by
  refine ⟨wf_put h.wf (h.wf _ _ h.cs).1 fun d hd => ?_, pu_n⟩
  have hI : ∀ l : List Int, undrAll st.hi (dI l) = true := fun l => undrAll_iff.mpr fun d hd => by
    obtain ⟨i, _, rfl⟩ := List.mem_map.mp hd; rfl
  cases hd with
  | head => exact hI sc
  | tail _ hd => cases hd with
    | head => rfl
    | tail _ hd => cases hd with
      | head => rfl
      | tail _ hd => cases hd with
        | head => exact hI ts
        | tail _ hd => exact nomatch hd
section
variable {m : Nat} {f : D → Option Nat}
theorem rB_put {b : Nat} {s : D} (hb : b < m) (h : sumD m s = true) : rowB m f (.tup [.str "put", .int b, s]) = some 1 := by
  show rowS m f "put" _ = _
  rw [rowS, show ((Str.ofString "put") == (Str.ofString "put")) = true by decide +kernel]
  show (bif (3 : Int) == 3 && (amongD 0 (m - 1) (.int b) && sumD m s) then some 1 else none) = _
  rw [among_of (Int.natCast_nonneg b) (by omega), h]; rfl
theorem rB_say {s : D} (h : sumD m s = true) : rowB m f (.tup [.str "say", s]) = some 1 := by
  show rowS m f "say" _ = _
  rw [rowS, show ((Str.ofString "say") == (Str.ofString "put")) = false by decide +kernel, show ((Str.ofString "say") == (Str.ofString "say")) = true by decide +kernel]
  show (bif (2 : Int) == 2 && sumD m s then some 1 else none) = _
  rw [h]; rfl
theorem rB_if {s a b : D} {x y : Nat} (h : sumD m s = true) (ha : f a = some x) (hb : f b = some y) : rowB m f (.tup [.str "if", s, a, b]) = some (1 + x + y) := by
  show rowS m f "if" _ = _
  rw [rowS, show ((Str.ofString "if") == (Str.ofString "put")) = false by decide +kernel, show ((Str.ofString "if") == (Str.ofString "say")) = false by decide +kernel]
  show (bif (4 : Int) == 4 && ((Str.ofString "if" == Str.ofString "if" || Str.ofString "if" == Str.ofString "loop") && sumD m s) then (bif Str.ofString "if" == Str.ofString "if" then plusO (plus 1 (f a)) (f b) else _) else none) = _
  rw [show ((Str.ofString "if") == (Str.ofString "if")) = true by decide +kernel, h, ha, hb]; rfl
theorem rB_loop {s a b : D} {y : Nat} (h : sumD m s = true) (ha : wordsD m a = true) (hb : f b = some y) : rowB m f (.tup [.str "loop", s, a, b]) = some (1 + y) := by
  show rowS m f "loop" _ = _
  rw [rowS, show ((Str.ofString "loop") == (Str.ofString "put")) = false by decide +kernel, show ((Str.ofString "loop") == (Str.ofString "say")) = false by decide +kernel]
  show (bif (4 : Int) == 4 && ((Str.ofString "loop" == Str.ofString "if" || Str.ofString "loop" == Str.ofString "loop") && sumD m s) then (bif Str.ofString "loop" == Str.ofString "if" then _ else bif wordsD m a then plus 1 (f b) else none) else none) = _
  rw [show ((Str.ofString "loop") == (Str.ofString "if")) = false by decide +kernel, show ((Str.ofString "loop") == (Str.ofString "loop")) = true by decide +kernel, h, ha, hb]; rfl
end
theorem listB_of {f : D → Option Nat} {ds : List D} {k : Nat} (hl : ds.length ≤ 12) (h : sumO f ds = some k) : listB f (.tup ds) = some k := by
  rw [listB_t, if_pos (decide_eq_true hl)]; exact h
theorem sumO_app {f : D → Option Nat} {xs ys : List D} {a b : Nat} (h1 : sumO f xs = some a) (h2 : sumO f ys = some b) : sumO f (xs ++ ys) = some (a + b) := by
  induction xs generalizing a with
  | nil => cases h1; rw [Nat.zero_add]; exact h2
  | cons x xs ih =>
    refine ex2 (sumO_c h1) fun u v q__73_1 => an3 q__73_1 fun hu hv e__73_4 => ?_
    subst e__73_4
    rw [List.cons_append, sumO_cc, hu, ih hv, Nat.add_assoc]; rfl
theorem sumO_1 {f : D → Option Nat} {x : D} {a : Nat} (h : f x = some a) : sumO f [x] = some a := by rw [sumO_cc, h]; rfl
theorem pln_c {d : D} {ds : List D} (h : d.pln = true) (hs : plnAll ds = true) : plnAll (d :: ds) = true := by rw [plnAll_c, h, hs]; rfl
theorem plnT {ds : List D} (hl : ds.length ≤ 1000) (h : plnAll ds = true) : (D.tup ds).pln = true := by rw [D.pln_t, decide_eq_true (Nat.le_trans hl (by decide)), h]; rfl
theorem sp_put : (D.str "put").pln = true := by show PyData.strOk _ = true; decide +kernel
theorem sp_say : (D.str "say").pln = true := by show PyData.strOk _ = true; decide +kernel
theorem sp_if : (D.str "if").pln = true := by show PyData.strOk _ = true; decide +kernel
theorem sp_loop : (D.str "loop").pln = true := by show PyData.strOk _ = true; decide +kernel
theorem pl_put {b s : D} (h1 : b.pln = true) (h2 : s.pln = true) : (D.tup [.str "put", b, s]).pln = true := plnT (Nat.le_of_ble_eq_true rfl) (pln_c sp_put (pln_c h1 (pln_c h2 rfl)))
theorem or_and {x y : Bool} {A B : Prop} (hA : A) (hB : x = false ∨ y = false → B) :
    if stopsAnd .And x = true then (if stopsAnd .Or x = true then (if x = true then A else B) else (if (BoolOp.Or == BoolOp.And) = true then A else B)) else (if stopsAnd .And y = true then (if stopsAnd .Or y = true then (if y = true then A else B) else (if (BoolOp.Or == BoolOp.And) = true then A else B)) else (if stopsAnd .Or (BoolOp.And == BoolOp.And) = true then (if (BoolOp.And == BoolOp.And) = true then A else B) else (if (BoolOp.Or == BoolOp.And) = true then A else B))) := by
  cases x with
  | false => exact hB (.inl rfl)
  | true => cases y with
    | false => exact hB (.inr rfl)
    | true => exact hA
theorem ar1 {f : Int} (h : 0 < f) : ((1 : Nat) : Int) + (f - 1) ≤ f := by omega
theorem ar2 {f : Int} (h : 0 < f) : -1 ≤ f - 1 := by omega
theorem ar3 {f : Int} (h : 0 < f) : -1 ≤ f - 1 - 1 := by omega
theorem ar4 {g : Nat} : ((g + 1 : Nat) : Int) - 1 = (g : Int) := by omega
theorem ar5 {f f2 f3 : Int} {k k2 : Nat} (h1 : (k : Int) + f2 ≤ f - 1) (h2 : (k2 : Int) + f3 ≤ f2) : ((1 + k + k2 : Nat) : Int) + f3 ≤ f := by omega
theorem ar6 {f f2 : Int} {e k : Nat} (h0 : e ≤ 1) (h1 : (k : Int) + f2 ≤ f - 1 - 1) : ((1 + (e + k) : Nat) : Int) + f2 ≤ f := by omega
theorem ar7 {v : Int} (h : 0 ≤ v ∧ v ≤ 3) : ∃ w : Nat, v = (w : Int) ∧ w ≤ 3 := ⟨v.toNat, by omega, by omega⟩
theorem ar8 {t : Int} (h : 0 ≤ t ∧ t ≤ 9) : -99 ≤ 1 - t ∧ 1 - t ≤ 99 := by omega
theorem ar9 {f f' f2 : Int} {k k' : Nat} (h1 : (k : Int) + f' ≤ f) (h2 : (k' : Int) + f2 ≤ f') : ((k + k' : Nat) : Int) + f2 ≤ f := by omega
theorem lt_le {x n m : Nat} (h : x < n) (hm : n ≤ m := by decide) : x ≤ m := Nat.le_trans (Nat.le_of_lt h) hm
theorem le_lt {l x n m : Nat} (g : l ≤ x) (h : x < n) (hm : n ≤ m := by decide) : l ≤ m := Nat.le_trans g (lt_le h hm)
theorem le_ad {l c n m : Nat} (g : l + c ≤ n) (hm : n ≤ m := by decide) : l ≤ m := Nat.le_trans (Nat.le_add_right _ _) (Nat.le_trans g hm)
theorem app1 {ws : List D} {s : D} {c n : Nat} (h : ws.length + (c + 1) ≤ n) : (ws ++ [s]).length + c ≤ n := by rw [List.length_append, Nat.add_assoc, Nat.add_comm _ c]; exact h
theorem add1 {l c n m : Nat} (h : l + (c + 1) ≤ n) (hm : n ≤ m := by decide) : l + 1 ≤ m := Nat.le_trans (Nat.add_le_add_left (Nat.le_add_left 1 c) l) (Nat.le_trans h hm)
theorem le2 {a b x m : Nat} (h1 : a ≤ 1) (h2 : b ≤ x) (h3 : x < 3) (hm : 3 ≤ m := by decide) : a + b ≤ m := Nat.le_trans (Nat.add_le_add h1 (Nat.le_trans h2 (Nat.le_of_lt_succ h3))) hm
noncomputable def SpGenRow (g : Nat) (S : FSpec) : Prop := ∀ (n : Nat) (sc : List Int) (a f : Int) (ts : List Int) (st : St) (Q : D → St → Prop) (X : XP), Sta st n sc a f ts → sc.length ≤ 1000 → TopsOk ts → 0 < f →
  (∀ (d : D) (k : Nat) (a' f' : Int), d.pln = true → rowD ts.length g d = some k → (k : Int) + f' ≤ f → -1 ≤ f' → Q d (st.put n (.dict (stL sc a' f' ts)))) → S [.loc n, .int g] st Q X
noncomputable def SpGenRows (g : Nat) (S : FSpec) : Prop := ∀ (n : Nat) (sc : List Int) (a f : Int) (ts : List Int) (most : Nat) (st : St) (Q : D → St → Prop) (X : XP), Sta st n sc a f ts → sc.length ≤ 1000 → TopsOk ts → -1 ≤ f → most ≤ 10 →
  (∀ (ds : List D) (k : Nat) (a' f' : Int), (∀ d ∈ ds, d.pln = true) → ds.length ≤ most → sumO (rowD ts.length g) ds = some k → (k : Int) + f' ≤ f → -1 ≤ f' → Q (.tup ds) (st.put n (.dict (stL sc a' f' ts)))) → S [.loc n, .int g, .int most] st Q X
noncomputable def t30 : Tb := tb [("_law_state", .local), ("_law_deep", .local), ("_law_most", .local), ("_law_rows_here", .local), ("_law_k", .local), ("range", .globalImplicit), ("_law_row", .globalImplicit)] []
noncomputable abbrev b30 : List Stmt := bodyOf 30
theorem p30_0 : t30.pl "_law_state" = .loc 0 true false := rfl
theorem p30_1 : t30.pl "_law_deep" = .loc 1 true false := rfl
theorem p30_2 : t30.pl "_law_most" = .loc 2 true false := rfl
theorem p30_3 : t30.pl "_law_rows_here" = .loc 3 true false := rfl
theorem p30_4 : t30.pl "_law_k" = .loc 4 true false := rfl
theorem p30_5 : t30.pl "range" = .gl (.itr) := rfl
theorem p30_6 : t30.pl "_law_row" = .gl (.fn) := rfl
theorem q30 : t30.hq = false := rfl
theorem put_self {st : St} {n : Nat} {c : Cell} (h : st.cs n = some c) : st.put n c = st := by
  unfold St.put
  congr 1
  funext k
  split
  · next e => rw [e, h]
  · rfl
theorem add_t {xs ys : List D} {trk : Bool} {st : St} {Q : D → St → Prop} (h : xs.length + ys.length ≤ 1000) (hQ : Q (.tup (xs ++ ys)) st) : wBin trk .Add (.tup xs) (.tup ys) st Q := ⟨Nat.le_trans h (by decide), hQ⟩
theorem genrows_ok {Γ : Ctx} {g : Nat} (hR : Has Γ "_law_row" (SpGenRow g)) : SpGenRows g (wFn Γ 60 t30 3 b30) := by
  intro n sc a f ts most st Q X hs hl ht hf hm hQ
  obtain ⟨R, hR, hR'⟩ := hR
  refine ⟨rfl, ?_⟩; show wSs Γ 60 t30 (b30.drop 0) [some (.loc n), some (.int g), some (.int most), none, none, none, none] st _ _
  refine ss_at rfl ?_; dsimp only [f_tup, f_nil, f_asgN, f_tn, se_s, se_0, p30_3]
  refine ⟨by decide, ?_⟩
  refine ss_at rfl ?_; dsimp only [f_name, f_call, f_nil, f_cons, f_for, f_icl, wName, lk_s, lk_0, ev_s, pl_a, ns_n, s1, nf, ta, cond_true, cond_false, f_tgN, setN, p30_2, p30_4, p30_5, q30]
  refine i_range' (Nat.le_trans hm (by decide)) ?_
  dsimp only [hide_no, back_no]
  refine (fun z : ∀ (c i k : Nat) (ds : List D) (a' f' : Int) (o : Option D), (∀ d ∈ ds, d.pln = true) → ds.length + c ≤ most → sumO (rowD ts.length g) ds = some k → (k : Int) + f' ≤ f → -1 ≤ f' → wFor _ (dN (List.range' i c)) [some (.loc n), some (.int g), some (.int most), some (.tup ds), o, none, none] (st.put n (.dict (stL sc a' f' ts))) _ => by
    have := z most 0 0 [] a f none (fun _ z => nomatch z) (by rw [List.length_nil, Nat.zero_add]; exact Nat.le_refl _) rfl (by rw [Int.natCast_zero, Int.zero_add]; exact Int.le_refl _) hf
    rw [put_self hs.cs] at this
    exact this) ?_
  intro c
  induction c with
  | zero =>
    intro i k ds a' f' o h1 h2 h3 h4 h5
    show wFor _ [] _ _ _
    dsimp only [f_tn, wf_n]
    refine ss_at rfl ?_; dsimp only [f_name, f_ret, f_tr, wName, lk_s, lk_0, ev_s, p30_3]
    exact fin_k (hQ ds k a' f' h1 (Nat.le_trans (Nat.le_add_right _ _) h2) h3 h4 h5)
  | succ c ih =>
    intro i k ds a' f' o h1 h2 h3 h4 h5
    have hs' := hs.put a' f'
    show wFor _ (.int (i : Nat) :: dN (List.range' (i + 1) c)) _ _ _
    dsimp only [se_s, se_0, wf_c]
    refine su ?_; dsimp only [f_int, f_str, f_name, f_c1, f_tc, f_if, f_ssn, f_itemC, f_tn, wName, lk_0, ev_s, nf_n, p30_0]
    refine it_d hs'.cs lk_le ?_
    dsimp only [q_gt]
    refine ite_d (fun h => ?_) fun h => ?_
    · refine su ?_; dsimp only [f_name, f_bin, f_call, f_tup, f_nil, f_cons, f_asgN, f_ssn, f_tn, wName, lk_s, lk_0, se_s, se_0, ev_s, pl_a, ns_c, ns_n, s1, nf, ta, cond_true, cond_false, nf_n, p30_0, p30_1, p30_3, p30_6, q30]
      refine ⟨R, hR, hR' _ _ _ _ _ _ _ _ hs' hl ht h fun d k' a2 f2 g1 g2 g3 g4 => ?_⟩
      rw [put_put]
      refine ⟨l_1, add_t (add1 h2 (Nat.le_trans hm (by decide))) ?_⟩
      refine ih _ (k + k') _ a2 f2 _ (fun x hx => ?_) (app1 h2) (sumO_app h3 (sumO_1 g2)) (ar9 h4 g3) g4
      cases List.mem_append.mp hx with
      | inl h => exact h1 x h
      | inr h => cases h with
        | head => exact g1
        | tail _ z => exact nomatch z
    · skip
      exact ih _ k _ _ _ _ h1 (Nat.le_trans (Nat.add_le_add_left (Nat.le_succ c) _) h2) h3 h4 h5
noncomputable def t29 : Tb := tb [("_law_state", .local), ("_law_deep", .local), ("_law_cell", .local), ("_law_more", .local), ("_law_many", .local), ("_law_way", .local), ("_law_box", .local), ("_law_first", .local), ("_law_words", .local), ("_law_k", .local), ("_law_one", .local), ("_law_body", .local), ("_law_word_here", .local), ("_law_at", .globalImplicit), ("len", .globalImplicit), ("_law_into", .globalImplicit), ("_law_word", .globalImplicit), ("_law_rows", .globalImplicit), ("range", .globalImplicit), ("_law_unit", .globalImplicit)] []
noncomputable abbrev b29 : List Stmt := bodyOf 29
theorem p29_0 : t29.pl "_law_state" = .loc 0 true false := rfl
theorem p29_1 : t29.pl "_law_deep" = .loc 1 true false := rfl
theorem p29_2 : t29.pl "_law_cell" = .loc 2 true false := rfl
theorem p29_3 : t29.pl "_law_more" = .loc 3 true false := rfl
theorem p29_4 : t29.pl "_law_many" = .loc 4 true false := rfl
theorem p29_5 : t29.pl "_law_way" = .loc 5 true false := rfl
theorem p29_6 : t29.pl "_law_box" = .loc 6 true false := rfl
theorem p29_7 : t29.pl "_law_first" = .loc 7 true false := rfl
theorem p29_8 : t29.pl "_law_words" = .loc 8 true false := rfl
theorem p29_9 : t29.pl "_law_k" = .loc 9 true false := rfl
theorem p29_10 : t29.pl "_law_one" = .loc 10 true false := rfl
theorem p29_11 : t29.pl "_law_body" = .loc 11 true false := rfl
theorem p29_12 : t29.pl "_law_word_here" = .loc 12 true false := rfl
theorem p29_13 : t29.pl "_law_at" = .gl (.fn) := rfl
theorem p29_14 : t29.pl "len" = .gl (.blt (.val (.builtin "len"))) := rfl
theorem p29_15 : t29.pl "_law_into" = .gl (.fn) := rfl
theorem p29_16 : t29.pl "_law_word" = .gl (.fn) := rfl
theorem p29_17 : t29.pl "_law_rows" = .gl (.fn) := rfl
theorem p29_18 : t29.pl "range" = .gl (.itr) := rfl
theorem p29_19 : t29.pl "_law_unit" = .gl (.fn) := rfl
theorem q29 : t29.hq = false := rfl
theorem genrow_ok {Γ : Ctx} {g : Nat} (hA : Has Γ "_law_at" SpAt) (hU : Has Γ "_law_unit" SpUnit) (hW : Has Γ "_law_word" SpWord) (hI : Has Γ "_law_into" SpInto) (hR : ∀ g', g = g' + 1 → Has Γ "_law_rows" (SpGenRows g')) : SpGenRow g (wFn Γ 60 t29 2 b29) := by
  intro n sc a f ts st Q X hs hl ht hf hQ
  obtain ⟨A, hA, hA'⟩ := hA
  obtain ⟨U, hU, hU'⟩ := hU
  obtain ⟨W, hW, hW'⟩ := hW
  obtain ⟨I, hI, hI'⟩ := hI
  have htl : (dI ts).length ≤ lim := by rw [dI_len]; exact Nat.le_trans ht.le (by decide)
  have hts : ts.length ≤ 1000 := Nat.le_trans ht.le (by decide)
  refine ⟨rfl, ?_⟩; show wSs Γ 60 t29 (b29.drop 0) [some (.loc n), some (.int g), none, none, none, none, none, none, none, none, none, none, none, none, none, none, none, none, none, none] st _ _
  refine ss_at rfl ?_; dsimp only [f_str, f_name, f_call, f_nil, f_cons, f_asgN, f_itemC, f_tn, wName, lk_0, se_s, se_0, ev_s, pl_a, ns_c, ns_n, s6, nf, ta, cond_true, cond_false, p29_0, p29_2, p29_13, q29]
  refine it_d hs.cs lk_sc (it_d hs.cs lk_at ⟨A, hA, hA' _ _ _ _ _ hl ?_⟩)
  generalize atV sc a = c
  refine ss_at rfl ?_; dsimp only [f_int, f_str, f_name, f_bin, f_call, f_nil, f_cons, f_asgN, f_itemC, f_tn, wName, lk_0, se_s, se_0, ev_s, pl_a, ns_c, ns_n, s4, s6, nf, ta, cond_true, cond_false, p29_0, p29_3, p29_13, q29]
  refine it_d hs.cs lk_sc (it_d hs.cs lk_at ?_)
  dsimp only [x_add]
  refine ⟨A, hA, hA' _ _ _ _ _ hl ?_⟩
  generalize atV sc (a + 1) = mo
  refine ss_at rfl ?_; dsimp only [f_str, f_name, f_call, f_nil, f_cons, f_asgN, f_itemC, f_tn, wName, lk_0, se_s, se_0, ev_s, pl_a, ns_n, s6, nf, ta, cond_true, cond_false, p29_0, p29_4, p29_14, q29]
  refine it_d hs.cs lk_to (b_len rfl htl ?_)
  rw [dI_len]
  refine ss_at rfl ?_; dsimp only [f_int, f_str, f_name, f_bin, f_asgS, f_itemC, f_tn, wName, lk_0, ev_s, l2, cond_false, p29_0]
  refine it_d hs.cs lk_at ?_
  dsimp only [x_add]
  refine set_d hs.cs lk_at (Nat.le_of_ble_eq_true rfl) sk_at ?_
  have h1 := hs.put (a + 2) f
  refine ss_at rfl ?_; dsimp only [f_int, f_str, f_name, f_bin, f_asgS, f_itemC, f_tn, wName, lk_0, ev_s, l2, cond_false, p29_0]
  refine it_d h1.cs lk_le ?_
  dsimp only [x_sub]
  refine set_d h1.cs lk_le (Nat.le_of_ble_eq_true rfl) sk_le ?_
  rw [put_put]
  have h2 := hs.put (a + 2) (f - 1)
  refine ss_at rfl ?_; dsimp only [f_int, f_name, f_bin, f_asgN, f_tn, wName, lk_s, lk_0, se_s, se_0, ev_s, x_mod, p29_2, p29_5]
  refine ⟨by decide, ?_⟩
  refine ss_at rfl ?_; dsimp only [f_int, f_name, f_bin, f_asgN, f_tn, wName, lk_s, lk_0, se_s, se_0, ev_s, x_div, x_mod, p29_2, p29_4, p29_6]
  obtain ⟨b, eb, hb⟩ := modN (c / 9) ht.pos
  rw [eb]
  refine ⟨by decide, by decide, Int.ofNat_lt.mpr ht.pos, ?_⟩
  refine ss_at rfl ?_; dsimp only [f_int, f_name, f_c1, f_tb, f_tc, f_an, f_ac, f_if, f_ssn, f_tn, wName, lk_s, lk_0, ev_s, q_lt, q_gt, q_eq, p29_1, p29_5]
  refine (fun hA hB => or_t (fun _ => hA) fun z => or_and hA (hB z)) ?_ fun e1 e2 => ?_
  · refine su ?_; dsimp only [f_str, f_name, f_call, f_tup, f_nil, f_cons, f_ret, f_tr, wName, lk_s, lk_0, ev_s, pl_a, ns_c, ns_n, s1, nf, ta, cond_true, cond_false, p29_3, p29_4, p29_6, p29_15, q29]
    exact ⟨I, hI, hI' _ _ _ _ _ _ h2.wf hb ht.le fun d hd => ⟨Nat.le_of_ble_eq_true rfl, fin_k (hQ _ 1 (a + 2) (f - 1) (pl_put rfl (sum_pln hts hd)) (by rw [rowD_eq]; exact rB_put hb hd) (ar1 hf) (ar2 hf))⟩⟩
  refine ss_at rfl ?_; dsimp only [f_int, f_name, f_c1, f_tc, f_if, f_ssn, f_tn, wName, lk_s, lk_0, ev_s, q_lt, p29_5]
  refine ite_d (fun _ => ?_) fun e3 => ?_
  · refine su ?_; dsimp only [f_str, f_name, f_call, f_tup, f_nil, f_cons, f_ret, f_tr, wName, lk_s, lk_0, ev_s, pl_a, ns_c, ns_n, s1, nf, ta, cond_true, cond_false, p29_3, p29_4, p29_16, q29]
    exact ⟨W, hW, hW' _ _ _ _ _ h2.wf ht.pos ht.le fun d hd => ⟨l_2, fin_k (hQ _ 1 (a + 2) (f - 1) (plnT (Nat.le_of_ble_eq_true rfl) (pln_c sp_say (pln_c (sum_pln hts hd) rfl))) (by rw [rowD_eq]; exact rB_say hd) (ar1 hf) (ar2 hf))⟩⟩
  obtain ⟨g, rfl⟩ : ∃ g', g = g' + 1 := by
    cases g with
    | succ g' => exact ⟨g', rfl⟩
    | zero =>
      cases e2 with
      | inl h => exact tf h
      | inr h => exact absurd (of_decide_eq_false h) (by omega)
  obtain ⟨R, hR, hR'⟩ := hR g rfl
  have eg : ((g + 1 : Nat) : Int) - 1 = (g : Int) := ar4
  obtain ⟨x, ex, hx⟩ := modN (c / 9) (m := 3) (by decide)
  have ex : c / 9 % 3 = (x : Int) := ex
  obtain ⟨y, ey, hy⟩ := modN (c / 27) (m := 3) (by decide)
  have ey : c / 27 % 3 = (y : Int) := ey
  refine ss_at rfl ?_; dsimp only [f_int, f_name, f_c1, f_tc, f_if, f_ssn, f_tn, wName, lk_s, lk_0, ev_s, q_lt, p29_5]
  refine ite_d (fun _ => ?_) fun _ => ?_
  · refine su ?_; dsimp only [f_int, f_name, f_bin, f_call, f_nil, f_cons, f_asgN, f_tn, wName, lk_s, lk_0, se_s, se_0, ev_s, pl_a, ns_c, ns_n, s1, s4, nf, ta, cond_true, cond_false, x_sub, x_div, x_mod, p29_0, p29_1, p29_2, p29_7, p29_17, q29]
    rw [eg, ex]
    refine ⟨by decide, by decide, by decide, R, hR, hR' _ _ _ _ _ _ _ _ _ h2 hl ht (ar2 hf) (lt_le hx) fun ds k a2 f2 g1 g2 g3 g4 g5 => ?_⟩
    rw [put_put]
    have h3 := hs.put a2 f2
    refine su ?_; dsimp only [f_int, f_str, f_name, f_bin, f_call, f_tup, f_nil, f_cons, f_ret, f_tr, wName, lk_s, lk_0, ev_s, pl_a, ns_c, ns_n, s1, s4, nf, ta, cond_true, cond_false, x_sub, x_div, x_mod, p29_0, p29_1, p29_2, p29_3, p29_4, p29_7, p29_16, p29_17, q29]
    refine ⟨W, hW, hW' _ _ _ _ _ h3.wf ht.pos ht.le fun s hd => ?_⟩
    rw [eg, ey]
    refine ⟨by decide, by decide, by decide, R, hR, hR' _ _ _ _ _ _ _ _ _ h3 hl ht g5 (lt_le hy) fun ds2 k2 a3 f3 g6 g7 g8 g9 g10 => ?_⟩
    rw [put_put]
    refine ⟨Nat.le_of_ble_eq_true rfl, fin_k (hQ _ (1 + k + k2) a3 f3 (plnT (Nat.le_of_ble_eq_true rfl) (pln_c sp_if (pln_c (sum_pln hts hd) (pln_c (plnT (le_lt g2 hx) (plnAll_iff.mpr g1)) (pln_c (plnT (le_lt g7 hy) (plnAll_iff.mpr g6)) rfl))))) ?_ (ar5 g4 g9) g10)⟩
    exact rB_if hd (listB_of (le_lt g2 hx) g3) (listB_of (le_lt g7 hy) g8)
  refine ss_at rfl ?_; dsimp only [f_int, f_str, f_name, f_bin, f_asgS, f_itemC, f_tn, wName, lk_0, ev_s, l2, cond_false, p29_0]
  refine it_d h2.cs lk_le ?_
  dsimp only [x_sub]
  refine set_d h2.cs lk_le (Nat.le_of_ble_eq_true rfl) sk_le ?_
  rw [put_put]
  have h3 := hs.put (a + 2) (f - 1 - 1)
  refine ss_at rfl ?_; dsimp only [f_tup, f_nil, f_asgN, f_tn, se_s, se_0, p29_8]
  refine ⟨by decide, ?_⟩
  refine ss_at rfl ?_; dsimp only [f_int, f_name, f_bin, f_call, f_list, f_nil, f_cons, f_for, f_itemB, f_icl, wName, lk_s, lk_0, ev_s, pl_a, ns_n, s6, nf, ta, cond_true, cond_false, x_div, x_mod, mk_f, f_tgN, setN, p29_2, p29_9, p29_18, q29]
  obtain ⟨v, ev, hv⟩ := modN (c / 81) (m := 5) (by decide)
  have ev : c / 81 % 5 = (v : Int) := ev
  rw [ev]
  refine ⟨by decide, by decide, by decide, by decide, it_p (vs := [0, 0, 1, 2, 3]) (P := fun v => 0 ≤ v ∧ v ≤ 3) hv (by decide) (by decide) fun u hu => ?_⟩
  obtain ⟨w, rfl, hw⟩ := ar7 hu
  refine i_range' (Nat.le_trans hw (by decide)) ?_
  dsimp only [hide_no, back_no]
  refine (fun z : ∀ (c' i : Nat) (ws : List D) (o p : Option D), (∀ d ∈ ws, sumD ts.length d = true) → ws.length + c' ≤ 3 → wFor _ (dN (List.range' i c')) [some (.loc n), some (.int ((g + 1 : Nat) : Int)), some (.int c), some (.int mo), some (.int ts.length), some (.int (c % 9)), some (.int b), none, some (.tup ws), o, p, none, none, none, none, none, none, none, none, none] (st.put n (.dict (stL sc (a + 2) (f - 1 - 1) ts))) _ => z w 0 [] none none (fun _ z => nomatch z) (by rw [List.length_nil, Nat.zero_add]; exact hw)) ?_
  intro c'
  induction c' with
  | succ c' ih =>
    intro i ws o p hws hl3
    show wFor _ (.int (i : Nat) :: dN (List.range' (i + 1) c')) _ _ _
    dsimp only [se_s, se_0, wf_c]
    refine su ?_; dsimp only [f_int, f_str, f_name, f_bin, f_call, f_nil, f_cons, f_asgN, f_itemC, f_tn, wName, lk_s, lk_0, se_s, se_0, ev_s, pl_a, ns_c, ns_n, s4, s6, nf, ta, cond_true, cond_false, p29_0, p29_9, p29_10, p29_13, q29]
    refine it_d h3.cs lk_sc (it_d h3.cs lk_at ?_)
    dsimp only [x_add]
    refine ⟨A, hA, hA' _ _ _ _ _ hl ?_⟩
    refine su ?_; dsimp only [f_name, f_bin, f_call, f_tup, f_nil, f_cons, f_asgN, f_ssn, f_tn, wName, lk_s, lk_0, se_s, se_0, ev_s, pl_a, ns_c, ns_n, s1, nf, ta, cond_true, cond_false, nf_n, p29_4, p29_8, p29_10, p29_16, q29]
    refine ⟨W, hW, hW' _ _ _ _ _ h3.wf ht.pos ht.le fun s hd => ⟨l_1, add_t (add1 hl3) ?_⟩⟩
    refine ih _ _ _ _ (fun x hx => ?_) (app1 hl3)
    cases List.mem_append.mp hx with
    | inl h => exact hws x h
    | inr h => cases h with
      | head => exact hd
      | tail _ z => exact nomatch z
  | zero =>
  intro i ws o p hws hl3
  show wFor _ [] _ _ _
  dsimp only [f_tn, wf_n]
  refine ss_at rfl ?_; dsimp only [f_int, f_str, f_name, f_call, f_tup, f_nil, f_cons, f_asgN, f_tn, wName, lk_s, lk_0, se_s, se_0, ev_s, pl_a, ns_c, ns_n, s1, s2, nf, ta, cond_true, cond_false, p29_4, p29_6, p29_11, p29_19, q29]
  refine ⟨U, hU, hU' _ _ _ _ _ _ _ h3.wf hb ht.le (by decide) (by decide) (by decide) (by decide) fun u hu => ⟨Nat.le_of_ble_eq_true rfl, l_1, ?_⟩⟩
  refine ss_at rfl ?_; dsimp only [f_int, f_name, f_bin, f_c1, f_tc, f_if, f_ssn, f_tn, wName, lk_s, lk_0, ev_s, x_div, x_mod, q_eq, p29_2]
  refine (fun hrest : ∀ (bs : List D) (e : Nat), (∀ d ∈ bs, d.pln = true) → bs.length ≤ 1 → sumO (rowD ts.length g) bs = some e → e ≤ 1 → wSs Γ _ t29 (List.drop _ b29) [some (.loc n), some (.int ((g + 1 : Nat) : Int)), some (.int c), some (.int mo), some (.int ts.length), some (.int (c % 9)), some (.int b), none, some (.tup ws), o, p, some (.tup bs), none, none, none, none, none, none, none, none] (st.put n (.dict (stL sc (a + 2) (f - 1 - 1) ts))) (finE st Q) (fun C st' => X C (st'.cut st.hi)) =>
    ⟨by decide, by decide, by decide, ite_b (fun _ => ?_) fun _ => hrest _ 1 (fun x hx => ?_) (Nat.le_refl _) (sumO_1 (by rw [rowD_eq]; exact rB_put hb hu)) (Nat.le_refl _)⟩) ?_
  rotate_left
  · refine su ?_; dsimp only [f_tup, f_nil, f_asgN, f_ssn, f_tn, se_s, se_0, p29_11]
    exact ⟨by decide, hrest [] 0 (fun _ z => nomatch z) (by decide) rfl (by decide)⟩
  · cases hx with
    | head => exact pl_put rfl (sum_pln hts hu)
    | tail _ z => exact nomatch z
  intro bs e b1 b2 b3 b4
  refine ss_at rfl ?_; dsimp only [f_int, f_name, f_bin, f_call, f_nil, f_cons, f_asgN, f_tn, wName, lk_s, lk_0, se_s, se_0, ev_s, pl_a, ns_c, ns_n, s1, s4, nf, ta, cond_true, cond_false, x_sub, x_div, x_mod, p29_0, p29_1, p29_2, p29_11, p29_17, q29]
  rw [eg, ey]
  refine ⟨by decide, by decide, by decide, R, hR, hR' _ _ _ _ _ _ _ _ _ h3 hl ht (ar3 hf) (lt_le hy) fun ds k a2 f2 g1 g2 g3 g4 g5 => ?_⟩
  rw [put_put]
  have h4 := hs.put a2 f2
  refine add_t (le2 b2 g2 hy) ?_
  refine ss_at rfl ?_; dsimp only [f_int, f_str, f_name, f_bin, f_call, f_nil, f_cons, f_asgN, f_itemC, f_itemN, f_tn, wName, lk_s, lk_0, se_s, se_0, ev_s, pl_a, ns_c, ns_n, s1, s2, s4, nf, ta, cond_true, cond_false, p29_0, p29_4, p29_6, p29_12, p29_19, q29]
  refine it_d h4.cs lk_to (it_p (P := fun t => 0 ≤ t ∧ t ≤ 9) hb hts ht.all fun t ht' => ?_)
  dsimp only [x_sub]
  refine ⟨U, hU, hU' _ _ _ _ _ _ _ h4.wf hb ht.le (by decide) (by decide) (ar8 ht').1 (ar8 ht').2 fun s hd => ?_⟩
  refine ss_at rfl ?_; dsimp only [f_int, f_name, f_bin, f_c1, f_tc, f_if, f_ssn, f_tn, wName, lk_s, lk_0, ev_s, x_div, x_mod, q_eq, p29_2]
  refine (fun hrest : ∀ (s : D), sumD ts.length s = true → wSs Γ _ t29 (List.drop _ b29) [some (.loc n), some (.int ((g + 1 : Nat) : Int)), some (.int c), some (.int mo), some (.int ts.length), some (.int (c % 9)), some (.int b), none, some (.tup ws), o, p, some (.tup (bs ++ ds)), some (s), none, none, none, none, none, none, none] (st.put n (.dict (stL sc a2 f2 ts))) (finE st Q) (fun C st' => X C (st'.cut st.hi)) =>
    ⟨by decide, by decide, by decide, ite_b (fun _ => ?_) fun _ => hrest _ hd⟩) ?_
  rotate_left
  · refine su ?_; dsimp only [f_name, f_call, f_nil, f_cons, f_asgN, f_ssn, f_tn, wName, lk_s, lk_0, se_s, se_0, ev_s, pl_a, ns_c, ns_n, s1, nf, ta, cond_true, cond_false, p29_3, p29_4, p29_12, p29_16, q29]
    exact ⟨W, hW, hW' _ _ _ _ _ h4.wf ht.pos ht.le fun s hd => hrest s hd⟩
  intro s hd
  refine ss_at rfl ?_; dsimp only [f_str, f_name, f_tup, f_nil, f_cons, f_ret, f_tr, wName, lk_s, lk_0, ev_s, p29_8, p29_11, p29_12]
  refine ⟨Nat.le_of_ble_eq_true rfl, fin_k (hQ _ (1 + (e + k)) a2 f2 (plnT (Nat.le_of_ble_eq_true rfl) (pln_c sp_loop (pln_c (sum_pln hts hd) (pln_c (plnT (le_ad hl3) (plnAll_iff.mpr fun d hd => sum_pln hts (hws d hd))) (pln_c (plnT (by rw [List.length_append]; exact le2 b2 g2 hy) (plnAll_iff.mpr fun d hd => ?_)) rfl))))) ?_ (ar6 b4 g4) g5)⟩
  · cases List.mem_append.mp hd with
    | inl h => exact b1 d h
    | inr h => exact g1 d h
  · refine rB_loop hd ?_ (listB_of (by rw [List.length_append]; exact le2 b2 g2 hy) (sumO_app b3 g3))
    show (decide (ws.length ≤ 3) && ws.all (sumD ts.length)) = true
    rw [decide_eq_true (le_ad hl3), List.all_eq_true.mpr hws]; rfl
end Mine
end

section
set_option autoImplicit false
set_option linter.unusedVariables false
set_option linter.unusedSimpArgs false
set_option maxRecDepth 100000
namespace Mine
open PySem
/-- rows that a program is made of -/
structure RowsOk (m : Nat) (ds : List D) (k : Nat) : Prop where
  pln : ∀ d ∈ ds, d.pln = true
  len : ds.length ≤ 8
  sum : sumO (rowD m 3) ds = some k
  le : k ≤ 9
noncomputable def SpProgram (S : FSpec) : Prop := ∀ (sc : List Int) (st : St) (Q : D → St → Prop) (X : XP), WfSt st → sc.length ≤ 1000 → (∀ ts ds k, TopsOk ts → RowsOk ts.length ds k → Q (.tup [.list (dI ts), .tup ds]) st) → S [.list (dI sc), .int 8] st Q X
theorem k_le {k : Nat} {f : Int} (h1 : (k : Int) + f ≤ 8) (h2 : -1 ≤ f) : k ≤ 9 := by omega
noncomputable def t31 : Tb := tb [("_law_script", .local), ("_law_most", .local), ("_law_tops_here", .local), ("_law_state", .local), ("_law_tops", .globalImplicit), ("_law_rows", .globalImplicit), ("_law_at", .globalImplicit)] ["_law_state"]
noncomputable abbrev b31 : List Stmt := bodyOf 31
theorem p31_0 : t31.pl "_law_script" = .loc 0 true false := rfl
theorem p31_1 : t31.pl "_law_most" = .loc 1 true false := rfl
theorem p31_2 : t31.pl "_law_tops_here" = .loc 2 true false := rfl
theorem p31_3 : t31.pl "_law_state" = .loc 3 true true := rfl
theorem p31_4 : t31.pl "_law_tops" = .gl (.fn) := rfl
theorem p31_5 : t31.pl "_law_rows" = .gl (.fn) := rfl
theorem p31_6 : t31.pl "_law_at" = .gl (.fn) := rfl
theorem q31 : t31.hq = false := rfl
theorem program_ok {Γ : Ctx} (hA : Has Γ "_law_at" SpAt) (hT : Has Γ "_law_tops" SpTopsL) (hR : Has Γ "_law_rows" (SpGenRows 3)) : SpProgram (wFn Γ 60 t31 2 b31) := by
  intro sc st Q X hw hl hQ
  obtain ⟨A, hA, hA'⟩ := hA
  obtain ⟨U, hU, hU'⟩ := hT
  obtain ⟨R, hR, hR'⟩ := hR
  refine ⟨rfl, ?_⟩; show wSs Γ 60 t31 (b31.drop 0) [some (.list (dI sc)), some (.int 8), none, none, none, none, none] st _ _
  refine ss_at rfl ?_; dsimp only [f_name, f_call, f_nil, f_cons, f_asgN, f_tn, wName, lk_0, se_s, se_0, ev_s, pl_a, ns_n, s1, nf, ta, cond_true, cond_false, p31_0, p31_2, p31_4, q31]
  refine ⟨U, hU, hU' _ _ _ _ hw hl fun ts ht => ?_⟩
  refine ss_at rfl ?_; dsimp only [f_int, f_name, f_dict, f_nil, f_cons, f_asgN, f_tn, wName, lk_s, lk_0, se_s, se_0, ev_s, ta, p31_0, p31_1, p31_2, p31_3]
  refine bif_t rfl ?_
  refine ss_at rfl ?_; dsimp only [f_int, f_name, f_bin, f_call, f_tup, f_nil, f_cons, f_ret, f_tr, wName, lk_s, lk_0, ev_s, pl_a, ns_c, ns_n, s1, s2, s4, nf, ta, cond_true, cond_false, x_add, p31_0, p31_1, p31_2, p31_3, p31_5, p31_6, q31]
  refine ⟨A, hA, hA' _ _ _ _ _ hl ?_⟩
  dsimp only [x_mod]
  obtain ⟨x, ex, hx⟩ := modN (atV sc 3) (m := 9) (by decide)
  have ex : atV sc 3 % (8 + 1) = (x : Int) := ex
  rw [ex]
  have hI : ∀ l : List Int, undrAll st.hi (dI l) = true := fun l => undrAll_iff.mpr fun d hd => by
    obtain ⟨i, _, rfl⟩ := List.mem_map.mp hd; rfl
  have he : Ext st (st.alloc (.dict (stL sc 4 8 ts))) := ext_alloc hw fun d hd => by
    cases hd with
    | head => exact hI sc
    | tail _ hd => cases hd with
      | head => rfl
      | tail _ hd => cases hd with
        | head => rfl
        | tail _ hd => cases hd with
          | head => exact hI ts
          | tail _ hd => exact nomatch hd
  have hs : Sta (st.alloc (.dict (stL sc 4 8 ts))) st.hi sc 4 8 ts := ⟨he.wf, al_hi⟩
  refine ⟨by decide, R, hR, hR' _ _ _ _ _ _ _ _ _ hs hl ht (by decide) (lt_le hx) fun ds k a' f' g1 g2 g3 g4 g5 => ?_⟩
  rw [alloc_put]
  refine ⟨l_2, fin_p hw ?_ ?_ (hQ ts ds k ht ⟨g1, Nat.le_trans g2 (Nat.le_of_lt_succ hx), g3, k_le g4 g5⟩)⟩
  · have := hs.put a' f'
    rw [alloc_put] at this
    exact ⟨Nat.le_succ _, fun k hk => if_neg (Nat.ne_of_lt hk), this.wf⟩
  · refine plnT (Nat.le_of_ble_eq_true rfl) (pln_c ?_ (pln_c (plnT (le_lt g2 hx) (plnAll_iff.mpr g1)) rfl))
    refine pln_list.mpr ⟨by rw [dI_len]; exact Nat.le_trans ht.le (by decide), fun d hd => ?_⟩
    obtain ⟨i, _, rfl⟩ := List.mem_map.mp hd; rfl
end Mine
end

section
set_option autoImplicit false
set_option linter.unusedVariables false
set_option linter.unusedSimpArgs false
set_option maxRecDepth 100000
namespace Mine
open PySem
noncomputable def BadR (m : Nat) (d : D) : Prop := ∀ g, rowD m g d = none
noncomputable def BadV (m : Nat) (v : D) : Prop := ∀ g, subC m g v = none
theorem sumO_bad {f : D → Option Nat} {x : D} {a b : List D} (h : f x = none) : sumO f (a ++ [x] ++ b) = none := by
  induction a with
  | nil => show plusO (f x) _ = none; rw [h]; rfl
  | cons y a ih =>
    show plusO (f y) (sumO f (a ++ [x] ++ b)) = none
    rw [ih]; cases f y <;> rfl
theorem badV_of {m : Nat} {ds : List D} (h : ∀ g, sumO (rowD m g) ds = none) : BadV m (.tup ds) := by
  intro g
  cases g with
  | zero => rfl
  | succ g =>
    show (if _ then sumO (rowD m g) ds else none) = none
    rw [h g]; split <;> rfl
/-- a row of four whose inner part is none -/
theorem badR_node {m : Nat} {r : List D} {w : Str} {i : Nat} (h0 : at_ r 0 = .str w) (hi : ((w == "if") = true ∧ (i = 2 ∨ i = 3)) ∨ ((w == "if") = false ∧ (w == "loop") = true ∧ i = 3)) (hv : BadV m (at_ r i)) : BadR m (.tup r) := by
  intro g
  rw [rowD_eq, rowB_s h0]
  have q1 : ∀ {a b : Str}, (w == a) = true → (a == b) = false → (w == b) = false := by
    intro a b h1 h2; rw [eq_of_beq h1]; exact h2
  have hn : nodeR m (subC m g) w r = none := by
    unfold nodeR
    cases hi with
    | inl h =>
      rw [h.1]
      cases h.2 with
      | inl e => rw [e] at hv; rw [hv g]; cases (_ && _ : Bool) <;> rfl
      | inr e => rw [e] at hv; rw [hv g]; cases (_ && _ : Bool) <;> first | rfl | (cases subC m g (at_ r 2) <;> rfl)
    | inr h =>
      rw [h.1, h.2.1]
      rw [h.2.2] at hv; rw [hv g]; cases (_ && _ : Bool) <;> first | rfl | (cases wordsD m (at_ r 2) <;> rfl)
  rw [rowS, hn]
  cases hi with
  | inl h => rw [q1 h.1 (b := "put") (by decide +kernel), q1 h.1 (b := "say") (by decide +kernel)]; rfl
  | inr h => rw [q1 h.2.1 (b := "put") (by decide +kernel), q1 h.2.1 (b := "say") (by decide +kernel)]; rfl
theorem kid_ix {r : List D} {j : Nat} {d : D} (h : (j, d) ∈ kids (.tup r)) : ∃ i : Nat, d = at_ r i ∧ ((wordD (.tup r) == "loop") = true ∧ (wordD (.tup r) == "if") = false ∧ i = 3 ∨ (wordD (.tup r) == "loop") = false ∧ (wordD (.tup r) == "if") = true ∧ i = 2 + j ∧ (i = 2 ∨ i = 3)) := by
  rw [kids, kidsW] at h
  cases e : (wordD (.tup r) == "if") with
  | true =>
    have e' : (wordD (.tup r) == "loop") = false := by rw [eq_of_beq e]; decide +kernel
    rw [e] at h
    rw [e']
    cases h with
    | head => exact ⟨2, rfl, .inr ⟨rfl, rfl, rfl, .inl rfl⟩⟩
    | tail _ h => cases h with
      | head => exact ⟨3, rfl, .inr ⟨rfl, rfl, rfl, .inr rfl⟩⟩
      | tail _ h => exact nomatch h
  | false =>
    rw [e] at h
    cases e' : (wordD (.tup r) == "loop") with
    | true =>
      rw [e'] at h
      cases h with
      | head => exact ⟨3, rfl, .inl ⟨rfl, rfl, rfl⟩⟩
      | tail _ h => exact nomatch h
    | false => rw [e'] at h; exact nomatch h
noncomputable def SpChanged (L : Nat) (S : FSpec) : Prop := ∀ (m : Nat) (d : D) (p : List Nat) (r bad : D) (st : St) (Q : D → St → Prop) (X : XP), WfSt st → d.pln = true → Fr d p r → p.length ≤ 2 * L + 1 → bad.pln = true → BadR m bad →
  (∀ ds', (D.tup ds').pln = true → (∀ g, sumO (rowD m g) ds' = none) → Q (.tup ds') st) → S [d, .tup (dN p), bad] st Q X
theorem sl_to {trk : Bool} {xs : List D} {k : Nat} {st : St} {Q : D → St → Prop} (hl : xs.length ≤ lim) (hk : k ≤ xs.length) (h : Q (.tup (xs.take k)) st) : wSlice trk (.tup xs) .none (.int (k : Int)) .none st Q := by
  refine ⟨none, some (k : Int), none, rfl, rfl, rfl, nofun, rfl, hl, ?_⟩
  rw [tupS_to hk]; exact h
theorem sl_from {trk : Bool} {xs : List D} {k : Nat} {st : St} {Q : D → St → Prop} (hl : xs.length ≤ lim) (hk : k ≤ xs.length) (h : Q (.tup (xs.drop k)) st) : wSlice trk (.tup xs) (.int (k : Int)) .none .none st Q := by
  refine ⟨some (k : Int), none, none, rfl, rfl, rfl, nofun, rfl, hl, ?_⟩
  rw [tupS_from hk]; exact h
theorem at_set {r : List D} {i j : Nat} {v : D} (h : i ≠ j) : at_ (r.set i v) j = at_ r j := by
  rw [at_, at_, List.getD_eq_getElem?_getD, List.getD_eq_getElem?_getD, List.getElem?_set_ne h]
theorem at_set_self {r : List D} {i : Nat} {v : D} (h : i < r.length) : at_ (r.set i v) i = v := by
  rw [at_, List.getD_eq_getElem?_getD, List.getElem?_set_self h]; rfl
theorem it_at {st : St} {n k : Nat} {xs : List D} {i : Int} {Q : D → St → Prop} (hc : st.cs n = some (.list xs)) (hi : i = (k : Int)) (hk : k < xs.length) (hl : xs.length ≤ lim) (h : Q (at_ xs k) st) : wItem (.loc n) (.int i) st Q := by
  refine it_nn (seq_loc hc) hi hl (x := at_ xs k) ?_ h
  rw [at_, List.getD_eq_getElem?_getD, List.getElem?_eq_getElem hk]; rfl
noncomputable def t33 : Tb := tb [("_law_rows_here", .local), ("_law_place", .local), ("_law_row_here", .local), ("_law_at_here", .local), ("_law_parts", .local), ("_law_inner", .local), ("len", .globalImplicit), ("list", .globalImplicit), ("int", .globalImplicit), ("_law_changed", .globalImplicit), ("tuple", .globalImplicit)] ["_law_parts"]
noncomputable abbrev b33 : List Stmt := bodyOf 33
theorem p33_0 : t33.pl "_law_rows_here" = .loc 0 true false := rfl
theorem p33_1 : t33.pl "_law_place" = .loc 1 true false := rfl
theorem p33_2 : t33.pl "_law_row_here" = .loc 2 true false := rfl
theorem p33_3 : t33.pl "_law_at_here" = .loc 3 true false := rfl
theorem p33_4 : t33.pl "_law_parts" = .loc 4 true true := rfl
theorem p33_5 : t33.pl "_law_inner" = .loc 5 true false := rfl
theorem p33_6 : t33.pl "len" = .gl (.blt (.val (.builtin "len"))) := rfl
theorem p33_7 : t33.pl "list" = .gl (.blt (.val (.type "list"))) := rfl
theorem p33_8 : t33.pl "int" = .gl (.blt (.val (.type "int"))) := rfl
theorem p33_9 : t33.pl "_law_changed" = .gl (.fn) := rfl
theorem p33_10 : t33.pl "tuple" = .gl (.blt (.val (.type "tuple"))) := rfl
theorem q33 : t33.hq = false := rfl
theorem changed_ok {Γ : Ctx} {L : Nat} (hL : L ≤ 400) (hC : ∀ L', L = L' + 1 → Has Γ "_law_changed" (SpChanged L')) : SpChanged L (wFn Γ 60 t33 3 b33) := by
  intro m d p r bad st Q X hw hp hf hpl hb hbad hQ
  have hpll : p.length ≤ 1000 := Nat.le_trans hpl (Nat.le_trans (Nat.add_le_add_right (Nat.mul_le_mul_left 2 hL) 1) (by decide))
  have hpl2 : (dN p).length ≤ lim := by rw [List.length_map]; exact Nat.le_trans hpll (by decide)
  obtain ⟨ds, k, x, p', rfl, rfl, hk, hds⟩ : ∃ ds k x p', d = .tup ds ∧ p = k :: p' ∧ ds[k]? = some x ∧ ds.length ≤ lim := by
    cases hf with
    | top h1 h2 => exact ⟨_, _, _, _, rfl, rfl, h2, h1⟩
    | sub h1 h2 _ _ _ _ => exact ⟨_, _, _, _, rfl, rfl, h2, h1⟩
  have hkl : k < ds.length := (List.getElem?_eq_some_iff.mp hk).1
  refine ⟨rfl, ?_⟩; show wSs Γ 60 t33 (b33.drop 0) [some (.tup ds), some (.tup (dN (k :: p'))), some (bad), none, none, none, none, none, none, none, none] st _ _
  refine ss_at rfl ?_; dsimp only [f_int, f_name, f_asgN, f_itemC, f_tn, wName, lk_s, lk_0, se_s, se_0, ev_s, p33_1, p33_3]
  refine it_0 ?_
  dsimp only []
  refine ss_at rfl ?_; dsimp only [f_int, f_name, f_call, f_nil, f_cons, f_c1, f_tc, f_if, f_ssn, f_tn, wName, lk_s, lk_0, ev_s, pl_a, ns_n, s1, nf, ta, cond_true, cond_false, p33_1, p33_6, q33]
  refine (fun hrest : ∀ (y : D) (o q : Option D) (st1 : St), Ext st st1 → y.pln = true → BadR m y → wSs Γ _ t33 (List.drop _ b33) [some (.tup ds), some (.tup (dN (k :: p'))), some (y), some (.int (k : Nat)), o, q, none, none, none, none, none] st1 (finE st Q) (fun C st' => X C (st'.cut st.hi)) =>
    b_len rfl hpl2 (ite_d (fun h => ?_) fun _ => hrest _ _ _ _ (Ext.refl hw) hb hbad)) ?_
  · refine su ?_; dsimp only [f_name, f_call, f_nil, f_cons, f_asgN, f_itemN, f_tn, wName, lk_s, lk_0, se_s, se_0, ev_s, pl_a, ns_n, s6, nf, ta, cond_true, cond_false, p33_0, p33_3, p33_4, p33_7, q33]
    cases hf with
    | top _ _ => exact absurd h (by show ¬ (((1 : Nat) : Int) > 1); omega)
    | @sub _ _ j r' d' q _ f1 f2 f3 f4 f5 f6 =>
      cases f2.symm.trans hk
      have hr' := pln_tup.mp ((pln_tup.mp hp).2 _ (List.mem_of_getElem? hk))
      obtain ⟨L', hLL, hpq⟩ := two_l (n := q.length) (L := L) (Nat.le_of_succ_le_succ hpl)
      obtain ⟨S, hS, hS'⟩ := hC L' hLL
      have ha := acc_0 hw hr'.2
      obtain ⟨i, rfl, hi⟩ := kid_ix f5
      have hi23 : i = 2 ∨ i = 3 := hi.elim (fun h => .inr h.2.2) fun h => h.2.2.2
      have hi4 : i < r'.length := by rw [f4]; exact hi23.elim (fun h => h ▸ by decide) fun h => h ▸ by decide
      have hi0 : i ≠ 0 := hi23.elim (fun h => h ▸ by decide) fun h => h ▸ by decide
      refine it_nn rfl rfl hds hk (b_list rfl ⟨hr'.1, ?_⟩)
      dsimp only [cond_true]
      refine su ?_; dsimp only [f_int, f_str, f_name, f_bin, f_cmp, f_call, f_list, f_nil, f_cons, f_c1, f_asgN, f_itemC, f_itemF, f_tn, wName, lk_s, lk_0, se_s, se_0, ev_s, pl_a, ns_n, s9, nf, ta, cond_true, cond_false, mk_f, p33_1, p33_4, p33_5, p33_8, q33]
      refine it_1 ?_
      dsimp only [x_add]
      refine ⟨l_2, it_at (k := 0) al_hi rfl (lt4 f4) hr'.1 ?_⟩
      rw [f3]
      dsimp only [q_seq]
      refine b_int ?_
      refine it_nn (x := .int (i : Int)) (k := if (wordD (.tup r') == "loop") = true then 1 else 0) rfl (by split <;> rfl) l_2 ?_ ?_
      · rcases hi with ⟨e, _, h⟩ | ⟨e, _, h, _⟩
        · rw [e, h]; rfl
        · rw [e, h]; rfl
      refine su ?_; dsimp only [f_int, f_name, f_call, f_slice, f_nil, f_cons, f_on, f_os, f_asgS, f_itemN, f_tn, wName, lk_s, lk_0, ev_s, pl_a, ns_c, ns_n, s1, s6, l1, nf, ta, cond_true, cond_false, p33_1, p33_2, p33_4, p33_5, p33_9, q33]
      refine it_at al_hi rfl hi4 hr'.1 ?_
      refine sl_from (k := 2) hpl2 (Nat.le_add_left 2 _) ?_
      refine ⟨S, hS, hS' m _ q _ _ _ _ _ ha.ext.wf (pl_at i hr'.2) f6 hpq hb hbad fun ds' g1 g2 => ?_⟩
      refine set_k al_hi rfl hi4 (by rw [f4]; decide) ?_
      have hv : ∀ z ∈ r'.set i (.tup ds'), z.pln = true := fun z hz => by
        cases mem_set hz with
        | inl h => exact hr'.2 z h
        | inr h => rw [h]; exact g1
      have ha := acc_put (L' := r'.set i (.tup ds')) ha (pln_vals hv)
      have hlen : (r'.set i (.tup ds')).length ≤ lim := by rw [List.length_set]; exact hr'.1
      refine su ?_; dsimp only [f_name, f_call, f_nil, f_cons, f_asgN, f_ssn, f_tn, wName, lk_s, lk_0, se_s, se_0, ev_s, pl_a, ns_n, s1, nf, ta, cond_true, cond_false, p33_2, p33_4, p33_10, q33]
      refine b_tuple (lst_loc ha.cs) hlen ?_
      refine hrest _ _ _ _ ha.ext (pln_tup.mpr ⟨hlen, hv⟩) (badR_node (w := wordD (.tup r')) (i := i) (by rw [at_set hi0]; exact f3) ?_ (by rw [at_set_self hi4]; exact badV_of g2))
      rcases hi with ⟨e, e', h⟩ | ⟨e, e', _, h⟩
      · exact .inr ⟨e', e, h⟩
      · exact .inl ⟨e', h⟩
  intro y o q st1 he hy hbr
  refine ss_at rfl ?_; dsimp only [f_int, f_name, f_bin, f_slice, f_tup, f_nil, f_cons, f_on, f_os, f_ret, f_tr, wName, lk_s, lk_0, ev_s, x_add, p33_0, p33_2, p33_3]
  refine sl_to hds (Nat.le_of_lt hkl) ?_
  refine ⟨l_1, ⟨by rw [List.length_take, Nat.min_eq_left (Nat.le_of_lt hkl)]; exact Nat.le_trans hkl hds, ?_⟩⟩
  dsimp only []
  rw [show (k : Int) + 1 = ((k + 1 : Nat) : Int) from rfl]
  refine sl_from hds hkl ?_
  have hlen : (ds.take k ++ [y] ++ ds.drop (k + 1)).length = ds.length := by
    rw [List.length_append, List.length_append, List.length_take, List.length_drop, Nat.min_eq_left (Nat.le_of_lt hkl)]; exact Nat.add_sub_cancel' hkl
  have hpl : (D.tup (ds.take k ++ [y] ++ ds.drop (k + 1))).pln = true := by
    have hps := (pln_tup.mp hp).2
    refine pln_tup.mpr ⟨by rw [hlen]; exact hds, fun z hz => ?_⟩
    cases List.mem_append.mp hz with
    | inr h => exact hps z (List.mem_of_mem_drop h)
    | inl h => cases List.mem_append.mp h with
      | inl h => exact hps z (List.mem_of_mem_take h)
      | inr h => cases h with
        | head => exact hy
        | tail _ h => exact nomatch h
  refine ⟨by rw [← List.length_append, hlen]; exact hds, fin_p hw he hpl (hQ _ hpl fun g => sumO_bad (hbr g))⟩
end Mine
end

section
set_option autoImplicit false
set_option linter.unusedVariables false
set_option linter.unusedSimpArgs false
set_option maxRecDepth 100000
namespace Mine
open PySem
theorem it_q {P : D → Prop} {vs : List D} {k : Nat} {st : St} {Q : D → St → Prop} (hk : k < vs.length) (hl : vs.length ≤ 1000) (hP : ∀ v ∈ vs, P v) (h : ∀ v, P v → Q v st) : wItem (.list vs) (.int (k : Int)) st Q :=
  it_nn rfl rfl (Nat.le_trans hl (by decide)) (List.getElem?_eq_getElem hk) (h _ (hP _ (List.getElem_mem hk)))
theorem pick_init {xs : List D} : pickL xs none (some (-1)) none = xs.dropLast := by
  unfold pickL
  rw [sliceBounds_plain]
  simp only [Option.elim]
  rw [show clipAt xs.length (-1) = xs.length - 1 from clipAt_neg xs.length 1 (by decide), sliceRange_one, List.filterMap_map, List.dropLast_eq_take]
  exact fm_range (xs.length - 1) (Nat.sub_le _ _) fun k _ => by simp
theorem frz_tl {st st' : St} {n : Nat} {ds : List D} {e : D} (hn : st.hi ≤ n) (hc : st'.cs n = some (.list ds)) (h : ∀ d ∈ ds, d.pln = true) (he : e.pln = true) : frz st.hi st' 3 (.tup [.loc n, e]) = some (.tup [.list ds, e]) := by
  have h1 : frz st.hi st' 2 (.loc n) = some (.list ds) := by
    show (if n < st.hi then _ else _) = _
    rw [if_neg (Nat.not_lt.mpr hn), hc]
    show Option.map _ (ds.mapM _) = _
    rw [frz_l h]; rfl
  show (if undrAll st.hi [.loc n, e] = true then _ else _) = _
  rw [if_neg (by show ¬ ((decide (n < st.hi) && _) = true); rw [decide_eq_false (Nat.not_lt.mpr hn)]; exact Bool.noConfusion)]
  show Option.map _ (List.mapM _ [D.loc n, e]) = _
  rw [List.mapM_cons, h1, List.mapM_cons, frz_pln he]; rfl
theorem sum_len {m : Nat} {ns : List D} {b : D} (h : ns.length ≠ m) : sumD m (.tup [.tup ns, b]) = false := by
  show ((ns.length == m && _) && _) = false
  rw [beq_false_of_ne h]; rfl
theorem sum_snd {m : Nat} {a b : D} (h : amongD (-99) 99 b = false) : sumD m (.tup [a, b]) = false := by
  show (_ && amongD (-99) 99 b) = false
  rw [h, Bool.and_false]
theorem sum_el {m : Nat} {ns : List D} {b x : D} (hx : x ∈ ns) (h : amongD (-9) 9 x = false) : sumD m (.tup [.tup ns, b]) = false := by
  show ((_ && ns.all (amongD (-9) 9)) && _) = false
  rw [show ns.all (amongD (-9) 9) = false from List.all_eq_false.mpr ⟨x, hx, by rw [h]; decide⟩, Bool.and_false]; rfl
noncomputable def SpBadSum (S : FSpec) : Prop := ∀ (c : Int) (m : Nat) (d : D) (st : St) (Q : D → St → Prop) (X : XP), WfSt st → 1 ≤ m → m ≤ 3 → sumD m d = true → (∀ d, d.pln = true → sumD m d = false → Q d st) → S [.int c, d] st Q X
noncomputable def t34 : Tb := tb [("_law_cell", .local), ("_law_one", .local), ("_law_numbers", .local), ("_law_at_here", .local), ("_law_way", .local), ("list", .globalImplicit), ("len", .globalImplicit), ("tuple", .globalImplicit)] ["_law_numbers"]
noncomputable abbrev b34 : List Stmt := bodyOf 34
theorem p34_0 : t34.pl "_law_cell" = .loc 0 true false := rfl
theorem p34_1 : t34.pl "_law_one" = .loc 1 true false := rfl
theorem p34_2 : t34.pl "_law_numbers" = .loc 2 true true := rfl
theorem p34_3 : t34.pl "_law_at_here" = .loc 3 true false := rfl
theorem p34_4 : t34.pl "_law_way" = .loc 4 true false := rfl
theorem p34_5 : t34.pl "list" = .gl (.blt (.val (.type "list"))) := rfl
theorem p34_6 : t34.pl "len" = .gl (.blt (.val (.builtin "len"))) := rfl
theorem p34_7 : t34.pl "tuple" = .gl (.blt (.val (.type "tuple"))) := rfl
theorem q34 : t34.hq = false := rfl
theorem badsum_ok {Γ : Ctx} : SpBadSum (wFn Γ 60 t34 2 b34) := by
  intro c m d st Q X hw h1 h3 hd hQ
  have hml : m ≤ 1000 := Nat.le_trans h3 (by decide)
  have hdp := sum_pln hml hd
  refine ex2 (sum_inv hd) fun ns i q__50_1 => an5 q__50_1 fun e__50_2 hn hns _ _ => ?_
  subst e__50_2
  have hnp := am_pln hns
  have hnl : ns.length ≤ lim := by rw [hn]; exact Nat.le_trans hml (by decide)
  have hntp : (D.tup ns).pln = true := pln_tup.mpr ⟨hnl, hnp⟩
  have ha := acc_0 hw hnp
  obtain ⟨b, eb, hb⟩ := modN (c / 8) h1
  obtain ⟨w, ew, hw6⟩ := modN (c / 24) (m := 6) (by decide)
  have ew : c / 24 % 6 = (w : Int) := ew
  refine ⟨rfl, ?_⟩; show wSs Γ 60 t34 (b34.drop 0) [some (.int c), some (.tup [.tup ns, .int i]), none, none, none, none, none, none] st _ _
  refine ss_at rfl ?_; dsimp only [f_int, f_name, f_call, f_nil, f_cons, f_asgN, f_itemC, f_tn, wName, lk_s, lk_0, se_s, se_0, ev_s, pl_a, ns_n, s6, nf, ta, cond_true, cond_false, p34_1, p34_2, p34_5, q34]
  refine it_0 (b_list rfl ⟨hnl, ?_⟩)
  dsimp only [cond_true]
  refine ss_at rfl ?_; dsimp only [f_int, f_name, f_bin, f_call, f_nil, f_cons, f_asgN, f_tn, wName, lk_s, lk_0, se_s, se_0, ev_s, pl_a, ns_n, s1, nf, ta, cond_true, cond_false, x_div, p34_0, p34_2, p34_3, p34_6, q34]
  refine ⟨by decide, by decide, b_len (seq_loc al_hi) hnl ?_⟩
  dsimp only [x_mod]
  rw [hn, eb]
  refine ⟨Int.ofNat_lt.mpr h1, ?_⟩
  refine ss_at rfl ?_; dsimp only [f_int, f_name, f_bin, f_asgN, f_tn, wName, lk_0, se_s, se_0, ev_s, x_mod, p34_0, p34_4]
  refine ⟨by decide, ?_⟩
  refine ss_at rfl ?_; dsimp only [f_int, f_name, f_c1, f_tc, f_if, f_ssn, f_tn, wName, lk_s, lk_0, ev_s, q_eq, p34_4]
  refine ite_b (fun _ => ?_) fun _ => ?_
  · refine su ?_; dsimp only [f_int, f_name, f_tup, f_nil, f_cons, f_ret, f_itemC, f_tr, wName, lk_s, lk_0, ev_s, p34_1, p34_2]
    refine it_1 ⟨l_2, fin_z (frz_tl ha.lo ha.cs hnp rfl) ?_⟩
    rw [cut_ext hw ha.ext]
    exact hQ _ (plnT (Nat.le_of_ble_eq_true rfl) (pln_c (pln_list.mpr ⟨hnl, hnp⟩) (pln_c rfl rfl))) rfl
  refine ss_at rfl ?_; dsimp only [f_int, f_name, f_c1, f_tc, f_if, f_ssn, f_tn, wName, lk_s, lk_0, ev_s, q_eq, p34_4]
  refine ite_b (fun _ => ?_) fun _ => ?_
  · refine su ?_; dsimp only [f_int, f_name, f_bin, f_tup, f_nil, f_cons, f_ret, f_itemC, f_tr, wName, lk_s, lk_0, ev_s, p34_1]
    refine it_0 ?_
    have hl2 : (ns ++ [D.int 0]).length = m + 1 := by rw [List.length_append, hn]; rfl
    refine ⟨l_1, add_t (by rw [← List.length_append, hl2]; exact Nat.le_trans (Nat.add_le_add_right h3 1) (by decide)) (it_1 ⟨l_2, fin_p hw ha.ext ?_ (hQ _ ?_ (sum_len (by rw [hl2]; exact Nat.succ_ne_self m)))⟩)⟩ <;>
    exact plnT (Nat.le_of_ble_eq_true rfl) (pln_c (pln_tup.mpr ⟨by rw [hl2]; exact Nat.le_trans (Nat.add_le_add_right h3 1) (by decide), fun x hx => by
      cases List.mem_append.mp hx with
      | inl h => exact hnp x h
      | inr h => cases h with
        | head => rfl
        | tail _ h => exact nomatch h⟩) (pln_c rfl rfl))
  refine ss_at rfl ?_; dsimp only [f_int, f_name, f_c1, f_tc, f_if, f_ssn, f_tn, wName, lk_s, lk_0, ev_s, q_eq, p34_4]
  refine ite_b (fun _ => ?_) fun _ => ?_
  · refine su ?_; dsimp only [f_int, f_name, f_slice, f_tup, f_nil, f_cons, f_on, f_os, f_ret, f_itemC, f_tr, wName, lk_s, lk_0, ev_s, p34_1]
    refine it_0 ?_
    have hl2 : (ns.drop 1).length = m - 1 := by rw [List.length_drop, hn]
    refine sl_from (k := 1) hnl (by rw [hn]; exact h1) (it_1 ⟨l_2, fin_p hw ha.ext ?_ (hQ _ ?_ (sum_len (by rw [hl2]; exact Nat.ne_of_lt (Nat.sub_lt h1 (by decide)))))⟩) <;>
    exact plnT (Nat.le_of_ble_eq_true rfl) (pln_c (pln_tup.mpr ⟨by rw [hl2]; exact Nat.le_trans (Nat.sub_le _ _) (Nat.le_trans hml (by decide)), fun x hx => hnp x (List.mem_of_mem_drop hx)⟩) (pln_c rfl rfl))
  refine ss_at rfl ?_; dsimp only [f_int, f_name, f_c1, f_tc, f_if, f_ssn, f_tn, wName, lk_s, lk_0, ev_s, q_eq, p34_4]
  refine ite_b (fun _ => ?_) fun _ => ?_
  · refine su ?_; dsimp only [f_none, f_bool, f_int, f_str, f_name, f_bin, f_un, f_tup, f_list, f_nil, f_cons, f_ret, f_itemC, f_itemB, f_tr, wName, lk_s, lk_0, ev_s, x_div, x_mod, x_pow, x_neg, mk_f, p34_0, p34_1]
    refine it_0 ?_
    rw [ew]
    refine ⟨rfl, rfl, by decide, by decide, by decide, by decide, it_q (P := fun v => v.pln = true ∧ amongD (-99) 99 v = false) hw6 (by decide) (by decide +kernel) fun v hv => ⟨l_2, fin_p hw ha.ext ?_ (hQ _ ?_ (sum_snd hv.2))⟩⟩ <;>
    exact plnT (Nat.le_of_ble_eq_true rfl) (pln_c hntp (pln_c hv.1 rfl))
  refine ss_at rfl ?_; dsimp only [f_int, f_name, f_c1, f_tc, f_if, f_ssn, f_tn, wName, lk_s, lk_0, ev_s, q_eq, p34_4]
  refine ite_b (fun _ => ?_) fun _ => ?_
  · refine su ?_; dsimp only [f_int, f_name, f_slice, f_on, f_os, f_ret, f_tr, wName, lk_s, lk_0, ev_s, p34_1]
    refine sl_to (k := 1) l_2 (Nat.le_of_ble_eq_true rfl) (fin_p hw ha.ext ?_ (hQ _ ?_ rfl)) <;>
    exact plnT (Nat.le_of_ble_eq_true rfl) (pln_c hntp rfl)
  refine ss_at rfl ?_; dsimp only [f_int, f_name, f_c1, f_tc, f_if, f_ssn, f_tn, wName, lk_s, lk_0, ev_s, q_eq, p34_4]
  refine ite_b (fun _ => ?_) fun _ => ?_
  · refine su ?_; dsimp only [f_name, f_call, f_nil, f_cons, f_ret, f_tr, wName, lk_s, lk_0, ev_s, pl_a, ns_n, s1, nf, ta, cond_true, cond_false, p34_1, p34_5, q34]
    have hp : (D.list [.tup ns, .int i]).pln = true := hdp
    refine b_list rfl ⟨l_2, ?_⟩
    dsimp only [cond_false]
    exact fin_p hw ha.ext hp (hQ _ hp rfl)
  refine ss_at rfl ?_; dsimp only [f_none, f_bool, f_int, f_str, f_name, f_bin, f_un, f_list, f_nil, f_cons, f_asgS, f_itemB, f_tn, wName, lk_s, lk_0, ev_s, l1, cond_false, x_div, x_mod, x_pow, x_neg, mk_f, p34_0, p34_2, p34_3]
  rw [ew]
  refine ⟨rfl, rfl, by decide, by decide, by decide, by decide, it_q (P := fun v => v.pln = true ∧ amongD (-9) 9 v = false) hw6 (by decide) (by decide +kernel) fun v hv => ?_⟩
  refine set_k al_hi rfl (by rw [hn]; exact hb) (by rw [hn]; exact hml) ?_
  have hvp : ∀ d ∈ ns.set b v, d.pln = true := fun d hd => by
    cases mem_set hd with
    | inl h => exact hnp d h
    | inr h => rw [h]; exact hv.1
  have ha := acc_put (L' := ns.set b v) ha (pln_vals hvp)
  have hl2 : (ns.set b v).length ≤ lim := by rw [List.length_set]; exact hnl
  refine ss_at rfl ?_; dsimp only [f_int, f_name, f_call, f_tup, f_nil, f_cons, f_ret, f_itemC, f_tr, wName, lk_s, lk_0, ev_s, pl_a, ns_n, s1, nf, ta, cond_true, cond_false, p34_1, p34_2, p34_7, q34]
  refine b_tuple (lst_loc ha.cs) hl2 (it_1 ?_)
  have hp : (D.tup [.tup (ns.set b v), .int i]).pln = true := plnT (Nat.le_of_ble_eq_true rfl) (pln_c (pln_tup.mpr ⟨hl2, hvp⟩) (pln_c rfl rfl))
  exact ⟨l_2, fin_p hw ha.ext hp (hQ _ hp (sum_el (List.mem_set (by rw [hn]; exact hb) v) hv.2))⟩
end Mine
end

section
set_option autoImplicit false
set_option linter.unusedVariables false
set_option linter.unusedSimpArgs false
set_option maxRecDepth 100000
namespace Mine
open PySem
noncomputable def rowLen (w : Str) : Nat := bif w == "put" then 3 else bif w == "say" then 2 else 4
structure RowX (m : Nat) (r : List D) (w : Str) : Prop where
  str : at_ r 0 = .str w
  len : r.length = rowLen w
  put : (w == "put") = true → sumD m (at_ r 2) = true
  sum : (w == "put") = false → sumD m (at_ r 1) = true
  node : (w == "put") = false → (w == "say") = false → (w == "if" || w == "loop") = true
  loop : (w == "loop") = true → ∃ ws, at_ r 2 = .tup ws
  body : (w == "if" || w == "loop") = true → ∃ bs, at_ r 3 = .tup bs
theorem bif_inv {c : Bool} {o : Option Nat} {n : Nat} (h : (bif c then o else none) = some n) : c = true ∧ o = some n := by
  cases c with
  | true => exact ⟨rfl, h⟩
  | false => exact nomatch h
theorem ws_ne {w a b : Str} (h1 : (w == a) = true) (h2 : (a == b) = false) : (w == b) = false := by rw [eq_of_beq h1]; exact h2
theorem sub_tup {m g n : Nat} {d : D} (h : subC m g d = some n) : ∃ bs, d = .tup bs := by
  cases g with
  | zero => exact nomatch h
  | succ g => obtain ⟨ds, rfl, _⟩ := listB_inv h; exact ⟨ds, rfl⟩
theorem row_x {m g n : Nat} {r : List D} {w : Str} (h0 : at_ r 0 = .str w) (h : rowD m g (.tup r) = some n) : RowX m r w := by
  rw [rowD_eq, rowB_s h0, rowS] at h
  cases e1 : (w == "put") with
  | true =>
    rw [e1] at h
    have h1 := Bool.and_eq_true_iff.mp (bif_inv h).1
    refine ⟨h0, by rw [rowLen, e1]; exact lenE (k := 3) h1.1, fun _ => (Bool.and_eq_true_iff.mp h1.2).2, fun z => tf (e1.symm.trans z), fun z => tf (e1.symm.trans z), fun z => ?_, fun z => ?_⟩
    · rw [ws_ne e1 (by decide +kernel)] at z; exact ft z
    · rw [ws_ne e1 (by decide +kernel), ws_ne e1 (by decide +kernel)] at z; exact ft z
  | false =>
  rw [e1] at h
  cases e2 : (w == "say") with
  | true =>
    rw [e2] at h
    have h1 := Bool.and_eq_true_iff.mp (bif_inv h).1
    refine ⟨h0, by rw [rowLen, e1, e2]; exact lenE (k := 2) h1.1, fun z => tf (z.symm.trans e1), fun _ => h1.2, fun _ z => tf (e2.symm.trans z), fun z => ?_, fun z => ?_⟩
    · rw [ws_ne e2 (by decide +kernel)] at z; exact ft z
    · rw [ws_ne e2 (by decide +kernel), ws_ne e2 (by decide +kernel)] at z; exact ft z
  | false =>
  rw [e2] at h
  have h1 := bif_inv h
  have h2 := Bool.and_eq_true_iff.mp h1.1
  have h3 := Bool.and_eq_true_iff.mp h2.2
  have h4 := h1.2
  refine ⟨h0, by rw [rowLen, e1, e2]; exact lenE (k := 4) h2.1, fun z => tf (z.symm.trans e1), fun _ => h3.2, fun _ _ => h3.1, fun z => ?_, fun _ => ?_⟩
  · rw [show (w == "if") = false from ws_ne z (by decide +kernel)] at h4
    have h5 := (bif_inv h4).1
    cases e : at_ r 2 with
    | tup ws => exact ⟨ws, rfl⟩
    | _ => rw [e] at h5; exact ft h5
  · cases e : subC m g (at_ r 3) with
    | some y => exact sub_tup e
    | none =>
      rw [e] at h4
      cases e3 : (w == "if") with
      | true => rw [e3] at h4; cases e4 : subC m g (at_ r 2) <;> (rw [e4] at h4; exact nomatch h4)
      | false => rw [e3] at h4; exact nomatch (bif_inv h4).2
theorem badR_len {m : Nat} {r : List D} {w : Str} (h0 : at_ r 0 = .str w) (h : r.length ≠ rowLen w) : BadR m (.tup r) := by
  intro g
  cases e : rowD m g (.tup r) with
  | none => rfl
  | some n => exact absurd (row_x h0 e).len h
noncomputable def notW : D → Bool
  | .str u => !(u == "put" || (u == "say" || (u == "if" || u == "loop")))
  | _ => true
theorem badR_word {m : Nat} {r : List D} (h : notW (at_ r 0) = true) : BadR m (.tup r) := by
  intro g
  cases e : at_ r 0 with
  | str w =>
    cases e' : rowD m g (.tup r) with
    | none => rfl
    | some n =>
      have hx := row_x e e'
      rw [e] at h
      have h : (!(w == "put" || (w == "say" || (w == "if" || w == "loop")))) = true := h
      cases e1 : (w == "put") with
      | true => rw [e1] at h; exact ft h
      | false => cases e2 : (w == "say") with
        | true => rw [e1, e2] at h; exact ft h
        | false => rw [e1, e2, hx.node e1 e2] at h; exact ft h
  | _ => rw [rowD_eq]; exact rowB_no (by rw [e]; rfl)
theorem badR_put2 {m : Nat} {r : List D} (h0 : at_ r 0 = .str "put") (h : sumD m (at_ r 2) = false) : BadR m (.tup r) := by
  intro g
  cases e : rowD m g (.tup r) with
  | none => rfl
  | some n => exact tf (((row_x h0 e).put (by decide +kernel)).symm.trans h)
theorem badR_put1 {m : Nat} {b s : D} (h : amongD 0 (m - 1) b = false) : BadR m (.tup [.str "put", b, s]) := by
  intro g
  rw [rowD_eq, rowB_s (w := "put") rfl, rowS, show ((Str.ofString "put") == (Str.ofString "put")) = true by decide +kernel]
  show (bif _ && (amongD 0 (m - 1) b && sumD m s) then some 1 else none) = none
  rw [h]; rfl
theorem badR_sum {m : Nat} {r : List D} {w : Str} (h0 : at_ r 0 = .str w) (hw : (w == "put") = false) (h : sumD m (at_ r 1) = false) : BadR m (.tup r) := by
  intro g
  cases e : rowD m g (.tup r) with
  | none => rfl
  | some n => exact tf (((row_x h0 e).sum hw).symm.trans h)
theorem badR_words {m : Nat} {s a b : D} (h : wordsD m a = false) : BadR m (.tup [.str "loop", s, a, b]) := by
  intro g
  rw [rowD_eq, rowB_s (w := "loop") rfl, rowS, show ((Str.ofString "loop") == (Str.ofString "put")) = false by decide +kernel, show ((Str.ofString "loop") == (Str.ofString "say")) = false by decide +kernel]
  show (bif _ then (bif Str.ofString "loop" == Str.ofString "if" then _ else bif wordsD m a then _ else none) else none) = none
  rw [h, show ((Str.ofString "loop") == (Str.ofString "if")) = false by decide +kernel]
  cases (_ && _ : Bool) <;> rfl
end Mine
end

section
set_option autoImplicit false
set_option linter.unusedVariables false
set_option linter.unusedSimpArgs false
set_option maxRecDepth 100000
namespace Mine
open PySem
noncomputable def SpBadRow (S : FSpec) : Prop := ∀ (c : Int) (m g k : Nat) (d : D) (st : St) (Q : D → St → Prop) (X : XP), WfSt st → 1 ≤ m → m ≤ 3 → d.pln = true → k ≤ 1000 → rowD m g d = some k → (∀ d, d.pln = true → BadR m d → Q d st) → S [.int c, d, .int m] st Q X
theorem pl_cons {d : D} {ds : List D} (h : d.pln = true) (hs : ∀ x ∈ ds, x.pln = true) : ∀ x ∈ d :: ds, x.pln = true := fun x hx => by
  cases hx with
  | head => exact h
  | tail _ h => exact hs x h
theorem pl_app {a b : List D} (ha : ∀ x ∈ a, x.pln = true) (hb : ∀ x ∈ b, x.pln = true) : ∀ x ∈ a ++ b, x.pln = true := fun x hx => by
  cases List.mem_append.mp hx with
  | inl h => exact ha x h
  | inr h => exact hb x h
theorem pl_t {ds : List D} (hl : ds.length ≤ 1000) (h : ∀ x ∈ ds, x.pln = true) : (D.tup ds).pln = true := pln_tup.mpr ⟨Nat.le_trans hl (by decide), h⟩
theorem pl_nil : ∀ x ∈ ([] : List D), x.pln = true := fun _ z => nomatch z
theorem fam {P : D → Prop} {a : D} {l : List D} (h : P a) (hs : ∀ x ∈ l, P x) : ∀ x ∈ a :: l, P x := fun x hx => by
  cases hx with
  | head => exact h
  | tail _ h => exact hs x h
theorem fan {P : D → Prop} : ∀ x ∈ ([] : List D), P x := fun _ z => nomatch z
noncomputable def t35 : Tb := tb [("_law_cell", .local), ("_law_row_here", .local), ("_law_many", .local), ("_law_way", .local), ("_law_parts", .local), ("_law_wrong", .local), ("list", .globalImplicit), ("tuple", .globalImplicit), ("_law_bad_sum", .globalImplicit)] []
noncomputable abbrev b35 : List Stmt := bodyOf 35
theorem p35_0 : t35.pl "_law_cell" = .loc 0 true false := rfl
theorem p35_1 : t35.pl "_law_row_here" = .loc 1 true false := rfl
theorem p35_2 : t35.pl "_law_many" = .loc 2 true false := rfl
theorem p35_3 : t35.pl "_law_way" = .loc 3 true false := rfl
theorem p35_4 : t35.pl "_law_parts" = .loc 4 true false := rfl
theorem p35_5 : t35.pl "_law_wrong" = .loc 5 true false := rfl
theorem p35_6 : t35.pl "list" = .gl (.blt (.val (.type "list"))) := rfl
theorem p35_7 : t35.pl "tuple" = .gl (.blt (.val (.type "tuple"))) := rfl
theorem p35_8 : t35.pl "_law_bad_sum" = .gl (.fn) := rfl
theorem q35 : t35.hq = false := rfl
theorem badrow_ok {Γ : Ctx} (hB : Has Γ "_law_bad_sum" SpBadSum) : SpBadRow (wFn Γ 60 t35 3 b35) := by
  intro c m g k d st Q X hw h1 h3 hp hk hd hQ
  obtain ⟨B, hB, hB'⟩ := hB
  have hml : m ≤ 1000 := Nat.le_trans h3 (by decide)
  obtain ⟨r, rfl, hr⟩ := row_w hp hk hd
  generalize hwd : wordD (.tup r) = w at hr
  have h0 := hr.str
  rw [hwd] at h0
  have hx := row_x h0 hd
  have hlen : 2 ≤ r.length ∧ r.length ≤ 4 := by
    rw [hx.len, rowLen]
    cases (w == "put") <;> cases (w == "say") <;> decide
  have hl5 : r.length ≤ 1000 := Nat.le_trans hlen.2 (by decide)
  have hrp := hr.pln
  have hrl := hr.lim
  have hw1 : PyData.strOk w = true := by have := pl_at 0 hrp; rw [h0] at this; exact this
  have hwp : (D.str w).pln = true := hw1
  clear hd hk hr hwd hp
  have i0 : ∀ {st' : St} {Q : D → St → Prop}, Q (.str w) st' → wItem (.tup r) (.int 0) st' Q := fun h => it_k (k := 0) 0 rfl (Nat.lt_of_lt_of_le (by decide) hlen.1) hrl (by rw [h0]; exact h)
  have i1 : ∀ {st' : St} {Q : D → St → Prop}, Q (at_ r 1) st' → wItem (.tup r) (.int 1) st' Q := fun h => it_k (k := 1) 1 rfl (Nat.lt_of_lt_of_le (by decide) hlen.1) hrl h
  refine ⟨rfl, ?_⟩; show wSs Γ 60 t35 (b35.drop 0) [some (.int c), some (.tup r), some (.int m), none, none, none, none, none, none] st _ _
  refine ss_at rfl ?_; dsimp only [f_int, f_name, f_bin, f_asgN, f_tn, wName, lk_0, se_s, se_0, ev_s, x_mod, p35_0, p35_3]
  refine ⟨by decide, ?_⟩
  refine ss_at rfl ?_; dsimp only [f_name, f_call, f_nil, f_cons, f_asgN, f_tn, wName, lk_s, lk_0, se_s, se_0, ev_s, pl_a, ns_n, s1, nf, ta, cond_true, cond_false, p35_1, p35_4, p35_6, q35]
  refine b_list rfl ⟨hrl, ?_⟩
  dsimp only [cond_false]
  refine ss_at rfl ?_; dsimp only [f_int, f_name, f_c1, f_tc, f_if, f_ssn, f_tn, wName, lk_s, lk_0, ev_s, q_eq, p35_3]
  refine ite_b (fun _ => ?_) fun _ => ?_
  · refine su ?_; dsimp only [f_name, f_ret, f_tr, wName, lk_s, lk_0, ev_s, p35_4]
    exact fin_k (hQ _ (pln_list.mpr ⟨hrl, hrp⟩) fun g => by rw [rowD_eq]; rfl)
  refine ss_at rfl ?_; dsimp only [f_int, f_name, f_c1, f_tc, f_if, f_ssn, f_tn, wName, lk_s, lk_0, ev_s, q_eq, p35_3]
  refine ite_b (fun _ => ?_) fun _ => ?_
  · refine su ?_; dsimp only [f_int, f_name, f_un, f_call, f_slice, f_nil, f_cons, f_on, f_os, f_ret, f_tr, wName, lk_s, lk_0, ev_s, pl_a, ns_n, s6, nf, ta, cond_true, cond_false, x_neg, p35_4, p35_7, q35]
    refine ⟨none, some (-1), none, rfl, rfl, rfl, nofun, r, rfl, hrl, ?_⟩
    rw [pick_init]
    have hl2 : r.dropLast.length = r.length - 1 := List.length_dropLast ..
    have hl3 : r.dropLast.length ≤ lim := by rw [hl2]; exact Nat.le_trans (Nat.sub_le _ _) hrl
    refine ⟨hl3, b_tuple rfl hl3 (fin_k (hQ _ (pln_tup.mpr ⟨hl3, fun x hx => hrp x (List.dropLast_subset _ hx)⟩) (badR_len (w := w) ?_ (by rw [hl2, ← hx.len]; exact Nat.ne_of_lt (Nat.sub_lt (Nat.lt_of_lt_of_le (by decide) hlen.1) (by decide))))))⟩
    rw [← h0, at_, at_, List.getD_eq_getElem?_getD, List.getD_eq_getElem?_getD, List.getElem?_dropLast, if_pos (Nat.sub_pos_of_lt hlen.1)]
  refine ss_at rfl ?_; dsimp only [f_int, f_name, f_c1, f_tc, f_if, f_ssn, f_tn, wName, lk_s, lk_0, ev_s, q_eq, p35_3]
  refine ite_b (fun _ => ?_) fun _ => ?_
  · refine su ?_; dsimp only [f_name, f_bin, f_call, f_tup, f_list, f_nil, f_cons, f_ret, f_tr, wName, lk_s, lk_0, ev_s, pl_a, ns_n, s4, nf, ta, cond_true, cond_false, mk_f, p35_4, p35_7, q35]
    have hl2 : (r ++ [D.tup []]).length = r.length + 1 := by rw [List.length_append]; rfl
    have hl3 : (r ++ [D.tup []]).length ≤ lim := by rw [hl2]; exact Nat.le_trans (Nat.add_le_add_right hlen.2 1) (by decide)
    refine ⟨by decide, l_1, add_l rfl rfl ⟨hl3, b_tuple rfl hl3 (fin_k (hQ _ (pln_tup.mpr ⟨hl3, pl_app hrp (pl_cons rfl pl_nil)⟩) (badR_len (w := w) ?_ (by rw [hl2, ← hx.len]; exact Nat.succ_ne_self _))))⟩⟩
    rw [← h0, at_, at_, List.getD_eq_getElem?_getD, List.getD_eq_getElem?_getD, List.getElem?_append_left (Nat.lt_of_lt_of_le (by decide) hlen.1)]
  refine ss_at rfl ?_; dsimp only [f_int, f_name, f_c1, f_tc, f_if, f_ssn, f_tn, wName, lk_s, lk_0, ev_s, q_eq, p35_3]
  refine ite_b (fun _ => ?_) fun _ => ?_
  · refine su ?_; dsimp only [f_none, f_bool, f_int, f_str, f_name, f_bin, f_slice, f_tup, f_list, f_dict0, f_nil, f_cons, f_on, f_os, f_ret, f_itemC, f_itemB, f_tr, wName, lk_s, lk_0, ev_s, nf, cond_true, x_div, x_mod, mk_f, p35_0, p35_1]
    refine ⟨Nat.zero_le _, ?_⟩
    refine i0 ?_
    obtain ⟨x, ex, hx8⟩ := modN (c / 6) (m := 8) (by decide)
    have ex : c / 6 % 8 = (x : Int) := ex
    rw [ex]
    refine ⟨l_1, by show 8 ≤ lim; decide, by decide, by decide, by decide, it_q (P := fun v => v.pln = true ∧ notW v = true) (vs := [.str "puts", .str "", .none, .bool true, .int 0, .list [], .exc (.type "dict"), .list [.str w]]) hx8 (by show 8 ≤ 1000; decide) (fam (by decide +kernel) (fam (by decide +kernel) (fam (by decide +kernel) (fam (by decide +kernel) (fam (by decide +kernel) (fam (by decide +kernel) (fam (by decide +kernel) (fam ⟨pln_list.mpr ⟨l_1, pl_cons hwp pl_nil⟩, rfl⟩ fan)))))))) fun v hv => ⟨l_1, ?_⟩⟩
    refine sl_from (k := 1) hrl (Nat.le_trans (by decide) hlen.1) (add_t ?_ (fin_k (hQ _ (pl_t ?_ (pl_cons hv.1 fun x hx => hrp x (List.mem_of_mem_drop hx))) (badR_word hv.2))))
    · rw [List.length_drop]; show 1 + (r.length - 1) ≤ 1000; rw [Nat.add_sub_cancel' (Nat.le_trans (by decide) hlen.1)]; exact hl5
    · show (r.drop 1).length + 1 ≤ 1000; rw [List.length_drop, Nat.sub_add_cancel (Nat.le_trans (by decide) hlen.1)]; exact hl5
  refine ss_at rfl ?_; dsimp only [f_int, f_str, f_name, f_c1, f_tb, f_tc, f_an, f_ac, f_if, f_ssn, f_itemC, f_tn, wName, lk_s, lk_0, ev_s, q_eq, p35_1, p35_3]
  refine i0 ?_
  dsimp only [q_seq]
  obtain ⟨y, ey, hy5⟩ := modN (c / 6) (m := 5) (by decide)
  have ey : c / 6 % 5 = (y : Int) := ey
  refine (fun hrest => and_t (fun _ => hrest) fun e => and_l (fun _ => hrest) fun _ => ?br) ?rest
  case br =>
    have hl3 : r.length = 3 := by rw [hx.len, rowLen, e]; rfl
    refine su ?_; dsimp only [f_none, f_bool, f_int, f_str, f_name, f_bin, f_un, f_tup, f_list, f_nil, f_cons, f_ret, f_itemC, f_itemB, f_tr, wName, lk_s, lk_0, ev_s, x_div, x_mod, x_neg, mk_f, p35_0, p35_1, p35_2]
    rw [ey]
    refine ⟨by show 5 ≤ lim; decide, by decide, by decide, by decide, it_q (P := fun v => v.pln = true ∧ amongD 0 (m - 1) v = false) (vs := [.int (-1), .int m, .bool true, .none, .str "0"]) hy5 (by show 5 ≤ 1000; decide) (fam ⟨rfl, rfl⟩ (fam ⟨rfl, ?_⟩ (fam ⟨rfl, rfl⟩ (fam ⟨rfl, rfl⟩ (fam ⟨by decide +kernel, rfl⟩ fan))))) fun v hv => it_k (k := 2) 2 rfl (by rw [hl3]; decide) hrl ⟨Nat.le_of_ble_eq_true rfl, fin_k (hQ _ (pl_put hv.1 (pl_at 2 hrp)) (badR_put1 hv.2))⟩⟩
    show (decide ((0 : Int) ≤ m) && decide ((m : Int) ≤ m - 1)) = false
    rw [decide_eq_false (show ¬ ((m : Int) ≤ m - 1) from Int.not_le.mpr (Int.sub_lt_self _ (by decide))), Bool.and_false]
  case rest =>
  clear ey hy5
  refine ss_at rfl ?_; dsimp only [f_int, f_str, f_name, f_c1, f_tc, f_if, f_ssn, f_itemC, f_tn, wName, lk_s, lk_0, ev_s, p35_1]
  refine i0 ?_
  dsimp only [q_seq]
  refine ite_b (fun e => ?_) fun e => ?_
  · have hl3 : r.length = 3 := by rw [hx.len, rowLen, e]; rfl
    refine su ?_; dsimp only [f_int, f_str, f_name, f_bin, f_call, f_tup, f_nil, f_cons, f_ret, f_itemC, f_tr, wName, lk_s, lk_0, ev_s, pl_a, ns_c, ns_n, s4, s6, nf, ta, cond_true, cond_false, x_div, p35_0, p35_1, p35_8, q35]
    refine i1 ?_
    refine ⟨by decide, by decide, it_k (k := 2) 2 rfl (by rw [hl3]; decide) hrl ?_⟩
    exact ⟨B, hB, hB' _ m _ _ _ _ hw h1 h3 (hx.put e) fun d hd hd' => ⟨Nat.le_of_ble_eq_true rfl, fin_k (hQ _ (pl_put (pl_at 1 hrp) hd) (badR_put2 rfl hd'))⟩⟩
  have hsum := hx.sum e
  refine ss_at rfl ?_; dsimp only [f_int, f_str, f_name, f_c1, f_tb, f_tc, f_an, f_ac, f_if, f_ssn, f_itemC, f_tn, wName, lk_s, lk_0, ev_s, q_eq, p35_1, p35_3]
  refine i0 ?_
  dsimp only [q_seq]
  refine (fun hrest => and_t (fun _ => hrest) fun e2 => and_l (fun _ => hrest) fun _ => ?br) ?rest
  case br =>
    have hl4 : r.length = 4 := by rw [hx.len, rowLen, ws_ne e2 (by decide +kernel), ws_ne e2 (by decide +kernel)]; rfl
    obtain ⟨ws, hws⟩ := hx.loop e2
    have hwsp := pln_tup.mp (hws ▸ pl_at 2 hrp)
    obtain ⟨y, ey, hy4⟩ := modN (c / 48) (m := 4) (by decide)
    have ey : c / 48 % 4 = (y : Int) := ey
    refine su ?_; dsimp only [f_int, f_name, f_bin, f_call, f_tup, f_nil, f_cons, f_asgN, f_itemC, f_tn, wName, lk_s, lk_0, se_s, se_0, ev_s, pl_a, ns_c, ns_n, s4, s6, nf, ta, cond_true, cond_false, x_div, p35_0, p35_1, p35_5, p35_8, q35]
    refine ⟨by decide, by decide, i1 ?_⟩
    refine ⟨B, hB, hB' _ m _ _ _ _ hw h1 h3 hsum fun d hd hd' => ⟨l_1, ?_⟩⟩
    refine su ?_; dsimp only [f_none, f_int, f_str, f_name, f_bin, f_call, f_tup, f_list, f_nil, f_cons, f_ret, f_itemC, f_itemB, f_tr, wName, lk_s, lk_0, ev_s, pl_a, ns_n, s6, nf, ta, cond_true, cond_false, x_div, x_mod, mk_f, p35_0, p35_1, p35_5, p35_6, q35]
    refine i1 ?_
    refine it_k (k := 2) 2 rfl (lt4 hl4) hrl ?_
    rw [hws]
    refine b_list rfl ⟨hwsp.1, ?_⟩
    dsimp only [cond_false]
    refine i1 ⟨l_1, ?_⟩
    refine ⟨by decide, by decide, rfl, ?_⟩
    dsimp only []
    rw [ey]
    refine ⟨Nat.le_of_ble_eq_true rfl, by decide, by decide, by decide, it_q (P := fun v => v.pln = true ∧ wordsD m v = false) hy4 (Nat.le_of_ble_eq_true rfl) (fam ⟨pln_list.mpr hwsp, rfl⟩ (fam ⟨pl_t (Nat.le_of_ble_eq_true rfl) (pl_cons (pl_at 1 hrp) (pl_cons (pl_at 1 hrp) (pl_cons (pl_at 1 hrp) (pl_cons (pl_at 1 hrp) pl_nil)))), rfl⟩ (fam ⟨pl_t (Nat.le_of_ble_eq_true rfl) (pl_cons hd pl_nil), ?_⟩ (fam ⟨rfl, rfl⟩ fan)))) fun v hv => it_k (k := 3) 3 rfl (lt4 hl4) hrl ⟨Nat.le_of_ble_eq_true rfl, fin_k (hQ _ (pl_t (Nat.le_of_ble_eq_true rfl) (pl_cons sp_loop (pl_cons (pl_at 1 hrp) (pl_cons hv.1 (pl_cons (pl_at 3 hrp) pl_nil))))) (badR_words hv.2))⟩⟩
    show (decide ([d].length ≤ 3) && [d].all (sumD m)) = false
    rw [List.all_cons, hd']; rfl
  case rest =>
  refine ss_at rfl ?_; dsimp only [f_int, f_str, f_name, f_bin, f_tup, f_nil, f_cons, f_c1, f_tb, f_tc, f_an, f_ac, f_if, f_ssn, f_itemC, f_tn, wName, lk_s, lk_0, ev_s, x_div, x_mod, q_eq, p35_0, p35_1]
  refine i0 ?_
  refine ⟨by decide, q_in2 hw1 ?_⟩
  refine (fun hrest => and_t (fun _ => hrest) fun e2 => ?br) ?rest
  case br =>
    refine ⟨by decide, by decide, by decide, and_l (fun _ => hrest) fun _ => ?_⟩
    clear hrest
    have hl4 : r.length = 4 := by
      rw [hx.len, rowLen, e]
      cases e3 : (w == "say") with
      | false => rfl
      | true => rw [ws_ne e3 (by decide +kernel), ws_ne e3 (by decide +kernel)] at e2; exact ft e2
    obtain ⟨bs, hbs⟩ := hx.body e2
    have hbsp := pln_tup.mp (hbs ▸ pl_at 3 hrp)
    obtain ⟨y, ey, hy4⟩ := modN (c / 18) (m := 4) (by decide)
    have ey : c / 18 % 4 = (y : Int) := ey
    refine su ?_; dsimp only [f_none, f_int, f_str, f_name, f_bin, f_call, f_slice, f_tup, f_list, f_nil, f_cons, f_on, f_os, f_ret, f_itemC, f_itemB, f_tr, wName, lk_s, lk_0, ev_s, pl_a, ns_n, s6, nf, ta, cond_true, cond_false, x_div, x_mod, mk_f, p35_0, p35_1, p35_6, q35]
    refine sl_to (k := 3) hrl (by rw [hl4]; decide) ?_
    refine it_k (k := 3) 3 rfl (lt4 hl4) hrl ?_
    rw [hbs]
    refine b_list rfl ⟨hbsp.1, ?_⟩
    dsimp only [cond_false]
    rw [ey]
    refine ⟨l_1, Nat.le_of_ble_eq_true rfl, by decide, by decide, by decide, it_q (P := fun v => v.pln = true ∧ BadV m v) hy4 (Nat.le_of_ble_eq_true rfl) (fam ⟨pln_list.mpr hbsp, ?_⟩ (fam ⟨rfl, ?_⟩ (fam ⟨by decide +kernel, ?_⟩ (fam ⟨pl_t (Nat.le_of_ble_eq_true rfl) (pl_cons rfl pl_nil), ?_⟩ fan)))) fun v hv => ⟨l_1, add_t ?_ (fin_k (hQ _ (pl_t ?_ (pl_app (fun x hx => hrp x (List.mem_of_mem_take hx)) (pl_cons hv.1 pl_nil))) (badR_node (w := w) (i := 3) ?_ ?_ ?_)))⟩⟩
    · intro g; cases g <;> rfl
    · intro g; cases g <;> rfl
    · intro g; cases g <;> rfl
    · exact badV_of fun g => by rw [rowD_eq]; rfl
    · rw [List.length_take, hl4]; show 3 + 1 ≤ 1000; decide
    · rw [List.length_append, List.length_take, hl4]; show 3 + 1 ≤ 1000; decide
    · rw [← h0, at_, at_, List.getD_eq_getElem?_getD, List.getD_eq_getElem?_getD, List.getElem?_append_left (by rw [List.length_take, hl4]; decide), List.getElem?_take_of_lt (by decide)]
    · cases e4 : (w == "if") with
      | true => exact .inl ⟨rfl, .inr rfl⟩
      | false => rw [e4] at e2; exact .inr ⟨rfl, e2, rfl⟩
    · rw [at_, List.getD_eq_getElem?_getD, List.getElem?_append_right (by rw [List.length_take, hl4]; decide), List.length_take, hl4]; exact hv.2
  case rest =>
  refine ss_at rfl ?_; dsimp only [f_int, f_name, f_bin, f_call, f_slice, f_tup, f_nil, f_cons, f_on, f_os, f_ret, f_itemC, f_tr, wName, lk_s, lk_0, ev_s, pl_a, ns_c, ns_n, s4, s6, nf, ta, cond_true, cond_false, x_div, p35_0, p35_1, p35_8, q35]
  refine i0 ?_
  refine ⟨by decide, by decide, i1 ?_⟩
  refine ⟨B, hB, hB' _ m _ _ _ _ hw h1 h3 hsum fun d hd hd' => ⟨l_2, ?_⟩⟩
  refine sl_from (k := 2) hrl hlen.1 (add_t ?_ (fin_k (hQ _ (pl_t ?_ (pl_cons hwp (pl_cons hd fun x hx => hrp x (List.mem_of_mem_drop hx)))) (badR_sum (w := w) rfl e hd'))))
  · rw [List.length_drop]; show 2 + (r.length - 2) ≤ 1000; rw [Nat.add_sub_cancel' hlen.1]; exact hl5
  · show (r.drop 2).length + 2 ≤ 1000; rw [List.length_drop, Nat.sub_add_cancel hlen.1]; exact hl5
end Mine
end

section
set_option autoImplicit false
set_option linter.unusedVariables false
set_option linter.unusedSimpArgs false
set_option maxRecDepth 100000
namespace Mine
open PySem
/-- data that can be compared -/
noncomputable def PyOk (n : Nat) (d : D) : Prop := ∃ x, D.py d = some x ∧ x.depth ≤ n ∧ PyData.eqv x x = true
noncomputable def PysOk (n : Nat) (ds : List D) : Prop := ∃ xs, pys ds = some xs ∧ PyData.depthAll xs ≤ n ∧ PyData.eqvAll xs xs = true
theorem pys_ok {n : Nat} {ds : List D} (h : ∀ d ∈ ds, PyOk n d) : PysOk n ds := by
  induction ds with
  | nil => exact ⟨[], rfl, Nat.zero_le _, rfl⟩
  | cons d ds ih =>
    refine ex1 (h d (.head _)) fun x q__14_1 => an3 q__14_1 fun h1 h2 h3 => ?_
    refine ex1 (ih fun d hd => h d (.tail _ hd)) fun xs q__15_1 => an3 q__15_1 fun g1 g2 g3 => ?_
    refine ⟨x :: xs, by rw [pys_c, h1, g1]; rfl, Nat.max_le.mpr ⟨h2, g2⟩, ?_⟩
    show (PyData.eqv x x && PyData.eqvAll xs xs) = true
    rw [h3, g3]; rfl
theorem py_tup {n : Nat} {ds : List D} (h : ∀ d ∈ ds, PyOk n d) : PyOk (n + 1) (.tup ds) := by
  refine ex1 (pys_ok h) fun xs q__20_1 => an3 q__20_1 fun g1 g2 g3 => ?_
  exact ⟨.tuple xs, by rw [D.py_t, g1]; rfl, Nat.succ_le_succ g2, g3⟩
theorem py_int {n : Nat} {i : Int} : PyOk n (.int i) := ⟨.int i, rfl, Nat.zero_le _, beq_self_eq_true i⟩
theorem py_s {n : Nat} {w : Str} (h : PyData.strOk w = true) : PyOk n (.str w) := ⟨.str w, if_pos h, Nat.zero_le _, beq_self_eq_true w⟩
theorem PyOk.up {n m : Nat} {d : D} (h : PyOk n d) (hn : n ≤ m) : PyOk m d := by
  revert h; intro z__25
  refine ex1 (z__25) fun x q__25_1 => an3 q__25_1 fun h1 h2 h3 => ?_
  clear z__25
  exact ⟨x, h1, Nat.le_trans h2 hn, h3⟩
theorem py_am {n : Nat} {lo hi : Int} {ds : List D} (h : ∀ d ∈ ds, amongD lo hi d = true) : ∀ d ∈ ds, PyOk n d := fun d hd => by
  obtain ⟨i, rfl, _⟩ := am_inv (h d hd); exact py_int
theorem py_sum {m : Nat} {d : D} (h : sumD m d = true) : PyOk 2 d := by
  refine ex2 (sum_inv h) fun ns i q__30_1 => an5 q__30_1 fun e__30_2 h1 h2 _ _ => ?_
  subst e__30_2
  exact py_tup (fam (py_tup (n := 0) (py_am h2)) (fam py_int fan))
theorem py_words {m : Nat} {d : D} (h : wordsD m d = true) : PyOk 3 d := by
  cases d with
  | tup ws =>
    have h : (decide (ws.length ≤ 3) && ws.all (sumD m)) = true := h
    exact py_tup fun d hd => py_sum (List.all_eq_true.mp (Bool.and_eq_true_iff.mp h).2 d hd)
  | _ => exact ft h
theorem len4 {xs : List D} (h : xs.length = 4) : ∃ a b c d, xs = [a, b, c, d] := by
  match xs, h with
  | [a, b, c, d], _ => exact ⟨a, b, c, d, rfl⟩
theorem len3' {xs : List D} (h : xs.length = 3) : ∃ a b c, xs = [a, b, c] := by
  match xs, h with
  | [a, b, c], _ => exact ⟨a, b, c, rfl⟩
theorem len2' {xs : List D} (h : xs.length = 2) : ∃ a b, xs = [a, b] := by
  match xs, h with
  | [a, b], _ => exact ⟨a, b, rfl⟩
theorem py_row {m n N : Nat} {f : D → Option Nat} {d : D} (hN : 3 ≤ N) (hf : ∀ v k, f v = some k → PyOk N v) (h : rowB m f d = some n) : PyOk (N + 1) d := by
  cases d with
  | tup r =>
    rw [rowB_t] at h
    cases e : at_ r 0 with
    | str w =>
      rw [e] at h
      have h : rowS m f w r = some n := h
      unfold rowS at h
      cases e1 : (w == "put") with
      | true =>
        rw [e1] at h
        have h1 := Bool.and_eq_true_iff.mp (bif_inv h).1
        have h2 := Bool.and_eq_true_iff.mp h1.2
        refine ex3 (len3' (lenE (k := 3) h1.1)) fun a b c e__61_3 => ?_
        subst e__61_3
        cases e
        obtain ⟨i, hi, _⟩ := am_inv h2.1
        have hi : b = .int i := hi
        rw [hi, eq_of_beq e1]
        exact py_tup (fam (py_s (by decide +kernel)) (fam py_int (fam ((py_sum h2.2).up (by omega)) fan)))
      | false =>
      rw [e1] at h
      cases e2 : (w == "say") with
      | true =>
        rw [e2] at h
        have h1 := Bool.and_eq_true_iff.mp (bif_inv h).1
        obtain ⟨a, b, rfl⟩ := len2' (lenE (k := 2) h1.1)
        cases e
        rw [eq_of_beq e2]
        exact py_tup (fam (py_s (by decide +kernel)) (fam ((py_sum h1.2).up (by omega)) fan))
      | false =>
      rw [e2] at h
      have h1 := bif_inv h
      have h2 := Bool.and_eq_true_iff.mp h1.1
      have h3 := Bool.and_eq_true_iff.mp h2.2
      refine ex4 (len4 (lenE (k := 4) h2.1)) fun a b c d e__82_4 => ?_
      subst e__82_4
      cases e
      have h4 := h1.2
      cases e3 : (w == "if") with
      | true =>
        rw [e3] at h4
        have h4 : plusO (plus 1 (f c)) (f d) = some n := h4
        cases hc : f c with
        | none => rw [hc] at h4; exact nomatch h4
        | some x => cases hd : f d with
          | none => rw [hc, hd] at h4; exact nomatch h4
          | some y =>
            rw [eq_of_beq e3]
            exact py_tup (fam (py_s (by decide +kernel)) (fam ((py_sum h3.2).up (by omega)) (fam (hf _ _ hc) (fam (hf _ _ hd) fan))))
      | false =>
        rw [e3] at h4 h3
        have h5 := bif_inv h4
        have h6 : plus 1 (f d) = some n := h5.2
        cases hd : f d with
        | none => rw [hd] at h6; exact nomatch h6
        | some y =>
          have e4 : (w == "loop") = true := h3.1
          rw [eq_of_beq e4]
          exact py_tup (fam (py_s (by decide +kernel)) (fam ((py_sum h3.2).up (by omega)) (fam ((py_words h5.1).up hN) (fam (hf _ _ hd) fan))))
    | _ => rw [e] at h; exact nomatch h
  | _ => exact nomatch h
theorem py_rowD {m g n : Nat} {d : D} (h : rowD m g d = some n) : PyOk (2 * g + 4) d := by
  induction g generalizing d n with
  | zero => exact py_row (m := m) (f := fun _ => none) (N := 3) (Nat.le_refl _) (by intro v k z; cases z) h
  | succ g ih =>
    refine py_row (m := m) (f := listB (rowD m g)) (N := 2 * g + 5) (by omega) (fun v k hv => ?_) h
    refine ex1 (listB_inv hv) fun ds q__113_1 => an3 q__113_1 fun e__113_1 _ hs => ?_
    subst e__113_1
    exact py_tup fun d hd => by
      obtain ⟨k, _, hk⟩ := sumO_le hs d hd
      exact ih hk
theorem py_st {st : St} {d : D} {x : PyData} (h : D.py d = some x) : ∀ k, pyD st k d = some x := by
  intro k
  cases k with
  | zero => exact h
  | succ k => cases d with
    | tup ds => exact py_s3 h
    | list ds => exact py_s4 h
    | loc n => exact nomatch h
    | _ => exact h
theorem pys_st {st : St} {ds : List D} {xs : List PyData} (h : pys ds = some xs) (k : Nat) : ds.mapM (pyD st k) = some xs := by
  induction ds generalizing xs with
  | nil => exact h
  | cons d ds ih =>
    rw [pys_c] at h
    cases hd : D.py d with
    | none => rw [hd] at h; exact nomatch h
    | some x => cases hs : pys ds with
      | none => rw [hd, hs] at h; exact nomatch h
      | some ys => rw [hd, hs] at h; cases h; rw [List.mapM_cons, py_st hd, ih hs]; rfl
theorem py_list {n : Nat} {ds : List D} (h : PysOk n ds) : ∃ x, (∀ st, pyD st 3 (.list ds) = some x) ∧ (∀ st m, st.cs m = some (.list ds) → pyD st 3 (.loc m) = some x) ∧ x.depth ≤ n + 1 ∧ PyData.eqv x x = true := by
  revert h; intro z__137
  refine ex1 (z__137) fun xs q__137_1 => an3 q__137_1 fun g1 g2 g3 => ?_
  clear z__137
  refine ⟨.list xs, fun st => py_st (by rw [D.py_l, g1]; rfl) 3, fun st m hm => ?_, Nat.succ_le_succ g2, g3⟩
  rw [pyD, hm]; show Option.map _ (ds.mapM _) = _; rw [pys_st g1]; rfl
theorem ne_tup {n : Nat} {ds : List D} {st : St} {K : Bool → Prop} (h : PyOk n (.tup ds)) (hn : n ≤ 1000) (hK : K false) : wCmp1 .NotEq (.tup ds) (.tup ds) st K := by
  revert h; intro z__141
  refine ex1 (z__141) fun x q__141_1 => an3 q__141_1 fun h1 h2 h3 => ?_
  clear z__141
  refine ⟨x, x, py_st h1 3, py_st h1 3, Nat.le_trans (Nat.min_le_left _ _) (Nat.le_trans h2 hn), ?_⟩
  rw [h3]; exact hK
theorem ne_ll {n : Nat} {ds : List D} {st : St} {K : Bool → Prop} (h : PysOk n ds) (hn : n < 1000) (hK : K false) : wCmp1 .NotEq (.list ds) (.list ds) st K := by
  refine ex1 (py_list h) fun x q__145_1 => an4 q__145_1 fun h1 _ h2 h3 => ?_
  refine ⟨x, x, h1 st, h1 st, Nat.le_trans (Nat.min_le_left _ _) (Nat.le_trans h2 hn), ?_⟩
  rw [h3]; exact hK
theorem ne_cl {n m : Nat} {ds : List D} {st : St} {K : Bool → Prop} (h : PysOk n ds) (hn : n < 1000) (hc : st.cs m = some (.list ds)) (hK : K false) : wCmp1 .NotEq (.loc m) (.list ds) st K := by
  refine ex1 (py_list h) fun x q__149_1 => an4 q__149_1 fun h1 h4 h2 h3 => ?_
  refine ⟨x, x, h4 st m hc, h1 st, Nat.le_trans (Nat.min_le_left _ _) (Nat.le_trans h2 hn), ?_⟩
  rw [h3]; exact hK
theorem ne_nil {n : Nat} {ds : List D} {st : St} {K : Bool → Prop} (h : PysOk n ds) (h1 : ds = [] → K false) (h2 : ds ≠ [] → K true) : wCmp1 .NotEq (.list ds) (.list []) st K := by
  obtain ⟨xs, g1, _, _⟩ := h
  refine ⟨.list xs, .list [], py_st (by rw [D.py_l, g1]; rfl) 3, rfl, Nat.le_trans (Nat.min_le_right _ _) (by decide), ?_⟩
  cases ds with
  | nil => cases g1; exact h1 rfl
  | cons d ds =>
    cases xs with
    | nil => rw [pys_c] at g1; cases hd : D.py d <;> cases hs : pys ds <;> (rw [hd, hs] at g1; exact nomatch g1)
    | cons x xs => exact h2 nofun
end Mine
end

section
set_option autoImplicit false
set_option linter.unusedVariables false
set_option linter.unusedSimpArgs false
set_option maxRecDepth 100000
namespace Mine
open PySem
theorem mul_t {x : D} {n : Nat} {trk : Bool} {st : St} {Q : D → St → Prop} (hn : n ≤ 1000) (h : Q (.tup (List.replicate n x)) st) : wBin trk .Mult (.tup [x]) (.int (n : Int)) st Q := by
  refine ⟨Int.le_trans (by decide) (Int.natCast_nonneg n), Int.ofNat_lt.mpr (Nat.lt_of_le_of_lt hn (by decide)), rfl, ?_⟩
  rw [Int.toNat_natCast, rep_flat]; exact h
theorem listB_none {f : D → Option Nat} {ds : List D} (h : sumO f ds = none) : listB f (.tup ds) = none := by rw [listB_t, h]; split <;> rfl
theorem listB_long {f : D → Option Nat} {ds : List D} (h : 12 < ds.length) : listB f (.tup ds) = none := by rw [listB_t, if_neg (by rw [decide_eq_false (by omega)]; decide)]
theorem sl_li {trk : Bool} {xs : List D} {st : St} {Q : D → St → Prop} (hl : xs.length ≤ lim) (h : mkList trk xs.dropLast st Q) : wSlice trk (.list xs) .none (.int (-1)) .none st Q := by
  refine ⟨none, some (-1), none, rfl, rfl, rfl, nofun, xs, rfl, hl, ?_⟩
  rw [pick_init]; exact h
theorem rB_loop_no {m : Nat} {f : D → Option Nat} {s a b : D} (h : f b = none) : rowB m f (.tup [.str "loop", s, a, b]) = none := by
  rw [rowB_s (w := "loop") rfl, rowS, show ((Str.ofString "loop") == (Str.ofString "put")) = false by decide +kernel, show ((Str.ofString "loop") == (Str.ofString "say")) = false by decide +kernel]
  show (bif _ then (bif Str.ofString "loop" == Str.ofString "if" then _ else bif wordsD m a then plus 1 (f b) else none) else none) = none
  rw [h, show ((Str.ofString "loop") == (Str.ofString "if")) = false by decide +kernel]
  cases (_ && _ : Bool) <;> first | rfl | (cases wordsD m a <;> rfl)
/-- each place holds a good row -/
theorem inn_row {m g : Nat} {d : D} {ah : List Nat} (h : Good m g d) : ∀ x ∈ inn g d ah, ∃ g' k, g' ≤ g ∧ k ≤ 1000 ∧ rowD m g' x.2 = some k := by
  induction g generalizing d ah with
  | zero =>
    obtain ⟨n, hn, h⟩ := h
    refine ex1 (listB_inv h) fun ds q__25_1 => an3 q__25_1 fun e__25_1 hd hs => ?_
    subst e__25_1
    refine walk_all fun i d' hi => ⟨?_, fun p _ x hx => nomatch hx⟩
    obtain ⟨c, hc, hc'⟩ := sumO_le hs d' (List.mem_of_getElem? hi)
    exact ⟨0, c, Nat.le_refl _, Nat.le_trans hc hn, hc'⟩
  | succ g ih =>
    obtain ⟨n, hn, h⟩ := h
    refine ex1 (listB_inv h) fun ds q__31_1 => an3 q__31_1 fun e__31_1 hd hs => ?_
    subst e__31_1
    refine walk_all fun i d' hi => ?_
    obtain ⟨c, hc, hc'⟩ := sumO_le hs d' (List.mem_of_getElem? hi)
    refine ⟨⟨g + 1, c, Nat.le_refl _, Nat.le_trans hc hn, hc'⟩, fun p hpk x hx => ?_⟩
    rw [rowD_eq] at hc'
    obtain ⟨r, rfl, hr⟩ := rowB_inv hc'
    obtain ⟨k, hk, e⟩ := hr.kid
    obtain ⟨y, hy, e'⟩ := sumO_le hk p.2 (List.mem_map_of_mem hpk)
    refine ex2 (ih ⟨y, Nat.le_trans hy (Nat.le_trans (e ▸ Nat.le_add_left k 1) (Nat.le_trans hc hn)), e'⟩ x hx) fun g' k' q__39_1 => an3 q__39_1 fun h1 h2 h3 => ?_
    exact ⟨g', k', Nat.le_succ_of_le h1, h2, h3⟩
theorem py_pD {m g : Nat} {d : D} {ah : List Nat} (hg : g ≤ 100) (h : Good m g d) : PysOk 300 ((inn g d ah).map pD) := by
  refine pys_ok fun x hx => ?_
  obtain ⟨y, hy, rfl⟩ := List.mem_map.mp hx
  refine ex2 (inn_row h y hy) fun g' k q__44_1 => an3 q__44_1 fun h1 h2 h3 => ?_
  refine (py_tup (n := 299) (fam ((py_tup (n := 0) fun d hd => ?_).up (by decide)) (fam ((py_rowD h3).up (Nat.le_trans (Nat.add_le_add_right (Nat.mul_le_mul_left 2 (Nat.le_trans h1 hg)) 4) (by decide))) fan)))
  obtain ⟨i, _, rfl⟩ := List.mem_map.mp hd; exact py_int
theorem dI_pln {ts : List Int} : ∀ d ∈ dI ts, d.pln = true := fun d hd => by obtain ⟨i, _, rfl⟩ := List.mem_map.mp hd; rfl
noncomputable def BadP (t r : D) : Prop := ∀ xs, t = .list xs → okP xs r = false
theorem badP_r {ts : List Int} {r : D} (h : listB (rowD ts.length 3) r = none) : BadP (.list (dI ts)) r := fun xs e => by
  cases e
  rw [okP, dI_len, h]; exact Bool.and_false _
theorem badP_t {xs : List D} {r : D} (h : topsD xs = false) : BadP (.list xs) r := fun ys e => by
  cases e
  rw [okP, h]; rfl
theorem badP_n {t r : D} (h : isLi t = false) : BadP t r := fun xs e => by rw [e] at h; exact tf h
noncomputable def SpBad (S : FSpec) : Prop := ∀ (c : Int) (ts : List Int) (ds : List D) (k : Nat) (st : St) (Q : D → St → Prop) (X : XP), WfSt st → TopsOk ts → RowsOk ts.length ds k → (∀ t r, t.pln = true → r.pln = true → BadP t r → Q (.list [t, r]) st) → S [.int c, .list (dI ts), .tup ds] st Q X
noncomputable def BadL (v : D) : Prop := ∃ t r, v = .list [t, r] ∧ t.pln = true ∧ r.pln = true ∧ BadP t r
theorem rows_good {m k : Nat} {ds : List D} (h : RowsOk m ds k) : Good m 3 (.tup ds) := ⟨k, Nat.le_trans h.le (by decide), listB_of (Nat.le_trans h.len (by decide)) h.sum⟩
noncomputable def t36 : Tb := tb [("_law_cell", .local), ("_law_tops_here", .local), ("_law_rows_here", .local), ("_law_many", .local), ("_law_deep", .local), ("_law_k", .local), ("_law_some", .local), ("_law_places_here", .local), ("_law_one", .local), ("len", .globalImplicit), ("range", .globalImplicit), ("tuple", .globalImplicit), ("list", .globalImplicit), ("_law_places", .globalImplicit), ("_law_changed", .globalImplicit), ("_law_bad_row", .globalImplicit)] []
noncomputable abbrev b36 : List Stmt := bodyOf 36
theorem p36_0 : t36.pl "_law_cell" = .loc 0 true false := rfl
theorem p36_1 : t36.pl "_law_tops_here" = .loc 1 true false := rfl
theorem p36_2 : t36.pl "_law_rows_here" = .loc 2 true false := rfl
theorem p36_3 : t36.pl "_law_many" = .loc 3 true false := rfl
theorem p36_4 : t36.pl "_law_deep" = .loc 4 true false := rfl
theorem p36_5 : t36.pl "_law_k" = .loc 5 true false := rfl
theorem p36_6 : t36.pl "_law_some" = .loc 6 true false := rfl
theorem p36_7 : t36.pl "_law_places_here" = .loc 7 true false := rfl
theorem p36_8 : t36.pl "_law_one" = .loc 8 true false := rfl
theorem p36_9 : t36.pl "len" = .gl (.blt (.val (.builtin "len"))) := rfl
theorem p36_10 : t36.pl "range" = .gl (.itr) := rfl
theorem p36_11 : t36.pl "tuple" = .gl (.blt (.val (.type "tuple"))) := rfl
theorem p36_12 : t36.pl "list" = .gl (.blt (.val (.type "list"))) := rfl
theorem p36_13 : t36.pl "_law_places" = .gl (.fn) := rfl
theorem p36_14 : t36.pl "_law_changed" = .gl (.fn) := rfl
theorem p36_15 : t36.pl "_law_bad_row" = .gl (.fn) := rfl
theorem q36 : t36.hq = false := rfl
theorem bad_ok {Γ : Ctx} (hP : Has Γ "_law_places" (SpPlaces 3)) (hC : Has Γ "_law_changed" (SpChanged 3)) (hB : Has Γ "_law_bad_row" SpBadRow) : SpBad (wFn Γ 60 t36 3 b36) := by
  intro c ts ds k st Q X hw ht hr hQ
  obtain ⟨P, hP, hP'⟩ := hP
  obtain ⟨C, hC, hC'⟩ := hC
  obtain ⟨B, hB, hB'⟩ := hB
  have htl : (dI ts).length ≤ lim := by rw [dI_len]; exact Nat.le_trans ht.le (by decide)
  have htl' : (dI ts).length ≤ 3 := by rw [dI_len]; exact ht.le
  have hts : ts.length ≤ 1000 := Nat.le_trans ht.le (by decide)
  have htp : (D.list (dI ts)).pln = true := pln_list.mpr ⟨htl, dI_pln⟩
  have hrl : ds.length ≤ 1000 := Nat.le_trans hr.len (by decide)
  have hrl' : ds.length ≤ lim := Nat.le_trans hr.len (by decide)
  have hrp : (D.tup ds).pln = true := pl_t hrl hr.pln
  have hg := rows_good hr
  have hz : (D.tup (List.replicate ts.length (.int 0))).pln = true := pl_t (by rw [List.length_replicate]; exact hts) fun x hx => by rw [(List.mem_replicate.mp hx).2]; rfl
  obtain ⟨w, ew, hw6⟩ := modN (c / 10) (m := 6) (by decide)
  have ew : c / 10 % 6 = (w : Int) := ew
  obtain ⟨u, eu, hu9⟩ := modN (c / 60) (m := 9) (by decide)
  have eu : c / 60 % 9 = (u : Int) := eu
  refine ⟨rfl, ?_⟩; show wSs Γ 60 t36 (b36.drop 0) [some (.int c), some (.list (dI ts)), some (.tup ds), none, none, none, none, none, none, none, none, none, none, none, none, none] st _ _
  refine ss_at rfl ?_; dsimp only [f_name, f_call, f_nil, f_cons, f_asgN, f_tn, wName, lk_s, lk_0, se_s, se_0, ev_s, pl_a, ns_n, s1, nf, ta, cond_true, cond_false, p36_1, p36_3, p36_9, q36]
  refine b_len rfl htl ?_
  rw [dI_len]
  refine ss_at rfl ?_; dsimp only [f_int, f_str, f_name, f_bin, f_tup, f_nil, f_cons, f_asgN, f_tn, wName, lk_s, lk_0, se_s, se_0, ev_s, p36_3, p36_4]
  refine ⟨l_1, mul_t hts ?_⟩
  refine ⟨l_2, l_2, ?_⟩
  have hsay : (D.tup [.str "say", .tup [.tup (List.replicate ts.length (.int 0)), .int 0]]).pln = true := pl_t (Nat.le_of_ble_eq_true rfl) (pl_cons sp_say (pl_cons (pl_t (Nat.le_of_ble_eq_true rfl) (pl_cons hz (pl_cons rfl pl_nil))) pl_nil))
  refine ss_at rfl ?_; dsimp only [f_int, f_call, f_nil, f_cons, f_for, f_icl, pl_a, ns_n, s2, nf, ta, cond_true, cond_false, f_tgN, setN, p36_5, p36_10, q36]
  refine i_range' (n := 4) (by decide) ?_
  dsimp only [hide_no, back_no]
  refine (fun z : ∀ (n i : Nat) (d : D) (o : Option D), d.pln = true → i + n = 4 → (∀ g, g < i → rowD ts.length g d = none) → wFor _ (dN (List.range' i n)) [some (.int c), some (.list (dI ts)), some (.tup ds), some (.int ts.length), some (d), o, none, none, none, none, none, none, none, none, none, none] st _ => z 4 0 _ none hsay rfl fun g h => nomatch h) ?_
  intro n
  induction n with
  | succ n ih =>
    intro i d o hd hi hg
    show wFor _ (.int (i : Nat) :: dN (List.range' (i + 1) n)) _ _ _
    dsimp only [se_s, se_0, wf_c]
    refine su ?_; dsimp only [f_int, f_str, f_name, f_bin, f_tup, f_nil, f_cons, f_asgN, f_ssn, f_tn, wName, lk_s, lk_0, se_s, se_0, ev_s, nf_n, p36_3, p36_4]
    refine ⟨l_1, mul_t hts ?_⟩
    refine ⟨l_2, by decide, l_1, Nat.le_of_ble_eq_true rfl, ih _ _ _ (pl_t (Nat.le_of_ble_eq_true rfl) (pl_cons sp_loop (pl_cons (pl_t (Nat.le_of_ble_eq_true rfl) (pl_cons hz (pl_cons rfl pl_nil))) (pl_cons rfl (pl_cons (pl_t (Nat.le_of_ble_eq_true rfl) (pl_cons hd pl_nil)) pl_nil))))) (by rw [Nat.add_assoc, Nat.add_comm 1 n]; exact hi) fun g hgi => ?_⟩
    rw [rowD_eq]
    refine rB_loop_no ?_
    cases g with
    | zero => rfl
    | succ g =>
      exact listB_none (ds := [d]) (by rw [sumO_cc, hg g (Nat.lt_of_succ_lt_succ hgi)]; rfl)
  | zero =>
  intro i deep o hdp hi hdeep
  show wFor _ [] _ _ _
  dsimp only [f_tn, wf_n]
  refine ss_at rfl ?_; dsimp only [f_none, f_bool, f_int, f_str, f_name, f_bin, f_un, f_call, f_slice, f_tup, f_list, f_nil, f_cons, f_on, f_os, f_asgN, f_itemB, f_tn, wName, lk_s, lk_0, se_s, se_0, ev_s, pl_a, ns_n, s1, nf, ta, cond_true, cond_false, x_div, x_mod, x_pow, x_neg, mk_f, p36_0, p36_1, p36_2, p36_3, p36_4, p36_6, p36_11, p36_12, q36]
  refine b_tuple rfl htl ⟨l_2, by decide, by decide, l_2, by show 4 ≤ lim; decide, by decide, l_2, b_list rfl ⟨hrl', ?_⟩⟩
  dsimp only [cond_false]
  refine ⟨l_2, l_2, l_2, l_1, add_t (Nat.le_trans (Nat.add_le_add_right hr.len 1) (by decide)) ?_⟩
  refine ⟨l_2, l_1, mul_t hts ?_⟩
  refine ⟨l_2, l_2, l_1, mul_t (n := 13) (by decide) ?_⟩
  refine add_t (by rw [List.length_replicate]; exact Nat.le_trans (Nat.add_le_add_right hr.len 13) (by decide)) ?_
  rw [ew]
  have hdl : (dI ts).dropLast.length ≤ 3 := by rw [List.length_dropLast]; exact Nat.le_trans (Nat.sub_le _ _) htl'
  refine ⟨l_2, sl_li htl ⟨Nat.le_trans hdl (by decide), rfl, rfl, by show 6 ≤ lim; decide, by decide, by decide, by decide, it_q (P := fun v => v.pln = true ∧ amongD 0 9 v = false) hw6 (by decide) (by decide +kernel) fun v hv => ⟨l_1, add_l rfl rfl ?_⟩⟩⟩
  dsimp only [mk_f]
  have hl2 : ((dI ts).dropLast ++ [v]).length ≤ 4 := by rw [List.length_append]; exact Nat.add_le_add_right hdl 1
  refine ⟨Nat.le_trans hl2 (by decide), l_2, Nat.le_of_ble_eq_true rfl, ?_⟩
  refine (fun hgen : ∀ L : List D, L.length = 9 → (∀ v ∈ L, BadL v) → wSs Γ _ t36 (List.drop _ b36) [some (.int c), some (.list (dI ts)), some (.tup ds), some (.int ts.length), some (deep), o, some (.list L), none, none, none, none, none, none, none, none, none] st (finE st Q) (fun C st' => X C (st'.cut st.hi)) => hgen _ rfl (fam ⟨_, _, rfl, pln_tup.mpr ⟨htl, dI_pln⟩, hrp, badP_n rfl⟩ (fam ⟨_, _, rfl, rfl, rfl, badP_t rfl⟩ (fam ⟨_, _, rfl, rfl, rfl, badP_t rfl⟩ (fam ⟨_, _, rfl, htp, pln_list.mpr ⟨hrl', hr.pln⟩, badP_r rfl⟩ (fam ⟨_, _, rfl, rfl, hrp, badP_n rfl⟩ (fam ⟨_, _, rfl, htp, rfl, badP_r rfl⟩ (fam ⟨_, _, rfl, htp, pl_t ?_ (pl_app hr.pln (pl_cons hdp pl_nil)), badP_r ?_⟩ (fam ⟨_, _, rfl, htp, pl_t ?_ (pl_app hr.pln fun x hx => ?_), badP_r ?_⟩ (fam ⟨_, _, rfl, pln_list.mpr ⟨Nat.le_trans hl2 (by decide), pl_app (fun x hx => dI_pln x (List.dropLast_subset _ hx)) (pl_cons hv.1 pl_nil)⟩, hrp, badP_t ?_⟩ fan)))))))))) ?gen
  case gen =>
    clear hv hl2 hdl hdeep hdp hz hsay ew hw6
    intro L hL hLP
    refine ss_at rfl ?_; dsimp only [f_name, f_call, f_tup, f_nil, f_cons, f_asgN, f_tn, wName, lk_s, lk_0, se_s, se_0, ev_s, pl_a, ns_c, ns_n, s1, s7, nf, ta, cond_true, cond_false, p36_2, p36_7, p36_13, q36]
    refine ⟨by decide, P, hP, hP' ts.length (.tup ds) [] _ _ _ hrp hw hg (by decide) ?_⟩
    refine ss_at rfl ?_; dsimp only [f_int, f_name, f_bin, f_list, f_nil, f_c1, f_tb, f_tc, f_an, f_ac, f_if, f_ssn, f_tn, wName, lk_s, lk_0, ev_s, x_mod, mk_f, q_lt, p36_0, p36_7]
    refine ⟨by decide, ?_⟩
    refine (fun hrest => and_t (fun _ => hrest) fun _ => ?br) ?rest
    case rest =>
      refine ss_at rfl ?_; dsimp only [f_int, f_name, f_bin, f_ret, f_itemB, f_tr, wName, lk_s, lk_0, ev_s, x_div, x_mod, p36_0, p36_6]
      rw [eu]
      refine ⟨by decide, by decide, by decide, it_q (P := BadL) (by rw [hL]; exact hu9) (by rw [hL]; decide) hLP fun v hv => ?_⟩
      revert hv; intro z__153
      refine ex2 (z__153) fun t r q__153_1 => an4 q__153_1 fun e__153_2 g1 g2 g3 => ?_
      clear z__153
      subst e__153_2
      exact fin_k (hQ t r g1 g2 g3)
    case br =>
      refine ⟨by decide, ne_nil (py_pD (by decide) hg) (fun _ => and_l (fun _ => hrest) fun z => ft z) fun hne => and_l (fun z => tf z) fun _ => ?_⟩
      clear hrest
      have hpl := inn_len (ah := []) (hg.choose_spec.2)
      have hpk := hg.choose_spec.1
      rw [← hpl] at hpk
      refine su ?_; dsimp only [f_int, f_name, f_bin, f_call, f_nil, f_cons, f_asgN, f_itemB, f_tn, wName, lk_s, lk_0, se_s, se_0, ev_s, pl_a, ns_n, s1, nf, ta, cond_true, cond_false, x_div, p36_0, p36_7, p36_8, p36_9, q36]
      refine ⟨by decide, by decide, b_len rfl (by rw [List.length_map]; exact Nat.le_trans hpk (by decide)) ?_⟩
      dsimp only [x_mod]
      rw [List.length_map]
      have hpos : 0 < (inn 3 (.tup ds) []).length := by
        cases e : inn 3 (.tup ds) [] with
        | nil => rw [e] at hne; exact absurd rfl hne
        | cons x xs => exact Nat.succ_pos _
      obtain ⟨j, ej, hj⟩ := modN (c / 10) hpos
      rw [ej]
      refine ⟨Int.ofNat_lt.mpr hpos, it_nn rfl rfl (by rw [List.length_map]; exact Nat.le_trans hpk (by decide)) (by rw [List.getElem?_map, List.getElem?_eq_getElem hj]; rfl) ?_⟩
      have hmem := List.getElem_mem hj
      generalize (inn 3 (.tup ds) [])[j] = x at hmem ⊢
      refine ex2 (inn_row hg x hmem) fun g' k' q__174_1 => an3 q__174_1 fun _ hk' hrow => ?_
      have hxp := inn_pln hrp x hmem
      obtain ⟨q, hq, hfr⟩ := inn_fr hrp hg x hmem
      cases hq
      refine su ?_; dsimp only [f_int, f_name, f_bin, f_call, f_list, f_nil, f_cons, f_ret, f_itemC, f_tr, wName, lk_s, lk_0, ev_s, pl_a, ns_c, ns_n, s1, s3, s4, s6, nf, ta, cond_true, cond_false, x_div, mk_f, p36_0, p36_1, p36_2, p36_3, p36_8, p36_14, p36_15, q36]
      refine it_0 ?_
      refine ⟨by decide, by decide, it_1 ?_⟩
      refine ⟨B, hB, hB' _ _ _ _ _ _ _ _ hw ht.pos ht.le hxp.1 hk' hrow fun bad hb hbad => ?_⟩
      refine ⟨C, hC, hC' _ _ _ _ _ _ _ _ hw hrp hfr hxp.2 hb hbad fun ds' g1 g2 => ⟨l_2, ?_⟩⟩
      exact fin_k (hQ _ _ htp g1 (badP_r (listB_none (g2 3))))
  · rw [List.length_append]; exact Nat.le_trans (Nat.add_le_add_right hr.len 1) (by decide)
  · have := sumO_bad (f := rowD ts.length 3) (a := ds) (b := []) (hdeep 3 (by rw [show i = 4 from hi]; decide))
    rw [List.append_nil] at this
    exact listB_none this
  · rw [List.length_append, List.length_replicate]; exact Nat.le_trans (Nat.add_le_add_right hr.len 13) (by decide)
  · rw [(List.mem_replicate.mp hx).2]; exact hsay
  · exact listB_long (by rw [List.length_append, List.length_replicate]; exact Nat.lt_of_lt_of_le (by decide : 12 < 13) (Nat.le_add_left 13 _))
  · rw [topsD, List.all_append, show [v].all (amongD 0 9) = false by rw [List.all_cons, hv.2]; rfl, Bool.and_false, Bool.and_false]
end Mine
end

section
set_option autoImplicit false
set_option linter.unusedVariables false
set_option linter.unusedSimpArgs false
set_option maxRecDepth 100000
namespace Mine
open PySem
theorem bif_f {c : Bool} {A B : Prop} (hc : c = false) (h : B) : bif c then A else B := by subst hc; exact h
noncomputable def SpRefused (S : FSpec) : Prop := ∀ (t r : D) (st : St) (Q : D → St → Prop) (X : XP), WfSt st → r.pln = true →
  ((∃ xs, lstD st t = some xs ∧ xs.length ≤ lim ∧ (∀ d ∈ xs, d.pln = true) ∧ okP xs r = false) ∨ (t.pln = true ∧ isLi t = false)) → Q (.bool true) st → S [t, r] st Q X
theorem prog_ref {CB C : Value} {S : FSpec} {t r : D} {st : St} {Q : D → St → Prop} {X : XP} (h : SpProg CB C S) (hw : WfSt st) (hp : r.pln = true) (hb : (∃ xs, lstD st t = some xs ∧ xs.length ≤ lim ∧ (∀ d ∈ xs, d.pln = true) ∧ okP xs r = false) ∨ (t.pln = true ∧ isLi t = false)) (hX : X CB st) : S [t, r] st Q X := by
  refine h _ _ _ _ _ hw hp ?_
  obtain ⟨xs, h1, h2, h3, h4⟩ | ⟨h1, h2⟩ := hb
  · refine .inl ⟨xs, h1, h2, h3, ?_⟩
    rw [h4]; exact hX
  · exact .inr ⟨h1, h2, hX⟩
/-- what is known of the classes of exceptions -/
structure Excs (Γ : Ctx) (CB : Value) : Prop where
  gB : Γ.gl "BadProgram" = some (.val CB)
  ex : Γ.ex CB = true
  gF : ∃ C, Γ.gl "BadFilling" = some (.val C) ∧ ∀ st, isInst Γ.sub st (.exc CB) C = some false
  gN : ∃ C, Γ.gl "NoLoop" = some (.val C) ∧ ∀ st, isInst Γ.sub st (.exc CB) C = some false
  gL : ∃ C, Γ.gl "LoopError" = some (.val C) ∧ ∀ st, isInst Γ.sub st (.exc CB) C = some true
  gV : ∀ st, isInst Γ.sub st (.exc CB) (.type "ValueError") = some true
noncomputable def t37 : Tb := tb [("_law_tops_here", .local), ("_law_rows_here", .local), ("e", .local), ("Program", .globalImplicit), ("BadProgram", .globalImplicit), ("isinstance", .globalImplicit), ("BadFilling", .globalImplicit), ("NoLoop", .globalImplicit), ("LoopError", .globalImplicit), ("ValueError", .globalImplicit)] []
noncomputable abbrev b37 : List Stmt := bodyOf 37
theorem p37_0 : t37.pl "_law_tops_here" = .loc 0 true false := rfl
theorem p37_1 : t37.pl "_law_rows_here" = .loc 1 true false := rfl
theorem p37_2 : t37.pl "e" = .loc 2 true false := rfl
theorem p37_3 : t37.pl "Program" = .gl (.fn) := rfl
theorem p37_4 : t37.pl "BadProgram" = .gl (.dyn) := rfl
theorem q37 : t37.hq = false := rfl
noncomputable def t37h : Tb := { t37 with hq := true }
theorem p37h_2 : t37h.pl "e" = .loc 2 true false := rfl
theorem p37h_5 : t37h.pl "isinstance" = .gl (.blt (.val (.builtin "isinstance"))) := rfl
theorem p37h_6 : t37h.pl "BadFilling" = .gl (.dyn) := rfl
theorem p37h_7 : t37h.pl "NoLoop" = .gl (.dyn) := rfl
theorem p37h_8 : t37h.pl "LoopError" = .gl (.dyn) := rfl
theorem p37h_9 : t37h.pl "ValueError" = .gl (.cst (.val (.type "ValueError"))) := rfl
theorem refused_ok {Γ : Ctx} {CB C : Value} (hE : Excs Γ CB) (hP : Has Γ "Program" (SpProg CB C)) : SpRefused (wFn Γ 60 t37 2 b37) := by
  intro t r st Q X hw hp hb hQ
  obtain ⟨P, hP, hP'⟩ := hP
  obtain ⟨CF, gF, iF⟩ := hE.gF
  obtain ⟨CN, gN, iN⟩ := hE.gN
  obtain ⟨CL, gL, iL⟩ := hE.gL
  refine ⟨rfl, ?_⟩; show wSs Γ 60 t37 (b37.drop 0) [some (t), some (r), none, none, none, none, none, none, none, none] st _ _
  refine ss_at rfl ?_; dsimp only [f_name, f_call, f_nil, f_cons, f_try, f_tn, wName, lk_s, lk_0, se_s, se_0, ev_s, pl_a, ns_c, ns_n, s1, c1, nf, nt, ta, fo, cond_true, cond_false, p37_0, p37_1, p37_2, p37_3, p37_4, q37]
  refine bif_f rfl ⟨P, hP, prog_ref hP' hw hp hb ⟨hE.gB, hE.ex, ?_⟩⟩
  show wSs Γ _ t37h _ _ _ _ _
  refine su ?_; dsimp only [f_name, f_call, f_nil, f_cons, f_tb, f_tcall, f_an, f_ac, f_if, f_ssn, f_tn, wName, lk_s, lk_0, ev_s, pl_a, ns_c, ns_n, s1, nf, ta, cond_true, p37h_2, p37h_5, p37h_6, p37h_7]
  refine ⟨_, gF, b_isi (iF _) (tr_of (or_t (fun z => ft z) fun _ => ?_))⟩
  refine ⟨_, gN, b_isi (iN _) (tr_of (or_l (fun z => ft z) fun _ => ?_))⟩
  refine su ?_; dsimp only [f_name, f_boolop, f_call, f_nil, f_cons, f_b1, f_b2, f_ret, f_tr, wName, lk_s, lk_0, se_s, se_0, ev_s, pl_a, ns_c, ns_n, s1, nf, ta, cond_true, p37h_2, p37h_5, p37h_8, p37h_9]
  refine ⟨_, gL, b_isi (iL _) (tr_of (and_b (fun z => tf z) fun _ => ?_))⟩
  refine b_isi (hE.gV _) ?_
  exact fin_k hQ
theorem comp_filter {α : Type} {step : D → St → (Option D → St → Prop) → Prop} {st : St} {K : List D → St → Prop} {xs : List α} {f g : α → D} (c : α → Bool) (h : ∀ x ∈ xs, ∀ k : Option D → St → Prop, (if c x = true then k (some (g x)) st else k none st) → step (f x) st k) (hK : K ((xs.filter c).map g) st) : wComp step (xs.map f) [] st K := by
  have : ∀ (ys : List α) (acc : List D), (∀ y ∈ ys, y ∈ xs) → K (acc ++ (ys.filter c).map g) st → wComp step (ys.map f) acc st K := by
    intro ys
    induction ys with
    | nil => intro acc _ hK; rw [List.filter_nil, List.map_nil, List.append_nil] at hK; exact hK
    | cons y ys ih =>
      intro acc hm hK
      refine h y (hm y (.head _)) _ ?_
      cases e : c y with
      | true => rw [List.filter_cons_of_pos e, List.map_cons, List.append_cons] at hK; exact ih _ (fun z hz => hm z (.tail _ hz)) hK
      | false => rw [List.filter_cons_of_neg (by rw [e]; decide)] at hK; exact ih _ (fun z hz => hm z (.tail _ hz)) hK
  exact this xs [] (fun _ h => h) hK
noncomputable def SpRight (C : Value) (S : FSpec) : Prop := ∀ (n kp k : Nat) (ts : List Int) (ds KL : List D) (st : St) (Q : D → St → Prop) (X : XP), WfSt st → st.cs n = some (prog (dI ts) (.tup ds)) → st.cs kp = some (.list KL) → KL.length ≤ 10 → n ≠ kp → TopsOk ts → (D.tup ds).pln = true → listB (rowD ts.length 3) (.tup ds) = some k → k ≤ 12 →
  (∀ (nq : Nat) (L : List D) (st' : St), st.hi ≤ nq → nq < st'.hi → WfSt st' → st.hi ≤ st'.hi → (∀ i, i < st.hi → i ≠ kp → st'.cs i = st.cs i) → st'.cs kp = some (.list (KL ++ [.tup [.loc nq, .list L]])) → st'.cs nq = some (.list L) → PysOk 300 L → Q (.bool true) st') → S [.inst C n, .list (dI ts), .tup ds, .loc kp] st Q X
theorem hpys2 {n : Nat} {L : List D} (h : PysOk (n + 1) L) : PysOk (n + 1) (L ++ [.tup []]) := by
  revert h; intro z__81
  refine ex1 (z__81) fun xs q__81_1 => an3 q__81_1 fun h1 h2 h3 => ?_
  clear z__81
  have : ∀ (L : List D) (xs : List PyData), pys L = some xs → PyData.depthAll xs ≤ n + 1 → PyData.eqvAll xs xs = true → PysOk (n + 1) (L ++ [.tup []]) := by
    intro L
    induction L with
    | nil => intro xs _ _ _; exact ⟨[.tuple []], rfl, Nat.max_le.mpr ⟨Nat.succ_le_succ (Nat.zero_le _), Nat.zero_le _⟩, rfl⟩
    | cons d L ih =>
      intro xs h1 h2 h3
      rw [pys_c] at h1
      cases hd : D.py d with
      | none => rw [hd] at h1; exact nomatch h1
      | some x => cases hs : pys L with
        | none => rw [hd, hs] at h1; exact nomatch h1
        | some ys =>
          rw [hd, hs] at h1; cases h1
          have h2 := Nat.max_le.mp h2
          have h3 : (PyData.eqv x x && PyData.eqvAll ys ys) = true := h3
          have h3 := Bool.and_eq_true_iff.mp h3
          refine ex1 (ih ys hs h2.2 h3.2) fun zs q__98_1 => an3 q__98_1 fun g1 g2 g3 => ?_
          refine ⟨x :: zs, by rw [List.cons_append, pys_c, hd, g1]; rfl, Nat.max_le.mpr ⟨h2.1, g2⟩, ?_⟩
          show (PyData.eqv x x && PyData.eqvAll zs zs) = true
          rw [h3.1, g3]; rfl
  exact this L xs h1 h2 h3
theorem py_loops {g : Nat} {d : D} {ah : List Nat} : PysOk 300 (loopsL (inn g d ah)) := by
  refine pys_ok fun x hx => ?_
  obtain ⟨y, hy, rfl⟩ := List.mem_map.mp hx
  refine (py_tup (n := 0) fun d hd => ?_).up (by decide)
  obtain ⟨i, _, rfl⟩ := List.mem_map.mp hd; exact py_int
noncomputable def t38 : Tb := tb [("_law_program_here", .local), ("_law_tops_here", .local), ("_law_rows_here", .local), ("_law_kept", .local), ("_law_places_here", .local), ("_law_place", .local), ("_law_row_here", .local), ("_law_found", .local), ("_law_due", .local), ("isinstance", .globalImplicit), ("list", .globalImplicit), ("_law_places", .globalImplicit)] []
noncomputable abbrev b38 : List Stmt := bodyOf 38
theorem p38_0 : t38.pl "_law_program_here" = .loc 0 true false := rfl
theorem p38_1 : t38.pl "_law_tops_here" = .loc 1 true false := rfl
theorem p38_2 : t38.pl "_law_rows_here" = .loc 2 true false := rfl
theorem p38_3 : t38.pl "_law_kept" = .loc 3 true false := rfl
theorem p38_4 : t38.pl "_law_places_here" = .loc 4 true false := rfl
theorem p38_5 : t38.pl "_law_place" = .loc 5 true false := rfl
theorem p38_6 : t38.pl "_law_row_here" = .loc 6 true false := rfl
theorem p38_7 : t38.pl "_law_found" = .loc 7 true false := rfl
theorem p38_8 : t38.pl "_law_due" = .loc 8 true false := rfl
theorem p38_9 : t38.pl "isinstance" = .gl (.blt (.val (.builtin "isinstance"))) := rfl
theorem p38_10 : t38.pl "list" = .gl (.blt (.val (.type "list"))) := rfl
theorem p38_11 : t38.pl "_law_places" = .gl (.fn) := rfl
theorem q38 : t38.hq = false := rfl
noncomputable def t38c0 : Tb := tb [(".0", .local), ("_law_place", .local), ("_law_row_here", .local)] []
theorem p38c0_1 : t38c0.pl "_law_place" = .loc 1 true false := rfl
theorem p38c0_2 : t38c0.pl "_law_row_here" = .loc 2 true false := rfl
theorem right_ok {Γ : Ctx} {C : Value} (hc : Γ.cl C) (hP : Has Γ "_law_places" (SpPlaces 3)) (hR : HasM Γ C "row" (SpRowM C 3)) (hL : HasM Γ C "loops" (SpLoopsM C)) : SpRight C (wFn Γ 60 t38 4 b38) := by
  intro n kp k ts ds KL st Q X hw h1 h2 h3 hnk ht hp hk hk12 hQ
  obtain ⟨P, hP, hP'⟩ := hP
  obtain ⟨R, hR, hR'⟩ := hR
  obtain ⟨L, hL, hL'⟩ := hL
  have htl : (dI ts).length ≤ lim := by rw [dI_len]; exact Nat.le_trans ht.le (by decide)
  have hg : Good ts.length 3 (.tup ds) := ⟨k, Nat.le_trans hk12 (by decide), hk⟩
  have hpl := inn_len (ah := []) hk
  refine ⟨rfl, ?_⟩; show wSs Γ 60 t38 (b38.drop 0) [some (.inst C n), some (.list (dI ts)), some (.tup ds), some (.loc kp), none, none, none, none, none, none, none, none] st _ _
  refine ss_at rfl ?_; dsimp only [f_name, f_call, f_attr, f_nil, f_cons, f_c1, f_not, f_tb, f_tc, f_tcall, f_an, f_ac, f_if, f_ssn, f_tn, wName, lk_s, lk_0, ev_s, pl_a, ns_c, ns_n, s1, s11, n1, nf, ta, cond_true, cond_false, p38_0, p38_1, p38_2, p38_9, p38_10, q38]
  refine at_ns h1 hc pr_t (by decide +kernel) rfl ?_
  refine b_isi (ty_lst rfl) (tr_of (or_tn (fun z => tf z) fun _ => ?_))
  refine at_ns h1 hc pr_t (by decide +kernel) rfl ?_
  refine ne_ll (n := 0) (pys_ok fun d hd => ?_) (by decide) (or_t (fun z => ft z) fun _ => ?_)
  · obtain ⟨i, _, rfl⟩ := List.mem_map.mp hd; exact py_int
  refine at_ns h1 hc pr_r (by decide +kernel) rfl ?_
  have hpy : PyOk 11 (.tup ds) := by
    refine ex1 (listB_inv hk) fun ds' q__145_1 => an3 q__145_1 fun e _ hs => ?_
    cases e
    exact py_tup fun d hd => by
      obtain ⟨k', _, hk'⟩ := sumO_le hs d hd
      exact py_rowD (g := 3) hk'
  refine ne_tup hpy (by decide) (or_l (fun z => ft z) fun _ => ?_)
  refine ss_at rfl ?_; dsimp only [f_name, f_call, f_tup, f_nil, f_cons, f_asgN, f_tn, wName, lk_s, lk_0, se_s, se_0, ev_s, pl_a, ns_c, ns_n, s1, s7, nf, ta, cond_true, cond_false, p38_2, p38_4, p38_11, q38]
  refine ⟨by decide, P, hP, hP' ts.length (.tup ds) [] _ _ _ hp hw hg (by decide) ?_⟩
  refine ss_at rfl ?_; dsimp only [f_name, f_for, f_inm, wName, lk_s, lk_0, ev_s, cond_false, p38_4, q38]
  refine wi_lst ⟨by rw [List.length_map, hpl]; exact Nat.le_trans hk12 (by decide), ?_⟩
  dsimp only [hide_no, back_no]
  have hrow := inn_row (ah := []) hg
  have hfr := inn_fr (ah := []) hp hg
  have hps := inn_pln (g := 3) (ah := []) hp
  refine (fun z : ∀ (xs : List Pth) (o p : Option D), (∀ x ∈ xs, x ∈ inn 3 (.tup ds) []) → wFor _ (xs.map pD) [some (.inst C n), some (.list (dI ts)), some (.tup ds), some (.loc kp), some (.list ((inn 3 (.tup ds) []).map pD)), o, p, none, none, none, none, none] st _ => z _ none none fun _ h => h) ?_
  intro xs
  induction xs with
  | cons x xs ih =>
    intro o p hm
    show wFor _ (.tup [.tup (dN x.1), x.2] :: xs.map pD) _ _ _
    have hx := hm x (.head _)
    refine ex2 (hrow x hx) fun g' k' q__166_1 => an3 q__166_1 fun hg' hk' hr => ?_
    obtain ⟨q, hq, hf⟩ := hfr x hx
    have hxp := hps x hx
    have hpy := py_rowD hr
    obtain ⟨r, er, _⟩ := row_w hxp.1 hk' hr
    dsimp only [se_s, se_0, f_tgT, f_tg0, f_tg1, setN, wf_c, p38_5, p38_6]
    refine su ?_; dsimp only [f_name, f_meth, f_nil, f_cons, f_c1, f_tc, f_if, f_ssn, f_tn, wName, lk_s, lk_0, ev_s, ns_c, ns_n, s1, n1, nf, ta, nf_n, p38_0, p38_5, p38_6, q38]
    refine bif_t rfl (m_obj hc h1 (pr_no (by decide +kernel) (by decide +kernel)) hR ?_)
    dsimp only []
    refine hR' _ _ _ _ _ _ _ _ h1 rfl hxp.2 (by rw [hq]; exact hf) ?_
    rw [er] at hpy ⊢
    refine ne_tup hpy (by omega) (ite_f ?_)
    exact ih _ _ fun y hy => hm y (.tail _ hy)
  | nil =>
  intro o p _
  show wFor _ [] _ _ _
  dsimp only [f_tn, wf_n]
  refine ss_at rfl ?_; dsimp only [f_name, f_meth, f_nil, f_asgN, f_tn, wName, lk_0, se_s, se_0, ev_s, ns_n, n1, ta, p38_0, p38_7, q38]
  refine bif_t rfl (m_obj hc h1 (pr_no (by decide +kernel) (by decide +kernel)) hL ?_)
  dsimp only []
  refine hL' _ ts.length _ _ _ _ _ h1 hp hw hg fun nq st1 he hlo hhi hcs => ?_
  refine ss_at rfl ?_; dsimp only [f_asgN, f_tn, se_s, se_0, p38_8]
  refine comp1 t38c0 [none, none, none] rfl rfl rfl ?_
  dsimp only [f_int, f_str, f_name, f_c1, f_tc, f_itemC, f_inm, wName, lk_s, lk_0, ev_s, mk_f, p38_4, p38c0_1, p38c0_2]
  refine wi_lst ⟨by rw [List.length_map, hpl]; exact Nat.le_trans hk12 (by decide), ?_⟩
  dsimp only [hide_no, back_no]
  refine comp_filter (g := fun p : Pth => .tup (dN p.1)) (fun p => isLoop p.2) (fun x hx kk hkk => ?_) ?_
  · refine ex2 (hrow x hx) fun g' k' q__193_1 => an3 q__193_1 fun hg' hk' hr => ?_
    obtain ⟨r, er, hr⟩ := row_w (hps x hx).1 hk' hr
    show wTarget t38c0 _ (.tup [.tup (dN x.1), x.2]) _ _
    rw [isLoop, er] at hkk
    rw [er]
    dsimp only [lk_s, lk_0, se_s, se_0, ev_s, f_tgT, f_tg0, f_tg1, setN, p38c0_1, p38c0_2]
    refine it_k (k := 0) 0 rfl hr.pos hr.lim ?_
    rw [hr.str]
    dsimp only [q_seq]
    exact hkk
  have hll : (loopsL (inn 3 (.tup ds) [])).length ≤ 12 := Nat.le_trans ll_len (by rw [hpl]; exact hk12)
  have hlp := ll_pln (ps := inn 3 (.tup ds) []) fun x hx => Nat.le_trans (hps x hx).2 (by decide)
  rw [show List.map (fun p : Pth => D.tup (dN p.fst)) (List.filter (fun p => isLoop p.snd) (inn 3 (D.tup ds) [])) = loopsL (inn 3 (.tup ds) []) from rfl]
  have hpys := py_loops (g := 3) (d := .tup ds) (ah := [])
  generalize loopsL (inn 3 (.tup ds) []) = LL at hll hcs hpys hlp ⊢
  refine ⟨Nat.le_trans hll (by decide), ?_⟩
  refine ss_at rfl ?_; dsimp only [f_name, f_call, f_nil, f_cons, f_c1, f_not, f_tb, f_tc, f_tcall, f_an, f_ac, f_if, f_ssn, f_tn, wName, lk_s, lk_0, ev_s, pl_a, ns_c, ns_n, s1, nf, ta, cond_true, cond_false, p38_7, p38_8, p38_9, p38_10, q38]
  refine b_isi (ty_lst (lst_loc hcs)) (tr_of (or_tn (fun z => tf z) fun _ => ?_))
  refine ne_cl hpys (by decide) hcs (or_l (fun z => ft z) fun _ => ?_)
  refine ss_at rfl ?_; dsimp only [f_name, f_meth, f_tup, f_nil, f_cons, f_expr, f_tn, wName, lk_s, lk_0, ev_s, ns_c, ns_n, s7, c1, n1, nf, ta, cond_true, p38_7, q38]
  refine bif_t rfl (meth_app hcs ?_)
  dsimp only []
  refine ⟨by decide, meth_do hcs (Nat.le_trans hll (by decide)) ?_⟩
  have hlp2 : ∀ d ∈ LL ++ [D.tup []], d.pln = true := pl_app hlp (pl_cons rfl pl_nil)
  have hl2 : (LL ++ [D.tup []]).length ≤ lim := by rw [List.length_append]; exact Nat.le_trans (Nat.add_le_add_right hll 1) (by decide)
  have hpy2 : PysOk 300 (LL ++ [D.tup []]) := hpys2 hpys
  have he2 : Ext st (st1.put nq (.list (LL ++ [.tup []]))) := ext_put he hlo hhi (pln_vals hlp2)
  have hkl := (hw _ _ h2).1
  have hk2 : (st1.put nq (.list (LL ++ [.tup []]))).cs kp = some (.list KL) := (he2.cs kp hkl).trans h2
  refine ss_at rfl ?_; dsimp only [f_name, f_call, f_meth, f_tup, f_nil, f_cons, f_expr, f_tn, wName, lk_s, lk_0, ev_s, pl_a, ns_c, ns_n, s1, s7, c1, n1, nf, ta, cond_true, cond_false, p38_3, p38_7, p38_10, q38]
  refine bif_t rfl (meth_app hk2 ?_)
  dsimp only []
  refine b_list (seq_loc pu_n) ⟨hl2, ?_⟩
  dsimp only [cond_false]
  refine ⟨l_2, meth_do hk2 (Nat.le_trans h3 (by decide)) ?_⟩
  refine ss_at rfl ?_; dsimp only [f_bool, f_ret, f_tr]
  refine fin_k (hQ nq (LL ++ [.tup []]) _ hlo hhi ?_ he2.hi (fun i hi hne => ?_) pu_n ?_ hpy2)
  · refine wf_put he2.wf (Nat.lt_of_lt_of_le hkl he2.hi) fun d hd => ?_
    cases List.mem_append.mp hd with
    | inl h => exact undr_c.mp (he2.wf _ _ hk2).2 d h
    | inr h => cases h with
      | head =>
        show (decide (nq < st1.hi) && (undrAll _ _ && true)) = true
        rw [decide_eq_true hhi, undrAll_pln _ (plnAll_iff.mpr hlp2)]; rfl
      | tail _ h => exact nomatch h
  · exact (if_neg hne).trans (he2.cs i hi)
  · exact (if_neg (Nat.ne_of_gt (Nat.lt_of_lt_of_le hkl hlo))).trans pu_n
end Mine
end

section
set_option autoImplicit false
set_option linter.unusedVariables false
set_option linter.unusedSimpArgs false
set_option maxRecDepth 100000
namespace Mine
open PySem
theorem eq_nil {n : Nat} {ds : List D} {st : St} {K : Bool → Prop} (h : PysOk n ds) (hK : K ds.isEmpty) : wCmp1 .Eq (.list ds) (.list []) st K := by
  obtain ⟨xs, g1, _, _⟩ := h
  refine ⟨.list xs, .list [], py_st (by rw [D.py_l, g1]; rfl) 3, rfl, Nat.le_trans (Nat.min_le_right _ _) (by decide), ?_⟩
  cases ds with
  | nil => cases g1; exact hK
  | cons d ds =>
    cases xs with
    | nil => rw [pys_c] at g1; cases hd : D.py d <;> cases hs : pys ds <;> (rw [hd, hs] at g1; exact nomatch g1)
    | cons x xs => exact hK
theorem ne_bool {a b : Bool} {st : St} {K : Bool → Prop} (h : a = b) (hK : K false) : wCmp1 .NotEq (.bool a) (.bool b) st K := by
  subst h
  refine ⟨.bool a, .bool a, rfl, rfl, Nat.zero_le _, ?_⟩
  rw [show PyData.eqv (.bool a) (.bool a) = true from beq_self_eq_true a]; exact hK
theorem sumO_rep {f : D → Option Nat} {x : D} {n : Nat} (h : f x = some 1) : sumO f (List.replicate n x) = some n := by
  induction n with
  | zero => rfl
  | succ n ih => rw [List.replicate_succ, sumO_cc, h, ih]; show some (1 + n) = _; rw [Nat.add_comm]
theorem sumO_ge {m g n : Nat} {ds : List D} (h : sumO (rowD m g) ds = some n) : ds.length ≤ n := by
  induction ds generalizing n with
  | nil => exact Nat.zero_le _
  | cons d ds ih =>
    obtain ⟨x, y, hx, hy, rfl⟩ := sumO_c h
    rw [rowD_eq] at hx
    obtain ⟨r, rfl, hr⟩ := rowB_inv hx
    obtain ⟨c, _, rfl⟩ := hr.kid
    have := ih hy
    rw [List.length_cons]; omega
noncomputable def offK (fs ts : List Int) (k : Nat) : Bool := !(decide (0 ≤ fs.getD k 0) && decide (fs.getD k 0 ≤ ts.getD k 0))
theorem off_nil {fs ts : List Int} (h : fs.length = ts.length) : (((List.range' 0 ts.length).filter (offK fs ts)).map fun k : Nat => D.int (k : Int)).isEmpty = inB fs ts := by
  have e : inB fs ts = (List.range' 0 ts.length).all fun k => !offK fs ts k := by
    rw [← List.range_eq_range', inB]
    induction ts generalizing fs with
    | nil => cases fs with
      | nil => rfl
      | cons a fs => exact nomatch h
    | cons t ts ih => cases fs with
      | nil => exact nomatch h
      | cons a fs =>
        rw [List.zip_cons_cons, List.all_cons, ih (Nat.succ.inj h), List.length_cons, List.range_succ_eq_map, List.all_cons, List.all_map]
        show _ = (!!(decide (0 ≤ a) && decide (a ≤ t)) && _)
        rw [Bool.not_not]; rfl
  rw [e, List.isEmpty_map]
  generalize List.range' 0 ts.length = l
  induction l with
  | nil => rfl
  | cons a l ih =>
    rw [List.all_cons]
    cases e : offK fs ts a with
    | true => rw [List.filter_cons_of_pos e]; rfl
    | false => rw [List.filter_cons_of_neg (by rw [e]; decide), ih]; rfl
theorem it_i {vs : List Int} {k : Nat} {st : St} {Q : D → St → Prop} (hk : k < vs.length) (hl : vs.length ≤ 1000) (h : Q (.int (vs.getD k 0)) st) : wItem (.list (dI vs)) (.int (k : Int)) st Q :=
  it_nn rfl rfl (by rw [dI_len]; exact Nat.le_trans hl (by decide)) (by rw [List.getElem?_map, List.getElem?_eq_getElem hk, List.getD_eq_getElem?_getD, List.getElem?_eq_getElem hk]; rfl) h
theorem ints_of {acc : List D} (h : ∀ x ∈ acc, ∃ i : Int, x = .int i) : ∃ fs : List Int, acc = dI fs := by
  induction acc with
  | nil => exact ⟨[], rfl⟩
  | cons a acc ih =>
    obtain ⟨fs, rfl⟩ := ih fun x hx => h x (.tail _ hx)
    obtain ⟨i, rfl⟩ := h a (.head _)
    exact ⟨i :: fs, rfl⟩
noncomputable abbrev Kpt := Nat × List D
noncomputable def pK (p : Kpt) : D := .tup [.loc p.1, .list p.2]
/-- the stores of the law's loop -/
structure Lp (st st5 : St) (n kp : Nat) (ts : List Int) (ds : List D) (ps : List Kpt) : Prop where
  ext : Ext st st5
  pr : st5.cs n = some (prog (dI ts) (.tup ds))
  kc : st5.cs kp = some (.list (ps.map pK))
  all : ∀ p ∈ ps, st5.cs p.1 = some (.list p.2) ∧ PysOk 300 p.2 ∧ p.1 ≠ kp
  lo : st.hi ≤ kp
noncomputable def SpLaw (S : FSpec) : Prop := ∀ (sc : List Int) (st : St) (Q : D → St → Prop) (X : XP), WfSt st → sc.length ≤ 1000 → Q (.bool true) st → S [.list (dI sc)] st Q X
theorem okP_no {xs : List D} {r : D} (h : ∀ n, listB (rowD xs.length 3) r = some n → 12 < n) : okP xs r = false := by
  rw [okP]
  cases e : listB (rowD xs.length 3) r with
  | none => exact Bool.and_false _
  | some n => rw [fits, decide_eq_false (by have := h n e; omega)]; exact Bool.and_false _
theorem okP_yes {ts : List Int} {r : D} {k : Nat} (ht : TopsOk ts) (h : listB (rowD ts.length 3) r = some k) (hk : k ≤ 12) : okP (dI ts) r = true := by
  rw [okP, topsD, dI_len, h, fits, decide_eq_true hk, decide_eq_true ht.pos, decide_eq_true ht.le, show (dI ts).all (amongD 0 9) = true from List.all_eq_true.mpr fun d hd => by
    obtain ⟨i, hi, rfl⟩ := List.mem_map.mp hd; exact among_of (ht.all i hi).1 (ht.all i hi).2]; rfl
noncomputable def t39 : Tb := tb [("_law_script", .cell), ("_law_tops_here", .cell), ("_law_rows_here", .local), ("_law_cell", .local), ("_law_bad_here", .local), ("_law_say", .local), ("_law_handed", .local), ("_law_program_here", .local), ("_law_kept", .local), ("_law_filling", .cell), ("_law_turn", .local), ("_law_wrong", .local), ("_law_due", .local), ("_law_found", .local), ("_law_program", .globalImplicit), ("_law_at", .globalImplicit), ("_law_bad", .globalImplicit), ("_law_refused", .globalImplicit), ("len", .globalImplicit), ("_law_places", .globalImplicit), ("list", .globalImplicit), ("Program", .globalImplicit), ("range", .globalImplicit), ("is_within", .globalImplicit), ("_law_right", .globalImplicit), ("isinstance", .globalImplicit), ("bool", .globalImplicit)] ["_law_handed", "_law_kept"]
noncomputable abbrev b39 : List Stmt := bodyOf 39
theorem p39_0 : t39.pl "_law_script" = .loc 0 true false := rfl
theorem p39_1 : t39.pl "_law_tops_here" = .loc 1 true false := rfl
theorem p39_2 : t39.pl "_law_rows_here" = .loc 2 true false := rfl
theorem p39_3 : t39.pl "_law_cell" = .loc 3 true false := rfl
theorem p39_4 : t39.pl "_law_bad_here" = .loc 4 true false := rfl
theorem p39_5 : t39.pl "_law_say" = .loc 5 true false := rfl
theorem p39_6 : t39.pl "_law_handed" = .loc 6 true true := rfl
theorem p39_7 : t39.pl "_law_program_here" = .loc 7 true false := rfl
theorem p39_8 : t39.pl "_law_kept" = .loc 8 true true := rfl
theorem p39_9 : t39.pl "_law_filling" = .loc 9 true false := rfl
theorem p39_10 : t39.pl "_law_turn" = .loc 10 true false := rfl
theorem p39_11 : t39.pl "_law_wrong" = .loc 11 true false := rfl
theorem p39_12 : t39.pl "_law_due" = .loc 12 true false := rfl
theorem p39_13 : t39.pl "_law_found" = .loc 13 true false := rfl
theorem p39_14 : t39.pl "_law_program" = .gl (.fn) := rfl
theorem p39_15 : t39.pl "_law_at" = .gl (.fn) := rfl
theorem p39_16 : t39.pl "_law_bad" = .gl (.fn) := rfl
theorem p39_17 : t39.pl "_law_refused" = .gl (.fn) := rfl
theorem p39_18 : t39.pl "len" = .gl (.blt (.val (.builtin "len"))) := rfl
theorem p39_19 : t39.pl "_law_places" = .gl (.fn) := rfl
theorem p39_20 : t39.pl "list" = .gl (.blt (.val (.type "list"))) := rfl
theorem p39_21 : t39.pl "Program" = .gl (.fn) := rfl
theorem p39_22 : t39.pl "range" = .gl (.itr) := rfl
theorem p39_23 : t39.pl "is_within" = .gl (.fn) := rfl
theorem p39_24 : t39.pl "_law_right" = .gl (.fn) := rfl
theorem p39_25 : t39.pl "isinstance" = .gl (.blt (.val (.builtin "isinstance"))) := rfl
theorem p39_26 : t39.pl "bool" = .gl (.cst (.val (.type "bool"))) := rfl
theorem q39 : t39.hq = false := rfl
noncomputable def t39c0 : Tb := tb [(".0", .local), ("_law_k", .local), ("_law_at", .globalImplicit), ("_law_script", .free), ("_law_tops_here", .free)] ["_law_handed", "_law_kept"]
theorem p39c0_1 : t39c0.pl "_law_k" = .loc 1 true false := rfl
theorem p39c0_2 : t39c0.pl "_law_at" = .gl (.fn) := rfl
theorem p39c0_3 : t39c0.pl "_law_script" = .loc 3 false false := rfl
theorem p39c0_4 : t39c0.pl "_law_tops_here" = .loc 4 false false := rfl
noncomputable def t39c1 : Tb := tb [(".0", .local), ("_law_k", .local), ("_law_filling", .free), ("_law_tops_here", .free)] ["_law_handed", "_law_kept"]
theorem p39c1_1 : t39c1.pl "_law_k" = .loc 1 true false := rfl
theorem p39c1_2 : t39c1.pl "_law_filling" = .loc 2 false false := rfl
theorem p39c1_3 : t39c1.pl "_law_tops_here" = .loc 3 false false := rfl
noncomputable def t39c2 : Tb := tb [(".0", .local), ("_law_held", .local)] ["_law_handed", "_law_kept"]
theorem p39c2_1 : t39c2.pl "_law_held" = .loc 1 true false := rfl
noncomputable def t39c3 : Tb := tb [(".0", .local), ("_law_pair", .local)] ["_law_handed", "_law_kept"]
theorem p39c3_1 : t39c3.pl "_law_pair" = .loc 1 true false := rfl
theorem law_ok {Γ : Ctx} {CB C : Value} (hc : Γ.cl C) (hA : Has Γ "_law_at" SpAt) (hP : Has Γ "_law_program" SpProgram) (hB : Has Γ "_law_bad" SpBad) (hR : Has Γ "_law_refused" SpRefused) (hL : Has Γ "_law_places" (SpPlaces 3)) (hG : Has Γ "Program" (SpProg CB C)) (hW : Has Γ "is_within" (SpWithin C)) (hT : Has Γ "_law_right" (SpRight C)) : SpLaw (wFn Γ 60 t39 1 b39) := by
  intro sc st Q X hw hl hQ
  obtain ⟨A, hA, hA'⟩ := hA
  obtain ⟨P, hP, hP'⟩ := hP
  obtain ⟨B, hB, hB'⟩ := hB
  obtain ⟨R, hR, hR'⟩ := hR
  obtain ⟨L, hL, hL'⟩ := hL
  obtain ⟨G, hG, hG'⟩ := hG
  obtain ⟨W, hW, hW'⟩ := hW
  obtain ⟨I, hI, hI'⟩ := hT
  refine ⟨rfl, ?_⟩; show wSs Γ 60 t39 (b39.drop 0) [some (.list (dI sc)), none, none, none, none, none, none, none, none, none, none, none, none, none, none, none, none, none, none, none, none, none, none, none, none, none, none] st _ _
  refine ss_at rfl ?_; dsimp only [f_int, f_name, f_call, f_nil, f_cons, f_asgT, f_tn, wName, lk_0, ev_s, pl_a, ns_c, ns_n, s1, s2, t1, nf, ta, fo, cond_true, cond_false, p39_0, p39_14, q39]
  refine ⟨P, hP, hP' _ _ _ _ hw hl fun ts ds k ht hr => ?_⟩
  have htl : (dI ts).length ≤ lim := by rw [dI_len]; exact Nat.le_trans ht.le (by decide)
  have hts : ts.length ≤ 1000 := Nat.le_trans ht.le (by decide)
  dsimp only [se_s, se_0, f_tgT, f_tg0, f_tg1, setN, p39_1, p39_2]
  refine ss_at rfl ?_; dsimp only [f_int, f_name, f_call, f_nil, f_cons, f_asgN, f_tn, wName, lk_0, se_s, se_0, ev_s, pl_a, ns_c, ns_n, s1, s2, nf, ta, cond_true, cond_false, p39_0, p39_3, p39_15, q39]
  refine ⟨A, hA, hA' _ _ _ _ _ hl ?_⟩
  generalize atV sc 50 = c
  refine ss_at rfl ?_; dsimp only [f_int, f_name, f_bin, f_c1, f_tc, f_if, f_ssn, f_tn, wName, lk_s, lk_0, ev_s, x_mod, q_eq, p39_3]
  refine ⟨by decide, ite_b (fun _ => ?_) fun _ => ?_⟩
  · refine su ?_; dsimp only [f_int, f_name, f_bin, f_call, f_nil, f_cons, f_asgN, f_tn, wName, lk_s, lk_0, se_s, se_0, ev_s, pl_a, ns_c, ns_n, s1, s4, nf, ta, cond_true, cond_false, x_div, p39_1, p39_2, p39_3, p39_4, p39_16, q39]
    refine ⟨by decide, by decide, B, hB, hB' _ _ _ _ _ _ _ hw ht hr fun t r g1 g2 g3 => ?_⟩
    refine su ?_; dsimp only [f_int, f_name, f_call, f_nil, f_cons, f_ret, f_itemC, f_tr, wName, lk_s, lk_0, ev_s, pl_a, ns_c, ns_n, s6, nf, ta, cond_true, cond_false, p39_4, p39_17, q39]
    refine it_nn (k := 0) rfl rfl l_2 rfl ?_
    refine it_nn (k := 1) rfl rfl l_2 rfl ⟨R, hR, hR' _ _ _ _ _ hw g2 ?_ (fin_k hQ)⟩
    cases e : isLi t with
    | false => exact .inr ⟨g1, rfl⟩
    | true => cases t with
      | list xs => exact .inl ⟨xs, rfl, (pln_list.mp g1).1, (pln_list.mp g1).2, g3 xs rfl⟩
      | _ => exact ft e
  refine ss_at rfl ?_; dsimp only [f_int, f_name, f_bin, f_c1, f_tc, f_if, f_ssn, f_tn, wName, lk_s, lk_0, ev_s, x_div, x_mod, q_eq, p39_3]
  refine (fun hrest : ∀ (ds : List D) (k : Nat) (o : Option D), (D.tup ds).pln = true → listB (rowD ts.length 3) (.tup ds) = some k → k ≤ 12 → wSs Γ _ t39 (List.drop _ b39) [some (.list (dI sc)), some (.list (dI ts)), some (.tup ds), some (.int c), none, o, none, none, none, none, none, none, none, none, none, none, none, none, none, none, none, none, none, none, none, none, none] st (finE st Q) (fun C st' => X C (st'.cut st.hi)) =>
    ⟨by decide, by decide, by decide, ite_b (fun _ => ?br) fun _ => hrest ds k none (pl_t (Nat.le_trans hr.len (by decide)) hr.pln) (listB_of (Nat.le_trans hr.len (by decide)) hr.sum) (Nat.le_trans hr.le (by decide))⟩) ?rest
  case br =>
    have hz : (D.tup (List.replicate ts.length (.int 0))).pln = true := pl_t (by rw [List.length_replicate]; exact hts) fun x hx => by rw [(List.mem_replicate.mp hx).2]; rfl
    have hdp : (D.tup ds).pln = true := pl_t (Nat.le_trans hr.len (by decide)) hr.pln
    have hpl : (inn 3 (.tup ds) []).length = k := inn_len (listB_of (Nat.le_trans hr.len (by decide)) hr.sum)
    have hk9 := hr.le
    have hge := sumO_ge hr.sum
    refine su ?_; dsimp only [f_int, f_str, f_name, f_bin, f_call, f_tup, f_nil, f_cons, f_asgN, f_tn, wName, lk_s, lk_0, se_s, se_0, ev_s, pl_a, ns_n, s1, nf, ta, cond_true, cond_false, p39_1, p39_5, p39_18, q39]
    refine ⟨l_1, b_len rfl htl ?_⟩
    rw [dI_len]
    refine mul_t hts ?_
    refine ⟨l_2, l_2, ?_⟩
    have hsum : sumD ts.length (.tup [.tup (List.replicate ts.length (.int 0)), .int 0]) = true := sum_of List.length_replicate (fun x hx => by rw [(List.mem_replicate.mp hx).2]; rfl) (by decide) (by decide)
    have hsay : (D.tup [.str "say", .tup [.tup (List.replicate ts.length (.int 0)), .int 0]]).pln = true := pl_t (Nat.le_of_ble_eq_true rfl) (pl_cons sp_say (pl_cons (sum_pln hts hsum) pl_nil))
    have hs1 : rowD ts.length 3 (.tup [.str "say", .tup [.tup (List.replicate ts.length (.int 0)), .int 0]]) = some 1 := by rw [rowD_eq]; exact rB_say hsum
    generalize D.tup [.str "say", .tup [.tup (List.replicate ts.length (.int 0)), .int 0]] = say at hsay hs1 ⊢
    refine su ?_; dsimp only [f_int, f_name, f_bin, f_call, f_tup, f_nil, f_cons, f_asgN, f_tn, wName, lk_s, lk_0, se_s, se_0, ev_s, pl_a, ns_c, ns_n, s1, s3, s7, nf, ta, cond_true, cond_false, p39_2, p39_5, p39_18, p39_19, q39]
    refine ⟨l_1, by decide, L, hL, hL' ts.length (.tup ds) [] _ _ _ hdp hw (rows_good hr) (by decide) (b_len rfl (by rw [List.length_map, hpl]; exact Nat.le_trans hk9 (by decide)) ?_)⟩
    dsimp only [x_sub]
    rw [List.length_map, hpl, show (12 : Int) - (k : Int) = ((12 - k : Nat) : Int) from (Int.ofNat_sub (Nat.le_trans hk9 (by decide))).symm]
    refine mul_t (Nat.le_trans (Nat.sub_le _ _) (by decide)) (add_t (by rw [List.length_replicate]; exact Nat.le_trans (Nat.add_le_add hr.len (Nat.sub_le _ _)) (by decide)) ?_)
    have hlen : (ds ++ List.replicate (12 - k) say).length ≤ 12 := by rw [List.length_append, List.length_replicate]; exact Nat.le_trans (Nat.add_le_add_right hge _) (Nat.le_of_eq (Nat.add_sub_cancel' (Nat.le_trans hk9 (by decide))))
    have hsum2 : sumO (rowD ts.length 3) (ds ++ List.replicate (12 - k) say) = some 12 := by
      have := sumO_app hr.sum (sumO_rep (n := 12 - k) hs1)
      rw [Nat.add_sub_cancel' (Nat.le_trans hk9 (by decide))] at this
      exact this
    have hpp : ∀ x ∈ ds ++ List.replicate (12 - k) say, x.pln = true := pl_app hr.pln fun x hx => by rw [(List.mem_replicate.mp hx).2]; exact hsay
    generalize ds ++ List.replicate (12 - k) say = ds2 at hlen hsum2 hpp ⊢
    refine su ?_; dsimp only [f_name, f_bin, f_call, f_tup, f_nil, f_cons, f_not, f_tcall, f_if, f_ssn, f_tn, wName, lk_s, lk_0, ev_s, pl_a, ns_c, ns_n, s1, s3, s4, nf, ta, cond_true, cond_false, p39_1, p39_2, p39_5, p39_17, p39_20, q39]
    refine b_list rfl ⟨htl, l_1, ?_⟩
    refine add_t (Nat.le_trans (Nat.add_le_add_right hlen 1) (by decide)) ⟨R, hR, hR' _ _ _ _ _ hw (pl_t (by rw [List.length_append]; exact Nat.le_trans (Nat.add_le_add_right hlen 1) (by decide)) (pl_app hpp (pl_cons hsay pl_nil))) (.inl ⟨dI ts, rfl, htl, dI_pln, okP_no fun n hn => ?_⟩) (tr_of (ite_n (fun z => tf z) fun _ => ?_))⟩
    · rw [dI_len] at hn
      obtain ⟨ds3, e3, _, h3⟩ := listB_inv hn
      cases e3
      have h4 := sumO_app hsum2 (sumO_1 hs1)
      rw [h3] at h4
      rw [Option.some.inj h4]; decide
    · skip
      exact hrest ds2 12 _ (pl_t (Nat.le_trans hlen (by decide)) hpp) (listB_of hlen hsum2) (Nat.le_refl _)
  case rest =>
  clear hr
  intro ds k o hp hk hk12
  refine ss_at rfl ?_; dsimp only [f_name, f_call, f_nil, f_cons, f_asgN, f_tn, wName, lk_s, lk_0, se_s, se_0, ev_s, pl_a, ns_n, s1, nf, ta, cond_true, cond_false, p39_1, p39_6, p39_20, q39]
  refine b_list rfl ⟨htl, ?_⟩
  dsimp only [cond_true]
  have h1 := acc_0 hw (dI_pln (ts := ts))
  refine ss_at rfl ?_; dsimp only [f_name, f_call, f_nil, f_cons, f_asgN, f_tn, wName, lk_s, lk_0, se_s, se_0, ev_s, pl_a, ns_c, ns_n, s1, nf, ta, cond_true, cond_false, p39_2, p39_6, p39_7, p39_21, q39]
  refine ⟨G, hG, hG' _ _ _ _ _ h1.ext.wf hp (.inl ⟨dI ts, lst_loc h1.cs, htl, dI_pln, ?_⟩)⟩
  rw [okP_yes ht hk hk12]
  refine ite_t ?_
  have h2 : Ext (st.alloc (.list (dI ts))) ((st.alloc (.list (dI ts))).alloc (prog (dI ts) (.tup ds))) := ext_alloc h1.ext.wf fun d hd => by
    cases hd with
    | head => exact undrAll_pln _ (plnAll_iff.mpr dI_pln)
    | tail _ hd => cases hd with
      | head => exact pln_undr _ hp
      | tail _ hd => exact nomatch hd
  have e2 : ((st.alloc (.list (dI ts))).alloc (prog (dI ts) (.tup ds))).cs st.hi = some (.list (dI ts)) := (h2.cs _ (Nat.lt_succ_self _)).trans h1.cs
  refine ss_at rfl ?_; dsimp only [f_name, f_c1, f_tc, f_if, f_ssn, f_tn, wName, lk_s, lk_0, ev_s, p39_1, p39_6]
  refine ne_cl (n := 0) (pys_ok fun d hd => ?_) (by decide) e2 (ite_f ?_)
  · obtain ⟨i, _, rfl⟩ := List.mem_map.mp hd; exact py_int
  refine ss_at rfl ?_; dsimp only [f_none, f_name, f_meth, f_nil, f_cons, f_expr, f_tn, wName, lk_s, lk_0, ev_s, ns_c, ns_n, s2, c1, n1, nf, ta, cond_true, p39_6, q39]
  refine bif_t rfl (meth_app e2 ?_)
  dsimp only []
  refine meth_do e2 (by rw [dI_len]; exact hts) ?_
  have h3 : Ext st (((st.alloc (.list (dI ts))).alloc (prog (dI ts) (.tup ds))).put st.hi (.list (dI ts ++ [.none]))) := ext_put (h1.ext.trans h2) (Nat.le_refl _) (Nat.lt_of_lt_of_le (Nat.lt_succ_self _) h2.hi) (pln_vals (pl_app dI_pln (pl_cons rfl pl_nil)))
  refine ss_at rfl ?_; dsimp only [f_list, f_nil, f_asgN, f_tn, se_s, se_0, mk_t, p39_8]
  refine ⟨by decide, ?_⟩
  have h4 : Lp st ((((st.alloc (.list (dI ts))).alloc (prog (dI ts) (.tup ds))).put st.hi (.list (dI ts ++ [.none]))).alloc (.list [])) (st.hi + 1) (st.hi + 1 + 1) ts ds [] := by
    have h5 := ext_alloc h3.wf (c := .list []) fun _ z => nomatch z
    refine ⟨h3.trans h5, ?_, al_hi, (fun _ z => nomatch z), Nat.le_of_lt (Nat.lt_trans (Nat.lt_succ_self _) (Nat.lt_succ_self _))⟩
    refine (h5.cs _ (Nat.lt_succ_self _)).trans ((if_neg (Nat.succ_ne_self _)).trans al_hi)
  have hn : st.hi + 1 ≠ st.hi + 1 + 1 := Nat.ne_of_lt (Nat.lt_succ_self _)
  show wSs Γ _ t39 _ [some (.list (dI sc)), some (.list (dI ts)), some (.tup ds), some (.int c), none, o, some (.loc st.hi), some (.inst C (st.hi + 1)), some (.loc (st.hi + 1 + 1)), none, none, none, none, none, none, none, none, none, none, none, none, none, none, none, none, none, none] _ _ _
  generalize (((st.alloc (.list (dI ts))).alloc (prog (dI ts) (.tup ds))).put st.hi (.list (dI ts ++ [.none]))).alloc (.list []) = st4 at h4 ⊢
  generalize st.hi + 1 + 1 = kp at h4 hn ⊢
  generalize st.hi + 1 = n at h4 hn ⊢
  clear h1 h2 h3 e2
  refine ss_at rfl ?_; dsimp only [f_asgN, f_tn, se_s, se_0, p39_9]
  refine comp0 t39c0 [none, none, none, some (.list (dI sc)), some (.list (dI ts))] rfl rfl rfl ?_
  dsimp only [f_int, f_name, f_bin, f_call, f_nil, f_cons, f_itemN, f_icl, wName, lk_s, lk_0, se_s, se_0, ev_s, pl_a, ns_c, ns_n, s1, s3, s4, nf, ta, cond_true, cond_false, mk_f, f_tgN, setN, p39_1, p39_18, p39_22, q39, p39c0_1, p39c0_2, p39c0_3, p39c0_4]
  refine b_len rfl htl ?_
  rw [dI_len]
  refine i_range' hts ?_
  dsimp only [hide_no, back_no]
  refine comp_all (fun x => ∃ i : Int, x = .int i) (fun d hd kk hkk => ?_) fun acc ha hacc => ?_
  · obtain ⟨j, rfl, hj⟩ := dN_mem hd
    dsimp only [x_add]
    refine ⟨A, hA, hA' _ _ _ _ _ hl (it_p (P := fun t => 0 ≤ t ∧ t ≤ 9) hj hts ht.all fun t ht' => ?_)⟩
    dsimp only [x_add, x_sub, x_mod]
    exact ⟨Int.lt_of_lt_of_le (by decide) (Int.add_le_add_right ht'.1 3), hkk _ ⟨_, rfl⟩⟩
  obtain ⟨fs, rfl⟩ := ints_of hacc
  rw [dI_len, dN_len] at ha
  clear hacc
  refine ⟨by rw [dI_len, ha]; exact Nat.le_trans hts (by decide), ?_⟩
  refine ss_at rfl ?_; dsimp only [f_int, f_call, f_nil, f_cons, f_for, f_icl, pl_a, ns_n, s2, nf, ta, cond_true, cond_false, f_tgN, setN, p39_10, p39_22, q39]
  refine i_range' (n := 2) (by decide) ?_
  dsimp only [hide_no, back_no]
  refine (fun z : ∀ (cn i : Nat) (fs : List Int) (ps : List Kpt) (st5 : St) (o1 o2 o3 o4 : Option D), fs.length = ts.length → ps.length + cn = 2 → Lp st st5 n kp ts ds ps → wFor _ (dN (List.range' i cn)) [some (.list (dI sc)), some (.list (dI ts)), some (.tup ds), some (.int c), none, o, some (.loc st.hi), some (.inst C n), some (.loc kp), some (.list (dI fs)), o1, o2, o3, o4, none, none, none, none, none, none, none, none, none, none, none, none, none] st5 _ => z 2 0 fs [] st4 none none none none ha rfl h4) ?_
  clear h4 ha
  intro cn
  induction cn with
  | zero =>
    intro i fs ps st5 o1 o2 o3 o4 hf hps h5
    show wFor _ [] _ _ _
    dsimp only [f_tn, wf_n]
    refine ss_at rfl ?_; dsimp only [f_cmp, f_list, f_nil, f_c1, f_ret, f_tr, mk_f]
    refine comp1 t39c3 [none, none] rfl rfl rfl ?_
    dsimp only [f_int, f_name, f_c1, f_tc, f_itemC, f_inm, wName, lk_s, lk_0, se_s, se_0, ev_s, mk_f, f_tgN, setN, p39_8, p39c3_1]
    refine wi_loc h5.kc ⟨by rw [List.length_map]; exact Nat.le_trans (Nat.le_trans (Nat.le_of_eq hps) (by decide) : ps.length ≤ 1000) (by decide), ?_⟩
    refine comp_filter (g := fun _ => .none) (fun _ => false) (fun x hx kk hkk => ?_) ?_
    · have hx := h5.all x hx
      rw [show pK x = .tup [.loc x.1, .list x.2] from rfl]
      refine it_0 ?_
      refine it_1 (ne_cl hx.2.1 (by decide) ?_ (ite_f hkk))
      show (if (x.1 == kp) = true then none else st5.cs x.1) = _
      rw [if_neg (by rw [beq_false_of_ne hx.2.2]; decide)]; exact hx.1
    · rw [show ps.filter (fun _ => false) = [] from List.filter_eq_nil_iff.mpr fun _ _ => by decide, List.map_nil]
      rw [hb]
      refine ⟨by decide, by decide, eq_nil (n := 0) ⟨[], rfl, Nat.zero_le _, rfl⟩ (fin_p hw h5.ext rfl hQ)⟩
  | succ cn ih =>
    intro i fs ps st5 o1 o2 o3 o4 hf hps h5
    have hfl : fs.length ≤ 1000 := by rw [hf]; exact hts
    show wFor _ (.int (i : Nat) :: dN (List.range' (i + 1) cn)) _ _ _
    dsimp only [se_s, se_0, wf_c]
    refine su ?_; dsimp only [f_asgN, f_tn, se_s, se_0, p39_11]
    refine comp1 t39c1 [none, none, some (.list (dI fs)), some (.list (dI ts))] rfl rfl rfl ?_
    dsimp only [f_int, f_name, f_call, f_nil, f_cons, f_c1, f_c2, f_not, f_tc, f_itemN, f_icl, wName, lk_s, lk_0, se_s, se_0, ev_s, pl_a, ns_n, s1, s3, nf, ta, cond_true, cond_false, mk_f, f_tgN, setN, p39_1, p39_18, p39_22, q39, p39c1_1, p39c1_2, p39c1_3]
    refine b_len rfl htl ?_
    rw [dI_len]
    refine i_range' hts ?_
    dsimp only [hide_no, back_no]
    refine comp_filter (g := fun k : Nat => D.int (k : Int)) (offK fs ts) (fun x hx kk hkk => ?_) ?_
    · have hx : x < ts.length := by have := (List.mem_range'_1.mp hx).2; rw [Nat.zero_add] at this; exact this
      unfold offK at hkk
      refine it_i (by rw [hf]; exact hx) hfl ?_
      dsimp only [q_le]
      refine ite_b (fun e => it_i hx hts ?_) fun e => ?_
      · rw [e] at hkk
        dsimp only [q_le]
        exact hkk
      · rw [e] at hkk
        exact hkk
    have hoff := off_nil hf
    have hwl : (List.map (fun k : Nat => D.int (k : Int)) (List.filter (offK fs ts) (List.range' 0 ts.length))).length ≤ lim := by
      rw [List.length_map]; exact Nat.le_trans (List.length_filter_le _ _) (by rw [List.length_range']; exact Nat.le_trans hts (by decide))
    have hpy : PysOk 0 (List.map (fun k : Nat => D.int (k : Int)) (List.filter (offK fs ts) (List.range' 0 ts.length))) := pys_ok fun d hd => by
      obtain ⟨i, _, rfl⟩ := List.mem_map.mp hd; exact py_int
    generalize List.map (fun k : Nat => D.int (k : Int)) (List.filter (offK fs ts) (List.range' 0 ts.length)) = ws at hoff hwl hpy ⊢
    refine ⟨hwl, ?_⟩
    refine su ?_; dsimp only [f_name, f_cmp, f_list, f_nil, f_c1, f_asgN, f_tn, wName, lk_s, lk_0, se_s, se_0, ev_s, mk_f, p39_11, p39_12]
    refine ⟨by decide, eq_nil hpy ?_⟩
    rw [hoff]
    clear hoff hwl hpy
    refine su ?_; dsimp only [f_name, f_call, f_nil, f_cons, f_asgN, f_tn, wName, lk_s, lk_0, se_s, se_0, ev_s, pl_a, ns_c, ns_n, s1, nf, ta, cond_true, cond_false, p39_7, p39_9, p39_13, p39_23, q39]
    refine ⟨W, hW, hW' _ _ _ _ _ _ _ h5.pr (Nat.le_trans hts (by decide)) (Nat.le_trans hfl (by decide)) ?_⟩
    refine su ?_; dsimp only [f_name, f_call, f_nil, f_cons, f_not, f_tcall, f_if, f_ssn, f_tn, wName, lk_s, lk_0, ev_s, pl_a, ns_c, ns_n, s1, nf, ta, cond_true, cond_false, p39_1, p39_2, p39_7, p39_8, p39_24, q39]
    refine ⟨I, hI, hI' n kp k ts ds (ps.map pK) st5 _ _ h5.ext.wf h5.pr h5.kc (by rw [List.length_map]; exact Nat.le_trans (Nat.le_add_right _ _) (Nat.le_trans (Nat.le_of_eq hps) (by decide))) hn ht hp hk hk12 fun nq LL st6 r1 r2 r3 r4 r5 r6 r7 r8 => tr_of (ite_n (fun z => tf z) fun _ => ?_)⟩
    refine su ?_; dsimp only [f_name, f_call, f_nil, f_cons, f_c1, f_not, f_tb, f_tc, f_tcall, f_an, f_ac, f_if, f_ssn, f_tn, wName, lk_s, lk_0, ev_s, pl_a, ns_c, ns_n, s1, nf, ta, cond_true, cond_false, p39_12, p39_13, p39_25, p39_26, q39]
    refine b_isi (ty_bool rfl) (tr_of (or_tn (fun z => tf z) fun _ => ?_))
    refine ne_bool rfl (or_l (fun z => ft z) fun _ => ?_)
    refine su ?_; dsimp only [f_asgN, f_ssn, f_tn, se_s, se_0, nf_n, p39_9]
    refine comp0 t39c2 [none, none] rfl rfl rfl ?_
    dsimp only [f_int, f_name, f_bin, f_inm, wName, lk_s, lk_0, se_s, se_0, ev_s, mk_f, f_tgN, setN, p39_9, p39c2_1]
    refine wi_lst ⟨by rw [dI_len]; exact Nat.le_trans hfl (by decide), ?_⟩
    dsimp only [hide_no, back_no]
    refine comp_all (fun x => ∃ i : Int, x = .int i) (fun d hd kk hkk => ?_) fun acc ha hacc => ?_
    · obtain ⟨j, _, rfl⟩ := List.mem_map.mp hd
      dsimp only [x_div]
      exact ⟨by decide, by decide, hkk _ ⟨_, rfl⟩⟩
    obtain ⟨gs, rfl⟩ := ints_of hacc
    rw [dI_len, dI_len] at ha
    refine ⟨by rw [dI_len, ha]; exact Nat.le_trans hfl (by decide), ?_⟩
    refine ih _ gs (ps ++ [(nq, LL)]) st6 _ _ _ _ (ha.trans hf) (by rw [List.length_append, Nat.add_assoc, Nat.add_comm _ cn]; exact hps) ?_
    have hkl := (h5.ext.wf _ _ h5.kc).1
    refine ⟨⟨Nat.le_trans h5.ext.hi r4, fun i hi => ?_, r3⟩, ?_, ?_, fun p hp => ?_, h5.lo⟩
    · rw [r5 i (Nat.lt_of_lt_of_le hi h5.ext.hi) (Nat.ne_of_lt (Nat.lt_of_lt_of_le hi h5.lo))]; exact h5.ext.cs i hi
    · rw [r5 n (h5.ext.wf _ _ h5.pr).1 hn]; exact h5.pr
    · rw [r6, List.map_append]; rfl
    · cases List.mem_append.mp hp with
      | inl h =>
        have h6 := h5.all p h
        refine ⟨?_, h6.2.1, h6.2.2⟩
        rw [r5 p.1 (h5.ext.wf _ _ h6.1).1 h6.2.2]; exact h6.1
      | inr h => cases h with
        | head => exact ⟨r7, r8, Nat.ne_of_gt (Nat.lt_of_lt_of_le hkl r1)⟩
        | tail _ h => exact nomatch h
end Mine
end

section
set_option autoImplicit false
set_option linter.unusedVariables false
set_option maxRecDepth 100000
namespace Mine
open PySem
noncomputable def fnL (Γ : Ctx) : List (Str × FSpec) := [(Str.ofString "is_among", wFn Γ 60 t11 3 b11), (Str.ofString "is_sum", wFn Γ 60 t12 2 b12), (Str.ofString "are_words", wFn Γ 60 t13 2 b13), (Str.ofString "need", wFn Γ 60 t14 1 b14), (Str.ofString "counted_row", wFn Γ 60 t15 3 b15), (Str.ofString "counted_rows", wFn Γ 60 t16 3 b16), (Str.ofString "need_tops", wFn Γ 60 t17 1 b17), (Str.ofString "loops_in", wFn Γ 60 t18 2 b18), (Str.ofString "rows_of", wFn Γ 60 t20 2 b20), (Str.ofString "is_within", wFn Γ 60 t21 2 b21), (Str.ofString "_law_at", wFn Γ 60 t23 2 b23), (Str.ofString "_law_tops", wFn Γ 60 t25 1 b25), (Str.ofString "_law_unit", wFn Γ 60 t26 4 b26), (Str.ofString "_law_word", wFn Γ 60 t27 2 b27), (Str.ofString "_law_into", wFn Γ 60 t28 3 b28), (Str.ofString "_law_row", wFn Γ 60 t29 2 b29), (Str.ofString "_law_rows", wFn Γ 60 t30 3 b30), (Str.ofString "_law_program", wFn Γ 60 t31 2 b31), (Str.ofString "_law_places", wFn Γ 60 t32 2 b32), (Str.ofString "_law_changed", wFn Γ 60 t33 3 b33), (Str.ofString "_law_bad_sum", wFn Γ 60 t34 2 b34), (Str.ofString "_law_bad_row", wFn Γ 60 t35 3 b35), (Str.ofString "_law_bad", wFn Γ 60 t36 3 b36), (Str.ofString "_law_refused", wFn Γ 60 t37 2 b37), (Str.ofString "_law_right", wFn Γ 60 t38 4 b38)]
noncomputable def meL (Γ : Ctx) : List (Str × FSpec) := [(Str.ofString "row", wFn Γ 60 t19_1 2 b19_1), (Str.ofString "loops", wFn Γ 60 t19_2 1 b19_2)]
/-- the addresses of the classes -/
structure Ads where
  B : Addr
  L : Addr
  F : Addr
  N : Addr
  C : Addr
noncomputable def glL (c : Ads) : List (Str × D) := [(Str.ofString "BadProgram", .val (.ref c.B)), (Str.ofString "LoopError", .val (.ref c.L)), (Str.ofString "BadFilling", .val (.ref c.F)), (Str.ofString "NoLoop", .val (.ref c.N))]
noncomputable def Γ0 (c : Ads) (fn : Str → Option FSpec) (me : Str → Option FSpec) : Ctx := ⟨fn, fun x => (glL c).lookup x, fun V => V == .ref c.B, sub02 c.B c.L c.F c.N, fun V => V = .ref c.C, fun _ => me⟩
noncomputable def fnS (c : Ads) (Γ : Ctx) (x : Str) : Option FSpec := if x = "Program" then some (wMake (.ref c.C) (wFn Γ 60 t19_0 3 b19_0)) else (fnL Γ).lookup x
noncomputable def Γk (c : Ads) : Nat → Ctx
  | 0 => Γ0 c (fun _ => none) fun _ => none
  | k + 1 => Γ0 c (fnS c (Γk c k)) fun x => (meL (Γk c k)).lookup x
section
variable {c : Ads}
theorem k11 (k : Nat) : (Γk c (k + 1)).fn "is_among" = some (wFn (Γk c k) 60 t11 3 b11) := by kernel_rfl
theorem k12 (k : Nat) : (Γk c (k + 1)).fn "is_sum" = some (wFn (Γk c k) 60 t12 2 b12) := by kernel_rfl
theorem k13 (k : Nat) : (Γk c (k + 1)).fn "are_words" = some (wFn (Γk c k) 60 t13 2 b13) := by kernel_rfl
theorem k14 (k : Nat) : (Γk c (k + 1)).fn "need" = some (wFn (Γk c k) 60 t14 1 b14) := by kernel_rfl
theorem k15 (k : Nat) : (Γk c (k + 1)).fn "counted_row" = some (wFn (Γk c k) 60 t15 3 b15) := by kernel_rfl
theorem k16 (k : Nat) : (Γk c (k + 1)).fn "counted_rows" = some (wFn (Γk c k) 60 t16 3 b16) := by kernel_rfl
theorem k17 (k : Nat) : (Γk c (k + 1)).fn "need_tops" = some (wFn (Γk c k) 60 t17 1 b17) := by kernel_rfl
theorem k18 (k : Nat) : (Γk c (k + 1)).fn "loops_in" = some (wFn (Γk c k) 60 t18 2 b18) := by kernel_rfl
theorem k20 (k : Nat) : (Γk c (k + 1)).fn "rows_of" = some (wFn (Γk c k) 60 t20 2 b20) := by kernel_rfl
theorem k21 (k : Nat) : (Γk c (k + 1)).fn "is_within" = some (wFn (Γk c k) 60 t21 2 b21) := by kernel_rfl
theorem k23 (k : Nat) : (Γk c (k + 1)).fn "_law_at" = some (wFn (Γk c k) 60 t23 2 b23) := by kernel_rfl
theorem k25 (k : Nat) : (Γk c (k + 1)).fn "_law_tops" = some (wFn (Γk c k) 60 t25 1 b25) := by kernel_rfl
theorem k26 (k : Nat) : (Γk c (k + 1)).fn "_law_unit" = some (wFn (Γk c k) 60 t26 4 b26) := by kernel_rfl
theorem k27 (k : Nat) : (Γk c (k + 1)).fn "_law_word" = some (wFn (Γk c k) 60 t27 2 b27) := by kernel_rfl
theorem k28 (k : Nat) : (Γk c (k + 1)).fn "_law_into" = some (wFn (Γk c k) 60 t28 3 b28) := by kernel_rfl
theorem k29 (k : Nat) : (Γk c (k + 1)).fn "_law_row" = some (wFn (Γk c k) 60 t29 2 b29) := by kernel_rfl
theorem k30 (k : Nat) : (Γk c (k + 1)).fn "_law_rows" = some (wFn (Γk c k) 60 t30 3 b30) := by kernel_rfl
theorem k31 (k : Nat) : (Γk c (k + 1)).fn "_law_program" = some (wFn (Γk c k) 60 t31 2 b31) := by kernel_rfl
theorem k32 (k : Nat) : (Γk c (k + 1)).fn "_law_places" = some (wFn (Γk c k) 60 t32 2 b32) := by kernel_rfl
theorem k33 (k : Nat) : (Γk c (k + 1)).fn "_law_changed" = some (wFn (Γk c k) 60 t33 3 b33) := by kernel_rfl
theorem k34 (k : Nat) : (Γk c (k + 1)).fn "_law_bad_sum" = some (wFn (Γk c k) 60 t34 2 b34) := by kernel_rfl
theorem k35 (k : Nat) : (Γk c (k + 1)).fn "_law_bad_row" = some (wFn (Γk c k) 60 t35 3 b35) := by kernel_rfl
theorem k36 (k : Nat) : (Γk c (k + 1)).fn "_law_bad" = some (wFn (Γk c k) 60 t36 3 b36) := by kernel_rfl
theorem k37 (k : Nat) : (Γk c (k + 1)).fn "_law_refused" = some (wFn (Γk c k) 60 t37 2 b37) := by kernel_rfl
theorem k38 (k : Nat) : (Γk c (k + 1)).fn "_law_right" = some (wFn (Γk c k) 60 t38 4 b38) := by kernel_rfl
theorem kP (k : Nat) : (Γk c (k + 1)).fn "Program" = some (wMake (.ref c.C) (wFn (Γk c k) 60 t19_0 3 b19_0)) := by kernel_rfl
theorem kR (k : Nat) (C : Value) : (Γk c (k + 1)).me C "row" = some (wFn (Γk c k) 60 t19_1 2 b19_1) := by kernel_rfl
theorem kL (k : Nat) (C : Value) : (Γk c (k + 1)).me C "loops" = some (wFn (Γk c k) 60 t19_2 1 b19_2) := by kernel_rfl
theorem kc (k : Nat) : (Γk c k).cl (.ref c.C) := by cases k <;> rfl
theorem kg (k : Nat) : (Γk c k).gl = fun x => (glL c).lookup x := by cases k <;> rfl
theorem ks (k : Nat) : (Γk c k).sub = sub02 c.B c.L c.F c.N := by cases k <;> rfl
theorem kx (k : Nat) : (Γk c k).ex = fun V => V == .ref c.B := by cases k <;> rfl
theorem kgB (k : Nat) : (Γk c k).gl "BadProgram" = some (.val (.ref c.B)) := by rw [kg]; exact List.lookup_cons_self
theorem kxB (k : Nat) : (Γk c k).ex (.ref c.B) = true := by rw [kx]; exact beq_self_eq_true _
theorem h_among (k : Nat) : Has (Γk c (k + 1)) "is_among" SpAmong := ⟨_, k11 k, among_ok⟩
theorem h_sum (k : Nat) : Has (Γk c (k + 2)) "is_sum" SpSum := ⟨_, k12 (k + 1), sum_ok (h_among k)⟩
theorem h_words (k : Nat) : Has (Γk c (k + 3)) "are_words" SpWords := ⟨_, k13 (k + 2), words_ok (h_sum k)⟩
theorem h_need (k : Nat) : Has (Γk c (k + 1)) "need" (SpNeed (.ref c.B)) := ⟨_, k14 k, need_ok (kgB k) (kxB k)⟩
theorem r0 (k : Nat) : Has (Γk c (k + 4)) "counted_row" (SpCount (.ref c.B) (fun m => rowD m 0) 3) := ⟨_, k15 (k + 3), row_ok (f := fun _ _ => none) (h_need (k + 2)) (h_among (k + 2)) (h_sum (k + 1)) (h_words k) (fun h => absurd h (by decide)) fun _ _ _ => rfl⟩
theorem rs0 (k : Nat) : Has (Γk c (k + 5)) "counted_rows" (SpCount (.ref c.B) (fun m => listB (rowD m 0)) 3) := ⟨_, k16 (k + 4), rows_ok (h_need (k + 3)) (r0 k)⟩
theorem r1 (k : Nat) : Has (Γk c (k + 6)) "counted_row" (SpCount (.ref c.B) (fun m => rowD m 1) 2) := ⟨_, k15 (k + 5), row_ok (f := fun m => listB (rowD m 0)) (h_need (k + 4)) (h_among (k + 4)) (h_sum (k + 3)) (h_words (k + 2)) (fun _ => rs0 k) fun h => absurd (by decide) h⟩
theorem rs1 (k : Nat) : Has (Γk c (k + 7)) "counted_rows" (SpCount (.ref c.B) (fun m => listB (rowD m 1)) 2) := ⟨_, k16 (k + 6), rows_ok (h_need (k + 5)) (r1 k)⟩
theorem r2 (k : Nat) : Has (Γk c (k + 8)) "counted_row" (SpCount (.ref c.B) (fun m => rowD m 2) 1) := ⟨_, k15 (k + 7), row_ok (f := fun m => listB (rowD m 1)) (h_need (k + 6)) (h_among (k + 6)) (h_sum (k + 5)) (h_words (k + 4)) (fun _ => rs1 k) fun h => absurd (by decide) h⟩
theorem rs2 (k : Nat) : Has (Γk c (k + 9)) "counted_rows" (SpCount (.ref c.B) (fun m => listB (rowD m 2)) 1) := ⟨_, k16 (k + 8), rows_ok (h_need (k + 7)) (r2 k)⟩
theorem r3 (k : Nat) : Has (Γk c (k + 10)) "counted_row" (SpCount (.ref c.B) (fun m => rowD m 3) 0) := ⟨_, k15 (k + 9), row_ok (f := fun m => listB (rowD m 2)) (h_need (k + 8)) (h_among (k + 8)) (h_sum (k + 7)) (h_words (k + 6)) (fun _ => rs2 k) fun h => absurd (by decide) h⟩
theorem rs3 (k : Nat) : Has (Γk c (k + 11)) "counted_rows" (SpCount (.ref c.B) (fun m => listB (rowD m 3)) 0) := ⟨_, k16 (k + 10), rows_ok (h_need (k + 9)) (r3 k)⟩
theorem h_tops (k : Nat) : Has (Γk c (k + 2)) "need_tops" (SpTops (.ref c.B)) := ⟨_, k17 (k + 1), tops_ok (h_need k) (h_among k)⟩
theorem lo0 (k : Nat) : Has (Γk c (k + 1)) "loops_in" (SpLoops 0) := ⟨_, k18 k, loops_ok fun g h => nomatch h⟩
theorem lo1 (k : Nat) : Has (Γk c (k + 2)) "loops_in" (SpLoops 1) := ⟨_, k18 (k + 1), loops_ok fun g h => by cases h; exact lo0 k⟩
theorem lo2 (k : Nat) : Has (Γk c (k + 3)) "loops_in" (SpLoops 2) := ⟨_, k18 (k + 2), loops_ok fun g h => by cases h; exact lo1 k⟩
theorem lo3 (k : Nat) : Has (Γk c (k + 4)) "loops_in" (SpLoops 3) := ⟨_, k18 (k + 3), loops_ok fun g h => by cases h; exact lo2 k⟩
theorem pl0 (k : Nat) : Has (Γk c (k + 1)) "_law_places" (SpPlaces 0) := ⟨_, k32 k, places_ok fun g h => nomatch h⟩
theorem pl1 (k : Nat) : Has (Γk c (k + 2)) "_law_places" (SpPlaces 1) := ⟨_, k32 (k + 1), places_ok fun g h => by cases h; exact pl0 k⟩
theorem pl2 (k : Nat) : Has (Γk c (k + 3)) "_law_places" (SpPlaces 2) := ⟨_, k32 (k + 2), places_ok fun g h => by cases h; exact pl1 k⟩
theorem pl3 (k : Nat) : Has (Γk c (k + 4)) "_law_places" (SpPlaces 3) := ⟨_, k32 (k + 3), places_ok fun g h => by cases h; exact pl2 k⟩
theorem ch0 (k : Nat) : Has (Γk c (k + 1)) "_law_changed" (SpChanged 0) := ⟨_, k33 k, changed_ok (by decide) fun g h => nomatch h⟩
theorem ch1 (k : Nat) : Has (Γk c (k + 2)) "_law_changed" (SpChanged 1) := ⟨_, k33 (k + 1), changed_ok (by decide) fun g h => by cases h; exact ch0 k⟩
theorem ch2 (k : Nat) : Has (Γk c (k + 3)) "_law_changed" (SpChanged 2) := ⟨_, k33 (k + 2), changed_ok (by decide) fun g h => by cases h; exact ch1 k⟩
theorem ch3 (k : Nat) : Has (Γk c (k + 4)) "_law_changed" (SpChanged 3) := ⟨_, k33 (k + 3), changed_ok (by decide) fun g h => by cases h; exact ch2 k⟩
theorem ro0 (k : Nat) : Has (Γk c (k + 1)) "rows_of" (SpRowsOf (.ref c.C) 0) := ⟨_, k20 k, rowsof_ok (by decide) (kc k) fun g h => nomatch h⟩
theorem rm0 (k : Nat) : HasM (Γk c (k + 2)) (.ref c.C) "row" (SpRowM (.ref c.C) 0) := ⟨_, kR (k + 1) _, rowm_ok (by decide) (ro0 k)⟩
theorem ro1 (k : Nat) : Has (Γk c (k + 3)) "rows_of" (SpRowsOf (.ref c.C) 1) := ⟨_, k20 (k + 2), rowsof_ok (by decide) (kc _) fun g h => by cases h; exact rm0 k⟩
theorem rm1 (k : Nat) : HasM (Γk c (k + 4)) (.ref c.C) "row" (SpRowM (.ref c.C) 1) := ⟨_, kR (k + 3) _, rowm_ok (by decide) (ro1 k)⟩
theorem ro2 (k : Nat) : Has (Γk c (k + 5)) "rows_of" (SpRowsOf (.ref c.C) 2) := ⟨_, k20 (k + 4), rowsof_ok (by decide) (kc _) fun g h => by cases h; exact rm1 k⟩
theorem rm2 (k : Nat) : HasM (Γk c (k + 6)) (.ref c.C) "row" (SpRowM (.ref c.C) 2) := ⟨_, kR (k + 5) _, rowm_ok (by decide) (ro2 k)⟩
theorem ro3 (k : Nat) : Has (Γk c (k + 7)) "rows_of" (SpRowsOf (.ref c.C) 3) := ⟨_, k20 (k + 6), rowsof_ok (by decide) (kc _) fun g h => by cases h; exact rm2 k⟩
theorem rm3 (k : Nat) : HasM (Γk c (k + 8)) (.ref c.C) "row" (SpRowM (.ref c.C) 3) := ⟨_, kR (k + 7) _, rowm_ok (by decide) (ro3 k)⟩
theorem lm (k : Nat) : HasM (Γk c (k + 5)) (.ref c.C) "loops" (SpLoopsM (.ref c.C)) := ⟨_, kL (k + 4) _, loopsm_ok (kc _) (lo3 k)⟩
theorem h_prog (k : Nat) : Has (Γk c (k + 12)) "Program" (SpProg (.ref c.B) (.ref c.C)) := ⟨_, kP (k + 11), prog_of (init_ok (kc _) (h_need (k + 10)) (h_tops (k + 9)) (rs3 k))⟩
theorem h_within (k : Nat) : Has (Γk c (k + 1)) "is_within" (SpWithin (.ref c.C)) := ⟨_, k21 k, within_ok (kc k)⟩
theorem h_at (k : Nat) : Has (Γk c (k + 1)) "_law_at" SpAt := ⟨_, k23 k, at_ok⟩
theorem h_unit (k : Nat) : Has (Γk c (k + 1)) "_law_unit" SpUnit := ⟨_, k26 k, unit_ok⟩
theorem h_topsl (k : Nat) : Has (Γk c (k + 2)) "_law_tops" SpTopsL := ⟨_, k25 (k + 1), topsl_ok (h_at k)⟩
theorem h_word (k : Nat) : Has (Γk c (k + 2)) "_law_word" SpWord := ⟨_, k27 (k + 1), word_ok (h_unit k)⟩
theorem h_into (k : Nat) : Has (Γk c (k + 3)) "_law_into" SpInto := ⟨_, k28 (k + 2), into_ok (h_unit (k + 1)) (h_word k)⟩
theorem gr0 (k : Nat) : Has (Γk c (k + 4)) "_law_row" (SpGenRow 0) := ⟨_, k29 (k + 3), genrow_ok (h_at (k + 2)) (h_unit (k + 2)) (h_word (k + 1)) (h_into k) fun g h => nomatch h⟩
theorem gs0 (k : Nat) : Has (Γk c (k + 5)) "_law_rows" (SpGenRows 0) := ⟨_, k30 (k + 4), genrows_ok (gr0 k)⟩
theorem gr1 (k : Nat) : Has (Γk c (k + 6)) "_law_row" (SpGenRow 1) := ⟨_, k29 (k + 5), genrow_ok (h_at (k + 4)) (h_unit (k + 4)) (h_word (k + 3)) (h_into (k + 2)) fun g h => by cases h; exact gs0 k⟩
theorem gs1 (k : Nat) : Has (Γk c (k + 7)) "_law_rows" (SpGenRows 1) := ⟨_, k30 (k + 6), genrows_ok (gr1 k)⟩
theorem gr2 (k : Nat) : Has (Γk c (k + 8)) "_law_row" (SpGenRow 2) := ⟨_, k29 (k + 7), genrow_ok (h_at (k + 6)) (h_unit (k + 6)) (h_word (k + 5)) (h_into (k + 4)) fun g h => by cases h; exact gs1 k⟩
theorem gs2 (k : Nat) : Has (Γk c (k + 9)) "_law_rows" (SpGenRows 2) := ⟨_, k30 (k + 8), genrows_ok (gr2 k)⟩
theorem gr3 (k : Nat) : Has (Γk c (k + 10)) "_law_row" (SpGenRow 3) := ⟨_, k29 (k + 9), genrow_ok (h_at (k + 8)) (h_unit (k + 8)) (h_word (k + 7)) (h_into (k + 6)) fun g h => by cases h; exact gs2 k⟩
theorem gs3 (k : Nat) : Has (Γk c (k + 11)) "_law_rows" (SpGenRows 3) := ⟨_, k30 (k + 10), genrows_ok (gr3 k)⟩
theorem h_program (k : Nat) : Has (Γk c (k + 12)) "_law_program" SpProgram := ⟨_, k31 (k + 11), program_ok (h_at (k + 10)) (h_topsl (k + 9)) (gs3 k)⟩
theorem h_badsum (k : Nat) : Has (Γk c (k + 1)) "_law_bad_sum" SpBadSum := ⟨_, k34 k, badsum_ok⟩
theorem h_badrow (k : Nat) : Has (Γk c (k + 2)) "_law_bad_row" SpBadRow := ⟨_, k35 (k + 1), badrow_ok (h_badsum k)⟩
theorem h_bad (k : Nat) : Has (Γk c (k + 5)) "_law_bad" SpBad := ⟨_, k36 (k + 4), bad_ok (pl3 k) (ch3 k) (h_badrow (k + 2))⟩
theorem h_right (k : Nat) : Has (Γk c (k + 9)) "_law_right" (SpRight (.ref c.C)) := ⟨_, k38 (k + 8), right_ok (kc _) (pl3 (k + 4)) (rm3 k) (lm (k + 3))⟩
theorem sub_e {B L F N : Addr} {st : St} {V : Value} {b : Bool} (h1 : tyV st (.exc (.ref B)) V = none) (h2 : sub02 B L F N (.ref B) V = some b) : isInst (sub02 B L F N) st (.exc (.ref B)) V = some b := by
  unfold isInst; rw [h1]; exact h2
theorem excs {K : PySem.W.Frag} (e : exOkK K c.B c.L c.F c.N = true) (k : Nat) : Excs (Γk c k) (.ref c.B) := by
  unfold exOkK at e
  simp only [Bool.and_eq_true] at e
  obtain ⟨⟨⟨⟨⟨⟨⟨⟨⟨e0, e1⟩, e2⟩, e3⟩, e4⟩, e5⟩, e6⟩, e7⟩, e8⟩, e9⟩ := e
  have nLF : ((Value.ref c.L) == .ref c.F) = false := by
    cases q : ((Value.ref c.L) == .ref c.F) with
    | false => rfl
    | true => have z := (ans_ref e3).su; rw [eq_of_beq q, (ans_ref e1).su] at z; cases z
  have nLN : ((Value.ref c.L) == .ref c.N) = false := by
    cases q : ((Value.ref c.L) == .ref c.N) with
    | false => rfl
    | true => have z := (ans_ref e3).su; rw [eq_of_beq q, (ans_ref e2).su] at z; cases z
  have hB : ((Value.ref c.B) == .ref c.B) = true := beq_self_eq_true _
  refine ⟨kgB k, kxB k, ⟨.ref c.F, ?_, fun st => ?_⟩, ⟨.ref c.N, ?_, fun st => ?_⟩, ⟨.ref c.L, ?_, fun st => ?_⟩, fun st => ?_⟩
  · rw [kg]; kernel_rfl
  · rw [ks]; exact sub_e rfl (by rw [sub02, hB, show ((Value.ref c.F) == .ref c.F) = true from beq_self_eq_true _]; rfl)
  · rw [kg]; kernel_rfl
  · rw [ks]; refine sub_e rfl ?_
    rw [sub02, hB, show ((Value.ref c.N) == .ref c.N) = true from beq_self_eq_true _]
    cases ((Value.ref c.N) == .ref c.F) <;> rfl
  · rw [kg]; kernel_rfl
  · rw [ks]; exact sub_e rfl (by rw [sub02, hB, nLF, nLN, show ((Value.ref c.L) == .ref c.L) = true from beq_self_eq_true _]; rfl)
  · rw [ks]; refine sub_e (by show typeIs st (.exc (.ref c.B)) "ValueError" = none; unfold typeIs; rw [show tyIn "ValueError" = false by decide +kernel]; rfl) ?_
    rw [sub02, hB]; rfl
theorem h_refused {K : PySem.W.Frag} (e : exOkK K c.B c.L c.F c.N = true) (k : Nat) : Has (Γk c (k + 13)) "_law_refused" SpRefused := ⟨_, k37 (k + 12), refused_ok (excs e _) (h_prog k)⟩
theorem h_law {K : PySem.W.Frag} (e : exOkK K c.B c.L c.F c.N = true) : SpLaw (wFn (Γk c 13) 60 t39 1 b39) := law_ok (kc _) (h_at 12) (h_program 1) (h_bad 8) (h_refused e 0) (pl3 9) (h_prog 1) (h_within 12) (h_right 4)
end
end Mine
end

section
set_option autoImplicit false
set_option linter.unusedVariables false
set_option maxRecDepth 100000
set_option maxHeartbeats 4000000
namespace Mine
open PySem PySem.W PySem.Calls PyProof.Rows
noncomputable abbrev pw2 := PySem.Challenge.pw_uf010033_02
noncomputable def recOf (i : Nat) : DefRec := (defAt i).elim ⟨Str.ofString "", ⟨[], [], none, [], [], none, []⟩, [], { kind := .function, names := [], isGenerator := false, isCoroutine := false }, ⟨0, 0, 0, 0⟩⟩ fun q => ⟨q.1, q.2.1, q.2.2.1, q.2.2.2.1, q.2.2.2.2⟩
noncomputable def mrec (i j : Nat) : MethRec := (methAt i j).elim ⟨Str.ofString "", ⟨[], [], none, [], [], none, []⟩, [], { kind := .function, names := [], isGenerator := false, isCoroutine := false }⟩ fun q => ⟨q.1, q.2.1, q.2.2.1, q.2.2.2.1⟩
noncomputable def cP : ClsRec := match clsOf? pw2 (Str.ofString "Program") with
  | some c => c
  | none => ⟨Str.ofString "", none, [], [], 0, []⟩
structure Ent where
  nm : Str
  i : Nat
  T : Tb
  k : Nat
noncomputable def ents : List Ent := [⟨Str.ofString "is_among", 11, t11, 3⟩, ⟨Str.ofString "is_sum", 12, t12, 2⟩, ⟨Str.ofString "are_words", 13, t13, 2⟩, ⟨Str.ofString "need", 14, t14, 1⟩, ⟨Str.ofString "counted_row", 15, t15, 3⟩, ⟨Str.ofString "counted_rows", 16, t16, 3⟩, ⟨Str.ofString "need_tops", 17, t17, 1⟩, ⟨Str.ofString "loops_in", 18, t18, 2⟩, ⟨Str.ofString "rows_of", 20, t20, 2⟩, ⟨Str.ofString "is_within", 21, t21, 2⟩, ⟨Str.ofString "_law_at", 23, t23, 2⟩, ⟨Str.ofString "_law_tops", 25, t25, 1⟩, ⟨Str.ofString "_law_unit", 26, t26, 4⟩, ⟨Str.ofString "_law_word", 27, t27, 2⟩, ⟨Str.ofString "_law_into", 28, t28, 3⟩, ⟨Str.ofString "_law_row", 29, t29, 2⟩, ⟨Str.ofString "_law_rows", 30, t30, 3⟩, ⟨Str.ofString "_law_program", 31, t31, 2⟩, ⟨Str.ofString "_law_places", 32, t32, 2⟩, ⟨Str.ofString "_law_changed", 33, t33, 3⟩, ⟨Str.ofString "_law_bad_sum", 34, t34, 2⟩, ⟨Str.ofString "_law_bad_row", 35, t35, 3⟩, ⟨Str.ofString "_law_bad", 36, t36, 3⟩, ⟨Str.ofString "_law_refused", 37, t37, 2⟩, ⟨Str.ofString "_law_right", 38, t38, 4⟩]
noncomputable def ents2 : List Ent := [⟨Str.ofString "_law_whole", 24, t24, 1⟩, ⟨Str.ofString "law", 39, t39, 1⟩]
noncomputable def Binds (fd : FuncData) (scope : Scope) (k : Nat) : Prop := ∀ vs : List Value, vs.length = k → bindArgs fd ⟨vs, []⟩ = pure (((scope.names.map (·.1)).take k).zip vs)
structure EntOK (e : Ent) : Prop where
  nm : (recOf e.i).name = e.nm
  bd : ∀ pm code doc, Binds (docDef (recOf e.i).name (recOf e.i).params (recOf e.i).body (recOf e.i).scope pm code doc) (recOf e.i).scope e.k
  sc : scFn (recOf e.i).scope e.k = true
  tn : e.T.N = (recOf e.i).scope.names
  tq : e.T.hq = false
  tg : e.T.gk = gk02
  bo : bodyOf e.i = (recOf e.i).body
theorem lenS {vs : List Value} {n : Nat} (h : vs.length = n + 1) : ∃ a r, vs = a :: r ∧ r.length = n := by
  cases vs with
  | nil => cases h
  | cons a r => exact ⟨a, r, rfl, Nat.succ.inj h⟩
theorem lenN {vs : List Value} (h : vs.length = 0) : vs = [] := List.eq_nil_of_length_eq_zero h
theorem al0 {P : List Value → Prop} (h : P []) : ∀ vs : List Value, vs.length = 0 → P vs := fun vs e => by cases lenN e; exact h
theorem alS {P : List Value → Prop} {n : Nat} (h : ∀ a, ∀ vs : List Value, vs.length = n → P (a :: vs)) : ∀ vs : List Value, vs.length = n + 1 → P vs := fun vs e => by
  refine ex2 (lenS e) fun a r q__41_1 => an2 q__41_1 fun e__41_2 h1 => ?_
  subst e__41_2
  exact h a r h1
theorem ek11 : EntOK ⟨Str.ofString "is_among", 11, t11, 3⟩ := ⟨by kernel_rfl, fun pm code doc => alS fun _ => alS fun _ => alS fun _ => al0 (by kernel_rfl), by decide +kernel, by kernel_rfl, rfl, rfl, by kernel_rfl⟩
theorem ek12 : EntOK ⟨Str.ofString "is_sum", 12, t12, 2⟩ := ⟨by kernel_rfl, fun pm code doc => alS fun _ => alS fun _ => al0 (by kernel_rfl), by decide +kernel, by kernel_rfl, rfl, rfl, by kernel_rfl⟩
theorem ek13 : EntOK ⟨Str.ofString "are_words", 13, t13, 2⟩ := ⟨by kernel_rfl, fun pm code doc => alS fun _ => alS fun _ => al0 (by kernel_rfl), by decide +kernel, by kernel_rfl, rfl, rfl, by kernel_rfl⟩
theorem ek14 : EntOK ⟨Str.ofString "need", 14, t14, 1⟩ := ⟨by kernel_rfl, fun pm code doc => alS fun _ => al0 (by kernel_rfl), by decide +kernel, by kernel_rfl, rfl, rfl, by kernel_rfl⟩
theorem ek15 : EntOK ⟨Str.ofString "counted_row", 15, t15, 3⟩ := ⟨by kernel_rfl, fun pm code doc => alS fun _ => alS fun _ => alS fun _ => al0 (by kernel_rfl), by decide +kernel, by kernel_rfl, rfl, rfl, by kernel_rfl⟩
theorem ek16 : EntOK ⟨Str.ofString "counted_rows", 16, t16, 3⟩ := ⟨by kernel_rfl, fun pm code doc => alS fun _ => alS fun _ => alS fun _ => al0 (by kernel_rfl), by decide +kernel, by kernel_rfl, rfl, rfl, by kernel_rfl⟩
theorem ek17 : EntOK ⟨Str.ofString "need_tops", 17, t17, 1⟩ := ⟨by kernel_rfl, fun pm code doc => alS fun _ => al0 (by kernel_rfl), by decide +kernel, by kernel_rfl, rfl, rfl, by kernel_rfl⟩
theorem ek18 : EntOK ⟨Str.ofString "loops_in", 18, t18, 2⟩ := ⟨by kernel_rfl, fun pm code doc => alS fun _ => alS fun _ => al0 (by kernel_rfl), by decide +kernel, by kernel_rfl, rfl, rfl, by kernel_rfl⟩
theorem ek20 : EntOK ⟨Str.ofString "rows_of", 20, t20, 2⟩ := ⟨by kernel_rfl, fun pm code doc => alS fun _ => alS fun _ => al0 (by kernel_rfl), by decide +kernel, by kernel_rfl, rfl, rfl, by kernel_rfl⟩
theorem ek21 : EntOK ⟨Str.ofString "is_within", 21, t21, 2⟩ := ⟨by kernel_rfl, fun pm code doc => alS fun _ => alS fun _ => al0 (by kernel_rfl), by decide +kernel, by kernel_rfl, rfl, rfl, by kernel_rfl⟩
theorem ek23 : EntOK ⟨Str.ofString "_law_at", 23, t23, 2⟩ := ⟨by kernel_rfl, fun pm code doc => alS fun _ => alS fun _ => al0 (by kernel_rfl), by decide +kernel, by kernel_rfl, rfl, rfl, by kernel_rfl⟩
theorem ek25 : EntOK ⟨Str.ofString "_law_tops", 25, t25, 1⟩ := ⟨by kernel_rfl, fun pm code doc => alS fun _ => al0 (by kernel_rfl), by decide +kernel, by kernel_rfl, rfl, rfl, by kernel_rfl⟩
theorem ek26 : EntOK ⟨Str.ofString "_law_unit", 26, t26, 4⟩ := ⟨by kernel_rfl, fun pm code doc => alS fun _ => alS fun _ => alS fun _ => alS fun _ => al0 (by kernel_rfl), by decide +kernel, by kernel_rfl, rfl, rfl, by kernel_rfl⟩
theorem ek27 : EntOK ⟨Str.ofString "_law_word", 27, t27, 2⟩ := ⟨by kernel_rfl, fun pm code doc => alS fun _ => alS fun _ => al0 (by kernel_rfl), by decide +kernel, by kernel_rfl, rfl, rfl, by kernel_rfl⟩
theorem ek28 : EntOK ⟨Str.ofString "_law_into", 28, t28, 3⟩ := ⟨by kernel_rfl, fun pm code doc => alS fun _ => alS fun _ => alS fun _ => al0 (by kernel_rfl), by decide +kernel, by kernel_rfl, rfl, rfl, by kernel_rfl⟩
theorem ek29 : EntOK ⟨Str.ofString "_law_row", 29, t29, 2⟩ := ⟨by kernel_rfl, fun pm code doc => alS fun _ => alS fun _ => al0 (by kernel_rfl), by decide +kernel, by kernel_rfl, rfl, rfl, by kernel_rfl⟩
theorem ek30 : EntOK ⟨Str.ofString "_law_rows", 30, t30, 3⟩ := ⟨by kernel_rfl, fun pm code doc => alS fun _ => alS fun _ => alS fun _ => al0 (by kernel_rfl), by decide +kernel, by kernel_rfl, rfl, rfl, by kernel_rfl⟩
theorem ek31 : EntOK ⟨Str.ofString "_law_program", 31, t31, 2⟩ := ⟨by kernel_rfl, fun pm code doc => alS fun _ => alS fun _ => al0 (by kernel_rfl), by decide +kernel, by kernel_rfl, rfl, rfl, by kernel_rfl⟩
theorem ek32 : EntOK ⟨Str.ofString "_law_places", 32, t32, 2⟩ := ⟨by kernel_rfl, fun pm code doc => alS fun _ => alS fun _ => al0 (by kernel_rfl), by decide +kernel, by kernel_rfl, rfl, rfl, by kernel_rfl⟩
theorem ek33 : EntOK ⟨Str.ofString "_law_changed", 33, t33, 3⟩ := ⟨by kernel_rfl, fun pm code doc => alS fun _ => alS fun _ => alS fun _ => al0 (by kernel_rfl), by decide +kernel, by kernel_rfl, rfl, rfl, by kernel_rfl⟩
theorem ek34 : EntOK ⟨Str.ofString "_law_bad_sum", 34, t34, 2⟩ := ⟨by kernel_rfl, fun pm code doc => alS fun _ => alS fun _ => al0 (by kernel_rfl), by decide +kernel, by kernel_rfl, rfl, rfl, by kernel_rfl⟩
theorem ek35 : EntOK ⟨Str.ofString "_law_bad_row", 35, t35, 3⟩ := ⟨by kernel_rfl, fun pm code doc => alS fun _ => alS fun _ => alS fun _ => al0 (by kernel_rfl), by decide +kernel, by kernel_rfl, rfl, rfl, by kernel_rfl⟩
theorem ek36 : EntOK ⟨Str.ofString "_law_bad", 36, t36, 3⟩ := ⟨by kernel_rfl, fun pm code doc => alS fun _ => alS fun _ => alS fun _ => al0 (by kernel_rfl), by decide +kernel, by kernel_rfl, rfl, rfl, by kernel_rfl⟩
theorem ek37 : EntOK ⟨Str.ofString "_law_refused", 37, t37, 2⟩ := ⟨by kernel_rfl, fun pm code doc => alS fun _ => alS fun _ => al0 (by kernel_rfl), by decide +kernel, by kernel_rfl, rfl, rfl, by kernel_rfl⟩
theorem ek38 : EntOK ⟨Str.ofString "_law_right", 38, t38, 4⟩ := ⟨by kernel_rfl, fun pm code doc => alS fun _ => alS fun _ => alS fun _ => alS fun _ => al0 (by kernel_rfl), by decide +kernel, by kernel_rfl, rfl, rfl, by kernel_rfl⟩
theorem ek24 : EntOK ⟨Str.ofString "_law_whole", 24, t24, 1⟩ := ⟨by kernel_rfl, fun pm code doc => alS fun _ => al0 (by kernel_rfl), by decide +kernel, by kernel_rfl, rfl, rfl, by kernel_rfl⟩
theorem ek39 : EntOK ⟨Str.ofString "law", 39, t39, 1⟩ := ⟨by kernel_rfl, fun pm code doc => alS fun _ => al0 (by kernel_rfl), by decide +kernel, by kernel_rfl, rfl, rfl, by kernel_rfl⟩
theorem fmE {P : Ent → Prop} {a : Ent} {l : List Ent} (h : P a) (hs : ∀ x ∈ l, P x) : ∀ x ∈ a :: l, P x := fun x hx => by
  cases hx with
  | head => exact h
  | tail _ h => exact hs x h
theorem ents_ok : ∀ e ∈ ents, EntOK e := (fmE ek11 (fmE ek12 (fmE ek13 (fmE ek14 (fmE ek15 (fmE ek16 (fmE ek17 (fmE ek18 (fmE ek20 (fmE ek21 (fmE ek23 (fmE ek25 (fmE ek26 (fmE ek27 (fmE ek28 (fmE ek29 (fmE ek30 (fmE ek31 (fmE ek32 (fmE ek33 (fmE ek34 (fmE ek35 (fmE ek36 (fmE ek37 (fmE ek38 (fun _ z => nomatch z))))))))))))))))))))))))))
theorem ents2_ok : ∀ e ∈ ents2, EntOK e := (fmE ek24 (fmE ek39 (fun _ z => nomatch z)))
theorem fnL_eq (Γ : Ctx) : fnL Γ = ents.map fun e => (e.nm, wFn Γ 60 e.T e.k (bodyOf e.i)) := rfl
/-- the module's names -/
noncomputable def blN : List (Str × Value) := [(Str.ofString "len", .builtin "len"), (Str.ofString "isinstance", .builtin "isinstance"), (Str.ofString "list", .type "list"), (Str.ofString "tuple", .type "tuple"), (Str.ofString "int", .type "int")]
noncomputable def iteN : List (Str × Value) := [(Str.ofString "zip", .type "zip"), (Str.ofString "enumerate", .type "enumerate"), (Str.ofString "range", .type "range")]
noncomputable def tyN : List (Str × Value) := [(Str.ofString "bool", .type "bool"), (Str.ofString "str", .type "str"), (Str.ofString "ValueError", .type "ValueError")]
noncomputable def inN : List (Str × Int) := [(Str.ofString "MOST_BOXES", 3), (Str.ofString "MOST_TOP", 9), (Str.ofString "MOST_ROWS", 12), (Str.ofString "MOST_DEEP", 3), (Str.ofString "MOST_WORDS", 3)]
noncomputable def isFn : Gk → Bool
  | .fn => true
  | _ => false
theorem lk_mem {α : Type} {l : List (Str × α)} {x : Str} {v : α} (h : l.lookup x = some v) : (x, v) ∈ l := by
  induction l with
  | nil => cases h
  | cons p r ih =>
    rw [List.lookup_cons] at h
    cases q : (x == p.1) with
    | true => rw [q] at h; cases h; rw [eq_of_beq q]; exact .head _
    | false => rw [q] at h; exact .tail _ (ih h)
theorem gk_mem {x : Str} {g : Gk} (h : gk02 x = g) (hg : g ≠ .no) : (x, g) ∈ gkL := by
  unfold gk02 at h
  cases e : gkL.lookup x with
  | none => rw [e] at h; exact absurd h.symm hg
  | some v => rw [e] at h; have h : v = g := h; rw [← h]; exact lk_mem e
noncomputable def fnNs : List Str := (ents.map (·.nm)) ++ (ents2.map (·.nm)) ++ [Str.ofString "Program"]
theorem gk_fn : ∀ p ∈ gkL, isFn p.2 = true → p.1 ∈ fnNs := by
  have h : (gkL.all fun p => !isFn p.2 || fnNs.contains p.1) = true := by kernel_rfl
  intro p hp hf
  have := List.all_eq_true.mp h p hp
  rw [hf] at this
  exact List.contains_iff_mem.mp this
noncomputable def rest2 : List (Str × Gk) := (blN.map fun p => (p.1, Gk.blt (.val p.2))) ++ ((iteN.map fun p => (p.1, Gk.itr)) ++ ((tyN.map fun p => (p.1, Gk.cst (.val p.2))) ++ ((inN.map fun p => (p.1, Gk.cst (.int p.2))) ++ [(Str.ofString "LoopError", Gk.dyn), (Str.ofString "BadProgram", Gk.dyn), (Str.ofString "BadFilling", Gk.dyn), (Str.ofString "NoLoop", Gk.dyn)])))
theorem gk_rest {p : Str × Gk} (hp : p ∈ gkL) (hf : isFn p.2 = false) : p ∈ rest2 := by
  have e : gkL.drop 28 = rest2 := rfl
  have e1 : ∀ q ∈ gkL.take 28, isFn q.2 = true := List.all_eq_true.mp (by kernel_rfl : ((gkL.take 28).all fun q => isFn q.2) = true)
  rw [← List.take_append_drop 28 gkL] at hp
  cases List.mem_append.mp hp with
  | inl h => rw [e1 p h] at hf; exact Bool.noConfusion hf
  | inr h => rw [e] at h; exact h
end Mine
end

section
set_option autoImplicit false
set_option linter.unusedVariables false
set_option maxRecDepth 100000
set_option maxHeartbeats 4000000
namespace Mine
open PySem PySem.W PySem.Calls PyProof.Rows
theorem cp_name : cP.name = Str.ofString "Program" := by kernel_rfl
theorem cp_meths : cP.withCmp.meths = [mrec 19 0, mrec 19 1, mrec 19 2] := by kernel_rfl
theorem cp_quiet : ∀ n ∈ [Str.ofString "__setattr__", Str.ofString "__getattribute__", Str.ofString "__getattr__", Str.ofString "tops", Str.ofString "rows"], n ∈ cP.withCmp.quiet := by
  have h : ([Str.ofString "__setattr__", Str.ofString "__getattribute__", Str.ofString "__getattr__", Str.ofString "tops", Str.ofString "rows"].all fun n => cP.withCmp.quiet.contains n) = true := by kernel_rfl
  exact fun n hn => List.contains_iff_mem.mp (List.all_eq_true.mp h n hn)
theorem m0 : (mrec 19 0).name = Str.ofString "__init__" ∧ bodyM 19 0 = (mrec 19 0).body ∧ scFn (mrec 19 0).scope 3 = true ∧ t19_0.N = (mrec 19 0).scope.names := ⟨by kernel_rfl, by kernel_rfl, by decide +kernel, by kernel_rfl⟩
theorem m1 : (mrec 19 1).name = Str.ofString "row" ∧ bodyM 19 1 = (mrec 19 1).body ∧ scFn (mrec 19 1).scope 2 = true ∧ t19_1.N = (mrec 19 1).scope.names := ⟨by kernel_rfl, by kernel_rfl, by decide +kernel, by kernel_rfl⟩
theorem m2 : (mrec 19 2).name = Str.ofString "loops" ∧ bodyM 19 2 = (mrec 19 2).body ∧ scFn (mrec 19 2).scope 1 = true ∧ t19_2.N = (mrec 19 2).scope.names := ⟨by kernel_rfl, by kernel_rfl, by decide +kernel, by kernel_rfl⟩
theorem bm0 : ∀ q pm code doc, Binds (methDef (mrec 19 0).name q (mrec 19 0).params (mrec 19 0).body (mrec 19 0).scope pm code doc) (mrec 19 0).scope 3 := by
  exact fun q pm code doc => alS fun _ => alS fun _ => alS fun _ => al0 (by kernel_rfl)
theorem bm1 : ∀ q pm code doc, Binds (methDef (mrec 19 1).name q (mrec 19 1).params (mrec 19 1).body (mrec 19 1).scope pm code doc) (mrec 19 1).scope 2 := by
  exact fun q pm code doc => alS fun _ => alS fun _ => al0 (by kernel_rfl)
theorem bm2 : ∀ q pm code doc, Binds (methDef (mrec 19 2).name q (mrec 19 2).params (mrec 19 2).body (mrec 19 2).scope pm code doc) (mrec 19 2).scope 1 := by
  exact fun q pm code doc => alS fun _ => al0 (by kernel_rfl)
section
variable {p prog : Program} {w : World} {loose : List Str} {mean : ExcName → Option Value} {mg mb : Str → Option Value} {h : Heap}
/-- what the head hands over of the text's top -/
structure Hd (p : Program) (loose : List Str) (mg mb : Str → Option Value) : Prop where
  recs : ∀ e ∈ ents ++ ents2, recOf e.i ∈ recsOf p
  pls : cP ∈ plainsOf p loose
  bad : specOf p "BadProgram" = some ("ValueError.__new__", [.type "ValueError", .type "Exception", .type "BaseException", .type "object"])
  nums : ∀ q ∈ inN, valOf p q.1 = some (.int q.2)
  blt : ∀ q ∈ blN ++ (iteN ++ tyN), mg q.1 = none ∧ mb q.1 = some q.2
theorem fn_at (T : Top p loose mean mg mb h) (H : Hd p loose mg mb) {e : Ent} (he : e ∈ ents ++ ents2) (ok : EntOK e) : ∃ v, mg e.nm = some v ∧ FnAt ⟨h, w⟩ v e.k (bodyOf e.i) (recOf e.i).scope := by
  refine ex5 (T.fn (recOf e.i) (H.recs e he)) fun a o pm code doc q__31_1 => an4 q__31_1 fun h1 h2 h3 h4 => ?_
  rw [ok.nm] at h1
  exact ⟨.ref a, h1, ⟨a, o, _, rfl, h2, h3, h4, by rw [ok.bo]; rfl, rfl, rfl, rfl, rfl, ok.bd pm code doc⟩⟩
theorem ent_ok {e : Ent} (he : e ∈ ents ++ ents2) : EntOK e := by
  cases List.mem_append.mp he with
  | inl h => exact ents_ok e h
  | inr h => exact ents2_ok e h
theorem fv_of {v : Value} {k : Nat} {b : List Stmt} {s : Scope} (f : FnAt ⟨h, w⟩ v k b s) : FvOK ⟨h, w⟩ v := by
  refine ex3 (f.ex) fun a o fd q__39_1 => an4 q__39_1 fun h1 h2 h3 _ => ?_
  exact .inl ⟨a, o, fd, h1, h2, h3⟩
/-- a method -/
theorem me_at {C N : Addr} {mN : Str → Option Value} (P : PlainAt h cP.withCmp C N mN) {i j k : Nat} (hm : mrec i j ∈ cP.withCmp.meths) {nm : Str} (hn : (mrec i j).name = nm) {b : List Stmt} (hb : b = (mrec i j).body)
    (bd : ∀ q pm code doc, Binds (methDef (mrec i j).name q (mrec i j).params (mrec i j).body (mrec i j).scope pm code doc) (mrec i j).scope k) :
    ∃ f o fd, mN nm = some (.ref f) ∧ h.get? f = some o ∧ o.cls = .type "function" ∧ o.data = .func fd ∧ FnAt ⟨h, w⟩ (.ref f) k b (mrec i j).scope := by
  refine ex5 (P.meths _ hm) fun f o pm cd doc q__45_1 => an5 q__45_1 fun h1 h2 h3 h4 h5 => ?_
  rw [hn] at h1
  exact ⟨f, o, _, h1, h2, h3, h4, ⟨f, o, _, rfl, h2, h4, h5, by rw [hb]; rfl, rfl, rfl, rfl, rfl, bd _ pm cd doc⟩⟩
theorem mem_m0 : mrec 19 0 ∈ cP.withCmp.meths := by rw [cp_meths]; exact .head _
theorem mem_m1 : mrec 19 1 ∈ cP.withCmp.meths := by rw [cp_meths]; exact .tail _ (.head _)
theorem mem_m2 : mrec 19 2 ∈ cP.withCmp.meths := by rw [cp_meths]; exact .tail _ (.tail _ (.head _))
theorem ob_tops : typeLookup (.type "object") (Str.ofString "tops") = pure none := by rw [typeLookup_type, builtinLookup_eq_fast]; kernel_rfl
theorem ob_rows : typeLookup (.type "object") (Str.ofString "rows") = pure none := by rw [typeLookup_type, builtinLookup_eq_fast]; kernel_rfl
theorem ob_row : typeLookup (.type "object") (Str.ofString "row") = pure none := by rw [typeLookup_type, builtinLookup_eq_fast]; kernel_rfl
theorem ob_loops : typeLookup (.type "object") (Str.ofString "loops") = pure none := by rw [typeLookup_type, builtinLookup_eq_fast]; kernel_rfl
/-- the classes -/
structure Cl (h : Heap) (mg : Str → Option Value) (c : Ads) (K : Frag) (N : Addr) (mN : Str → Option Value) : Prop where
  gB : mg "BadProgram" = some (.ref c.B)
  gL : mg "LoopError" = some (.ref c.L)
  gF : mg "BadFilling" = some (.ref c.F)
  gN : mg "NoLoop" = some (.ref c.N)
  gC : mg "Program" = some (.ref c.C)
  pl : PlainAt h cP.withCmp c.C N mN
  inn : Frag.In K h
  ok : exOkK K c.B c.L c.F c.N = true
theorem ctx_all {c : Ads} {K : Frag} {N : Addr} {mN : Str → Option Value} (T : Top p loose mean mg mb h) (H : Hd p loose mg mb) (Z : Cl h mg c K N mN) : ∀ k, CtxOK prog w ⟨h, w⟩ (2 * k) (Γk c k) gk02 := by
  have hns : ∀ k, (∀ x S, (Γk c k).fn x = some S → ∃ v, mg x = some v ∧ CallOK prog w ⟨h, w⟩ (2 * k) S v) → (∀ nm S, (Γk c k).me (.ref c.C) nm = some S → ∃ f o fd y, mN nm = some (.ref f) ∧ h.get? f = some o ∧ o.cls = .type "function" ∧ o.data = .func fd ∧ typeLookup (.type "object") nm = pure y ∧ CallOK prog w ⟨h, w⟩ (2 * k) S (.ref f)) → CtxOK prog w ⟨h, w⟩ (2 * k) (Γk c k) gk02 := by
    intro k hfn hme
    refine ⟨rfl, by rw [ks]; exact subOK_of Z.inn Z.ok, fun C hC => ?_, fun C hC => ?_, mg, mb, T.g, T.b, fun x d hd => ?_, fun x d hd => ?_, fun x hx => ?_, fun x hx => ?_⟩
    · rw [kx] at hC
      rw [eq_of_beq hC]
      obtain ⟨C', O, _⟩ := T.ownAt H.bad
      have e : C' = c.B := by have := O.bound.symm.trans Z.gB; injection this with this; injection this
      subst e
      exact ⟨_, _, _, _, _, _, _, rfl, O.own, F.excBase_ValueError⟩
    · have hC : C = .ref c.C := by cases k <;> exact hC
      subst hC
      have hq := fun n hn => Z.pl.quiet n (cp_quiet n hn)
      refine ⟨c.C, N, mN, rfl, Z.pl.cls, hq _ (.tail _ (.head _)), hq _ (.tail _ (.tail _ (.head _))), hq _ (.head _), fun nm hnm => ?_, hme⟩
      cases Bool.or_eq_true_iff.mp hnm with
      | inl e => rw [eq_of_beq e]; exact ⟨hq _ (.tail _ (.tail _ (.tail _ (.head _)))), ob_tops⟩
      | inr e => rw [eq_of_beq e]; exact ⟨hq _ (.tail _ (.tail _ (.tail _ (.tail _ (.head _))))), ob_rows⟩
    · rw [kg] at hd
      have hm := lk_mem hd
      have go : ∀ {x : Str} {a : Addr}, mg x = some (.ref a) → GlOK ⟨h, w⟩ mg mb x (.val (.ref a)) := fun e => ⟨_, by rw [e]; rfl, fun R ρ _ => rfl⟩
      cases hm with
      | head => exact go Z.gB
      | tail _ hm => cases hm with
        | head => exact go Z.gL
        | tail _ hm => cases hm with
          | head => exact go Z.gF
          | tail _ hm => cases hm with
            | head => exact go Z.gN
            | tail _ hm => exact nomatch hm
    · have hv : ∀ q ∈ blN ++ (iteN ++ tyN), GlOK ⟨h, w⟩ mg mb q.1 (.val q.2) := fun q hq => ⟨q.2, by rw [(H.blt q hq).1, (H.blt q hq).2]; rfl, fun R ρ _ => rfl⟩
      have hr : (x, gk02 x) ∈ rest2 := gk_rest (gk_mem rfl (by rcases hd with e | e <;> rw [e] <;> exact fun z => nomatch z)) (by rcases hd with e | e <;> rw [e] <;> rfl)
      rcases List.mem_append.mp hr with m | m
      · obtain ⟨q, hq, e⟩ := List.mem_map.mp m
        injection e with e1 e2
        rw [← e2] at hd
        rcases hd with z | z
        · cases z
        · cases z; rw [← e1]; exact hv q (List.mem_append_left _ hq)
      rcases List.mem_append.mp m with m | m
      · obtain ⟨q, hq, e⟩ := List.mem_map.mp m
        injection e with e1 e2
        rw [← e2] at hd
        rcases hd with z | z <;> cases z
      rcases List.mem_append.mp m with m | m
      · obtain ⟨q, hq, e⟩ := List.mem_map.mp m
        injection e with e1 e2
        rw [← e2] at hd
        rcases hd with z | z
        · cases z; rw [← e1]; exact hv q (List.mem_append_right _ (List.mem_append_right _ hq))
        · cases z
      rcases List.mem_append.mp m with m | m
      · obtain ⟨q, hq, e⟩ := List.mem_map.mp m
        injection e with e1 e2
        rw [← e2] at hd
        rcases hd with z | z
        · cases z
          obtain ⟨v, h1, h2⟩ := T.const q.1 _ (H.nums q hq)
          rw [← e1]
          have h2 := h2 h
          cases h2
          exact ⟨_, by rw [h1]; rfl, fun R ρ _ => ⟨_, rfl⟩⟩
        · cases z
      · exfalso
        have : gk02 x = .dyn := by
          cases m with
          | head => rfl
          | tail _ m => cases m with
            | head => rfl
            | tail _ m => cases m with
              | head => rfl
              | tail _ m => cases m with
                | head => rfl
                | tail _ m => exact nomatch m
        rw [this] at hd
        rcases hd with z | z <;> cases z
    · have hm := gk_fn _ (gk_mem hx (fun z => nomatch z)) rfl
      have hent : ∀ e ∈ ents ++ ents2, e.nm = x → ∃ v, (mg x).or (mb x) = some v ∧ FvOK ⟨h, w⟩ v ∧ ∀ S, (Γk c k).fn x = some S → CallOK prog w ⟨h, w⟩ (2 * k) S v := fun e he hx => by
        obtain ⟨v, hv, f⟩ := fn_at (w := w) T H he (ent_ok he)
        rw [hx] at hv
        refine ⟨v, by rw [hv]; rfl, fv_of f, fun S hS => ?_⟩
        obtain ⟨v', hv', hc⟩ := hfn x S hS
        rw [hv] at hv'; cases hv'; exact hc
      rcases List.mem_append.mp hm with m | m
      · rcases List.mem_append.mp m with m | m
        · obtain ⟨e, he, q⟩ := List.mem_map.mp m; exact hent e (List.mem_append_left _ he) q
        · obtain ⟨e, he, q⟩ := List.mem_map.mp m; exact hent e (List.mem_append_right _ he) q
      · have e : x = Str.ofString "Program" := by
          cases m with
          | head => rfl
          | tail _ m => exact nomatch m
        subst e
        refine ⟨.ref c.C, by rw [Z.gC]; rfl, .inr (.inr (.inr ⟨c.C, N, mN, rfl, Z.pl.cls⟩)), fun S hS => ?_⟩
        obtain ⟨v', hv', hc⟩ := hfn _ S hS
        rw [Z.gC] at hv'; cases hv'; exact hc
    · have hbv : ∀ q ∈ blN ++ iteN, bltV q.1 = some q.2 := by
        have h : ((blN ++ iteN).all fun q => bltV q.1 == some q.2) = true := by kernel_rfl
        exact fun q hq => eq_of_beq (List.all_eq_true.mp h q hq)
      have hr : (x, gk02 x) ∈ rest2 := gk_rest (gk_mem rfl (by rcases hx with ⟨d, e⟩ | e <;> rw [e] <;> exact fun z => nomatch z)) (by rcases hx with ⟨d, e⟩ | e <;> rw [e] <;> rfl)
      have fin : ∀ q ∈ blN ++ iteN, q.1 = x → ∃ v, bltV x = some v ∧ mg x = none ∧ mb x = some v := fun q hq e => by
        have h2 := H.blt q (by rcases List.mem_append.mp hq with z | z; exact List.mem_append_left _ z; exact List.mem_append_right _ (List.mem_append_left _ z))
        rw [← e]; exact ⟨q.2, hbv q hq, h2.1, h2.2⟩
      rcases List.mem_append.mp hr with m | m
      · obtain ⟨q, hq, e⟩ := List.mem_map.mp m
        injection e with e1 e2
        exact fin q (List.mem_append_left _ hq) e1
      rcases List.mem_append.mp m with m | m
      · obtain ⟨q, hq, e⟩ := List.mem_map.mp m
        injection e with e1 e2
        exact fin q (List.mem_append_right _ hq) e1
      exfalso
      rcases List.mem_append.mp m with m | m
      · obtain ⟨q, hq, e⟩ := List.mem_map.mp m
        injection e with e1 e2
        rw [← e2] at hx
        rcases hx with ⟨d, z⟩ | z <;> cases z
      rcases List.mem_append.mp m with m | m
      · obtain ⟨q, hq, e⟩ := List.mem_map.mp m
        injection e with e1 e2
        rw [← e2] at hx
        rcases hx with ⟨d, z⟩ | z <;> cases z
      · have : gk02 x = .dyn := by
          cases m with
          | head => rfl
          | tail _ m => cases m with
            | head => rfl
            | tail _ m => cases m with
              | head => rfl
              | tail _ m => cases m with
                | head => rfl
                | tail _ m => exact nomatch m
        rw [this] at hx
        rcases hx with ⟨d, z⟩ | z <;> cases z
  intro k
  induction k with
  | zero => exact hns 0 (fun x S h => nomatch h) fun nm S h => nomatch h
  | succ k ih =>
    refine hns (k + 1) (fun x S hS => ?_) fun nm S hS => ?_
    · have hS : fnS c (Γk c k) x = some S := hS
      unfold fnS at hS
      split at hS
      · next e =>
        cases hS
        rw [e]
        refine ex3 (me_at (w := w) Z.pl mem_m0 m0.1 m0.2.1 bm0) fun f o fd q__208_1 => an5 q__208_1 fun h1 h2 h3 h4 h5 => ?_
        exact ⟨_, Z.gC, make_sound Z.pl.cls h1 h2 h3 (fn_sound 60 ih T.nolimit h5 m0.2.2.1 m0.2.2.2 rfl rfl)⟩
      · rw [fnL_eq] at hS
        obtain ⟨e, he, q⟩ := List.mem_map.mp (lk_mem hS)
        injection q with q1 q2
        have ok := ents_ok e he
        obtain ⟨v, hv, f⟩ := fn_at (w := w) T H (List.mem_append_left _ he) ok
        rw [q1] at hv
        rw [← q2]
        exact ⟨v, hv, (fn_sound 60 ih T.nolimit f ok.sc ok.tn ok.tq ok.tg).up (by omega)⟩
    · have hm := lk_mem (show (meL (Γk c k)).lookup nm = some S from hS)
      cases hm with
      | head =>
        refine ex3 (me_at (w := w) Z.pl mem_m1 m1.1 m1.2.1 bm1) fun f o fd q__221_1 => an5 q__221_1 fun h1 h2 h3 h4 h5 => ?_
        exact ⟨f, o, fd, _, h1, h2, h3, h4, ob_row, (fn_sound 60 ih T.nolimit h5 m1.2.2.1 m1.2.2.2 rfl rfl).up (by omega)⟩
      | tail _ hm => cases hm with
        | head =>
          refine ex3 (me_at (w := w) Z.pl mem_m2 m2.1 m2.2.1 bm2) fun f o fd q__225_1 => an5 q__225_1 fun h1 h2 h3 h4 h5 => ?_
          exact ⟨f, o, fd, _, h1, h2, h3, h4, ob_loops, (fn_sound 60 ih T.nolimit h5 m2.2.2.1 m2.2.2.2 rfl rfl).up (by omega)⟩
        | tail _ hm => exact nomatch hm
end
end Mine
end

section
set_option autoImplicit false
set_option linter.unusedVariables false
set_option maxRecDepth 100000
set_option maxHeartbeats 4000000
namespace Mine
open PySem PySem.W PySem.Calls PyProof.Rows
noncomputable def W₀ (s : Shared) : Wd := ⟨s.heap.get?, fun _ => none, ⟨0, fun _ => none⟩, fun _ => False⟩
theorem sim₀ (s : Shared) (w : World) : Sim ⟨s.heap, w⟩ (W₀ s) s := by
  refine ⟨fun _ _ e => e, fun _ _ e => e, ?_, ?_, ?_, ?_, ?_⟩
  · intro n c e; cases e
  · intro n a e; cases e
  · intro n k a e; cases e
  · intro n a e; cases e
  · intro b e; exact e.elim
theorem well_ns {P : Params} {h : Heap} : ∀ {vs : List Value} {ns : List Int}, WellAll P h vs (ofPys (ns.map .int)) → ∃ ts : List Tok, vs = (ns.zip ts).map (fun p => .int p.1 p.2) ∧ ts.length = ns.length
  | _, [], w => by
    have w' : WellAll P h _ [] := w
    cases w'; exact ⟨[], rfl, rfl⟩
  | _, n :: ns, w => by
    have w' : WellAll P h _ (.int n :: ofPys (ns.map .int)) := w
    cases w' with
    | cons w1 w2 =>
      cases w1 with
      | int _ t =>
        obtain ⟨ts, rfl, hl⟩ := well_ns w2
        exact ⟨t :: ts, rfl, by rw [List.length_cons, List.length_cons, hl]⟩
theorem rep_ns {R : Addr → Option Obj} {ρ : Nat → Option Addr} : ∀ (ns : List Int) (ts : List Tok), ts.length = ns.length → RepAll R ρ (ns.map .int) ((ns.zip ts).map fun p => .int p.1 p.2)
  | [], _, _ => rfl
  | n :: ns, t :: ts, h => ⟨_, _, rfl, ⟨t, rfl⟩, rep_ns ns ts (Nat.succ.inj h)⟩
  | _ :: _, [], h => nomatch h
theorem rep_script {P : Params} {s : Shared} {v : Value} {ns : List Int} (w : Well P s.heap v (ofPy (.list (ns.map .int)))) : Rep (W₀ s).R (W₀ s).ρ (.list (dI ns)) v := by
  have w' : Well P s.heap v (.list (ofPys (ns.map .int))) := w
  cases w' with
  | list hg wa =>
    obtain ⟨ts, rfl, hl⟩ := well_ns wa
    exact ⟨_, _, 0, rfl, hg, rep_ns ns ts hl⟩
theorem good_end {w : World} {c : ClaimW} {cl : Str → Option Addr} {mean : ExcName → Option Value} {args : List WData} {s₁ s' : Shared} {v : Value} (hn : ∀ cls, c.raises args cls = false) (hp : c.post args (.bool true) args = true) (hg : s₁.gens = #[])
    (f : Fin' ⟨s₁.heap, w⟩ noOwn s₁ (W₀ s₁) (VP fun d _ => d = .bool true) v s') : GoodWG c cl mean args s₁ (.ok (.ret v)) s' := by
  obtain ⟨W', x, S, d, rd, rfl⟩ := f
  have e : v = .bool true := rd
  subst e
  refine GoodW.toG ⟨.inl ⟨.bool true, .bool true, [], rfl, hn, .bool true, hp, unshared_nil⟩, fun b o e => x.keep b o e (fun n q => by cases q) (fun q => q.elim) (fun q => q.elim), x.rest.2.1, x.rest.1.trans hg⟩
section
variable {p prog : Program} {w : World} {loose : List Str} {mean : ExcName → Option Value} {mg mb : Str → Option Value} {s : Shared}
theorem cl_of (T : Top p loose mean mg mb s.heap) (TE : TopE p loose mg s.heap) (H : Hd p loose mg mb) (Y : ExSays s.heap) : ∃ c K N mN, Cl s.heap mg c K N mN := by
  revert Y; intro z__46
  refine ex6 (z__46) fun m K B L F N q__46_1 => an7 q__46_1 fun h1 h2 h3 h4 h5 h6 h7 => ?_
  clear z__46
  refine ex3 (TE cP H.pls) fun C NN mN q__47_1 => an2 q__47_1 fun g1 g2 => ?_
  rw [cp_name] at g1
  have ag := fun x => Heap.Ns.agree T.g h1 x
  exact ⟨⟨B, L, F, N, C⟩, K, NN, mN, (ag _).trans h2, (ag _).trans h3, (ag _).trans h4, (ag _).trans h5, g1, g2, h6, h7⟩
theorem law_call (T : Top p loose mean mg mb s.heap) (TE : TopE p loose mg s.heap) (H : Hd p loose mg mb) (Y : ExSays s.heap) {v : Value} (hv : mg "law" = some v) (sc : List Int) (hsc : sc.length ≤ 1000) {u : Value} (hu : Rep (W₀ s).R (W₀ s).ρ (.list (dI sc)) u) :
    codeAny (model prog w) callerA (.call v ⟨[u], []⟩) (fun r s' => match r with | .ok (.ret u) => Fin' ⟨s.heap, w⟩ noOwn s (W₀ s) (VP fun d _ => d = .bool true) u s' | _ => False) s := by
  refine ex4 (cl_of T TE H Y) fun c K N mN Z => ?_
  have C : CtxOK prog w ⟨s.heap, w⟩ 26 (Γk c 13) gk02 := ctx_all T H Z 13
  have he : (⟨Str.ofString "law", 39, t39, 1⟩ : Ent) ∈ ents ++ ents2 := List.mem_append_right _ (.tail _ (.head _))
  obtain ⟨v39, n39, f39⟩ := fn_at (w := w) T H he (ent_ok he)
  have n39 : mg "law" = some v39 := n39
  rw [n39] at hv; cases hv
  refine codeAny_mono (fn_code (T := t39) 60 C T.nolimit f39 (scFn_of ek39.sc) ek39.tn rfl rfl callerA (W₀ s) s [.list (dI sc)] [u] (fun d _ => d = .bool true) noX 0 ⟨by decide, by decide⟩ rfl ⟨[], rfl, fun _ z => nomatch z⟩ (sim₀ s w) (RepAll.one hu) ?_) (fun r s' q => ?_)
  · exact h_law Z.ok sc _ _ _ (fun n c z => nomatch z) hsc rfl
  · cases r with
    | ok f => cases f with
      | ret u => exact q
      | _ => exact q
    | error e => obtain ⟨e', C', W', _, _, _, _, z⟩ := q; exact z.elim
end
end Mine
end

section
set_option autoImplicit false
set_option Elab.async false
set_option maxRecDepth 100000
set_option maxHeartbeats 8000000
open PySem PySem.W PyProof.Rows
namespace Mine
noncomputable def idxs : List Nat := [11, 12, 13, 14, 15, 16, 17, 18, 20, 21, 23, 24, 25, 26, 27, 28, 29, 30, 31, 32, 33, 34, 35, 36, 37, 38, 39]
theorem recs_of {p : Program} (h : recsOf p = idxs.map recOf) : ∀ e ∈ ents ++ ents2, recOf e.i ∈ recsOf p := by
  have h1 : ((ents ++ ents2).all fun e => idxs.contains e.i) = true := by kernel_rfl
  intro e he
  rw [h]
  exact List.mem_map_of_mem (List.contains_iff_mem.mp (List.all_eq_true.mp h1 e he))
noncomputable def bltA : List (Str × Value) := blN ++ (iteN ++ tyN)
theorem boots : ∀ q ∈ bltA, bootBuiltins q.1 = some q.2 := by
  have h : (bltA.all fun q => bootBuiltins q.1 == some q.2) = true := by kernel_rfl
  exact fun q hq => eq_of_beq (List.all_eq_true.mp h q hq)
theorem blt_of {p : Program} {loose : List Str} {mean : ExcName → Option Value} {mg mb : Str → Option Value} {h : Heap} (T : Top p loose mean mg mb h)
    (hd : ∀ x : Str, x ∈ bltA.map (·.1) → x ≠ "__name__" ∧ x ∉ startupNames ∧ x ∉ loose ∧ x ∉ (recsOf p).map (·.name) ∧ x ∉ (litsOf p).map (·.1) ∧ x ∉ (clssOf p loose).map (·.name)) :
    ∀ q ∈ blN ++ (iteN ++ tyN), mg q.1 = none ∧ mb q.1 = some q.2 := fun q hq => by
  obtain ⟨h0, h1, h2, h3, h4, h5⟩ := hd q.1 (List.mem_map_of_mem hq)
  exact ⟨T.free q.1 h1 h2 h3 h4 h5, (T.builtins q.1 h0).trans (boots q hq)⟩
theorem nums_of {p : Program} (h1 : valOf p "MOST_BOXES" = some (.int 3)) (h2 : valOf p "MOST_TOP" = some (.int 9)) (h3 : valOf p "MOST_ROWS" = some (.int 12)) (h4 : valOf p "MOST_DEEP" = some (.int 3)) (h5 : valOf p "MOST_WORDS" = some (.int 3)) : ∀ q ∈ inN, valOf p q.1 = some (.int q.2) := fun q hq => by
  cases hq with
  | head => exact h1
  | tail _ hq => cases hq with
    | head => exact h2
    | tail _ hq => cases hq with
      | head => exact h3
      | tail _ hq => cases hq with
        | head => exact h4
        | tail _ hq => cases hq with
          | head => exact h5
          | tail _ hq => exact nomatch hq
theorem hd_of {p : Program} {loose : List Str} {mean : ExcName → Option Value} {mg mb : Str → Option Value} {h : Heap} (T : Top p loose mean mg mb h) (h1 : recsOf p = idxs.map recOf) (h2 : plainsOf p loose = [cP])
    (h3 : specOf p "BadProgram" = some ("ValueError.__new__", [.type "ValueError", .type "Exception", .type "BaseException", .type "object"]))
    (n1 : valOf p "MOST_BOXES" = some (.int 3)) (n2 : valOf p "MOST_TOP" = some (.int 9)) (n3 : valOf p "MOST_ROWS" = some (.int 12)) (n4 : valOf p "MOST_DEEP" = some (.int 3)) (n5 : valOf p "MOST_WORDS" = some (.int 3))
    (hd : ∀ x : Str, x ∈ bltA.map (·.1) → x ≠ "__name__" ∧ x ∉ startupNames ∧ x ∉ loose ∧ x ∉ (recsOf p).map (·.name) ∧ x ∉ (litsOf p).map (·.1) ∧ x ∉ (clssOf p loose).map (·.name)) : Hd p loose mg mb :=
  ⟨recs_of h1, by rw [h2]; exact .head _, h3, nums_of n1 n2 n3 n4 n5, blt_of T hd⟩
end Mine

theorem PySem.Challenge.cw_uf010033_02_holds : PySem.Challenge.rw_uf010033_02.Holds := by
  w_on; o_law; o_head Mine.exHook; (case hw => w_witness2)
  intro w s₀ s₁ mg mb G Y fa o pm cd doc dV kV ho hd hcd hD hmg hg args vals as hpre hlay hrd hwl hlo
  refine Ground.open G ?_
  intro T B D TE TW
  try (refine guard_noD D (by decide +kernel) ?_; clear D)
  wrow_args hpre hlay hrd hwl hlo
  all_goals (first | refine callC_kw (enter_call ?_) | refine enter_call ?_)
  clear hd hcd hD
  rename Well _ _ _ _ => wl
  have hH := Mine.hd_of T (by kernel_rfl) (by kernel_rfl) (by kernel_rfl) (by kernel_rfl) (by kernel_rfl) (by kernel_rfl) (by kernel_rfl) (by kernel_rfl) (by decide +kernel)
  refine codeAny_mono (Mine.law_call T TE hH Y hmg _ ?_ (Mine.rep_script wl)) (fun r s' h => ?_)
  · rename_i h63 _
    omega
  · cases r with
    | error e => exact h.elim
    | ok f =>
      cases f with
      | ret u => exact Mine.good_end (raisesW_false (by wrow_none_raised)) (by first | rfl | exact postW_of (by wrow_shape) (by wtm_val) (by str_meet; first | done | w_fin)) hg h
      | next => exact h.elim
      | brk => exact h.elim
      | cont => exact h.elim
end
