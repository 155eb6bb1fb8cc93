import PyProof.Rows.All
import Wide.All
import OpenK.AllK
import Wide.FinOn
import PyProof.Cells
import PyProof.CompFree
import PyProof.CompMap
import PyProof.ForAny
import PyProof.ListIndex
import PyProof.ListIndexNeg
import PyProof.SliceList
import PyProof.SliceMore
import PyProof.TupleOps
import PyProof.TupleIter
import PyProof.TupleOfSeq
import PyProof.TupleCall
import PyProof.ListCopy
import PyProof.ListOps
import PyProof.DictRoads
import PyProof.DictCalls
import PyProof.DictCopy
import PyProof.DictValues
import PyProof.DictIter
import PyProof.DictDisplay
import PyProof.DictKinds
import PyProof.P3Eq
import PyProof.P3In
import PyProof.NeData
import PyProof.RangeFor
import PyProof.RangeIter
import PyProof.IsiTupleAll
import PyProof.IsiSeqPairs
import PyProof.MinMaxWalk
import PyProof.WalkInts
import PyProof.ConsumeWalk
import PyProof.Conv_int
import PyProof.Conv_int_bool
import PyProof.CallStr
import PyProof.RulesAssignMore
import PyProof.Rules2
import PyProof.Rules3
import PyProof.IsRules
import PyProof.LetGo
import PyProof.PvWalk
import PyProof.ForRange
import PyProof.NoPylong
import PyProof.PlainList
import PyProof.StrWalks
import PyProof.WalksMore
import PyProof.DictWalks
import PyProof.CompUse
import PyProof.AutoIntOps
import PyProof.Rows.EqBoolInt
import PyProof.Rows.Tup
import PyProof.Rows.TupMore
import PyProof.Rows.Nodes
import PyProof.ListTruth
import PyProof.DictTruth
import PyProof.StrOps
import PyProof.Rows.StrRules
import PyProof.Methods
import PyProof.EqKinds
import PyProof.NeKinds
import PyProof.ListMulRoad
import PyProof.DictStraight
import PyProof.Truth
import PyProof.Rows.RuleN_abs
import KE.KDictOf
import KE.KDictList
import PyProof.FactsAll.list_0
import PyProof.FactsAll.list_3
import PyProof.FactsAll.list_4
import PyProof.MeetsSeq
import PyProof.SeqRoads2
import PyProof.FactsAll.dict_0
import PyProof.FactsAll.dict_3
import PyProof.FactsAll.dict_4
import PyProof.Rows.CallKwBuiltin
import PyProof.PureInt
import PyProof.Rows.SortWalk
import PyProof.DefCall
import PyProof.IsiPairs
import PyProof.IsiHeapPairs
import PyProof.IsiNone
import PyProof.Rows.Top
import Lean
import PySem.Challenge.RW_uf010013_03
set_option Elab.async false
set_option maxRecDepth 10000
set_option autoImplicit false
set_option genSizeOf false
set_option genSizeOfSpec false
namespace Mine
open PySem

/-! ## values, objects -/
inductive AV where
  | none | bool (b : Bool) | int (i : Int) | str (s : Str)
  | tup (l : List AV) | ref (a : Nat) | rng (lo hi : Int) | view (a : Nat)

inductive AObj where
  | list (own : Bool) (xs : List AV)
  | dict (own : Bool) (kvs : List (Int × AV))
  | sdict (kvs : List (Str × AV))
  | hid

set_option genInjectivity false
abbrev AH := Nat → Option AObj
noncomputable def AH.set (H : AH) (a : Nat) (o : AObj) : AH := fun b => if b = a then some o else H b
@[simp] theorem AH.set_self (H : AH) (a : Nat) (o : AObj) : H.set a o a = some o := by simp [AH.set]
theorem AH.set_ne (H : AH) {a b : Nat} (o : AObj) (h : b ≠ a) : H.set a o b = H b := by simp [AH.set, h]

/-! ## the intermediate form -/
inductive BI where
  | len | list | tuple | dict | range | int | str | max | min | all | any | abs | sorted
  deriving DecidableEq
inductive ME where
  | append | extend | reverse | index | count | values | get | pop | clear
  deriving DecidableEq
inductive Ty where
  | int | bool | str | tuple | list | dict
  deriving DecidableEq

inductive X where
  | none | bool (b : Bool) | int (i : Int) | str (s : Str)
  | var (i : Nat) | con (k : Nat)
  | bin (op : Operator) (l r : X)
  | neg (x : X) | not (x : X)
  | ands (l : List X) | ors (l : List X)
  | cmp (op : CmpOp) (l r : X)
  | call (f : Nat) (args : List X)
  | bi (f : BI) (args : List X)
  | maxd (x d : X)
  | isi (x : X) (t : Ty) | isi2 (x : X) (t u : Ty)
  | me (m : ME) (o : X) (args : List X)
  | sub (v i : X)
  | slc (v : X) (lo hi : Option X)
  | list (es : List X) | tup (es : List X) | dict0
  | comp (elt it : X) (cond : Option X)

inductive XS where
  | expr (x : X)
  | ret (x : X)
  | asg (i : Nat) (x : X)
  | asgc (i : Nat) (elt it : X) (cond : Option X)
  | unp (is : List Nat) (x : X)
  | sets (o i x : X)
  | ite (t : X) (b e : List XS)
  | for_ (i : Nat) (x : X) (b : List XS)
  | forU (is : List Nat) (x : X) (b : List XS)
  | stop

structure FnIR where
  np : Nat
  ns : Nat
  body : List XS

noncomputable def BI.name : BI → Str
  | .len => "len" | .list => "list" | .tuple => "tuple" | .dict => "dict" | .range => "range" | .int => "int" | .str => "str"
  | .max => "max" | .min => "min" | .all => "all" | .any => "any" | .abs => "abs" | .sorted => "sorted"
noncomputable def BI.val : BI → Value
  | .len => .builtin "len" | .list => .type "list" | .tuple => .type "tuple" | .dict => .type "dict" | .range => .type "range" | .int => .type "int" | .str => .type "str"
  | .max => .builtin "max" | .min => .builtin "min" | .all => .builtin "all" | .any => .builtin "any" | .abs => .builtin "abs" | .sorted => .builtin "sorted"
noncomputable def ME.name : ME → Str
  | .append => "append" | .extend => "extend" | .reverse => "reverse" | .index => "index" | .count => "count" | .values => "values"
  | .get => "get" | .pop => "pop" | .clear => "clear"
noncomputable def Ty.name : Ty → Str
  | .int => "int" | .bool => "bool" | .str => "str" | .tuple => "tuple" | .list => "list" | .dict => "dict"
noncomputable def Ty.ty : Ty → String
  | .int => "int" | .bool => "bool" | .str => "str" | .tuple => "tuple" | .list => "list" | .dict => "dict"

/-! ## reading an expression of the model as one of ours -/
structure CE where
  names : List (Str × NameKind)
  nm : List Str
  fns : List Str
  cons : List Str

noncomputable def CE.kind (ce : CE) (x : Str) : Option NameKind := ce.names.lookup x
noncomputable def isVar (k : Option NameKind) : Prop := k = some .local ∨ k = some .cell
noncomputable def relabelN (names : List (Str × NameKind)) (outer : List (Str × NameKind)) : List (Str × NameKind) :=
  names.map fun (n, k) => if (k == .free && outer.lookup n == some .cell) then (n, .cell) else (n, k)
noncomputable def mask (nm : List Str) (x : Str) : List Str := nm.map fun y => if y = x then Str.empty else y
noncomputable def CE.inner (ce : CE) (scope : Scope) (x : Str) : CE :=
  { ce with names := relabelN scope.names ce.names, nm := mask ce.nm x ++ [x] }

structure CompOk (ce : CE) (scope : Scope) (x : Str) : Prop where
  kind : scope.kind = .function
  nocell : ∀ y ∈ scope.names, y.2 ≠ .cell
  names : ∀ y ∈ scope.names, y.2 = .local → scope.names.lookup y.1 = some .local
  loc : scope.names.lookup x = some .local
  free : ∀ y ∈ scope.names, y.2 = .free → ce.kind y.1 = some .cell
  nempty : scope.names.lookup Str.empty = none
  outer : ∀ y ∈ mask ce.nm x, scope.names.lookup y ≠ some .local
  nodup : (mask ce.nm x ++ [x]).Nodup
  nodeb : (x == ("__debug__" : Str)) = false

noncomputable def plainExpr : Expr → Bool
  | .Starred .. => false
  | _ => true
noncomputable def notCall0 : Expr → Bool
  | .Call .. => false
  | _ => true
noncomputable def notComp : Expr → Bool
  | .ListComp .. | .SetComp .. | .DictComp .. => false
  | _ => true
noncomputable def notDisplay : Expr → Bool
  | .Tuple .. | .List .. => false
  | _ => true
noncomputable def notSlice : Expr → Bool
  | .Slice .. => false
  | _ => true
noncomputable def notSet : Expr → Bool
  | .Set .. => false
  | _ => true
noncomputable def gname (ce : CE) (e : Expr) (x : Str) : Prop := ∃ p, e = .Name x p ∧ ce.kind x = some .globalImplicit

mutual
noncomputable def Cmp : X → CE → Expr → Prop
  | .none, _, e => ∃ k p, e = .Constant .none k p
  | .bool b, _, e => ∃ k p, e = .Constant (.bool b) k p
  | .int i, _, e => ∃ k p, e = .Constant (.int i) k p
  | .str s, _, e => ∃ k p, e = .Constant (.str s) k p
  | .var i, ce, e => ∃ x p, e = .Name x p ∧ ce.nm[i]? = some x ∧ isVar (ce.kind x) ∧ (x == ("__debug__" : Str)) = false
  | .con k, ce, e => ∃ x p, e = .Name x p ∧ ce.cons[k]? = some x ∧ ce.kind x = some .globalImplicit ∧ (x == ("__debug__" : Str)) = false
  | .bin op l r, ce, e => ∃ l' r' p, e = .BinOp l' op r' p ∧ Cmp l ce l' ∧ Cmp r ce r'
  | .neg x, ce, e => ∃ x' p, e = .UnaryOp .USub x' p ∧ Cmp x ce x'
  | .not x, ce, e => ∃ x' p, e = .UnaryOp .Not x' p ∧ Cmp x ce x'
  | .ands l, ce, e => ∃ es p, e = .BoolOp .And es p ∧ Cmps l ce es
  | .ors l, ce, e => ∃ es p, e = .BoolOp .Or es p ∧ Cmps l ce es
  | .cmp op l r, ce, e => ∃ l' r' p, e = .Compare l' [op] [r'] p ∧ Cmp l ce l' ∧ Cmp r ce r' ∧ behindInMarks op r' = false
  | .call i args, ce, e => ∃ f fp es p, e = .Call (.Name f fp) es [] p ∧ ce.fns[i]? = some f ∧ ce.kind f = some .globalImplicit ∧ (f == ("__debug__" : Str)) = false ∧ Cmps args ce es
  | .bi b args, ce, e => ∃ fp es p, e = .Call (.Name b.name fp) es [] p ∧ ce.kind b.name = some .globalImplicit ∧ Cmps args ce es
  | .maxd x d, ce, e => ∃ fp x' d' kp p, e = .Call (.Name BI.max.name fp) [x'] [⟨some ("default" : Str), d', kp⟩] p ∧ ce.kind BI.max.name = some .globalImplicit ∧ Cmp x ce x' ∧ Cmp d ce d' ∧ plainExpr x' = true
  | .isi x t, ce, e => ∃ fp x' tp p, e = .Call (.Name ("isinstance" : Str) fp) [x', .Name t.name tp] [] p ∧ ce.kind ("isinstance" : Str) = some .globalImplicit ∧ ce.kind t.name = some .globalImplicit ∧ Cmp x ce x' ∧ plainExpr x' = true
  | .isi2 x t u, ce, e => ∃ fp x' tp up k pp p, e = .Call (.Name ("isinstance" : Str) fp) [x', .Tuple [.Name t.name tp, .Name u.name up] k pp] [] p ∧ ce.kind ("isinstance" : Str) = some .globalImplicit ∧
      ce.kind t.name = some .globalImplicit ∧ ce.kind u.name = some .globalImplicit ∧ Cmp x ce x' ∧ plainExpr x' = true
  | .me m o args, ce, e => ∃ o' ap es p, e = .Call (.Attribute o' m.name ap) es [] p ∧ notCall0 o' = true ∧ (ap.endLine == p.line) = true ∧ es.length ≤ 5 ∧ Cmp o ce o' ∧ Cmps args ce es
  | .sub v i, ce, e => ∃ v' i' p, e = .Subscript v' i' p ∧ notSlice i' = true ∧ Cmp v ce v' ∧ Cmp i ce i'
  | .slc v lo hi, ce, e => ∃ v' lo' hi' sp p, e = .Subscript v' (.Slice lo' hi' none sp) p ∧ Cmp v ce v' ∧ CmpO lo ce lo' ∧ CmpO hi ce hi'
  | .list es, ce, e => ∃ es' p, e = .List es' p ∧ Cmps es ce es'
  | .tup es, ce, e => ∃ es' k p, e = .Tuple es' k p ∧ Cmps es ce es'
  | .dict0, _, e => ∃ p, e = .Dict [] [] p
  | .comp elt it cond, ce, e => ∃ elt' x px it' ifs scope p, e = .ListComp elt' [⟨.Name x px, it', Option.toList ifs, 0⟩] scope p ∧ notSet it' = true ∧ CompOk ce scope x ∧ Cmp it ce it' ∧ Cmp elt (ce.inner scope x) elt' ∧ CmpO cond (ce.inner scope x) ifs
noncomputable def Cmps : List X → CE → List Expr → Prop
  | [], _, es => es = []
  | x :: xs, ce, es => ∃ e r, es = e :: r ∧ plainExpr e = true ∧ Cmp x ce e ∧ Cmps xs ce r
noncomputable def CmpO : Option X → CE → Option Expr → Prop
  | none, _, e => e = none
  | some x, ce, e => ∃ e', e = some e' ∧ Cmp x ce e'
end

noncomputable def Names : List Nat → CE → List Expr → Prop
  | [], _, es => es = []
  | i :: is, ce, es => ∃ x px r, es = .Name x px :: r ∧ ce.nm[i]? = some x ∧ isVar (ce.kind x) ∧ Names is ce r

mutual
noncomputable def CmpS : XS → CE → Stmt → Prop
  | .expr x, ce, s => ∃ e p, s = .Expr e p ∧ notComp e = true ∧ Cmp x ce e
  | .ret x, ce, s => ∃ e p, s = .Return (some e) p ∧ Cmp x ce e
  | .asg i v, ce, s => ∃ x px e p, s = .Assign [.Name x px] e p ∧ ce.nm[i]? = some x ∧ isVar (ce.kind x) ∧ notComp e = true ∧ Cmp v ce e
  | .asgc i elt it cond, ce, s => ∃ x px e p, s = .Assign [.Name x px] e p ∧ ce.nm[i]? = some x ∧ isVar (ce.kind x) ∧ Cmp (.comp elt it cond) ce e
  | .unp is v, ce, s => ∃ ts k tp e p, s = .Assign [.Tuple ts k tp] e p ∧ Names is ce ts ∧ notComp e = true ∧ notDisplay e = true ∧ Cmp v ce e
  | .sets o i v, ce, s => ∃ o' i' sp e p, s = .Assign [.Subscript o' i' sp] e p ∧ notComp e = true ∧ Cmp o ce o' ∧ Cmp i ce i' ∧ Cmp v ce e
  | .ite t b e, ce, s => ∃ t' b' e' p, s = .If t' b' e' p ∧ Cmp t ce t' ∧ CmpSs b ce b' ∧ CmpSs e ce e'
  | .for_ i it b, ce, s => ∃ x px it' b' p, s = .For (.Name x px) it' b' [] p ∧ ce.nm[i]? = some x ∧ isVar (ce.kind x) ∧ notSet it' = true ∧ Cmp it ce it' ∧ CmpSs b ce b'
  | .forU is it b, ce, s => ∃ ts k tp it' b' p, s = .For (.Tuple ts k tp) it' b' [] p ∧ Names is ce ts ∧ notSet it' = true ∧ Cmp it ce it' ∧ CmpSs b ce b'
  | .stop, _, _ => True
noncomputable def CmpSs : List XS → CE → List Stmt → Prop
  | [], _, ss => ss = []
  | x :: xs, ce, ss => ∃ s r, ss = s :: r ∧ CmpS x ce s ∧ CmpSs xs ce r
end

/-! ## values and heaps related -/
mutual
inductive VR (h : Heap) : AV → Value → Prop
  | none : VR h .none .none
  | bool (b : Bool) : VR h (.bool b) (.bool b)
  | int (i : Int) (t : Tok) : VR h (.int i) (.int i t)
  | str (x : Str) (t : Tok) : VR h (.str x) (.str x t)
  | tup {a : Nat} {vs : Array Value} {n : Nat} {l : List AV} : IsT h a vs n → VRs h l vs.toList → VR h (.tup l) (.ref a)
  | ref (a : Nat) : VR h (.ref a) (.ref a)
  | rng {a : Nat} {lo hi : Int} {t u v : Tok} : IsRange h a lo hi 1 t u v → VR h (.rng lo hi) (.ref a)
  | view {v a : Nat} : h.IsValuesView v a → VR h (.view a) (.ref v)
inductive VRs (h : Heap) : List AV → List Value → Prop
  | nil : VRs h [] []
  | cons {x : AV} {v : Value} {xs : List AV} {vs : List Value} : VR h x v → VRs h xs vs → VRs h (x :: xs) (v :: vs)
end
end Mine

set_option maxRecDepth 10000
set_option autoImplicit false
set_option genSizeOf false
set_option genSizeOfSpec false
set_option genInjectivity false
namespace Mine
open PySem

/-! ## immutable objects -/
noncomputable def Imm (o : Obj) : Prop := (o.cls = .type "tuple" ∧ ∃ vs n, o.data = .seq vs n) ∨ ((o.cls = .type "range" ∨ o.cls = .type "dict_values") ∧ ∃ vs, o.data = .fields vs)
noncomputable def KI (h h' : Heap) : Prop := ∀ a o, h.get? a = some o → Imm o → h'.get? a = some o
theorem KI.refl (h : Heap) : KI h h := fun _ _ e _ => e
theorem KI.trans {h₁ h₂ h₃ : Heap} (a : KI h₁ h₂) (b : KI h₂ h₃) : KI h₁ h₃ := fun x o e i => b x o (a x o e i) i
theorem KI.of_keeps {h h' : Heap} (k : ∀ b o, h.get? b = some o → h'.get? b = some o) : KI h h' := fun a o e _ => k a o e

mutual
theorem VR.mono {h h' : Heap} (k : KI h h') : ∀ {a : AV} {v : Value}, VR h a v → VR h' a v
  | _, _, .none => .none
  | _, _, .bool b => .bool b
  | _, _, .int i t => .int i t
  | _, _, .str x t => .str x t
  | _, _, .tup h1 h4 => .tup (k _ _ h1 (.inl ⟨rfl, _, _, rfl⟩)) (VRs.mono k h4)
  | _, _, .ref a => .ref a
  | _, _, .rng h1 => .rng (k _ _ h1 (.inr ⟨.inl rfl, _, rfl⟩))
  | _, _, .view ⟨o, h1, h2, h3⟩ => .view ⟨o, k _ _ h1 (.inr ⟨.inr h2, _, h3⟩), h2, h3⟩
theorem VRs.mono {h h' : Heap} (k : KI h h') : ∀ {a : List AV} {v : List Value}, VRs h a v → VRs h' a v
  | _, _, .nil => .nil
  | _, _, .cons h1 h2 => .cons (VR.mono k h1) (VRs.mono k h2)
end
theorem VRs.length {h : Heap} : ∀ {a : List AV} {v : List Value}, VRs h a v → v.length = a.length
  | _, _, .nil => rfl
  | _, _, .cons _ h2 => by simp [VRs.length h2]
theorem VRs.get {h : Heap} : ∀ {a : List AV} {v : List Value}, VRs h a v → ∀ {i : Nat} {x : AV}, a[i]? = some x → ∃ y, v[i]? = some y ∧ VR h x y
  | _, _, .nil, _, _, e => by simp at e
  | _, _, .cons h1 h2, 0, _, e => by simp at e; exact ⟨_, rfl, e ▸ h1⟩
  | _, _, .cons h1 h2, i + 1, _, e => by simp at e; obtain ⟨y, hy, r⟩ := VRs.get h2 e; exact ⟨y, by simpa using hy, r⟩
theorem VRs.append {h : Heap} : ∀ {a b : List AV} {v w : List Value}, VRs h a v → VRs h b w → VRs h (a ++ b) (v ++ w)
  | _, _, _, _, .nil, r => r
  | _, _, _, _, .cons h1 h2, r => .cons h1 (VRs.append h2 r)
theorem VRs.take {h : Heap} : ∀ {a : List AV} {v : List Value} (n : Nat), VRs h a v → VRs h (a.take n) (v.take n)
  | _, _, 0, _ => by simp; exact .nil
  | _, _, n + 1, .nil => by simp; exact .nil
  | _, _, n + 1, .cons h1 h2 => by simp; exact .cons h1 (VRs.take n h2)
theorem VRs.drop {h : Heap} : ∀ {a : List AV} {v : List Value} (n : Nat), VRs h a v → VRs h (a.drop n) (v.drop n)
  | _, _, 0, r => by simpa using r
  | _, _, n + 1, .nil => by simp; exact .nil
  | _, _, n + 1, .cons h1 h2 => by simp; exact VRs.drop n h2
theorem VRs.set {h : Heap} : ∀ {a : List AV} {v : List Value} (n : Nat) {x : AV} {y : Value}, VRs h a v → VR h x y → VRs h (a.set n x) (v.set n y)
  | _, _, _, _, _, .nil, _ => by simp; exact .nil
  | _, _, 0, _, _, .cons h1 h2, r => by simp; exact .cons r h2
  | _, _, n + 1, _, _, .cons h1 h2, r => by simp; exact .cons h1 (VRs.set n h2 r)
theorem VRs.reverse {h : Heap} : ∀ {a : List AV} {v : List Value}, VRs h a v → VRs h a.reverse v.reverse
  | _, _, .nil => .nil
  | _, _, .cons h1 h2 => by simp only [List.reverse_cons]; exact (VRs.reverse h2).append (.cons h1 .nil)

/-! ## the context of a law -/
structure Cx where
  prog : Program
  w : World
  s0 : Shared
  mg : Str → Option Value
  mb : Str → Option Value
  fns : List (Str × FnIR)
  cons : List (Str × AV)
  g : s0.heap.Ns mainGlobals mg
  b : s0.heap.Ns builtinsNs mb
  bs : ∀ x : Str, x ≠ "__name__" → mb x = bootBuiltins x
  nolimit : s0.heap.NoLimit
  nodigits : ∃ mc, s0.heap.Ns cStatics mc ∧ mc "sys.int_max_str_digits" = none
  noseer : s0.heap.NoSeer
  bi : ∀ b : BI, mg b.name = none
  ty : ∀ t : Ty, mg t.name = none
  isi : mg ("isinstance" : Str) = none
  con : ∀ (k : Nat) (x : Str) (v : AV), cons[k]? = some (x, v) → ∃ cv, mg x = some cv ∧ VR s0.heap v cv
  fn : ∀ (i : Nat) (f : Str) (ir : FnIR), fns[i]? = some (f, ir) → ∃ a o fd body ce, mg f = some (.ref a) ∧ s0.heap.get? a = some o ∧ o.data = .func fd ∧
    fd.closure = [] ∧ fd.globals = mainGlobals ∧ fd.builtins = builtinsNs ∧ s0.heap.CodeRec fd.code fd.qualname ∧ fd.body = .stmts body ∧
    fd.scope.isCoroutine = false ∧ fd.scope.isGenerator = false ∧ fd.scope.kind = .function ∧
    ce.names = fd.scope.names ∧ ce.fns = fns.map (·.1) ∧ ce.cons = cons.map (·.1) ∧ ce.nm.Nodup ∧ ir.np ≤ ir.ns ∧ ce.nm.length = ir.ns ∧
    (∀ x ∈ ce.nm, isVar (ce.kind x)) ∧ (∀ y : Str × NameKind, y ∈ fd.scope.names → y.2 ≠ .free) ∧ (fd.scope.names.map (·.1)).Nodup ∧
    (∀ vals : List Value, vals.length = ir.np → bindArgs fd ⟨vals, []⟩ = pure ((ce.nm.take ir.np).zip vals)) ∧
    CmpSs ir.body ce body

noncomputable def KV (h : Heap) {K : Type} (kvs : List (K × AV)) (cvs : List (K × Value)) : Prop := kvs.map (·.1) = cvs.map (·.1) ∧ VRs h (kvs.map (·.2)) (cvs.map (·.2))

noncomputable def ObjAt (c : Cx) (h : Heap) (a : Nat) : AObj → Prop
  | .list own xs => (own = true → c.s0.heap.get? a = none) ∧ ∃ vs n, IsL h a vs n ∧ VRs h xs vs.toList
  | .dict own kvs => (own = true → c.s0.heap.get? a = none) ∧ (a == sysModules) = false ∧ ∃ cvs, h.DictOf (intKind c.prog c.w) a cvs ∧ KV h kvs cvs
  | .sdict kvs => (a == sysModules) = false ∧ ∃ cvs, h.DictOf (strKind c.prog c.w) a cvs ∧ KV h kvs cvs
  | .hid => c.s0.heap.get? a = none ∧ ∃ o, h.get? a = some o ∧ o.cls = .type "dict"

theorem DictOf.cls {prog : Program} {w : World} {K : Type} [DecidableEq K] {knd : KeyKind prog w K} {h : Heap} {a : Nat} {kvs} (x : h.DictOf knd a kvs) : ∃ o, h.get? a = some o ∧ o.cls = .type "dict" :=
  let ⟨o, _, _, ho, hx, _⟩ := x; ⟨o, ho, hx.1⟩

theorem ObjAt.notImm {c : Cx} {h : Heap} {a : Nat} {o : AObj} (x : ObjAt c h a o) : ∃ ob, h.get? a = some ob ∧ ¬ Imm ob := by
  cases o with
  | list own xs =>
    obtain ⟨_, vs, n, ho, _⟩ := x
    refine ⟨_, ho, ?_⟩
    rintro (⟨e, _⟩ | ⟨e | e, _⟩) <;> exact absurd e (by simp)
  | dict own kvs =>
    obtain ⟨_, _, cvs, hd, _⟩ := x
    obtain ⟨ob, ho, hc⟩ := DictOf.cls hd
    refine ⟨ob, ho, ?_⟩
    rintro (⟨e, _⟩ | ⟨e | e, _⟩) <;> rw [hc] at e <;> exact absurd e (by simp)
  | sdict kvs =>
    obtain ⟨_, cvs, hd, _⟩ := x
    obtain ⟨ob, ho, hc⟩ := DictOf.cls hd
    refine ⟨ob, ho, ?_⟩
    rintro (⟨e, _⟩ | ⟨e | e, _⟩) <;> rw [hc] at e <;> exact absurd e (by simp)
  | hid =>
    obtain ⟨_, ob, ho, hc⟩ := x
    refine ⟨ob, ho, ?_⟩
    rintro (⟨e, _⟩ | ⟨e | e, _⟩) <;> rw [hc] at e <;> exact absurd e (by simp)

theorem KV.mono {h h' : Heap} {K : Type} {kvs : List (K × AV)} {cvs : List (K × Value)} (k : KI h h') (x : KV h kvs cvs) : KV h' kvs cvs := ⟨x.1, x.2.mono k⟩

theorem ObjAt.mono {c : Cx} {h h' : Heap} {a : Nat} {o : AObj} (x : ObjAt c h a o) (k : KI h h') (e : ∀ ob, h.get? a = some ob → h'.get? a = some ob) : ObjAt c h' a o := by
  cases o with
  | list own xs => obtain ⟨h1, vs, n, h2, h3⟩ := x; exact ⟨h1, vs, n, e _ h2, h3.mono k⟩
  | dict own kvs => obtain ⟨h1, h2, cvs, ⟨o, es, ep, ho, r⟩, h4⟩ := x; exact ⟨h1, h2, cvs, ⟨o, es, ep, e _ ho, r⟩, h4.mono k⟩
  | sdict kvs => obtain ⟨h2, cvs, ⟨o, es, ep, ho, r⟩, h4⟩ := x; exact ⟨h2, cvs, ⟨o, es, ep, e _ ho, r⟩, h4.mono k⟩
  | hid => obtain ⟨h1, o, ho, hc⟩ := x; exact ⟨h1, o, e _ ho, hc⟩

structure Rel (c : Cx) (H : AH) (s : Shared) : Prop where
  same : ∃ h tk, s = { c.s0 with heap := h, toks := tk }
  keep : ∀ b o, c.s0.heap.get? b = some o → s.heap.get? b = some o
  objs : ∀ a o, H a = some o → ObjAt c s.heap a o

/-- what nobody writes -/
noncomputable def Fz : Option AObj → Bool
  | none => true
  | some (.list own _) => !own
  | some (.dict own _) => !own
  | some (.sdict _) => true
  | some .hid => false
noncomputable def Ext (H : AH) (h : Heap) (H' : AH) (h' : Heap) : Prop := ∀ b o, h.get? b = some o → Fz (H b) = true → h'.get? b = some o ∧ H' b = H b
theorem Ext.refl (H : AH) (h : Heap) : Ext H h H h := fun _ _ e _ => ⟨e, rfl⟩
theorem Ext.trans {H₁ H₂ H₃ : AH} {h₁ h₂ h₃ : Heap} (a : Ext H₁ h₁ H₂ h₂) (b : Ext H₂ h₂ H₃ h₃) : Ext H₁ h₁ H₃ h₃ := fun x o e n => by
  obtain ⟨e', n'⟩ := a x o e n
  obtain ⟨e'', n''⟩ := b x o e' (n' ▸ n)
  exact ⟨e'', n''.trans n'⟩
theorem Ext.none {H H' : AH} {h h' : Heap} (X : Ext H h H' h') {b : Addr} {o : Obj} (e : h.get? b = some o) (n : H b = none) : h'.get? b = some o ∧ H' b = none := by
  obtain ⟨e', n'⟩ := X b o e (by rw [n]; rfl)
  exact ⟨e', n'.trans n⟩

theorem Rel.ki {c : Cx} {H H' : AH} {s : Shared} {h' : Heap} (R : Rel c H s) (X : Ext H s.heap H' h') : KI s.heap h' := fun a o e i => by
  cases hh : H a with
  | none => exact (X.none e hh).1
  | some ob =>
    obtain ⟨o', ho', hn⟩ := (R.objs a ob hh).notImm
    rw [e] at ho'; cases ho'; exact absurd i hn
theorem Rel.tok {c : Cx} {H : AH} {s : Shared} (R : Rel c H s) (t : Nat) : Rel c H { s with toks := t } := by
  obtain ⟨⟨h, tk, rfl⟩, k, o⟩ := R
  exact ⟨⟨h, t, rfl⟩, k, o⟩

noncomputable def Post (c : Cx) (H : AH) (h : Heap) (Q : AV → AH → Prop) : Value → Shared → Prop :=
  fun v s' => ∃ av H', Rel c H' s' ∧ Ext H h H' s'.heap ∧ VR s'.heap av v ∧ Q av H'
noncomputable def PostB (c : Cx) (H : AH) (h : Heap) (Q : Bool → AH → Prop) : Bool → Shared → Prop :=
  fun b s' => ∃ H', Rel c H' s' ∧ Ext H h H' s'.heap ∧ Q b H'
noncomputable def PostU (c : Cx) (H : AH) (h : Heap) (Q : AH → Prop) : Unit → Shared → Prop :=
  fun _ s' => ∃ H', Rel c H' s' ∧ Ext H h H' s'.heap ∧ Q H'
noncomputable def PostL (c : Cx) (H : AH) (h : Heap) (Q : List AV → AH → Prop) : List Value → Shared → Prop :=
  fun v s' => ∃ av H', Rel c H' s' ∧ Ext H h H' s'.heap ∧ VRs s'.heap av v ∧ Q av H'

/-! ## rooms, environments -/
structure Rm (n : Nat) (A : Around) : Prop where
  handled : A.handled = none
  depth : A.depth + n < 1000
  units : A.units + 20 * n < 9000
theorem Rm.deeper {n : Nat} {A : Around} (r : Rm (n + 1) A) (env : Env) : Rm n (A.deeper env) := by
  have h1 := r.depth
  have h2 := r.units
  refine ⟨r.handled, ?_, ?_⟩
  · show A.depth + 1 + n < 1000; omega
  · show A.units + 3 + 20 * n < 9000; omega
theorem Rm.in1 {n : Nat} {A : Around} (r : Rm (n + 1) A) : Rm n A.in1 := by
  have h1 := r.depth
  have h2 := r.units
  refine ⟨r.handled, ?_, ?_⟩
  · show A.depth + n < 1000; omega
  · show A.units + 1 + 20 * n < 9000; omega
theorem Rm.le {n m : Nat} {A : Around} (r : Rm n A) (h : m ≤ n) : Rm m A := by
  have h1 := r.depth
  have h2 := r.units
  exact ⟨r.handled, by omega, by omega⟩

structure EnvOk (c : Cx) (ce : CE) (env : Env) : Prop where
  kind : env.scope.kind = .function
  names : env.scope.names = ce.names
  globals : env.globals = mainGlobals
  builtins : env.builtins = builtinsNs
  fns : ce.fns = c.fns.map (·.1)
  cons : ce.cons = c.cons.map (·.1)
  nodup : ce.nm.Nodup
theorem EnvOk.kindOf {c : Cx} {ce : CE} {env : Env} (o : EnvOk c ce env) (x : Str) : env.kindOf x = ce.kind x := by
  unfold Env.kindOf CE.kind; rw [o.names]

abbrev Loc := List (Option AV)

structure EnvAt (c : Cx) (nm : List Str) (env : Env) (ρ : Loc) (H : AH) (h : Heap) : Prop where
  ns : ∃ m, h.Ns env.locals m ∧ ∀ (i : Nat) (x : Str) (av : AV), nm[i]? = some x → ρ[i]? = some (some av) → env.kindOf x = some .local → ∃ v, m x = some v ∧ VR h av v
  nh : H env.locals = none
  nb : c.s0.heap.get? env.locals = none
  cell : ∀ (x : Str) (d : Addr), env.cells.lookup x = some d → H d = none ∧ c.s0.heap.get? d = none ∧ ∃ v, h.IsCell d v
  cv : ∀ (i : Nat) (x : Str) (av : AV), nm[i]? = some x → ρ[i]? = some (some av) → env.kindOf x = some .cell → ∃ d v, env.cells.lookup x = some d ∧ h.IsCell d (some v) ∧ VR h av v
  hasc : ∀ (x : Str), env.kindOf x = some .cell → ∃ d, env.cells.lookup x = some d
  apart : ∀ (x y : Str) (d : Addr), env.cells.lookup x = some d → env.cells.lookup y = some d → x = y
  len : ρ.length = nm.length

theorem EnvAt.ext {c : Cx} {nm : List Str} {env : Env} {ρ : Loc} {H H' : AH} {h h' : Heap} (V : EnvAt c nm env ρ H h) (X : Ext H h H' h') (k : KI h h') : EnvAt c nm env ρ H' h' := by
  obtain ⟨⟨m, ⟨o, es, ep, ho, hr⟩, hm⟩, nh, nb, cell, cv, hasc, ap, len⟩ := V
  refine ⟨⟨m, ⟨o, es, ep, (X.none ho nh).1, hr⟩, fun i x av h1 h2 h3 => ?_⟩, (X.none ho nh).2, nb, fun x c hc => ?_, fun i x av h1 h2 h3 => ?_, hasc, ap, len⟩
  · obtain ⟨v, h4, h5⟩ := hm i x av h1 h2 h3; exact ⟨v, h4, h5.mono k⟩
  · obtain ⟨h1, h2, v, o', ho', hd⟩ := cell x c hc
    exact ⟨(X.none ho' h1).2, h2, v, o', (X.none ho' h1).1, hd⟩
  · obtain ⟨c, v, h4, ⟨o', ho', hd⟩, h6⟩ := cv i x av h1 h2 h3
    exact ⟨c, v, h4, ⟨o', (X.none ho' (cell x c h4).1).1, hd⟩, h6.mono k⟩

/-! ## triples -/
abbrev MM (c : Cx) : Model := model c.prog c.w

noncomputable def WX (c : Cx) (n : Nat) (x : X) (ρ : Loc) (H : AH) (Q : AV → AH → Prop) : Prop :=
  ∀ (ce : CE) (e : Expr), Cmp x ce e → ∀ (A : Around) (env : Env) (s : Shared) (E : Value → Shared → Prop), Rm n A → EnvOk c ce env → Rel c H s → EnvAt c ce.nm env ρ H s.heap →
    wpAny (MM c) A (eval e env) (Post c H s.heap Q) E s
noncomputable def WT (c : Cx) (n : Nat) (x : X) (ρ : Loc) (H : AH) (Q : Bool → AH → Prop) : Prop :=
  ∀ (ce : CE) (e : Expr), Cmp x ce e → ∀ (A : Around) (env : Env) (s : Shared) (E : Value → Shared → Prop), Rm n A → EnvOk c ce env → Rel c H s → EnvAt c ce.nm env ρ H s.heap →
    wpAny (MM c) A (isTrue e env (eval e env)) (PostB c H s.heap Q) E s
noncomputable def WL (c : Cx) (n : Nat) (xs : List X) (ρ : Loc) (H : AH) (Q : List AV → AH → Prop) : Prop :=
  ∀ (ce : CE) (es : List Expr), Cmps xs ce es → ∀ (A : Around) (env : Env) (s : Shared) (E : Value → Shared → Prop) (pos : Pos), Rm n A → EnvOk c ce env → Rel c H s → EnvAt c ce.nm env ρ H s.heap →
    wpAny (MM c) A (spliced (backTo pos (starEach es env))) (PostL c H s.heap Q) E s

inductive Fl where
  | next | brk | cont | ret (v : AV)
inductive FlR (h : Heap) : Fl → Flow → Prop
  | next : FlR h .next .next
  | brk : FlR h .brk .brk
  | cont : FlR h .cont .cont
  | ret {a : AV} {v : Value} : VR h a v → FlR h (.ret a) (.ret v)

noncomputable def OwnA (env : Env) (b : Addr) : Prop := b = env.locals ∨ ∃ x, env.cells.lookup x = some b
noncomputable def ExtE (env : Env) (H : AH) (h : Heap) (H' : AH) (h' : Heap) : Prop := ∀ b o, h.get? b = some o → Fz (H b) = true → ¬ OwnA env b → h'.get? b = some o ∧ H' b = H b
theorem ExtE.refl (env : Env) (H : AH) (h : Heap) : ExtE env H h H h := fun _ _ e _ _ => ⟨e, rfl⟩
theorem ExtE.trans {env : Env} {H₁ H₂ H₃ : AH} {h₁ h₂ h₃ : Heap} (a : ExtE env H₁ h₁ H₂ h₂) (b : ExtE env H₂ h₂ H₃ h₃) : ExtE env H₁ h₁ H₃ h₃ := fun x o e n w => by
  obtain ⟨e', n'⟩ := a x o e n w
  obtain ⟨e'', n''⟩ := b x o e' (n' ▸ n) w
  exact ⟨e'', n''.trans n'⟩
theorem Ext.toE {env : Env} {H H' : AH} {h h' : Heap} (a : Ext H h H' h') : ExtE env H h H' h' := fun x o e n _ => a x o e n

noncomputable def PostS (c : Cx) (nm : List Str) (env : Env) (H : AH) (h : Heap) (Q : Fl → Loc → AH → Prop) : Flow → Shared → Prop :=
  fun fl s' => ∃ f ρ' H', Rel c H' s' ∧ ExtE env H h H' s'.heap ∧ EnvAt c nm env ρ' H' s'.heap ∧ FlR s'.heap f fl ∧ Q f ρ' H'

noncomputable def WS (c : Cx) (n : Nat) (xs : List XS) (ρ : Loc) (H : AH) (Q : Fl → Loc → AH → Prop) : Prop :=
  ∀ (ce : CE) (ss : List Stmt), CmpSs xs ce ss → ∀ (A : Around) (env : Env) (s : Shared) (E : Value → Shared → Prop), Rm n A → EnvOk c ce env → Rel c H s → EnvAt c ce.nm env ρ H s.heap →
    wpAny (MM c) A (execs ss env) (PostS c ce.nm env H s.heap Q) E s
noncomputable def W1 (c : Cx) (n : Nat) (x : XS) (ρ : Loc) (H : AH) (Q : Fl → Loc → AH → Prop) : Prop :=
  ∀ (ce : CE) (st : Stmt), CmpS x ce st → ∀ (A : Around) (env : Env) (s : Shared) (E : Value → Shared → Prop), Rm n A → EnvOk c ce env → Rel c H s → EnvAt c ce.nm env ρ H s.heap →
    wpAny (MM c) A (exec st env) (PostS c ce.nm env H s.heap Q) E s

noncomputable def CW (c : Cx) (n : Nat) (i : Nat) (vs : List AV) (H : AH) (Q : AV → AH → Prop) : Prop :=
  ∀ (f : Str) (a : Addr) (A : Around) (s : Shared) (cvs : List Value) (E : Value → Shared → Prop), (c.fns.map (·.1))[i]? = some f → c.mg f = some (.ref a) → Rm n A → Rel c H s → VRs s.heap vs cvs →
    wpAny (MM c) A (call (.ref a) cvs []) (Post c H s.heap Q) E s
noncomputable def BW (c : Cx) (n : Nat) (b : BI) (vs : List AV) (H : AH) (Q : AV → AH → Prop) : Prop :=
  ∀ (A : Around) (s : Shared) (cvs : List Value) (E : Value → Shared → Prop), Rm n A → Rel c H s → VRs s.heap vs cvs →
    wpAny (MM c) A (call b.val cvs []) (Post c H s.heap Q) E s
noncomputable def OW (c : Cx) (n : Nat) (op : Operator) (a b : AV) (H : AH) (Q : AV → AH → Prop) : Prop :=
  ∀ (A : Around) (s : Shared) (ca cb : Value) (E : Value → Shared → Prop), Rm n A → Rel c H s → VR s.heap a ca → VR s.heap b cb →
    wpAny (MM c) A (binaryOp op ca cb) (Post c H s.heap Q) E s
noncomputable def KW (c : Cx) (n : Nat) (op : CmpOp) (a b : AV) (H : AH) (Q : Bool → AH → Prop) : Prop :=
  ∀ (A : Around) (s : Shared) (ca cb : Value) (E : Value → Shared → Prop), Rm n A → Rel c H s → VR s.heap a ca → VR s.heap b cb →
    wpAny (MM c) A (compareOp op ca cb) (fun v s' => ∃ bb, v = .bool bb ∧ PostB c H s.heap Q bb s') E s
noncomputable def TW (c : Cx) (n : Nat) (a : AV) (H : AH) (Q : Bool → AH → Prop) : Prop :=
  ∀ (A : Around) (s : Shared) (ca : Value) (E : Value → Shared → Prop), Rm n A → Rel c H s → VR s.heap a ca →
    wpAny (MM c) A (truthy ca) (PostB c H s.heap Q) E s
noncomputable def GW (c : Cx) (n : Nat) (o i : AV) (H : AH) (Q : AV → AH → Prop) : Prop :=
  ∀ (A : Around) (s : Shared) (co ci : Value) (E : Value → Shared → Prop), Rm n A → Rel c H s → VR s.heap o co → VR s.heap i ci →
    ∃ T id, s.TypeIs co T ∧ typeLookup (.type T) "__getitem__" = pure (some (.builtin id)) ∧ wpAny (MM c) A (getItem co ci) (Post c H s.heap Q) E s
noncomputable def SW (c : Cx) (n : Nat) (o i v : AV) (H : AH) (Q : AH → Prop) : Prop :=
  ∀ (A : Around) (s : Shared) (co ci cv : Value) (E : Value → Shared → Prop), Rm n A → Rel c H s → VR s.heap o co → VR s.heap i ci → VR s.heap v cv →
    wpAny (MM c) A (setItem co ci cv) (PostU c H s.heap Q) E s
end Mine

set_option maxRecDepth 10000
set_option autoImplicit false
set_option genSizeOf false
set_option genSizeOfSpec false
set_option genInjectivity false
namespace Mine
open PySem

section
variable {c : Cx} {n : Nat} {ρ : Loc} {H : AH}

theorem Post.same {s : Shared} {Q : AV → AH → Prop} {av : AV} {v : Value} (R : Rel c H s) (hv : VR s.heap av v) (hq : Q av H) : Post c H s.heap Q v s := ⟨av, H, R, .refl _ _, hv, hq⟩
theorem Post.tok {s : Shared} {Q : AV → AH → Prop} {av : AV} {v : Value} (t : Nat) (R : Rel c H s) (hv : VR s.heap av v) (hq : Q av H) : Post c H s.heap Q v { s with toks := t } := ⟨av, H, R.tok t, .refl _ _, hv, hq⟩
theorem Post.trans {H' : AH} {h h' : Heap} {Q : AV → AH → Prop} {v : Value} {s : Shared} (X : Ext H h H' h') (p : Post c H' h' Q v s) : Post c H h Q v s :=
  let ⟨av, H'', R, X', V, q⟩ := p; ⟨av, H'', R, X.trans X', V, q⟩
theorem PostB.trans {H' : AH} {h h' : Heap} {Q : Bool → AH → Prop} {v : Bool} {s : Shared} (X : Ext H h H' h') (p : PostB c H' h' Q v s) : PostB c H h Q v s :=
  let ⟨H'', R, X', q⟩ := p; ⟨H'', R, X.trans X', q⟩
theorem PostB.same {s : Shared} {Q : Bool → AH → Prop} {b : Bool} (R : Rel c H s) (hq : Q b H) : PostB c H s.heap Q b s := ⟨H, R, .refl _ _, hq⟩
theorem PostL.trans {H' : AH} {h h' : Heap} {Q : List AV → AH → Prop} {v : List Value} {s : Shared} (X : Ext H h H' h') (p : PostL c H' h' Q v s) : PostL c H h Q v s :=
  let ⟨av, H'', R, X', V, q⟩ := p; ⟨av, H'', R, X.trans X', V, q⟩

theorem mono' {α : Type} {M : Model} {A : Around} {t : Sem α} {Q Q' : α → Shared → Prop} {E : Value → Shared → Prop} {s : Shared} (h : wpAny M A t Q E s) (k : ∀ a s, Q a s → Q' a s) : wpAny M A t Q' E s :=
  wpAny_mono h k fun _ _ x => x

/-! constants, names -/
theorem WX.none_ {Q : AV → AH → Prop} (h : Q .none H) : WX c n .none ρ H Q := by
  intro ce e hc A env s E _ _ R _; obtain ⟨k, p, rfl⟩ := hc; exact wpAny_Constant_none (.same R .none h)
theorem WX.bool_ {b : Bool} {Q : AV → AH → Prop} (h : Q (.bool b) H) : WX c n (.bool b) ρ H Q := by
  intro ce e hc A env s E _ _ R _; obtain ⟨k, p, rfl⟩ := hc; exact wpAny_Constant_bool (.same R (.bool b) h)
theorem WX.int_ {i : Int} {Q : AV → AH → Prop} (h : Q (.int i) H) : WX c n (.int i) ρ H Q := by
  intro ce e hc A env s E _ _ R _; obtain ⟨k, p, rfl⟩ := hc; exact wpAny_Constant_int (.tok _ R (.int _ _) h)
theorem WX.str_ {i : Str} {Q : AV → AH → Prop} (h : Q (.str i) H) : WX c n (.str i) ρ H Q := by
  intro ce e hc A env s E _ _ R _; obtain ⟨k, p, rfl⟩ := hc; exact wpAny_Constant_str (.tok _ R (.str _ _) h)

theorem WX.var_ {i : Nat} {v : AV} {Q : AV → AH → Prop} (hv : ρ[i]? = some (some v)) (h : Q v H) : WX c n (.var i) ρ H Q := by
  intro ce e hc A env s E _ O R V
  obtain ⟨x, p, rfl, h1, h2, h3⟩ := hc
  · rcases h2 with h2 | h2
    · obtain ⟨m, hn, hm⟩ := V.ns
      obtain ⟨v', hv', hr⟩ := hm i _ _ h1 hv (by rw [O.kindOf]; exact h2)
      exact wpAny_Name (wpAny_loadName_local O.kind (by rw [O.kindOf]; exact h2) hn hv' (.same R hr h)) h3
    · obtain ⟨ca, v', hl, hcell, hr⟩ := V.cv i _ _ h1 hv (by rw [O.kindOf]; exact h2)
      exact wpAny_Name (wpAny_loadName_cell O.kind (by rw [O.kindOf]; exact h2) hl hcell (.same R hr h)) h3

theorem WX.con_ {k : Nat} {x : Str} {v : AV} {Q : AV → AH → Prop} (hv : c.cons[k]? = some (x, v)) (h : Q v H) : WX c n (.con k) ρ H Q := by
  intro ce e hc A env s E _ O R V
  obtain ⟨x', p, rfl, h1, h2, h3⟩ := hc
  · obtain ⟨cv, h4, h5⟩ := c.con k x v hv
    rw [O.cons, List.getElem?_map, hv] at h1
    cases h1
    refine Calls.Name_function_global O.kind (by rw [O.kindOf]; exact h2) ?_ h3
    refine Calls.loadGlobal_global (mg := c.mg) (by rw [O.globals]; exact c.g.keeps R.keep) h4 (.same R (h5.mono (.of_keeps R.keep)) h)

/-! operators -/
theorem WX.bin_ {op : Operator} {l r : X} {Q : AV → AH → Prop} (h : WX c n l ρ H fun a H1 => WX c n r ρ H1 fun b H2 => OW c n op a b H2 Q) : WX c n (.bin op l r) ρ H Q := by
  intro ce e hc A env s E rm O R V
  obtain ⟨l', r', p, rfl, hl, hr⟩ := hc
  · refine wpAny_BinOp (mono' (h ce _ hl A env s E rm O R V) ?_)
    rintro a s1 ⟨av, H1, R1, X1, V1, q1⟩
    refine mono' (q1 ce _ hr A env s1 E rm O R1 (V.ext X1 (R.ki X1))) ?_
    rintro b s2 ⟨bv, H2, R2, X2, V2, q2⟩
    exact mono' (q2 A s2 a b E rm R2 (V1.mono (R1.ki X2)) V2) fun v s3 p => (p.trans X2).trans X1

theorem WX.cmp_ {op : CmpOp} {l r : X} {Q : AV → AH → Prop} (h : WX c n l ρ H fun a H1 => WX c n r ρ H1 fun b H2 => KW c n op a b H2 fun t H3 => Q (.bool t) H3) : WX c n (.cmp op l r) ρ H Q := by
  intro ce e hc A env s E rm O R V
  obtain ⟨l', r', p, rfl, hl, hr, hm⟩ := hc
  · refine wpAny_Compare1 (mono' (h ce _ hl A env s E rm O R V) ?_) hm
    rintro a s1 ⟨av, H1, R1, X1, V1, q1⟩
    refine mono' (q1 ce _ hr A env s1 E rm O R1 (V.ext X1 (R.ki X1))) ?_
    rintro b s2 ⟨bv, H2, R2, X2, V2, q2⟩
    refine mono' (q2 A s2 a b E rm R2 (V1.mono (R1.ki X2)) V2) ?_
    rintro v s3 ⟨t, rfl, H3, R3, X3, q3⟩
    exact ⟨_, H3, R3, (X1.trans X2).trans X3, .bool t, q3⟩
theorem WT.cmp_ {op : CmpOp} {l r : X} {Q : Bool → AH → Prop} (h : WX c n l ρ H fun a H1 => WX c n r ρ H1 fun b H2 => KW c n op a b H2 Q) : WT c n (.cmp op l r) ρ H Q := by
  intro ce e hc A env s E rm O R V
  obtain ⟨l', r', p, rfl, hl, hr, hm⟩ := hc
  · refine wpAny_isTrue_Compare1 (mono' (h ce _ hl A env s E rm O R V) ?_) hm
    rintro a s1 ⟨av, H1, R1, X1, V1, q1⟩
    refine mono' (q1 ce _ hr A env s1 E rm O R1 (V.ext X1 (R.ki X1))) ?_
    rintro b s2 ⟨bv, H2, R2, X2, V2, q2⟩
    refine mono' (q2 A s2 a b E rm R2 (V1.mono (R1.ki X2)) V2) ?_
    rintro v s3 ⟨t, rfl, H3, R3, X3, q3⟩
    exact wpAny_truthy_bool ⟨H3, R3, (X1.trans X2).trans X3, q3⟩

theorem markedEach2 {o1 o2 : CmpOp} {m r : Expr} {a b : Sem Value} (h : lastMarks [o1, o2] [m, r] = false) : markedEach [o1, o2] [m, r] [a, b] = [a, b] := by
  have h' : behindInMarks o2 r = false := by simpa [lastMarks] using h
  simp [markedEach, markedBehindIn_of_false h']

theorem WX.neg_ {x : X} {Q : AV → AH → Prop} (h : WX c n x ρ H fun a H1 => ∃ i, a = .int i ∧ Q (.int (-i)) H1) : WX c n (.neg x) ρ H Q := by
  intro ce e hc A env s E rm O R V
  obtain ⟨x', p, rfl, hx⟩ := hc
  · refine wpAny_UnaryOp (mono' (h ce _ hx A env s E rm O R V) ?_)
    rintro a s1 ⟨av, H1, R1, X1, V1, i, rfl, q1⟩
    cases V1 with
    | int _ t => exact P.neg_int (Post.trans X1 (.tok _ R1 (.int _ _) q1))
theorem WX.not_ {x : X} {Q : AV → AH → Prop} (h : WX c n x ρ H fun a H1 => TW c n a H1 fun b H2 => Q (.bool (!b)) H2) : WX c n (.not x) ρ H Q := by
  intro ce e hc A env s E rm O R V
  obtain ⟨x', p, rfl, hx⟩ := hc
  · refine wpAny_UnaryOp (mono' (h ce _ hx A env s E rm O R V) ?_)
    rintro a s1 ⟨av, H1, R1, X1, V1, q1⟩
    refine not_value (mono' (q1 A s1 a E rm R1 V1) ?_)
    rintro b s2 ⟨H2, R2, X2, q2⟩
    exact ⟨_, H2, R2, X1.trans X2, .bool _, q2⟩
theorem WT.not_ {x : X} {Q : Bool → AH → Prop} (h : WT c n x ρ H fun b H1 => Q (!b) H1) : WT c n (.not x) ρ H Q := by
  intro ce e hc A env s E rm O R V
  obtain ⟨x', p, rfl, hx⟩ := hc
  exact wpAny_isTrue_Not (mono' (h ce _ hx A env s E rm O R V) fun b s1 p => p)

noncomputable def WA (c : Cx) (n : Nat) (op : BoolOp) (l : List X) (ρ : Loc) (H : AH) (Q : AV → AH → Prop) : Prop :=
  ∀ (ce : CE) (es : List Expr), Cmps l ce es → ∀ (A : Around) (env : Env) (s : Shared) (E : Value → Shared → Prop) (pos : Pos), Rm n A → EnvOk c ce env → Rel c H s → EnvAt c ce.nm env ρ H s.heap →
    wpAny (MM c) A (boolOp pos op (evalEach es env)) (Post c H s.heap Q) E s
noncomputable def WB (c : Cx) (n : Nat) (op : BoolOp) (l : List X) (ρ : Loc) (H : AH) (Q : Bool → AH → Prop) : Prop :=
  ∀ (ce : CE) (es : List Expr), Cmps l ce es → ∀ (A : Around) (env : Env) (s : Shared) (E : Value → Shared → Prop), Rm n A → EnvOk c ce env → Rel c H s → EnvAt c ce.nm env ρ H s.heap →
    wpAny (MM c) A (allTrue op es env) (PostB c H s.heap Q) E s
theorem WX.ands_ {l : List X} {Q : AV → AH → Prop} (h : WA c n .And l ρ H Q) : WX c n (.ands l) ρ H Q := by
  intro ce e hc A env s E rm O R V
  obtain ⟨es, p, rfl, hs⟩ := hc
  exact h ce es hs A env s E p rm O R V
theorem WX.ors_ {l : List X} {Q : AV → AH → Prop} (h : WA c n .Or l ρ H Q) : WX c n (.ors l) ρ H Q := by
  intro ce e hc A env s E rm O R V
  obtain ⟨es, p, rfl, hs⟩ := hc
  exact h ce es hs A env s E p rm O R V
theorem WT.ands_ {l : List X} {Q : Bool → AH → Prop} (h : WB c n .And l ρ H Q) : WT c n (.ands l) ρ H Q := by
  intro ce e hc A env s E rm O R V
  obtain ⟨es, p, rfl, hs⟩ := hc
  exact wpAny_isTrue_BoolOp (h ce es hs A env s E rm O R V)
theorem WT.ors_ {l : List X} {Q : Bool → AH → Prop} (h : WB c n .Or l ρ H Q) : WT c n (.ors l) ρ H Q := by
  intro ce e hc A env s E rm O R V
  obtain ⟨es, p, rfl, hs⟩ := hc
  exact wpAny_isTrue_BoolOp (h ce es hs A env s E rm O R V)
theorem WA.one_ {op : BoolOp} {x : X} {Q : AV → AH → Prop} (h : WX c n x ρ H Q) : WA c n op [x] ρ H Q := by
  intro ce es hc A env s E p rm O R V
  obtain ⟨e, r, rfl, _, hx, rfl⟩ := hc
  exact h ce e hx A env s E rm O R V
theorem WA.and_ {x y : X} {l : List X} {Q : AV → AH → Prop} (h : WX c n x ρ H fun a H1 => TW c n a H1 fun t H2 => (t = true → WA c n .And (y :: l) ρ H2 Q) ∧ (t = false → Q a H2)) : WA c n .And (x :: y :: l) ρ H Q := by
  intro ce es hc A env s E p rm O R V
  obtain ⟨e, r, rfl, _, hx, hr⟩ := hc
  have hr' := hr
  obtain ⟨f, r', rfl, _⟩ := hr'
  show wpAny _ A (do
    let v ← eval e env
    standAt p
    let t ← holding [v] (truthy v)
    match BoolOp.And, t with
    | .And, false | .Or, true => pure v
    | _, _ => boolOp p .And (evalEach (f :: r') env)) _ _ _
  refine wpAny_bind (mono' (h ce _ hx A env s E rm O R V) ?_)
  rintro a s1 ⟨av, H1, R1, X1, V1, q1⟩
  refine wpAny_bind (wpAny_standAt (wpAny_bind (wpAny_holding (mono' (q1 A s1 a E rm R1 V1) ?_))))
  rintro t s2 ⟨H2, R2, X2, q2, q3⟩
  cases t with
  | false => exact wpAny_pure ⟨av, H2, R2, X1.trans X2, V1.mono (R1.ki X2), q3 rfl⟩
  | true => exact mono' (q2 rfl ce _ hr A env s2 E p rm O R2 ((V.ext X1 (R.ki X1)).ext X2 (R1.ki X2))) fun v s3 p => (p.trans X2).trans X1
theorem WA.or_ {x y : X} {l : List X} {Q : AV → AH → Prop} (h : WX c n x ρ H fun a H1 => TW c n a H1 fun t H2 => (t = false → WA c n .Or (y :: l) ρ H2 Q) ∧ (t = true → Q a H2)) : WA c n .Or (x :: y :: l) ρ H Q := by
  intro ce es hc A env s E p rm O R V
  obtain ⟨e, r, rfl, _, hx, hr⟩ := hc
  have hr' := hr
  obtain ⟨f, r', rfl, _⟩ := hr'
  show wpAny _ A (do
    let v ← eval e env
    standAt p
    let t ← holding [v] (truthy v)
    match BoolOp.Or, t with
    | .And, false | .Or, true => pure v
    | _, _ => boolOp p .Or (evalEach (f :: r') env)) _ _ _
  refine wpAny_bind (mono' (h ce _ hx A env s E rm O R V) ?_)
  rintro a s1 ⟨av, H1, R1, X1, V1, q1⟩
  refine wpAny_bind (wpAny_standAt (wpAny_bind (wpAny_holding (mono' (q1 A s1 a E rm R1 V1) ?_))))
  rintro t s2 ⟨H2, R2, X2, q2, q3⟩
  cases t with
  | true => exact wpAny_pure ⟨av, H2, R2, X1.trans X2, V1.mono (R1.ki X2), q3 rfl⟩
  | false => exact mono' (q2 rfl ce _ hr A env s2 E p rm O R2 ((V.ext X1 (R.ki X1)).ext X2 (R1.ki X2))) fun v s3 p => (p.trans X2).trans X1
theorem WB.and0_ {Q : Bool → AH → Prop} (h : Q true H) : WB c n .And [] ρ H Q := by
  intro ce es hc A env s E rm O R V
  obtain rfl : es = [] := hc
  exact wpAny_allTrue_And_nil (.same R h)
theorem WB.or0_ {Q : Bool → AH → Prop} (h : Q false H) : WB c n .Or [] ρ H Q := by
  intro ce es hc A env s E rm O R V
  obtain rfl : es = [] := hc
  exact wpAny_allTrue_Or_nil (.same R h)
theorem WB.and_ {x : X} {l : List X} {Q : Bool → AH → Prop} (h : WT c n x ρ H fun t H2 => (t = true → WB c n .And l ρ H2 Q) ∧ (t = false → Q false H2)) : WB c n .And (x :: l) ρ H Q := by
  intro ce es hc A env s E rm O R V
  obtain ⟨e, r, rfl, _, hx, hr⟩ := hc
  refine wpAny_allTrue_And_cons (mono' (h ce _ hx A env s E rm O R V) ?_)
  rintro t s2 ⟨H2, R2, X2, q2, q3⟩
  cases t with
  | false => exact ⟨H2, R2, X2, q3 rfl⟩
  | true => exact mono' (q2 rfl ce _ hr A env s2 E rm O R2 (V.ext X2 (R.ki X2))) fun v s3 p => p.trans X2
theorem WB.or_ {x : X} {l : List X} {Q : Bool → AH → Prop} (h : WT c n x ρ H fun t H2 => (t = false → WB c n .Or l ρ H2 Q) ∧ (t = true → Q true H2)) : WB c n .Or (x :: l) ρ H Q := by
  intro ce es hc A env s E rm O R V
  obtain ⟨e, r, rfl, _, hx, hr⟩ := hc
  refine wpAny_allTrue_Or_cons (mono' (h ce _ hx A env s E rm O R V) ?_)
  rintro t s2 ⟨H2, R2, X2, q2, q3⟩
  cases t with
  | true => exact ⟨H2, R2, X2, q3 rfl⟩
  | false => exact mono' (q2 rfl ce _ hr A env s2 E rm O R2 (V.ext X2 (R.ki X2))) fun v s3 p => p.trans X2

noncomputable def plainT : X → Bool
  | .var _ | .con _ | .call .. | .bi .. | .isi .. | .isi2 .. | .me .. | .sub .. | .bool _ => true
  | _ => false
theorem WT.val_ {x : X} {Q : Bool → AH → Prop} (h : WX c n x ρ H fun a H1 => TW c n a H1 Q) (hp : plainT x = true := by rfl) : WT c n x ρ H Q := by
  intro ce e hc A env s E rm O R V
  have g := h ce e hc A env s E rm O R V
  have he : isTrue e env (eval e env) = (do let v ← eval e env; standAt e.pos; holding [v] (truthy v)) := by
    cases x <;> first | (simp [plainT] at hp; done) | (obtain ⟨_, _, rfl⟩ := hc; rfl) | (obtain ⟨_, _, rfl, _⟩ := hc; rfl) | (obtain ⟨_, _, _, rfl, _⟩ := hc; rfl) | (obtain ⟨_, _, _, _, rfl, _⟩ := hc; rfl) | (obtain ⟨_, _, _, _, _, _, _, rfl, _⟩ := hc; rfl)
  refine wpAny_isTrue_value (mono' g ?_) he
  rintro a s1 ⟨av, H1, R1, X1, V1, q1⟩
  exact mono' (q1 A s1 a E rm R1 V1) fun b s2 p => p.trans X1

/-! truth -/
theorem TW.bool_ {b : Bool} {Q : Bool → AH → Prop} (h : Q b H) : TW c n (.bool b) H Q := by
  intro A s ca E rm R V; cases V; exact wpAny_truthy_bool (.same R h)
theorem TW.int_ {i : Int} {Q : Bool → AH → Prop} (h : Q (i != 0) H) : TW c n (.int i) H Q := by
  intro A s ca E rm R V; cases V; exact P.truthy_int (.same R h)

/-! lists of expressions -/
theorem starEach_plain {e : Expr} {es : List Expr} {env : Env} (h : plainExpr e = true) : starEach (e :: es) env = (false, eval e env) :: starEach es env := by
  cases e <;> first | rfl | (simp [plainExpr] at h)
theorem WL.nil_ {Q : List AV → AH → Prop} (h : Q [] H) : WL c n [] ρ H Q := by
  intro ce es hc A env s E pos rm O R V
  obtain rfl : es = [] := hc
  exact wpAny_items_nil ⟨[], H, R, .refl _ _, .nil, h⟩
theorem WL.cons_ {x : X} {xs : List X} {Q : List AV → AH → Prop} (h : WX c n x ρ H fun a H1 => WL c n xs ρ H1 fun l H2 => Q (a :: l) H2) : WL c n (x :: xs) ρ H Q := by
  intro ce es hc A env s E pos rm O R V
  obtain ⟨e, r, rfl, hp, hx, hr⟩ := hc
  · refine wpAny_items_cons (mono' (h ce _ hx A env s E rm O R V) ?_) (starEach_plain hp)
    rintro a s1 ⟨av, H1, R1, X1, V1, q1⟩
    refine mono' (q1 ce _ hr A env s1 E pos rm O R1 (V.ext X1 (R.ki X1))) ?_
    rintro l s2 ⟨lv, H2, R2, X2, V2, q2⟩
    exact ⟨_, H2, R2, X1.trans X2, .cons (V1.mono (R1.ki X2)) V2, q2⟩
end
end Mine

set_option maxRecDepth 10000
set_option autoImplicit false
set_option genSizeOf false
set_option genSizeOfSpec false
set_option genInjectivity false
namespace Mine
open PySem

section
variable {c : Cx} {n : Nat} {ρ : Loc} {H : AH}

theorem Rel.size_gt {s : Shared} (R : Rel c H s) : 3 < s.heap.objs.size := by
  obtain ⟨o, es, ep, ho, _⟩ := c.g
  exact Heap.lt_size (R.keep _ _ ho)
theorem Rel.fresh {s : Shared} (R : Rel c H s) : H s.heap.objs.size = none := by
  cases hh : H s.heap.objs.size with
  | none => rfl
  | some ob =>
    obtain ⟨o, ho, _⟩ := (R.objs _ ob hh).notImm
    exact absurd (Heap.lt_size ho) (Nat.lt_irrefl _)
theorem Rel.fresh0 {s : Shared} (R : Rel c H s) : c.s0.heap.get? s.heap.objs.size = none := by
  cases hh : c.s0.heap.get? s.heap.objs.size with
  | none => rfl
  | some ob => exact absurd (Heap.lt_size (R.keep _ _ hh)) (Nat.lt_irrefl _)
theorem ki_push (h : Heap) (o : Obj) : KI h (h.push o) := .of_keeps fun _ _ e => Heap.get?_push_of_some _ e
/-- a new object that H does not know -/
theorem Rel.push {s : Shared} (R : Rel c H s) (o : Obj) : Rel c H { s with heap := s.heap.push o } := by
  obtain ⟨⟨h, tk, rfl⟩, k, ob⟩ := R
  exact ⟨⟨_, _, rfl⟩, fun b o' e => Heap.get?_push_of_some _ (k b o' e), fun a o' e => (ob a o' e).mono (ki_push _ _) fun _ e' => Heap.get?_push_of_some _ e'⟩
theorem Ext.push (h : Heap) (o : Obj) : Ext H h H (h.push o) := fun _ _ e _ => ⟨Heap.get?_push_of_some _ e, rfl⟩
/-- a new object that H comes to know -/
theorem Rel.alloc {s : Shared} (R : Rel c H s) (o : Obj) (a : AObj) (h : ObjAt c (s.heap.push o) s.heap.objs.size a) : Rel c (H.set s.heap.objs.size a) { s with heap := s.heap.push o } := by
  have R' := R.push o
  refine ⟨R'.same, R'.keep, fun b ob e => ?_⟩
  by_cases hb : b = s.heap.objs.size
  · subst hb; simp at e; subst e; exact h
  · rw [AH.set_ne _ _ hb] at e; exact R'.objs b ob e
theorem Ext.alloc {s : Shared} (_R : Rel c H s) (o : Obj) (a : AObj) : Ext H s.heap (H.set s.heap.objs.size a) (s.heap.push o) := fun b ob e _ =>
  ⟨Heap.get?_push_of_some _ e, by rw [AH.set_ne _ _ (Nat.ne_of_lt (Heap.lt_size e))]⟩

/-! displays -/
theorem WX.tup_ {es : List X} {Q : AV → AH → Prop} (h : WL c n es ρ H fun l H1 => l.length ≤ 10000000 ∧ Q (.tup l) H1) : WX c n (.tup es) ρ H Q := by
  intro ce e hc A env s E rm O R V
  obtain ⟨es', k, p, rfl, hs⟩ := hc
  · refine wpAny_Tuple (mono' (h ce _ hs A env s E _ rm O R V) ?_)
    rintro vs s1 ⟨l, H1, R1, X1, V1, hl, q⟩
    refine ⟨by rw [V1.length]; exact Nat.le_trans hl (by decide), .tup l, H1, R1.push _, X1.trans (Ext.push _ _), ?_, q⟩
    exact .tup (IsT.new _ _) (by simpa using V1.mono (ki_push _ _))
theorem WX.list_ {es : List X} {Q : AV → AH → Prop} (h : WL c n es ρ H fun l H1 => l.length ≤ 10000000 ∧ ∀ r, H1 r = none → Q (.ref r) (H1.set r (.list true l))) : WX c n (.list es) ρ H Q := by
  intro ce e hc A env s E rm O R V
  obtain ⟨es', p, rfl, hs⟩ := hc
  · refine wpAny_List (mono' (h ce _ hs A env s E _ rm O R V) ?_)
    rintro vs s1 ⟨l, H1, R1, X1, V1, hl, q⟩
    refine ⟨by rw [V1.length]; exact Nat.le_trans hl (by decide), .ref _, H1.set s1.heap.objs.size (.list true l), R1.alloc _ _ ?_, X1.trans (Ext.alloc R1 _ _), .ref _, q _ R1.fresh⟩
    exact ⟨fun _ => R1.fresh0, _, _, IsL.new _ _, by simpa using V1.mono (ki_push _ _)⟩
theorem WX.dict0_ {Q : AV → AH → Prop} (h : ∀ r, H r = none → Q (.ref r) (H.set r (.dict true []))) : WX c n .dict0 ρ H Q := by
  intro ce e hc A env s E rm O R V
  obtain ⟨p, rfl⟩ := hc
  · refine wpAny_Dict_empty ⟨.ref _, H.set s.heap.objs.size (.dict true []), R.alloc _ _ ?_, Ext.alloc R _ _, .ref _, h _ R.fresh⟩
    refine ⟨fun _ => R.fresh0, ?_, [], Heap.DictOf.new _, rfl, .nil⟩
    have := R.size_gt
    show (s.heap.objs.size == 1) = false
    simp; omega

/-! subscripts -/
theorem subscripted_plain {e : Expr} (hc : notSlice e = true) (o i : Value) : subscripted e false o i = operate [o, i] (getItem o i) := by
  cases e <;> first | rfl | (simp [notSlice] at hc)
theorem WX.sub_ {v i : X} {Q : AV → AH → Prop} (h : WX c n v ρ H fun o H1 => WX c n i ρ H1 fun j H2 => GW c n o j H2 Q) : WX c n (.sub v i) ρ H Q := by
  intro ce e hc A env s E rm O R V
  obtain ⟨ev, ei, p, rfl, hns, hv, hi⟩ := hc
  · rw [eval_Subscript]
    refine wpAny_bind (mono' (h ce _ hv A env s E rm O R V) ?_)
    rintro a s1 ⟨av, H1, R1, X1, V1, q1⟩
    refine wpAny_bind (wpAny_holding (mono' (q1 ce _ hi A env s1 E rm O R1 (V.ext X1 (R.ki X1))) ?_))
    rintro b s2 ⟨bv, H2, R2, X2, V2, q2⟩
    obtain ⟨T, id, hT, hl, q3⟩ := q2 A s2 a b E rm R2 (V1.mono (R1.ki X2)) V2
    refine wpAny_bind (wpAny_standAt (wpAny_bind ?_))
    rw [getitemInPython_of_ne hT.not_modules]
    refine wpAny_bind (wpAny_specialOf hT hl ?_)
    have fin : wpAny (MM c) A (subscripted ei false a b) (fun r s₃ => wpAny (MM c) A (letTemporaryGo ev a r >>= fun _ => pure r) (Post c H s.heap Q) E s₃) E s2 := by
      rw [subscripted_plain hns]
      refine wpAny_operating (mono' q3 fun r s3 p => wpAny_bind (wpAny_letTemporaryGo (wpAny_pure ((p.trans X2).trans X1))))
    first
      | exact wpAny_pure (wpAny_bind fin)
      | exact wpAny_bind (wpAny_pure (wpAny_bind fin))
      | exact wpAny_bind fin

noncomputable def LW (c : Cx) (n : Nat) (o lo hi : AV) (H : AH) (Q : AV → AH → Prop) : Prop :=
  ∀ (A : Around) (s : Shared) (co cl cu : Value) (sl : Addr) (E : Value → Shared → Prop), Rm n A → Rel c H s → VR s.heap o co → VR s.heap lo cl → VR s.heap hi cu → s.heap.IsSliceOf sl cl cu .none →
    ∃ T id, s.TypeIs co T ∧ typeLookup (.type T) "__getitem__" = pure (some (.builtin id)) ∧ wpAny (MM c) A (getItem co (.ref sl)) (Post c H s.heap Q) E s
noncomputable def WO (c : Cx) (n : Nat) (x : Option X) (ρ : Loc) (H : AH) (Q : AV → AH → Prop) : Prop := match x with
  | none => Q .none H
  | some x => WX c n x ρ H Q
theorem WO.eval {x : Option X} {Q : AV → AH → Prop} (h : WO c n x ρ H Q) {ce : CE} {e : Option Expr} (hc : CmpO x ce e) {A : Around} {env : Env} {s : Shared} {E : Value → Shared → Prop}
    (rm : Rm n A) (O : EnvOk c ce env) (R : Rel c H s) (V : EnvAt c ce.nm env ρ H s.heap) : wpAny (MM c) A (evalPart e env) (Post c H s.heap Q) E s := by
  cases x with
  | none => obtain rfl : e = none := hc; exact wpAny_pure (.same R .none h)
  | some x => obtain ⟨e', rfl, hx⟩ := hc; exact h ce _ hx A env s E rm O R V
theorem WX.slc_ {v : X} {lo hi : Option X} {Q : AV → AH → Prop} (h : WX c n v ρ H fun o H1 => WO c n lo ρ H1 fun a H2 => WO c n hi ρ H2 fun b H3 => LW c n o a b H3 Q) : WX c n (.slc v lo hi) ρ H Q := by
  intro ce e hc A env s E rm O R V
  obtain ⟨ev, elo, ehi, sp, p, rfl, hv, hlo, hhi⟩ := hc
  · rw [eval_Subscript]
    refine wpAny_bind (mono' (h ce _ hv A env s E rm O R V) ?_)
    rintro a s1 ⟨av, H1, R1, X1, V1, q1⟩
    have V' := V.ext X1 (R.ki X1)
    refine wpAny_bind (wpAny_holding (wpAny_Slice (mono' (q1.eval hlo rm O R1 V') ?_)))
    rintro l s2 ⟨lv, H2, R2, X2, V2, q2⟩
    refine mono' (q2.eval hhi rm O R2 (V'.ext X2 (R1.ki X2))) ?_
    rintro u s3 ⟨uv, H3, R3, X3, V3, q3⟩
    rw [evalPart_none]
    refine wpAny_pure ?_
    refine wpAny_bind (wpAny_standAt (wpAny_bind ?_))
    obtain ⟨T, id, hT, hl, q4⟩ := q3 A { s3 with heap := s3.heap.push { cls := .type "slice", data := .fields #[l, u, .none] } } a l u s3.heap.objs.size E rm (R3.push _)
      (((V1.mono (R1.ki X2)).mono (R2.ki X3)).mono (ki_push _ _)) ((V2.mono (R2.ki X3)).mono (ki_push _ _)) (V3.mono (ki_push _ _)) (Heap.IsSliceOf.new ..)
    rw [getitemInPython_of_ne hT.not_modules]
    refine wpAny_bind (wpAny_specialOf hT hl ?_)
    have fin : wpAny (MM c) A (operate [.ref s3.heap.objs.size, a] (getItem a (.ref s3.heap.objs.size))) (fun r s₃ => wpAny (MM c) A (letTemporaryGo ev a r >>= fun _ => pure r) (Post c H s.heap Q) E s₃) E
        { s3 with heap := s3.heap.push { cls := .type "slice", data := .fields #[l, u, .none] } } :=
      wpAny_operating (mono' q4 fun r s3 p => wpAny_bind (wpAny_letTemporaryGo (wpAny_pure ((((p.trans (Ext.push _ _)).trans X3).trans X2).trans X1))))
    first
      | exact wpAny_pure (wpAny_bind fin)
      | exact wpAny_bind (wpAny_pure (wpAny_bind fin))
      | exact wpAny_bind fin

/-! calls -/
theorem starEach_any {ce : CE} {es : List Expr} {xs : List X} (hc : Cmps xs ce es) (env : Env) (pos : Pos) : (backTo pos (starEach es env)).any (·.1) = false := by
  induction xs generalizing es with
  | nil => obtain rfl : es = [] := hc; rfl
  | cons x xs ih =>
    obtain ⟨e, r, rfl, hp, hx, hr⟩ := hc
    rw [starEach_plain hp]
    show (false || (backTo pos (starEach r env)).any (·.1)) = false
    rw [ih hr]; rfl

theorem evalArgs_nil' {M : Model} {A : Around} {E : Value → Shared → Prop} {s : Shared} {f : Value} {Q : Args → Shared → Prop} (h : wpAny M A (spliced []) (fun vs s' => Q ⟨vs, []⟩ s') E s) : wpAny M A (evalArgs f true [] []) Q E s := by
  unfold evalArgs
  show wpAny M A (spliced [] >>= _) Q E s
  refine wpAny_bind (mono' h fun vs s' h' => ?_)
  refine wpAny_bind (wpAny_pure ?_)
  refine wpAny_holding ?_
  exact wpAny_bind (wpAny_pure (wpAny_bind (wpAny_pure (wpAny_pure h'))))
theorem WL.args {xs : List X} {Q : List AV → AH → Prop} (h : WL c n xs ρ H Q) {ce : CE} {es : List Expr} (hc : Cmps xs ce es) {A : Around} {env : Env} {s : Shared} {E : Value → Shared → Prop} {f : Value} (pos : Pos)
    (rm : Rm n A) (O : EnvOk c ce env) (R : Rel c H s) (V : EnvAt c ce.nm env ρ H s.heap) : wpAny (MM c) A (evalArgs f true (backTo pos (starEach es env)) []) (fun a s' => a.kw = [] ∧ PostL c H s.heap Q a.pos s') E s := by
  have g := h ce es hc A env s E pos rm O R V
  cases xs with
  | nil => obtain rfl : es = [] := hc; exact evalArgs_nil' (mono' g fun vs s' p => ⟨rfl, p⟩)
  | cons x xs =>
    obtain ⟨e, r, rfl, hp, hx, hr⟩ := hc
    rw [starEach_plain hp] at g ⊢
    exact Calls.evalArgs_plain (mono' g fun vs s' p => ⟨rfl, p⟩)

theorem fn_at {i : Nat} {f : Str} (h : (c.fns.map (·.1))[i]? = some f) : ∃ ir, c.fns[i]? = some (f, ir) := by
  rw [List.getElem?_map] at h
  cases e : c.fns[i]? with
  | none => rw [e] at h; cases h
  | some p => rw [e] at h; cases h; exact ⟨p.2, rfl⟩

theorem WX.call_ {i : Nat} {args : List X} {Q : AV → AH → Prop} (h : WL c n args ρ H fun vs H1 => CW c n i vs H1 Q) : WX c n (.call i args) ρ H Q := by
  intro ce e hc A env s E rm O R V
  obtain ⟨f, fp, es, p, rfl, hf, hk, hd, hs⟩ := hc
  · have hf' : (c.fns.map (·.1))[i]? = some f := by rw [← O.fns]; exact hf
    obtain ⟨ir, hir⟩ := fn_at hf'
    obtain ⟨a, o, fd, body, ce', hmg, ho, hdat, _⟩ := c.fn i f ir hir
    refine wpAny_Call_NameR (Calls.Name_function_global O.kind (by rw [O.kindOf]; exact hk) (Calls.loadGlobal_global (mg := c.mg) (by rw [O.globals]; exact c.g.keeps R.keep) hmg ?_) hd)
    refine Calls.callWith_function (o := o) (fd := fd) (mono' (h.args hs p rm O R V) ?_)
    rintro ⟨pos, kw⟩ s1 ⟨rfl, l, H1, R1, X1, V1, q1⟩
    refine ⟨⟨R1.keep _ _ ho, hdat⟩, ?_⟩
    exact mono' (q1 f a A s1 _ E hf' hmg rm R1 V1) fun v s2 p => p.trans X1

theorem BI.boot (b : BI) : bootBuiltins b.name = some b.val := by cases b <;> decide +kernel
theorem BI.notName (b : BI) : b.name ≠ ("__name__" : Str) := by cases b <;> decide +kernel
theorem BI.notDebug (b : BI) : (b.name == ("__debug__" : Str)) = false := by cases b <;> decide +kernel

theorem bi_name {b : BI} {ce : CE} {A : Around} {env : Env} {s : Shared} {E : Value → Shared → Prop} {p : Pos} {Q : Value → Shared → Prop} (hk : ce.kind b.name = some .globalImplicit) (O : EnvOk c ce env) (R : Rel c H s) (h : Q b.val s) :
    wpAny (MM c) A (eval (.Name b.name p) env) Q E s := by
  refine Calls.Name_function_global O.kind (by rw [O.kindOf]; exact hk) (Calls.loadGlobal_builtin (mg := c.mg) (mb := c.mb) (by rw [O.globals]; exact c.g.keeps R.keep) (c.bi b) (by rw [O.builtins]; exact c.b.keeps R.keep) ?_ h) b.notDebug
  rw [c.bs _ b.notName, b.boot]

theorem BI.vals (b : BI) : (∃ id, b.val = .builtin id) ∨ (∃ T, b.val = .type T) := by
  cases b <;> first | exact .inl ⟨_, rfl⟩ | exact .inr ⟨_, rfl⟩
theorem callWith_val {b : BI} {pos : Pos} {A : Around} {s : Shared} {E : Value → Shared → Prop} {args : List (Bool × Sem Value)} {Q : Value → Shared → Prop} (hp : args.any (·.1) = false)
    (h : wpAny (MM c) A (evalArgs b.val true args []) (fun a s₁ => wpAny (MM c) A (call b.val ([] ++ a.pos) a.kw) Q E s₁) E s) : wpAny (MM c) A (callWith pos b.val [] args []) Q E s := by
  rcases b.vals with ⟨id, e⟩ | ⟨T, e⟩
  · rw [e] at h ⊢; exact Calls.callWith_builtin hp h
  · rw [e] at h ⊢; exact callWith_type hp h

theorem WX.bi_ {b : BI} {args : List X} {Q : AV → AH → Prop} (h : WL c n args ρ H fun vs H1 => BW c n b vs H1 Q) : WX c n (.bi b args) ρ H Q := by
  intro ce e hc A env s E rm O R V
  obtain ⟨fp, es, p, rfl, hk, hs⟩ := hc
  · refine wpAny_Call_NameR (bi_name hk O R ?_)
    refine callWith_val (starEach_any hs env p) (mono' (h.args hs p rm O R V) ?_)
    rintro ⟨pos, kw⟩ s1 ⟨rfl, l, H1, R1, X1, V1, q1⟩
    exact mono' (q1 A s1 _ E rm R1 V1) fun v s2 p => p.trans X1
end
end Mine

set_option maxRecDepth 10000
set_option autoImplicit false
set_option genSizeOf false
set_option genSizeOfSpec false
set_option genInjectivity false
namespace Mine
open PySem

section
variable {c : Cx} {n : Nat} {ρ : Loc} {H : AH}

theorem ki_sameBut {a : Addr} {h h' : Heap} (hs : Heap.SameBut a h h') (hn : ∀ o, h.get? a = some o → ¬ Imm o) : KI h h' := fun b o e i =>
  (hs.2 b (fun q => hn o (q ▸ e) i)).trans e
theorem ki_extBut {a : Addr} {h h' : Heap} (hs : Heap.ExtBut a h h') (hn : ∀ o, h.get? a = some o → ¬ Imm o) : KI h h' := fun b o e i =>
  hs b o (fun q => hn o (q ▸ e) i) e
theorem Ns.notImm {a : Addr} {h : Heap} {m : Str → Option Value} (hn : h.Ns a m) : ∀ o, h.get? a = some o → ¬ Imm o := by
  obtain ⟨o, es, ep, ho, hd, _⟩ := hn
  intro o' e i
  rw [ho] at e; cases e
  rcases i with ⟨_, vs, k, e⟩ | ⟨_, vs, e⟩ <;> rw [hd] at e <;> cases e
theorem IsCell.notImm {a : Addr} {h : Heap} {v : Option Value} (hn : h.IsCell a v) : ∀ o, h.get? a = some o → ¬ Imm o := by
  obtain ⟨o, ho, hd⟩ := hn
  intro o' e i
  rw [ho] at e; cases e
  rcases i with ⟨_, vs, k, e⟩ | ⟨_, vs, e⟩ <;> rw [hd] at e <;> cases e

/-- an object that neither H nor the base knows has changed -/
theorem Rel.other {s : Shared} {a : Addr} {h' : Heap} {t : Nat} (R : Rel c H s) (x : Heap.ExtBut a s.heap h') (hH : H a = none) (hb : c.s0.heap.get? a = none) (hn : ∀ o, s.heap.get? a = some o → ¬ Imm o) :
    Rel c H { s with heap := h', toks := t } := by
  obtain ⟨⟨h, tk, rfl⟩, k, ob⟩ := R
  refine ⟨⟨_, _, rfl⟩, fun b o e => x b o (fun q => by rw [q, hb] at e; cases e) (k b o e), fun b o e => (ob b o e).mono (ki_extBut x hn) fun o' e' => x b o' (fun q => by rw [q, hH] at e; cases e) e'⟩

theorem FlR.mono {h h' : Heap} (k : KI h h') {f : Fl} {g : Flow} (x : FlR h f g) : FlR h' f g := by
  cases x with
  | next => exact .next
  | brk => exact .brk
  | cont => exact .cont
  | ret v => exact .ret (v.mono k)

theorem nodup_idx {l : List Str} (h : l.Nodup) {i j : Nat} {x : Str} (h1 : l[i]? = some x) (h2 : l[j]? = some x) : i = j := by
  obtain ⟨hi, e1⟩ := List.getElem?_eq_some_iff.mp h1
  obtain ⟨hj, e2⟩ := List.getElem?_eq_some_iff.mp h2
  exact (List.getElem_inj h).mp (e1.trans e2.symm)

theorem cell_ne {env : Env} {d : Addr} {h : Heap} {m : Str → Option Value} {v : Option Value} (hn : h.Ns env.locals m) (c3 : h.IsCell d v) : d ≠ env.locals := fun q => by
  subst q
  obtain ⟨o, _, _, ho, hd', _⟩ := hn
  obtain ⟨o', ho', hd''⟩ := c3
  rw [ho] at ho'; cases ho'; rw [hd'] at hd''; cases hd''
theorem storeL_ {ce : CE} {A : Around} {env : Env} {s : Shared} {E : Value → Shared → Prop} {x : Str} {i : Nat} {v : Value} {av : AV} (hx : ce.nm[i]? = some x) (hk : ce.kind x = some .local) (O : EnvOk c ce env) (R : Rel c H s) (V : EnvAt c ce.nm env ρ H s.heap) (hv : VR s.heap av v)
    {Q : Unit → Shared → Prop} (h : ∀ h' t, Rel c H { s with heap := h', toks := t } → Heap.SameBut env.locals s.heap h' → KI s.heap h' → EnvAt c ce.nm env (ρ.set i (some av)) H h' → Q () { s with heap := h', toks := t }) :
    wpAny (MM c) A (storeName env x v) Q E s := by
  have hk' : env.kindOf x = some .local := by rw [O.kindOf]; exact hk
  obtain ⟨m, hn, hm⟩ := V.ns
  refine wpAny_storeName_local hk' hn (fun h' hn' hs' => ?_) (by rw [O.kind]; rfl)
  have ki := ki_sameBut hs' (Ns.notImm hn)
  refine h h' _ (R.other hs'.extBut V.nh V.nb (Ns.notImm hn)) hs' ki ⟨⟨_, hn', fun j y bv h1 h2 h3 => ?_⟩, V.nh, V.nb, fun y d hd => ?_, fun j y bv h1 h2 h3 => ?_, V.hasc, V.apart, by rw [List.length_set]; exact V.len⟩
  · by_cases hy : y = x
    · subst hy
      have := nodup_idx O.nodup h1 hx; subst this
      rw [List.getElem?_set] at h2
      simp only [if_true] at h2
      split at h2
      · cases h2; exact ⟨v, by simp, hv.mono ki⟩
      · cases h2
    · have hij : i ≠ j := fun q => by subst q; rw [hx] at h1; cases h1; exact hy rfl
      rw [List.getElem?_set_ne hij] at h2
      obtain ⟨v', e1, e2⟩ := hm j y bv h1 h2 h3
      exact ⟨v', by simp [hy, e1], e2.mono ki⟩
  · obtain ⟨c1, c2, v', c3⟩ := V.cell y d hd
    exact ⟨c1, c2, v', c3.sameBut hs' (cell_ne hn c3)⟩
  · have hij : i ≠ j := fun q => by subst q; rw [hx] at h1; cases h1; rw [hk'] at h3; cases h3
    rw [List.getElem?_set_ne hij] at h2
    obtain ⟨d, v', e1, e2, e3⟩ := V.cv j y bv h1 h2 h3
    exact ⟨d, v', e1, e2.sameBut hs' (cell_ne hn e2), e3.mono ki⟩
theorem store_ {ce : CE} {A : Around} {env : Env} {s : Shared} {E : Value → Shared → Prop} {x : Str} {i : Nat} {v : Value} {av : AV} (hx : ce.nm[i]? = some x) (hk : isVar (ce.kind x)) (O : EnvOk c ce env) (R : Rel c H s) (V : EnvAt c ce.nm env ρ H s.heap) (hv : VR s.heap av v)
    {Q : Unit → Shared → Prop} (h : ∀ h' t, Rel c H { s with heap := h', toks := t } → ExtE env H s.heap H h' → KI s.heap h' → EnvAt c ce.nm env (ρ.set i (some av)) H h' → Q () { s with heap := h', toks := t }) :
    wpAny (MM c) A (storeName env x v) Q E s := by
  rcases hk with hk | hk
  · exact storeL_ hx hk O R V hv fun h' t R' hs' ki V' => h h' t R' (fun b o e f w => ⟨(hs'.2 b (fun q => w (.inl q))).trans e, rfl⟩) ki V'
  · have hk' : env.kindOf x = some .cell := by rw [O.kindOf]; exact hk
    obtain ⟨d, hd⟩ := V.hasc x hk'
    obtain ⟨c1, c2, v₀, c3⟩ := V.cell x d hd
    obtain ⟨m, hn, hm⟩ := V.ns
    have hdL : d ≠ env.locals := cell_ne hn c3
    refine wpAny_storeName_cell O.kind hk' hd c3 (fun h' hc' hs' => ?_)
    have ki := ki_sameBut hs' (IsCell.notImm c3)
    refine h h' s.toks (R.other hs'.extBut c1 c2 (IsCell.notImm c3)) (fun b o e f w => ⟨(hs'.2 b (fun q => w (.inr ⟨x, q ▸ hd⟩))).trans e, rfl⟩) ki ⟨⟨m, hn.sameBut hs' hdL.symm, fun j y bv h1 h2 h3 => ?_⟩, V.nh, V.nb, fun y d' hd' => ?_, fun j y bv h1 h2 h3 => ?_, V.hasc, V.apart, by rw [List.length_set]; exact V.len⟩
    · have hij : i ≠ j := fun q => by subst q; rw [hx] at h1; cases h1; rw [hk'] at h3; cases h3
      rw [List.getElem?_set_ne hij] at h2
      obtain ⟨v', e1, e2⟩ := hm j y bv h1 h2 h3
      exact ⟨v', e1, e2.mono ki⟩
    · obtain ⟨b1, b2, v', b3⟩ := V.cell y d' hd'
      by_cases q : d' = d
      · subst q; exact ⟨b1, b2, _, hc'⟩
      · exact ⟨b1, b2, v', b3.sameBut hs' q⟩
    · by_cases hy : y = x
      · subst hy
        have := nodup_idx O.nodup h1 hx; subst this
        rw [List.getElem?_set] at h2
        simp only [if_true] at h2
        split at h2
        · cases h2; exact ⟨d, v, hd, hc', hv.mono ki⟩
        · cases h2
      · have hij : i ≠ j := fun q => by subst q; rw [hx] at h1; cases h1; exact hy rfl
        rw [List.getElem?_set_ne hij] at h2
        obtain ⟨d', v', e1, e2, e3⟩ := V.cv j y bv h1 h2 h3
        exact ⟨d', v', e1, e2.sameBut hs' (fun q => hy (V.apart y x d (q ▸ e1) hd)), e3.mono ki⟩

/-! statements -/
theorem PostS.trans {nm : List Str} {env : Env} {H' : AH} {h h' : Heap} {Q : Fl → Loc → AH → Prop} {f : Flow} {s : Shared} (X : ExtE env H h H' h') (p : PostS c nm env H' h' Q f s) : PostS c nm env H h Q f s :=
  let ⟨a, ρ', H'', R, X', V, F, q⟩ := p; ⟨a, ρ', H'', R, X.trans X', V, F, q⟩

noncomputable def Then (c : Cx) (n : Nat) (rest : List XS) (Q : Fl → Loc → AH → Prop) : Fl → Loc → AH → Prop
  | .next, ρ, H => WS c n rest ρ H Q
  | .brk, ρ, H => Q .brk ρ H
  | .cont, ρ, H => Q .cont ρ H
  | .ret v, ρ, H => Q (.ret v) ρ H

theorem WS.nil_ {Q : Fl → Loc → AH → Prop} (h : Q .next ρ H) : WS c n [] ρ H Q := by
  intro ce ss hc A env s E rm O R V
  obtain rfl : ss = [] := hc
  exact wpAny_execs_nil ⟨.next, ρ, H, R, .refl _ _ _, V, .next, h⟩
theorem WS.cons_ {x : XS} {xs : List XS} {Q : Fl → Loc → AH → Prop} (h : W1 c n x ρ H (Then c n xs Q)) : WS c n (x :: xs) ρ H Q := by
  intro ce ss hc A env s E rm O R V
  obtain ⟨st, r, rfl, hx, hr⟩ := hc
  · refine wpAny_execs_cons (mono' (h ce _ hx A env s E rm O R V) ?_)
    rintro f s1 ⟨g, ρ1, H1, R1, X1, V1, F1, q1⟩
    cases F1 with
    | next => exact mono' (q1 ce _ hr A env s1 E rm O R1 V1) fun f s2 p => p.trans X1
    | brk => exact ⟨.brk, ρ1, H1, R1, X1, V1, .brk, q1⟩
    | cont => exact ⟨.cont, ρ1, H1, R1, X1, V1, .cont, q1⟩
    | ret v => exact ⟨.ret _, ρ1, H1, R1, X1, V1, .ret v, q1⟩

theorem W1.ret_ {x : X} {Q : Fl → Loc → AH → Prop} (h : WX c n x ρ H fun v H1 => Q (.ret v) ρ H1) : W1 c n (.ret x) ρ H Q := by
  intro ce st hc A env s E rm O R V
  obtain ⟨e, p, rfl, hx⟩ := hc
  · refine wpAny_Return_some (mono' (h ce _ hx A env s E rm O R V) ?_)
    rintro v s1 ⟨av, H1, R1, X1, V1, q1⟩
    exact ⟨.ret av, ρ, H1, R1, X1.toE, V.ext X1 (R.ki X1), .ret V1, q1⟩

theorem swaps_plain {e : Expr} (h : notComp e = true) (t : Option Expr) (l : Nat) (env : Env) : swapsWith e t l env = pure false := by
  cases e <;> first | rfl | (simp [notComp] at h)

theorem W1.expr_ {x : X} {Q : Fl → Loc → AH → Prop} (h : WX c n x ρ H fun _ H1 => Q .next ρ H1) : W1 c n (.expr x) ρ H Q := by
  intro ce st hc A env s E rm O R V
  obtain ⟨e, p, rfl, hn, hx⟩ := hc
  · refine wpAny_Expr_any (mono' (h ce _ hx A env s E rm O R V) ?_) ?_ ?_
    · rintro v s1 ⟨av, H1, R1, X1, V1, q1⟩
      exact ⟨.next, ρ, H1, R1, X1.toE, V.ext X1 (R.ki X1), .next, q1⟩
    · unfold interactive; rw [O.kind]; rfl
    · exact swaps_plain hn _ _ _

theorem W1.asg_ {i : Nat} {x : X} {Q : Fl → Loc → AH → Prop} (h : WX c n x ρ H fun v H1 => Q .next (ρ.set i (some v)) H1) : W1 c n (.asg i x) ρ H Q := by
  intro ce st hc A env s E rm O R V
  obtain ⟨x', px, e, p, rfl, hi, hk, hn, hx⟩ := hc
  · refine wpAny_Assign_Name (mono' (h ce _ hx A env s E rm O R V) ?_) (swaps_plain hn _ _ _)
    rintro v s1 ⟨av, H1, R1, X1, V1, q1⟩
    refine store_ hi hk O R1 (V.ext X1 (R.ki X1)) V1 fun h' t R2 X2 _ V2 => ?_
    exact ⟨.next, _, H1, R2, X1.toE.trans X2, V2, .next, q1⟩

theorem W1.ite_ {t : X} {bt be : List XS} {Q : Fl → Loc → AH → Prop} (h : WT c n t ρ H fun b H1 => (b = true → WS c n bt ρ H1 Q) ∧ (b = false → WS c n be ρ H1 Q)) : W1 c n (.ite t bt be) ρ H Q := by
  intro ce st hc A env s E rm O R V
  obtain ⟨t', b', e', p, rfl, ht, hb, he⟩ := hc
  · refine wpAny_If (mono' (h ce _ ht A env s E rm O R V) ?_)
    rintro b s1 ⟨H1, R1, X1, q1, q2⟩
    cases b with
    | true => exact mono' (q1 rfl ce _ hb A env s1 E rm O R1 (V.ext X1 (R.ki X1))) fun f s2 p => p.trans X1.toE
    | false => exact mono' (q2 rfl ce _ he A env s1 E rm O R1 (V.ext X1 (R.ki X1))) fun f s2 p => p.trans X1.toE

theorem W1.sets_ {o i v : X} {Q : Fl → Loc → AH → Prop}
    (h : WX c n v ρ H fun av H1 => WX c n o ρ H1 fun ao H2 => WX c n i ρ H2 fun ai H3 => SW c n ao ai av H3 fun H4 => Q .next ρ H4) : W1 c n (.sets o i v) ρ H Q := by
  intro ce st hc A env s E rm O R V
  obtain ⟨o', i', sp, e, p, rfl, hn, ho, hi, hv⟩ := hc
  · refine wpAny_Assign_Subscript (mono' (h ce _ hv A env s E rm O R V) ?_) (swaps_plain hn _ _ _)
    rintro v s1 ⟨av, H1, R1, X1, V1, q1⟩
    have V' := V.ext X1 (R.ki X1)
    refine mono' (q1 ce _ ho A env s1 E rm O R1 V') ?_
    rintro o s2 ⟨ao, H2, R2, X2, V2, q2⟩
    have V'' := V'.ext X2 (R1.ki X2)
    refine mono' (q2 ce _ hi A env s2 E rm O R2 V'') ?_
    rintro i s3 ⟨ai, H3, R3, X3, V3, q3⟩
    refine mono' (q3 A s3 o i v E rm R3 (V2.mono (R2.ki X3)) V3 ((V1.mono (R1.ki X2)).mono (R2.ki X3))) ?_
    rintro _ s4 ⟨H4, R4, X4, q4⟩
    exact ⟨.next, ρ, H4, R4, (((X1.trans X2).trans X3).trans X4).toE, (V''.ext X3 (R2.ki X3)).ext X4 (R3.ki X4), .next, q4⟩

/-! unpacking -/
noncomputable def setAll (ρ : Loc) : List Nat → List AV → Loc
  | i :: is, v :: vs => setAll (ρ.set i (some v)) is vs
  | _, _ => ρ
theorem Names.length {ce : CE} {env : Env} : ∀ {is : List Nat} {es : List Expr}, Names is ce es → (assignEach es env).length = is.length
  | [], _, h => by obtain rfl : _ = [] := h; rfl
  | _ :: _, _, h => by
    obtain ⟨x, px, r, rfl, _, _, hr⟩ := h
    show (_ :: assignEach _ env).length = _
    simp [Names.length hr]
theorem Names.noStar {ce : CE} {env : Env} : ∀ {is : List Nat} {es : List Expr}, Names is ce es → (assignEach es env).findIdx? (·.1) = none
  | [], _, h => by obtain rfl : _ = [] := h; rfl
  | _ :: _, _, h => by
    obtain ⟨x, px, r, rfl, _, _, hr⟩ := h
    show List.findIdx? _ ((false, assign (.Name x px) env) :: assignEach r env) = none
    rw [List.findIdx?_cons]
    simp [Names.noStar hr]
theorem inOrder_ {ce : CE} {A : Around} {env : Env} {E : Value → Shared → Prop} (O : EnvOk c ce env) :
    ∀ {is : List Nat} {es : List Expr} (_ : Names is ce es) {vs : List Value} {avs : List AV} {ρ : Loc} {s : Shared} {Q : Unit → Shared → Prop}, Rel c H s → EnvAt c ce.nm env ρ H s.heap → VRs s.heap avs vs →
      (∀ s', Rel c H s' → ExtE env H s.heap H s'.heap → EnvAt c ce.nm env (setAll ρ is avs) H s'.heap → Q () s') → wpAny (MM c) A (assignInOrder ((assignEach es env).map (·.2)) vs) Q E s
  | [], _, hn, vs, avs, ρ, s, Q, R, V, hv, h => by
    obtain rfl : _ = [] := hn
    show wpAny _ _ (assignInOrder [] vs) _ _ _
    have e : assignInOrder [] vs = pure () := by cases vs <;> rfl
    have e2 : setAll ρ [] avs = ρ := by cases avs <;> rfl
    rw [e]
    exact wpAny_pure (h s R (.refl _ _ _) (e2 ▸ V))
  | i :: is, _, hn, _, _, ρ, s, Q, R, V, .nil, h => by
    obtain ⟨x, px, es, rfl, hx, hk, hr⟩ := hn
    exact wpAny_pure (h s R (.refl _ _ _) V)
  | i :: is, _, hn, _, _, ρ, s, Q, R, V, .cons (v := v) (vs := vs) h1 h2, h => by
    obtain ⟨x, px, es, rfl, hx, hk, hr⟩ := hn
    show wpAny _ _ (do holding vs (assign (.Name x px) env v); assignInOrder ((assignEach es env).map (·.2)) vs) _ _ _
    refine wpAny_bind (wpAny_holding (wpAny_assign_Name ?_))
    refine store_ hx hk O R V h1 fun h' t R2 X2 ki V2 => ?_
    exact inOrder_ O hr R2 V2 (h2.mono ki) fun s' R3 X3 V3 => h s' R3 (X2.trans X3) V3

theorem extBut_fresh {s : Shared} {h' : Heap} (x : Heap.ExtBut s.heap.objs.size s.heap h') : ∀ b o, s.heap.get? b = some o → h'.get? b = some o := fun b o e => x b o (Nat.ne_of_lt (Heap.lt_size e)) e
theorem Rel.keeps {s : Shared} {h' : Heap} {t : Nat} (R : Rel c H s) (k : ∀ b o, s.heap.get? b = some o → h'.get? b = some o) : Rel c H { s with heap := h', toks := t } := by
  obtain ⟨⟨h, tk, rfl⟩, kk, ob⟩ := R
  exact ⟨⟨_, _, rfl⟩, fun b o e => k b o (kk b o e), fun a o e => (ob a o e).mono (.of_keeps k) fun o' e' => k a o' e'⟩
theorem Ext.keeps {h h' : Heap} (k : ∀ b o, h.get? b = some o → h'.get? b = some o) : Ext H h H h' := fun b o e _ => ⟨k b o e, rfl⟩

theorem unpack_ {ce : CE} {A : Around} {env : Env} {E : Value → Shared → Prop} {es : List Expr} {is : List Nat} {k : Nat} {tp : Pos} {v : Value} {l : List AV} {s : Shared} {Q : Unit → Shared → Prop} (hh : A.handled = none) (hn : Names is ce es) (O : EnvOk c ce env) (R : Rel c H s) (V : EnvAt c ce.nm env ρ H s.heap)
    (hv : VR s.heap (.tup l) v) (hl : is.length = l.length) (h : ∀ s', Rel c H s' → ExtE env H s.heap H s'.heap → EnvAt c ce.nm env (setAll ρ is l) H s'.heap → Q () s') :
    wpAny (MM c) A (assign (.Tuple es k tp) env v) Q E s := by
  cases hv with
  | @tup a vs m _ ht hvs =>
    have hit : s.heap.IsTuple a vs := ⟨_, ht, rfl, m, rfl⟩
    refine wpAny_assign_Tuple hh hit ?_ hn.noStar fun h' x => ?_
    · rw [hn.length, hl, ← Array.length_toList, hvs.length]
    · have k := extBut_fresh x
      exact inOrder_ O hn (R.keeps (t := s.toks) k) (V.ext (Ext.keeps k) (.of_keeps k)) (hvs.mono (.of_keeps k)) fun s' R' X' V' => h s' R' ((Ext.keeps k).toE.trans X') V'

theorem swapped_none {ts : List Expr} {k : Nat} {tp : Pos} {e : Expr} (hn : notDisplay e = true) (env : Env) : swappedStores [.Tuple ts k tp] e env = pure none := by
  cases e <;> first | rfl | (simp [notDisplay] at hn)

theorem W1.unp_ {is : List Nat} {x : X} {Q : Fl → Loc → AH → Prop} (h : WX c n x ρ H fun v H1 => ∃ l, v = .tup l ∧ is.length = l.length ∧ Q .next (setAll ρ is l) H1) : W1 c n (.unp is x) ρ H Q := by
  intro ce st hc A env s E rm O R V
  obtain ⟨ts, k, tp, e, p, rfl, hn, hnc, hd, hx⟩ := hc
  · refine wpAny_Assign_stores (mono' (h ce _ hx A env s E rm O R V) ?_) ?_ (swapped_none hd env)
    · rintro v s1 ⟨av, H1, R1, X1, V1, l, rfl, hl, q1⟩
      show wpAny _ _ (assign _ env v) _ _ _
      refine unpack_ rm.handled hn O R1 (V.ext X1 (R.ki X1)) V1 hl fun s' R' X' V' => ?_
      exact ⟨.next, _, H1, R', X1.toE.trans X', V', .next, q1⟩
    · unfold swapsWithSole
      exact swaps_plain hnc _ _ _

/-! a function's call -/
noncomputable def retv : Fl → AV → Prop
  | .ret v, w => v = w
  | .next, w => w = .none
  | _, _ => False
theorem bindL_other (k : Str → Option NameKind) : ∀ (bs : List (Str × Value)) (m : Str → Option Value) (x : Str), x ∉ bs.map (·.1) → bindL k bs m x = m x
  | [], _, _, _ => rfl
  | (y, v) :: r, m, x, h => by
    unfold bindL
    rw [bindL_other k r _ x (fun q => h (.tail _ q))]
    have hne : x ≠ y := fun q => h (q ▸ .head _)
    split <;> simp [hne]
theorem bindL_get (k : Str → Option NameKind) : ∀ (bs : List (Str × Value)) (m : Str → Option Value), (bs.map (·.1)).Nodup → ∀ x v, (x, v) ∈ bs → k x = some .local → bindL k bs m x = some v
  | (y, w) :: r, m, hn, x, v, hm, hk => by
    obtain ⟨h1, h2⟩ := List.nodup_cons.mp hn
    unfold bindL
    rcases List.mem_cons.mp hm with e | hm
    · cases e
      rw [bindL_other k r _ _ h1, if_pos hk]; simp
    · exact bindL_get k r _ h2 x v hm hk
theorem bindC_other (k : Str → Option NameKind) : ∀ (bs : List (Str × Value)) (m : Str → Option Value) (x : Str), x ∉ bs.map (·.1) → bindC k bs m x = m x
  | [], _, _, _ => rfl
  | (y, v) :: r, m, x, h => by
    unfold bindC
    rw [bindC_other k r _ x (fun q => h (.tail _ q))]
    have hne : x ≠ y := fun q => h (q ▸ .head _)
    split <;> simp [hne]
theorem bindC_get (k : Str → Option NameKind) : ∀ (bs : List (Str × Value)) (m : Str → Option Value), (bs.map (·.1)).Nodup → ∀ x v, (x, v) ∈ bs → k x = some .cell → bindC k bs m x = some v
  | (y, w) :: r, m, hn, x, v, hm, hk => by
    obtain ⟨h1, h2⟩ := List.nodup_cons.mp hn
    unfold bindC
    rcases List.mem_cons.mp hm with e | hm
    · cases e
      rw [bindC_other k r _ _ h1, if_neg (by rw [hk]; decide)]; simp
    · exact bindC_get k r _ h2 x v hm hk
theorem cells_some {x : Str} : ∀ (names : List (Str × NameKind)) (n : Nat) (acc : List (Str × Addr)), names.lookup x = some .cell ∨ (acc.lookup x).isSome = true → ((cellsFrom n names acc).lookup x).isSome = true
  | [], _, _, h => h.elim (fun e => by cases e) id
  | (y, k) :: r, n, acc, h => by
    unfold cellsFrom
    by_cases hk : (k == .cell) = true
    · rw [if_pos hk]
      refine cells_some r (n + 1) ((y, n) :: acc) ?_
      by_cases hy : (x == y) = true
      · exact .inr (by rw [List.lookup_cons, hy]; rfl)
      · refine h.imp (fun e => ?_) fun e => ?_
        · rw [List.lookup_cons] at e; simpa only [hy] using e
        · rw [List.lookup_cons]; simpa only [hy] using e
    · rw [if_neg hk]
      refine cells_some r n acc ?_
      by_cases hy : (x == y) = true
      · refine .inr (h.elim (fun e => ?_) id)
        rw [List.lookup_cons, hy] at e
        exact absurd (by rw [Option.some.inj e]; rfl) hk
      · refine h.imp (fun e => ?_) id
        rw [List.lookup_cons] at e; simpa only [hy] using e
theorem Rel.none_ge {s : Shared} (R : Rel c H s) {a : Addr} (h : s.heap.objs.size ≤ a) : H a = none := by
  cases hh : H a with
  | none => rfl
  | some ob =>
    obtain ⟨o, ho, _⟩ := (R.objs _ ob hh).notImm
    exact absurd (Heap.lt_size ho) (Nat.not_lt.mpr h)
theorem Rel.none0_ge {s : Shared} (R : Rel c H s) {a : Addr} (h : s.heap.objs.size ≤ a) : c.s0.heap.get? a = none := by
  cases hh : c.s0.heap.get? a with
  | none => rfl
  | some ob => exact absurd (Heap.lt_size (R.keep _ _ hh)) (Nat.not_lt.mpr h)

theorem CW.body {i : Nat} {f : Str} {ir : FnIR} {vs : List AV} {Q : AV → AH → Prop} (hf : c.fns[i]? = some (f, ir)) (hl : vs.length = ir.np)
    (h : WS c n ir.body (vs.map some ++ List.replicate (ir.ns - ir.np) none) H fun fl _ H' => ∃ v, retv fl v ∧ Q v H') : CW c (n + 1) i vs H Q := by
  intro f' a A s cvs E hf' hmg rm R V
  have : f' = f := by rw [List.getElem?_map, hf] at hf'; cases hf'; rfl
  subst this
  obtain ⟨a', o, fd, body, ce, hmg', ho, hdat, hclo, hgl, hbu, hcd, hbody, hco, hgen, hk, hnames, hfns, hcons, hnd, hle, hlen, hvar, hfree, hnn, hbind, hcmp⟩ := c.fn i f' ir hf
  have : a' = a := by rw [hmg] at hmg'; cases hmg'; rfl
  subst this
  have hcl : cvs.length = ir.np := V.length.trans hl
  have hbnames : ((ce.nm.take ir.np).zip cvs).map (·.1) = ce.nm.take ir.np := by
    rw [List.map_fst_zip]; rw [List.length_take, hlen, hcl]; omega
  refine wpAny_call (codeAny_call_cells (fd := fd) (body := body) (binds := (ce.nm.take ir.np).zip cvs) ?_ (R.keep _ _ ho) hdat (c.nolimit.keeps R.keep) (hcd.keeps R.keep) hbody (hbind cvs hcl) hclo ?_ ?_ hco hgen hk)
  · have := rm.depth; show A.depth < 1000; omega
  · intro x hx
    have hx1 : x.1 ∈ ce.nm := List.mem_of_mem_take (List.of_mem_zip hx).1
    rcases hvar x.1 hx1 with q | q
    · exact .inl (by rw [← hnames]; exact q)
    · have q' : fd.scope.names.lookup x.1 = some .cell := by rw [← hnames]; exact q
      exact .inr ⟨q', cells_some _ _ _ (.inl q')⟩
  · intro s₁ Y
    have hO : EnvOk c ce (callEnvC fd s.heap.objs.size a') := ⟨hk, hnames.symm, hgl, hbu, hfns, hcons, hnd⟩
    obtain ⟨h₁, tk, rfl, hkeep⟩ := Y.done
    have R₁ : Rel c H { s with heap := h₁, toks := tk } := R.keeps hkeep
    have hkin : ∀ x : Str, (callEnvC fd s.heap.objs.size a').kindOf x = ce.kind x := hO.kindOf
    have mem : ∀ (j : Nat) (x : Str) (av : AV), ce.nm[j]? = some x → (vs.map some ++ List.replicate (ir.ns - ir.np) none)[j]? = some (some av) → ∃ v, (x, v) ∈ (ce.nm.take ir.np).zip cvs ∧ VR s.heap av v := by
      intro j x av h1 h2
      by_cases hj : j < vs.length
      · rw [List.getElem?_append_left (by simpa using hj), List.getElem?_map] at h2
        obtain ⟨av', e1, e2⟩ := Option.map_eq_some_iff.mp h2
        cases e2
        obtain ⟨v, hv, hr⟩ := V.get e1
        refine ⟨v, ?_, hr⟩
        have h3 : (ce.nm.take ir.np)[j]? = some x := by rw [List.getElem?_take]; simp [← hl, hj, h1]
        exact List.mem_of_getElem? (i := j) (by rw [List.getElem?_zip_eq_some]; exact ⟨h3, hv⟩)
      · rw [List.getElem?_append_right (by simpa using hj), List.getElem?_replicate] at h2
        split at h2 <;> cases h2
    have hnd' : (((ce.nm.take ir.np).zip cvs).map (·.1)).Nodup := by rw [hbnames]; exact hnd.sublist (List.take_sublist _ _)
    have V₁ : EnvAt c ce.nm (callEnvC fd s.heap.objs.size a') (vs.map some ++ List.replicate (ir.ns - ir.np) none) H h₁ := by
      refine ⟨⟨_, Y.toInCall.ns, fun j x av h1 h2 h3 => ?_⟩, R.none_ge (Nat.le_refl _), R.none0_ge (Nat.le_refl _), fun x d hd => ?_, fun j x av h1 h2 h3 => ?_, fun x h2 => ?_, fun x y d hx hy => ?_, ?_⟩
      · obtain ⟨v, hm, hr⟩ := mem j x av h1 h2
        exact ⟨v, bindL_get _ _ _ hnd' x v hm h3, hr.mono (.of_keeps hkeep)⟩
      · have hgt := Y.above x d (mem_of_lookup hd)
        exact ⟨R.none_ge (Nat.le_of_lt hgt), R.none0_ge (Nat.le_of_lt hgt), _, Y.cell x d hd⟩
      · obtain ⟨v, hm, hr⟩ := mem j x av h1 h2
        have hcs : ((cellsFrom (s.heap.objs.size + 1) fd.scope.names []).lookup x).isSome = true := cells_some _ _ _ (.inl h3)
        obtain ⟨d, hd⟩ := Option.isSome_iff_exists.mp hcs
        have e := Y.cell x d hd
        rw [bindC_get _ _ _ hnd' x v hm h3] at e
        exact ⟨d, v, hd, e, hr.mono (.of_keeps hkeep)⟩
      · have hcs : ((cellsFrom (s.heap.objs.size + 1) fd.scope.names []).lookup x).isSome = true := cells_some _ _ _ (.inl h2)
        exact Option.isSome_iff_exists.mp hcs
      · exact name_of_addr Y.apart (mem_of_lookup hx) (mem_of_lookup hy)
      · rw [List.length_append, List.length_map, List.length_replicate, hl, hlen]; omega
    refine wpAny_mono (h ce body hcmp (A.deeper _) _ _ (fun _ _ => False) (rm.deeper _) hO R₁ V₁) ?_ fun _ _ x => x.elim
    rintro fl s' ⟨g, ρ', H', R', X', V', F', v, hv, q⟩
    have XX : Ext H s.heap H' s'.heap := fun b ob e f => X' b ob (hkeep b ob e) f (by
      rintro (w | ⟨x, w⟩)
      · exact absurd (Heap.lt_size e) (by rw [w]; exact Nat.lt_irrefl _)
      · exact absurd (Heap.lt_size e) (Nat.not_lt.mpr (Nat.le_of_lt (Y.above x b (mem_of_lookup w)))))
    cases F' with
    | next => cases hv; exact ⟨.none, H', R', XX, .none, q⟩
    | brk => exact hv.elim
    | cont => exact hv.elim
    | ret hr => cases hv; exact ⟨_, H', R', XX, hr, q⟩
end
end Mine

set_option maxRecDepth 10000
set_option autoImplicit false
set_option genSizeOf false
set_option genSizeOfSpec false
set_option genInjectivity false
namespace Mine
open PySem

noncomputable def irange (lo hi : Int) : List AV := (List.range (hi - lo).toNat).map fun k => .int (lo + (k : Nat))
theorem irange_length (lo hi : Int) : (irange lo hi).length = (hi - lo).toNat := by simp [irange]
theorem irange_get (lo hi : Int) (i : Nat) (x : AV) (h : (irange lo hi)[i]? = some x) : i < (hi - lo).toNat ∧ x = .int (lo + i) := by
  unfold irange at h
  rw [List.getElem?_map] at h
  obtain ⟨y, h1, h2⟩ := Option.map_eq_some_iff.mp h
  obtain ⟨hlt, e⟩ := List.getElem?_eq_some_iff.mp h1
  simp at hlt e
  subst e
  exact ⟨by omega, h2.symm⟩

inductive IK where
  | list | tup | rng | dict
inductive Iter (H : AH) : IK → AV → List AV → Prop
  | list {a : Nat} {own : Bool} {L : List AV} : H a = some (.list own L) → Iter H .list (.ref a) L
  | tup {L : List AV} : Iter H .tup (.tup L) L
  | rng {lo hi : Int} : -(2 ^ 62) ≤ lo → lo < 2 ^ 62 → -(2 ^ 62) ≤ hi → hi < 2 ^ 62 → Iter H .rng (.rng lo hi) (irange lo hi)
  | dict {a : Nat} {kvs : List (Int × AV)} : H a = some (.dict false kvs) → Iter H .dict (.ref a) (kvs.map fun kv => .int kv.1)
inductive ItAt (c : Cx) (h : Heap) (it : Addr) : IK → AV → List AV → Nat → Prop
  | list {a : Nat} {L : List AV} {i : Nat} : h.IsListIter it a i → ItAt c h it .list (.ref a) L i
  | tup {t : Nat} {vs : Array Value} {n : Nat} {L : List AV} {i : Nat} : IsT h t vs n → VRs h L vs.toList → h.IsTupleIter it t i → ItAt c h it .tup (.tup L) L i
  | rng {lo hi : Int} {i : Nat} : IsRangeIter h it (lo + (i : Nat)) (((hi - lo).toNat : Int) - i) 1 → ItAt c h it .rng (.rng lo hi) (irange lo hi) i
  | dict {a : Nat} {kvs : List (Int × AV)} {cvs : List (Int × Value)} {ep i : Nat} : h.IsKeyIter it a i cvs.length ep → h.DictAt (intKind c.prog c.w) a cvs ep → kvs.map (·.1) = cvs.map (·.1) →
      ItAt c h it .dict (.ref a) (kvs.map fun kv => .int kv.1) i

section
variable {c : Cx} {n : Nat} {ρ : Loc} {H : AH}

theorem ItAt.obj {h : Heap} {it : Addr} {k : IK} {v : AV} {L : List AV} {i : Nat} (x : ItAt c h it k v L i) : ∃ o nme vs, h.get? it = some o ∧ o.cls = .type nme ∧ o.data = .fields vs ∧
    (["enumerate", "zip", "dict_itemiterator", "dict_reverseitemiterator", "odict_iterator", "itertools.zip_longest", "itertools.pairwise"].contains nme) = false ∧ nme ≠ "range" ∧ nme ≠ "dict_values" := by
  cases x with
  | list x => obtain ⟨o, h1, h2, h3⟩ := x; exact ⟨o, _, _, h1, h2, h3, by decide, by decide, by decide⟩
  | tup _ _ x => obtain ⟨o, h1, h2, h3⟩ := x; exact ⟨o, _, _, h1, h2, h3, by decide, by decide, by decide⟩
  | rng x => exact ⟨_, "range_iterator", _, x, rfl, rfl, by decide, by decide, by decide⟩
  | dict x => obtain ⟨o, h1, h2, h3⟩ := x; exact ⟨o, _, _, h1, h2, h3, by decide, by decide, by decide⟩
theorem ItAt.notImm {h : Heap} {it : Addr} {k : IK} {v : AV} {L : List AV} {i : Nat} (x : ItAt c h it k v L i) : ∀ o, h.get? it = some o → ¬ Imm o := by
  obtain ⟨o, nme, vs, h1, h2, h3, _, h4, h5⟩ := x.obj
  intro o' e im
  rw [h1] at e; cases e
  rcases im with ⟨_, _, _, e⟩ | ⟨e | e, _⟩
  · rw [h3] at e; cases e
  · rw [h2] at e; simp at e; exact h4 e
  · rw [h2] at e; simp at e; exact h5 e

theorem ItAt.keep {h h' : Heap} {it : Addr} {k : IK} {v : AV} {L : List AV} {i : Nat} (x : ItAt c h it k v L i) (e : ∀ o, h.get? it = some o → h'.get? it = some o) (ki : KI h h')
    (ed : ∀ a o, k = .dict → v = .ref a → h.get? a = some o → h'.get? a = some o) : ItAt c h' it k v L i := by
  cases x with
  | list x => obtain ⟨o, h1, r⟩ := x; exact .list ⟨o, e _ h1, r⟩
  | tup ht hv x => obtain ⟨o, h1, r⟩ := x; exact .tup (ki _ _ ht (.inl ⟨rfl, _, _, rfl⟩)) (hv.mono ki) ⟨o, e _ h1, r⟩
  | rng x => exact .rng (e _ x)
  | dict x y z =>
    obtain ⟨o, h1, r⟩ := x
    obtain ⟨o', es, h2, r'⟩ := y
    exact .dict ⟨o, e _ h1, r⟩ ⟨o', es, ed _ _ rfl rfl h2, r'⟩ z

theorem Iter.dictH {a : Nat} {L : List AV} (h : Iter H .dict (.ref a) L) : ∃ kvs, H a = some (.dict false kvs) := by
  cases h with
  | dict e => exact ⟨_, e⟩
theorem iter_start {k : IK} {v : AV} {L : List AV} {cv : Value} {A : Around} {s : Shared} {E : Value → Shared → Prop} {Q : Value → Shared → Prop} (R : Rel c H s) (hI : Iter H k v L) (hv : VR s.heap v cv)
    (h : ∀ o, ItAt c (s.heap.push o) s.heap.objs.size k v L 0 → Q (.ref s.heap.objs.size) { s with heap := s.heap.push o }) : wpAny (MM c) A (pyIter cv) Q E s := by
  cases hI with
  | list hh =>
    cases hv
    obtain ⟨_, vs, m, hl, _⟩ := R.objs _ _ hh
    exact wpAny_pyIter_list hl.isList (h _ (.list ⟨_, Heap.get?_push_size _ rfl, rfl, rfl⟩))
  | tup =>
    cases hv with
    | tup ht hvs =>
      exact wpAny_pyIter_tuple ⟨_, ht, rfl, _, rfl⟩ (h _ (.tup (ht.push _) (hvs.mono (ki_push _ _)) ⟨_, Heap.get?_push_size _ rfl, rfl, rfl⟩))
  | @rng lo hi h1 h2 h3 h4 =>
    cases hv with
    | rng hr =>
      refine wpAny_pyIter_range hr (small_one h1 h2 h3 h4) (h _ (.rng ?_))
      have e : ((hi - lo).toNat : Int) = Builtin.Range.rangeSize lo hi 1 := by rw [rangeSize_one]; split <;> omega
      simp only [Int.natCast_zero, Int.add_zero, Int.sub_zero, e]
      exact Heap.get?_push_size _ rfl
  | @dict a kvs hh =>
    cases hv
    obtain ⟨_, hs, cvs, hd, hkv⟩ := R.objs _ _ hh
    obtain ⟨ep, hd⟩ := hd.dictAt
    exact wpAny_pyIter_dict hs hd (h _ (.dict ⟨_, Heap.get?_push_size _ rfl, rfl, rfl⟩ (hd.push _) hkv.1))

theorem next_item {k : IK} {v : AV} {L : List AV} {i : Nat} {x : AV} {it : Addr} {A : Around} {s : Shared} {E : Value → Shared → Prop} {Q : Option Value → Shared → Prop} (R : Rel c H s) (hit : H it = none) (hI : Iter H k v L) (hA : ItAt c s.heap it k v L i) (hx : L[i]? = some x)
    (h : ∀ xv h' t, VR h' x xv → ItAt c h' it k v L (i + 1) → Heap.SameBut it s.heap h' → Q (some xv) { s with heap := h', toks := t }) : wpAny (MM c) A (pyNext (.ref it)) Q E s := by
  have ni := hA.notImm
  cases hA with
  | @list a _ _ hl =>
    cases hI with
    | list hh =>
      obtain ⟨_, vs, m, hli, hvs⟩ := R.objs _ _ hh
      obtain ⟨y, hy, hr⟩ := hvs.get hx
      refine wpAny_pyNext_list_item hl hli.isList (by simpa using hy) fun h' h1 h2 => ?_
      exact h y h' s.toks (hr.mono (ki_sameBut h2 ni)) (.list h1) h2
  | tup ht hvs hl =>
    obtain ⟨y, hy, hr⟩ := hvs.get hx
    refine wpAny_pyNext_tuple_item hl ⟨_, ht, rfl, _, rfl⟩ (by simpa using hy) fun h' h1 h2 => ?_
    have ki := ki_sameBut h2 ni
    exact h y h' s.toks (hr.mono ki) (.tup (ki _ _ ht (.inl ⟨rfl, _, _, rfl⟩)) (hvs.mono ki) h1) h2
  | @rng lo hi _ hl =>
    obtain ⟨hlt, rfl⟩ := irange_get _ _ _ _ hx
    refine wpAny_pyNext_range_item hl (by omega) fun h' h1 h2 => ?_
    refine h _ h' _ (.int _ _) (.rng ?_) h2
    have e1 : lo + ((i + 1 : Nat) : Int) = lo + (i : Nat) + 1 := by omega
    have e2 : ((hi - lo).toNat : Int) - ((i + 1 : Nat) : Int) = ((hi - lo).toNat : Int) - i - 1 := by omega
    rw [e1, e2]; exact h1
  | @dict a kvs cvs ep _ hl hd hk =>
    obtain ⟨kvs', hh⟩ := hI.dictH
    have hx' : ∃ j, (kvs.map (·.1))[i]? = some j ∧ x = .int j := by
      rw [List.getElem?_map] at hx
      obtain ⟨kv, e1, e2⟩ := Option.map_eq_some_iff.mp hx
      exact ⟨kv.1, by rw [List.getElem?_map, e1]; rfl, e2.symm⟩
    obtain ⟨j, hx1, rfl⟩ := hx'
    rw [hk, List.getElem?_map] at hx1
    obtain ⟨⟨j', vv⟩, e1, e2⟩ := Option.map_eq_some_iff.mp hx1
    cases e2
    refine wpAny_pyNext_dict_item hl hd e1 fun key h' h0 h1 h2 => ?_
    obtain ⟨t, rfl⟩ := Value.isInt_shape h0
    have ha : a ≠ it := fun q => by rw [q, hit] at hh; cases hh
    exact h _ h' s.toks (.int _ _) (.dict h1 (hd.extBut h2.extBut ha) hk) h2

theorem next_end {k : IK} {v : AV} {L : List AV} {i : Nat} {it : Addr} {A : Around} {s : Shared} {E : Value → Shared → Prop} {Q : Option Value → Shared → Prop} (hh : A.handled = none) (R : Rel c H s) (hI : Iter H k v L) (hA : ItAt c s.heap it k v L i) (hx : L.length ≤ i) (hle : i ≤ L.length)
    (h : ∀ h', Heap.ExtBut it s.heap h' → Q none { s with heap := h' }) : wpAny (MM c) A (pyNext (.ref it)) Q E s := by
  cases hA with
  | @list a _ _ hl =>
    cases hI with
    | list hh' =>
      obtain ⟨_, vs, m, hli, hvs⟩ := R.objs _ _ hh'
      refine wpAny_pyNext_list_end hh hl hli.isList ?_ h
      have := hvs.length
      simp at this
      simp [this]; omega
  | tup ht hvs hl =>
    refine wpAny_pyNext_tuple_end hh hl ⟨_, ht, rfl, _, rfl⟩ ?_ h
    have := hvs.length
    simp at this
    simp [this]; omega
  | @rng lo hi _ hl =>
    rw [irange_length] at hx
    exact wpAny_pyNext_range_end hh hl (by omega) h
  | @dict a kvs cvs ep _ hl hd hk =>
    have e1 : kvs.length = cvs.length := by have := congrArg List.length hk; simpa using this
    simp at hx hle
    have e : i = cvs.length := by omega
    subst e
    exact wpAny_pyNext_dict_end hh hl hd (by simp) h
end
end Mine

set_option maxRecDepth 10000
set_option autoImplicit false
set_option genSizeOf false
set_option genSizeOfSpec false
set_option genInjectivity false
namespace Mine
open PySem

section
variable {c : Cx} {n : Nat} {ρ : Loc} {H : AH}

noncomputable def LoopQ (I : Loc → AH → Prop) (Q : Fl → Loc → AH → Prop) : Fl → Loc → AH → Prop
  | .next, ρ, H => I ρ H
  | .ret v, ρ, H => Q (.ret v) ρ H
  | .brk, _, _ => False
  | .cont, _, _ => False

theorem EnvAt.own {nm : List Str} {env : Env} {h : Heap} (V : EnvAt c nm env ρ H h) {b : Addr} (w : OwnA env b) : ∃ o, h.get? b = some o := by
  rcases w with w | ⟨x, w⟩
  · obtain ⟨m, ⟨o, _, _, ho, _⟩, _⟩ := V.ns
    exact ⟨o, by rw [w]; exact ho⟩
  · obtain ⟨_, _, v, o, ho, _⟩ := V.cell x b w
    exact ⟨o, ho⟩
theorem EnvAt.keep {nm : List Str} {env : Env} {h h' : Heap} (V : EnvAt c nm env ρ H h) (k : ∀ b o, OwnA env b → h.get? b = some o → h'.get? b = some o) (ki : KI h h') : EnvAt c nm env ρ H h' := by
  obtain ⟨⟨m, ⟨o, es, ep, ho, hr⟩, hm⟩, nh, nb, cell, cv, hasc, ap, len⟩ := V
  refine ⟨⟨m, ⟨o, es, ep, k _ _ (.inl rfl) ho, hr⟩, fun i x av h1 h2 h3 => ?_⟩, nh, nb, fun x c hc => ?_, fun i x av h1 h2 h3 => ?_, hasc, ap, len⟩
  · obtain ⟨v, h4, h5⟩ := hm i x av h1 h2 h3; exact ⟨v, h4, h5.mono ki⟩
  · obtain ⟨h1, h2, v, o', ho', hd⟩ := cell x c hc
    exact ⟨h1, h2, v, o', k _ _ (.inr ⟨x, hc⟩) ho', hd⟩
  · obtain ⟨d, v, h4, ⟨o', ho', hd⟩, h6⟩ := cv i x av h1 h2 h3
    exact ⟨d, v, h4, ⟨o', k _ _ (.inr ⟨x, h4⟩) ho', hd⟩, h6.mono ki⟩

theorem folded_plain {e : Expr} (hc : notSet e = true) (env : Env) (v : Value) : foldedSetIterable e env v = pure v := by
  cases e <;> first | rfl | (simp [notSet] at hc)
theorem letOwned_ {A : Around} {s : Shared} {E : Value → Shared → Prop} {target : Expr} {it : Addr} {v : Value} {k : IK} {av : AV} {L : List AV} {i : Nat} {Q : Unit → Shared → Prop} (x : ItAt c s.heap it k av L i) (h : Q () s) : wpAny (MM c) A (letOwnedTupleGo target (.ref it) v) Q E s := by
  obtain ⟨o, nme, vs, h1, h2, h3, h4, _⟩ := x.obj
  have key : ∀ es k p, wpAny (MM c) A (letOwnedTupleGo (.Tuple es k p) (.ref it) v) Q E s := fun es k p => by
    unfold letOwnedTupleGo
    cases v with
    | ref a =>
      refine wpAny_bind (wpAny_load h1 ?_)
      rw [h2, h3]
      dsimp only
      rw [h4, Bool.false_and]
      exact wpAny_pure h
    | _ => exact wpAny_pure h
  cases target with
  | Tuple es k p => exact key es k p
  | List es p =>
    unfold letOwnedTupleGo
    cases v with
    | ref a =>
      refine wpAny_bind (wpAny_load h1 ?_)
      rw [h2, h3]
      dsimp only
      rw [h4, Bool.false_and]
      exact wpAny_pure h
    | _ => exact wpAny_pure h
  | _ => exact wpAny_pure h

/-- the loop over what is iterated, the target's store as a premise -/
theorem for_core {ce : CE} {A : Around} {env : Env} {s s1 : Shared} {E : Value → Shared → Prop} {target : Expr} {b : List Stmt} {body : List XS} {xv : Value} {v : AV} {k : IK} {L : List AV} {H1 : AH} {I : Nat → Loc → AH → Prop} {upd : Loc → AV → Loc} {Q : Fl → Loc → AH → Prop}
    (rm : Rm n A) (O : EnvOk c ce env) (V : EnvAt c ce.nm env ρ H s.heap) (R : Rel c H s) (hb : CmpSs body ce b) (R1 : Rel c H1 s1) (X1 : Ext H s.heap H1 s1.heap) (V1 : VR s1.heap v xv) (hI : Iter H1 k v L) (h0 : I 0 ρ H1)
    (hk : ∀ j ρ' H', I j ρ' H' → Iter H' k v L)
    (hst : ∀ (y : AV) (yv : Value) (ρ' : Loc) (H' : AH) (s' : Shared) (E' : Value → Shared → Prop) (Q' : Unit → Shared → Prop), y ∈ L → Rel c H' s' → EnvAt c ce.nm env ρ' H' s'.heap → VR s'.heap y yv →
      (∀ s'', Rel c H' s'' → ExtE env H' s'.heap H' s''.heap → KI s'.heap s''.heap → EnvAt c ce.nm env (upd ρ' y) H' s''.heap → Q' () s'') → wpAny (MM c) A (assign target env yv) Q' E' s')
    (ht : ∀ j y ρ' H', L[j]? = some y → I j ρ' H' → WS c n body (upd ρ' y) H' (LoopQ (I (j + 1)) Q)) (he : ∀ ρ' H', I L.length ρ' H' → Q .next ρ' H') :
    wpAny (MM c) A (pyIter xv) (fun it s₂ => codeAny (MM c) A (.forLoop target it b [] env) (fun r s' => match r with | .ok f => PostS c ce.nm env H s.heap Q f s' | .error e => cameBackBy (MM c) A env E e s') s₂) E s1 := by
  refine iter_start R1 hI V1 fun o hit => ?_
  have Vp : EnvAt c ce.nm env ρ H1 s1.heap := V.ext X1 (R.ki X1)
  have hitO : ¬ OwnA env s1.heap.objs.size := fun w => by
    obtain ⟨o', e⟩ := Vp.own w
    exact absurd (Heap.lt_size e) (Nat.lt_irrefl _)
  have hit0 : c.s0.heap.get? s1.heap.objs.size = none := R1.fresh0
  have hne : ∀ b o, s.heap.get? b = some o → Fz (H b) = true → b ≠ s1.heap.objs.size := fun b o e f => Nat.ne_of_lt (Heap.lt_size (X1 b o e f).1)
  refine codeAny_forLoop_any (fun m s' => ∃ j ρ' H', j ≤ L.length ∧ m = L.length - j ∧ I j ρ' H' ∧ Rel c H' s' ∧ ExtE env H s.heap H' s'.heap ∧ EnvAt c ce.nm env ρ' H' s'.heap ∧ ItAt c s'.heap s1.heap.objs.size k v L j ∧ H' s1.heap.objs.size = none)
    ?_ L.length ⟨0, ρ, H1, Nat.zero_le _, rfl, h0, R1.push _, (X1.trans (Ext.push _ _)).toE, Vp.ext (Ext.push _ _) (ki_push _ _), hit, R1.fresh⟩
  rintro m s' ⟨j, ρ', H', hj, rfl, hIj, R', X', V', hA, hn⟩
  have ni := hA.notImm
  cases hx : L[j]? with
  | none =>
    have hle : L.length ≤ j := by simpa using hx
    have hjj : j = L.length := by omega
    subst hjj
    refine next_end rm.handled R' (hk _ _ _ hIj) hA hle (Nat.le_refl _) fun h' x => ?_
    refine wpAny_execs_nil ?_
    refine ⟨.next, ρ', H', R'.other (t := s'.toks) x hn hit0 ni, fun b o e f w => ?_, V'.keep (fun b o w e => x b o (fun q => hitO (q ▸ w)) e) (ki_extBut x ni), .next, he _ _ hIj⟩
    obtain ⟨e', n'⟩ := X' b o e f w
    exact ⟨x b o (hne b o e f) e', n'⟩
  | some y =>
    have hlt : j < L.length := by
      rcases Nat.lt_or_ge j L.length with q | q
      · exact q
      · rw [List.getElem?_eq_none q] at hx; cases hx
    refine next_item R' hn (hk _ _ _ hIj) hA hx fun xv h' t vy hA' hs' => ?_
    have R2 : Rel c H' { s' with heap := h', toks := t } := R'.other hs'.extBut hn hit0 ni
    have V2 : EnvAt c ce.nm env ρ' H' h' := V'.keep (fun b o w e => hs'.extBut b o (fun q => hitO (q ▸ w)) e) (ki_sameBut hs' ni)
    refine letOwned_ (s := { s' with heap := h', toks := t }) hA' ?_
    refine hst y xv ρ' H' _ _ _ (List.mem_of_getElem? hx) R2 V2 vy fun s3 R3 X3 ki3 V3 => ?_
    refine mono' (ht j y ρ' H' hx hIj ce b hb A env s3 _ rm O R3 V3) ?_
    rintro f s4 ⟨g, ρ4, H4, R4, X4, V4, F4, q4⟩
    have XX : ExtE env H s.heap H4 s4.heap := fun b o e f w => by
      obtain ⟨e', n'⟩ := X' b o e f w
      obtain ⟨e2, n2⟩ := X3 b o ((hs'.2 b (hne b o e f)).trans e') (n' ▸ f) w
      obtain ⟨e3, n3⟩ := X4 b o e2 (n2 ▸ n' ▸ f) w
      exact ⟨e3, n3.trans (n2.trans n')⟩
    cases F4 with
    | next =>
      refine ⟨L.length - (j + 1), by omega, j + 1, ρ4, H4, hlt, rfl, q4, R4, XX, V4, ?_, ?_⟩
      · have hfz : Fz (H' s1.heap.objs.size) = true := by rw [hn]; rfl
        refine (hA'.keep (fun o e => (X3 _ o e hfz hitO).1) ki3 fun a o hd hv e => ?_).keep (fun o e => (X4 _ o e hfz hitO).1) (fun a o e i => ?_) fun a o hd hv e => ?_
        · subst hd; subst hv
          obtain ⟨kvs, hh⟩ := (hk _ _ _ hIj).dictH
          refine (X3 a o e (by rw [hh]; rfl) fun w => ?_).1
          rcases w with w | ⟨x, w⟩
          · rw [w, V'.nh] at hh; cases hh
          · rw [(V'.cell x a w).1] at hh; cases hh
        · cases hh : H' a with
          | none =>
            by_cases w : OwnA env a
            · exfalso
              rcases w with w | ⟨x, w⟩
              · obtain ⟨m, hns, _⟩ := V3.ns
                exact Ns.notImm hns o (w ▸ e) i
              · obtain ⟨_, _, v', hc'⟩ := V3.cell x a w
                exact IsCell.notImm hc' o e i
            · exact (X4 a o e (by rw [hh]; rfl) w).1
          | some ob =>
            obtain ⟨o', ho', hni⟩ := (R3.objs a ob hh).notImm
            rw [e] at ho'; cases ho'; exact absurd i hni
        · subst hd; subst hv
          obtain ⟨kvs, hh⟩ := (hk _ _ _ hIj).dictH
          refine (X4 a o e (by rw [hh]; rfl) fun w => ?_).1
          rcases w with w | ⟨x, w⟩
          · rw [w, V'.nh] at hh; cases hh
          · rw [(V'.cell x a w).1] at hh; cases hh
      · obtain ⟨o', nme, vs, h1, _⟩ := hA'.obj
        have hfz : Fz (H' s1.heap.objs.size) = true := by rw [hn]; rfl
        exact ((X4 _ _ (X3 _ _ h1 hfz hitO).1 hfz hitO).2).trans hn
    | brk => exact q4.elim
    | cont => exact q4.elim
    | ret hr => exact ⟨.ret _, ρ4, H4, R4, XX, V4, .ret hr, q4⟩

noncomputable def ForOk (c : Cx) (n : Nat) (body : List XS) (upd : Loc → AV → Loc) (ok : AV → Prop) (ρ : Loc) (v : AV) (H1 : AH) (Q : Fl → Loc → AH → Prop) : Prop :=
  ∃ (k : IK) (L : List AV) (I : Nat → Loc → AH → Prop), Iter H1 k v L ∧ (∀ y ∈ L, ok y) ∧ I 0 ρ H1 ∧ (∀ j ρ' H', I j ρ' H' → Iter H' k v L) ∧
    (∀ j y ρ' H', L[j]? = some y → I j ρ' H' → WS c n body (upd ρ' y) H' (LoopQ (I (j + 1)) Q)) ∧ ∀ ρ' H', I L.length ρ' H' → Q .next ρ' H'

theorem W1.for_ {i : Nat} {x : X} {body : List XS} {Q : Fl → Loc → AH → Prop} (h : WX c n x ρ H fun v H1 => ForOk c n body (fun ρ y => ρ.set i (some y)) (fun _ => True) ρ v H1 Q) : W1 c n (.for_ i x body) ρ H Q := by
  intro ce st hc A env s E rm O R V
  obtain ⟨x', px, it', b', p, rfl, hi, hkx, hns, hx, hb⟩ := hc
  · refine wpAny_For (mono' (h ce _ hx A env s E rm O R V) ?_) (folded_plain hns env)
    rintro xv s1 ⟨v, H1, R1, X1, V1, k, L, I, hI, _, h0, hk, ht, he⟩
    refine for_core rm O V R hb R1 X1 V1 hI h0 hk (fun y yv ρ' H' s' E' Q' _ R' V' hv hq => ?_) ht he
    exact wpAny_assign_Name (store_ hi hkx O R' V' hv fun h' t R2 X2 ki V2 => hq _ R2 X2 ki V2)

theorem W1.forU_ {is : List Nat} {x : X} {body : List XS} {Q : Fl → Loc → AH → Prop} (h : WX c n x ρ H fun v H1 => ForOk c n body (fun ρ y => match y with | .tup l => setAll ρ is l | _ => ρ) (fun y => ∃ l, y = .tup l ∧ is.length = l.length) ρ v H1 Q) : W1 c n (.forU is x body) ρ H Q := by
  intro ce st hc A env s E rm O R V
  obtain ⟨ts, k, tp, it', b', p, rfl, hn, hns, hx, hb⟩ := hc
  · refine wpAny_For (mono' (h ce _ hx A env s E rm O R V) ?_) (folded_plain hns env)
    rintro xv s1 ⟨v, H1, R1, X1, V1, k, L, I, hI, hok, h0, hk, ht, he⟩
    refine for_core rm O V R hb R1 X1 V1 hI h0 hk (fun y yv ρ' H' s' E' Q' hy R' V' hv hq => ?_) ht he
    obtain ⟨l, rfl, hl⟩ := hok y hy
    refine unpack_ rm.handled hn O R' V' hv hl fun s'' R2 X2 V2 => hq s'' R2 X2 (fun a o e i => ?_) V2
    cases hh : H' a with
    | none =>
      by_cases w : OwnA env a
      · exfalso
        rcases w with w | ⟨x, w⟩
        · obtain ⟨m, hns, _⟩ := V'.ns
          exact Ns.notImm hns o (w ▸ e) i
        · obtain ⟨_, _, v', hc'⟩ := V'.cell x a w
          exact IsCell.notImm hc' o e i
      · exact (X2 a o e (by rw [hh]; rfl) w).1
    | some ob =>
      obtain ⟨o', ho', hni⟩ := (R'.objs a ob hh).notImm
      rw [e] at ho'; cases ho'; exact absurd i hni

end
end Mine

set_option maxRecDepth 10000
set_option autoImplicit false
set_option genSizeOf false
set_option genSizeOfSpec false
set_option genInjectivity false
namespace Mine
open PySem

section
variable {c : Cx} {n : Nat} {ρ : Loc} {H : AH}

noncomputable def closOf (cells : List (Str × Addr)) : List (Str × NameKind) → List (Str × Addr) → List (Str × Addr)
  | [], acc => acc
  | (x, k) :: r, acc => if k == .free then closOf cells r ((x, (cells.lookup x).getD 0) :: acc) else closOf cells r acc
theorem closFor_go (env : Env) (f : Str × NameKind → List (Str × Addr) → Sem (ForInStep (List (Str × Addr))))
    (hf : ∀ x k acc, f (x, k) acc = if k == .free then (do let a ← cellOf env x; pure (.yield ((x, a) :: acc))) else pure (.yield acc)) :
    ∀ (names : List (Str × NameKind)) (acc : List (Str × Addr)), (∀ y ∈ names, y.2 = .free → ∃ d, env.cells.lookup y.1 = some d) → forIn names acc f = pure (closOf env.cells names acc)
  | [], acc, _ => by rw [List.forIn_nil]; rfl
  | (x, k) :: r, acc, h => by
    rw [List.forIn_cons, hf]
    unfold closOf
    by_cases hk : (k == NameKind.free) = true
    · rw [if_pos hk, if_pos hk]
      obtain ⟨d, hd⟩ := h (x, k) (.head _) (by simpa using hk)
      unfold cellOf
      rw [hd]
      simp only [pure_bind, Option.getD_some]
      exact closFor_go env f hf r _ fun y hy => h y (.tail _ hy)
    · rw [if_neg hk, if_neg hk]
      simp only [pure_bind]
      exact closFor_go env f hf r _ fun y hy => h y (.tail _ hy)
theorem closureFor_eq {scope : Scope} {env : Env} (h : ∀ y ∈ scope.names, y.2 = .free → ∃ d, env.cells.lookup y.1 = some d) : closureFor scope env = pure (closOf env.cells scope.names []) := by
  unfold closureFor
  dsimp only
  rw [closFor_go env _ (fun x k acc => by cases hk : k == NameKind.free <;> simp [hk]) scope.names [] h]
  rfl
theorem closOf_mem {cells : List (Str × Addr)} : ∀ (names : List (Str × NameKind)) (acc : List (Str × Addr)), (∀ y ∈ names, y.2 = .free → ∃ d, cells.lookup y.1 = some d) → (∀ p ∈ acc, cells.lookup p.1 = some p.2) → ∀ p ∈ closOf cells names acc, cells.lookup p.1 = some p.2
  | [], _, _, ha => ha
  | (x, k) :: r, acc, h, ha => by
    unfold closOf
    by_cases hk : (k == NameKind.free) = true
    · rw [if_pos hk]
      obtain ⟨d, hd⟩ := h (x, k) (.head _) (by simpa using hk)
      refine closOf_mem r _ (fun y hy => h y (.tail _ hy)) fun p hp => ?_
      rcases List.mem_cons.mp hp with rfl | hp
      · simp [hd]
      · exact ha p hp
    · rw [if_neg hk]; exact closOf_mem r _ (fun y hy => h y (.tail _ hy)) ha
theorem closOf_has {cells : List (Str × Addr)} {x : Str} : ∀ (names : List (Str × NameKind)) (acc : List (Str × Addr)), names.lookup x = some .free ∨ (acc.lookup x).isSome = true → ((closOf cells names acc).lookup x).isSome = true
  | [], _, h => h.elim (fun e => by cases e) id
  | (y, k) :: r, acc, h => by
    unfold closOf
    by_cases hk : (k == .free) = true
    · rw [if_pos hk]
      refine closOf_has r _ ?_
      by_cases hy : (x == y) = true
      · exact .inr (by rw [List.lookup_cons, hy]; rfl)
      · refine h.imp (fun e => ?_) fun e => ?_
        · rw [List.lookup_cons] at e; simpa only [hy] using e
        · rw [List.lookup_cons]; simpa only [hy] using e
    · rw [if_neg hk]
      refine closOf_has r acc ?_
      by_cases hy : (x == y) = true
      · refine .inr (h.elim (fun e => ?_) id)
        rw [List.lookup_cons, hy] at e
        exact absurd (by rw [Option.some.inj e]; rfl) hk
      · refine h.imp (fun e => ?_) id
        rw [List.lookup_cons] at e; simpa only [hy] using e
theorem lookup_relabelN (outer : List (Str × NameKind)) : ∀ (names : List (Str × NameKind)) (x : Str), (relabelN names outer).lookup x = (names.lookup x).map fun k => if (k == .free && outer.lookup x == some .cell) then .cell else k
  | [], _ => rfl
  | (y, k) :: r, x => by
    have ih := lookup_relabelN outer r x
    show List.lookup x ((if (k == .free && outer.lookup y == some .cell) then (y, NameKind.cell) else (y, k)) :: relabelN r outer) = _
    by_cases hy : (x == y) = true
    · have e : x = y := beq_iff_eq.mp hy
      subst e
      by_cases hc : (k == .free && outer.lookup x == some .cell) = true
      · rw [if_pos hc, List.lookup_cons, List.lookup_cons, hy]; dsimp only [Option.map_some]; rw [if_pos hc]
      · rw [if_neg hc, List.lookup_cons, List.lookup_cons, hy]; dsimp only [Option.map_some]; rw [if_neg hc]
    · by_cases hc : (k == .free && outer.lookup y == some .cell) = true
      · rw [if_pos hc]; simp only [List.lookup_cons, hy]; exact ih
      · rw [if_neg hc]; simp only [List.lookup_cons, hy]; exact ih
theorem mem_of_lookup' {x : Str} {k : NameKind} {l : List (Str × NameKind)} (h : l.lookup x = some k) : (x, k) ∈ l := mem_of_lookup h
theorem mask_get {nm : List Str} {x y : Str} {j : Nat} (h : (mask nm x)[j]? = some y) : y = Str.empty ∨ (nm[j]? = some y ∧ y ≠ x) := by
  unfold mask at h
  rw [List.getElem?_map] at h
  obtain ⟨z, h1, h2⟩ := Option.map_eq_some_iff.mp h
  split at h2
  · exact .inl h2.symm
  · rename_i hne; subst h2; exact .inr ⟨h1, hne⟩

/-- the env of a comprehension's turn -/
theorem comp_env {ce : CE} {env cenv : Env} {scope : Scope} {x : Str} {h h' : Heap} {C : Addr} {m : Str → Option Value} (K : CompOk ce scope x) (O : EnvOk c ce env) (V : EnvAt c ce.nm env ρ H h)
    (hk : ∀ b o, h.get? b = some o → h'.get? b = some o) (hn : h'.Ns C m) (hC : H C = none) (hC0 : c.s0.heap.get? C = none)
    (he : cenv = { newEnv scope C env.globals (closOf env.cells scope.names []) env.qual none .none (some env) builtinsNs with scope := relabel scope env }) :
    EnvOk c (ce.inner scope x) cenv ∧ EnvAt c (ce.inner scope x).nm cenv (ρ ++ [none]) H h' ∧ cenv.locals = C := by
  have hrel : (relabel scope env).names = relabelN scope.names ce.names := by
    unfold relabel relabelN
    apply List.map_congr_left
    rintro ⟨a, k⟩ _
    simp only [O.kind, O.kindOf, CE.kind, beq_self_eq_true, Bool.and_true]
  have hfree : ∀ y ∈ scope.names, y.2 = .free → ∃ d, env.cells.lookup y.1 = some d := fun y hy hf => V.hasc y.1 (by rw [O.kindOf]; exact K.free y hy hf)
  have hmem := closOf_mem (cells := env.cells) scope.names [] hfree (fun p hp => nomatch hp)
  have hO : EnvOk c (ce.inner scope x) cenv := by
    subst he
    exact ⟨K.kind, hrel, O.globals, O.builtins, O.fns, O.cons, K.nodup⟩
  have hcells : cenv.cells = closOf env.cells scope.names [] := by subst he; rfl
  have hloc : cenv.locals = C := by subst he; rfl
  have hkind : ∀ y, cenv.kindOf y = (scope.names.lookup y).map fun k => if (k == .free && ce.names.lookup y == some .cell) then .cell else k := fun y => by
    rw [hO.kindOf]; exact lookup_relabelN _ _ _
  have hlook : ∀ y d, cenv.cells.lookup y = some d → env.cells.lookup y = some d := fun y d e => hmem (y, d) (mem_of_lookup (hcells ▸ e))
  have hcellk : ∀ y, cenv.kindOf y = some .cell → scope.names.lookup y = some .free ∧ env.kindOf y = some .cell := fun y e => by
    rw [hkind] at e
    obtain ⟨k, e1, e2⟩ := Option.map_eq_some_iff.mp e
    split at e2
    · rename_i hc
      simp only [Bool.and_eq_true, beq_iff_eq] at hc
      exact ⟨by rw [e1, hc.1], by rw [O.kindOf]; exact hc.2⟩
    · subst e2; exact absurd rfl (K.nocell _ (mem_of_lookup' e1))
  refine ⟨hO, ⟨⟨m, hloc ▸ hn, fun j y av h1 h2 h3 => ?_⟩, by rw [hloc]; exact hC, by rw [hloc]; exact hC0, fun y d hd => ?_, fun j y av h1 h2 h3 => ?_, fun y h2 => ?_, fun y z d hy hz => V.apart y z d (hlook y d hy) (hlook z d hz), ?_⟩, hloc⟩
  · exfalso
    by_cases hj : j < ρ.length
    · have h1' : (mask ce.nm x)[j]? = some y := by
        have hlm : j < (mask ce.nm x).length := by unfold mask; rw [List.length_map, ← V.len]; exact hj
        have : (mask ce.nm x ++ [x])[j]? = some y := h1
        rwa [List.getElem?_append_left hlm] at this
      refine K.outer y (List.mem_of_getElem? h1') ?_
      rw [hkind] at h3
      obtain ⟨k, e1, e2⟩ := Option.map_eq_some_iff.mp h3
      split at e2
      · cases e2
      · rw [e1, e2]
    · rw [List.getElem?_append_right (Nat.not_lt.mp hj)] at h2
      have : j - ρ.length = 0 ∨ 1 ≤ j - ρ.length := by omega
      rcases this with q | q
      · rw [q] at h2; simp at h2
      · rw [List.getElem?_eq_none (by simpa using q)] at h2; cases h2
  · obtain ⟨c1, c2, v, c3⟩ := V.cell y d (hlook y d hd)
    exact ⟨c1, c2, v, c3.keeps hk⟩
  · obtain ⟨e1, e2⟩ := hcellk y h3
    have hj : j < ρ.length := by
      rcases Nat.lt_or_ge j ρ.length with q | q
      · exact q
      · rw [List.getElem?_append_right q] at h2
        have : j - ρ.length = 0 ∨ 1 ≤ j - ρ.length := by omega
        rcases this with w | w
        · rw [w] at h2; simp at h2
        · rw [List.getElem?_eq_none (by simpa using w)] at h2; cases h2
    rw [List.getElem?_append_left hj] at h2
    have h1' : (mask ce.nm x)[j]? = some y := by
      have hlm : j < (mask ce.nm x).length := by unfold mask; rw [List.length_map, ← V.len]; exact hj
      have : (mask ce.nm x ++ [x])[j]? = some y := h1
      rwa [List.getElem?_append_left hlm] at this
    rcases mask_get h1' with q | ⟨q, _⟩
    · rw [q, K.nempty] at e1; cases e1
    · obtain ⟨d, v, e3, e4, e5⟩ := V.cv j y av q h2 e2
      have := closOf_has (cells := env.cells) scope.names [] (.inl e1)
      obtain ⟨d', hd'⟩ := Option.isSome_iff_exists.mp this
      have e6 := hlook y d' (hcells.symm ▸ hd')
      rw [e3] at e6; cases e6
      exact ⟨d, v, hcells.symm ▸ hd', e4.keeps hk, e5.mono (.of_keeps hk)⟩
  · obtain ⟨e1, e2⟩ := hcellk y h2
    have := closOf_has (cells := env.cells) scope.names [] (.inl e1)
    obtain ⟨d', hd'⟩ := Option.isSome_iff_exists.mp this
    exact ⟨d', hcells.symm ▸ hd'⟩
  · show (ρ ++ [none]).length = (mask ce.nm x ++ [x]).length
    unfold mask
    simp [V.len]
end
end Mine

set_option maxRecDepth 10000
set_option autoImplicit false
set_option genSizeOf false
set_option genSizeOfSpec false
set_option genInjectivity false
namespace Mine
open PySem

section
variable {c : Cx} {n : Nat} {ρ : Loc} {H : AH}

theorem iter_self {it : Addr} {k : IK} {v : AV} {L : List AV} {i : Nat} {A : Around} {s : Shared} {E : Value → Shared → Prop} {Q : Value → Shared → Prop} (x : ItAt c s.heap it k v L i) (h : Q (.ref it) s) : wpAny (MM c) A (pyIter (.ref it)) Q E s := by
  cases x with
  | list x => exact wpAny_pyIter_listiter x h
  | tup _ _ x => exact wpAny_pyIter_tupleiter x h
  | rng x => exact wpAny_pyIter_rangeiter x h
  | dict x => exact wpAny_pyIter_keyiter x h

noncomputable def CompTurn (c : Cx) (n : Nat) (cond : Option X) (elt : X) (ρ : Loc) (H : AH) (J : AH → Prop) (K : Option AV → AH → Prop) : Prop := match cond with
  | none => WX c n elt ρ H fun z H' => K (some z) H'
  | some t => WT c n t ρ H fun b H1 => J H1 ∧ (b = true → WX c n elt ρ H1 fun z H' => K (some z) H') ∧ (b = false → K none H1)
noncomputable def compK (I : Nat → List AV → AH → Prop) (j : Nat) (ys : List AV) : Option AV → AH → Prop
  | some z, H => I (j + 1) (ys ++ [z]) H
  | none, H => I (j + 1) ys H

theorem set_last (ρ : Loc) (u v : Option AV) : (ρ ++ [u]).set ρ.length v = ρ ++ [v] := by simp

/-- what a comprehension wants of the values that it goes over -/
noncomputable def CompOkW (c : Cx) (n : Nat) (cond : Option X) (elt : X) (ρ : Loc) (v : AV) (H1 : AH) (Q : List AV → AH → Prop) : Prop :=
  ∃ (k : IK) (L : List AV) (I : Nat → List AV → AH → Prop), Iter H1 k v L ∧ I 0 [] H1 ∧ (∀ j ys H', I j ys H' → Iter H' k v L ∧ ys.length ≤ 10000000) ∧
    (∀ j y ys H', L[j]? = some y → I j ys H' → CompTurn c n cond elt (ρ ++ [some y]) H' (fun H2 => Iter H2 k v L) (compK I j ys)) ∧ ∀ ys H', I L.length ys H' → Q ys H'

abbrev TInv (c : Cx) (nm : List Str) (cenv : Env) (ρ : Loc) (k : IK) (v : AV) (L : List AV) (H1 : AH) (h1 : Heap) (I : Nat → List AV → AH → Prop) (m : Nat) (s' : Shared) : Prop :=
  ∃ j ys H' u, j ≤ L.length ∧ m = L.length - j ∧ I j ys H' ∧ Rel c H' s' ∧ Ext H1 h1 H' s'.heap ∧ EnvAt c nm cenv (ρ ++ [u]) H' s'.heap ∧ ItAt c s'.heap h1.objs.size k v L j ∧
    H' h1.objs.size = none ∧ (∃ vs q, IsL s'.heap (h1.objs.size + 1) vs q ∧ VRs s'.heap ys vs.toList) ∧ H' (h1.objs.size + 1) = none
/-- what stands while a turn runs -/
structure Turn (c : Cx) (nm : List Str) (cenv : Env) (ρ : Loc) (k : IK) (v : AV) (L : List AV) (H1 : AH) (h1 : Heap) (j : Nat) (y : AV) (ys : List AV) (vs : Array Value) (q : Nat) (Ha : AH) (ha : Heap) : Prop where
  x : Ext H1 h1 Ha ha
  e : EnvAt c nm cenv (ρ ++ [some y]) Ha ha
  i : ItAt c ha h1.objs.size k v L (j + 1)
  a : Ha h1.objs.size = none
  l : IsL ha (h1.objs.size + 1) vs q
  w : VRs ha ys vs.toList
  b : Ha (h1.objs.size + 1) = none
theorem comp_core {ce : CE} {A : Around} {env : Env} {s1 : Shared} {E : Value → Shared → Prop} {scope : Scope} {x : Str} {px pos : Pos} {eltE itE : Expr} {ifs : Option Expr} {elt : X} {cond : Option X} {xv : Value} {v : AV} {H1 : AH} {Q : List AV → AH → Prop} {RR : Value → Addr → Result → Shared → Prop}
    (K : CompOk ce scope x) (rm : Rm n A) (O : EnvOk c ce env) (V1 : EnvAt c ce.nm env ρ H1 s1.heap) (R1 : Rel c H1 s1) (hv : VR s1.heap v xv) (hel : Cmp elt (ce.inner scope x) eltE) (hco : CmpO cond (ce.inner scope x) ifs)
    (hW : CompOkW c n cond elt ρ v H1 Q)
    (hRR : ∀ ys H' D C s' m, Q ys H' → Rel c (H'.set D (.list true ys)) s' → Ext H1 s1.heap (H'.set D (.list true ys)) s'.heap → H' D = none → s'.heap.Ns C m → (H'.set D (.list true ys)) C = none → c.s0.heap.get? C = none → s1.heap.get? C = none → RR (.ref D) C (.ok .next) s') :
    wpAny (MM c) A (pyIter xv) (fun it s₂ => wpAny (MM c) A (newList []) (fun acc s₃ => wpAny (MM c) A (newFunctionEnv scope env.globals (closOf env.cells scope.names []) [] env.qual none .none (some env)) (fun cenv s₄ =>
      codeAny (MM c) A (.compStart (.ListComp eltE [⟨.Name x px, itE, Option.toList ifs, 0⟩] scope pos) 0 it acc { cenv with scope := relabel scope env }) (RR acc cenv.locals) s₄) E s₃) E s₂) E s1 := by
  obtain ⟨k, L, I, hI, h0, hk, ht, hend⟩ := hW
  refine iter_start R1 hI hv fun o hit => ?_
  refine wpAny_newObj_type (wpAny_newFunctionEnv K.nocell (by intro y hy; simp at hy) (fun h₁ hns₁ hsb₁ => ?_) K.kind)
  dsimp only at hns₁ hsb₁ ⊢
  generalize hH3 : (s1.heap.push o).push { cls := .type "list", dict := none, data := .seq ([] : List Value).toArray } = H3 at hns₁ hsb₁ ⊢
  have e2 : (s1.heap.push o).objs.size = s1.heap.objs.size + 1 := Heap.size_push ..
  have e3 : H3.objs.size = s1.heap.objs.size + 2 := by rw [← hH3, Heap.size_push, e2]
  have old : ∀ b o', s1.heap.get? b = some o' → h₁.get? b = some o' := fun b o' e =>
    hsb₁.extBut b o' (by have : @LT.lt Nat _ b _ := Heap.lt_size e; show @Ne Nat _ _; omega) (Heap.get?_push_of_some _ (hH3 ▸ Heap.get?_push_of_some _ (Heap.get?_push_of_some _ e)))
  have oldI : ∀ o', (s1.heap.push o).get? s1.heap.objs.size = some o' → h₁.get? s1.heap.objs.size = some o' := fun o' e =>
    hsb₁.extBut _ o' (by show @Ne Nat _ _; omega) (Heap.get?_push_of_some _ (hH3 ▸ Heap.get?_push_of_some _ e))
  have oldP : ∀ b o', (s1.heap.push o).get? b = some o' → h₁.get? b = some o' := fun b o' e =>
    hsb₁.extBut _ o' (by have : @LT.lt Nat _ b _ := Heap.lt_size e; show @Ne Nat _ _; omega) (Heap.get?_push_of_some _ (hH3 ▸ Heap.get?_push_of_some _ e))
  have hD : IsL h₁ (s1.heap.objs.size + 1) #[] 0 := by
    refine hsb₁.extBut _ _ (by show @Ne Nat _ _; omega) (Heap.get?_push_of_some _ ?_)
    rw [← hH3, ← e2]; exact IsL.new _ _
  have fr : ∀ a, s1.heap.objs.size ≤ a → H1 a = none := fun a ha => R1.none_ge ha
  have fr0 : ∀ a, s1.heap.objs.size ≤ a → c.s0.heap.get? a = none := fun a ha => R1.none0_ge ha
  have frs : ∀ a, s1.heap.objs.size ≤ a → s1.heap.get? a = none := fun a ha => by
    cases e : s1.heap.get? a with
    | none => rfl
    | some o' => exact absurd (Heap.lt_size e) (Nat.not_lt.mpr ha)
  generalize hcenv : ({ newEnv scope H3.objs.size env.globals (closOf env.cells scope.names []) env.qual none .none (some env) builtinsNs with scope := relabel scope env } : Env) = cenv
  obtain ⟨O', V', hloc⟩ := comp_env K O V1 old hns₁ (fr _ (by omega)) (fr0 _ (by omega)) hcenv.symm
  have hx : (ce.inner scope x).kind x = some .local := by
    show (relabelN scope.names ce.names).lookup x = _
    rw [lookup_relabelN, K.loc]; rfl
  have hxi : (ce.inner scope x).nm[ρ.length]? = some x := by
    show (mask ce.nm x ++ [x])[ρ.length]? = some x
    have : (mask ce.nm x).length = ρ.length := by unfold mask; rw [List.length_map, V1.len]
    rw [List.getElem?_append_right (by omega), this]; simp
  have hne : ∀ b o', s1.heap.get? b = some o' → @LT.lt Nat _ b s1.heap.objs.size := fun b o' e => Heap.lt_size e
  have R₁ : Rel c H1 { s1 with heap := h₁, toks := s1.toks + ([] : List (Str × Value)).length } := R1.keeps old
  have hitA : ItAt c h₁ s1.heap.objs.size k v L 0 := hit.keep oldI (.of_keeps oldP) fun a o' _ _ e => oldP a o' e
  have loop : codeAny (MM c) A (.compLoop (.ListComp eltE [⟨.Name x px, itE, Option.toList ifs, 0⟩] scope pos) 0 (.ref s1.heap.objs.size) (.ref (s1.heap.objs.size + 1)) cenv) (RR (.ref (s1.heap.objs.size + 1)) H3.objs.size)
      { s1 with heap := h₁, toks := s1.toks + ([] : List (Str × Value)).length } := by
    refine codeAny_compLoop_tests (TInv c (ce.inner scope x).nm cenv ρ k v L H1 s1.heap I) ?_ L.length
      ⟨0, [], H1, none, Nat.zero_le _, rfl, h0, R₁, Ext.keeps old, V', hitA, fr _ (Nat.le_refl _), ⟨#[], 0, hD, .nil⟩, fr _ (by omega)⟩
    rintro m s' ⟨j, ys, H', u, hj, rfl, hIj, R', X', V', hA, hn, ⟨vs, q, hL, hvs⟩, hnD⟩
    have ni := hA.notImm
    have niD : ∀ o', s'.heap.get? (s1.heap.objs.size + 1) = some o' → ¬ Imm o' := fun o' e im => by
      rw [hL] at e; cases e
      rcases im with ⟨e, _⟩ | ⟨e | e, _⟩ <;> exact absurd e (by simp)
    have hIC : s1.heap.objs.size ≠ cenv.locals := by rw [hloc, e3]; omega
    have hDC : s1.heap.objs.size + 1 ≠ cenv.locals := by rw [hloc, e3]; omega
    have ownge : ∀ b, b = s1.heap.objs.size ∨ b = s1.heap.objs.size + 1 → ¬ OwnA cenv b := fun b hb w => by
      rcases w with w | ⟨y, w⟩
      · rcases hb with q | q
        · exact hIC (q ▸ w)
        · exact hDC (q ▸ w)
      · have hfree : ∀ y ∈ scope.names, y.2 = .free → ∃ d, env.cells.lookup y.1 = some d := fun y hy hf => V1.hasc y.1 (by rw [O.kindOf]; exact K.free y hy hf)
        have w' : (closOf env.cells scope.names []).lookup y = some b := by rw [← hcenv] at w; exact w
        have := closOf_mem (cells := env.cells) scope.names [] hfree (fun p hp => nomatch hp) (y, b) (mem_of_lookup w')
        obtain ⟨_, _, v', o', ho', _⟩ := V1.cell y b this
        have : @LT.lt Nat _ b _ := Heap.lt_size ho'
        omega
    cases hx' : L[j]? with
    | none =>
      have hle : L.length ≤ j := by simpa using hx'
      have hjj : j = L.length := by omega
      subst hjj
      refine next_end rm.handled R' (hk _ _ _ hIj).1 hA hle (Nat.le_refl _) fun h' ex => ?_
      have ki := ki_extBut ex ni
      have R2 := R'.other (t := s'.toks) ex hn (fr0 _ (Nat.le_refl _)) ni
      obtain ⟨mm, hns, _⟩ := V'.ns
      refine hRR ys H' _ _ _ mm (hend _ _ hIj) ⟨R2.same, R2.keep, fun a ob e => ?_⟩ (fun b ob e f => ?_) hnD (by rw [← hloc]; exact hns.extBut ex hIC.symm) ?_ (fr0 _ (by omega)) (frs _ (by omega))
      · by_cases ha : a = s1.heap.objs.size + 1
        · subst ha; simp at e; subst e
          exact ⟨fun _ => fr0 _ (by omega), vs, q, ex _ _ (by show @Ne Nat _ _; omega) hL, hvs.mono ki⟩
        · rw [AH.set_ne _ _ ha] at e; exact R2.objs a ob e
      · obtain ⟨e1, e2'⟩ := X' b ob e f
        have := hne b ob e
        exact ⟨ex b ob (by show @Ne Nat _ _; omega) e1, by rw [AH.set_ne _ _ (by show @Ne Nat _ _; omega)]; exact e2'⟩
      · rw [AH.set_ne _ _ (by show @Ne Nat _ _; omega), ← hloc]; exact V'.nh
    | some y =>
      have hlt : j < L.length := by
        rcases Nat.lt_or_ge j L.length with w | w
        · exact w
        · rw [List.getElem?_eq_none w] at hx'; cases hx'
      refine next_item R' hn (hk _ _ _ hIj).1 hA hx' fun yv h2 t2 vy hA2 hs2 => ?_
      have ki2 := ki_sameBut hs2 ni
      have R2 : Rel c H' { s' with heap := h2, toks := t2 } := R'.other hs2.extBut hn (fr0 _ (Nat.le_refl _)) ni
      have V2 : EnvAt c (ce.inner scope x).nm cenv (ρ ++ [u]) H' h2 := V'.keep (fun b o w e => hs2.extBut b o (fun q => ownge b (.inl q) w) e) ki2
      refine wpAny_assign_Name (storeL_ (s := { s' with heap := h2, toks := t2 }) hxi hx O' R2 V2 vy fun h3 t3 R3 hs3 ki3 V3 => ?_)
      rw [set_last] at V3
      have hA3 : ItAt c h3 s1.heap.objs.size k v L (j + 1) := hA2.keep (fun o e => hs3.extBut _ o hIC e) ki3 fun a o hd hv e => by
        subst hd; subst hv
        obtain ⟨kvs, hh⟩ := (hk _ _ _ hIj).1.dictH
        exact hs3.extBut a o (fun w => by rw [w, V2.nh] at hh; cases hh) e
      have hL3 : IsL h3 (s1.heap.objs.size + 1) vs q := hs3.extBut _ _ hDC (hs2.extBut _ _ (by show @Ne Nat _ _; omega) hL)
      have X3 : Ext H1 s1.heap H' h3 := fun b ob e f => by
        obtain ⟨e1, e2'⟩ := X' b ob e f
        have := hne b ob e
        exact ⟨hs3.extBut b ob (by rw [hloc, e3]; show @Ne Nat _ _; omega) (hs2.extBut b ob (by show @Ne Nat _ _; omega) e1), e2'⟩
      have hvs3 : VRs h3 ys vs.toList := (hvs.mono ki2).mono ki3
      -- behind a turn
      have turnEnd : ∀ (H4 : AH) (s4 : Shared) (ys' : List AV) (h5 : Heap) (E' : Prop) , Rel c H4 { s4 with heap := h5 } → Ext H1 s1.heap H4 h5 → EnvAt c (ce.inner scope x).nm cenv (ρ ++ [some y]) H4 h5 → ItAt c h5 s1.heap.objs.size k v L (j + 1) → H4 s1.heap.objs.size = none →
          (∃ vs q, IsL h5 (s1.heap.objs.size + 1) vs q ∧ VRs h5 ys' vs.toList) → H4 (s1.heap.objs.size + 1) = none → I (j + 1) ys' H4 →
          ∃ m, m < L.length - j ∧ TInv c (ce.inner scope x).nm cenv ρ k v L H1 s1.heap I m { s4 with heap := h5 } :=
        fun H4 s4 ys' h5 _ a1 a2 a3 a4 a5 a6 a7 a8 => ⟨L.length - (j + 1), by omega, j + 1, ys', H4, some y, hlt, rfl, a8, a1, a2, a3, a4, a5, a6, a7⟩
      -- an expression's step keeps all this
      have keepX : ∀ (Ha Hb : AH) (ha hb : Heap), KI ha hb → Ext Ha ha Hb hb → Iter Ha k v L → Turn c (ce.inner scope x).nm cenv ρ k v L H1 s1.heap j y ys vs q Ha ha → Turn c (ce.inner scope x).nm cenv ρ k v L H1 s1.heap j y ys vs q Hb hb := by
        intro Ha Hb ha hb ki X hIt ⟨b1, b2, b3, b4, b5, b6, b7⟩
        obtain ⟨oi, _, _, hoi, _⟩ := b3.obj
        refine ⟨b1.trans X, b2.ext X ki, b3.keep (fun o e => (X.none e b4).1) ki fun a o hd hv e => ?_, (X.none hoi b4).2, (X.none b5 b7).1, b6.mono ki, (X.none b5 b7).2⟩
        subst hd; subst hv
        obtain ⟨kvs, hh⟩ := hIt.dictH
        exact (X a o e (by rw [hh]; rfl)).1
      -- the element and its append
      have eltStep : ∀ (Ha : AH) (sa : Shared), Rel c Ha sa → Iter Ha k v L → Turn c (ce.inner scope x).nm cenv ρ k v L H1 s1.heap j y ys vs q Ha sa.heap → (WX c n elt (ρ ++ [some y]) Ha fun z H' => compK I j ys (some z) H') → ∀ E1 : Value → Shared → Prop, wpAny (MM c) A (eval eltE cenv) (fun xx s₄ => wpAny (MM c) A (call (.builtin "list.append") [.ref (s1.heap.objs.size + 1), xx])
            (fun _ s₅ => ∃ m, m < L.length - j ∧ TInv c (ce.inner scope x).nm cenv ρ k v L H1 s1.heap I m s₅) E1 s₄) E1 sa := by
        intro Ha sa Ra hIt tn hW E1
        refine mono' (hW (ce.inner scope x) eltE hel A cenv sa E1 rm O' Ra tn.e) ?_
        rintro z s4 ⟨zv, H4, R4, X4, V4, q4⟩
        obtain ⟨d1, d2, d3, d4, d5, d6, d7⟩ := keepX Ha H4 sa.heap s4.heap (Ra.ki X4) X4 hIt tn
        have hlen : vs.size ≤ sizeLine := by
          have h1 := d6.length
          have h2 := (hk _ _ _ hIj).2
          rw [Array.length_toList] at h1
          rw [h1]
          exact Nat.le_trans h2 (by decide)
        refine wpAny_list_append_plain (items := vs) ⟨q, d5⟩ (fun h5 hp5 hs5 => ?_) hlen
        obtain ⟨q5, hp5⟩ := hp5
        have niD' : ∀ o', s4.heap.get? (s1.heap.objs.size + 1) = some o' → ¬ Imm o' := fun o' e im => by
          rw [d5] at e; cases e
          rcases im with ⟨e, _⟩ | ⟨e | e, _⟩ <;> exact absurd e (by simp)
        have ki5 := ki_sameBut hs5 niD'
        refine turnEnd H4 s4 (ys ++ [zv]) h5 True (R4.other (t := s4.toks) hs5.extBut d7 (fr0 _ (by omega)) niD') (fun b ob e f => ?_) (d2.keep (fun b o w e => hs5.extBut b o (fun q => ownge b (.inr q) w) e) ki5)
          (d3.keep (fun o e => hs5.extBut _ o (by show @Ne Nat _ _; omega) e) ki5 fun a o hd hv e => ?_) d4 ⟨_, _, hp5, ?_⟩ d7 q4
        · obtain ⟨e1, e2'⟩ := d1 b ob e f
          have := hne b ob e
          exact ⟨hs5.extBut b ob (by show @Ne Nat _ _; omega) e1, e2'⟩
        · subst hd; subst hv
          obtain ⟨kvs, hh⟩ := hIt.dictH
          exact hs5.extBut a o (fun w => by rw [w] at hh; have b7 := tn.b; rw [hh] at b7; cases b7) e
        · rw [Array.toList_push]
          exact (d6.mono ki5).append (.cons (V4.mono ki5) .nil)
      have hIt := (hk _ _ _ hIj).1
      have T := ht j y ys H' hx' hIj
      cases cond with
      | none =>
        obtain rfl : ifs = none := hco
        refine wpAny_tests_nil ?_
        simp only [if_true]
        exact eltStep H' _ R3 hIt ⟨X3, V3, hA3, hn, hL3, hvs3, hnD⟩ T _
      | some t =>
        obtain ⟨te, rfl, hte⟩ := hco
        refine wpAny_tests_one (mono' (T (ce.inner scope x) te hte A cenv _ _ rm O' R3 V3) ?_)
        rintro b s4 ⟨H4, R4, X4, q0, q1, q2⟩
        have tn := keepX H' H4 h3 s4.heap (R3.ki X4) X4 hIt ⟨X3, V3, hA3, hn, hL3, hvs3, hnD⟩
        obtain ⟨d1, d2, d3, d4, d5, d6, d7⟩ := id tn
        cases b with
        | false =>
          simp only [Bool.false_eq_true, if_false]
          exact turnEnd H4 s4 ys s4.heap True R4 d1 d2 d3 d4 ⟨_, _, d5, d6⟩ d7 (q2 rfl)
        | true =>
          simp only [if_true]
          refine eltStep H4 s4 R4 ?_ tn (q1 rfl) _
          -- the iterated thing still stands
          exact q0
  subst hcenv
  rw [← e2] at loop
  exact codeAny_compStart_list loop (iter_self (s := { s1 with heap := h₁, toks := s1.toks + ([] : List (Str × Value)).length }) hitA loop)
end
end Mine

set_option maxRecDepth 10000
set_option autoImplicit false
set_option genSizeOf false
set_option genSizeOfSpec false
set_option genInjectivity false
namespace Mine
open PySem

section
variable {c : Cx} {n : Nat} {ρ : Loc} {H : AH}

theorem ki_ns {h h' : Heap} {C : Addr} {m : Str → Option Value} (hn : h.Ns C m) (hs : Heap.SameBut C h h') : KI h h' := ki_sameBut hs (Ns.notImm hn)

theorem WX.comp_ {elt it : X} {cond : Option X} {Q : AV → AH → Prop}
    (h : WX c n it ρ H fun v H1 => CompOkW c n cond elt ρ v H1 fun ys H' => ∀ D, H' D = none → Q (.ref D) (H'.set D (.list true ys))) : WX c n (.comp elt it cond) ρ H Q := by
  intro ce e hc A env s E rm O R V
  obtain ⟨elt', x, px, it', ifs, scope, p, rfl, hns, K, hit, hel, hco⟩ := hc
  rw [eval_ListComp]
  have hfree : ∀ y ∈ scope.names, y.2 = .free → ∃ d, env.cells.lookup y.1 = some d := fun y hy hf => V.hasc y.1 (by rw [O.kindOf]; exact K.free y hy hf)
  refine wpAny_comprehension_free (use := none) rfl (folded_plain hns env) (closureFor_eq hfree) K.kind K.names (mono' (h ce _ hit A env s E rm O R V) ?_)
  rintro xv s1 ⟨v, H1, R1, X1, V1, hW⟩
  refine comp_core K rm O (V.ext X1 (R.ki X1)) R1 V1 hel hco hW ?_
  intro ys H' D C s' m hq R' X' hD hn hC hC0 _
  refine ⟨m, hn, fun h' hs' => ?_⟩
  have ni := Ns.notImm hn
  refine ⟨.ref D, _, R'.other (t := s'.toks) hs'.extBut hC hC0 ni, X1.trans fun b o e f => ?_, .ref D, hq D hD⟩
  obtain ⟨e1, e2⟩ := X' b o e f
  refine ⟨hs'.extBut b o (fun q => ?_) e1, e2⟩
  rename_i hC1
  rw [q, hC1] at e; cases e

theorem swaps_comp {elt : Expr} {gens : List Comprehension} {scope : Scope} {p px : Pos} {x : Str} {line : Nat} {env : Env} : ∃ b, swapsWith (.ListComp elt gens scope p) (some (.Name x px)) line env = pure b := ⟨_, rfl⟩

theorem W1.asgc_ {i : Nat} {elt it : X} {cond : Option X} {Q : Fl → Loc → AH → Prop}
    (h : WX c n it ρ H fun v H1 => CompOkW c n cond elt ρ v H1 fun ys H' => ∀ D, H' D = none → Q .next (ρ.set i (some (.ref D))) (H'.set D (.list true ys))) : W1 c n (.asgc i elt it cond) ρ H Q := by
  intro ce st hc A env s E rm O R V
  obtain ⟨z, pz, e, sp, rfl, hi, hkz, elt', x, px, it', ifs, scope, p, rfl, hns, K, hit, hel, hco⟩ := hc
  obtain ⟨b, hb⟩ := swaps_comp (elt := elt') (gens := [⟨.Name x px, it', Option.toList ifs, 0⟩]) (scope := scope) (p := p) (px := pz) (x := z) (line := sp.line) (env := env)
  have hfree : ∀ y ∈ scope.names, y.2 = .free → ∃ d, env.cells.lookup y.1 = some d := fun y hy hf => V.hasc y.1 (by rw [O.kindOf]; exact K.free y hy hf)
  cases b with
  | false =>
    refine wpAny_Assign_Name ?_ hb
    refine mono' (WX.comp_ (Q := fun v H' => Q .next (ρ.set i (some v)) H') h ce _ ⟨elt', x, px, it', ifs, scope, p, rfl, hns, K, hit, hel, hco⟩ A env s E rm O R V) ?_
    rintro v s1 ⟨av, H1, R1, X1, V1, q1⟩
    refine store_ hi hkz O R1 (V.ext X1 (R.ki X1)) V1 fun h' t R2 X2 _ V2 => ?_
    exact ⟨.next, _, H1, R2, X1.toE.trans X2, V2, .next, q1⟩
  | true =>
    rw [exec_Assign_Name_used _ _ _ _ hb]
    refine wpAny_bind (wpAny_standAt (wpAny_bind ?_))
    show wpAny _ A (do let _ ← comprehension (.ListComp elt' [⟨.Name x px, it', Option.toList ifs, 0⟩] scope p) scope env _ (newList []) false (eval it' env) (some (assign (.Name z pz) env))) _ _ s
    refine wpAny_bind (wpAny_mono (wpAny_comprehension_free (use := some (assign (.Name z pz) env)) (Q := fun _ s' => PostS c ce.nm env H s.heap Q .next s') rfl (folded_plain hns env) (closureFor_eq hfree) K.kind K.names (mono' (h ce _ hit A env s E rm O R V) ?_))
      (fun _ s' hq => wpAny_pure (wpAny_pure hq)) fun _ _ e => e)
    rintro xv s1 ⟨v, H1, R1, X1, V1, hW⟩
    have V' := V.ext X1 (R.ki X1)
    refine comp_core K rm O V' R1 V1 hel hco hW ?_
    intro ys H' D C s' m hq R' X' hD hn hC hC0 hC1
    have X2 := X1.trans X'
    have V2 := V.ext X2 (R.ki X2)
    show wpAny (MM c) A (assign (.Name z pz) env (.ref D)) (fun _ s'' => ∃ m, s''.heap.Ns C m ∧ ∀ h', Heap.SameBut C s''.heap h' → _) E s'
    refine wpAny_assign_Name (store_ hi hkz O R' V2 (.ref D) fun h' t R3 X3 _ V3 => ?_)
    obtain ⟨m0, hn0, _⟩ := V'.ns
    have hown : ¬ OwnA env C := fun w => by
      obtain ⟨o, ho⟩ := V'.own w
      rw [hC1] at ho; cases ho
    have hn3 : h'.Ns C m := by
      obtain ⟨o, es, ep, ho, hr⟩ := hn
      exact ⟨o, es, ep, (X3 C o ho (by rw [hC]; rfl) hown).1, hr⟩
    refine ⟨m, hn3, fun h'' hs'' => ?_⟩
    have ni := Ns.notImm hn3
    refine ⟨.next, _, _, R3.other (t := t) hs''.extBut hC hC0 ni, fun b o e f w => ?_, V3.keep (fun b o w e => hs''.extBut b o (fun q => hown (q ▸ w)) e) (ki_ns hn3 hs''), .next, hq D hD⟩
    obtain ⟨e1, e2⟩ := X1 b o e f
    have hbC : b ≠ C := fun q => by rw [q, hC1] at e1; cases e1
    obtain ⟨e3, e4⟩ := X2 b o e f
    obtain ⟨e5, e6⟩ := X3 b o e3 (e4 ▸ f) w
    exact ⟨hs''.extBut b o hbC e5, e6.trans e4⟩
end
end Mine

set_option maxRecDepth 10000
set_option autoImplicit false
set_option genSizeOf false
set_option genSizeOfSpec false
set_option genInjectivity false
namespace Mine
open PySem

section
variable {c : Cx} {n : Nat} {H : AH}

/-! ## arithmetic -/
noncomputable def addW : AV → AV → AH → (AV → AH → Prop) → Prop
  | .int a, .int b, H, Q => Q (.int (a + b)) H
  | .tup a, .tup b, H, Q => a.length + b.length ≤ 10000000 ∧ Q (.tup (a ++ b)) H
  | .str a, .str b, H, Q => a.length + b.length ≤ 10000000 ∧ Q (.str (a ++ b)) H
  | .ref a, .ref b, H, Q => ∃ o1 l1 o2 l2, H a = some (.list o1 l1) ∧ H b = some (.list o2 l2) ∧ l1.length + l2.length ≤ 10000000 ∧ ∀ r, H r = none → Q (.ref r) (H.set r (.list true (l1 ++ l2)))
  | _, _, _, _ => False
noncomputable def ii (f : Int → Int → AH → (AV → AH → Prop) → Prop) : AV → AV → AH → (AV → AH → Prop) → Prop
  | .int a, .int b, H, Q => f a b H Q
  | _, _, _, _ => False
theorem ii_inv {f : Int → Int → AH → (AV → AH → Prop) → Prop} {a b : AV} {Q : AV → AH → Prop} (h : ii f a b H Q) : ∃ i j, a = .int i ∧ b = .int j ∧ f i j H Q := by
  unfold ii at h; split at h
  · exact ⟨_, _, rfl, rfl, h⟩
  · exact h.elim
noncomputable def mulOk (a b : Int) : Prop := a.natAbs < 2 ^ 64 ∨ b.natAbs < 2 ^ 64 ∨ (a.natAbs < 2 ^ 200 ∧ b.natAbs < 2 ^ 200)
theorem mulOk.inl {a b : Int} (h : a.natAbs < 2 ^ 64) : mulOk a b := Or.inl h
theorem mulOk.inr {a b : Int} (h : b.natAbs < 2 ^ 64) : mulOk a b := Or.inr (Or.inl h)
theorem mulOk.two {a b : Int} (h : a.natAbs < 2 ^ 200) (h2 : b.natAbs < 2 ^ 200) : mulOk a b := Or.inr (Or.inr ⟨h, h2⟩)
noncomputable def mulW : AV → AV → AH → (AV → AH → Prop) → Prop
  | .int a, .int b, H, Q => mulOk a b ∧ Q (.int (a * b)) H
  | .ref a, .int k, H, Q => ∃ own l, H a = some (.list own l) ∧ 0 ≤ k ∧ k ≤ 1000 ∧ l.length ≤ 1000 ∧ ∀ r, H r = none → Q (.ref r) (H.set r (.list true (List.replicate k.toNat l).flatten))
  | _, _, _, _ => False
noncomputable def opW : Operator → AV → AV → AH → (AV → AH → Prop) → Prop
  | .Add => addW
  | .Sub => ii fun a b H Q => Q (.int (a - b)) H
  | .Mult => mulW
  | .FloorDiv => ii fun a b H Q => 0 < b ∧ b < 1073741824 ∧ Q (.int (a / b)) H
  | .Mod => ii fun a b H Q => 0 < b ∧ Q (.int (a % b)) H
  | .Pow => ii fun a b H Q => 2 ≤ a ∧ a < 1000 ∧ 1 ≤ b ∧ b < 1000 ∧ Q (.int (a ^ b.toNat)) H
  | _ => fun _ _ _ _ => False

theorem bits64 {k : Int} (h : k.natAbs < 2 ^ 64) : Builtin.Int.intBits k ≤ 64 := intBits_le_64 (by omega) (by omega)

theorem bits200 {k : Int} (h : k.natAbs < 2 ^ 200) : Builtin.Int.intBits k ≤ 200 := by
  unfold Builtin.Int.intBits
  split
  · exact Nat.zero_le _
  · by_cases h0 : k.natAbs = 0
    · rw [h0]; decide
    · exact Nat.succ_le_of_lt ((Nat.log2_lt h0).mpr h)
theorem mul_both {a b : Int} (ha : Builtin.Int.intBits a ≤ 200) (hb : Builtin.Int.intBits b ≤ 200) : IntMulOk a b := by
  unfold IntMulOk Builtin.Int.intTooBig
  intro h
  simp only [Bool.and_eq_true, decide_eq_true_eq] at h
  have : (400 : Int) ≤ (bitsLine : Int) := by decide
  omega
theorem addW.of_ {a b : AV} {Q : AV → AH → Prop} (h : addW a b H Q) : OW c n .Add a b H Q := by
  intro A s ca cb E rm R Va Vb
  unfold addW at h
  split at h
  · cases Va; cases Vb; exact P.add_int (.tok _ R (.int _ _) h)
  rotate_left
  · obtain ⟨hl, hq⟩ := h
    cases Va; cases Vb
    exact PyProof.Rows.add_str (fun t' tk => .tok _ R (.str _ _) hq) (by rw [sizeLine_eq]; omega)
  rotate_right
  · rename_i l1 l2
    obtain ⟨hl, hq⟩ := h
    cases Va with
    | @tup t vs m _ ht hvs =>
    cases Vb with
    | @tup u ws m2 _ hu hws =>
      have e1 := hvs.length
      have e2 := hws.length
      rw [Array.length_toList] at e1 e2
      by_cases h1 : vs.isEmpty = true
      · have hz : vs.size = 0 := by simpa using h1
        have : l1 = [] := List.length_eq_zero_iff.mp (by omega)
        subst this
        refine concat_meets ⟨_, ht, rfl⟩ ⟨_, hu, rfl⟩ noFill_tuple_add seq_tuple_add F.slot_tuple_add F.entry_tuple_add (F.args_tuple_add_2 _ _) (AutoSeq1.tuple___add___tuple_tuple_0 t vs m u ws m2 h1) ⟨ht, hu, ?_⟩
        exact .same R (.tup hu hws) hq
      · by_cases h2 : ws.isEmpty = true
        · have hz : ws.size = 0 := by simpa using h2
          have : l2 = [] := List.length_eq_zero_iff.mp (by omega)
          subst this
          rw [List.append_nil] at hq
          refine concat_meets ⟨_, ht, rfl⟩ ⟨_, hu, rfl⟩ noFill_tuple_add seq_tuple_add F.slot_tuple_add F.entry_tuple_add (F.args_tuple_add_2 _ _) (AutoSeq1.tuple___add___tuple_tuple_1 t vs m u ws m2 h1 h2) ⟨ht, hu, ?_⟩
          exact .same R (.tup ht hvs) hq
        · refine P.add_tuple ht hu h1 h2 ⟨_, H, R.push _, Ext.push _ _, .tup (IsT.new _ _) ?_, hq⟩ (by rw [sizeLine_eq]; omega)
          rw [Array.toList_append]
          exact (hvs.append hws).mono (ki_push _ _)
  · obtain ⟨o1, l1, o2, l2, h1, h2, hl, hq⟩ := h
    cases Va; cases Vb
    obtain ⟨_, vs, m, hli, hvs⟩ := R.objs _ _ h1
    obtain ⟨_, ws, m2, hli2, hws⟩ := R.objs _ _ h2
    have e1 := hvs.length
    have e2 := hws.length
    rw [Array.length_toList] at e1 e2
    refine P.add_list hli hli2 ⟨_, _, R.alloc _ (.list true (l1 ++ l2)) ⟨fun _ => R.fresh0, _, _, IsL.new _ _, ?_⟩, Ext.alloc R _ _, .ref _, hq _ R.fresh⟩ (by rw [sizeLine_eq]; omega)
    rw [Array.toList_append]
    exact (hvs.append hws).mono (ki_push _ _)
  · exact h.elim

theorem VRs.rep {h : Heap} {l : List AV} {vs : List Value} (x : VRs h l vs) : ∀ k : Nat, VRs h (List.replicate k l).flatten (List.replicate k vs).flatten
  | 0 => .nil
  | k + 1 => by rw [List.replicate_succ, List.replicate_succ]; exact x.append (VRs.rep x k)
theorem foldl_arr : ∀ (L : List (Array Value)) (b : Array Value), (L.foldl (fun x y => x ++ y) b).toList = b.toList ++ (L.map (·.toList)).flatten
  | [], b => by simp
  | a :: L, b => by rw [List.foldl_cons, foldl_arr L]; simp
theorem mulW.of_ {a b : AV} {Q : AV → AH → Prop} (h : mulW a b H Q) : OW c n .Mult a b H Q := by
  intro A s ca cb E rm R Va Vb
  unfold mulW at h
  split at h
  · obtain ⟨hb, hq⟩ := h
    cases Va; cases Vb
    refine P.mul_int (.tok _ R (.int _ _) hq) ?_
    rcases hb with hb | hb | ⟨ha, hb⟩
    · exact .of_left (bits64 hb)
    · exact .of_right (bits64 hb)
    · exact mul_both (bits200 ha) (bits200 hb)
  · rename_i a k
    obtain ⟨own, l, h1, h0, hk, hl, hq⟩ := h
    cases Va; cases Vb
    obtain ⟨_, vs, m, hli, hvs⟩ := R.objs _ _ h1
    have e1 := hvs.length
    rw [Array.length_toList] at e1
    have hm : vs.size * k.toNat ≤ 1000000 := Nat.le_trans (Nat.mul_le_mul (by omega : vs.size ≤ 1000) (by omega : k.toNat ≤ 1000)) (by decide)
    refine wpAny_binaryOp_repeat_ref (T := "list") (U := "int") (by decide) ⟨_, hli, rfl⟩ (fun s' => typeIs_int s' _ _) noFill_list_mul F.fills_int_mul F.slot_int_rmul repeat_list F.slot_int_index.lookup
      (call_meets F.slot_int_rmul (typeIs_int s _ _) F.entry_int_rmul (F.args_int_rmul_2 _ _) (int___rmul___int_list k _ a vs m) ⟨hli, rfl, ⟨_, hli, rfl⟩, ?_⟩)
    refine call_meets F.slot_list_mul ⟨_, hli, rfl⟩ F.entry_list_mul (F.args_list_mul_2 _ _) (AutoListH.list___mul___list_int_3 a vs m k _ ?_ ?_ ?_) ⟨hli, ?_⟩
    · unfold Builtin.List.listFitsIndex
      simp only [Bool.not_eq_true', Bool.not_eq_false, Bool.and_eq_true, decide_eq_true_eq]
      first | (constructor <;> omega) | omega
    · omega
    · unfold Builtin.List.listTooLong
      simp only [decide_eq_true_eq]
      first | omega | (rw [sizeLine_eq]; omega)
    · refine ⟨_, _, R.alloc _ (.list true (List.replicate k.toNat l).flatten) ⟨fun _ => R.fresh0, _, _, IsL.new _ _, ?_⟩, Ext.alloc R _ _, .ref _, hq _ R.fresh⟩
      rw [foldl_arr]
      have e : ((List.replicate (if vs.isEmpty = true then 0 else k.toNat) vs).map (·.toList)).flatten = (List.replicate k.toNat vs.toList).flatten := by
        rw [List.map_replicate]
        split
        · rename_i z
          have : vs.toList = [] := by simpa using z
          rw [this]; simp
        · rfl
      rw [e]
      exact (hvs.rep _).mono (ki_push _ _)
  · exact h.elim

theorem OW.of_ {op : Operator} {a b : AV} {Q : AV → AH → Prop} (h : opW op a b H Q) : OW c n op a b H Q := by
  cases op
  case Add => exact addW.of_ h
  case Sub =>
    obtain ⟨a, b, rfl, rfl, h⟩ := ii_inv h
    intro A s ca cb E rm R Va Vb
    cases Va; cases Vb; exact P.sub_int (.tok _ R (.int _ _) h)
  case Mult => exact mulW.of_ h
  case FloorDiv =>
    obtain ⟨a, b, rfl, rfl, h⟩ := ii_inv h
    obtain ⟨h0, hb, hq⟩ := h
    intro A s ca cb E rm R Va Vb
    cases Va; cases Vb
    refine AutoIntOps.floordiv_1 (by simp; omega) (by rw [PyProof.noPylong_small (by omega)]; simp) ?_
    rw [Int.fdiv_eq_ediv_of_nonneg _ (by omega)]
    exact .tok _ R (.int _ _) hq
  case Mod =>
    obtain ⟨a, b, rfl, rfl, h⟩ := ii_inv h
    obtain ⟨h0, hq⟩ := h
    intro A s ca cb E rm R Va Vb
    cases Va; cases Vb
    refine AutoIntOps.mod_1 (by simp; omega) ?_
    rw [Int.fmod_eq_emod_of_nonneg _ (by omega)]
    exact .tok _ R (.int _ _) hq
  case Pow =>
    obtain ⟨a, b, rfl, rfl, h⟩ := ii_inv h
    obtain ⟨h0, h1, h2, h3, hq⟩ := h
    intro A s ca cb E rm R Va Vb
    cases Va; cases Vb
    refine AutoIntOps.pow_4 (by omega) (by simp; omega) (by simp; omega) (by simp; omega) ?_ (.tok _ R (.int _ _) hq)
    have hb : Builtin.Int.intBits a ≤ 64 := bits64 (by omega)
    have hm : ((Builtin.Int.intBits a : Nat) : Int) * b ≤ 64 * 1000 := Int.mul_le_mul (by omega) (by omega) (by omega) (by omega)
    unfold Builtin.Int.intTooBig
    rw [decide_eq_true_eq]
    have : (64000 : Int) ≤ (bitsLine : Int) := by decide
    omega
  all_goals exact h.elim

/-! ## comparing -/
mutual
inductive DV (H : AH) : AV → PyData → Prop
  | none : DV H .none .none
  | bool (b : Bool) : DV H (.bool b) (.bool b)
  | int (i : Int) : DV H (.int i) (.int i)
  | str (x : Str) : PyData.strOk x = true → DV H (.str x) (.str x)
  | tup {l : List AV} {xs : List PyData} : DVs H l xs → DV H (.tup l) (.tuple xs)
  | list {a : Nat} {own : Bool} {l : List AV} {xs : List PyData} : H a = some (.list own l) → DVs H l xs → DV H (.ref a) (.list xs)
inductive DVs (H : AH) : List AV → List PyData → Prop
  | nil : DVs H [] []
  | cons {x : AV} {d : PyData} {l : List AV} {xs : List PyData} : DV H x d → DVs H l xs → DVs H (x :: l) (d :: xs)
end
mutual
theorem DV.reads {s : Shared} (R : Rel c H s) : ∀ {a : AV} {d : PyData}, DV H a d → ∀ {v : Value}, VR s.heap a v → ∃ as, Reads s.heap v d as
  | _, _, .none, _, V => by cases V; exact ⟨_, .none⟩
  | _, _, .bool b, _, V => by cases V; exact ⟨_, .bool b⟩
  | _, _, .int i, _, V => by cases V; exact ⟨_, .int i _⟩
  | _, _, .str x _, _, V => by cases V; exact ⟨_, .str x _⟩
  | _, _, .tup h, _, V => by
    cases V with
    | tup ht hv => obtain ⟨as, r⟩ := DVs.reads R h hv; exact ⟨as, .tuple ht rfl rfl r⟩
  | _, _, .list hh h, _, V => by
    cases V
    obtain ⟨_, _, _, hl, hv⟩ := R.objs _ _ hh
    obtain ⟨as, r⟩ := DVs.reads R h hv
    exact ⟨_, .list hl rfl rfl r⟩
theorem DVs.reads {s : Shared} (R : Rel c H s) : ∀ {a : List AV} {d : List PyData}, DVs H a d → ∀ {v : List Value}, VRs s.heap a v → ∃ as, ReadsAll s.heap v d as
  | _, _, .nil, _, V => by cases V; exact ⟨_, .nil⟩
  | _, _, .cons h1 h2, _, V => by
    cases V with
    | cons v1 v2 =>
      obtain ⟨_, r1⟩ := DV.reads R h1 v1
      obtain ⟨_, r2⟩ := DVs.reads R h2 v2
      exact ⟨_, .cons r1 r2⟩
end
mutual
theorem DV.lay : ∀ {a : AV} {d : PyData}, DV H a d → d.canLay0 = true
  | _, _, .none => rfl
  | _, _, .bool _ => rfl
  | _, _, .int _ => rfl
  | _, _, .str _ h => h
  | _, _, .tup h => DVs.lay h
  | _, _, .list _ h => DVs.lay h
theorem DVs.lay : ∀ {a : List AV} {d : List PyData}, DVs H a d → PyData.canLayAll0 d = true
  | _, _, .nil => rfl
  | _, _, .cons h1 h2 => by simp only [PyData.canLayAll0, DV.lay h1, DVs.lay h2, Bool.and_self]
end

noncomputable def eqW : AV → AV → AH → (Bool → AH → Prop) → Prop
  | .int a, .int b, H, Q => Q (decide (a = b)) H
  | .str a, .str b, H, Q => Q (decide (a = b)) H
  | .bool a, .bool b, H, Q => Q (a == b) H
  | .ref a, .ref b, H, Q => (∃ o1 l1 o2 l2, H a = some (.list o1 l1) ∧ H b = some (.list o2 l2) ∧ (l1 = [] ∨ l2 = []) ∧ Q (l1.isEmpty == l2.isEmpty) H) ∨
      (∃ da db, DV H (.ref a) da ∧ DV H (.ref b) db ∧ min da.depth db.depth ≤ 500 ∧ Q (PyData.eqv da db) H)
  | a, b, H, Q => ∃ da db, DV H a da ∧ DV H b db ∧ min da.depth db.depth ≤ 500 ∧ Q (PyData.eqv da db) H
noncomputable def inW : AV → AV → AH → (Bool → AH → Prop) → Prop
  | .int k, .ref a, H, Q => (∃ own kvs, H a = some (.dict own kvs) ∧ Q (kvs.any fun kv => kv.1 = k) H) ∨
      (∃ own l xs, H a = some (.list own l) ∧ DVs H l xs ∧ Q (xs.any fun y => PyData.eqv y (.int k)) H)
  | .str x, .ref a, H, Q => (∃ kvs, H a = some (.sdict kvs) ∧ Q (kvs.any fun kv => kv.1 = x) H) ∨
      (∃ own l xs, H a = some (.list own l) ∧ DVs H l xs ∧ PyData.strOk x = true ∧ Q (xs.any fun y => PyData.eqv y (.str x)) H)
  | a, .tup l, H, Q => ∃ d xs, DV H a d ∧ DVs H l xs ∧ d.depth ≤ 500 ∧ Q (xs.any fun y => PyData.eqv y d) H
  | a, .ref b, H, Q => ∃ own l d xs, H b = some (.list own l) ∧ DV H a d ∧ DVs H l xs ∧ d.depth ≤ 500 ∧ Q (xs.any fun y => PyData.eqv y d) H
  | _, _, _, _ => False
noncomputable def isNoneW : AV → AH → (Bool → AH → Prop) → Prop
  | .none, H, Q => Q true H
  | .rng _ _, _, _ => False
  | .view _, _, _ => False
  | _, H, Q => Q false H
noncomputable def isBoolW (b : Bool) : AV → AH → (Bool → AH → Prop) → Prop
  | .bool a, H, Q => Q (a == b) H
  | .rng _ _, _, _ => False
  | .view _, _, _ => False
  | _, H, Q => Q false H
noncomputable def isW (a : AV) : AV → AH → (Bool → AH → Prop) → Prop
  | .none, H, Q => isNoneW a H Q
  | .bool b, H, Q => isBoolW b a H Q
  | _, _, _ => False
noncomputable def ordW (f : Int → Int → Bool) : AV → AV → AH → (Bool → AH → Prop) → Prop
  | .int a, .int b, H, Q => Q (f a b) H
  | _, _, _, _ => False
theorem ord_inv {f : Int → Int → Bool} {a b : AV} {Q : Bool → AH → Prop} (h : ordW f a b H Q) : ∃ i j, a = .int i ∧ b = .int j ∧ Q (f i j) H := by
  unfold ordW at h; split at h
  · exact ⟨_, _, rfl, rfl, h⟩
  · exact h.elim
noncomputable def cmpW : CmpOp → AV → AV → AH → (Bool → AH → Prop) → Prop
  | .Eq => eqW
  | .NotEq => fun a b H Q => eqW a b H fun t => Q (!t)
  | .Lt => ordW fun a b => decide (a < b)
  | .LtE => ordW fun a b => decide (a ≤ b)
  | .Gt => ordW fun a b => decide (b < a)
  | .GtE => ordW fun a b => decide (b ≤ a)
  | .Is => isW
  | .IsNot => fun a b H Q => isW a b H fun t => Q (!t)
  | .In => inW
  | .NotIn => fun a b H Q => inW a b H fun t => Q (!t)

theorem Rm.room {A : Around} (rm : Rm n A) : A.units + 800 < cLine := by
  have := rm.units
  show A.units + 800 < 9900
  omega
noncomputable def isEqs (op : CmpOp) : Prop := op = .Eq ∨ op = .NotEq
theorem eq_gen {a b : AV} {da db : PyData} {A : Around} {s : Shared} {ca cb : Value} {E : Value → Shared → Prop} {Q : Value → Shared → Prop} (op : CmpOp) (neg : Bool) (hop : (op = .Eq ∧ neg = false) ∨ (op = .NotEq ∧ neg = true)) (rm : Rm n A) (R : Rel c H s) (Va : VR s.heap a ca) (Vb : VR s.heap b cb)
    (ha : DV H a da) (hb : DV H b db) (hd : min da.depth db.depth ≤ 500) (h : Q (.bool (neg ^^ PyData.eqv da db)) s) : wpAny (MM c) A (compareOp op ca cb) Q E s := by
  obtain ⟨as, ra⟩ := ha.reads R Va
  obtain ⟨bs, rb⟩ := hb.reads R Vb
  have := rm.room
  rcases hop with ⟨rfl, rfl⟩ | ⟨rfl, rfl⟩
  · exact SeqAt.compareEq_reads ra rb ha.lay hb.lay (by omega) (by simpa using h)
  · exact SeqAt.compareNe_reads ra rb ha.lay hb.lay (by omega) (by simpa using h)
theorem eq_any {a b : AV} {Q : Bool → AH → Prop} {A : Around} {s : Shared} {ca cb : Value} {E : Value → Shared → Prop} (op : CmpOp) (neg : Bool) (hop : (op = .Eq ∧ neg = false) ∨ (op = .NotEq ∧ neg = true)) (rm : Rm n A) (R : Rel c H s) (Va : VR s.heap a ca) (Vb : VR s.heap b cb)
    (h : eqW a b H fun t => Q (neg ^^ t)) : wpAny (MM c) A (compareOp op ca cb) (fun v s' => ∃ bb, v = .bool bb ∧ PostB c H s.heap Q bb s') E s := by
  have gen : (∃ da db, DV H a da ∧ DV H b db ∧ min da.depth db.depth ≤ 500 ∧ Q (neg ^^ PyData.eqv da db) H) → wpAny (MM c) A (compareOp op ca cb) (fun v s' => ∃ bb, v = .bool bb ∧ PostB c H s.heap Q bb s') E s := fun ⟨da, db, ha, hb, hd, hq⟩ =>
    eq_gen op neg hop rm R Va Vb ha hb hd ⟨_, rfl, .same R hq⟩
  unfold eqW at h
  split at h
  · rename_i a b
    refine gen ⟨_, _, .int a, .int b, by simp [PyData.depth], ?_⟩
    have e : PyData.eqv (.int a) (.int b) = decide (a = b) := by simp only [PyData.eqv]; rw [Bool.eq_iff_iff]; simp
    rw [e]; exact h
  rotate_left
  · rename_i a b
    refine gen ⟨_, _, .bool a, .bool b, by simp [PyData.depth], ?_⟩
    exact h
  rotate_right
  · rename_i a b
    cases Va; cases Vb
    have e : (a == b) = decide (a = b) := by rw [Bool.eq_iff_iff]; simp
    rcases hop with ⟨rfl, rfl⟩ | ⟨rfl, rfl⟩
    · refine PyProof.Rows.eq_str ⟨_, rfl, .same R ?_⟩
      rw [e]; simpa [eqW] using h
    · refine PyProof.Rows.ne_str ⟨_, rfl, .same R ?_⟩
      rw [bne, e]; simpa [eqW] using h
  · rename_i a b
    rcases h with ⟨o1, l1, o2, l2, h1, h2, h3, hq⟩ | h
    · cases Va; cases Vb
      obtain ⟨_, vs, m, hli, hvs⟩ := R.objs _ _ h1
      obtain ⟨_, ws, m2, hli2, hws⟩ := R.objs _ _ h2
      have e1 := hvs.length
      have e2 := hws.length
      rw [Array.length_toList] at e1 e2
      have hu : A.units < cLine := by have := rm.room; omega
      have key : ∀ t, (l1.isEmpty == l2.isEmpty) = t → vs.size = ws.size ∧ vs.size = 0 ∧ t = true ∨ (vs.size != ws.size) = true ∧ t = false := by
        intro t ht
        rcases h3 with rfl | rfl
        · cases l2 with
          | nil => left; simp at ht e1 e2; simp [e1, e2, ht]
          | cons x l => right; simp at ht; simp only [List.length_nil, List.length_cons] at e1 e2; exact ⟨by rw [e1, e2]; simp, ht.symm ▸ rfl⟩
        · cases l1 with
          | nil => left; simp at ht e1 e2; simp [e1, e2, ht]
          | cons x l => right; simp at ht; simp only [List.length_nil, List.length_cons] at e1 e2; exact ⟨by rw [e1, e2]; simp, ht.symm ▸ rfl⟩
      rcases key _ rfl with ⟨hs, hz, ht⟩ | ⟨hs, ht⟩ <;> rw [ht] at hq
      · have hall : (List.range vs.size).all (fun _ => true) = true := by simp
        rcases hop with ⟨rfl, rfl⟩ | ⟨rfl, rfl⟩
        · refine EqBoolInt.of_rc (SeqAt.RcAt.lists (e := fun _ => true) hli.isList hli2.isList hs hu fun j h1 _ => absurd h1 (by omega)) ⟨_, rfl, .same R ?_⟩
          rw [hall]; exact hq
        · refine EqBoolInt.of_rcne (SeqAt.RcNeAt.lists (e := fun _ => true) hli.isList hli2.isList hs hu fun j h1 _ => absurd h1 (by omega)) ⟨_, rfl, .same R ?_⟩
          rw [hall]; exact hq
      · rcases hop with ⟨rfl, rfl⟩ | ⟨rfl, rfl⟩
        · exact EqBoolInt.of_rc (SeqAt.RcAt.lists_lengths hli.isList hli2.isList hs hu) ⟨_, rfl, .same R hq⟩
        · exact EqBoolInt.of_rcne (SeqAt.RcNeAt.lists_lengths hli.isList hli2.isList hs hu) ⟨_, rfl, .same R hq⟩
    · exact gen h
  · exact gen h

theorem is_any {a b : AV} {Q : Bool → AH → Prop} {A : Around} {s : Shared} {ca cb : Value} {E : Value → Shared → Prop} (op : CmpOp) (neg : Bool) (hop : (op = .Is ∧ neg = false) ∨ (op = .IsNot ∧ neg = true)) (R : Rel c H s) (Va : VR s.heap a ca) (Vb : VR s.heap b cb)
    (h : isW a b H fun t => Q (neg ^^ t)) : wpAny (MM c) A (compareOp op ca cb) (fun v s' => ∃ bb, v = .bool bb ∧ PostB c H s.heap Q bb s') E s := by
  have key : ∀ t, plainIs ca cb = true → (ca == cb) = t → Q (neg ^^ t) H → wpAny (MM c) A (compareOp op ca cb) (fun v s' => ∃ bb, v = .bool bb ∧ PostB c H s.heap Q bb s') E s := by
    intro t hp ht hq
    rcases hop with ⟨rfl, rfl⟩ | ⟨rfl, rfl⟩
    · exact wpAny_is_plain hp ⟨_, rfl, .same R (by rw [ht]; simpa using hq)⟩
    · exact wpAny_isNot_plain hp ⟨_, rfl, .same R (by rw [ht]; simpa using hq)⟩
  cases b <;> try exact h.elim
  all_goals cases Vb
  all_goals cases a <;> try exact h.elim
  all_goals cases Va
  all_goals first
    | exact key _ rfl rfl h
    | exact key false rfl (by simp) h
    | exact key true rfl (by simp) h
    | (rename_i x y; cases x <;> cases y <;> exact key _ rfl rfl h)

theorem ord_any {f : Int → Int → Bool} {op : CmpOp} {a b : AV} {Q : Bool → AH → Prop} (hf : ∀ (x y : Int) (t u : Tok) (A : Around) (s : Shared) (E : Value → Shared → Prop) (Q : Value → Shared → Prop), Q (.bool (f x y)) s → wpAny (MM c) A (compareOp op (.int x t) (.int y u)) Q E s)
    (h : ordW f a b H Q) : KW c n op a b H Q := by
  intro A s ca cb E rm R Va Vb
  obtain ⟨i, j, rfl, rfl, h⟩ := ord_inv h
  cases Va; cases Vb
  exact hf _ _ _ _ _ _ _ _ ⟨_, rfl, .same R h⟩
end
end Mine

set_option maxRecDepth 10000
set_option autoImplicit false
set_option genSizeOf false
set_option genSizeOfSpec false
set_option genInjectivity false
namespace Mine
open PySem

section
variable {c : Cx} {n : Nat} {H : AH}

/-! ## dicts -/
noncomputable def keyAt {K : Type} [DecidableEq K] (kvs : List (K × AV)) (k : K) : Option AV := (kvs.find? fun kv => kv.1 = k).map (·.2)
noncomputable def storedA {K : Type} [DecidableEq K] (kvs : List (K × AV)) (k : K) (v : AV) : List (K × AV) :=
  if kvs.any (fun kv => kv.1 = k) then kvs.map (fun kv => if kv.1 = k then (kv.1, v) else kv) else kvs ++ [(k, v)]

theorem KV.length {h : Heap} {K : Type} {kvs : List (K × AV)} {cvs : List (K × Value)} (x : KV h kvs cvs) : cvs.length = kvs.length := by
  have := congrArg List.length x.1
  simpa using this.symm
theorem KV.cons_inv {h : Heap} {K : Type} {kv : K × AV} {kvs : List (K × AV)} {cvs : List (K × Value)} (x : KV h (kv :: kvs) cvs) : ∃ cv r, cvs = (kv.1, cv) :: r ∧ VR h kv.2 cv ∧ KV h kvs r := by
  obtain ⟨e, r⟩ := x
  cases cvs with
  | nil => simp at e
  | cons p cs =>
    simp only [List.map_cons, List.cons.injEq] at e r
    cases r with
    | cons h1 h2 => exact ⟨p.2, cs, by rw [e.1], h1, e.2, h2⟩
theorem KV.any {h : Heap} {K : Type} [DecidableEq K] (k : K) : ∀ {kvs : List (K × AV)} {cvs : List (K × Value)}, KV h kvs cvs → (kvs.any fun kv => kv.1 = k) = (cvs.any fun kv => kv.1 = k)
  | [], cvs, x => by
    have := x.length
    cases cvs with
    | nil => rfl
    | cons => simp at this
  | kv :: kvs, cvs, x => by
    obtain ⟨cv, r, rfl, _, hr⟩ := x.cons_inv
    simp only [List.any_cons, KV.any k hr]
theorem KV.find {h : Heap} {K : Type} [DecidableEq K] (k : K) {v : AV} : ∀ {kvs : List (K × AV)} {cvs : List (K × Value)}, KV h kvs cvs → keyAt kvs k = some v → ∃ cv, valueAt cvs k = some cv ∧ VR h v cv
  | [], cvs, x, e => by simp [keyAt] at e
  | kv :: kvs, cvs, x, e => by
    obtain ⟨cv, r, rfl, h1, hr⟩ := x.cons_inv
    unfold keyAt at e
    unfold valueAt
    rw [List.find?_cons] at e ⊢
    by_cases hk : kv.1 = k
    · simp only [hk, decide_true, Option.map_some, Option.some.injEq] at e ⊢
      subst e; exact ⟨cv, rfl, h1⟩
    · simp only [hk, decide_false] at e ⊢
      exact KV.find k hr e
theorem any_valueAt {K : Type} [DecidableEq K] (cvs : List (K × Value)) (k : K) : (valueAt cvs k).isSome = cvs.any fun kv => kv.1 = k := by
  unfold valueAt
  rw [Option.isSome_map]
  induction cvs with
  | nil => rfl
  | cons x r ih =>
    rw [List.find?_cons, List.any_cons]
    by_cases hk : x.1 = k <;> simp [hk]
    simpa using ih
theorem KV.cons_ {h : Heap} {K : Type} {k : K} {v : AV} {cv : Value} {kvs : List (K × AV)} {cvs : List (K × Value)} (h1 : VR h v cv) (h2 : KV h kvs cvs) : KV h ((k, v) :: kvs) ((k, cv) :: cvs) :=
  ⟨by simp [h2.1], by simpa using VRs.cons h1 h2.2⟩
theorem KV.mapSet {h : Heap} {K : Type} [DecidableEq K] (k : K) {v : AV} {cv : Value} (hv : VR h v cv) : ∀ {kvs : List (K × AV)} {cvs : List (K × Value)}, KV h kvs cvs →
    KV h (kvs.map fun kv => if kv.1 = k then (kv.1, v) else kv) (cvs.map fun kv => if kv.1 = k then (kv.1, cv) else kv)
  | [], cvs, x => by
    have := x.length
    cases cvs with
    | nil => exact ⟨rfl, .nil⟩
    | cons => simp at this
  | kv :: kvs, cvs, x => by
    obtain ⟨cw, r, rfl, h1, hr⟩ := x.cons_inv
    have ih := KV.mapSet k hv hr
    simp only [List.map_cons]
    by_cases hk : kv.1 = k
    · simp only [hk, if_true]; exact .cons_ hv ih
    · simp only [hk, if_false]; exact .cons_ h1 ih
theorem KV.stored {h : Heap} {K : Type} [DecidableEq K] (k : K) {v : AV} {cv : Value} (hv : VR h v cv) {kvs : List (K × AV)} {cvs : List (K × Value)} (x : KV h kvs cvs) : KV h (storedA kvs k v) (PySem.stored cvs k cv) := by
  unfold storedA PySem.stored
  rw [x.any k]
  split
  · exact x.mapSet k hv
  · refine ⟨by simp [x.1], ?_⟩
    simp only [List.map_append, List.map_cons, List.map_nil]
    exact x.2.append (.cons hv .nil)

theorem in_gen {a b : AV} {d : PyData} {xs : List PyData} {l : List AV} {A : Around} {s : Shared} {ca cb : Value} {E : Value → Shared → Prop} {Q : Value → Shared → Prop} (op : CmpOp) (neg : Bool) (hop : (op = .In ∧ neg = false) ∨ (op = .NotIn ∧ neg = true)) (rm : Rm n A) (R : Rel c H s) (Va : VR s.heap a ca) (Vb : VR s.heap b cb)
    (ha : DV H a d) (hb : b = .tup l ∨ ∃ r own, b = .ref r ∧ H r = some (.list own l)) (hl : DVs H l xs) (hd : d.depth ≤ 500) (h : Q (.bool (neg ^^ xs.any fun y => PyData.eqv y d)) s) : wpAny (MM c) A (compareOp op ca cb) Q E s := by
  obtain ⟨as, ra⟩ := ha.reads R Va
  have := rm.room
  have hm : A.units + 1 + min (PyData.depthAll xs) d.depth < cLine := by omega
  rcases hb with rfl | ⟨r, own, rfl, hr⟩
  · obtain ⟨bs, rb⟩ := (DV.tup hl).reads R Vb
    rcases hop with ⟨rfl, rfl⟩ | ⟨rfl, rfl⟩
    · exact SeqAt.in_tuple_reads rb ra hl.lay ha.lay hm (by simpa using h)
    · exact SeqAt.notIn_tuple_reads rb ra hl.lay ha.lay hm (by simpa using h)
  · obtain ⟨bs, rb⟩ := (DV.list hr hl).reads R Vb
    rcases hop with ⟨rfl, rfl⟩ | ⟨rfl, rfl⟩
    · exact SeqAt.in_list_reads rb ra hl.lay ha.lay hm (by simpa using h)
    · exact SeqAt.notIn_list_reads rb ra hl.lay ha.lay hm (by simpa using h)
theorem in_dict {K : Type} [DecidableEq K] {knd : KeyKind c.prog c.w K} {k : K} {key : Value} {d : Addr} {cvs : List (K × Value)} {A : Around} {s : Shared} {E : Value → Shared → Prop} {Q : Bool → AH → Prop} (op : CmpOp) (neg : Bool) (hop : (op = .In ∧ neg = false) ∨ (op = .NotIn ∧ neg = true)) (R : Rel c H s)
    (hk : knd.is k key = true) (hs : (d == sysModules) = false) (hd : s.heap.DictOf knd d cvs) (h : Q (neg ^^ cvs.any fun kv => kv.1 = k) H) : wpAny (MM c) A (compareOp op key (.ref d)) (fun v s' => ∃ bb, v = .bool bb ∧ PostB c H s.heap Q bb s') E s := by
  rw [← any_valueAt] at h
  rcases hop with ⟨rfl, rfl⟩ | ⟨rfl, rfl⟩
  · exact wpAny_in_of hk hs hd.mapOf ⟨_, rfl, H, R.tok _, .refl _ _, by simpa using h⟩
  · exact wpAny_notIn_of hk hs hd.mapOf ⟨_, rfl, H, R.tok _, .refl _ _, by simpa using h⟩

theorem isInt_self (k : Int) (t : Tok) : Value.isInt k (.int k t) = true := by simp [Value.isInt]
theorem isStr_self (k : Str) (t : Tok) : Value.isStrOf k (.str k t) = true := by simp [Value.isStrOf]

theorem in_any {a b : AV} {Q : Bool → AH → Prop} {A : Around} {s : Shared} {ca cb : Value} {E : Value → Shared → Prop} (op : CmpOp) (neg : Bool) (hop : (op = .In ∧ neg = false) ∨ (op = .NotIn ∧ neg = true)) (rm : Rm n A) (R : Rel c H s) (Va : VR s.heap a ca) (Vb : VR s.heap b cb)
    (h : inW a b H fun t => Q (neg ^^ t)) : wpAny (MM c) A (compareOp op ca cb) (fun v s' => ∃ bb, v = .bool bb ∧ PostB c H s.heap Q bb s') E s := by
  have genT : ∀ l, b = .tup l → (∃ d xs, DV H a d ∧ DVs H l xs ∧ d.depth ≤ 500 ∧ Q (neg ^^ xs.any fun y => PyData.eqv y d) H) → wpAny (MM c) A (compareOp op ca cb) (fun v s' => ∃ bb, v = .bool bb ∧ PostB c H s.heap Q bb s') E s :=
    fun l hb ⟨d, xs, h1, h2, h3, hq⟩ => in_gen op neg hop rm R Va Vb h1 (.inl hb) h2 h3 ⟨_, rfl, .same R hq⟩
  have genL : ∀ r, b = .ref r → (∃ own l d xs, H r = some (.list own l) ∧ DV H a d ∧ DVs H l xs ∧ d.depth ≤ 500 ∧ Q (neg ^^ xs.any fun y => PyData.eqv y d) H) → wpAny (MM c) A (compareOp op ca cb) (fun v s' => ∃ bb, v = .bool bb ∧ PostB c H s.heap Q bb s') E s :=
    fun r hb ⟨own, l, d, xs, h0, h1, h2, h3, hq⟩ => in_gen op neg hop rm R Va Vb h1 (.inr ⟨r, own, hb, h0⟩) h2 h3 ⟨_, rfl, .same R hq⟩
  cases a <;> cases b <;> first | exact h.elim | exact genT _ rfl h | exact genL _ rfl h | skip
  case int.ref k r =>
    rcases h with ⟨own, kvs, h1, hq⟩ | ⟨own, l, xs, h1, h2, hq⟩
    · cases Va; cases Vb
      rename_i t
      obtain ⟨_, hs, cvs, hd, hkv⟩ := R.objs _ _ h1
      exact in_dict op neg hop R (isInt_self k t) hs hd (by rw [← hkv.any k]; exact hq)
    · exact genL _ rfl ⟨own, l, .int k, xs, h1, .int k, h2, by simp [PyData.depth], hq⟩
  case str.ref k r =>
    rcases h with ⟨kvs, h1, hq⟩ | ⟨own, l, xs, h1, h2, h3, hq⟩
    · cases Va; cases Vb
      rename_i t
      obtain ⟨hs, cvs, hd, hkv⟩ := R.objs _ _ h1
      exact in_dict op neg hop R (isStr_self k t) hs hd (by rw [← hkv.any k]; exact hq)
    · exact genL _ rfl ⟨own, l, .str k, xs, h1, .str k h3, h2, by simp [PyData.depth], hq⟩

theorem KW.of_ {op : CmpOp} {a b : AV} {Q : Bool → AH → Prop} (h : cmpW op a b H Q) : KW c n op a b H Q := by
  cases op with
  | Eq => intro A s ca cb E rm R Va Vb; exact eq_any .Eq false (.inl ⟨rfl, rfl⟩) rm R Va Vb (by simpa [cmpW] using h)
  | NotEq => intro A s ca cb E rm R Va Vb; exact eq_any .NotEq true (.inr ⟨rfl, rfl⟩) rm R Va Vb (by simpa [cmpW] using h)
  | Lt => exact ord_any (fun x y t u A s E Q hq => P.lt_int hq) h
  | LtE => exact ord_any (fun x y t u A s E Q hq => P.le_int hq) h
  | Gt => exact ord_any (fun x y t u A s E Q hq => P.gt_int hq) h
  | GtE => exact ord_any (fun x y t u A s E Q hq => P.ge_int hq) h
  | Is => intro A s ca cb E rm R Va Vb; exact is_any .Is false (.inl ⟨rfl, rfl⟩) R Va Vb (by simpa [cmpW] using h)
  | IsNot => intro A s ca cb E rm R Va Vb; exact is_any .IsNot true (.inr ⟨rfl, rfl⟩) R Va Vb (by simpa [cmpW] using h)
  | In => intro A s ca cb E rm R Va Vb; exact in_any .In false (.inl ⟨rfl, rfl⟩) rm R Va Vb (by simpa [cmpW] using h)
  | NotIn => intro A s ca cb E rm R Va Vb; exact in_any .NotIn true (.inr ⟨rfl, rfl⟩) rm R Va Vb (by simpa [cmpW] using h)

/-! ## truth -/
noncomputable def truW : AV → AH → (Bool → AH → Prop) → Prop
  | .none, H, Q => Q false H
  | .bool b, H, Q => Q b H
  | .int i, H, Q => Q (i != 0) H
  | .str x, H, Q => x.length ≤ 10000000 ∧ Q (x.length != 0) H
  | .tup l, H, Q => l.length ≤ 10000000 ∧ Q (!l.isEmpty) H
  | .ref a, H, Q => ∃ own l, H a = some (.list own l) ∧ l.length ≤ 10000000 ∧ Q (!l.isEmpty) H
  | _, _, _ => False
theorem isEmpty_of_len {vs : Array Value} {l : List AV} (h : vs.toList.length = l.length) : vs.isEmpty = l.isEmpty := by
  rw [Bool.eq_iff_iff, Array.isEmpty_iff, List.isEmpty_iff, ← List.length_eq_zero_iff, ← h, Array.length_toList, Array.size_eq_zero_iff]
theorem TW.of_ {a : AV} {Q : Bool → AH → Prop} (h : truW a H Q) : TW c n a H Q := by
  intro A s ca E rm R V
  cases a <;> try exact h.elim
  case none => cases V; exact PyProof.Rows.truthy_none (.same R h)
  case bool => cases V; exact wpAny_truthy_bool (.same R h)
  case int => cases V; exact P.truthy_int (.same R h)
  case str x =>
    cases V
    obtain ⟨hl, hq⟩ := h
    refine P.truthy_str (by omega) ⟨H, R.tok _, .refl _ _, ?_⟩
    have : ((x.length : Int) != 0) = (x.length != 0) := by rw [Bool.eq_iff_iff]; simp
    rw [this]; exact hq
  case tup l =>
    obtain ⟨hl, hq⟩ := h
    cases V with
    | @tup t vs m _ ht hvs =>
      have e := hvs.length
      rw [← isEmpty_of_len e] at hq
      rw [Array.length_toList] at e
      exact PyProof.Rows.truthy_tuple ⟨_, ht, rfl, _, rfl⟩ (by omega) ⟨H, R.tok _, .refl _ _, hq⟩
  case ref a =>
    obtain ⟨own, l, h1, hl, hq⟩ := h
    cases V
    obtain ⟨_, vs, m, hli, hvs⟩ := R.objs _ _ h1
    have e := hvs.length
    rw [← isEmpty_of_len e] at hq
    rw [Array.length_toList] at e
    exact wpAny_truthy_list hli.isList (by omega) ⟨H, R.tok _, .refl _ _, hq⟩

/-! ## items -/
noncomputable def pyIdx (k : Int) (n : Nat) : Nat := if k < 0 then (k + n).toNat else k.toNat
noncomputable def idxOk (k : Int) (n : Nat) : Prop := -(n : Int) ≤ k ∧ k < n ∧ n ≤ 10000000
noncomputable def getW : AV → AV → AH → (AV → AH → Prop) → Prop
  | .tup l, .int k, H, Q => idxOk k l.length ∧ ∃ x, l[pyIdx k l.length]? = some x ∧ Q x H
  | .ref a, .int k, H, Q => (∃ own l, H a = some (.list own l) ∧ idxOk k l.length ∧ ∃ x, l[pyIdx k l.length]? = some x ∧ Q x H) ∨ (∃ own kvs, H a = some (.dict own kvs) ∧ ∃ x, keyAt kvs k = some x ∧ Q x H)
  | .ref a, .str k, H, Q => ∃ kvs, H a = some (.sdict kvs) ∧ ∃ x, keyAt kvs k = some x ∧ Q x H
  | _, _, _, _ => False
theorem seqIndex_of {k : Int} {n : Nat} (h : idxOk k n) : seqIndex? k n = some (pyIdx k n) := by
  obtain ⟨h1, h2, _⟩ := h
  unfold pyIdx
  split
  · exact seqIndex_neg (by assumption) h1
  · unfold seqIndex?
    rename_i h0
    simp only [h0, if_false]
    rw [if_pos (by simp only [Bool.and_eq_true, decide_eq_true_eq]; omega)]
theorem lookup_list_get : typeLookup (.type "list") "__getitem__" = pure (some (.builtin "list.__getitem__")) := slot_list_getitem.lookup
theorem lookup_tuple_get : typeLookup (.type "tuple") "__getitem__" = pure (some (.builtin "tuple.__getitem__")) := F.slot_tuple_getitem.lookup
theorem lookup_dict_get : typeLookup (.type "dict") "__getitem__" = pure (some (.builtin "dict.__getitem__")) := slot_dict_getitem.lookup
theorem GW.of_ {o i : AV} {Q : AV → AH → Prop} (h : getW o i H Q) : GW c n o i H Q := by
  intro A s co ci E rm R Vo Vi
  cases o <;> cases i <;> try exact h.elim
  case tup.int l k =>
    obtain ⟨hk, x, hx, hq⟩ := h
    cases Vi
    cases Vo with
    | @tup t vs m _ ht hvs =>
      obtain ⟨y, hy, hr⟩ := hvs.get hx
      have e := hvs.length
      rw [Array.length_toList] at e
      have hk' := hk
      obtain ⟨k1, k2, k3⟩ := hk'
      refine ⟨"tuple", _, ⟨_, ht, rfl⟩, lookup_tuple_get, P.getItem_tuple ht (by omega) (by omega) (by rw [e]; exact seqIndex_of hk) (by simpa using hy) (.same R hr hq)⟩
  case ref.int a k =>
    cases Vi; cases Vo
    rename_i t
    rcases h with ⟨own, l, h1, hk, x, hx, hq⟩ | ⟨own, kvs, h1, x, hx, hq⟩
    · obtain ⟨_, vs, m, hli, hvs⟩ := R.objs _ _ h1
      obtain ⟨y, hy, hr⟩ := hvs.get hx
      have e := hvs.length
      rw [Array.length_toList] at e
      obtain ⟨k1, k2, k3⟩ := hk
      refine ⟨"list", _, ⟨_, hli, rfl⟩, lookup_list_get, ?_⟩
      unfold pyIdx at hy
      by_cases h0 : k < 0
      · rw [if_pos h0, ← e] at hy
        exact wpAny_getItem_list_neg hli.isList h0 (by omega) (by omega) (by simpa using hy) (.same R hr hq)
      · rw [if_neg h0] at hy
        exact wpAny_getItem_list hli.isList (by omega) (by omega) (by simpa using hy) (.same R hr hq)
    · obtain ⟨_, hs, cvs, hd, hkv⟩ := R.objs _ _ h1
      obtain ⟨cv, e1, e2⟩ := hkv.find k hx
      refine ⟨"dict", _, hd.typeIs, lookup_dict_get, wpAny_getItem_of (isInt_self k t) hd.mapOf e1 (.tok _ R e2 hq)⟩
  case ref.str a k =>
    cases Vi; cases Vo
    rename_i t
    obtain ⟨kvs, h1, x, hx, hq⟩ := h
    obtain ⟨hs, cvs, hd, hkv⟩ := R.objs _ _ h1
    obtain ⟨cv, e1, e2⟩ := hkv.find k hx
    refine ⟨"dict", _, hd.typeIs, lookup_dict_get, wpAny_getItem_of (isStr_self k t) hd.mapOf e1 (.tok _ R e2 hq)⟩
end
end Mine

set_option maxRecDepth 10000
set_option autoImplicit false
set_option genSizeOf false
set_option genSizeOfSpec false
set_option genInjectivity false
namespace Mine
open PySem

section
variable {c : Cx} {n : Nat} {H : AH}

/-- writing an object that H owns -/
theorem Rel.write {s : Shared} {h' : Heap} {t : Nat} {a : Nat} {o : AObj} (R : Rel c H s) (x : Heap.SameBut a s.heap h') (hn : ∃ ob, s.heap.get? a = some ob ∧ ¬ Imm ob) (h0 : c.s0.heap.get? a = none) (ho : ObjAt c h' a o) : Rel c (H.set a o) { s with heap := h', toks := t } := by
  obtain ⟨ob, hob, hni⟩ := hn
  have ki : KI s.heap h' := ki_sameBut x fun o' e => by rw [hob] at e; cases e; exact hni
  obtain ⟨⟨h, tk, rfl⟩, k, objs⟩ := R
  refine ⟨⟨_, _, rfl⟩, fun b o' e => ?_, fun b o' e => ?_⟩
  · have hb : b ≠ a := fun q => by rw [q, h0] at e; cases e
    exact x.extBut b o' hb (k b o' e)
  · by_cases hb : b = a
    · subst hb; simp at e; subst e; exact ho
    · rw [AH.set_ne _ _ hb] at e
      exact (objs b o' e).mono ki fun ob' e' => x.extBut b ob' hb e'
theorem Ext.write {a : Nat} {o : AObj} {h h' : Heap} (x : Heap.SameBut a h h') (hf : Fz (H a) = false) : Ext H h (H.set a o) h' := fun b ob e f => by
  have hb : b ≠ a := fun q => by rw [q, hf] at f; cases f
  exact ⟨x.extBut b ob hb e, AH.set_ne _ _ hb⟩

theorem setItem_list_exact {A : Around} {E : Value → Shared → Prop} {s : Shared} {l : Addr} {items : Array Value} {m : Nat} {k : Int} {t : Tok} {v : Value} {Q : Unit → Shared → Prop} (hl : IsL s.heap l items m)
    (h0 : 0 ≤ k) (hn : k < items.size) (hs : items.size ≤ 10000000) (hq : Q () { s with heap := s.heap.update l (Obj.mapSeq (·.setIfInBounds k.toNat v)) }) : wpAny (MM c) A (setItem (.ref l) (.int k t) v) Q E s := by
  have hT := hl.isList.typeIs
  have hfit : Builtin.List.listFitsIndex k = true := fitsIndex_of h0 (by omega)
  unfold setItem
  try with_reducible refine wpAny_holding ?_
  refine wpAny_bind (wpAny_sequenceKey hT (by decide) ?_)
  refine wpAny_bind (wpAny_callSpecial?_slot (name := Str.ofString "__setitem__") hT slot_list_setitem (wpAny_call_entry slot_list_setitem hT entry_list_setitem ?_ (args_list_setitem _ _ _)))
  show wpAny _ _ (Builtin.List.listSubscript? (.int k t) >>= _) _ _ s
  refine wpAny_bind (wpAny_listSubscript_int hfit ?_)
  obtain ⟨j, rfl⟩ := Int.eq_ofNat_of_zero_le h0
  have hj : j < items.size := by omega
  show wpAny _ _ ((seqItemAt l j >>= fun r => pure (r.map (j, ·))) >>= _) _ _ s
  refine wpAny_bind (wpAny_bind (wpAny_seqItemAt hl rfl (wpAny_pure ?_)))
  rw [show items[j]? = some items[j] from Array.getElem?_eq_getElem hj]
  show wpAny _ _ (setSeqItemAt l j v >>= _) _ _ s
  refine wpAny_bind (wpAny_setSeqItemAt hl rfl ?_)
  first
    | exact wpAny_bind (wpAny_pure (wpAny_pure ⟨.none, rfl, wpAny_pure hq⟩))
    | exact wpAny_pure ⟨.none, rfl, wpAny_pure hq⟩

noncomputable def setW : AV → AV → AV → AH → (AH → Prop) → Prop
  | .ref a, .int k, v, H, Q => (∃ l, H a = some (.list true l) ∧ 0 ≤ k ∧ k < l.length ∧ l.length ≤ 10000000 ∧ Q (H.set a (.list true (l.set k.toNat v)))) ∨ (∃ kvs, H a = some (.dict true kvs) ∧ kvs.length ≤ 10000000 ∧ Q (H.set a (.dict true (storedA kvs k v))))
  | _, _, _, _, _ => False
theorem SW.of_ {o i v : AV} {Q : AH → Prop} (h : setW o i v H Q) : SW c n o i v H Q := by
  intro A s co ci cv E rm R Vo Vi Vv
  cases o <;> cases i <;> try exact h.elim
  case ref.int a k =>
    cases Vi; cases Vo
    rename_i t
    rcases h with ⟨l, h1, h0, hk, hl, hq⟩ | ⟨kvs, h1, hl, hq⟩
    · have hob := (R.objs _ _ h1).notImm
      obtain ⟨hown, vs, m, hli, hvs⟩ := R.objs _ _ h1
      have e := hvs.length
      rw [Array.length_toList] at e
      have hli' := hli.update (·.setIfInBounds k.toNat cv)
      have sb : Heap.SameBut a s.heap (s.heap.update a (Obj.mapSeq (·.setIfInBounds k.toNat cv))) := Heap.SameBut.update ..
      have ki : KI s.heap (s.heap.update a (Obj.mapSeq (·.setIfInBounds k.toNat cv))) := ki_sameBut sb fun o' e' => by
        obtain ⟨ob, hob, hni⟩ := hob; rw [hob] at e'; cases e'; exact hni
      refine setItem_list_exact hli h0 (by omega) (by omega) ⟨_, R.write sb hob (hown rfl) (o := .list true (l.set k.toNat v)) ⟨hown, _, _, hli', ?_⟩, Ext.write sb (by rw [h1]; rfl), hq⟩
      rw [Array.toList_setIfInBounds]
      exact (hvs.mono ki).set _ (Vv.mono ki)
    · have hob := (R.objs _ _ h1).notImm
      obtain ⟨hown, hs, cvs, hd, hkv⟩ := R.objs _ _ h1
      refine wpAny_setItem_pairs (isInt_self k t) hd (fun h' hd' sb => ?_) (by rw [hkv.length, sizeLine_eq]; omega)
      have ki : KI s.heap h' := ki_sameBut sb fun o' e' => by
        obtain ⟨ob, hob, hni⟩ := hob; rw [hob] at e'; cases e'; exact hni
      exact ⟨_, R.write sb hob (hown rfl) (o := .dict true (storedA kvs k v)) ⟨hown, hs, _, hd', (hkv.mono ki).stored k (Vv.mono ki)⟩, Ext.write sb (by rw [h1]; rfl), hq⟩

/-! ## slices -/
noncomputable def cut (lo hi : Option Int) (l : List AV) : List AV := (l.drop (lo.elim 0 (clipAt l.length))).take (hi.elim l.length (clipAt l.length) - lo.elim 0 (clipAt l.length))
noncomputable def partOf : AV → Option (Option Int)
  | .none => some none
  | .int i => some (some i)
  | _ => none
theorem partOf_is {h : Heap} {a : AV} {v : Value} {p : Option Int} (hp : partOf a = some p) (V : VR h a v) : IsPart v p := by
  cases V <;> simp [partOf] at hp <;> subst hp
  · exact .none
  · exact .int _ _

theorem slicePart_ {A : Around} {E : Value → Shared → Prop} {s : Shared} {v : Value} {p : Option Int} (hp : IsPart v p) {Q : Option Int → Shared → Prop} (h : Q p s) : wpAny (MM c) A (Builtin.Slice.slicePartIndex v) Q E s := by
  cases hp with
  | none => exact PyProof.Rows.slicePart_none h
  | int i t => exact PyProof.Rows.slicePart_int h

theorem adjust_one (lo hi : Option Int) (n : Nat) : Builtin.Slice.sliceAdjust lo hi 1 (n : Int) = (((lo.elim 0 (clipAt n) : Nat) : Int), ((hi.elim n (clipAt n) : Nat) : Int)) := by
  unfold Builtin.Slice.sliceAdjust
  have h1 : ¬ ((1 : Int) < 0) := by omega
  simp only [h1, if_false]
  cases lo <;> cases hi <;> simp [clipAt_cast] <;> (try constructor) <;> (split <;> omega)
theorem places_one (a b : Nat) : Builtin.Slice.slicePlaces (a : Int) (b : Int) 1 = b - a := by
  unfold Builtin.Slice.slicePlaces
  have h1 : (1 : Int) > 0 := by omega
  simp only [h1, if_true, Int.ediv_one]
  split <;> omega

theorem sliceApplied_ {A : Around} {E : Value → Shared → Prop} {s : Shared} {sl : Addr} {vl vu : Value} {lo hi : Option Int} {n : Nat} {Q : Int × Int × Nat → Shared → Prop} (hs : s.heap.IsSliceOf sl vl vu .none) (pl : IsPart vl lo) (pu : IsPart vu hi)
    (h : Q (((lo.elim 0 (clipAt n) : Nat) : Int), 1, hi.elim n (clipAt n) - lo.elim 0 (clipAt n)) s) : wpAny (MM c) A (Builtin.Slice.sliceApplied (.ref sl) (pure (n : Int))) Q E s := by
  obtain ⟨os, hos, hcs, hds⟩ := id hs
  unfold Builtin.Slice.sliceApplied Builtin.Slice.sliceFields
  refine wpAny_bind (wpAny_bind (wpAny_field hos hds (x := vl) rfl (wpAny_bind (wpAny_field hos hds (x := vu) rfl (wpAny_bind (wpAny_field hos hds (x := .none) rfl (wpAny_pure ?_)))))))
  refine wpAny_bind (PyProof.Rows.slicePart_none ?_)
  show wpAny _ _ (if ((1 : Int) == 0) = true then _ else _) _ _ s
  rw [if_neg (by decide)]
  refine wpAny_bind (slicePart_ pl (wpAny_bind (slicePart_ pu (wpAny_bind (wpAny_pure ?_)))))
  show wpAny _ _ (match Builtin.Slice.sliceAdjust lo hi 1 (n : Int) with | (lo, hi) => pure (lo, (1 : Int), Builtin.Slice.slicePlaces lo hi 1)) _ _ s
  rw [adjust_one lo hi n]
  show wpAny _ _ (pure (((lo.elim 0 (clipAt n) : Nat) : Int), (1 : Int), Builtin.Slice.slicePlaces ((lo.elim 0 (clipAt n) : Nat) : Int) ((hi.elim n (clipAt n) : Nat) : Int) 1)) _ _ s
  rw [places_one]
  exact wpAny_pure h

theorem pick_range (xs : Array Value) (a m : Nat) : ((List.range m).filterMap fun (k : Nat) => xs[((a : Int) + (k : Int) * 1).toNat]?).toArray = ((xs.toList.drop a).take m).toArray := by
  have e : (fun (k : Nat) => xs[((a : Int) + (k : Int) * 1).toNat]?) = fun k => xs[a + k]? := by
    funext k
    have : ((a : Int) + (k : Int) * 1).toNat = a + k := by omega
    rw [this]
  rw [e]
  have := pick_run xs a m
  rw [List.filterMap_map] at this
  have e2 : ((fun x => xs[x]?) ∘ fun x => a + x) = fun k => xs[a + k]? := rfl
  rw [e2] at this
  rw [this]

theorem getItem_tuple_cut {A : Around} {E : Value → Shared → Prop} {s : Shared} {t sl : Addr} {items : Array Value} {m : Nat} {vl vu : Value} {lo hi : Option Int} {Q : Value → Shared → Prop} (ht : IsT s.heap t items m) (hs : s.heap.IsSliceOf sl vl vu .none) (pl : IsPart vl lo) (pu : IsPart vu hi)
    (h1 : (items.toList.drop (lo.elim 0 (clipAt items.size))).take (hi.elim items.size (clipAt items.size) - lo.elim 0 (clipAt items.size)) = items.toList → Q (.ref t) s)
    (h : Q (.ref s.heap.objs.size) { s with heap := s.heap.push { cls := .type "tuple", data := .seq ((items.toList.drop (lo.elim 0 (clipAt items.size))).take (hi.elim items.size (clipAt items.size) - lo.elim 0 (clipAt items.size))).toArray } })
    (hsz : items.size ≤ 10000000) : wpAny (MM c) A (getItem (.ref t) (.ref sl)) Q E s := by
  have ht' : PyProof.Rows.IsTup s.heap t items := ⟨_, ht, rfl, _, rfl⟩
  have hT : s.TypeIs (.ref t) "tuple" := ⟨_, ht, rfl⟩
  obtain ⟨os, hos, hcs, hds⟩ := id hs
  have hTs : s.TypeIs (.ref sl) "slice" := ⟨os, hos, hcs⟩
  unfold getItem
  try with_reducible refine wpAny_holding ?_
  refine wpAny_bind (wpAny_sequenceKey hT (by decide) ?_)
  refine wpAny_bind (wpAny_callSpecial?_slot (name := Str.ofString "__getitem__") hT F.slot_tuple_getitem (wpAny_call_entry F.slot_tuple_getitem hT F.entry_tuple_getitem ?_ (F.args_tuple_getitem_2 _ _)))
  show wpAny _ _ (Builtin.Tuple.tupleItemsOf (.ref t) >>= _) _ _ s
  refine wpAny_bind (PyProof.Rows.tupleItemsOf_ ht' ?_)
  refine wpAny_bind (wpAny_typeOf hTs ?_)
  rw [if_pos (by decide)]
  refine wpAny_bind (sliceApplied_ hs pl pu ?_)
  generalize hA : lo.elim 0 (clipAt items.size) = a at h h1 ⊢
  generalize hB : hi.elim items.size (clipAt items.size) - a = d at h h1 ⊢
  have hfit : sizeOk (.seq ((items.toList.drop a).take d).toArray) := by
    show ((items.toList.drop a).take d).toArray.size ≤ sizeLine
    rw [List.size_toArray, List.length_take, List.length_drop, Array.length_toList, sizeLine_eq]
    omega
  show wpAny _ _ (if ((a : Int) == 0 && (1 : Int) == 1 && d == items.size) = true then _ else _) _ _ s
  by_cases hw : ((a : Int) == 0 && (1 : Int) == 1 && d == items.size) = true
  · rw [if_pos hw]
    simp only [Bool.and_eq_true, beq_iff_eq] at hw
    have ha : a = 0 := by omega
    have hd : d = items.size := hw.2
    have hq := h1 (by rw [ha, hd, List.drop_zero, List.take_of_length_le (by simp)])
    refine wpAny_bind (m := Builtin.Tuple.tupleIsExact (.ref t)) (wpAny_bind (wpAny_typeOf hT (wpAny_pure ?_)))
    rw [if_pos (by decide)]
    first
      | exact wpAny_bind (wpAny_rule (wpAny_bind (wpAny_pure (wpAny_pure ⟨_, rfl, wpAny_pure hq⟩))))
      | exact wpAny_bind (wpAny_rule (wpAny_pure ⟨_, rfl, wpAny_pure hq⟩))
  · rw [if_neg hw, pick_range items a d]
    first
      | exact wpAny_bind (m := Builtin.Tuple.tupleExact _) (wpAny_newObj_type (wpAny_pure ⟨_, rfl, wpAny_pure h⟩) hfit)
      | exact wpAny_bind (m := Builtin.Tuple.tupleExact _) (wpAny_newObj_type (wpAny_bind (wpAny_pure (wpAny_pure ⟨_, rfl, wpAny_pure h⟩))) hfit)
      | exact wpAny_bind (wpAny_bind (m := Builtin.Tuple.tupleExact _) (wpAny_newObj_type (wpAny_pure (wpAny_pure ⟨_, rfl, wpAny_pure h⟩)) hfit))
      | exact wpAny_bind (wpAny_bind (m := Builtin.Tuple.tupleExact _) (wpAny_newObj_type (wpAny_pure ⟨_, rfl, wpAny_pure h⟩) hfit))

noncomputable def slcW : AV → AV → AV → AH → (AV → AH → Prop) → Prop
  | .tup l, a, b, H, Q => ∃ lo hi, partOf a = some lo ∧ partOf b = some hi ∧ l.length ≤ 10000000 ∧ Q (.tup (cut lo hi l)) H
  | .ref r, a, b, H, Q => ∃ lo hi own l, partOf a = some lo ∧ partOf b = some hi ∧ H r = some (.list own l) ∧ l.length ≤ 10000000 ∧ ∀ r', H r' = none → Q (.ref r') (H.set r' (.list true (cut lo hi l)))
  | _, _, _, _, _ => False
theorem LW.of_ {o a b : AV} {Q : AV → AH → Prop} (h : slcW o a b H Q) : LW c n o a b H Q := by
  intro A s co ca cb sl E rm R Vo Va Vb hsl
  cases o <;> try exact h.elim
  case tup l =>
    obtain ⟨lo, hi, ha, hb, hl, hq⟩ := h
    cases Vo with
    | @tup t vs m _ ht hvs =>
      have e := hvs.length
      rw [Array.length_toList] at e
      have V' : VRs s.heap (cut lo hi l) ((vs.toList.drop (lo.elim 0 (clipAt vs.size))).take (hi.elim vs.size (clipAt vs.size) - lo.elim 0 (clipAt vs.size))) := by
        unfold cut; rw [← e]; exact (hvs.drop _).take _
      refine ⟨"tuple", _, ⟨_, ht, rfl⟩, lookup_tuple_get, getItem_tuple_cut ht hsl (partOf_is ha Va) (partOf_is hb Vb) (fun hw => ?_) ?_ (by omega)⟩
      · rw [hw] at V'
        exact .same R (.tup ht V') hq
      · exact ⟨_, H, R.push _, Ext.push _ _, .tup (IsT.new _ _) (by simpa using V'.mono (ki_push _ _)), hq⟩
  case ref r =>
    obtain ⟨lo, hi, own, l, ha, hb, h1, hl, hq⟩ := h
    cases Vo
    obtain ⟨_, vs, m, hli, hvs⟩ := R.objs _ _ h1
    have e := hvs.length
    rw [Array.length_toList] at e
    refine ⟨"list", _, ⟨_, hli, rfl⟩, lookup_list_get, wpAny_getItem_list_slice hli.isList hsl (partOf_is ha Va) (partOf_is hb Vb) .none (by simp) ?_ (by rw [sizeLine_eq]; omega)⟩
    refine ⟨_, _, R.alloc _ (.list true (cut lo hi l)) ⟨fun _ => R.fresh0, _, _, IsL.new _ _, ?_⟩, Ext.alloc R _ _, .ref _, hq _ R.fresh⟩
    rw [slicePick_plain]
    simp only
    unfold cut; rw [← e]
    exact ((hvs.drop _).take _).mono (ki_push _ _)
end
end Mine

set_option maxRecDepth 10000
set_option autoImplicit false
set_option genSizeOf false
set_option genSizeOfSpec false
set_option genInjectivity false
namespace Mine
open PySem

section
variable {c : Cx} {n : Nat} {H : AH}

noncomputable def truB : AV → Option Bool
  | .bool b => some b
  | _ => none
noncomputable def allB : List AV → Option (List Bool)
  | [] => some []
  | x :: xs => match truB x, allB xs with | some b, some r => some (b :: r) | _, _ => none

noncomputable def un (f : AV → AH → (AV → AH → Prop) → Prop) : List AV → AH → (AV → AH → Prop) → Prop
  | [a], H, Q => f a H Q
  | _, _, _ => False
noncomputable def bn (f : AV → AV → AH → (AV → AH → Prop) → Prop) : List AV → AH → (AV → AH → Prop) → Prop
  | [a, b], H, Q => f a b H Q
  | _, _, _ => False
theorem un_inv {f : AV → AH → (AV → AH → Prop) → Prop} {vs : List AV} {Q : AV → AH → Prop} (h : un f vs H Q) : ∃ a, vs = [a] ∧ f a H Q := by
  unfold un at h; split at h
  · exact ⟨_, rfl, h⟩
  · exact h.elim
theorem bn_inv {f : AV → AV → AH → (AV → AH → Prop) → Prop} {vs : List AV} {Q : AV → AH → Prop} (h : bn f vs H Q) : ∃ a b, vs = [a, b] ∧ f a b H Q := by
  unfold bn at h; split at h
  · exact ⟨_, _, rfl, h⟩
  · exact h.elim
theorem VRs.one {h : Heap} {a : AV} {vs : List Value} (V : VRs h [a] vs) : ∃ v, vs = [v] ∧ VR h a v := by
  cases V with
  | cons h1 h2 => cases h2; exact ⟨_, rfl, h1⟩
theorem VRs.two {h : Heap} {a b : AV} {vs : List Value} (V : VRs h [a, b] vs) : ∃ v u, vs = [v, u] ∧ VR h a v ∧ VR h b u := by
  cases V with
  | cons h1 h2 => obtain ⟨u, rfl, h3⟩ := h2.one; exact ⟨_, _, rfl, h1, h3⟩

noncomputable def len1 : AV → AH → (AV → AH → Prop) → Prop
  | .str x, H, Q => x.length ≤ 10000000 ∧ Q (.int x.length) H
  | .tup l, H, Q => l.length ≤ 10000000 ∧ Q (.int l.length) H
  | .ref a, H, Q => (∃ own l, H a = some (.list own l) ∧ l.length ≤ 10000000 ∧ Q (.int l.length) H) ∨ (∃ own kvs, H a = some (.dict own kvs) ∧ kvs.length ≤ 10000000 ∧ Q (.int kvs.length) H)
  | _, _, _ => False
noncomputable def list1 : AV → AH → (AV → AH → Prop) → Prop
  | .tup l, H, Q => l.length ≤ 10000000 ∧ ∀ r, H r = none → Q (.ref r) (H.set r (.list true l))
  | .ref a, H, Q => (∃ own l, H a = some (.list own l) ∧ l.length ≤ 10000000 ∧ ∀ r, H r = none → Q (.ref r) (H.set r (.list true l))) ∨
      (∃ own kvs, H a = some (.dict own kvs) ∧ kvs.length ≤ 10000000 ∧ ∀ r, H r = none → Q (.ref r) (H.set r (.list true (kvs.map fun kv => .int kv.1))))
  | _, _, _ => False
noncomputable def tuple1 : AV → AH → (AV → AH → Prop) → Prop
  | .ref a, H, Q => ∃ own l, H a = some (.list own l) ∧ l.length ≤ 10000000 ∧ Q (.tup l) H
  | .tup l, H, Q => Q (.tup l) H
  | _, _, _ => False
noncomputable def dict1 : AV → AH → (AV → AH → Prop) → Prop
  | .ref a, H, Q => ∃ own kvs, H a = some (.dict own kvs) ∧ kvs.length ≤ 10000000 ∧ ∀ r, H r = none → Q (.ref r) (H.set r (.dict true kvs))
  | _, _, _ => False
noncomputable def range1 : AV → AH → (AV → AH → Prop) → Prop
  | .int k, H, Q => Q (.rng 0 k) H
  | _, _, _ => False
noncomputable def range2 : AV → AV → AH → (AV → AH → Prop) → Prop
  | .int a, .int b, H, Q => Q (.rng a b) H
  | _, _, _, _ => False
noncomputable def rangeW : List AV → AH → (AV → AH → Prop) → Prop
  | [a], H, Q => range1 a H Q
  | [a, b], H, Q => range2 a b H Q
  | _, _, _ => False
noncomputable def int1 : AV → AH → (AV → AH → Prop) → Prop
  | .int k, H, Q => Q (.int k) H
  | .bool b, H, Q => Q (.int (if b then 1 else 0)) H
  | _, _, _ => False
noncomputable def max2 : AV → AV → AH → (AV → AH → Prop) → Prop
  | .int a, .int b, H, Q => Q (.int (max a b)) H
  | _, _, _, _ => False
noncomputable def min2 : AV → AV → AH → (AV → AH → Prop) → Prop
  | .int a, .int b, H, Q => Q (.int (min a b)) H
  | _, _, _, _ => False
noncomputable def all1 : AV → AH → (AV → AH → Prop) → Prop
  | .ref a, H, Q => ∃ own l bs, H a = some (.list own l) ∧ allB l = some bs ∧ Q (.bool (bs.all id)) H
  | _, _, _ => False
noncomputable def any1 : AV → AH → (AV → AH → Prop) → Prop
  | .ref a, H, Q => ∃ own l bs, H a = some (.list own l) ∧ allB l = some bs ∧ Q (.bool (bs.any id)) H
  | _, _, _ => False
noncomputable def abs1 : AV → AH → (AV → AH → Prop) → Prop
  | .int a, H, Q => Q (.int (if a < 0 then -a else a)) H
  | _, _, _ => False
noncomputable def str1 : AV → AH → (AV → AH → Prop) → Prop
  | .int k, H, Q => k.natAbs < 2 ^ 200 ∧ Q (.str (toString k : String)) H
  | .str x, H, Q => Q (.str x) H
  | _, _, _ => False
/-- numbers that rise or fall throughout -/
noncomputable def Run (N : List Int) : Prop := N.Pairwise (· < ·) ∨ N.Pairwise (fun a b => b < a)
noncomputable def biW : BI → List AV → AH → (AV → AH → Prop) → Prop
  | .len => un len1 | .list => un list1 | .tuple => un tuple1 | .dict => un dict1 | .range => rangeW | .int => un int1
  | .max => bn max2 | .min => bn min2 | .all => un all1 | .any => fun _ _ _ => False | .abs => fun _ _ _ => False
  | .str => un str1
  | .sorted => fun _ _ _ => False

theorem Rel.toks2 {s : Shared} {Q : AV → AH → Prop} {av : AV} {v : Value} (t : Nat) (R : Rel c H s) (hv : VR s.heap av v) (hq : Q av H) : Post c H s.heap Q v { s with toks := t } := .tok t R hv hq

theorem lenW.of_ {vs : List AV} {Q : AV → AH → Prop} (h : un len1 vs H Q) : BW c n .len vs H Q := by
  intro A s cvs E rm R V
  have h' := un_inv h; clear h; obtain ⟨a, rfl, h⟩ := h'
  obtain ⟨v, rfl, V1⟩ := V.one; clear V; have V := V1; clear V1
  cases a <;> try exact h.elim
  case str x => obtain ⟨hl, hq⟩ := h; cases V; exact P.len_str (by omega) (.tok _ R (.int _ _) hq)
  case tup l =>
    obtain ⟨hl, hq⟩ := h
    cases V with | tup ht hvs => ?_
    have e := hvs.length
    rw [Array.length_toList] at e
    refine P.len_tuple ht (by omega) (.tok _ R ?_ hq)
    rw [e]; exact .int _ _
  case ref a =>
    cases V
    rcases h with ⟨own, l, h1, hl, hq⟩ | ⟨own, kvs, h1, hl, hq⟩
    · obtain ⟨_, vs, m, hli, hvs⟩ := R.objs _ _ h1
      have e := hvs.length
      rw [Array.length_toList] at e
      refine Calls.call_len_list hli.isList (by omega) (.tok _ R ?_ hq)
      rw [e]; exact .int _ _
    · obtain ⟨_, hs, cvs, hd, hkv⟩ := R.objs _ _ h1
      have e := hkv.length
      refine call_len_dict hs hd (by omega) (.tok _ R ?_ hq)
      rw [e]; exact .int _ _

theorem post_new {s : Shared} {h' : Heap} {t : Nat} {o : AObj} {Q : AV → AH → Prop} {r : Nat} (R : Rel c H s) (k : ∀ b o', s.heap.get? b = some o' → h'.get? b = some o') (hr : s.heap.objs.size ≤ r) (ho : ObjAt c h' r o) (hq : ∀ r, H r = none → Q (.ref r) (H.set r o)) : Post c H s.heap Q (.ref r) { s with heap := h', toks := t } := by
  have R' : Rel c H { s with heap := h', toks := t } := R.keeps k
  refine ⟨.ref r, H.set r o, ⟨R'.same, R'.keep, fun a ob e => ?_⟩, fun b ob e f => ⟨k b ob e, ?_⟩, .ref r, hq r (R.none_ge hr)⟩
  · by_cases ha : a = r
    · subst ha; simp at e; subst e; exact ho
    · rw [AH.set_ne _ _ ha] at e; exact R'.objs a ob e
  · refine AH.set_ne _ _ (fun q => ?_)
    have : @LT.lt Nat _ b _ := Heap.lt_size e
    subst q
    exact absurd this (Nat.not_lt.mpr hr)

theorem VRs.of_get {h : Heap} : ∀ {l : List AV} {vs : List Value}, vs.length = l.length → (∀ (j : Nat) (v : Value), vs[j]? = some v → ∃ x, l[j]? = some x ∧ VR h x v) → VRs h l vs
  | [], [], _, _ => .nil
  | [], _ :: _, e, _ => by simp at e
  | _ :: _, [], e, _ => by simp at e
  | x :: l, v :: vs, e, hh => by
    obtain ⟨y, h1, h2⟩ := hh 0 v rfl
    simp at h1
    subst h1
    refine .cons h2 (VRs.of_get (by simpa using e) fun j w hw => ?_)
    obtain ⟨z, h3, h4⟩ := hh (j + 1) w (by simpa using hw)
    exact ⟨z, by simpa using h3, h4⟩

theorem listW.of_ {vs : List AV} {Q : AV → AH → Prop} (h : un list1 vs H Q) : BW c n .list vs H Q := by
  intro A s cvs E rm R V
  have h' := un_inv h; clear h; obtain ⟨a, rfl, h⟩ := h'
  obtain ⟨v, rfl, V1⟩ := V.one; clear V; have V := V1; clear V1
  cases a <;> try exact h.elim
  case tup l =>
    obtain ⟨hl, hq⟩ := h
    cases V with | tup ht hvs => ?_
    have e := hvs.length
    rw [Array.length_toList] at e
    refine call_list_seq _ (.inr rfl) ht rfl rfl (fun h' c' k hr => ?_) (by rw [sizeLine_eq]; omega)
    exact post_new (o := .list true l) (t := s.toks) R k (Nat.le_refl _) ⟨fun _ => R.fresh0, _, _, hr, hvs.mono (.of_keeps k)⟩ hq
  case ref a =>
    cases V
    rcases h with ⟨own, l, h1, hl, hq⟩ | ⟨own, kvs, h1, hl, hq⟩
    · obtain ⟨_, vs, m, hli, hvs⟩ := R.objs _ _ h1
      have e := hvs.length
      rw [Array.length_toList] at e
      refine call_list_seq _ (.inl rfl) hli rfl rfl (fun h' c' k hr => ?_) (by rw [sizeLine_eq]; omega)
      exact post_new (o := .list true l) (t := s.toks) R k (Nat.le_refl _) ⟨fun _ => R.fresh0, _, _, hr, hvs.mono (.of_keeps k)⟩ hq
    · obtain ⟨_, hs, cvs, hd, hkv⟩ := R.objs _ _ h1
      obtain ⟨ep, hat⟩ := hd.dictAt
      have e := hkv.length
      refine PySem.W.kdl_call (PySem.W.kdl_dict (knd := intKind c.prog c.w) (kvs := cvs) (ep := ep) hs) rm.handled hat (by rw [sizeLine_eq]; omega) fun h' tk acc' c' k hr hi => ?_
      refine post_new (o := .list true (kvs.map fun kv => .int kv.1)) (t := tk) R k (Nat.le_refl _) ⟨fun _ => R.fresh0, _, _, hr, ?_⟩ hq
      refine VRs.of_get (by rw [Array.length_toList, hi.1, e, List.length_map]) fun j v hv => ?_
      obtain ⟨kk, x, hx, hk⟩ := hi.2 j v (by simpa using hv)
      obtain ⟨t, rfl⟩ := Value.isInt_shape hk
      have : (kvs.map (·.1))[j]? = some kk := by rw [hkv.1, List.getElem?_map, hx]; rfl
      rw [List.getElem?_map] at this
      obtain ⟨kv, h3, h4⟩ := Option.map_eq_some_iff.mp this
      exact ⟨.int kk, by rw [List.getElem?_map, h3, ← h4]; rfl, .int _ _⟩

theorem tupleW.of_ {vs : List AV} {Q : AV → AH → Prop} (h : un tuple1 vs H Q) : BW c n .tuple vs H Q := by
  intro A s cvs E rm R V
  have h' := un_inv h; clear h; obtain ⟨a, rfl, h⟩ := h'
  obtain ⟨v, rfl, V1⟩ := V.one; clear V; have V := V1; clear V1
  cases a <;> try exact h.elim
  case tup l => cases V with | tup ht hvs => exact call_tuple_same ⟨_, ht, rfl, _, rfl⟩ (.same R (.tup ht hvs) h)
  case ref a =>
    obtain ⟨own, l, h1, hl, hq⟩ := h
    cases V
    obtain ⟨_, vs, m, hli, hvs⟩ := R.objs _ _ h1
    have e := hvs.length
    rw [Array.length_toList] at e
    refine call_tuple_list hli.isList (fun h' k => ?_) (by rw [sizeLine_eq]; omega)
    have k2 : ∀ b o', s.heap.get? b = some o' → (h'.push { cls := .type "tuple", data := .seq vs }).get? b = some o' := fun b o' e' => Heap.get?_push_of_some _ (k b o' e')
    exact ⟨.tup l, H, R.keeps (t := s.toks) k2, Ext.keeps k2, .tup (IsT.new _ _) (hvs.mono (.of_keeps k2)), hq⟩

theorem dictW.of_ {vs : List AV} {Q : AV → AH → Prop} (h : un dict1 vs H Q) : BW c n .dict vs H Q := by
  intro A s cvs E rm R V
  have h' := un_inv h; clear h; obtain ⟨a, rfl, h⟩ := h'
  obtain ⟨v, rfl, V1⟩ := V.one; clear V; have V := V1; clear V1
  cases a <;> try exact h.elim
  case ref a =>
    obtain ⟨own, kvs, h1, hl, hq⟩ := h
    cases V
    obtain ⟨_, hs, cvs, hd, hkv⟩ := R.objs _ _ h1
    have e := hkv.length
    refine kt_call_dict hs hd (by rw [sizeLine_eq]; omega) fun h' hd' sb => ?_
    have k : ∀ b o', s.heap.get? b = some o' → h'.get? b = some o' := fun b o' e' => sb.extBut b o' (Nat.ne_of_lt (Heap.lt_size e')) (Heap.get?_push_of_some _ e')
    refine post_new (o := .dict true kvs) (t := s.toks) R k (Nat.le_refl _) ⟨fun _ => R.fresh0, ?_, _, hd', hkv.mono (.of_keeps k)⟩ hq
    have := R.size_gt
    show (s.heap.objs.size == 1) = false
    simp; omega

theorem rangeW.of_ {vs : List AV} {Q : AV → AH → Prop} (h : rangeW vs H Q) : BW c n .range vs H Q := by
  intro A s cvs E rm R V
  unfold rangeW at h
  split at h
  · obtain ⟨v, rfl, V1⟩ := V.one; clear V; have V := V1; clear V1
    rename_i a
    cases a <;> try exact h.elim
    cases V
    exact call_range_1 ⟨_, H, (R.push _).tok _, Ext.push _ _, .rng (IsRange.new ..), h⟩
  · obtain ⟨v, u, rfl, V1, V2⟩ := V.two; clear V; have V := V1; clear V1
    rename_i a b
    cases a <;> try exact h.elim
    cases b <;> try exact h.elim
    cases V; cases V2
    exact call_range_2 ⟨_, H, (R.push _).tok _, Ext.push _ _, .rng (IsRange.new ..), h⟩
  · exact h.elim

theorem intW.of_ {vs : List AV} {Q : AV → AH → Prop} (h : un int1 vs H Q) : BW c n .int vs H Q := by
  intro A s cvs E rm R V
  have h' := un_inv h; clear h; obtain ⟨a, rfl, h⟩ := h'
  obtain ⟨v, rfl, V1⟩ := V.one; clear V; have V := V1; clear V1
  cases a <;> try exact h.elim
  case int k => cases V; exact call_int_int (.same R (.int _ _) h)
  case bool b => cases V; exact call_int_bool (.tok _ R (.int _ _) h)

theorem maxW.of_ {vs : List AV} {Q : AV → AH → Prop} (h : bn max2 vs H Q) : BW c n .max vs H Q := by
  intro A s cvs E rm R V
  have h' := bn_inv h; clear h; obtain ⟨a, b, rfl, h⟩ := h'
  obtain ⟨v, u, rfl, V1, V2⟩ := V.two; clear V; have V := V1; clear V1
  cases a <;> try exact h.elim
  cases b <;> try exact h.elim
  case int.int a b =>
    have hq := h
    cases V; cases V2
    refine max_two_ints rm.handled fun h' tk k => ⟨_, H, R.keeps (t := tk) k, Ext.keeps k, ?_, hq⟩
    rcases Int.lt_or_le a b with q | q
    · rw [if_pos q, Int.max_eq_right (by omega)]; exact .int _ _
    · rw [if_neg (by omega), Int.max_eq_left q]; exact .int _ _
theorem minW.of_ {vs : List AV} {Q : AV → AH → Prop} (h : bn min2 vs H Q) : BW c n .min vs H Q := by
  intro A s cvs E rm R V
  have h' := bn_inv h; clear h; obtain ⟨a, b, rfl, h⟩ := h'
  obtain ⟨v, u, rfl, V1, V2⟩ := V.two; clear V; have V := V1; clear V1
  cases a <;> try exact h.elim
  cases b <;> try exact h.elim
  case int.int a b =>
    have hq := h
    cases V; cases V2
    refine min_two_ints rm.handled fun h' tk k => ⟨_, H, R.keeps (t := tk) k, Ext.keeps k, ?_, hq⟩
    rcases Int.lt_or_le b a with q | q
    · rw [if_pos q, Int.min_eq_right (by omega)]; exact .int _ _
    · rw [if_neg (by omega), Int.min_eq_left q]; exact .int _ _
theorem allB_get {h : Heap} : ∀ {l : List AV} {bs : List Bool} {vs : List Value}, allB l = some bs → VRs h l vs → bs.length = vs.length ∧ ∀ (i : Nat) (v : Value), vs[i]? = some v → ∃ b, bs[i]? = some b ∧ v = .bool b
  | [], bs, _, e, .nil => by cases e; exact ⟨rfl, fun i v hv => by simp at hv⟩
  | x :: l, bs, _, e, .cons (vs := vs) h1 h2 => by
    unfold allB at e
    cases hx : truB x with
    | none => rw [hx] at e; cases e
    | some b =>
      cases hr : allB l with
      | none => rw [hx, hr] at e; cases e
      | some r =>
        rw [hx, hr] at e
        cases e
        obtain ⟨ih1, ih2⟩ := allB_get hr h2
        have : x = .bool b := by cases x <;> simp [truB] at hx; rw [hx]
        subst this
        cases h1
        refine ⟨by simp [ih1], fun i v hv => ?_⟩
        cases i with
        | zero => simp at hv; exact ⟨b, rfl, hv.symm⟩
        | succ i => obtain ⟨b', h3, h4⟩ := ih2 i v (by simpa using hv); exact ⟨b', by simpa using h3, h4⟩
theorem range_all (bs : List Bool) : (List.range bs.length).all (fun i => bs.getD i false) = bs.all id := by
  rw [Bool.eq_iff_iff, List.all_eq_true, List.all_eq_true]
  constructor
  · intro h b hb
    obtain ⟨i, hi, e⟩ := List.getElem_of_mem hb
    have := h i (List.mem_range.mpr hi)
    rw [List.getD_eq_getElem?_getD, List.getElem?_eq_getElem hi] at this
    rw [← e]; exact this
  · intro h i hi
    have hi' := List.mem_range.mp hi
    rw [List.getD_eq_getElem?_getD, List.getElem?_eq_getElem hi']
    exact h _ (List.getElem_mem hi')
theorem range_any (bs : List Bool) : (List.range bs.length).any (fun i => bs.getD i false) = bs.any id := by
  rw [Bool.eq_iff_iff, List.any_eq_true, List.any_eq_true]
  constructor
  · rintro ⟨i, hi, h⟩
    have hi' := List.mem_range.mp hi
    rw [List.getD_eq_getElem?_getD, List.getElem?_eq_getElem hi'] at h
    exact ⟨_, List.getElem_mem hi', h⟩
  · rintro ⟨b, hb, h⟩
    obtain ⟨i, hi, e⟩ := List.getElem_of_mem hb
    refine ⟨i, List.mem_range.mpr hi, ?_⟩
    rw [List.getD_eq_getElem?_getD, List.getElem?_eq_getElem hi]
    rw [← e] at h; exact h

theorem allW.of_ {vs : List AV} {Q : AV → AH → Prop} (h : un all1 vs H Q) : BW c n .all vs H Q := by
  intro A s cvs E rm R V
  have h' := un_inv h; clear h; obtain ⟨a, rfl, h⟩ := h'
  obtain ⟨v, rfl, V1⟩ := V.one; clear V; have V := V1; clear V1
  cases a <;> try exact h.elim
  case ref a =>
    obtain ⟨own, l, bs, h1, hb, hq⟩ := h
    cases V
    obtain ⟨_, vs, m, hli, hvs⟩ := R.objs _ _ h1
    obtain ⟨e0, hg⟩ := allB_get hb hvs
    have e : bs.length = vs.size := by rw [e0, Array.length_toList]
    have hlt : @LT.lt Nat _ a s.heap.objs.size := Heap.lt_size hli
    refine call_all_walk (wpAny_pyIter_list hli.isList ⟨_, _, _, _, _, _, fun i => bs.getD i false, rfl, Walks.list (A := A.in1) rm.handled s.heap.objs.size a (Nat.ne_of_lt hlt) vs, ⟨⟨_, Heap.get?_push_size _ rfl, rfl, rfl⟩, hli.isList.push _⟩, fun i v s' Q' E' hP hQ => ?_, fun h' tk k => ?_⟩)
    · obtain ⟨b, hb', rfl⟩ := hg i v (by simpa using hP)
      simp only [List.getD_eq_getElem?_getD, hb', Option.getD_some] at hQ
      exact wpAny_truthy_bool hQ
    · have k2 : ∀ b o', s.heap.get? b = some o' → h'.get? b = some o' := fun b o' e' => k b o' (by have : @LT.lt Nat _ b _ := Heap.lt_size e'; simp; exact Nat.ne_of_lt this) (Heap.get?_push_of_some _ e')
      refine ⟨_, H, R.keeps (t := tk) k2, Ext.keeps k2, ?_, hq⟩
      rw [← e, range_all]; exact .bool _
theorem strW.of_ {vs : List AV} {Q : AV → AH → Prop} (h : un str1 vs H Q) : BW c n .str vs H Q := by
  intro A s cvs E rm R V
  have h' := un_inv h; clear h; obtain ⟨a, rfl, h⟩ := h'
  obtain ⟨v, rfl, V1⟩ := V.one; clear V; have V := V1; clear V1
  cases a <;> try exact h.elim
  case int k =>
    obtain ⟨hk, hq⟩ := h
    cases V
    refine P.str_of_int ?_ (.tok _ R (.str _ _) hq)
    by_cases h0 : k.natAbs = 0
    · rw [h0]; decide
    · exact Nat.lt_of_lt_of_le ((Nat.log2_lt h0).mpr hk) (by decide)
  case str x => cases V; exact P.str_of_str (.same R (.str _ _) h)
theorem ints_are {h : Heap} : ∀ {N : List Int} {vs : List Value}, VRs h (N.map .int) vs → PyProof.Rows.IntsAre vs N
  | [], _, V => by cases V; exact .nil
  | n :: _, _, V => by
    cases V with
    | cons v r => cases v; exact .cons n _ (ints_are r)
theorem BW.of_ {b : BI} {vs : List AV} {Q : AV → AH → Prop} (h : biW b vs H Q) : BW c n b vs H Q := by
  cases b with
  | len => exact lenW.of_ h
  | list => exact listW.of_ h
  | tuple => exact tupleW.of_ h
  | dict => exact dictW.of_ h
  | range => exact rangeW.of_ h
  | int => exact intW.of_ h
  | max => exact maxW.of_ h
  | min => exact minW.of_ h
  | all => exact allW.of_ h
  | any => exact h.elim
  | abs => exact h.elim
  | str => exact strW.of_ h
  | sorted => exact h.elim
end
end Mine

set_option maxRecDepth 10000
set_option autoImplicit false
set_option genSizeOf false
set_option genSizeOfSpec false
set_option genInjectivity false
namespace Mine
open PySem

section
variable {c : Cx} {n : Nat} {ρ : Loc} {H : AH}

/-! ## methods -/
noncomputable def lid : ME → String
  | .append => "list.append" | .extend => "list.extend" | .reverse => "list.reverse" | .index => "list.index" | .count => "list.count" | .pop => "list.pop" | .clear => "list.clear" | .values => "" | .get => ""
noncomputable def did : ME → String
  | .values => "dict.values" | .get => "dict.get" | .clear => "dict.clear" | _ => ""
structure MFact (T : String) (m : ME) (id : String) : Prop where
  pa : PlainAttrs T
  slot : Slot T m.name id
  ty : typeOf (.builtin id) = pure (.type "method_descriptor")
theorem mf_append : MFact "list" .append "list.append" := ⟨F.plainAttrs_list, F.slot_list_append, F.type_list_append⟩
theorem mf_extend : MFact "list" .extend "list.extend" := ⟨F.plainAttrs_list, F.slot_list_extend, F.type_list_extend⟩
theorem mf_reverse : MFact "list" .reverse "list.reverse" := ⟨F.plainAttrs_list, F.slot_list_reverse, F.type_list_reverse⟩
theorem mf_pop : MFact "list" .pop "list.pop" := ⟨F.plainAttrs_list, F.slot_list_pop, F.type_list_pop⟩
theorem mf_get : MFact "dict" .get "dict.get" := ⟨F.plainAttrs_dict, F.slot_dict_get, F.type_dict_get⟩

noncomputable def MW (c : Cx) (n : Nat) (id : String) (o : AV) (vs : List AV) (H : AH) (Q : AV → AH → Prop) : Prop :=
  ∀ (A : Around) (s : Shared) (co : Value) (cvs : List Value) (E : Value → Shared → Prop), Rm n A → Rel c H s → VR s.heap o co → VRs s.heap vs cvs →
    wpAny (MM c) A (call (.builtin id) (co :: cvs)) (Post c H s.heap Q) E s

inductive RT (H : AH) : AV → String → Prop
  | list {a : Nat} {own : Bool} {l : List AV} : H a = some (.list own l) → RT H (.ref a) "list"
  | dict {a : Nat} {own : Bool} {l : List (Int × AV)} : H a = some (.dict own l) → RT H (.ref a) "dict"
  | sdict {a : Nat} {l : List (Str × AV)} : H a = some (.sdict l) → RT H (.ref a) "dict"
theorem RT.obj {s : Shared} {o : AV} {T : String} {v : Value} (R : Rel c H s) (x : RT H o T) (V : VR s.heap o v) : ∃ a ob, v = .ref a ∧ s.heap.get? a = some ob ∧ ob.cls = .type T ∧ ob.dict = none := by
  cases x with
  | list hh => cases V; obtain ⟨_, vs, m, hl, _⟩ := R.objs _ _ hh; exact ⟨_, _, rfl, hl, rfl, rfl⟩
  | dict hh => cases V; obtain ⟨_, _, cvs, ⟨o, es, ep, ho, hx, _⟩, _⟩ := R.objs _ _ hh; exact ⟨_, _, rfl, ho, hx.1, hx.2.1⟩
  | sdict hh => cases V; obtain ⟨_, cvs, ⟨o, es, ep, ho, hx, _⟩, _⟩ := R.objs _ _ hh; exact ⟨_, _, rfl, ho, hx.1, hx.2.1⟩

theorem base_plain {e : Expr} (h : notCall0 e = true) (name : Str) (env : Env) (t : Sem Value) : attributeBase e name env t = t := by
  cases e <;> first | rfl | (simp [notCall0] at h)
theorem starEach_all {ce : CE} {es : List Expr} {xs : List X} (hc : Cmps xs ce es) (env : Env) (pos : Pos) : (backTo pos (starEach es env)).all (fun x => !x.1) = true := by
  have := starEach_any hc env pos
  rw [List.all_eq_true]
  intro x hx
  rw [List.any_eq_false] at this
  simpa using this x hx

theorem WX.me_ {m : ME} {o : X} {args : List X} {Q : AV → AH → Prop} (h : WX c n o ρ H fun ov H1 => ∃ T id, RT H1 ov T ∧ MFact T m id ∧ WL c n args ρ H1 fun vs H2 => MW c n id ov vs H2 Q) : WX c n (.me m o args) ρ H Q := by
  intro ce e hc A env s E rm O R V
  obtain ⟨o', ap, es, p, rfl, hn, hln, hle, ho, hs⟩ := hc
  refine wpAny_Call_method_late (base_plain hn _ _ _) ?_ hln rfl (mono' (h ce _ ho A env s E rm O R V) ?_)
  · rw [starEach_all hs env p]
    simp [keywordEach, backToKw]
    omega
  rintro co s1 ⟨ov, H1, R1, X1, V1, T, id, rt, mf, q⟩
  obtain ⟨a, ob, rfl, hob, hcl, hdn⟩ := rt.obj R1 V1
  refine ⟨T, id, mf.pa, mf.slot, mf.ty, ⟨ob, hob, hcl⟩, fun b hb => ?_, ?_⟩
  · cases hb; exact ⟨ob, hob, hdn⟩
  refine Calls.callWith_builtin (starEach_any hs env p) (mono' (q.args hs p rm O R1 (V.ext X1 (R.ki X1))) ?_)
  rintro ⟨pos, kw⟩ s2 ⟨rfl, l, H2, R2, X2, V2, q2⟩
  exact mono' (q2 A s2 _ _ E rm R2 (V1.mono (R1.ki X2)) V2) fun v s3 p => (p.trans X2).trans X1

noncomputable def appendW : AV → List AV → AH → (AV → AH → Prop) → Prop
  | .ref a, [v], H, Q => ∃ l, H a = some (.list true l) ∧ l.length ≤ 10000000 ∧ Q .none (H.set a (.list true (l ++ [v])))
  | _, _, _, _ => False
noncomputable def extendW : AV → List AV → AH → (AV → AH → Prop) → Prop
  | .ref a, [.tup m], H, Q => ∃ l, H a = some (.list true l) ∧ l.length + m.length ≤ 10000000 ∧ Q .none (H.set a (.list true (l ++ m)))
  | .ref a, [.ref b], H, Q => ∃ l own m, H a = some (.list true l) ∧ H b = some (.list own m) ∧ l.length + m.length ≤ 10000000 ∧ Q .none (H.set a (.list true (l ++ m)))
  | _, _, _, _ => False
noncomputable def reverseW : AV → List AV → AH → (AV → AH → Prop) → Prop
  | .ref a, [], H, Q => ∃ l, H a = some (.list true l) ∧ l.length ≤ 10000000 ∧ Q .none (H.set a (.list true l.reverse))
  | _, _, _, _ => False
noncomputable def valuesW : AV → List AV → AH → (AV → AH → Prop) → Prop
  | .ref a, [], H, Q => ∃ own kvs, H a = some (.dict own kvs) ∧ Q (.view a) H
  | _, _, _, _ => False

theorem post_write {s : Shared} {a : Nat} {f : Array Value → Array Value} {vs : Array Value} {m : Nat} {l : List AV} {l' : List AV} {Q : AV → AH → Prop} (R : Rel c H s) (hh : H a = some (.list true l)) (hl : IsL s.heap a vs m)
    (hv : VRs s.heap l' (f vs).toList) (hq : Q .none (H.set a (.list true l'))) : Post c H s.heap Q .none { s with heap := s.heap.update a (Obj.mapSeq f) } := by
  have hob := (R.objs _ _ hh).notImm
  obtain ⟨hown, _⟩ := R.objs _ _ hh
  have sb : Heap.SameBut a s.heap (s.heap.update a (Obj.mapSeq f)) := Heap.SameBut.update ..
  have ki : KI s.heap (s.heap.update a (Obj.mapSeq f)) := ki_sameBut sb fun o' e' => by
    obtain ⟨ob, hob, hni⟩ := hob; rw [hob] at e'; cases e'; exact hni
  exact ⟨.none, _, R.write (t := s.toks) sb hob (hown rfl) (o := .list true l') ⟨hown, _, _, hl.update f, hv.mono ki⟩, Ext.write sb (by rw [hh]; rfl), .none, hq⟩

theorem append_inv {o : AV} {vs : List AV} {Q : AV → AH → Prop} (h : appendW o vs H Q) : ∃ a v, o = .ref a ∧ vs = [v] ∧ appendW (.ref a) [v] H Q := by
  unfold appendW at h; split at h
  · exact ⟨_, _, rfl, rfl, h⟩
  · exact h.elim
theorem reverse_inv {o : AV} {vs : List AV} {Q : AV → AH → Prop} (h : reverseW o vs H Q) : ∃ a, o = .ref a ∧ vs = [] ∧ reverseW (.ref a) [] H Q := by
  unfold reverseW at h; split at h
  · exact ⟨_, rfl, rfl, h⟩
  · exact h.elim
theorem VRs.nil_inv {h : Heap} {vs : List Value} (V : VRs h [] vs) : vs = [] := by cases V; rfl
theorem appendW.of_ {o : AV} {vs : List AV} {Q : AV → AH → Prop} (h : appendW o vs H Q) : MW c n "list.append" o vs H Q := by
  intro A s co cvs E rm R Vo V
  obtain ⟨a, v, rfl, rfl, l, h1, hl, hq⟩ := append_inv h
  cases Vo
  obtain ⟨_, rfl, hv⟩ := V.one
  · obtain ⟨_, ws, m, hli, hvs⟩ := R.objs _ _ h1
    have e := hvs.length
    rw [Array.length_toList] at e
    refine call_meets F.slot_list_append ⟨_, hli, rfl⟩ F.entry_list_append (F.args_list_append_2 _ _) (list_append a ws m _ (by rw [sizeLine_eq]; omega)) ⟨hli, ?_⟩
    refine post_write R h1 hli ?_ hq
    rw [Array.toList_push]
    exact hvs.append (.cons hv .nil)
theorem reverseW.of_ {o : AV} {vs : List AV} {Q : AV → AH → Prop} (h : reverseW o vs H Q) : MW c n "list.reverse" o vs H Q := by
  intro A s co cvs E rm R Vo V
  obtain ⟨a, rfl, rfl, l, h1, hl, hq⟩ := reverse_inv h
  cases Vo
  cases V.nil_inv
  · obtain ⟨_, ws, m, hli, hvs⟩ := R.objs _ _ h1
    have e := hvs.length
    rw [Array.length_toList] at e
    refine call_meets F.slot_list_reverse ⟨_, hli, rfl⟩ F.entry_list_reverse (F.args_list_reverse_1 _) (AutoSeq1.list_reverse_list_0 a ws m (by rw [sizeLine_eq]; omega)) ⟨hli, ?_⟩
    refine post_write R h1 hli ?_ hq
    rw [Array.toList_reverse]
    exact hvs.reverse
end
end Mine

set_option maxRecDepth 10000
set_option autoImplicit false
namespace Mine
open PySem

/-! ## max of a list, with what it is for an empty one -/
section
variable {prog : Program} {w : World} {A : Around} {E : Value → Shared → Prop} {I : Addr} {fp wr : List Addr} {k : Nat} {P : Nat → Value → Prop} {St : Nat → Heap → Prop}

theorem maxd_loop {R : Result → Shared → Prop} (W : Walks prog w A.in1 I fp wr k P St) (d : Value) (Best : Nat → Value → Prop)
    (hcmp : ∀ j v u (s : Shared) (Q : Value → Shared → Prop) (E : Value → Shared → Prop), P (j + 1) v → Best j u → (∀ b, (b = true → Best (j + 1) v) → (b = false → Best (j + 1) u) → Q (.bool b) s) → wpAny (model prog w) A.in1 (richCompare .Gt v u) Q E s)
    (S : Addr) (hSf : S ∉ fp) : ∀ (m j : Nat) (s : Shared) (u : Value) (c : Nat), k - (j + 1) = m → j + 1 ≤ k → St (j + 1) s.heap → Best j u →
    s.heap.get? S = some { cls := .type "list", dict := none, data := .seq #[u, u] c, slots := #[] } →
    (∀ v h' tk, Best (k - 1) v → (∀ b o, b ∉ wr → b ≠ S → s.heap.get? b = some o → h'.get? b = some o) → R (.ok (.ret v)) { s with heap := h', toks := tk }) →
    codeAny (model prog w) A (.builtin "max.loop" ⟨[.ref I, .none, .ref S], [("default", d)]⟩) R s := by
  have hSw : S ∉ wr := fun h => hSf (W.sub _ h)
  have hname : (toString "max" ++ toString ".loop" : String) = "max.loop" := by decide
  intro m
  induction m with
  | zero =>
    intro j s u c hm hj hst hB hS hR
    have hin : j + 1 = k := by omega
    refine codeAny_builtin F.entry_max_loop ?_
    rw [Around.under_plainId F.plain_max_loop _]
    show wpAny _ A.in1 (seqItems? (.ref S) >>= _) _ _ s
    refine wpAny_bind (wpAny_seqItems hS rfl ?_)
    show wpAny _ A.in1 (tryCatch (pyNext (.ref I)) _ >>= _) _ _ s
    refine wpAny_bind (wpAny_tryCatch (W.done s _ _ (hin ▸ hst) fun h' tk hk' => ?_))
    have hS' := hk' S _ hSw hS
    show wpAny _ A.in1 (updateSeq S (fun _ => #[]) >>= _) _ _ _
    refine wpAny_bind (wpAny_updateSeq hS' rfl (wpAny_bind (wpAny_letGo (wpAny_pure ?_))))
    exact hR u _ tk (by rw [← hin]; exact hB) fun b o hbw hbS e => (Heap.get?_update_other _ _ (Ne.symm hbS)).trans (hk' b o hbw e)
  | succ m ih =>
    intro j s u c hm hj hst hB hS hR
    have hlt : j + 1 < k := by omega
    refine codeAny_builtin F.entry_max_loop ?_
    rw [Around.under_plainId F.plain_max_loop _]
    show wpAny _ A.in1 (seqItems? (.ref S) >>= _) _ _ s
    refine wpAny_bind (wpAny_seqItems hS rfl ?_)
    show wpAny _ A.in1 (tryCatch (pyNext (.ref I)) _ >>= _) _ _ s
    refine wpAny_bind (wpAny_tryCatch (W.item (j + 1) s _ _ hlt hst fun v h' tk hP hst' hk' => ?_))
    have hS' := hk' S _ hSw hS
    show wpAny _ A.in1 (tryCatch (holding [v, v] (richCompare .Gt v u >>= _)) _ >>= _) _ _ _
    refine wpAny_bind (wpAny_tryCatch (wpAny_holding (wpAny_bind (hcmp j v u _ _ _ hP hB fun b hb1 hb2 => ?_))))
    refine wpAny_bind (wpAny_holding (wpAny_truthy_bool ?_))
    refine wpAny_bind (wpAny_letGo (wpAny_pure ?_))
    cases b with
    | true =>
      simp only [if_true]
      refine wpAny_bind (wpAny_updateSeq hS' rfl (wpAny_bind (wpAny_letGo ?_)))
      rw [hname]
      refine wpAny_pure ⟨plainId_quiet F.plain_max_loop _, ih (j + 1) _ v _ (by omega) hlt (W.frame _ _ _ hst' fun b hbf o e => ?_) (hb1 rfl) (Heap.get?_update_self _ hS' rfl) fun v' h'' tk'' hP' hk'' => ?_⟩
      · exact (Heap.get?_update_other _ _ (fun h : S = b => hSf (by rw [h]; exact hbf))).trans e
      · exact hR v' h'' tk'' hP' fun b o hbw hbS e => hk'' b o hbw hbS ((Heap.get?_update_other _ _ (Ne.symm hbS)).trans (hk' b o hbw e))
    | false =>
      simp only [Bool.false_eq_true, if_false]
      refine wpAny_bind (wpAny_letGo ?_)
      rw [hname]
      refine wpAny_pure ⟨plainId_quiet F.plain_max_loop _, ih (j + 1) _ u c (by omega) hlt hst' (hb2 rfl) hS' fun v' h'' tk'' hP' hk'' => ?_⟩
      exact hR v' h'' tk'' hP' fun b o hbw hbS e => hk'' b o hbw hbS (hk' b o hbw e)

theorem maxd_first {R : Result → Shared → Prop} (W : Walks prog w A.in1 I fp wr k P St) (d : Value) (Best : Nat → Value → Prop)
    (hcmp : ∀ j v u (s : Shared) (Q : Value → Shared → Prop) (E : Value → Shared → Prop), P (j + 1) v → Best j u → (∀ b, (b = true → Best (j + 1) v) → (b = false → Best (j + 1) u) → Q (.bool b) s) → wpAny (model prog w) A.in1 (richCompare .Gt v u) Q E s)
    (h1 : ∀ v, P 0 v → Best 0 v) (S : Addr) (hSf : S ∉ fp) {s : Shared} {c : Nat} (hst : St 0 s.heap) (hS : s.heap.get? S = some { cls := .type "list", dict := none, data := .seq #[] c, slots := #[] })
    (hR0 : k = 0 → ∀ h' tk, (∀ b o, b ∉ wr → b ≠ S → s.heap.get? b = some o → h'.get? b = some o) → R (.ok (.ret d)) { s with heap := h', toks := tk })
    (hR : 0 < k → ∀ v h' tk, Best (k - 1) v → (∀ b o, b ∉ wr → b ≠ S → s.heap.get? b = some o → h'.get? b = some o) → R (.ok (.ret v)) { s with heap := h', toks := tk }) :
    codeAny (model prog w) A (.builtin "max.loop" ⟨[.ref I, .none, .ref S], [("default", d)]⟩) R s := by
  have hSw : S ∉ wr := fun h => hSf (W.sub _ h)
  have hname : (toString "max" ++ toString ".loop" : String) = "max.loop" := by decide
  refine codeAny_builtin F.entry_max_loop ?_
  rw [Around.under_plainId F.plain_max_loop _]
  show wpAny _ A.in1 (seqItems? (.ref S) >>= _) _ _ s
  refine wpAny_bind (wpAny_seqItems hS rfl ?_)
  show wpAny _ A.in1 (tryCatch (pyNext (.ref I)) _ >>= _) _ _ s
  rcases Nat.eq_zero_or_pos k with hk | hk
  · refine wpAny_bind (wpAny_tryCatch (W.done s _ _ (hk ▸ hst) fun h' tk hk' => ?_))
    exact wpAny_bind (wpAny_rule (wpAny_pure (hR0 hk h' tk fun b o hbw _ e => hk' b o hbw e)))
  · refine wpAny_bind (wpAny_tryCatch (W.item 0 s _ _ hk hst fun v h' tk hP hst' hk' => ?_))
    have hS' := hk' S _ hSw hS
    show wpAny _ A.in1 (updateSeq S (fun _ => #[v, v]) >>= _) _ _ _
    refine wpAny_bind (wpAny_updateSeq hS' rfl ?_)
    rw [hname]
    refine wpAny_pure ⟨plainId_quiet F.plain_max_loop _, maxd_loop W d Best hcmp S hSf _ 0 _ v _ rfl hk (W.frame _ _ _ hst' fun b hbf o e => ?_) (h1 v hP) (Heap.get?_update_self _ hS' rfl) fun v' h'' tk'' hP' hk'' => ?_⟩
    · exact (Heap.get?_update_other _ _ (fun h : S = b => hSf (by rw [h]; exact hbf))).trans e
    · exact hR hk v' h'' tk'' hP' fun b o hbw hbS e => hk'' b o hbw hbS ((Heap.get?_update_other _ _ (Ne.symm hbS)).trans (hk' b o hbw e))

theorem tree_kw {s : Shared} {id : String} {b : Builtin} {args : List Value} {kw : List (Str × Value)} {Q : Value → Shared → Prop} (hk : builtinKind id = none) (hp : plainId id = true) (hb : entryFor table id = some b) (ha : argsOk id ⟨args, kw⟩)
    (hc : wpAny (model prog w) A.in1 (b ⟨args, kw⟩) (fun fin s' => match fin with
      | .done f => (match (Except.ok f : Result) with | .ok (.ret v) => Q v s' | .ok _ => False | .error e => E e s')
      | .again c' => c'.quiet = true ∧ codeAny (model prog w) A c' (fun r s' => match r with | .ok (.ret v) => Q v s' | .ok _ => False | .error e => E e s') s') E s) :
    wpAny (model prog w) A (call (.builtin id) args kw) Q E s := by
  refine wpAny_call (codeAny_call_builtin hp hb ?_)
  simp only [checkBuiltinCall, hk]
  cases hsig : Manifest.signature? id with
  | none => exact wpAny_pure hc
  | some sig =>
    simp only [argsOk, hsig] at ha
    show wpAny _ A.in1 (Bind.checkArgs id sig ⟨args, kw⟩) _ _ s
    rw [show Bind.checkArgs id sig ⟨args, kw⟩ = pure () from ha]; exact wpAny_pure hc
theorem args_maxd (a d : Value) : argsOk "max" ⟨[a], [("default", d)]⟩ := by unfold argsOk; kernel_rfl

/-- max(l, default=d), l a list of numbers -/
theorem call_maxd {s : Shared} {l : Addr} {vs : Array Value} {N : List Int} {d : Value} {Q : Value → Shared → Prop} (hh : A.in1.handled = none) (hl : s.heap.IsList l vs) (hll : l < s.heap.objs.size) (hN : PyProof.Rows.IntsAre vs.toList N)
    (h0 : N = [] → ∀ h' tk, (∀ b o, s.heap.get? b = some o → h'.get? b = some o) → Q d { s with heap := h', toks := tk })
    (h1 : ∀ m t h' tk, m ∈ N → (∀ x ∈ N, x ≤ m) → (∀ b o, s.heap.get? b = some o → h'.get? b = some o) → Q (.int m t) { s with heap := h', toks := tk }) :
    wpAny (model prog w) A (call (.builtin "max") [.ref l] [("default", d)]) Q E s := by
  have hname : (toString "max" ++ toString ".loop" : String) = "max.loop" := by decide
  refine tree_kw F.kind_max F.plain_max F.entry_max (args_maxd _ _) ?_
  show wpAny _ A.in1 (Builtin.Builtins.bindParams "max" ["key", "default"] 0 ⟨[], [("default", d)]⟩ >>= _) _ _ s
  refine wpAny_bind (wpAny_of_eq (show Builtin.Builtins.bindParams "max" ["key", "default"] 0 ⟨[], [("default", d)]⟩ = pure [none, some d] from rfl) ?_)
  refine wpAny_bind (wpAny_pure ?_)
  refine wpAny_bind (wpAny_pyIter_list hl ?_)
  refine wpAny_bind (wpAny_newObj_type ?_)
  rw [hname]
  have e := hN.nums
  have hget : ∀ (i : Nat) (v : Value), vs[i]? = some v → ∃ t x, v = .int x t ∧ N[i]? = some x := fun i v hv => by
    have hv' : vs.toList[i]? = some v := by simpa using hv
    obtain ⟨x, t, rfl⟩ := hN.all v (List.mem_of_getElem? hv')
    refine ⟨t, x, rfl, ?_⟩
    rw [← e, List.getElem?_map, hv']; rfl
  have hlen : N.length = vs.size := by rw [← e, List.length_map, Array.length_toList]
  refine wpAny_pure ⟨plainId_quiet F.plain_max_loop _, maxd_first (Walks.list (A := A.in1) hh s.heap.objs.size l (Nat.ne_of_lt hll) vs) d (fun j v => ∃ x t, v = .int x t ∧ x ∈ N ∧ ∀ i y, i ≤ j → N[i]? = some y → y ≤ x)
    (fun j v u s' Q' E' hv hu hq => ?_) (fun v hv => ?_) _ ?_ ⟨⟨_, Heap.get?_push_of_some _ (Heap.get?_push_size _ rfl), rfl, rfl⟩, (hl.push _).push _⟩ (Heap.get?_push_size _ rfl) (fun hk h' tk hk' => ?_) fun hk v h' tk hB hk' => ?_⟩
  · obtain ⟨t, x, rfl, hx⟩ := hget _ _ hv
    obtain ⟨y, u', rfl, hy, hall⟩ := hu
    refine richCompare_gives (op := .Gt) (typeIs_int s' _ t) (typeIs_int s' _ u') F.slot_int_gt F.entry_int_gt (F.args_int_gt_2 _ _) (gives_int_gt _ _ t u') (fun x => nomatch x) (hq (decide (x > y)) (fun hb => ⟨x, t, rfl, List.mem_of_getElem? hx, fun i z hi hz => ?_⟩) fun hb => ⟨y, u', rfl, hy, fun i z hi hz => ?_⟩)
    · have hb := of_decide_eq_true hb
      rcases Nat.lt_or_ge j i with h | h
      · have : i = j + 1 := by omega
        rw [this, hx] at hz; cases hz; exact Int.le_refl _
      · exact Int.le_trans (hall i z h hz) (Int.le_of_lt hb)
    · have hb := of_decide_eq_false hb
      rcases Nat.lt_or_ge j i with h | h
      · have : i = j + 1 := by omega
        rw [this, hx] at hz; cases hz; exact Int.not_lt.mp hb
      · exact hall i z h hz
  · obtain ⟨t, x, rfl, hx⟩ := hget _ _ hv
    refine ⟨x, t, rfl, List.mem_of_getElem? hx, fun i z hi hz => ?_⟩
    have : i = 0 := by omega
    rw [this, hx] at hz; cases hz; exact Int.le_refl _
  · have e2 : (s.heap.push { cls := .type "list_iterator", data := .fields #[.ref l, .int 0 0] }).objs.size = s.heap.objs.size + 1 := Heap.size_push ..
    show ¬ (s.heap.push { cls := .type "list_iterator", data := .fields #[.ref l, .int 0 0] }).objs.size ∈ [s.heap.objs.size, l]
    rw [e2]
    simp only [List.mem_cons, List.not_mem_nil, or_false, not_or]
    exact ⟨Nat.succ_ne_self _, Nat.ne_of_gt (Nat.lt_succ_of_lt hll)⟩
  · have hn : N = [] := List.length_eq_zero_iff.mp (by omega)
    exact h0 hn h' tk fun b o hb => hk' b o (by have := Heap.lt_size hb; simp; exact Nat.ne_of_lt this) (by
      have := Heap.lt_size hb
      have e2 : (s.heap.push { cls := .type "list_iterator", data := .fields #[.ref l, .int 0 0] }).objs.size = s.heap.objs.size + 1 := Heap.size_push ..
      show b ≠ (s.heap.push { cls := .type "list_iterator", data := .fields #[.ref l, .int 0 0] }).objs.size
      rw [e2]; exact Nat.ne_of_lt (Nat.lt_succ_of_lt this)) (Heap.get?_push_of_some _ (Heap.get?_push_of_some _ hb))
  · obtain ⟨x, t, rfl, hx, hall⟩ := hB
    refine h1 x t h' tk hx (fun y hy => ?_) fun b o hb => hk' b o (by have := Heap.lt_size hb; simp; exact Nat.ne_of_lt this) (by
      have := Heap.lt_size hb
      have e2 : (s.heap.push { cls := .type "list_iterator", data := .fields #[.ref l, .int 0 0] }).objs.size = s.heap.objs.size + 1 := Heap.size_push ..
      show b ≠ (s.heap.push { cls := .type "list_iterator", data := .fields #[.ref l, .int 0 0] }).objs.size
      rw [e2]; exact Nat.ne_of_lt (Nat.lt_succ_of_lt this)) (Heap.get?_push_of_some _ (Heap.get?_push_of_some _ hb))
    obtain ⟨i, hi, e⟩ := List.getElem_of_mem hy
    exact hall i y (by omega) (by rw [List.getElem?_eq_getElem hi, e])
end
end Mine

set_option maxRecDepth 10000
set_option autoImplicit false
set_option genSizeOf false
set_option genSizeOfSpec false
set_option genInjectivity false
namespace Mine
open PySem

section
variable {c : Cx} {n : Nat} {ρ : Loc} {H : AH}

/-! ## isinstance -/
inductive VK where
  | none | bool | int | str | tuple | list | dict
noncomputable def isiB : VK → Ty → Bool
  | .bool, .bool => true | .bool, .int => true | .int, .int => true | .str, .str => true | .tuple, .tuple => true | .list, .list => true | .dict, .dict => true
  | _, _ => false
noncomputable def vkW : AV → AH → (VK → Prop) → Prop
  | .none, _, Q => Q .none
  | .bool _, _, Q => Q .bool
  | .int _, _, Q => Q .int
  | .str _, _, Q => Q .str
  | .tup _, _, Q => Q .tuple
  | .ref a, H, Q => (∃ own l, H a = some (.list own l) ∧ Q .list) ∨ (∃ own kvs, H a = some (.dict own kvs) ∧ Q .dict)
  | _, _, _ => False
inductive VA (h : Heap) : VK → Value → Prop
  | none : VA h .none .none
  | bool (b : Bool) : VA h .bool (.bool b)
  | int (i : Int) (t : Tok) : VA h .int (.int i t)
  | str (x : Str) (t : Tok) : VA h .str (.str x t)
  | tuple {a : Addr} {o : Obj} : h.get? a = some o → o.cls = .type "tuple" → VA h .tuple (.ref a)
  | list {a : Addr} {o : Obj} : h.get? a = some o → o.cls = .type "list" → VA h .list (.ref a)
  | dict {a : Addr} {o : Obj} : h.get? a = some o → o.cls = .type "dict" → VA h .dict (.ref a)
theorem vkW.at_ {s : Shared} {a : AV} {v : Value} {Q : VK → Prop} (R : Rel c H s) (V : VR s.heap a v) (h : vkW a H Q) : ∃ k, VA s.heap k v ∧ Q k := by
  cases a <;> try exact h.elim
  case none => cases V; exact ⟨_, .none, h⟩
  case bool => cases V; exact ⟨_, .bool _, h⟩
  case int => cases V; exact ⟨_, .int _ _, h⟩
  case str => cases V; exact ⟨_, .str _ _, h⟩
  case tup => cases V with | tup ht _ => exact ⟨_, .tuple ht rfl, h⟩
  case ref a =>
    cases V
    rcases h with ⟨own, l, h1, hq⟩ | ⟨own, kvs, h1, hq⟩
    · obtain ⟨_, vs, m, hli, _⟩ := R.objs _ _ h1; exact ⟨_, .list hli rfl, hq⟩
    · obtain ⟨_, _, cvs, hd, _⟩ := R.objs _ _ h1
      obtain ⟨o, ho, hc⟩ := DictOf.cls hd
      exact ⟨_, .dict ho hc, hq⟩
theorem isi_call {A : Around} {s : Shared} {v : Value} {k : VK} {E : Value → Shared → Prop} {Q : Value → Shared → Prop} (t : Ty) (V : VA s.heap k v) (h : ∀ tk, Q (.bool (isiB k t)) { s with toks := tk }) : wpAny (MM c) A (call (.builtin "isinstance") [v, .type t.ty]) Q E s := by
  have h0 : Q (.bool (isiB k t)) s := h s.toks
  cases V with
  | none =>
    cases t with
    | int => exact IsiPair.NoneType_int (h _)
    | bool => exact IsiPair.NoneType_bool (h _)
    | str => exact IsiPair.NoneType_str (h _)
    | tuple => exact IsiPair.NoneType_tuple (h _)
    | list => exact IsiPair.NoneType_list (h _)
    | dict => exact IsiPair.NoneType_dict (h _)
  | bool b =>
    cases t with
    | int => exact IsiPair.bool_int h0
    | bool => exact IsiPair.bool_bool h0
    | str => exact IsiPair.bool_str (h _)
    | tuple => exact IsiPair.bool_tuple (h _)
    | list => exact IsiPair.bool_list (h _)
    | dict => exact IsiPair.bool_dict (h _)
  | int x u =>
    cases t with
    | int => exact IsiPair.int_int h0
    | bool => exact IsiPair.int_bool (h _)
    | str => exact IsiPair.int_str (h _)
    | tuple => exact IsiPair.int_tuple (h _)
    | list => exact IsiPair.int_list (h _)
    | dict => exact IsiPair.int_dict (h _)
  | str x u =>
    cases t with
    | int => exact IsiPair.str_int (h _)
    | bool => exact IsiPair.str_bool (h _)
    | str => exact IsiPair.str_str h0
    | tuple => exact IsiPair.str_tuple (h _)
    | list => exact IsiPair.str_list (h _)
    | dict => exact IsiPair.str_dict (h _)
  | tuple hx hc =>
    cases t with
    | int => exact IsiPair.tuple_int hx hc (h _)
    | bool => exact IsiPair.tuple_bool hx hc (h _)
    | str => exact IsiPair.tuple_str hx hc (h _)
    | tuple => exact IsiPair.tuple_tuple hx hc h0
    | list => exact IsiPair.tuple_list hx hc (h _)
    | dict => exact IsiPair.tuple_dict hx hc (h _)
  | list hx hc =>
    cases t with
    | int => exact IsiPair.list_int hx hc (h _)
    | bool => exact IsiPair.list_bool hx hc (h _)
    | str => exact IsiPair.list_str hx hc (h _)
    | tuple => exact IsiPair.list_tuple hx hc (h _)
    | list => exact IsiPair.list_list hx hc h0
    | dict => exact IsiPair.list_dict hx hc (h _)
  | dict hx hc =>
    cases t with
    | int => exact IsiPair.dict_int hx hc (h _)
    | bool => exact IsiPair.dict_bool hx hc (h _)
    | str => exact IsiPair.dict_str hx hc (h _)
    | tuple => exact IsiPair.dict_tuple hx hc (h _)
    | list => exact IsiPair.dict_list hx hc (h _)
    | dict => exact IsiPair.dict_dict hx hc h0
theorem isi_tl {A : Around} {s : Shared} {v : Value} {k : VK} {tp : Addr} {E : Value → Shared → Prop} {Q : Value → Shared → Prop} (V : VA s.heap k v) (ht : s.heap.get? tp = some { cls := .type "tuple", data := .seq #[.type "tuple", .type "list"] })
    (h : ∀ tk, Q (.bool (isiB k .tuple || isiB k .list)) { s with toks := tk }) : wpAny (MM c) A (call (.builtin "isinstance") [v, .ref tp]) Q E s := by
  cases V with
  | none => exact IsiPair.tupleOfB (Tx := "NoneType") (cs := [.type "tuple", .type "list"]) (b := false) (.cons (Answers.of_false_none (by decide +kernel) F.isi_meta_tuple F.sub_NoneType_tuple) (.cons (Answers.of_false_none (by decide +kernel) F.isi_meta_list F.sub_NoneType_list) .nil)) rfl ht rfl h
  | bool b => exact IsiPair.tupleOfB (Tx := "bool") (cs := [.type "tuple", .type "list"]) (b := false) (.cons (Answers.of_false_bool (by decide +kernel) F.isi_meta_tuple F.sub_bool_tuple) (.cons (Answers.of_false_bool (by decide +kernel) F.isi_meta_list F.sub_bool_list) .nil)) rfl ht rfl h
  | int x u => exact IsiPair.tupleOfB (Tx := "int") (cs := [.type "tuple", .type "list"]) (b := false) (.cons (Answers.of_false_int (by decide +kernel) F.isi_meta_tuple F.sub_int_tuple) (.cons (Answers.of_false_int (by decide +kernel) F.isi_meta_list F.sub_int_list) .nil)) (typeIs_int s x u) ht rfl h
  | str x u => exact IsiPair.tupleOfB (Tx := "str") (cs := [.type "tuple", .type "list"]) (b := false) (.cons (Answers.of_false_str (by decide +kernel) F.isi_meta_tuple F.sub_str_tuple) (.cons (Answers.of_false_str (by decide +kernel) F.isi_meta_list F.sub_str_list) .nil)) (typeIs_str s x u) ht rfl h
  | tuple hx hc => exact IsiPair.tupleOfB (Tx := "tuple") (cs := [.type "tuple", .type "list"]) (b := true) (.cons (Answers.of_true F.isi_meta_tuple F.sub_tuple_tuple) (.cons (Answers.of_false_tuple (by decide +kernel) F.isi_meta_list F.sub_tuple_list) .nil)) ⟨_, hx, hc⟩ ht rfl h
  | list hx hc => exact IsiPair.tupleOfB (Tx := "list") (cs := [.type "tuple", .type "list"]) (b := true) (.cons (Answers.of_false_list (by decide +kernel) F.isi_meta_tuple F.sub_list_tuple) (.cons (Answers.of_true F.isi_meta_list F.sub_list_list) .nil)) ⟨_, hx, hc⟩ ht rfl h
  | dict hx hc => exact IsiPair.tupleOfB (Tx := "dict") (cs := [.type "tuple", .type "list"]) (b := false) (.cons (Answers.of_false_dict (by decide +kernel) F.isi_meta_tuple F.sub_dict_tuple) (.cons (Answers.of_false_dict (by decide +kernel) F.isi_meta_list F.sub_dict_list) .nil)) ⟨_, hx, hc⟩ ht rfl h

theorem Ty.boot (t : Ty) : bootBuiltins t.name = some (.type t.ty) := by cases t <;> decide +kernel
theorem Ty.notName (t : Ty) : t.name ≠ ("__name__" : Str) := by cases t <;> decide +kernel
theorem Ty.notDebug (t : Ty) : (t.name == ("__debug__" : Str)) = false := by cases t <;> decide +kernel
theorem ty_name {t : Ty} {ce : CE} {A : Around} {env : Env} {s : Shared} {E : Value → Shared → Prop} {p : Pos} {Q : Value → Shared → Prop} (hk : ce.kind t.name = some .globalImplicit) (O : EnvOk c ce env) (R : Rel c H s) (h : Q (.type t.ty) s) :
    wpAny (MM c) A (eval (.Name t.name p) env) Q E s := by
  refine Calls.Name_function_global O.kind (by rw [O.kindOf]; exact hk) (Calls.loadGlobal_builtin (mg := c.mg) (mb := c.mb) (by rw [O.globals]; exact c.g.keeps R.keep) (c.ty t) (by rw [O.builtins]; exact c.b.keeps R.keep) ?_ h) t.notDebug
  rw [c.bs _ t.notName, t.boot]
theorem isi_name {ce : CE} {A : Around} {env : Env} {s : Shared} {E : Value → Shared → Prop} {p : Pos} {Q : Value → Shared → Prop} (hk : ce.kind ("isinstance" : Str) = some .globalImplicit) (O : EnvOk c ce env) (R : Rel c H s) (h : Q (.builtin "isinstance") s) :
    wpAny (MM c) A (eval (.Name ("isinstance" : Str) p) env) Q E s := by
  refine Calls.Name_function_global O.kind (by rw [O.kindOf]; exact hk) (Calls.loadGlobal_builtin (mg := c.mg) (mb := c.mb) (by rw [O.globals]; exact c.g.keeps R.keep) c.isi (by rw [O.builtins]; exact c.b.keeps R.keep) ?_ h) (by decide +kernel)
  rw [c.bs _ (by decide +kernel)]; decide +kernel

theorem args2 {A : Around} {env : Env} {s : Shared} {E : Value → Shared → Prop} {p : Pos} {f : Value} {x y : Expr} {Q : Args → Shared → Prop} (hx : plainExpr x = true) (hy : plainExpr y = true)
    (h : wpAny (MM c) A (eval x env) (fun v s₁ => wpAny (MM c) A (eval y env) (fun u s₂ => Q ⟨[v, u], []⟩ s₂) E s₁) E s) : wpAny (MM c) A (evalArgs f true (backTo p (starEach [x, y] env)) []) Q E s := by
  have g : wpAny (MM c) A (spliced (backTo p (starEach [x, y] env))) (fun vs s' => Q ⟨vs, []⟩ s') E s :=
    wpAny_items_cons (mono' h fun v s₁ h₁ => wpAny_items_cons (mono' h₁ fun u s₂ h₂ => wpAny_items_nil h₂) (starEach_plain hy)) (starEach_plain hx)
  rw [starEach_plain hx] at g ⊢
  exact Calls.evalArgs_plain g
theorem any2 {env : Env} {p : Pos} {x y : Expr} (hx : plainExpr x = true) (hy : plainExpr y = true) : (backTo p (starEach [x, y] env)).any (·.1) = false := by
  rw [starEach_plain hx, starEach_plain hy]; rfl
theorem WX.isi_ {x : X} {t : Ty} {Q : AV → AH → Prop} (h : WX c n x ρ H fun a H1 => vkW a H1 fun k => Q (.bool (isiB k t)) H1) : WX c n (.isi x t) ρ H Q := by
  intro ce e hc A env s E rm O R V
  obtain ⟨fp, x', tp, p, rfl, hk1, hk2, hx, hp⟩ := hc
  refine wpAny_Call_NameR (isi_name hk1 O R ?_)
  refine Calls.callWith_builtin (any2 hp rfl) (args2 hp rfl (mono' (h ce _ hx A env s E rm O R V) ?_))
  rintro v s1 ⟨av, H1, R1, X1, V1, q1⟩
  obtain ⟨k, va, hq⟩ := q1.at_ R1 V1
  refine ty_name hk2 O R1 ?_
  exact isi_call t va fun tk => ⟨_, H1, R1.tok _, X1, .bool _, hq⟩
theorem WX.isi2_ {x : X} {Q : AV → AH → Prop} (h : WX c n x ρ H fun a H1 => vkW a H1 fun k => Q (.bool (isiB k .tuple || isiB k .list)) H1) : WX c n (.isi2 x .tuple .list) ρ H Q := by
  intro ce e hc A env s E rm O R V
  obtain ⟨fp, x', tp, up, kk, pp, p, rfl, hk1, hk2, hk3, hx, hp⟩ := hc
  refine wpAny_Call_NameR (isi_name hk1 O R ?_)
  refine Calls.callWith_builtin (any2 hp rfl) (args2 hp rfl (mono' (h ce _ hx A env s E rm O R V) ?_))
  rintro v s1 ⟨av, H1, R1, X1, V1, q1⟩
  refine wpAny_Tuple (wpAny_items_cons (ty_name hk2 O R1 (wpAny_items_cons (ty_name hk3 O R1 (wpAny_items_nil ?_)) rfl)) rfl)
  refine ⟨by rw [sizeLine_eq]; decide, ?_⟩
  have R2 := R1.push { cls := .type "tuple", data := .seq #[.type "tuple", .type "list"] }
  obtain ⟨k, va, hq⟩ := q1.at_ R2 (V1.mono (ki_push _ _))
  exact isi_tl va (Heap.get?_push_size _ rfl) fun tk => ⟨_, H1, R2.tok _, X1.trans (Ext.push _ _), .bool _, hq⟩

/-! ## max with a default -/
noncomputable def maxdW : AV → AV → AH → (AV → AH → Prop) → Prop
  | .ref a, .int d, H, Q => ∃ (own : Bool) (N : List Int), H a = some (.list own (N.map .int)) ∧ (N = [] → Q (.int d) H) ∧ ∀ m, m ∈ N → (∀ x ∈ N, x ≤ m) → Q (.int m) H
  | _, _, _, _ => False
theorem maxd_inv {a b : AV} {Q : AV → AH → Prop} (h : maxdW a b H Q) : ∃ r d, a = .ref r ∧ b = .int d ∧ maxdW (.ref r) (.int d) H Q := by
  unfold maxdW at h; split at h
  · exact ⟨_, _, rfl, rfl, h⟩
  · exact h.elim
theorem WX.maxd_ {x d : X} {Q : AV → AH → Prop} (h : WX c n x ρ H fun a H1 => WX c n d ρ H1 fun b H2 => maxdW a b H2 Q) : WX c n (.maxd x d) ρ H Q := by
  intro ce e hc A env s E rm O R V
  obtain ⟨fp, x', d', kp, p, rfl, hk, hx, hd, hp⟩ := hc
  refine wpAny_Call_Name_kw (bi_name hk O R ?_)
  refine PyProof.Rows.callWith_kw (he := by rw [starEach_plain hp]; rfl) (hplain := by rw [starEach_plain hp]; rfl) (wpAny_items_cons (mono' (h ce _ hx A env s E rm O R V) ?_) (starEach_plain hp))
  rintro v s1 ⟨av, H1, R1, X1, V1, q1⟩
  refine wpAny_items_nil (PyProof.Rows.kws_cons (mono' (q1 ce _ hd A env s1 E rm O R1 (V.ext X1 (R.ki X1))) ?_))
  rintro dv s2 ⟨bv, H2, R2, X2, V2, q2⟩
  refine PyProof.Rows.kws_nil ?_
  obtain ⟨r, dd, rfl, rfl, own, N, h1, h2, h3⟩ := maxd_inv q2
  cases V1; cases V2
  obtain ⟨_, vs, m, hli, hvs⟩ := R2.objs _ _ h1
  refine call_maxd rm.handled hli.isList (Heap.lt_size hli) (ints_are hvs) (fun e h' tk k => ?_) fun mx t h' tk hm hall k => ?_
  · exact ⟨_, H2, R2.keeps (t := tk) k, (X1.trans X2).trans (Ext.keeps k), .int _ _, h2 e⟩
  · exact ⟨_, H2, R2.keeps (t := tk) k, (X1.trans X2).trans (Ext.keeps k), .int _ _, h3 mx hm hall⟩
end
end Mine

set_option maxRecDepth 10000
set_option autoImplicit false
set_option genSizeOf false
set_option genSizeOfSpec false
set_option genInjectivity false
namespace Mine
open PySem

/-! ## the calculator of premises -/
inductive RK where
  | list | dict | no
noncomputable def meT : ME → RK
  | .append | .reverse => .list
  | _ => .no
noncomputable def meW : ME → AV → List AV → AH → (AV → AH → Prop) → Prop
  | .append => appendW
  | .reverse => reverseW
  | _ => fun _ _ _ _ => False
noncomputable def recvW : AV → RK → AH → Prop
  | .ref a, .list, H => ∃ own l, H a = some (.list own l)
  | .ref a, .dict, H => ∃ own kvs, H a = some (.dict own kvs)
  | _, _, _ => False
noncomputable def CompP (wt : Loc → AH → (Bool → AH → Prop) → Prop) (wx : Loc → AH → (AV → AH → Prop) → Prop) (tested : Bool) (ρ : Loc) (v : AV) (H1 : AH) (Q : List AV → AH → Prop) : Prop :=
  ∃ (k : IK) (L : List AV) (I : Nat → List AV → AH → Prop), Iter H1 k v L ∧ I 0 [] H1 ∧ (∀ j ys H', I j ys H' → Iter H' k v L ∧ ys.length ≤ 10000000) ∧
    (∀ j y ys H', L[j]? = some y → I j ys H' → if tested then wt (ρ ++ [some y]) H' (fun b H2 => Iter H2 k v L ∧ (b = true → wx (ρ ++ [some y]) H2 fun z H3 => I (j + 1) (ys ++ [z]) H3) ∧ (b = false → I (j + 1) ys H2))
      else wx (ρ ++ [some y]) H' fun z H3 => I (j + 1) (ys ++ [z]) H3) ∧ ∀ ys H', I L.length ys H' → Q ys H'

mutual
noncomputable def wpX (c : Cx) (n : Nat) : X → Loc → AH → (AV → AH → Prop) → Prop
  | .none, _, H, Q => Q .none H
  | .bool b, _, H, Q => Q (.bool b) H
  | .int i, _, H, Q => Q (.int i) H
  | .str s, _, H, Q => Q (.str s) H
  | .var i, ρ, H, Q => ∃ v, ρ[i]? = some (some v) ∧ Q v H
  | .con k, _, H, Q => ∃ x v, c.cons[k]? = some (x, v) ∧ Q v H
  | .bin op l r, ρ, H, Q => wpX c n l ρ H fun a H1 => wpX c n r ρ H1 fun b H2 => opW op a b H2 Q
  | .neg x, ρ, H, Q => wpX c n x ρ H fun a H1 => ∃ i, a = .int i ∧ Q (.int (-i)) H1
  | .not x, ρ, H, Q => wpX c n x ρ H fun a H1 => truW a H1 fun b H2 => Q (.bool (!b)) H2
  | .ands l, ρ, H, Q => wpA c n true l ρ H Q
  | .ors l, ρ, H, Q => wpA c n false l ρ H Q
  | .cmp op l r, ρ, H, Q => wpX c n l ρ H fun a H1 => wpX c n r ρ H1 fun b H2 => cmpW op a b H2 fun t H3 => Q (.bool t) H3
  | .call i args, ρ, H, Q => wpL c n args ρ H fun vs H1 => CW c n i vs H1 Q
  | .bi b args, ρ, H, Q => wpL c n args ρ H fun vs H1 => biW b vs H1 Q
  | .maxd x d, ρ, H, Q => wpX c n x ρ H fun a H1 => wpX c n d ρ H1 fun b H2 => maxdW a b H2 Q
  | .isi x t, ρ, H, Q => wpX c n x ρ H fun a H1 => vkW a H1 fun k => Q (.bool (isiB k t)) H1
  | .isi2 x t u, ρ, H, Q => t = .tuple ∧ u = .list ∧ wpX c n x ρ H fun a H1 => vkW a H1 fun k => Q (.bool (isiB k .tuple || isiB k .list)) H1
  | .me m o args, ρ, H, Q => wpX c n o ρ H fun ov H1 => recvW ov (meT m) H1 ∧ wpL c n args ρ H1 fun vs H2 => meW m ov vs H2 Q
  | .sub v i, ρ, H, Q => wpX c n v ρ H fun o H1 => wpX c n i ρ H1 fun j H2 => getW o j H2 Q
  | .slc v lo hi, ρ, H, Q => wpX c n v ρ H fun o H1 => wpO c n lo ρ H1 fun a H2 => wpO c n hi ρ H2 fun b H3 => slcW o a b H3 Q
  | .list es, ρ, H, Q => wpL c n es ρ H fun l H1 => l.length ≤ 10000000 ∧ ∀ r, H1 r = none → Q (.ref r) (H1.set r (.list true l))
  | .tup es, ρ, H, Q => wpL c n es ρ H fun l H1 => l.length ≤ 10000000 ∧ Q (.tup l) H1
  | .dict0, _, H, Q => ∀ r, H r = none → Q (.ref r) (H.set r (.dict true []))
  | .comp elt it cond, ρ, H, Q => wpX c n it ρ H fun v H1 => CompP (fun ρ H Q => wpC c n cond ρ H Q) (fun ρ H Q => wpX c n elt ρ H Q) cond.isSome ρ v H1 fun ys H' => ∀ D, H' D = none → Q (.ref D) (H'.set D (.list true ys))
noncomputable def wpT (c : Cx) (n : Nat) : X → Loc → AH → (Bool → AH → Prop) → Prop
  | .bool b, _, H, Q => Q b H
  | .var i, ρ, H, Q => ∃ v, ρ[i]? = some (some v) ∧ truW v H Q
  | .con k, _, H, Q => ∃ x v, c.cons[k]? = some (x, v) ∧ truW v H Q
  | .not x, ρ, H, Q => wpT c n x ρ H fun b H1 => Q (!b) H1
  | .ands l, ρ, H, Q => wpB c n true l ρ H Q
  | .ors l, ρ, H, Q => wpB c n false l ρ H Q
  | .cmp op l r, ρ, H, Q => wpX c n l ρ H fun a H1 => wpX c n r ρ H1 fun b H2 => cmpW op a b H2 Q
  | .call i args, ρ, H, Q => wpL c n args ρ H fun vs H1 => CW c n i vs H1 fun a H2 => truW a H2 Q
  | .bi b args, ρ, H, Q => wpL c n args ρ H fun vs H1 => biW b vs H1 fun a H2 => truW a H2 Q
  | .isi x t, ρ, H, Q => wpX c n x ρ H fun a H1 => vkW a H1 fun k => Q (isiB k t) H1
  | .isi2 x t u, ρ, H, Q => t = .tuple ∧ u = .list ∧ wpX c n x ρ H fun a H1 => vkW a H1 fun k => Q (isiB k .tuple || isiB k .list) H1
  | .sub v i, ρ, H, Q => wpX c n v ρ H fun o H1 => wpX c n i ρ H1 fun j H2 => getW o j H2 fun a H3 => truW a H3 Q
  | _, _, _, _ => False
noncomputable def wpL (c : Cx) (n : Nat) : List X → Loc → AH → (List AV → AH → Prop) → Prop
  | [], _, H, Q => Q [] H
  | x :: xs, ρ, H, Q => wpX c n x ρ H fun a H1 => wpL c n xs ρ H1 fun l H2 => Q (a :: l) H2
noncomputable def wpA (c : Cx) (n : Nat) (conj : Bool) : List X → Loc → AH → (AV → AH → Prop) → Prop
  | [], _, _, _ => False
  | x :: xs, ρ, H, Q => wpX c n x ρ H fun a H1 => if xs.isEmpty then Q a H1 else truW a H1 fun t H2 => (t = conj → wpA c n conj xs ρ H2 Q) ∧ (t = (!conj) → Q a H2)
noncomputable def wpB (c : Cx) (n : Nat) (conj : Bool) : List X → Loc → AH → (Bool → AH → Prop) → Prop
  | [], _, H, Q => Q conj H
  | x :: xs, ρ, H, Q => wpT c n x ρ H fun t H1 => (t = conj → wpB c n conj xs ρ H1 Q) ∧ (t = (!conj) → Q (!conj) H1)
noncomputable def wpO (c : Cx) (n : Nat) : Option X → Loc → AH → (AV → AH → Prop) → Prop
  | none, _, H, Q => Q .none H
  | some x, ρ, H, Q => wpX c n x ρ H Q
noncomputable def wpC (c : Cx) (n : Nat) : Option X → Loc → AH → (Bool → AH → Prop) → Prop
  | none, _, H, Q => Q true H
  | some x, ρ, H, Q => wpT c n x ρ H Q
end
end Mine

set_option maxRecDepth 10000
set_option autoImplicit false
set_option genSizeOf false
set_option genSizeOfSpec false
set_option genInjectivity false
namespace Mine
open PySem

section
variable {c : Cx} {n : Nat}

theorem Post.mono {H : AH} {h : Heap} {Q Q' : AV → AH → Prop} {v : Value} {s : Shared} (k : ∀ a H, Q a H → Q' a H) (p : Post c H h Q v s) : Post c H h Q' v s := let ⟨a, b, r1, r2, r3, q⟩ := p; ⟨a, b, r1, r2, r3, k _ _ q⟩
theorem PostB.mono {H : AH} {h : Heap} {Q Q' : Bool → AH → Prop} {v : Bool} {s : Shared} (k : ∀ a H, Q a H → Q' a H) (p : PostB c H h Q v s) : PostB c H h Q' v s := let ⟨b, r1, r2, q⟩ := p; ⟨b, r1, r2, k _ _ q⟩
theorem PostL.mono {H : AH} {h : Heap} {Q Q' : List AV → AH → Prop} {v : List Value} {s : Shared} (k : ∀ a H, Q a H → Q' a H) (p : PostL c H h Q v s) : PostL c H h Q' v s := let ⟨a, b, r1, r2, r3, q⟩ := p; ⟨a, b, r1, r2, r3, k _ _ q⟩
theorem WX.mono {x : X} {ρ : Loc} {H : AH} {Q Q' : AV → AH → Prop} (h : WX c n x ρ H Q) (k : ∀ a H, Q a H → Q' a H) : WX c n x ρ H Q' :=
  fun ce e hc A env s E rm O R V => mono' (h ce e hc A env s E rm O R V) fun _ _ p => p.mono k
theorem WT.mono {x : X} {ρ : Loc} {H : AH} {Q Q' : Bool → AH → Prop} (h : WT c n x ρ H Q) (k : ∀ a H, Q a H → Q' a H) : WT c n x ρ H Q' :=
  fun ce e hc A env s E rm O R V => mono' (h ce e hc A env s E rm O R V) fun _ _ p => p.mono k
theorem WL.mono {x : List X} {ρ : Loc} {H : AH} {Q Q' : List AV → AH → Prop} (h : WL c n x ρ H Q) (k : ∀ a H, Q a H → Q' a H) : WL c n x ρ H Q' :=
  fun ce e hc A env s E p rm O R V => mono' (h ce e hc A env s E p rm O R V) fun _ _ p => p.mono k
theorem KW.mono {op : CmpOp} {a b : AV} {H : AH} {Q Q' : Bool → AH → Prop} (h : KW c n op a b H Q) (k : ∀ a H, Q a H → Q' a H) : KW c n op a b H Q' :=
  fun A s ca cb E rm R Va Vb => mono' (h A s ca cb E rm R Va Vb) fun _ _ ⟨t, e, p⟩ => ⟨t, e, p.mono k⟩
theorem TW.mono {a : AV} {H : AH} {Q Q' : Bool → AH → Prop} (h : TW c n a H Q) (k : ∀ a H, Q a H → Q' a H) : TW c n a H Q' :=
  fun A s ca E rm R Va => mono' (h A s ca E rm R Va) fun _ _ p => p.mono k
theorem CW.mono {i : Nat} {vs : List AV} {H : AH} {Q Q' : AV → AH → Prop} (h : CW c n i vs H Q) (k : ∀ a H, Q a H → Q' a H) : CW c n i vs H Q' :=
  fun f a A s cvs E h1 h2 rm R V => mono' (h f a A s cvs E h1 h2 rm R V) fun _ _ p => p.mono k
theorem BW.mono {b : BI} {vs : List AV} {H : AH} {Q Q' : AV → AH → Prop} (h : BW c n b vs H Q) (k : ∀ a H, Q a H → Q' a H) : BW c n b vs H Q' :=
  fun A s cvs E rm R V => mono' (h A s cvs E rm R V) fun _ _ p => p.mono k
theorem GW.mono {o i : AV} {H : AH} {Q Q' : AV → AH → Prop} (h : GW c n o i H Q) (k : ∀ a H, Q a H → Q' a H) : GW c n o i H Q' :=
  fun A s co ci E rm R Vo Vi => let ⟨T, id, h1, h2, h3⟩ := h A s co ci E rm R Vo Vi; ⟨T, id, h1, h2, mono' h3 fun _ _ p => p.mono k⟩
theorem WO.mono {x : Option X} {ρ : Loc} {H : AH} {Q Q' : AV → AH → Prop} (h : WO c n x ρ H Q) (k : ∀ a H, Q a H → Q' a H) : WO c n x ρ H Q' := by
  cases x with
  | none => exact k _ _ h
  | some x => exact WX.mono h k

theorem vkW.mono {a : AV} {H : AH} {Q Q' : VK → Prop} (h : vkW a H Q) (k : ∀ x, Q x → Q' x) : vkW a H Q' := by
  cases a <;> first | exact h.elim | exact k _ h | skip
  rcases h with ⟨o, l, h1, h2⟩ | ⟨o, l, h1, h2⟩
  · exact .inl ⟨o, l, h1, k _ h2⟩
  · exact .inr ⟨o, l, h1, k _ h2⟩
theorem me_any {m : ME} {o : X} {args : List X} {ρ : Loc} {H : AH} {Q : AV → AH → Prop} (h : WX c n o ρ H fun ov H1 => recvW ov (meT m) H1 ∧ WL c n args ρ H1 fun vs H2 => meW m ov vs H2 Q) : WX c n (.me m o args) ρ H Q := by
  refine WX.me_ (h.mono fun ov H1 ⟨hr, hl⟩ => ?_)
  cases ov <;> try exact hr.elim
  cases m with
  | append => obtain ⟨own, l, e⟩ := hr; exact ⟨_, _, .list e, mf_append, hl.mono fun vs H2 h2 => appendW.of_ h2⟩
  | reverse => obtain ⟨own, l, e⟩ := hr; exact ⟨_, _, .list e, mf_reverse, hl.mono fun vs H2 h2 => reverseW.of_ h2⟩
  | _ => exact hr.elim

theorem sComp (cond : Option X) (elt : X) (ρ : Loc) (H : AH) (J : AH → Prop) (K : Option AV → AH → Prop) (hx : ∀ ρ H Q, wpX c n elt ρ H Q → WX c n elt ρ H Q) (hc : ∀ x, cond = some x → ∀ ρ H Q, wpT c n x ρ H Q → WT c n x ρ H Q)
    (h : if cond.isSome then wpC c n cond ρ H (fun b H2 => J H2 ∧ (b = true → wpX c n elt ρ H2 fun z H3 => K (some z) H3) ∧ (b = false → K none H2)) else wpX c n elt ρ H fun z H3 => K (some z) H3) : CompTurn c n cond elt ρ H J K := by
  cases cond with
  | none => exact hx _ _ _ h
  | some x => exact (hc x rfl _ _ _ h).mono fun _ _ h1 => ⟨h1.1, fun e => hx _ _ _ (h1.2.1 e), h1.2.2⟩

mutual
theorem sX : ∀ (x : X) (ρ : Loc) (H : AH) (Q : AV → AH → Prop), wpX c n x ρ H Q → WX c n x ρ H Q
  | .none, _, _, _, h => WX.none_ h
  | .bool _, _, _, _, h => WX.bool_ h
  | .int _, _, _, _, h => WX.int_ h
  | .str _, _, _, _, h => WX.str_ h
  | .var _, _, _, _, ⟨_, h1, h2⟩ => WX.var_ h1 h2
  | .con _, _, _, _, ⟨_, _, h1, h2⟩ => WX.con_ h1 h2
  | .bin _ l r, _, _, _, h => WX.bin_ ((sX l _ _ _ h).mono fun _ _ h1 => (sX r _ _ _ h1).mono fun _ _ h2 => OW.of_ h2)
  | .neg x, _, _, _, h => WX.neg_ (sX x _ _ _ h)
  | .not x, _, _, _, h => WX.not_ ((sX x _ _ _ h).mono fun _ _ h1 => TW.of_ h1)
  | .ands l, _, _, _, h => WX.ands_ (sAnd l _ _ _ h)
  | .ors l, _, _, _, h => WX.ors_ (sOr l _ _ _ h)
  | .cmp _ l r, _, _, _, h => WX.cmp_ ((sX l _ _ _ h).mono fun _ _ h1 => (sX r _ _ _ h1).mono fun _ _ h2 => KW.of_ h2)
  | .call _ args, _, _, _, h => WX.call_ (sL args _ _ _ h)
  | .bi _ args, _, _, _, h => WX.bi_ ((sL args _ _ _ h).mono fun _ _ h1 => BW.of_ h1)
  | .maxd x d, _, _, _, h => WX.maxd_ ((sX x _ _ _ h).mono fun _ _ h1 => sX d _ _ _ h1)
  | .isi x _, _, _, _, h => WX.isi_ (sX x _ _ _ h)
  | .isi2 x .tuple .list, _, _, _, ⟨_, _, h⟩ => WX.isi2_ (sX x _ _ _ h)
  | .me _ o args, _, _, _, h => me_any ((sX o _ _ _ h).mono fun _ _ h1 => ⟨h1.1, sL args _ _ _ h1.2⟩)
  | .sub v i, _, _, _, h => WX.sub_ ((sX v _ _ _ h).mono fun _ _ h1 => (sX i _ _ _ h1).mono fun _ _ h2 => GW.of_ h2)
  | .slc v lo hi, _, _, _, h => WX.slc_ ((sX v _ _ _ h).mono fun _ _ h1 => (sO lo _ _ _ h1).mono fun _ _ h2 => (sO hi _ _ _ h2).mono fun _ _ h3 => LW.of_ h3)
  | .list es, _, _, _, h => WX.list_ (sL es _ _ _ h)
  | .tup es, _, _, _, h => WX.tup_ (sL es _ _ _ h)
  | .dict0, _, _, _, h => WX.dict0_ h
  | .comp elt it cond, _, _, _, h => WX.comp_ ((sX it _ _ _ h).mono fun _ _ ⟨k, L, I, h1, h2, h3, h4, h5⟩ => ⟨k, L, I, h1, h2, h3, fun j y ys H' e i => sComp cond elt _ _ _ _ (fun ρ H Q => sX elt ρ H Q) (sC cond) (h4 j y ys H' e i), h5⟩)
theorem sT : ∀ (x : X) (ρ : Loc) (H : AH) (Q : Bool → AH → Prop), wpT c n x ρ H Q → WT c n x ρ H Q
  | .bool _, _, _, _, h => WT.val_ (WX.bool_ (TW.bool_ h))
  | .var _, _, _, _, ⟨_, h1, h2⟩ => WT.val_ (WX.var_ h1 (TW.of_ h2))
  | .con _, _, _, _, ⟨_, _, h1, h2⟩ => WT.val_ (WX.con_ h1 (TW.of_ h2))
  | .not x, _, _, _, h => WT.not_ (sT x _ _ _ h)
  | .ands l, _, _, _, h => WT.ands_ (sBA l _ _ _ h)
  | .ors l, _, _, _, h => WT.ors_ (sBO l _ _ _ h)
  | .cmp _ l r, _, _, _, h => WT.cmp_ ((sX l _ _ _ h).mono fun _ _ h1 => (sX r _ _ _ h1).mono fun _ _ h2 => KW.of_ h2)
  | .call _ args, _, _, _, h => WT.val_ (WX.call_ ((sL args _ _ _ h).mono fun _ _ h1 => h1.mono fun _ _ h2 => TW.of_ h2))
  | .bi _ args, _, _, _, h => WT.val_ (WX.bi_ ((sL args _ _ _ h).mono fun _ _ h1 => (BW.of_ h1).mono fun _ _ h2 => TW.of_ h2))
  | .isi x _, _, _, _, h => WT.val_ (WX.isi_ ((sX x _ _ _ h).mono fun _ _ h1 => vkW.mono h1 fun _ h2 => TW.bool_ h2))
  | .isi2 x .tuple .list, _, _, _, ⟨_, _, h⟩ => WT.val_ (WX.isi2_ ((sX x _ _ _ h).mono fun _ _ h1 => vkW.mono h1 fun _ h2 => TW.bool_ h2))
  | .sub v i, _, _, _, h => WT.val_ (WX.sub_ ((sX v _ _ _ h).mono fun _ _ h1 => (sX i _ _ _ h1).mono fun _ _ h2 => (GW.of_ h2).mono fun _ _ h3 => TW.of_ h3))
  | .none, _, _, _, h => h.elim
  | .int _, _, _, _, h => h.elim
  | .str _, _, _, _, h => h.elim
  | .bin _ _ _, _, _, _, h => h.elim
  | .neg _, _, _, _, h => h.elim
  | .maxd _ _, _, _, _, h => h.elim
  | .me _ _ _, _, _, _, h => h.elim
  | .slc _ _ _, _, _, _, h => h.elim
  | .list _, _, _, _, h => h.elim
  | .tup _, _, _, _, h => h.elim
  | .dict0, _, _, _, h => h.elim
  | .comp _ _ _, _, _, _, h => h.elim
theorem sL : ∀ (x : List X) (ρ : Loc) (H : AH) (Q : List AV → AH → Prop), wpL c n x ρ H Q → WL c n x ρ H Q
  | [], _, _, _, h => WL.nil_ h
  | x :: xs, _, _, _, h => WL.cons_ ((sX x _ _ _ h).mono fun _ _ h1 => sL xs _ _ _ h1)
theorem sAnd : ∀ (x : List X) (ρ : Loc) (H : AH) (Q : AV → AH → Prop), wpA c n true x ρ H Q → WA c n .And x ρ H Q
  | [], _, _, _, h => h.elim
  | [x], _, _, _, h => WA.one_ (sX x _ _ _ h)
  | x :: y :: r, _, _, _, h => WA.and_ ((sX x _ _ _ h).mono fun _ _ h1 => (TW.of_ h1).mono fun _ _ h2 => ⟨fun e => sAnd (y :: r) _ _ _ (h2.1 e), fun e => h2.2 e⟩)
theorem sOr : ∀ (x : List X) (ρ : Loc) (H : AH) (Q : AV → AH → Prop), wpA c n false x ρ H Q → WA c n .Or x ρ H Q
  | [], _, _, _, h => h.elim
  | [x], _, _, _, h => WA.one_ (sX x _ _ _ h)
  | x :: y :: r, _, _, _, h => WA.or_ ((sX x _ _ _ h).mono fun _ _ h1 => (TW.of_ h1).mono fun _ _ h2 => ⟨fun e => sOr (y :: r) _ _ _ (h2.1 e), fun e => h2.2 e⟩)
theorem sBA : ∀ (x : List X) (ρ : Loc) (H : AH) (Q : Bool → AH → Prop), wpB c n true x ρ H Q → WB c n .And x ρ H Q
  | [], _, _, _, h => WB.and0_ h
  | x :: r, _, _, _, h => WB.and_ ((sT x _ _ _ h).mono fun _ _ h2 => ⟨fun e => sBA r _ _ _ (h2.1 e), fun e => h2.2 e⟩)
theorem sBO : ∀ (x : List X) (ρ : Loc) (H : AH) (Q : Bool → AH → Prop), wpB c n false x ρ H Q → WB c n .Or x ρ H Q
  | [], _, _, _, h => WB.or0_ h
  | x :: r, _, _, _, h => WB.or_ ((sT x _ _ _ h).mono fun _ _ h2 => ⟨fun e => sBO r _ _ _ (h2.1 e), fun e => h2.2 e⟩)
theorem sO : ∀ (x : Option X) (ρ : Loc) (H : AH) (Q : AV → AH → Prop), wpO c n x ρ H Q → WO c n x ρ H Q
  | none, _, _, _, h => h
  | some x, _, _, _, h => sX x _ _ _ h
theorem sC : ∀ (x : Option X) (t : X), x = some t → ∀ (ρ : Loc) (H : AH) (Q : Bool → AH → Prop), wpT c n t ρ H Q → WT c n t ρ H Q
  | none, _, e => nomatch e
  | some x, _, rfl => sT x
end
end
end Mine

set_option maxRecDepth 10000
set_option autoImplicit false
set_option genSizeOf false
set_option genSizeOfSpec false
set_option genInjectivity false
namespace Mine
open PySem

noncomputable def ForP (ws : Loc → AH → (Fl → Loc → AH → Prop) → Prop) (upd : Loc → AV → Loc) (ok : AV → Prop) (ρ : Loc) (v : AV) (H1 : AH) (Q : Fl → Loc → AH → Prop) : Prop :=
  ∃ (k : IK) (L : List AV) (I : Nat → Loc → AH → Prop), Iter H1 k v L ∧ (∀ y ∈ L, ok y) ∧ I 0 ρ H1 ∧ (∀ j ρ' H', I j ρ' H' → Iter H' k v L) ∧
    (∀ j y ρ' H', L[j]? = some y → I j ρ' H' → ws (upd ρ' y) H' (LoopQ (I (j + 1)) Q)) ∧ ∀ ρ' H', I L.length ρ' H' → Q .next ρ' H'
noncomputable def ForF (ws : Loc → AH → (Fl → Loc → AH → Prop) → Prop) (upd : Loc → AV → Loc) (ok : AV → Prop) (ρ : Loc) (v : AV) (H1 : AH) (Q : Fl → Loc → AH → Prop) : Prop :=
  ForP ws upd ok ρ v H1 Q ∨ False
noncomputable def updU (is : List Nat) (ρ : Loc) (y : AV) : Loc := match y with | .tup l => setAll ρ is l | _ => ρ

/-- behind a statement: the rest, or out -/
noncomputable def seqF (A : Loc → AH → Prop) (Q : Fl → Loc → AH → Prop) : Fl → Loc → AH → Prop
  | .next, ρ, H => A ρ H
  | .brk, ρ, H => Q .brk ρ H
  | .cont, ρ, H => Q .cont ρ H
  | .ret v, ρ, H => Q (.ret v) ρ H
mutual
noncomputable def wp1 (c : Cx) (n : Nat) : XS → Loc → AH → (Fl → Loc → AH → Prop) → Prop
  | .expr x, ρ, H, Q => wpX c n x ρ H fun _ H1 => Q .next ρ H1
  | .ret x, ρ, H, Q => wpX c n x ρ H fun v H1 => Q (.ret v) ρ H1
  | .asg i x, ρ, H, Q => wpX c n x ρ H fun v H1 => Q .next (ρ.set i (some v)) H1
  | .asgc i elt it cond, ρ, H, Q => wpX c n it ρ H fun v H1 => CompP (fun ρ H Q => wpC c n cond ρ H Q) (fun ρ H Q => wpX c n elt ρ H Q) cond.isSome ρ v H1 fun ys H' => ∀ D, H' D = none → Q .next (ρ.set i (some (.ref D))) (H'.set D (.list true ys))
  | .unp is x, ρ, H, Q => wpX c n x ρ H fun v H1 => ∃ l, v = .tup l ∧ is.length = l.length ∧ Q .next (setAll ρ is l) H1
  | .sets o i v, ρ, H, Q => wpX c n v ρ H fun av H1 => wpX c n o ρ H1 fun ao H2 => wpX c n i ρ H2 fun ai H3 => setW ao ai av H3 fun H4 => Q .next ρ H4
  | .ite t b e, ρ, H, Q => wpT c n t ρ H fun u H1 => (u = true → wpS c n b ρ H1 Q) ∧ (u = false → wpS c n e ρ H1 Q)
  | .for_ i x b, ρ, H, Q => wpX c n x ρ H fun v H1 => ForF (fun ρ H Q => wpS c n b ρ H Q) (fun ρ y => ρ.set i (some y)) (fun _ => True) ρ v H1 Q
  | .forU is x b, ρ, H, Q => wpX c n x ρ H fun v H1 => ForP (fun ρ H Q => wpS c n b ρ H Q) (updU is) (fun y => ∃ l, y = .tup l ∧ is.length = l.length) ρ v H1 Q
  | .stop, _, _, _ => False
noncomputable def wpS (c : Cx) (n : Nat) : List XS → Loc → AH → (Fl → Loc → AH → Prop) → Prop
  | [], ρ, H, Q => Q .next ρ H
  | x :: xs, ρ, H, Q => wp1 c n x ρ H fun f ρ' H' => seqF (fun ρ2 H2 => wpS c n xs ρ2 H2 Q) Q f ρ' H'
end

section
variable {c : Cx} {n : Nat}
theorem PostS.mono {nm : List Str} {env : Env} {H : AH} {h : Heap} {Q Q' : Fl → Loc → AH → Prop} {f : Flow} {s : Shared} (k : ∀ f ρ H, Q f ρ H → Q' f ρ H) (p : PostS c nm env H h Q f s) : PostS c nm env H h Q' f s :=
  let ⟨a, ρ', H'', R, X', V, F, q⟩ := p; ⟨a, ρ', H'', R, X', V, F, k _ _ _ q⟩
theorem WS.mono {x : List XS} {ρ : Loc} {H : AH} {Q Q' : Fl → Loc → AH → Prop} (h : WS c n x ρ H Q) (k : ∀ f ρ H, Q f ρ H → Q' f ρ H) : WS c n x ρ H Q' :=
  fun ce e hc A env s E rm O R V => mono' (h ce e hc A env s E rm O R V) fun _ _ p => p.mono k
theorem W1.mono {x : XS} {ρ : Loc} {H : AH} {Q Q' : Fl → Loc → AH → Prop} (h : W1 c n x ρ H Q) (k : ∀ f ρ H, Q f ρ H → Q' f ρ H) : W1 c n x ρ H Q' :=
  fun ce e hc A env s E rm O R V => mono' (h ce e hc A env s E rm O R V) fun _ _ p => p.mono k
theorem SW.mono {o i v : AV} {H : AH} {Q Q' : AH → Prop} (h : SW c n o i v H Q) (k : ∀ H, Q H → Q' H) : SW c n o i v H Q' :=
  fun A s co ci cv E rm R V1 V2 V3 => mono' (h A s co ci cv E rm R V1 V2 V3) fun _ _ ⟨H', r1, r2, q⟩ => ⟨H', r1, r2, k _ q⟩

theorem ForP.ok {b : List XS} {upd : Loc → AV → Loc} {ok : AV → Prop} {ρ : Loc} {v : AV} {H1 : AH} {Q : Fl → Loc → AH → Prop} (hb : ∀ ρ H Q, wpS c n b ρ H Q → WS c n b ρ H Q) (h : ForP (fun ρ H Q => wpS c n b ρ H Q) upd ok ρ v H1 Q) : ForOk c n b upd ok ρ v H1 Q :=
  let ⟨k, L, I, h1, h2, h3, h4, h5, h6⟩ := h
  ⟨k, L, I, h1, h2, h3, h4, fun j y ρ' H' e i => hb _ _ _ (h5 j y ρ' H' e i), h6⟩

mutual
theorem s1 : ∀ (x : XS) (ρ : Loc) (H : AH) (Q : Fl → Loc → AH → Prop), wp1 c n x ρ H Q → W1 c n x ρ H Q
  | .expr x, _, _, _, h => W1.expr_ (sX x _ _ _ h)
  | .ret x, _, _, _, h => W1.ret_ (sX x _ _ _ h)
  | .asg _ x, _, _, _, h => W1.asg_ (sX x _ _ _ h)
  | .asgc _ elt it cond, _, _, _, h => W1.asgc_ ((sX it _ _ _ h).mono fun _ _ ⟨k, L, I, h1, h2, h3, h4, h5⟩ => ⟨k, L, I, h1, h2, h3, fun j y ys H' e i => sComp cond elt _ _ _ _ (fun ρ H Q => sX elt ρ H Q) (sC cond) (h4 j y ys H' e i), h5⟩)
  | .unp _ x, _, _, _, h => W1.unp_ (sX x _ _ _ h)
  | .sets o i v, _, _, _, h => W1.sets_ ((sX v _ _ _ h).mono fun _ _ h1 => (sX o _ _ _ h1).mono fun _ _ h2 => (sX i _ _ _ h2).mono fun _ _ h3 => SW.of_ h3)
  | .ite t b e, _, _, _, h => W1.ite_ ((sT t _ _ _ h).mono fun _ _ h1 => ⟨fun q => sS b _ _ _ (h1.1 q), fun q => sS e _ _ _ (h1.2 q)⟩)
  | .for_ _ x b, _, _, _, h => W1.for_ ((sX x _ _ _ h).mono fun _ _ h1 => ForP.ok (fun ρ H Q => sS b ρ H Q) (h1.resolve_right id))
  | .forU _ x b, _, _, _, h => W1.forU_ ((sX x _ _ _ h).mono fun _ _ h1 => ForP.ok (fun ρ H Q => sS b ρ H Q) h1)
  | .stop, _, _, _, h => h.elim
theorem sS : ∀ (x : List XS) (ρ : Loc) (H : AH) (Q : Fl → Loc → AH → Prop), wpS c n x ρ H Q → WS c n x ρ H Q
  | [], _, _, _, h => WS.nil_ h
  | x :: xs, _, _, _, h => WS.cons_ ((s1 x _ _ _ h).mono fun f _ _ h1 => match f, h1 with
    | .next, h1 => sS xs _ _ _ h1
    | .brk, h1 => h1
    | .cont, h1 => h1
    | .ret _, h1 => h1)
end

/-- a call that leaves what was known as it was: forget what it made -/
theorem CW.forget {i : Nat} {vs : List AV} {H : AH} {Q : AV → AH → Prop} (h : CW c n i vs H fun v H' => ∃ K : AH, (∀ a o, K a = some o → H' a = some o) ∧ (∀ a, Fz (H a) = true → H a ≠ none → K a = H a) ∧ (∀ a, H a = none → H' a = none → K a = none) ∧ (∀ a, H a = none → K a = none ∨ K a = H' a) ∧ Q v K) : CW c n i vs H Q := by
  intro f a A s cvs E h1 h2 rm R V
  refine mono' (h f a A s cvs E h1 h2 rm R V) ?_
  rintro v s' ⟨av, H', R', X', V', K, k1, k2, k3, _, hq⟩
  refine ⟨av, K, ⟨R'.same, R'.keep, fun b o e => R'.objs b o (k1 b o e)⟩, fun b o e f => ?_, V', hq⟩
  obtain ⟨e1, e2⟩ := X' b o e f
  refine ⟨e1, ?_⟩
  cases hb : H b with
  | none => rw [hb] at e2; exact k3 b hb e2
  | some ob => rw [← hb]; exact k2 b f (by rw [hb]; simp)
/-- in plain: the heap as it was -/
theorem CW.pure {i : Nat} {vs : List AV} {H : AH} {Q : AV → AH → Prop} (h : CW c n i vs H fun v H' => (∀ a o, H a = some o → H' a = some o) ∧ Q v H) : CW c n i vs H Q :=
  CW.forget (h.mono fun _ _ ⟨h1, h2⟩ => ⟨H, h1, fun _ _ _ => rfl, fun _ e _ => e, fun _ e => .inl e, h2⟩)

theorem CW.run {i : Nat} {f : Str} {ir : FnIR} {vs : List AV} {H : AH} {Q : AV → AH → Prop} (hf : c.fns[i]? = some (f, ir)) (hl : vs.length = ir.np)
    (h : wpS c n ir.body (vs.map some ++ List.replicate (ir.ns - ir.np) none) H fun fl _ H' => ∃ v, retv fl v ∧ Q v H') : CW c (n + 1) i vs H Q := CW.body hf hl (sS _ _ _ _ h)
end
end Mine

set_option maxRecDepth 10000
set_option autoImplicit false
set_option genSizeOf false
set_option genSizeOfSpec false
set_option genInjectivity false
namespace Mine
open PySem

inductive EV (e : Expr) : Type where
  | const (x0 : Const) (x1 : Nat) (x2 : Pos) (h : e = .Constant x0 x1 x2)
  | name (x0 : Str) (x1 : Pos) (h : e = .Name x0 x1)
  | bin (x0 : Expr) (x1 : Operator) (x2 : Expr) (x3 : Pos) (h : e = .BinOp x0 x1 x2 x3)
  | un (x0 : UnaryOp) (x1 : Expr) (x2 : Pos) (h : e = .UnaryOp x0 x1 x2)
  | boolop (x0 : BoolOp) (x1 : List Expr) (x2 : Pos) (h : e = .BoolOp x0 x1 x2)
  | ifE (x0 : Expr) (x1 : Expr) (x2 : Expr) (x3 : Pos) (h : e = .IfExp x0 x1 x2 x3)
  | cmp (x0 : Expr) (x1 : List CmpOp) (x2 : List Expr) (x3 : Pos) (h : e = .Compare x0 x1 x2 x3)
  | call (x0 : Expr) (x1 : List Expr) (x2 : List Keyword) (x3 : Pos) (h : e = .Call x0 x1 x2 x3)
  | attr (x0 : Expr) (x1 : Str) (x2 : Pos) (h : e = .Attribute x0 x1 x2)
  | sub (x0 : Expr) (x1 : Expr) (x2 : Pos) (h : e = .Subscript x0 x1 x2)
  | slice (x0 : Option Expr) (x1 : Option Expr) (x2 : Option Expr) (x3 : Pos) (h : e = .Slice x0 x1 x2 x3)
  | list (x0 : List Expr) (x1 : Pos) (h : e = .List x0 x1)
  | tuple (x0 : List Expr) (x1 : Nat) (x2 : Pos) (h : e = .Tuple x0 x1 x2)
  | dict (x0 : List (Option Expr)) (x1 : List Expr) (x2 : Pos) (h : e = .Dict x0 x1 x2)
  | comp (x0 : Expr) (x1 : List Comprehension) (x2 : Scope) (x3 : Pos) (h : e = .ListComp x0 x1 x2 x3)
  | other
noncomputable def ev : (e : Expr) → EV e
  | .Constant x0 x1 x2 => .const x0 x1 x2 rfl
  | .Name x0 x1 => .name x0 x1 rfl
  | .BinOp x0 x1 x2 x3 => .bin x0 x1 x2 x3 rfl
  | .UnaryOp x0 x1 x2 => .un x0 x1 x2 rfl
  | .BoolOp x0 x1 x2 => .boolop x0 x1 x2 rfl
  | .IfExp x0 x1 x2 x3 => .ifE x0 x1 x2 x3 rfl
  | .Compare x0 x1 x2 x3 => .cmp x0 x1 x2 x3 rfl
  | .Call x0 x1 x2 x3 => .call x0 x1 x2 x3 rfl
  | .Attribute x0 x1 x2 => .attr x0 x1 x2 rfl
  | .Subscript x0 x1 x2 => .sub x0 x1 x2 rfl
  | .Slice x0 x1 x2 x3 => .slice x0 x1 x2 x3 rfl
  | .List x0 x1 => .list x0 x1 rfl
  | .Tuple x0 x1 x2 => .tuple x0 x1 x2 rfl
  | .Dict x0 x1 x2 => .dict x0 x1 x2 rfl
  | .ListComp x0 x1 x2 x3 => .comp x0 x1 x2 x3 rfl
  | _ => .other
noncomputable def onConst (e : Expr) (k : Const → Nat → Pos → Bool) : Bool := match ev e with
  | .const x0 x1 x2 _ => k x0 x1 x2
  | _ => false
theorem onConst_ok {e : Expr} {k : Const → Nat → Pos → Bool} (h : onConst e k = true) : ∃ x0 x1 x2, e = .Constant x0 x1 x2 ∧ k x0 x1 x2 = true := by
  unfold onConst at h
  revert h
  cases ev e with
  | const x0 x1 x2 q => exact fun h => ⟨x0, x1, x2, q, h⟩
  | _ => exact fun h => absurd h Bool.false_ne_true
noncomputable def onName (e : Expr) (k : Str → Pos → Bool) : Bool := match ev e with
  | .name x0 x1 _ => k x0 x1
  | _ => false
theorem onName_ok {e : Expr} {k : Str → Pos → Bool} (h : onName e k = true) : ∃ x0 x1, e = .Name x0 x1 ∧ k x0 x1 = true := by
  unfold onName at h
  revert h
  cases ev e with
  | name x0 x1 q => exact fun h => ⟨x0, x1, q, h⟩
  | _ => exact fun h => absurd h Bool.false_ne_true
noncomputable def onBin (e : Expr) (k : Expr → Operator → Expr → Pos → Bool) : Bool := match ev e with
  | .bin x0 x1 x2 x3 _ => k x0 x1 x2 x3
  | _ => false
theorem onBin_ok {e : Expr} {k : Expr → Operator → Expr → Pos → Bool} (h : onBin e k = true) : ∃ x0 x1 x2 x3, e = .BinOp x0 x1 x2 x3 ∧ k x0 x1 x2 x3 = true := by
  unfold onBin at h
  revert h
  cases ev e with
  | bin x0 x1 x2 x3 q => exact fun h => ⟨x0, x1, x2, x3, q, h⟩
  | _ => exact fun h => absurd h Bool.false_ne_true
noncomputable def onUn (e : Expr) (k : UnaryOp → Expr → Pos → Bool) : Bool := match ev e with
  | .un x0 x1 x2 _ => k x0 x1 x2
  | _ => false
theorem onUn_ok {e : Expr} {k : UnaryOp → Expr → Pos → Bool} (h : onUn e k = true) : ∃ x0 x1 x2, e = .UnaryOp x0 x1 x2 ∧ k x0 x1 x2 = true := by
  unfold onUn at h
  revert h
  cases ev e with
  | un x0 x1 x2 q => exact fun h => ⟨x0, x1, x2, q, h⟩
  | _ => exact fun h => absurd h Bool.false_ne_true
noncomputable def onBoolop (e : Expr) (k : BoolOp → (List Expr) → Pos → Bool) : Bool := match ev e with
  | .boolop x0 x1 x2 _ => k x0 x1 x2
  | _ => false
theorem onBoolop_ok {e : Expr} {k : BoolOp → (List Expr) → Pos → Bool} (h : onBoolop e k = true) : ∃ x0 x1 x2, e = .BoolOp x0 x1 x2 ∧ k x0 x1 x2 = true := by
  unfold onBoolop at h
  revert h
  cases ev e with
  | boolop x0 x1 x2 q => exact fun h => ⟨x0, x1, x2, q, h⟩
  | _ => exact fun h => absurd h Bool.false_ne_true
noncomputable def onIfE (e : Expr) (k : Expr → Expr → Expr → Pos → Bool) : Bool := match ev e with
  | .ifE x0 x1 x2 x3 _ => k x0 x1 x2 x3
  | _ => false
theorem onIfE_ok {e : Expr} {k : Expr → Expr → Expr → Pos → Bool} (h : onIfE e k = true) : ∃ x0 x1 x2 x3, e = .IfExp x0 x1 x2 x3 ∧ k x0 x1 x2 x3 = true := by
  unfold onIfE at h
  revert h
  cases ev e with
  | ifE x0 x1 x2 x3 q => exact fun h => ⟨x0, x1, x2, x3, q, h⟩
  | _ => exact fun h => absurd h Bool.false_ne_true
noncomputable def onCmp (e : Expr) (k : Expr → (List CmpOp) → (List Expr) → Pos → Bool) : Bool := match ev e with
  | .cmp x0 x1 x2 x3 _ => k x0 x1 x2 x3
  | _ => false
theorem onCmp_ok {e : Expr} {k : Expr → (List CmpOp) → (List Expr) → Pos → Bool} (h : onCmp e k = true) : ∃ x0 x1 x2 x3, e = .Compare x0 x1 x2 x3 ∧ k x0 x1 x2 x3 = true := by
  unfold onCmp at h
  revert h
  cases ev e with
  | cmp x0 x1 x2 x3 q => exact fun h => ⟨x0, x1, x2, x3, q, h⟩
  | _ => exact fun h => absurd h Bool.false_ne_true
noncomputable def onCall (e : Expr) (k : Expr → (List Expr) → (List Keyword) → Pos → Bool) : Bool := match ev e with
  | .call x0 x1 x2 x3 _ => k x0 x1 x2 x3
  | _ => false
theorem onCall_ok {e : Expr} {k : Expr → (List Expr) → (List Keyword) → Pos → Bool} (h : onCall e k = true) : ∃ x0 x1 x2 x3, e = .Call x0 x1 x2 x3 ∧ k x0 x1 x2 x3 = true := by
  unfold onCall at h
  revert h
  cases ev e with
  | call x0 x1 x2 x3 q => exact fun h => ⟨x0, x1, x2, x3, q, h⟩
  | _ => exact fun h => absurd h Bool.false_ne_true
noncomputable def onAttr (e : Expr) (k : Expr → Str → Pos → Bool) : Bool := match ev e with
  | .attr x0 x1 x2 _ => k x0 x1 x2
  | _ => false
theorem onAttr_ok {e : Expr} {k : Expr → Str → Pos → Bool} (h : onAttr e k = true) : ∃ x0 x1 x2, e = .Attribute x0 x1 x2 ∧ k x0 x1 x2 = true := by
  unfold onAttr at h
  revert h
  cases ev e with
  | attr x0 x1 x2 q => exact fun h => ⟨x0, x1, x2, q, h⟩
  | _ => exact fun h => absurd h Bool.false_ne_true
noncomputable def onSub (e : Expr) (k : Expr → Expr → Pos → Bool) : Bool := match ev e with
  | .sub x0 x1 x2 _ => k x0 x1 x2
  | _ => false
theorem onSub_ok {e : Expr} {k : Expr → Expr → Pos → Bool} (h : onSub e k = true) : ∃ x0 x1 x2, e = .Subscript x0 x1 x2 ∧ k x0 x1 x2 = true := by
  unfold onSub at h
  revert h
  cases ev e with
  | sub x0 x1 x2 q => exact fun h => ⟨x0, x1, x2, q, h⟩
  | _ => exact fun h => absurd h Bool.false_ne_true
noncomputable def onSlice (e : Expr) (k : (Option Expr) → (Option Expr) → (Option Expr) → Pos → Bool) : Bool := match ev e with
  | .slice x0 x1 x2 x3 _ => k x0 x1 x2 x3
  | _ => false
theorem onSlice_ok {e : Expr} {k : (Option Expr) → (Option Expr) → (Option Expr) → Pos → Bool} (h : onSlice e k = true) : ∃ x0 x1 x2 x3, e = .Slice x0 x1 x2 x3 ∧ k x0 x1 x2 x3 = true := by
  unfold onSlice at h
  revert h
  cases ev e with
  | slice x0 x1 x2 x3 q => exact fun h => ⟨x0, x1, x2, x3, q, h⟩
  | _ => exact fun h => absurd h Bool.false_ne_true
noncomputable def onList (e : Expr) (k : (List Expr) → Pos → Bool) : Bool := match ev e with
  | .list x0 x1 _ => k x0 x1
  | _ => false
theorem onList_ok {e : Expr} {k : (List Expr) → Pos → Bool} (h : onList e k = true) : ∃ x0 x1, e = .List x0 x1 ∧ k x0 x1 = true := by
  unfold onList at h
  revert h
  cases ev e with
  | list x0 x1 q => exact fun h => ⟨x0, x1, q, h⟩
  | _ => exact fun h => absurd h Bool.false_ne_true
noncomputable def onTuple (e : Expr) (k : (List Expr) → Nat → Pos → Bool) : Bool := match ev e with
  | .tuple x0 x1 x2 _ => k x0 x1 x2
  | _ => false
theorem onTuple_ok {e : Expr} {k : (List Expr) → Nat → Pos → Bool} (h : onTuple e k = true) : ∃ x0 x1 x2, e = .Tuple x0 x1 x2 ∧ k x0 x1 x2 = true := by
  unfold onTuple at h
  revert h
  cases ev e with
  | tuple x0 x1 x2 q => exact fun h => ⟨x0, x1, x2, q, h⟩
  | _ => exact fun h => absurd h Bool.false_ne_true
noncomputable def onDict (e : Expr) (k : (List (Option Expr)) → (List Expr) → Pos → Bool) : Bool := match ev e with
  | .dict x0 x1 x2 _ => k x0 x1 x2
  | _ => false
theorem onDict_ok {e : Expr} {k : (List (Option Expr)) → (List Expr) → Pos → Bool} (h : onDict e k = true) : ∃ x0 x1 x2, e = .Dict x0 x1 x2 ∧ k x0 x1 x2 = true := by
  unfold onDict at h
  revert h
  cases ev e with
  | dict x0 x1 x2 q => exact fun h => ⟨x0, x1, x2, q, h⟩
  | _ => exact fun h => absurd h Bool.false_ne_true
noncomputable def onComp (e : Expr) (k : Expr → (List Comprehension) → Scope → Pos → Bool) : Bool := match ev e with
  | .comp x0 x1 x2 x3 _ => k x0 x1 x2 x3
  | _ => false
theorem onComp_ok {e : Expr} {k : Expr → (List Comprehension) → Scope → Pos → Bool} (h : onComp e k = true) : ∃ x0 x1 x2 x3, e = .ListComp x0 x1 x2 x3 ∧ k x0 x1 x2 x3 = true := by
  unfold onComp at h
  revert h
  cases ev e with
  | comp x0 x1 x2 x3 q => exact fun h => ⟨x0, x1, x2, x3, q, h⟩
  | _ => exact fun h => absurd h Bool.false_ne_true
inductive SV (e : Stmt) : Type where
  | expr (x0 : Expr) (x1 : Pos) (h : e = .Expr x0 x1)
  | ret (x0 : Option Expr) (x1 : Pos) (h : e = .Return x0 x1)
  | asg (x0 : List Expr) (x1 : Expr) (x2 : Pos) (h : e = .Assign x0 x1 x2)
  | ifS (x0 : Expr) (x1 : List Stmt) (x2 : List Stmt) (x3 : Pos) (h : e = .If x0 x1 x2 x3)
  | forS (x0 : Expr) (x1 : Expr) (x2 : List Stmt) (x3 : List Stmt) (x4 : Pos) (h : e = .For x0 x1 x2 x3 x4)
  | whileS (x0 : Expr) (x1 : List Stmt) (x2 : List Stmt) (x3 : Pos) (h : e = .While x0 x1 x2 x3)
  | other
noncomputable def sv : (e : Stmt) → SV e
  | .Expr x0 x1 => .expr x0 x1 rfl
  | .Return x0 x1 => .ret x0 x1 rfl
  | .Assign x0 x1 x2 => .asg x0 x1 x2 rfl
  | .If x0 x1 x2 x3 => .ifS x0 x1 x2 x3 rfl
  | .For x0 x1 x2 x3 x4 => .forS x0 x1 x2 x3 x4 rfl
  | .While x0 x1 x2 x3 => .whileS x0 x1 x2 x3 rfl
  | _ => .other
noncomputable def onSExpr (e : Stmt) (k : Expr → Pos → Bool) : Bool := match sv e with
  | .expr x0 x1 _ => k x0 x1
  | _ => false
theorem onSExpr_ok {e : Stmt} {k : Expr → Pos → Bool} (h : onSExpr e k = true) : ∃ x0 x1, e = .Expr x0 x1 ∧ k x0 x1 = true := by
  unfold onSExpr at h
  revert h
  cases sv e with
  | expr x0 x1 q => exact fun h => ⟨x0, x1, q, h⟩
  | _ => exact fun h => absurd h Bool.false_ne_true
noncomputable def onSRet (e : Stmt) (k : (Option Expr) → Pos → Bool) : Bool := match sv e with
  | .ret x0 x1 _ => k x0 x1
  | _ => false
theorem onSRet_ok {e : Stmt} {k : (Option Expr) → Pos → Bool} (h : onSRet e k = true) : ∃ x0 x1, e = .Return x0 x1 ∧ k x0 x1 = true := by
  unfold onSRet at h
  revert h
  cases sv e with
  | ret x0 x1 q => exact fun h => ⟨x0, x1, q, h⟩
  | _ => exact fun h => absurd h Bool.false_ne_true
noncomputable def onSAsg (e : Stmt) (k : (List Expr) → Expr → Pos → Bool) : Bool := match sv e with
  | .asg x0 x1 x2 _ => k x0 x1 x2
  | _ => false
theorem onSAsg_ok {e : Stmt} {k : (List Expr) → Expr → Pos → Bool} (h : onSAsg e k = true) : ∃ x0 x1 x2, e = .Assign x0 x1 x2 ∧ k x0 x1 x2 = true := by
  unfold onSAsg at h
  revert h
  cases sv e with
  | asg x0 x1 x2 q => exact fun h => ⟨x0, x1, x2, q, h⟩
  | _ => exact fun h => absurd h Bool.false_ne_true
noncomputable def onSIfS (e : Stmt) (k : Expr → (List Stmt) → (List Stmt) → Pos → Bool) : Bool := match sv e with
  | .ifS x0 x1 x2 x3 _ => k x0 x1 x2 x3
  | _ => false
theorem onSIfS_ok {e : Stmt} {k : Expr → (List Stmt) → (List Stmt) → Pos → Bool} (h : onSIfS e k = true) : ∃ x0 x1 x2 x3, e = .If x0 x1 x2 x3 ∧ k x0 x1 x2 x3 = true := by
  unfold onSIfS at h
  revert h
  cases sv e with
  | ifS x0 x1 x2 x3 q => exact fun h => ⟨x0, x1, x2, x3, q, h⟩
  | _ => exact fun h => absurd h Bool.false_ne_true
noncomputable def onSForS (e : Stmt) (k : Expr → Expr → (List Stmt) → (List Stmt) → Pos → Bool) : Bool := match sv e with
  | .forS x0 x1 x2 x3 x4 _ => k x0 x1 x2 x3 x4
  | _ => false
theorem onSForS_ok {e : Stmt} {k : Expr → Expr → (List Stmt) → (List Stmt) → Pos → Bool} (h : onSForS e k = true) : ∃ x0 x1 x2 x3 x4, e = .For x0 x1 x2 x3 x4 ∧ k x0 x1 x2 x3 x4 = true := by
  unfold onSForS at h
  revert h
  cases sv e with
  | forS x0 x1 x2 x3 x4 q => exact fun h => ⟨x0, x1, x2, x3, x4, q, h⟩
  | _ => exact fun h => absurd h Bool.false_ne_true
noncomputable def onSWhileS (e : Stmt) (k : Expr → (List Stmt) → (List Stmt) → Pos → Bool) : Bool := match sv e with
  | .whileS x0 x1 x2 x3 _ => k x0 x1 x2 x3
  | _ => false
theorem onSWhileS_ok {e : Stmt} {k : Expr → (List Stmt) → (List Stmt) → Pos → Bool} (h : onSWhileS e k = true) : ∃ x0 x1 x2 x3, e = .While x0 x1 x2 x3 ∧ k x0 x1 x2 x3 = true := by
  unfold onSWhileS at h
  revert h
  cases sv e with
  | whileS x0 x1 x2 x3 q => exact fun h => ⟨x0, x1, x2, x3, q, h⟩
  | _ => exact fun h => absurd h Bool.false_ne_true
noncomputable def on1 {α : Type} (l : List α) (k : α → Bool) : Bool := match l with | [a] => k a | _ => false
theorem on1_ok {α : Type} {l : List α} {k : α → Bool} (h : on1 l k = true) : ∃ a, l = [a] ∧ k a = true := by
  cases l with
  | nil => cases h
  | cons a r => cases r with
    | nil => exact ⟨a, rfl, h⟩
    | cons => cases h
noncomputable def on2 {α : Type} (l : List α) (k : α → α → Bool) : Bool := match l with | [a, b] => k a b | _ => false
theorem on2_ok {α : Type} {l : List α} {k : α → α → Bool} (h : on2 l k = true) : ∃ a b, l = [a, b] ∧ k a b = true := by
  cases l with
  | nil => cases h
  | cons a r => cases r with
    | nil => cases h
    | cons b r => cases r with
      | nil => exact ⟨a, b, rfl, h⟩
      | cons => cases h
noncomputable def onC {α : Type} (l : List α) (k : α → List α → Bool) : Bool := match l with | a :: r => k a r | [] => false
theorem onC_ok {α : Type} {l : List α} {k : α → List α → Bool} (h : onC l k = true) : ∃ a r, l = a :: r ∧ k a r = true := by
  cases l with
  | nil => cases h
  | cons a r => exact ⟨a, r, rfl, h⟩
noncomputable def onJ {α : Type} (l : Option α) (k : α → Bool) : Bool := match l with | some a => k a | none => false
theorem onJ_ok {α : Type} {l : Option α} {k : α → Bool} (h : onJ l k = true) : ∃ a, l = some a ∧ k a = true := by
  cases l with
  | none => cases h
  | some a => exact ⟨a, rfl, h⟩
theorem and_ {a b : Bool} (h : (a && b) = true) : a = true ∧ b = true := Bool.and_eq_true_iff.mp h
theorem dec_ {p : Prop} {i : Decidable p} (h : @decide p i = true) : p := of_decide_eq_true h
theorem notB {b : Bool} (h : (!b) = true) : b = false := by
  cases b with
  | false => rfl
  | true => cases h
noncomputable def isVarB (k : Option NameKind) : Bool := k == some .local || k == some .cell
theorem isVarB_ok {k : Option NameKind} (h : isVarB k = true) : isVar k := by
  simp only [isVarB, Bool.or_eq_true, beq_iff_eq] at h; exact h
noncomputable def notDeb (x : Str) : Bool := !(x == ("__debug__" : Str))
theorem notDeb_ok {x : Str} (h : notDeb x = true) : (x == ("__debug__" : Str)) = false := notB h
noncomputable def compOkB (ce : CE) (scope : Scope) (x : Str) : Bool :=
  decide (scope.kind = .function) && (scope.names.all fun y => decide (y.2 ≠ .cell)) && (scope.names.all fun y => decide (y.2 ≠ .local) || decide (scope.names.lookup y.1 = some .local)) &&
  decide (scope.names.lookup x = some .local) && (scope.names.all fun y => decide (y.2 ≠ .free) || decide (ce.kind y.1 = some .cell)) && decide (scope.names.lookup Str.empty = none) &&
  ((mask ce.nm x).all fun y => decide (scope.names.lookup y ≠ some .local)) && decide ((mask ce.nm x ++ [x]).Nodup) && notDeb x
theorem compOkB_ok {ce : CE} {scope : Scope} {x : Str} (h : compOkB ce scope x = true) : CompOk ce scope x := by
  simp only [compOkB, Bool.and_eq_true, decide_eq_true_eq, List.all_eq_true, Bool.or_eq_true] at h
  obtain ⟨⟨⟨⟨⟨⟨⟨⟨h1, h2⟩, h3⟩, h4⟩, h5⟩, h6⟩, h7⟩, h8⟩, h9⟩ := h
  exact ⟨h1, h2, fun y hy e => (h3 y hy).resolve_left fun q => q e, h4, fun y hy e => (h5 y hy).resolve_left fun q => q e, h6, h7, h8, notDeb_ok h9⟩

mutual
noncomputable def ckX : X → CE → Expr → Bool
  | .none, _, e => onConst e fun c _ _ => decide (c = .none)
  | .bool b, _, e => onConst e fun c _ _ => decide (c = .bool b)
  | .int i, _, e => onConst e fun c _ _ => decide (c = .int i)
  | .str s, _, e => onConst e fun c _ _ => decide (c = .str s)
  | .var i, ce, e => onName e fun x _ => decide (ce.nm[i]? = some x) && isVarB (ce.kind x) && notDeb x
  | .con k, ce, e => onName e fun x _ => decide (ce.cons[k]? = some x) && decide (ce.kind x = some .globalImplicit) && notDeb x
  | .bin op l r, ce, e => onBin e fun l' o r' _ => decide (o = op) && ckX l ce l' && ckX r ce r'
  | .neg x, ce, e => onUn e fun o x' _ => decide (o = .USub) && ckX x ce x'
  | .not x, ce, e => onUn e fun o x' _ => decide (o = .Not) && ckX x ce x'
  | .ands l, ce, e => onBoolop e fun o es _ => decide (o = .And) && ckXs l ce es
  | .ors l, ce, e => onBoolop e fun o es _ => decide (o = .Or) && ckXs l ce es
  | .cmp op l r, ce, e => onCmp e fun l' os rs _ => on1 rs fun r' => decide (os = [op]) && ckX l ce l' && ckX r ce r' && !behindInMarks op r'
  | .call i args, ce, e => onCall e fun fe es ks _ => onName fe fun f _ => ks.isEmpty && decide (ce.fns[i]? = some f) && decide (ce.kind f = some .globalImplicit) && notDeb f && ckXs args ce es
  | .bi b args, ce, e => onCall e fun fe es ks _ => onName fe fun f _ => ks.isEmpty && decide (f = b.name) && decide (ce.kind b.name = some .globalImplicit) && ckXs args ce es
  | .maxd x d, ce, e => onCall e fun fe es ks _ => onName fe fun f _ => on1 es fun x' => on1 ks fun k => decide (f = BI.max.name) && decide (k.arg = some ("default" : Str)) && decide (ce.kind BI.max.name = some .globalImplicit) && ckX x ce x' && ckX d ce k.value && plainExpr x'
  | .isi x t, ce, e => onCall e fun fe es ks _ => on2 es fun x' te => onName fe fun f _ => onName te fun tn _ => ks.isEmpty && decide (f = ("isinstance" : Str)) && decide (tn = t.name) && decide (ce.kind ("isinstance" : Str) = some .globalImplicit) && decide (ce.kind t.name = some .globalImplicit) && ckX x ce x' && plainExpr x'
  | .isi2 x t u, ce, e => onCall e fun fe es ks _ => on2 es fun x' te => onName fe fun f _ => onTuple te fun ts _ _ => on2 ts fun t1 t2 => onName t1 fun n1 _ => onName t2 fun n2 _ => ks.isEmpty && decide (f = ("isinstance" : Str)) && decide (n1 = t.name) && decide (n2 = u.name) && decide (ce.kind ("isinstance" : Str) = some .globalImplicit) && decide (ce.kind t.name = some .globalImplicit) && decide (ce.kind u.name = some .globalImplicit) && ckX x ce x' && plainExpr x'
  | .me m o args, ce, e => onCall e fun fe es ks p => onAttr fe fun o' nm ap => ks.isEmpty && decide (nm = m.name) && notCall0 o' && (ap.endLine == p.line) && decide (es.length ≤ 5) && ckX o ce o' && ckXs args ce es
  | .sub v i, ce, e => onSub e fun v' i' _ => notSlice i' && ckX v ce v' && ckX i ce i'
  | .slc v lo hi, ce, e => onSub e fun v' i' _ => onSlice i' fun lo' hi' st _ => st.isNone && ckX v ce v' && ckO lo ce lo' && ckO hi ce hi'
  | .list es, ce, e => onList e fun es' _ => ckXs es ce es'
  | .tup es, ce, e => onTuple e fun es' _ _ => ckXs es ce es'
  | .dict0, _, e => onDict e fun ks vs _ => ks.isEmpty && vs.isEmpty
  | .comp elt it cond, ce, e => onComp e fun elt' gs scope _ => on1 gs fun g => onName g.target fun x _ => decide (g.ifs.length ≤ 1) && decide (g.is_async = 0) && notSet g.iter && compOkB ce scope x && ckX it ce g.iter && ckX elt (ce.inner scope x) elt' && ckO cond (ce.inner scope x) g.ifs.head?
noncomputable def ckXs : List X → CE → List Expr → Bool
  | [], _, es => es.isEmpty
  | x :: xs, ce, es => onC es fun e r => plainExpr e && ckX x ce e && ckXs xs ce r
noncomputable def ckO : Option X → CE → Option Expr → Bool
  | none, _, e => e.isNone
  | some x, ce, e => onJ e fun e' => ckX x ce e'
end
noncomputable def ckNames : List Nat → CE → List Expr → Bool
  | [], _, es => es.isEmpty
  | i :: is, ce, es => onC es fun e r => onName e fun x _ => decide (ce.nm[i]? = some x) && isVarB (ce.kind x) && ckNames is ce r
mutual
noncomputable def ckS : XS → CE → Stmt → Bool
  | .expr x, ce, s => onSExpr s fun e _ => notComp e && ckX x ce e
  | .ret x, ce, s => onSRet s fun eo _ => onJ eo fun e => ckX x ce e
  | .asg i v, ce, s => onSAsg s fun ts e _ => on1 ts fun te => onName te fun x _ => decide (ce.nm[i]? = some x) && isVarB (ce.kind x) && notComp e && ckX v ce e
  | .asgc i elt it cond, ce, s => onSAsg s fun ts e _ => on1 ts fun te => onName te fun x _ => decide (ce.nm[i]? = some x) && isVarB (ce.kind x) && ckX (.comp elt it cond) ce e
  | .unp is v, ce, s => onSAsg s fun ts e _ => on1 ts fun te => onTuple te fun ts' _ _ => ckNames is ce ts' && notComp e && notDisplay e && ckX v ce e
  | .sets o i v, ce, s => onSAsg s fun ts e _ => on1 ts fun te => onSub te fun o' i' _ => notComp e && ckX o ce o' && ckX i ce i' && ckX v ce e
  | .ite t b e, ce, s => onSIfS s fun t' b' e' _ => ckX t ce t' && ckSs b ce b' && ckSs e ce e'
  | .for_ i it b, ce, s => onSForS s fun te it' b' o _ => onName te fun x _ => o.isEmpty && decide (ce.nm[i]? = some x) && isVarB (ce.kind x) && notSet it' && ckX it ce it' && ckSs b ce b'
  | .forU is it b, ce, s => onSForS s fun te it' b' o _ => onTuple te fun ts _ _ => o.isEmpty && ckNames is ce ts && notSet it' && ckX it ce it' && ckSs b ce b'
  | .stop, _, _ => true
noncomputable def ckSs : List XS → CE → List Stmt → Bool
  | [], _, ss => ss.isEmpty
  | x :: xs, ce, ss => onC ss fun s r => ckS x ce s && ckSs xs ce r
end
end Mine

set_option maxRecDepth 10000
set_option autoImplicit false
set_option genSizeOf false
set_option genSizeOfSpec false
set_option genInjectivity false
namespace Mine
open PySem

theorem emp_ {α : Type} {l : List α} (h : l.isEmpty = true) : l = [] := List.isEmpty_iff.mp h
mutual
theorem kX : ∀ (x : X) (ce : CE) (e : Expr), ckX x ce e = true → Cmp x ce e
  | .none, _, e, h => by
    obtain ⟨_, _, _, rfl, h⟩ := onConst_ok h
    exact dec_ h ▸ ⟨_, _, rfl⟩
  | .bool _, _, e, h => by
    obtain ⟨_, _, _, rfl, h⟩ := onConst_ok h
    exact dec_ h ▸ ⟨_, _, rfl⟩
  | .int _, _, e, h => by
    obtain ⟨_, _, _, rfl, h⟩ := onConst_ok h
    exact dec_ h ▸ ⟨_, _, rfl⟩
  | .str _, _, e, h => by
    obtain ⟨_, _, _, rfl, h⟩ := onConst_ok h
    exact dec_ h ▸ ⟨_, _, rfl⟩
  | .var _, _, e, h => by
    obtain ⟨_, _, rfl, h⟩ := onName_ok h
    obtain ⟨h, c⟩ := and_ h; obtain ⟨h, b⟩ := and_ h; have a := h
    exact ⟨_, _, rfl, dec_ a, isVarB_ok b, notDeb_ok c⟩
  | .con _, _, e, h => by
    obtain ⟨_, _, rfl, h⟩ := onName_ok h
    obtain ⟨h, c⟩ := and_ h; obtain ⟨h, b⟩ := and_ h; have a := h
    exact ⟨_, _, rfl, dec_ a, dec_ b, notDeb_ok c⟩
  | .bin _ l r, _, e, h => by
    obtain ⟨_, _, _, _, rfl, h⟩ := onBin_ok h
    obtain ⟨h, c⟩ := and_ h; obtain ⟨h, b⟩ := and_ h; have a := h
    exact dec_ a ▸ ⟨_, _, _, rfl, kX l _ _ b, kX r _ _ c⟩
  | .neg x, _, e, h => by
    obtain ⟨_, _, _, rfl, h⟩ := onUn_ok h
    obtain ⟨h, b⟩ := and_ h; have a := h
    exact dec_ a ▸ ⟨_, _, rfl, kX x _ _ b⟩
  | .not x, _, e, h => by
    obtain ⟨_, _, _, rfl, h⟩ := onUn_ok h
    obtain ⟨h, b⟩ := and_ h; have a := h
    exact dec_ a ▸ ⟨_, _, rfl, kX x _ _ b⟩
  | .ands l, _, e, h => by
    obtain ⟨_, _, _, rfl, h⟩ := onBoolop_ok h
    obtain ⟨h, b⟩ := and_ h; have a := h
    exact dec_ a ▸ ⟨_, _, rfl, kXs l _ _ b⟩
  | .ors l, _, e, h => by
    obtain ⟨_, _, _, rfl, h⟩ := onBoolop_ok h
    obtain ⟨h, b⟩ := and_ h; have a := h
    exact dec_ a ▸ ⟨_, _, rfl, kXs l _ _ b⟩
  | .cmp _ l r, _, e, h => by
    obtain ⟨_, _, _, _, rfl, h⟩ := onCmp_ok h
    obtain ⟨_, rfl, h⟩ := on1_ok h
    obtain ⟨h, d⟩ := and_ h; obtain ⟨h, c⟩ := and_ h; obtain ⟨h, b⟩ := and_ h; have a := h
    exact dec_ a ▸ ⟨_, _, _, rfl, kX l _ _ b, kX r _ _ c, notB d⟩
  | .call _ args, _, e, h => by
    obtain ⟨_, _, _, _, rfl, h⟩ := onCall_ok h
    obtain ⟨_, _, rfl, h⟩ := onName_ok h
    obtain ⟨h, f⟩ := and_ h; obtain ⟨h, d⟩ := and_ h; obtain ⟨h, c⟩ := and_ h; obtain ⟨h, b⟩ := and_ h; have a := h
    exact emp_ a ▸ ⟨_, _, _, _, rfl, dec_ b, dec_ c, notDeb_ok d, kXs args _ _ f⟩
  | .bi _ args, _, e, h => by
    obtain ⟨_, _, _, _, rfl, h⟩ := onCall_ok h
    obtain ⟨_, _, rfl, h⟩ := onName_ok h
    obtain ⟨h, d⟩ := and_ h; obtain ⟨h, c⟩ := and_ h; obtain ⟨h, b⟩ := and_ h; have a := h
    exact emp_ a ▸ dec_ b ▸ ⟨_, _, _, rfl, dec_ c, kXs args _ _ d⟩
  | .maxd x d, _, e, h => by
    obtain ⟨_, _, _, _, rfl, h⟩ := onCall_ok h
    obtain ⟨_, _, rfl, h⟩ := onName_ok h
    obtain ⟨_, rfl, h⟩ := on1_ok h
    obtain ⟨⟨ka, kv, kp⟩, rfl, h⟩ := on1_ok h
    obtain ⟨h, g⟩ := and_ h; obtain ⟨h, f⟩ := and_ h; obtain ⟨h, k⟩ := and_ h; obtain ⟨h, c⟩ := and_ h; obtain ⟨h, b⟩ := and_ h; have a := h
    cases (dec_ b : ka = _)
    exact dec_ a ▸ ⟨_, _, _, _, _, rfl, dec_ c, kX x _ _ k, kX d _ _ f, g⟩
  | .isi x _, _, e, h => by
    obtain ⟨_, _, _, _, rfl, h⟩ := onCall_ok h
    obtain ⟨_, _, rfl, h⟩ := on2_ok h
    obtain ⟨_, _, rfl, h⟩ := onName_ok h
    obtain ⟨_, _, rfl, h⟩ := onName_ok h
    obtain ⟨h, i⟩ := and_ h; obtain ⟨h, g⟩ := and_ h; obtain ⟨h, f⟩ := and_ h; obtain ⟨h, d⟩ := and_ h; obtain ⟨h, c⟩ := and_ h; obtain ⟨h, b⟩ := and_ h; have a := h
    exact emp_ a ▸ dec_ b ▸ dec_ c ▸ ⟨_, _, _, _, rfl, dec_ d, dec_ f, kX x _ _ g, i⟩
  | .isi2 x _ _, _, e, h => by
    obtain ⟨_, _, _, _, rfl, h⟩ := onCall_ok h
    obtain ⟨_, _, rfl, h⟩ := on2_ok h
    obtain ⟨_, _, rfl, h⟩ := onName_ok h
    obtain ⟨_, _, _, rfl, h⟩ := onTuple_ok h
    obtain ⟨_, _, rfl, h⟩ := on2_ok h
    obtain ⟨_, _, rfl, h⟩ := onName_ok h
    obtain ⟨_, _, rfl, h⟩ := onName_ok h
    obtain ⟨h, k⟩ := and_ h; obtain ⟨h, j⟩ := and_ h; obtain ⟨h, i⟩ := and_ h; obtain ⟨h, g⟩ := and_ h; obtain ⟨h, f⟩ := and_ h; obtain ⟨h, d⟩ := and_ h; obtain ⟨h, c⟩ := and_ h; obtain ⟨h, b⟩ := and_ h; have a := h
    exact emp_ a ▸ dec_ b ▸ dec_ c ▸ dec_ d ▸ ⟨_, _, _, _, _, _, _, rfl, dec_ f, dec_ g, dec_ i, kX x _ _ j, k⟩
  | .me _ o args, _, e, h => by
    obtain ⟨_, _, _, _, rfl, h⟩ := onCall_ok h
    obtain ⟨_, _, _, rfl, h⟩ := onAttr_ok h
    obtain ⟨h, i⟩ := and_ h; obtain ⟨h, g⟩ := and_ h; obtain ⟨h, f⟩ := and_ h; obtain ⟨h, d⟩ := and_ h; obtain ⟨h, c⟩ := and_ h; obtain ⟨h, b⟩ := and_ h; have a := h
    exact emp_ a ▸ dec_ b ▸ ⟨_, _, _, _, rfl, c, d, dec_ f, kX o _ _ g, kXs args _ _ i⟩
  | .sub v i, _, e, h => by
    obtain ⟨_, _, _, rfl, h⟩ := onSub_ok h
    obtain ⟨h, c⟩ := and_ h; obtain ⟨h, b⟩ := and_ h; have a := h
    exact ⟨_, _, _, rfl, a, kX v _ _ b, kX i _ _ c⟩
  | .slc v lo hi, _, e, h => by
    obtain ⟨_, _, _, rfl, h⟩ := onSub_ok h
    obtain ⟨_, _, st, _, rfl, h⟩ := onSlice_ok h
    obtain ⟨h, d⟩ := and_ h; obtain ⟨h, c⟩ := and_ h; obtain ⟨h, b⟩ := and_ h; have a := h
    cases st with
    | some _ => cases a
    | none => exact ⟨_, _, _, _, _, rfl, kX v _ _ b, kO lo _ _ c, kO hi _ _ d⟩
  | .list es, _, e, h => by
    obtain ⟨_, _, rfl, h⟩ := onList_ok h
    exact ⟨_, _, rfl, kXs es _ _ h⟩
  | .tup es, _, e, h => by
    obtain ⟨_, _, _, rfl, h⟩ := onTuple_ok h
    exact ⟨_, _, _, rfl, kXs es _ _ h⟩
  | .dict0, _, e, h => by
    obtain ⟨_, _, _, rfl, h⟩ := onDict_ok h
    obtain ⟨h, b⟩ := and_ h; have a := h
    exact emp_ a ▸ emp_ b ▸ ⟨_, rfl⟩
  | .comp elt it cond, _, e, h => by
    obtain ⟨_, _, _, _, rfl, h⟩ := onComp_ok h
    obtain ⟨g, rfl, h⟩ := on1_ok h
    obtain ⟨te, itE, ifs, asy⟩ := g
    obtain ⟨_, _, q, h⟩ := onName_ok h
    cases q
    obtain ⟨h, i⟩ := and_ h; obtain ⟨h, k⟩ := and_ h; obtain ⟨h, f⟩ := and_ h; obtain ⟨h, d⟩ := and_ h; obtain ⟨h, c⟩ := and_ h; obtain ⟨h, b⟩ := and_ h; have a := h
    cases (dec_ b : asy = 0)
    obtain ⟨io, rfl⟩ : ∃ io, ifs = Option.toList io := by
      cases ifs with
      | nil => exact ⟨none, rfl⟩
      | cons x r => cases r with
        | nil => exact ⟨some x, rfl⟩
        | cons => exact absurd (dec_ a) (by simp)
    have hh : (Option.toList io).head? = io := by cases io <;> rfl
    exact ⟨_, _, _, _, io, _, _, rfl, c, compOkB_ok d, kX it _ _ f, kX elt _ _ k, kO cond _ _ (hh ▸ i)⟩
theorem kXs : ∀ (x : List X) (ce : CE) (e : List Expr), ckXs x ce e = true → Cmps x ce e
  | [], _, e, h => emp_ h
  | x :: xs, _, e, h => by
    obtain ⟨_, _, rfl, h⟩ := onC_ok h
    obtain ⟨h, c⟩ := and_ h; obtain ⟨h, b⟩ := and_ h; have a := h
    exact ⟨_, _, rfl, a, kX x _ _ b, kXs xs _ _ c⟩
theorem kO : ∀ (x : Option X) (ce : CE) (e : Option Expr), ckO x ce e = true → CmpO x ce e
  | none, _, e, h => Option.isNone_iff_eq_none.mp h
  | some x, _, e, h => by
    obtain ⟨_, rfl, h⟩ := onJ_ok h
    exact ⟨_, rfl, kX x _ _ h⟩
end
theorem kNames : ∀ (is : List Nat) (ce : CE) (e : List Expr), ckNames is ce e = true → Names is ce e
  | [], _, e, h => emp_ h
  | i :: is, _, e, h => by
    obtain ⟨_, _, rfl, h⟩ := onC_ok h
    obtain ⟨_, _, rfl, h⟩ := onName_ok h
    obtain ⟨h, c⟩ := and_ h; obtain ⟨h, b⟩ := and_ h; have a := h
    exact ⟨_, _, _, rfl, dec_ a, isVarB_ok b, kNames is _ _ c⟩
mutual
theorem kS : ∀ (x : XS) (ce : CE) (s : Stmt), ckS x ce s = true → CmpS x ce s
  | .expr x, _, s, h => by
    obtain ⟨_, _, rfl, h⟩ := onSExpr_ok h
    obtain ⟨h, b⟩ := and_ h; have a := h
    exact ⟨_, _, rfl, a, kX x _ _ b⟩
  | .ret x, _, s, h => by
    obtain ⟨_, _, rfl, h⟩ := onSRet_ok h
    obtain ⟨_, rfl, h⟩ := onJ_ok h
    exact ⟨_, _, rfl, kX x _ _ h⟩
  | .asg _ v, _, s, h => by
    obtain ⟨_, _, _, rfl, h⟩ := onSAsg_ok h
    obtain ⟨_, rfl, h⟩ := on1_ok h
    obtain ⟨_, _, rfl, h⟩ := onName_ok h
    obtain ⟨h, d⟩ := and_ h; obtain ⟨h, c⟩ := and_ h; obtain ⟨h, b⟩ := and_ h; have a := h
    exact ⟨_, _, _, _, rfl, dec_ a, isVarB_ok b, c, kX v _ _ d⟩
  | .asgc _ elt it cond, _, s, h => by
    obtain ⟨_, _, _, rfl, h⟩ := onSAsg_ok h
    obtain ⟨_, rfl, h⟩ := on1_ok h
    obtain ⟨_, _, rfl, h⟩ := onName_ok h
    obtain ⟨h, c⟩ := and_ h; obtain ⟨h, b⟩ := and_ h; have a := h
    exact ⟨_, _, _, _, rfl, dec_ a, isVarB_ok b, kX (.comp elt it cond) _ _ c⟩
  | .unp is v, _, s, h => by
    obtain ⟨_, _, _, rfl, h⟩ := onSAsg_ok h
    obtain ⟨_, rfl, h⟩ := on1_ok h
    obtain ⟨_, _, _, rfl, h⟩ := onTuple_ok h
    obtain ⟨h, d⟩ := and_ h; obtain ⟨h, c⟩ := and_ h; obtain ⟨h, b⟩ := and_ h; have a := h
    exact ⟨_, _, _, _, _, rfl, kNames is _ _ a, b, c, kX v _ _ d⟩
  | .sets o i v, _, s, h => by
    obtain ⟨_, _, _, rfl, h⟩ := onSAsg_ok h
    obtain ⟨_, rfl, h⟩ := on1_ok h
    obtain ⟨_, _, _, rfl, h⟩ := onSub_ok h
    obtain ⟨h, d⟩ := and_ h; obtain ⟨h, c⟩ := and_ h; obtain ⟨h, b⟩ := and_ h; have a := h
    exact ⟨_, _, _, _, _, rfl, a, kX o _ _ b, kX i _ _ c, kX v _ _ d⟩
  | .ite t b e, _, s, h => by
    obtain ⟨_, _, _, _, rfl, h⟩ := onSIfS_ok h
    obtain ⟨h, z⟩ := and_ h; obtain ⟨h, y⟩ := and_ h; have x := h
    exact ⟨_, _, _, _, rfl, kX t _ _ x, kSs b _ _ y, kSs e _ _ z⟩
  | .for_ _ it b, _, s, h => by
    obtain ⟨_, _, _, _, _, rfl, h⟩ := onSForS_ok h
    obtain ⟨_, _, rfl, h⟩ := onName_ok h
    obtain ⟨h, z⟩ := and_ h; obtain ⟨h, y⟩ := and_ h; obtain ⟨h, x⟩ := and_ h; obtain ⟨h, w⟩ := and_ h; obtain ⟨h, v⟩ := and_ h; have u := h
    exact emp_ u ▸ ⟨_, _, _, _, _, rfl, dec_ v, isVarB_ok w, x, kX it _ _ y, kSs b _ _ z⟩
  | .forU is it b, _, s, h => by
    obtain ⟨_, _, _, _, _, rfl, h⟩ := onSForS_ok h
    obtain ⟨_, _, _, rfl, h⟩ := onTuple_ok h
    obtain ⟨h, y⟩ := and_ h; obtain ⟨h, x⟩ := and_ h; obtain ⟨h, w⟩ := and_ h; obtain ⟨h, v⟩ := and_ h; have u := h
    exact emp_ u ▸ ⟨_, _, _, _, _, _, rfl, kNames is _ _ v, w, kX it _ _ x, kSs b _ _ y⟩
  | .stop, _, _, _ => trivial
theorem kSs : ∀ (x : List XS) (ce : CE) (s : List Stmt), ckSs x ce s = true → CmpSs x ce s
  | [], _, e, h => emp_ h
  | x :: xs, _, e, h => by
    obtain ⟨_, _, rfl, h⟩ := onC_ok h
    obtain ⟨h, b⟩ := and_ h; have a := h
    exact ⟨_, _, rfl, kS x _ _ a, kSs xs _ _ b⟩
end
end Mine

set_option maxRecDepth 10000
set_option autoImplicit false
set_option genSizeOf false
set_option genSizeOfSpec false
set_option genInjectivity false
namespace Mine
open PySem PyProof.Rows

theorem lookup_zip : ∀ (ns : List Str) (vs : List Value) (n : Str) (v : Value), ns.Nodup → (n, v) ∈ ns.zip vs → (ns.zip vs).lookup n = some v
  | [], _, _, _, _, h => by simp at h
  | _ :: _, [], _, _, _, h => by simp at h
  | a :: ns, b :: vs, n, v, hn, h => by
    obtain ⟨h1, h2⟩ := List.nodup_cons.mp hn
    rw [List.zip_cons_cons, List.lookup_cons]
    rcases List.mem_cons.mp h with e | h'
    · cases e; simp
    · have hne : (n == a) = false := by
        rw [beq_eq_false_iff_ne]
        intro q; rw [q] at h'; exact h1 (List.of_mem_zip h').1
      rw [hne]
      exact lookup_zip ns vs n v h2 h'
theorem zip_filterMap (g : Str → Option Value) : ∀ (ns : List Str) (vs : List Value), vs.length = ns.length → (∀ p ∈ ns.zip vs, g p.1 = some p.2) → ns.filterMap (fun n => (g n).map (n, ·)) = ns.zip vs
  | [], [], _, _ => rfl
  | [], _ :: _, e, _ => by simp at e
  | _ :: _, [], e, _ => by simp at e
  | n :: ns, v :: vs, e, h => by
    have h0 := h (n, v) (by simp)
    rw [List.filterMap_cons]
    simp only at h0
    rw [h0]
    simp only [Option.map_some, List.zip_cons_cons]
    rw [zip_filterMap g ns vs (by simpa using e) fun p hp => h p (by simp [hp])]
theorem bind_plain {fd : FuncData} {vals : List Value} {ns : List Str} (h1 : fd.params.posonlyargs = []) (h2 : fd.params.vararg = none) (h3 : fd.params.kwonlyargs = []) (h4 : fd.params.kwarg = none) (h5 : fd.params.args.map (·.arg) = ns) (h6 : fd.defaults = .none)
    (hn : ns.Nodup) (hl : vals.length = ns.length) : bindArgs fd ⟨vals, []⟩ = pure (ns.zip vals) := by
  have hs : seqItems? Value.none = pure none := rfl
  have hm : (ns.take ns.length).filter (fun n => ((ns.zip vals).lookup n).isNone) = [] := by
    rw [List.filter_eq_nil_iff]
    intro n hn'
    have hn' := List.mem_of_mem_take hn'
    obtain ⟨i, hi, e⟩ := List.getElem_of_mem hn'
    have : (n, vals[i]'(by omega)) ∈ ns.zip vals := by
      rw [← e]
      exact List.mem_of_getElem? (i := i) (by rw [List.getElem?_zip_eq_some]; exact ⟨List.getElem?_eq_getElem hi, List.getElem?_eq_getElem (by omega)⟩)
    rw [lookup_zip ns vals n _ hn this]; simp
  have hz : ns.filterMap (fun n => ((ns.zip vals).lookup n).map (n, ·)) = ns.zip vals := zip_filterMap _ ns vals hl fun p hp => lookup_zip ns vals p.1 p.2 hn hp
  unfold bindArgs
  simp only [h1, h2, h3, h4, h5, h6, hs, List.map_nil, List.nil_append, List.append_nil, List.forIn_nil, pure_bind, Option.getD_none, List.length_nil, Nat.sub_zero, hl, gt_iff_lt, Nat.lt_irrefl, decide_false, Bool.false_and, Bool.false_eq_true, if_false, hm,
    List.isEmpty_nil, Bool.not_true, List.drop_nil, List.zip_nil_right, List.length_nil, List.drop_length, hz, Option.isNone_none]

structure Ent where
  name : Str
  ir : FnIR
  nm : List Str

noncomputable def fnOk (recs : List DefRec) (fns cons : List Str) (t : Ent) : Bool :=
  match recs.find? (fun d => d.name == t.name) with
  | none => false
  | some d =>
    !d.scope.isCoroutine && !d.scope.isGenerator && decide (d.scope.kind = .function) && decide t.nm.Nodup && decide (t.ir.np ≤ t.ir.ns) && decide (t.nm.length = t.ir.ns) &&
    (t.nm.all fun x => isVarB (d.scope.names.lookup x)) && (d.scope.names.all fun y => decide (y.2 ≠ .free)) && decide ((d.scope.names.map (·.1)).Nodup) &&
    d.params.posonlyargs.isEmpty && d.params.vararg.isNone && d.params.kwonlyargs.isEmpty && d.params.kwarg.isNone && decide (d.params.args.map (·.arg) = t.nm.take t.ir.np) &&
    ckSs t.ir.body ⟨d.scope.names, t.nm, fns, cons⟩ d.body

noncomputable def globOk (recs : List DefRec) (lits : List Str) (clss : List Str) (loose : List Str) (x : Str) : Bool :=
  !startupNames.contains x && !loose.contains x && !(recs.map (·.name)).contains x && !lits.contains x && !clss.contains x

/-- the context of a law, from what stands behind its head -/
theorem mkCx {p : Program} {loose : List Str} {mean : ExcName → Option Value} {mg mb : Str → Option Value} {s0 : Shared} {prog : Program} {w : World} (T : Top p loose mean mg mb s0.heap) (tab : List Ent) (cons : List (Str × AV))
    (hfn : tab.all (fnOk (recsOf p) (tab.map (·.name)) (cons.map (·.1))) = true) (him : importsNone p = true)
    (hcon : ∀ (k : Nat) (x : Str) (v : AV), cons[k]? = some (x, v) → ∃ cv, mg x = some cv ∧ VR s0.heap v cv)
    (hbi : ∀ b : BI, globOk (recsOf p) ((litsOf p).map (·.1)) ((clssOf p loose).map (·.name)) loose b.name = true)
    (hty : ∀ t : Ty, globOk (recsOf p) ((litsOf p).map (·.1)) ((clssOf p loose).map (·.name)) loose t.name = true)
    (hisi : globOk (recsOf p) ((litsOf p).map (·.1)) ((clssOf p loose).map (·.name)) loose ("isinstance" : Str) = true) :
    ∃ c : Cx, c.prog = prog ∧ c.w = w ∧ c.s0 = s0 ∧ c.mg = mg ∧ c.fns = tab.map (fun t => (t.name, t.ir)) ∧ c.cons = cons := by
  have free : ∀ x, globOk (recsOf p) ((litsOf p).map (·.1)) ((clssOf p loose).map (·.name)) loose x = true → mg x = none := fun x h => by
    simp only [globOk, Bool.and_eq_true, Bool.not_eq_true', List.contains_eq_mem, decide_eq_false_iff_not] at h
    exact T.free x h.1.1.1.1 h.1.1.1.2 h.1.1.2 h.1.2 h.2
  refine ⟨⟨prog, w, s0, mg, mb, tab.map (fun t => (t.name, t.ir)), cons, T.g, T.b, T.builtins, T.nolimit, T.nodigits, T.seer him, fun b => free _ (hbi b), fun t => free _ (hty t), free _ hisi, hcon, fun i f ir h => ?_⟩, rfl, rfl, rfl, rfl, rfl, rfl⟩
  rw [List.getElem?_map] at h
  obtain ⟨t, ht, e⟩ := Option.map_eq_some_iff.mp h
  cases e
  have hk := List.all_eq_true.mp hfn t (List.mem_of_getElem? ht)
  unfold fnOk at hk
  split at hk
  · cases hk
  · rename_i d hd
    simp only [Bool.and_eq_true, Bool.not_eq_true', decide_eq_true_eq, List.all_eq_true, List.isEmpty_iff, Option.isNone_iff_eq_none] at hk
    obtain ⟨⟨⟨⟨⟨⟨⟨⟨⟨⟨⟨⟨⟨⟨k1, k2⟩, k3⟩, k4⟩, k5⟩, k6⟩, k7⟩, k8⟩, k9⟩, k10⟩, k11⟩, k12⟩, k13⟩, k14⟩, k15⟩ := hk
    obtain ⟨a, o, pm, code, doc, h1, h2, h3, h4⟩ := T.fn d (List.mem_of_find?_eq_some hd)
    have hname : d.name = t.name := by simpa using List.find?_some hd
    refine ⟨a, o, _, d.body, ⟨d.scope.names, t.nm, tab.map (·.name), cons.map (·.1)⟩, hname ▸ h1, h2, h3, rfl, rfl, rfl, h4, rfl, k1, k2, k3, rfl, ?_, rfl, k4, k5, k6, fun x hx => isVarB_ok (k7 x hx), fun y hy => k8 y hy, k9, fun vals hv => ?_, kSs _ _ _ k15⟩
    · rw [List.map_map]; rfl
    · exact bind_plain k10 k11 k12 k13 k14 rfl (k4.sublist (List.take_sublist _ _)) (by rw [hv, List.length_take]; show t.ir.np = min t.ir.np t.nm.length; omega)
end Mine

set_option maxRecDepth 10000
set_option autoImplicit true
namespace Mine
open PySem
/-- what is left of a block, a loop, a comprehension: not looked into -/
noncomputable def wpR (c : Cx) (n : Nat) (xs : List XS) (ρ : Loc) (H : AH) (Q : Fl → Loc → AH → Prop) : Prop := wpS c n xs ρ H Q
noncomputable def wpE (c : Cx) (n : Nat) (x : X) (ρ : Loc) (H : AH) (Q : AV → AH → Prop) : Prop := wpX c n x ρ H Q
theorem wpR_eq {c : Cx} {n : Nat} {xs : List XS} {ρ : Loc} {H : AH} {Q : Fl → Loc → AH → Prop} : wpR c n xs ρ H Q = wpS c n xs ρ H Q := rfl
theorem wpE_eq {c : Cx} {n : Nat} {x : X} {ρ : Loc} {H : AH} {Q : AV → AH → Prop} : wpE c n x ρ H Q = wpX c n x ρ H Q := rfl
section
variable {c : Cx} {n : Nat}
theorem qx_1 : wpX c n .none u1 H Q = (Q .none H) := rfl
theorem qx_2 : wpX c n (.bool b) u1 H Q = (Q (.bool b) H) := rfl
theorem qx_3 : wpX c n (.int i) u1 H Q = (Q (.int i) H) := rfl
theorem qx_4 : wpX c n (.str s) u1 H Q = (Q (.str s) H) := rfl
theorem qx_5 : wpX c n (.var i) ρ H Q = (∃ v, ρ[i]? = some (some v) ∧ Q v H) := rfl
theorem qx_6 : wpX c n (.con k) u1 H Q = (∃ x v, c.cons[k]? = some (x, v) ∧ Q v H) := rfl
theorem qx_7 : wpX c n (.bin op l r) ρ H Q = (wpX c n l ρ H fun a H1 => wpX c n r ρ H1 fun b H2 => opW op a b H2 Q) := rfl
theorem qx_8 : wpX c n (.neg x) ρ H Q = (wpX c n x ρ H fun a H1 => ∃ i, a = .int i ∧ Q (.int (-i)) H1) := rfl
theorem qx_9 : wpX c n (.not x) ρ H Q = (wpX c n x ρ H fun a H1 => truW a H1 fun b H2 => Q (.bool (!b)) H2) := rfl
theorem qx_10 : wpX c n (.ands l) ρ H Q = (wpA c n true l ρ H Q) := rfl
theorem qx_11 : wpX c n (.ors l) ρ H Q = (wpA c n false l ρ H Q) := rfl
theorem qx_13 : wpX c n (.cmp op l r) ρ H Q = (wpX c n l ρ H fun a H1 => wpX c n r ρ H1 fun b H2 => cmpW op a b H2 fun t H3 => Q (.bool t) H3) := rfl
theorem qx_15 : wpX c n (.call i args) ρ H Q = (wpL c n args ρ H fun vs H1 => CW c n i vs H1 Q) := rfl
theorem qx_16 : wpX c n (.bi b args) ρ H Q = (wpL c n args ρ H fun vs H1 => biW b vs H1 Q) := rfl
theorem qx_17 : wpX c n (.maxd x d) ρ H Q = (wpX c n x ρ H fun a H1 => wpX c n d ρ H1 fun b H2 => maxdW a b H2 Q) := rfl
theorem qx_18 : wpX c n (.isi x t) ρ H Q = (wpX c n x ρ H fun a H1 => vkW a H1 fun k => Q (.bool (isiB k t)) H1) := rfl
theorem qx_19 : wpX c n (.isi2 x t u) ρ H Q = (t = .tuple ∧ u = .list ∧ wpX c n x ρ H fun a H1 => vkW a H1 fun k => Q (.bool (isiB k .tuple || isiB k .list)) H1) := rfl
theorem qx_20 : wpX c n (.me m o args) ρ H Q = (wpX c n o ρ H fun ov H1 => recvW ov (meT m) H1 ∧ wpL c n args ρ H1 fun vs H2 => meW m ov vs H2 Q) := rfl
theorem qx_21 : wpX c n (.sub v i) ρ H Q = (wpX c n v ρ H fun o H1 => wpX c n i ρ H1 fun j H2 => getW o j H2 Q) := rfl
theorem qx_22 : wpX c n (.slc v lo hi) ρ H Q = (wpX c n v ρ H fun o H1 => wpO c n lo ρ H1 fun a H2 => wpO c n hi ρ H2 fun b H3 => slcW o a b H3 Q) := rfl
theorem qx_23 : wpX c n (.list es) ρ H Q = (wpL c n es ρ H fun l H1 => l.length ≤ 10000000 ∧ ∀ r, H1 r = none → Q (.ref r) (H1.set r (.list true l))) := rfl
theorem qx_24 : wpX c n (.tup es) ρ H Q = (wpL c n es ρ H fun l H1 => l.length ≤ 10000000 ∧ Q (.tup l) H1) := rfl
theorem qx_25 : wpX c n .dict0 u1 H Q = (∀ r, H r = none → Q (.ref r) (H.set r (.dict true []))) := rfl
theorem qx_26 : wpX c n (.comp elt it cnd) ρ H Q = (wpX c n it ρ H fun v H1 => CompP (fun ρ H Q => wpC c n cnd ρ H Q) (fun ρ H Q => wpE c n elt ρ H Q) cnd.isSome ρ v H1 fun ys H' => ∀ D, H' D = none → Q (.ref D) (H'.set D (.list true ys))) := rfl
theorem qt_1 : wpT c n (.bool b) u1 H Q = (Q b H) := rfl
theorem qt_2 : wpT c n (.var i) ρ H Q = (∃ v, ρ[i]? = some (some v) ∧ truW v H Q) := rfl
theorem qt_3 : wpT c n (.con k) u1 H Q = (∃ x v, c.cons[k]? = some (x, v) ∧ truW v H Q) := rfl
theorem qt_4 : wpT c n (.not x) ρ H Q = (wpT c n x ρ H fun b H1 => Q (!b) H1) := rfl
theorem qt_5 : wpT c n (.ands l) ρ H Q = (wpB c n true l ρ H Q) := rfl
theorem qt_6 : wpT c n (.ors l) ρ H Q = (wpB c n false l ρ H Q) := rfl
theorem qt_7 : wpT c n (.cmp op l r) ρ H Q = (wpX c n l ρ H fun a H1 => wpX c n r ρ H1 fun b H2 => cmpW op a b H2 Q) := rfl
theorem qt_9 : wpT c n (.call i args) ρ H Q = (wpL c n args ρ H fun vs H1 => CW c n i vs H1 fun a H2 => truW a H2 Q) := rfl
theorem qt_10 : wpT c n (.bi b args) ρ H Q = (wpL c n args ρ H fun vs H1 => biW b vs H1 fun a H2 => truW a H2 Q) := rfl
theorem qt_11 : wpT c n (.isi x t) ρ H Q = (wpX c n x ρ H fun a H1 => vkW a H1 fun k => Q (isiB k t) H1) := rfl
theorem qt_12 : wpT c n (.isi2 x t u) ρ H Q = (t = .tuple ∧ u = .list ∧ wpX c n x ρ H fun a H1 => vkW a H1 fun k => Q (isiB k .tuple || isiB k .list) H1) := rfl
theorem qt_13 : wpT c n (.sub v i) ρ H Q = (wpX c n v ρ H fun o H1 => wpX c n i ρ H1 fun j H2 => getW o j H2 fun a H3 => truW a H3 Q) := rfl
theorem ql_1 : wpL c n [] u1 H Q = (Q [] H) := rfl
theorem ql_2 : wpL c n (x :: xs) ρ H Q = (wpX c n x ρ H fun a H1 => wpL c n xs ρ H1 fun l H2 => Q (a :: l) H2) := rfl
theorem qa_1 : wpA c n conj [] u1 u2 u3 = (False) := rfl
theorem qa_2 : wpA c n conj (x :: xs) ρ H Q = (wpX c n x ρ H fun a H1 => if xs.isEmpty then Q a H1 else truW a H1 fun t H2 => (t = conj → wpA c n conj xs ρ H2 Q) ∧ (t = (!conj) → Q a H2)) := rfl
theorem qb_1 : wpB c n conj [] u1 H Q = (Q conj H) := rfl
theorem qb_2 : wpB c n conj (x :: xs) ρ H Q = (wpT c n x ρ H fun t H1 => (t = conj → wpB c n conj xs ρ H1 Q) ∧ (t = (!conj) → Q (!conj) H1)) := rfl
theorem qo_1 : wpO c n none u1 H Q = (Q .none H) := rfl
theorem qo_2 : wpO c n (some x) ρ H Q = (wpX c n x ρ H Q) := rfl
theorem qc_1 : wpC c n none u1 H Q = (Q true H) := rfl
theorem qc_2 : wpC c n (some x) ρ H Q = (wpT c n x ρ H Q) := rfl
theorem q1_1 : wp1 c n (.expr x) ρ H Q = (wpX c n x ρ H fun _ H1 => Q .next ρ H1) := rfl
theorem q1_2 : wp1 c n (.ret x) ρ H Q = (wpX c n x ρ H fun v H1 => Q (.ret v) ρ H1) := rfl
theorem q1_3 : wp1 c n (.asg i x) ρ H Q = (wpX c n x ρ H fun v H1 => Q .next (ρ.set i (some v)) H1) := rfl
theorem q1_4 : wp1 c n (.asgc i elt it cnd) ρ H Q = (wpX c n it ρ H fun v H1 => CompP (fun ρ H Q => wpC c n cnd ρ H Q) (fun ρ H Q => wpE c n elt ρ H Q) cnd.isSome ρ v H1 fun ys H' => ∀ D, H' D = none → Q .next (ρ.set i (some (.ref D))) (H'.set D (.list true ys))) := rfl
theorem q1_5 : wp1 c n (.unp is x) ρ H Q = (wpX c n x ρ H fun v H1 => ∃ l, v = .tup l ∧ is.length = l.length ∧ Q .next (setAll ρ is l) H1) := rfl
theorem q1_6 : wp1 c n (.sets o i v) ρ H Q = (wpX c n v ρ H fun av H1 => wpX c n o ρ H1 fun ao H2 => wpX c n i ρ H2 fun ai H3 => setW ao ai av H3 fun H4 => Q .next ρ H4) := rfl
theorem q1_7 : wp1 c n (.ite t b e) ρ H Q = (wpT c n t ρ H fun u H1 => (u = true → wpS c n b ρ H1 Q) ∧ (u = false → wpS c n e ρ H1 Q)) := rfl
theorem q1_8 : wp1 c n (.for_ i x b) ρ H Q = (wpX c n x ρ H fun v H1 => ForF (fun ρ H Q => wpR c n b ρ H Q) (fun ρ y => ρ.set i (some y)) (fun _ => True) ρ v H1 Q) := rfl
theorem q1_9 : wp1 c n (.forU is x b) ρ H Q = (wpX c n x ρ H fun v H1 => ForP (fun ρ H Q => wpR c n b ρ H Q) (updU is) (fun y => ∃ l, y = .tup l ∧ is.length = l.length) ρ v H1 Q) := rfl
theorem q1_11 : wp1 c n .stop u1 u2 u3 = (False) := rfl
theorem qs_1 : wpS c n [] ρ H Q = (Q .next ρ H) := rfl
theorem qs_2 : wpS c n (x :: xs) ρ H Q = (wp1 c n x ρ H fun f ρ' H' => seqF (fun ρ2 H2 => wpS c n xs ρ2 H2 Q) Q f ρ' H') := rfl
end
end Mine

set_option maxRecDepth 10000
set_option autoImplicit false
set_option genSizeOf false
set_option genSizeOfSpec false
set_option genInjectivity false
namespace Mine
open PySem

section
variable {H : AH} {Q : AV → AH → Prop} {B : Bool → AH → Prop}
theorem add_i {a b : Int} : opW .Add (.int a) (.int b) H Q = Q (.int (a + b)) H := rfl
theorem add_t {a b : List AV} : opW .Add (.tup a) (.tup b) H Q = (a.length + b.length ≤ 10000000 ∧ Q (.tup (a ++ b)) H) := rfl
theorem add_s {a b : Str} : opW .Add (.str a) (.str b) H Q = (a.length + b.length ≤ 10000000 ∧ Q (.str (a ++ b)) H) := rfl
theorem add_l {a b : Nat} : opW .Add (.ref a) (.ref b) H Q = (∃ o1 l1 o2 l2, H a = some (.list o1 l1) ∧ H b = some (.list o2 l2) ∧ l1.length + l2.length ≤ 10000000 ∧ ∀ r, H r = none → Q (.ref r) (H.set r (.list true (l1 ++ l2)))) := rfl
theorem sub_i {a b : Int} : opW .Sub (.int a) (.int b) H Q = Q (.int (a - b)) H := rfl
theorem mul_i {a b : Int} : opW .Mult (.int a) (.int b) H Q = (mulOk a b ∧ Q (.int (a * b)) H) := rfl
theorem div_i {a b : Int} : opW .FloorDiv (.int a) (.int b) H Q = (0 < b ∧ b < 1073741824 ∧ Q (.int (a / b)) H) := rfl
theorem mod_i {a b : Int} : opW .Mod (.int a) (.int b) H Q = (0 < b ∧ Q (.int (a % b)) H) := rfl
theorem pow_i {a b : Int} : opW .Pow (.int a) (.int b) H Q = (2 ≤ a ∧ a < 1000 ∧ 1 ≤ b ∧ b < 1000 ∧ Q (.int (a ^ b.toNat)) H) := rfl
theorem eq_i {a b : Int} : cmpW .Eq (.int a) (.int b) H B = B (decide (a = b)) H := rfl
theorem ne_i {a b : Int} : cmpW .NotEq (.int a) (.int b) H B = B (!decide (a = b)) H := rfl
theorem eq_s {a b : Str} : cmpW .Eq (.str a) (.str b) H B = B (decide (a = b)) H := rfl
theorem ne_s {a b : Str} : cmpW .NotEq (.str a) (.str b) H B = B (!decide (a = b)) H := rfl
theorem eq_b {a b : Bool} : cmpW .Eq (.bool a) (.bool b) H B = B (a == b) H := rfl
theorem ne_b {a b : Bool} : cmpW .NotEq (.bool a) (.bool b) H B = B (!(a == b)) H := rfl
theorem lt_i {a b : Int} : cmpW .Lt (.int a) (.int b) H B = B (decide (a < b)) H := rfl
theorem le_i {a b : Int} : cmpW .LtE (.int a) (.int b) H B = B (decide (a ≤ b)) H := rfl
theorem gt_i {a b : Int} : cmpW .Gt (.int a) (.int b) H B = B (decide (b < a)) H := rfl
theorem ge_i {a b : Int} : cmpW .GtE (.int a) (.int b) H B = B (decide (b ≤ a)) H := rfl
theorem get_t {l : List AV} {k : Int} : getW (.tup l) (.int k) H Q = (idxOk k l.length ∧ ∃ x, l[pyIdx k l.length]? = some x ∧ Q x H) := rfl
theorem ret_v {v w : AV} : retv (.ret v) w = (v = w) := rfl
theorem ret_n {w : AV} : retv .next w = (w = .none) := rfl
theorem tru_b {b : Bool} : truW (.bool b) H B = B b H := rfl

/-- a list by its place -/
theorem getL {a : Nat} {own : Bool} {l : List AV} {k : Int} {x : AV} (h : H a = some (.list own l)) (h0 : 0 ≤ k) (hl : l.length ≤ 10000000) (hx : l[k.toNat]? = some x) (hq : Q x H) : getW (.ref a) (.int k) H Q := by
  have hk : k.toNat < l.length := (List.getElem?_eq_some_iff.mp hx).1
  refine .inl ⟨own, l, h, ⟨by omega, by omega, hl⟩, x, ?_, hq⟩
  unfold pyIdx; rw [if_neg (by omega)]; exact hx
theorem getD {a : Nat} {own : Bool} {kvs : List (Int × AV)} {k : Int} {x : AV} (h : H a = some (.dict own kvs)) (hx : keyAt kvs k = some x) (hq : Q x H) : getW (.ref a) (.int k) H Q := .inr ⟨own, kvs, h, x, hx, hq⟩
theorem lenL {a : Nat} {own : Bool} {l : List AV} (h : H a = some (.list own l)) (hl : l.length ≤ 10000000) (hq : Q (.int l.length) H) : biW .len [.ref a] H Q := .inl ⟨own, l, h, hl, hq⟩
theorem lenD {a : Nat} {own : Bool} {kvs : List (Int × AV)} (h : H a = some (.dict own kvs)) (hl : kvs.length ≤ 10000000) (hq : Q (.int kvs.length) H) : biW .len [.ref a] H Q := .inr ⟨own, kvs, h, hl, hq⟩
theorem eqLn {a b : Nat} {o1 o2 : Bool} {l : List AV} (h : H a = some (.list o1 l)) (h2 : H b = some (.list o2 [])) (hq : B (!l.isEmpty) H) : cmpW .NotEq (.ref a) (.ref b) H B :=
  .inl ⟨o1, l, o2, [], h, h2, .inr rfl, by cases l <;> exact hq⟩
theorem eqLe {a b : Nat} {o1 o2 : Bool} {l : List AV} (h : H a = some (.list o1 l)) (h2 : H b = some (.list o2 [])) (hq : B l.isEmpty H) : cmpW .Eq (.ref a) (.ref b) H B :=
  .inl ⟨o1, l, o2, [], h, h2, .inr rfl, by cases l <;> exact hq⟩
theorem rng_1 {k : Int} : biW .range [.int k] H Q = Q (.rng 0 k) H := rfl
theorem rng_2 {a b : Int} : biW .range [.int a, .int b] H Q = Q (.rng a b) H := rfl
theorem int_b {b : Bool} : biW .int [.bool b] H Q = Q (.int (if b then 1 else 0)) H := rfl
theorem str_i {a : Int} : biW .str [.int a] H Q = (a.natAbs < 2 ^ 200 ∧ Q (.str (toString a : String)) H) := rfl
theorem max_i {a b : Int} : biW .max [.int a, .int b] H Q = Q (.int (max a b)) H := rfl
theorem min_i {a b : Int} : biW .min [.int a, .int b] H Q = Q (.int (min a b)) H := rfl
theorem len_t {l : List AV} : biW .len [.tup l] H Q = (l.length ≤ 10000000 ∧ Q (.int l.length) H) := rfl
theorem list_t {l : List AV} : biW .list [.tup l] H Q = (l.length ≤ 10000000 ∧ ∀ r, H r = none → Q (.ref r) (H.set r (.list true l))) := rfl
theorem tupL {a : Nat} {own : Bool} {l : List AV} (h : H a = some (.list own l)) (hl : l.length ≤ 10000000) (hq : Q (.tup l) H) : biW .tuple [.ref a] H Q := ⟨own, l, h, hl, hq⟩
theorem listL {a : Nat} {own : Bool} {l : List AV} (h : H a = some (.list own l)) (hl : l.length ≤ 10000000) (hq : ∀ r, H r = none → Q (.ref r) (H.set r (.list true l))) : biW .list [.ref a] H Q := .inl ⟨own, l, h, hl, hq⟩
theorem listD {a : Nat} {own : Bool} {kvs : List (Int × AV)} (h : H a = some (.dict own kvs)) (hl : kvs.length ≤ 10000000) (hq : ∀ r, H r = none → Q (.ref r) (H.set r (.list true (kvs.map fun kv => .int kv.1)))) : biW .list [.ref a] H Q := .inr ⟨own, kvs, h, hl, hq⟩
theorem dictD {a : Nat} {own : Bool} {kvs : List (Int × AV)} (h : H a = some (.dict own kvs)) (hl : kvs.length ≤ 10000000) (hq : ∀ r, H r = none → Q (.ref r) (H.set r (.dict true kvs))) : biW .dict [.ref a] H Q := ⟨own, kvs, h, hl, hq⟩
theorem allL {a : Nat} {own : Bool} {l : List AV} {bs : List Bool} (h : H a = some (.list own l)) (hb : allB l = some bs) (hq : Q (.bool (bs.all id)) H) : biW .all [.ref a] H Q := ⟨own, l, bs, h, hb, hq⟩
theorem appL {a : Nat} {l : List AV} {v : AV} (h : H a = some (.list true l)) (hl : l.length ≤ 10000000) (hq : Q .none (H.set a (.list true (l ++ [v])))) : recvW (.ref a) (meT .append) H ∧ meW .append (.ref a) [v] H Q := ⟨⟨true, l, h⟩, l, h, hl, hq⟩
theorem setD {a : Nat} {kvs : List (Int × AV)} {k : Int} {v : AV} {R : AH → Prop} (h : H a = some (.dict true kvs)) (hl : kvs.length ≤ 10000000) (hq : R (H.set a (.dict true (storedA kvs k v)))) : setW (.ref a) (.int k) v H R := .inr ⟨kvs, h, hl, hq⟩
theorem setL {a : Nat} {l : List AV} {k : Int} {v : AV} {R : AH → Prop} (h : H a = some (.list true l)) (h0 : 0 ≤ k) (hk : k < l.length) (hl : l.length ≤ 10000000) (hq : R (H.set a (.list true (l.set k.toNat v)))) : setW (.ref a) (.int k) v H R := .inl ⟨l, h, h0, hk, hl, hq⟩
theorem slc_t {l : List AV} {a b : AV} : slcW (.tup l) a b H Q = (∃ lo hi, partOf a = some lo ∧ partOf b = some hi ∧ l.length ≤ 10000000 ∧ Q (.tup (cut lo hi l)) H) := rfl
theorem slcL {r : Nat} {own : Bool} {l : List AV} {a b : AV} {lo hi : Option Int} (ha : partOf a = some lo) (hb : partOf b = some hi) (h : H r = some (.list own l)) (hl : l.length ≤ 10000000) (hq : ∀ r', H r' = none → Q (.ref r') (H.set r' (.list true (cut lo hi l)))) : slcW (.ref r) a b H Q := ⟨lo, hi, own, l, ha, hb, h, hl, hq⟩
theorem vk_i {i : Int} {K : VK → Prop} : vkW (.int i) H K = K .int := rfl
theorem vk_s {i : Str} {K : VK → Prop} : vkW (.str i) H K = K .str := rfl
theorem vk_t {i : List AV} {K : VK → Prop} : vkW (.tup i) H K = K .tuple := rfl
theorem vk_n {K : VK → Prop} : vkW .none H K = K .none := rfl
theorem vk_b {b : Bool} {K : VK → Prop} : vkW (.bool b) H K = K .bool := rfl
theorem vkL {a : Nat} {own : Bool} {l : List AV} {K : VK → Prop} (h : H a = some (.list own l)) (hq : K .list) : vkW (.ref a) H K := .inl ⟨own, l, h, hq⟩
theorem vkD {a : Nat} {own : Bool} {l : List (Int × AV)} {K : VK → Prop} (h : H a = some (.dict own l)) (hq : K .dict) : vkW (.ref a) H K := .inr ⟨own, l, h, hq⟩
theorem is_nn : cmpW .Is .none .none H B = B true H := rfl
theorem is_in {i : Int} : cmpW .Is (.int i) .none H B = B false H := rfl
theorem is_sn {i : Str} : cmpW .Is (.str i) .none H B = B false H := rfl
theorem is_tn {i : List AV} : cmpW .Is (.tup i) .none H B = B false H := rfl
theorem is_rn {i : Nat} : cmpW .Is (.ref i) .none H B = B false H := rfl
theorem isn_nn : cmpW .IsNot .none .none H B = B false H := rfl
theorem isn_tn {i : List AV} : cmpW .IsNot (.tup i) .none H B = B true H := rfl
theorem in_d {a : Nat} {own : Bool} {kvs : List (Int × AV)} {k : Int} (h : H a = some (.dict own kvs)) (hq : B (!(kvs.any fun kv => kv.1 = k)) H) : cmpW .NotIn (.int k) (.ref a) H B := .inl ⟨own, kvs, h, hq⟩
theorem b_none_int : isiB .none .int = false := rfl
theorem b_none_bool : isiB .none .bool = false := rfl
theorem b_none_str : isiB .none .str = false := rfl
theorem b_none_tuple : isiB .none .tuple = false := rfl
theorem b_none_list : isiB .none .list = false := rfl
theorem b_none_dict : isiB .none .dict = false := rfl
theorem b_bool_int : isiB .bool .int = true := rfl
theorem b_bool_bool : isiB .bool .bool = true := rfl
theorem b_bool_str : isiB .bool .str = false := rfl
theorem b_bool_tuple : isiB .bool .tuple = false := rfl
theorem b_bool_list : isiB .bool .list = false := rfl
theorem b_bool_dict : isiB .bool .dict = false := rfl
theorem b_int_int : isiB .int .int = true := rfl
theorem b_int_bool : isiB .int .bool = false := rfl
theorem b_int_str : isiB .int .str = false := rfl
theorem b_int_tuple : isiB .int .tuple = false := rfl
theorem b_int_list : isiB .int .list = false := rfl
theorem b_int_dict : isiB .int .dict = false := rfl
theorem b_str_int : isiB .str .int = false := rfl
theorem b_str_bool : isiB .str .bool = false := rfl
theorem b_str_str : isiB .str .str = true := rfl
theorem b_str_tuple : isiB .str .tuple = false := rfl
theorem b_str_list : isiB .str .list = false := rfl
theorem b_str_dict : isiB .str .dict = false := rfl
theorem b_tuple_int : isiB .tuple .int = false := rfl
theorem b_tuple_bool : isiB .tuple .bool = false := rfl
theorem b_tuple_str : isiB .tuple .str = false := rfl
theorem b_tuple_tuple : isiB .tuple .tuple = true := rfl
theorem b_tuple_list : isiB .tuple .list = false := rfl
theorem b_tuple_dict : isiB .tuple .dict = false := rfl
theorem b_list_int : isiB .list .int = false := rfl
theorem b_list_bool : isiB .list .bool = false := rfl
theorem b_list_str : isiB .list .str = false := rfl
theorem b_list_tuple : isiB .list .tuple = false := rfl
theorem b_list_list : isiB .list .list = true := rfl
theorem b_list_dict : isiB .list .dict = false := rfl
theorem b_dict_int : isiB .dict .int = false := rfl
theorem b_dict_bool : isiB .dict .bool = false := rfl
theorem b_dict_str : isiB .dict .str = false := rfl
theorem b_dict_tuple : isiB .dict .tuple = false := rfl
theorem b_dict_list : isiB .dict .list = false := rfl
theorem b_dict_dict : isiB .dict .dict = true := rfl
theorem vkL_eq {a : Nat} {own : Bool} {l : List AV} {K : VK → Prop} (h : H a = some (.list own l)) : vkW (.ref a) H K = K .list := by
  refine propext ⟨fun q => ?_, vkL h⟩
  rcases q with ⟨o, l', e, q⟩ | ⟨o, l', e, q⟩
  · exact q
  · rw [h] at e; cases e
theorem vkD_eq {a : Nat} {own : Bool} {l : List (Int × AV)} {K : VK → Prop} (h : H a = some (.dict own l)) : vkW (.ref a) H K = K .dict := by
  refine propext ⟨fun q => ?_, vkD h⟩
  rcases q with ⟨o, l', e, q⟩ | ⟨o, l', e, q⟩
  · rw [h] at e; cases e
  · exact q
theorem lenL_eq {a : Nat} {own : Bool} {l : List AV} (h : H a = some (.list own l)) (hl : l.length ≤ 10000000) : biW .len [.ref a] H Q = Q (.int l.length) H := by
  refine propext ⟨fun q => ?_, lenL h hl⟩
  rcases q with ⟨o, l', e, _, q⟩ | ⟨o, l', e, _, q⟩
  · rw [h] at e; cases e; exact q
  · rw [h] at e; cases e
theorem lenD_eq {a : Nat} {own : Bool} {l : List (Int × AV)} (h : H a = some (.dict own l)) (hl : l.length ≤ 10000000) : biW .len [.ref a] H Q = Q (.int l.length) H := by
  refine propext ⟨fun q => ?_, lenD h hl⟩
  rcases q with ⟨o, l', e, _, q⟩ | ⟨o, l', e, _, q⟩
  · rw [h] at e; cases e
  · rw [h] at e; cases e; exact q
theorem get_0 {x : AV} {l : List AV} (hl : l.length ≤ 1000) : getW (.tup (x :: l)) (.int 0) H Q = Q x H := by
  refine propext ⟨fun ⟨_, y, e, q⟩ => ?_, fun q => ⟨⟨by simp; omega, by simp, by simp; omega⟩, x, rfl, q⟩⟩
  simp [pyIdx] at e; rw [e]; exact q
theorem get_1 {x y : AV} {l : List AV} (hl : l.length ≤ 1000) : getW (.tup (x :: y :: l)) (.int 1) H Q = Q y H := by
  refine propext ⟨fun ⟨_, z, e, q⟩ => ?_, fun q => ⟨⟨by simp; omega, by simp; omega, by simp; omega⟩, y, rfl, q⟩⟩
  simp [pyIdx] at e; rw [e]; exact q
theorem get_2 {x y z : AV} {l : List AV} (hl : l.length ≤ 1000) : getW (.tup (x :: y :: z :: l)) (.int 2) H Q = Q z H := by
  refine propext ⟨fun ⟨_, w, e, q⟩ => ?_, fun q => ⟨⟨by simp; omega, by simp; omega, by simp; omega⟩, z, rfl, q⟩⟩
  simp [pyIdx] at e; rw [e]; exact q
theorem get_3 {x y z w : AV} {l : List AV} (hl : l.length ≤ 1000) : getW (.tup (x :: y :: z :: w :: l)) (.int 3) H Q = Q w H := by
  refine propext ⟨fun ⟨_, w, e, q⟩ => ?_, fun q => ⟨⟨by simp; omega, by simp; omega, by simp; omega⟩, w, rfl, q⟩⟩
  simp [pyIdx] at e; rw [e]; exact q
theorem g20 {x y : AV} : getW (.tup [x, y]) (.int 0) H Q = Q x H := get_0 (by simp)
theorem g21 {x y : AV} : getW (.tup [x, y]) (.int 1) H Q = Q y H := get_1 (by simp)
theorem g30 {x y z : AV} : getW (.tup [x, y, z]) (.int 0) H Q = Q x H := get_0 (by simp)
theorem g31 {x y z : AV} : getW (.tup [x, y, z]) (.int 1) H Q = Q y H := get_1 (by simp)
theorem g32 {x y z : AV} : getW (.tup [x, y, z]) (.int 2) H Q = Q z H := get_2 (by simp)
theorem g40 {x y z w : AV} : getW (.tup [x, y, z, w]) (.int 0) H Q = Q x H := get_0 (by simp)
theorem g41 {x y z w : AV} : getW (.tup [x, y, z, w]) (.int 1) H Q = Q y H := get_1 (by simp)
theorem g42 {x y z w : AV} : getW (.tup [x, y, z, w]) (.int 2) H Q = Q z H := get_2 (by simp)
theorem g43 {x y z w : AV} : getW (.tup [x, y, z, w]) (.int 3) H Q = Q w H := get_3 (by simp)
theorem AH.set_of {a r : Nat} {o : AObj} {x : AObj} (h : H a = some x) (hr : H r = none) : H.set r o a = some x := by
  rw [AH.set_ne _ _ (fun q => by rw [q, hr] at h; cases h)]; exact h
end
end Mine

set_option maxRecDepth 10000
set_option autoImplicit false
set_option genSizeOf false
set_option genSizeOfSpec false
set_option genInjectivity false
namespace Mine
open PySem

section
variable {H : AH}
/-- a comprehension over range(m) whose element leaves the heap as it is -/
theorem comp_range {wt : Loc → AH → (Bool → AH → Prop) → Prop} {wx : Loc → AH → (AV → AH → Prop) → Prop} {ρ : Loc} {m : Int} {Q : List AV → AH → Prop} (P : Nat → AV → Prop) (h0 : 0 ≤ m) (h1 : m ≤ 100000)
    (hx : ∀ j : Nat, (j : Int) < m → ∀ Q' : AV → AH → Prop, (∀ z, P j z → Q' z H) → wx (ρ ++ [some (.int j)]) H Q')
    (hq : ∀ ys : List AV, ys.length = m.toNat → (∀ i y, ys[i]? = some y → P i y) → Q ys H) : CompP wt wx false ρ (.rng 0 m) H Q := by
  refine ⟨.rng, irange 0 m, fun j ys H' => H' = H ∧ j ≤ m.toNat ∧ ys.length = j ∧ ∀ i y, ys[i]? = some y → P i y, ?_, ⟨rfl, by omega, rfl, by simp⟩, ?_, ?_, ?_⟩
  · exact .rng (by omega) (by omega) (by omega) (by omega)
  · rintro j ys H' ⟨rfl, a1, a2, a3⟩
    exact ⟨.rng (by omega) (by omega) (by omega) (by omega), by omega⟩
  · rintro j y ys H' e ⟨rfl, a1, a2, a3⟩
    obtain ⟨hlt, rfl⟩ := irange_get _ _ _ _ e
    simp only [Bool.false_eq_true, if_false]
    rw [Int.zero_add]
    refine hx j (by omega) _ fun z hz => ?_
    refine ⟨rfl, by omega, by simp [a2], fun i y hy => ?_⟩
    by_cases hi : i < ys.length
    · rw [List.getElem?_append_left hi] at hy; exact a3 i y hy
    · rw [List.getElem?_append_right (by omega)] at hy
      have hi2 : i - ys.length = 0 := by
        rcases Nat.eq_zero_or_pos (i - ys.length) with q | q
        · exact q
        · rw [List.getElem?_eq_none (by simp; omega)] at hy; cases hy
      rw [hi2] at hy
      simp at hy
      subst hy
      have : i = j := by omega
      rw [this]; exact hz
  · rintro ys H' ⟨rfl, a1, a2, a3⟩
    rw [irange_length, Int.sub_zero] at a2
    exact hq ys a2 a3
end
section
variable {c : Cx} {n : Nat}
theorem sThen : ∀ (xs ys : List XS) (ρ : Loc) (H : AH) (Q : Fl → Loc → AH → Prop), wpS c n xs ρ H (Then c n ys Q) → WS c n (xs ++ ys) ρ H Q
  | [], _, _, _, _, h => h
  | x :: xs, ys, _, _, _, h => WS.cons_ ((s1 x _ _ _ h).mono fun f _ _ h1 => match f, h1 with
    | .next, h1 => sThen xs ys _ _ _ h1
    | .brk, h1 => h1
    | .cont, h1 => h1
    | .ret _, h1 => h1)
theorem sTake (k : Nat) {xs : List XS} {ρ : Loc} {H : AH} {Q : Fl → Loc → AH → Prop} (h : wpS c n (xs.take k) ρ H (Then c n (xs.drop k) Q)) : WS c n xs ρ H Q := by
  have := sThen _ _ _ _ _ h
  rwa [List.take_append_drop] at this
theorem then_n {ys : List XS} {Q : Fl → Loc → AH → Prop} {ρ : Loc} {H : AH} : Then c n ys Q .next ρ H = WS c n ys ρ H Q := rfl
theorem then_r {ys : List XS} {Q : Fl → Loc → AH → Prop} {ρ : Loc} {H : AH} {v : AV} : Then c n ys Q (.ret v) ρ H = Q (.ret v) ρ H := rfl
theorem CW.cut (k : Nat) {i : Nat} {f : Str} {ir : FnIR} {vs : List AV} {H : AH} {Q : AV → AH → Prop} (hf : c.fns[i]? = some (f, ir)) (hl : vs.length = ir.np)
    (h : wpS c n (ir.body.take k) (vs.map some ++ List.replicate (ir.ns - ir.np) none) H (Then c n (ir.body.drop k) fun fl _ H' => ∃ v, retv fl v ∧ Q v H')) : CW c (n + 1) i vs H Q := CW.body hf hl (sTake k h)
/-- what was known stays, and one new thing -/
theorem CW.fresh {i : Nat} {vs : List AV} {H : AH} {Q : AV → AH → Prop} {P : AObj → Prop} (h : CW c n i vs H fun v H' => (∀ a o, H a = some o → H' a = some o) ∧ ∃ r o, v = .ref r ∧ H r = none ∧ H' r = some o ∧ Q v (H.set r o)) : CW c n i vs H Q := by
  refine CW.forget (h.mono ?_)
  rintro v H' ⟨g, r, o, rfl, h1, h2, hq⟩
  refine ⟨H.set r o, fun a ob e => ?_, fun a f hne => ?_, fun a e1 e2 => ?_, fun a e => ?_, hq⟩
  · by_cases ha : a = r
    · subst ha; simp at e; subst e; exact h2
    · rw [AH.set_ne _ _ ha] at e; exact g _ _ e
  · exact AH.set_ne _ _ (fun q => hne (q ▸ h1))
  · exact (AH.set_ne _ _ (fun q => by rw [q, h2] at e2; cases e2)).trans e1
  · by_cases ha : a = r
    · subst ha; exact .inr (by simp [h2])
    · exact .inl ((AH.set_ne _ _ ha).trans e)
theorem loop_n {I : Loc → AH → Prop} {Q : Fl → Loc → AH → Prop} {ρ : Loc} {H : AH} : LoopQ I Q .next ρ H = I ρ H := rfl
theorem loop_r {I : Loc → AH → Prop} {Q : Fl → Loc → AH → Prop} {ρ : Loc} {H : AH} {v : AV} : LoopQ I Q (.ret v) ρ H = Q (.ret v) ρ H := rfl
theorem for_range {ws : Loc → AH → (Fl → Loc → AH → Prop) → Prop} {i : Nat} {ρ : Loc} {m : Int} {H : AH} {Q : Fl → Loc → AH → Prop} (I : Nat → Loc → AH → Prop) (h0 : 0 ≤ m) (h1 : m ≤ 100000) (hI : I 0 ρ H)
    (ht : ∀ (j : Nat) (ρ' : Loc) (H' : AH), (j : Int) < m → I j ρ' H' → ws (ρ'.set i (some (.int j))) H' (LoopQ (I (j + 1)) Q)) (he : ∀ ρ' H', I m.toNat ρ' H' → Q .next ρ' H') :
    ForF ws (fun ρ y => ρ.set i (some y)) (fun _ => True) ρ (.rng 0 m) H Q := by
  refine .inl ⟨.rng, irange 0 m, I, .rng (by omega) (by omega) (by omega) (by omega), fun _ _ => trivial, hI, fun _ _ _ _ => .rng (by omega) (by omega) (by omega) (by omega), fun j y ρ' H' e hi => ?_, fun ρ' H' h => he ρ' H' ?_⟩
  · obtain ⟨hlt, rfl⟩ := irange_get _ _ _ _ e
    rw [Int.zero_add]
    exact ht j ρ' H' (by omega) hi
  · rw [irange_length, Int.sub_zero] at h; exact h
theorem for_list {ws : Loc → AH → (Fl → Loc → AH → Prop) → Prop} {i a : Nat} {ρ : Loc} {own : Bool} {L : List AV} {H : AH} {Q : Fl → Loc → AH → Prop} (I : Nat → Loc → AH → Prop) (hH : H a = some (.list own L)) (hI : I 0 ρ H)
    (hk : ∀ j ρ' H', I j ρ' H' → ∃ own, H' a = some (.list own L)) (ht : ∀ (j : Nat) (y : AV) (ρ' : Loc) (H' : AH), L[j]? = some y → I j ρ' H' → ws (ρ'.set i (some y)) H' (LoopQ (I (j + 1)) Q)) (he : ∀ ρ' H', I L.length ρ' H' → Q .next ρ' H') :
    ForF ws (fun ρ y => ρ.set i (some y)) (fun _ => True) ρ (.ref a) H Q :=
  .inl ⟨.list, L, I, .list hH, fun _ _ => trivial, hI, fun j ρ' H' h => let ⟨_, e⟩ := hk j ρ' H' h; .list e, ht, he⟩
theorem forU_list {ws : Loc → AH → (Fl → Loc → AH → Prop) → Prop} {is : List Nat} {a : Nat} {ρ : Loc} {own : Bool} {L : List AV} {H : AH} {Q : Fl → Loc → AH → Prop} (I : Nat → Loc → AH → Prop) (hH : H a = some (.list own L)) (hL : ∀ y ∈ L, ∃ l, y = .tup l ∧ is.length = l.length) (hI : I 0 ρ H)
    (hk : ∀ j ρ' H', I j ρ' H' → ∃ own, H' a = some (.list own L)) (ht : ∀ (j : Nat) (y : AV) (ρ' : Loc) (H' : AH), L[j]? = some y → I j ρ' H' → ws (updU is ρ' y) H' (LoopQ (I (j + 1)) Q)) (he : ∀ ρ' H', I L.length ρ' H' → Q .next ρ' H') :
    ForP ws (updU is) (fun y => ∃ l, y = .tup l ∧ is.length = l.length) ρ (.ref a) H Q :=
  ⟨.list, L, I, .list hH, hL, hI, fun j ρ' H' h => let ⟨_, e⟩ := hk j ρ' H' h; .list e, ht, he⟩
noncomputable def thenR (c : Cx) (n : Nat) (ys : List XS) (Q : Fl → Loc → AH → Prop) : Fl → Loc → AH → Prop
  | .next, ρ, H => wpR c n ys ρ H Q
  | .brk, ρ, H => Q .brk ρ H
  | .cont, ρ, H => Q .cont ρ H
  | .ret v, ρ, H => Q (.ret v) ρ H
theorem thenR_n {ys : List XS} {Q : Fl → Loc → AH → Prop} {ρ : Loc} {H : AH} : thenR c n ys Q .next ρ H = wpR c n ys ρ H Q := rfl
theorem thenR_r {ys : List XS} {Q : Fl → Loc → AH → Prop} {ρ : Loc} {H : AH} {v : AV} : thenR c n ys Q (.ret v) ρ H = Q (.ret v) ρ H := rfl
/-- what is left of a block, folded -/
noncomputable def seqK (c : Cx) (n : Nat) (xs : List XS) (Q : Fl → Loc → AH → Prop) : Fl → Loc → AH → Prop := seqF (fun ρ2 H2 => wpS c n xs ρ2 H2 Q) Q
section
variable {xs : List XS} {ρ : Loc} {H : AH} {Q : Fl → Loc → AH → Prop}
theorem k_n : seqK c n xs Q .next ρ H = wpS c n xs ρ H Q := rfl
theorem k_r {v : AV} : seqK c n xs Q (.ret v) ρ H = Q (.ret v) ρ H := rfl
theorem k_1 {x : X} : wpS c n (.expr x :: xs) ρ H Q = wpX c n x ρ H fun _ H1 => wpS c n xs ρ H1 Q := rfl
theorem k_2 {x : X} : wpS c n (.ret x :: xs) ρ H Q = wpX c n x ρ H fun v H1 => Q (.ret v) ρ H1 := rfl
theorem k_3 {i : Nat} {x : X} : wpS c n (.asg i x :: xs) ρ H Q = wpX c n x ρ H fun v H1 => wpS c n xs (ρ.set i (some v)) H1 Q := rfl
theorem k_4 {i : Nat} {elt it : X} {cond : Option X} : wpS c n (.asgc i elt it cond :: xs) ρ H Q = wpX c n it ρ H fun v H1 => CompP (fun ρ H Q => wpC c n cond ρ H Q) (fun ρ H Q => wpE c n elt ρ H Q) cond.isSome ρ v H1 fun ys H' => ∀ D, H' D = none → wpS c n xs (ρ.set i (some (.ref D))) (H'.set D (.list true ys)) Q := rfl
theorem k_5 {is : List Nat} {x : X} : wpS c n (.unp is x :: xs) ρ H Q = wpX c n x ρ H fun v H1 => ∃ l, v = .tup l ∧ is.length = l.length ∧ wpS c n xs (setAll ρ is l) H1 Q := rfl
theorem k_6 {o i v : X} : wpS c n (.sets o i v :: xs) ρ H Q = wpX c n v ρ H fun av H1 => wpX c n o ρ H1 fun ao H2 => wpX c n i ρ H2 fun ai H3 => setW ao ai av H3 fun H4 => wpS c n xs ρ H4 Q := rfl
theorem k_7 {t : X} {b e : List XS} : wpS c n (.ite t b e :: xs) ρ H Q = wpT c n t ρ H fun u H1 => (u = true → wpS c n b ρ H1 (seqK c n xs Q)) ∧ (u = false → wpS c n e ρ H1 (seqK c n xs Q)) := rfl
theorem k_8 {i : Nat} {x : X} {b : List XS} : wpS c n (.for_ i x b :: xs) ρ H Q = wpX c n x ρ H fun v H1 => ForF (fun ρ H Q => wpR c n b ρ H Q) (fun ρ y => ρ.set i (some y)) (fun _ => True) ρ v H1 (seqK c n xs Q) := rfl
theorem k_9 {is : List Nat} {x : X} {b : List XS} : wpS c n (.forU is x b :: xs) ρ H Q = wpX c n x ρ H fun v H1 => ForP (fun ρ H Q => wpR c n b ρ H Q) (updU is) (fun y => ∃ l, y = .tup l ∧ is.length = l.length) ρ v H1 (seqK c n xs Q) := rfl
end
theorem wpS_append : ∀ (xs ys : List XS) (ρ : Loc) (H : AH) (Q : Fl → Loc → AH → Prop), wpS c n (xs ++ ys) ρ H Q = wpS c n xs ρ H (thenR c n ys Q)
  | [], _, _, _, _ => rfl
  | x :: xs, ys, ρ, H, Q => by
    rw [List.cons_append, qs_2, qs_2]
    congr 1
    funext f ρ' H'
    cases f with
    | next => exact wpS_append xs ys ρ' H' Q
    | brk => rfl
    | cont => rfl
    | ret v => rfl
theorem wp_cut (k : Nat) {xs : List XS} {ρ : Loc} {H : AH} {Q : Fl → Loc → AH → Prop} (h : wpS c n (xs.take k) ρ H (thenR c n (xs.drop k) Q)) : wpS c n xs ρ H Q := by
  have e := wpS_append (c := c) (n := n) (xs.take k) (xs.drop k) ρ H Q
  rw [List.take_append_drop] at e
  rw [e]; exact h
end
end Mine

set_option maxRecDepth 10000
set_option autoImplicit false
set_option genSizeOf false
set_option genSizeOfSpec false
set_option genInjectivity false
namespace Mine
open PySem

section
variable {H : AH}
/-- a comprehension over a list -/
theorem comp_list {wt : Loc → AH → (Bool → AH → Prop) → Prop} {wx : Loc → AH → (AV → AH → Prop) → Prop} {ρ : Loc} {a : Nat} {own : Bool} {L : List AV} {Q : List AV → AH → Prop} (P : Nat → AV → Prop) (hL : H a = some (.list own L)) (hl : L.length ≤ 100000)
    (hx : ∀ j y, L[j]? = some y → ∀ Q' : AV → AH → Prop, (∀ z, P j z → Q' z H) → wx (ρ ++ [some y]) H Q')
    (hq : ∀ ys : List AV, ys.length = L.length → (∀ i y, ys[i]? = some y → P i y) → Q ys H) : CompP wt wx false ρ (.ref a) H Q := by
  refine ⟨.list, L, fun j ys H' => H' = H ∧ j ≤ L.length ∧ ys.length = j ∧ ∀ i y, ys[i]? = some y → P i y, .list hL, ⟨rfl, Nat.zero_le _, rfl, by simp⟩, ?_, ?_, ?_⟩
  · rintro j ys H' ⟨rfl, a1, a2, a3⟩
    exact ⟨.list hL, by omega⟩
  · rintro j y ys H' e ⟨rfl, a1, a2, a3⟩
    have hj := (List.getElem?_eq_some_iff.mp e).1
    simp only [Bool.false_eq_true, if_false]
    refine hx j y e _ fun z hz => ⟨rfl, hj, by simp [a2], fun i w hw => ?_⟩
    by_cases hi : i < ys.length
    · rw [List.getElem?_append_left hi] at hw; exact a3 i w hw
    · rw [List.getElem?_append_right (by omega)] at hw
      have hi2 : i - ys.length = 0 := by
        rcases Nat.eq_zero_or_pos (i - ys.length) with q | q
        · exact q
        · rw [List.getElem?_eq_none (by simp; omega)] at hw; cases hw
      rw [hi2] at hw
      simp at hw
      subst hw
      have : i = j := by omega
      rw [this]; exact hz
  · rintro ys H' ⟨rfl, a1, a2, a3⟩
    exact hq ys a2 a3
/-- a comprehension that picks -/
theorem comp_filter {wt : Loc → AH → (Bool → AH → Prop) → Prop} {wx : Loc → AH → (AV → AH → Prop) → Prop} {ρ : Loc} {a : Nat} {own : Bool} {L : List AV} {Q : List AV → AH → Prop} (P : AV → Bool) (hL : H a = some (.list own L)) (hl : L.length ≤ 100000)
    (ht : ∀ y ∈ L, ∀ Q' : Bool → AH → Prop, Q' (P y) H → wt (ρ ++ [some y]) H Q')
    (hx : ∀ y ∈ L, ∀ Q' : AV → AH → Prop, Q' y H → wx (ρ ++ [some y]) H Q')
    (hq : Q (L.filter P) H) : CompP wt wx true ρ (.ref a) H Q := by
  refine ⟨.list, L, fun j ys H' => H' = H ∧ ys = (L.take j).filter P, .list hL, ⟨rfl, by simp⟩, ?_, ?_, ?_⟩
  · rintro j ys H' ⟨rfl, rfl⟩
    refine ⟨.list hL, ?_⟩
    have := List.length_filter_le P (L.take j)
    rw [List.length_take] at this
    have : min j L.length ≤ L.length := Nat.min_le_right _ _
    omega
  · rintro j y ys H' e ⟨rfl, rfl⟩
    have hy := List.mem_of_getElem? e
    have e1 : L.take (j + 1) = L.take j ++ [y] := by rw [List.take_add_one, e]; rfl
    simp only [if_true]
    refine ht y hy _ ⟨.list hL, fun hp => hx y hy _ ⟨rfl, ?_⟩, fun hp => ⟨rfl, ?_⟩⟩
    · rw [e1, List.filter_append]; simp [hp]
    · rw [e1, List.filter_append]; simp [hp]
  · rintro ys H' ⟨rfl, rfl⟩
    rw [List.take_of_length_le (Nat.le_refl _)]; exact hq
theorem for_tup {ws : Loc → AH → (Fl → Loc → AH → Prop) → Prop} {i : Nat} {ρ : Loc} {L : List AV} {Q : Fl → Loc → AH → Prop} (I : Nat → Loc → AH → Prop) (hI : I 0 ρ H)
    (ht : ∀ (j : Nat) (y : AV) (ρ' : Loc) (H' : AH), L[j]? = some y → I j ρ' H' → ws (ρ'.set i (some y)) H' (LoopQ (I (j + 1)) Q)) (he : ∀ ρ' H', I L.length ρ' H' → Q .next ρ' H') :
    ForF ws (fun ρ y => ρ.set i (some y)) (fun _ => True) ρ (.tup L) H Q :=
  .inl ⟨.tup, L, I, .tup, fun _ _ => trivial, hI, fun _ _ _ _ => .tup, ht, he⟩
theorem AH.set_back {a : Nat} {o x : AObj} (h : H a = some o) : (H.set a x).set a o = H := by
  funext q; unfold AH.set; split
  · rename_i e; rw [e, h]
  · rfl
end
/-! ## short names for what is used in every step -/
theorem zb1 {t : Ty} : isiB .none t = false := by cases t <;> rfl
theorem zb2 {t : Ty} : isiB .bool t = (decide (t = .bool) || decide (t = .int)) := by cases t <;> rfl
theorem zb3 {t : Ty} : isiB .int t = decide (t = .int) := by cases t <;> rfl
theorem zb4 {t : Ty} : isiB .str t = decide (t = .str) := by cases t <;> rfl
theorem zb5 {t : Ty} : isiB .tuple t = decide (t = .tuple) := by cases t <;> rfl
theorem zb6 {t : Ty} : isiB .list t = decide (t = .list) := by cases t <;> rfl
theorem zb7 {t : Ty} : isiB .dict t = decide (t = .dict) := by cases t <;> rfl
section
variable {α β : Type} {a b : α} {l m : List α} {n : Nat} {p : Prop} {x y : Bool} {f : α → β}
theorem zl1 : List.take (n + 1) (a :: l) = a :: List.take n l := rfl
theorem zl2 : List.take 0 l = [] := rfl
theorem zl3 : List.drop (n + 1) (a :: l) = List.drop n l := rfl
theorem zl4 : List.drop 0 l = l := rfl
theorem zl5 : (a :: l)[n + 1]? = l[n]? := rfl
theorem zl6 : (a :: l)[0]? = some a := rfl
theorem zl7 : List.map f (a :: l) = f a :: List.map f l := rfl
theorem zl8 : List.map f [] = [] := rfl
theorem zl9 : a :: l ++ m = a :: (l ++ m) := rfl
theorem zl10 : [] ++ l = l := rfl
theorem zl11 : (a :: l).isEmpty = false := rfl
theorem zl12 : ([] : List α).isEmpty = true := rfl
theorem zo1 : (some a = some b) = (a = b) := Option.some.injEq a b
theorem zo2 {q : α → Prop} : (∃ z, z = a ∧ q z) = q a := propext exists_eq_left
theorem zo3 {q : α → Prop} : (∃ z, a = z ∧ q z) = q a := propext exists_eq_left'
theorem zn1 : (true == x) = x := Bool.true_beq x
theorem zn2 : (false == x) = !x := Bool.false_beq x
theorem zn3 : (¬ True) = False := not_true_eq_false
theorem zn4 : (¬ False) = True := not_false_eq_true
theorem zn5 : (x || true) = true := Bool.or_true x
theorem zn6 : (x || false) = x := Bool.or_false x
theorem zn7 : (true || x) = true := rfl
theorem zn8 : (false || x) = x := rfl
theorem zn9 : (false = true) = False := Bool.false_eq_true
theorem zn10 {i : Decidable p} : (decide p = true) = p := decide_eq_true_eq
theorem zn11 {i : Decidable p} : (decide p = false) = ¬ p := propext decide_eq_false_iff_not
theorem zn12 : ((!x) = true) = (x = false) := Bool.not_eq_true' x
theorem zn13 : ((!x) = false) = (x = true) := Bool.not_eq_false' x
theorem zn14 {q : Prop} : (True → q) = q := propext ⟨fun h => h trivial, fun h _ => h⟩
theorem zn15 {q : Prop} : (False → q) = True := propext ⟨fun _ => trivial, fun _ h => h.elim⟩
theorem zn16 {q : Prop} : (q ∧ True) = q := and_true q
theorem zn17 {q : Prop} : (True ∧ q) = q := true_and q
theorem zn18 {s : Sort _} : (s → True) = True := implies_true s
end
theorem zm0 {a b : Int} (h : 0 < b) : 0 ≤ a % b := Int.emod_nonneg _ (Int.ne_of_gt h)
theorem zm1 {a b c : Int} (h : 0 < b) (h2 : b ≤ c + 1) : a % b ≤ c := Int.le_of_lt_add_one (Int.lt_of_lt_of_le (Int.emod_lt_of_pos a h) h2)
theorem zm2 {a b : Int} (h : 0 ≤ a) (h2 : 0 ≤ b) : 0 ≤ a + b := Int.add_nonneg h h2
theorem zm3 {a b c : Nat} (h : a ≤ b) (h2 : b ≤ c) : a ≤ c := Nat.le_trans h h2
end Mine

set_option maxRecDepth 10000
set_option autoImplicit false
namespace Mine
open PySem PyProof.Rows
noncomputable abbrev i_P_is_at : Nat := 0
noncomputable abbrev i_P_is_kind : Nat := 1
noncomputable abbrev i_P_lacks_own : Nat := 2
noncomputable abbrev i_P_is_right : Nat := 3
noncomputable abbrev i_P_reckoned : Nat := 4
noncomputable abbrev i_P_is_great : Nat := 5
noncomputable abbrev i_P_is_full : Nat := 6
noncomputable abbrev i_P_stuck_word : Nat := 7
noncomputable abbrev i_P_called : Nat := 8
noncomputable abbrev i_P_gone_back : Nat := 9
noncomputable abbrev i_P_put_new : Nat := 10
noncomputable abbrev i_P_pushed : Nat := 11
noncomputable abbrev i_P_place_behind : Nat := 12
noncomputable abbrev i_P_said_of : Nat := 13
noncomputable abbrev i_P_stepped : Nat := 14
noncomputable abbrev i_L_cell : Nat := 15
noncomputable abbrev i_L_raw : Nat := 16
noncomputable abbrev i_L_whole : Nat := 17
noncomputable abbrev i_L_number : Nat := 18
noncomputable abbrev i_L_value : Nat := 19
noncomputable abbrev i_L_values : Nat := 20
noncomputable abbrev i_L_names : Nat := 21
noncomputable abbrev i_L_things : Nat := 22
noncomputable abbrev i_L_frame : Nat := 23
noncomputable abbrev i_L_frames : Nat := 24
noncomputable abbrev i_L_row : Nat := 25
noncomputable abbrev i_L_program : Nat := 26
noncomputable abbrev i_L_state : Nat := 27
noncomputable abbrev i_L_topped : Nat := 28
noncomputable abbrev i_L_alike : Nat := 29
noncomputable abbrev i_L_same_things : Nat := 30
noncomputable abbrev i_L_same_state : Nat := 31
noncomputable abbrev i_L_copy : Nat := 32
noncomputable abbrev i_L_is_box : Nat := 33
noncomputable abbrev i_L_due : Nat := 34
noncomputable abbrev i_P_law : Nat := 35
noncomputable def s_P_is_at_0 : XS := .ret (.isi (.var 0) .tuple)
noncomputable def ir_P_is_at : FnIR := ⟨1, 1, [
  s_P_is_at_0]⟩
noncomputable def s_P_is_kind_0 : XS := .ret (.ands [.call i_P_is_at [.var 0], .cmp .Eq (.sub (.sub (.var 1) (.sub (.var 0) (.int 1))) (.int 0)) (.var 2)])
noncomputable def ir_P_is_kind : FnIR := ⟨3, 3, [
  s_P_is_kind_0]⟩
noncomputable def s_P_lacks_own_0b0 : XS := .ret (.cmp .GtE (.sub (.var 0) (.int 1)) (.bi .len [.var 1]))
noncomputable def s_P_lacks_own_0 : XS := .ite (.cmp .Eq (.sub (.var 0) (.int 0)) (.str "get")) [s_P_lacks_own_0b0] []
noncomputable def s_P_lacks_own_1 : XS := .ret (.ands [.cmp .Eq (.sub (.var 0) (.int 0)) (.str "fun"), .bi .any [.comp (.cmp .GtE (.var 2) (.bi .len [.var 1])) (.sub (.var 0) (.int 2)) none]])
noncomputable def ir_P_lacks_own : FnIR := ⟨2, 2, [
  s_P_lacks_own_0,
  s_P_lacks_own_1]⟩
noncomputable def s_P_is_right_0b0 : XS := .ret (.ands [.not (.call i_P_is_at [.sub (.var 1) (.neg (.int 1))]), .not (.call i_P_is_at [.sub (.var 1) (.neg (.int 2))])])
noncomputable def s_P_is_right_0 : XS := .ite (.cmp .In (.var 0) (.tup [.str "add", .str "minus", .str "times", .str "less"])) [s_P_is_right_0b0] []
noncomputable def s_P_is_right_1b0 : XS := .ret (.not (.call i_P_is_at [.sub (.var 1) (.neg (.int 1))]))
noncomputable def s_P_is_right_1 : XS := .ite (.cmp .Eq (.var 0) (.str "unless")) [s_P_is_right_1b0] []
noncomputable def s_P_is_right_2b0 : XS := .ret (.call i_P_is_kind [.sub (.var 1) (.neg (.int 1)), .var 2, .str "box"])
noncomputable def s_P_is_right_2 : XS := .ite (.cmp .Eq (.var 0) (.str "open")) [s_P_is_right_2b0] []
noncomputable def s_P_is_right_3b0 : XS := .ret (.call i_P_is_kind [.sub (.var 1) (.neg (.int 2)), .var 2, .str "box"])
noncomputable def s_P_is_right_3 : XS := .ite (.cmp .Eq (.var 0) (.str "fill")) [s_P_is_right_3b0] []
noncomputable def s_P_is_right_4b0 : XS := .ret (.call i_P_is_kind [.sub (.var 1) (.neg (.int 2)), .var 2, .str "fun"])
noncomputable def s_P_is_right_4 : XS := .ite (.cmp .Eq (.var 0) (.str "call")) [s_P_is_right_4b0] []
noncomputable def s_P_is_right_5 : XS := .ret (.bool true)
noncomputable def ir_P_is_right : FnIR := ⟨3, 3, [
  s_P_is_right_0,
  s_P_is_right_1,
  s_P_is_right_2,
  s_P_is_right_3,
  s_P_is_right_4,
  s_P_is_right_5]⟩
noncomputable def s_P_reckoned_0b0 : XS := .ret (.bin .Add (.var 1) (.var 2))
noncomputable def s_P_reckoned_0 : XS := .ite (.cmp .Eq (.var 0) (.str "add")) [s_P_reckoned_0b0] []
noncomputable def s_P_reckoned_1b0 : XS := .ret (.bin .Sub (.var 1) (.var 2))
noncomputable def s_P_reckoned_1 : XS := .ite (.cmp .Eq (.var 0) (.str "minus")) [s_P_reckoned_1b0] []
noncomputable def s_P_reckoned_2b0 : XS := .ret (.bin .Mult (.var 1) (.var 2))
noncomputable def s_P_reckoned_2 : XS := .ite (.cmp .Eq (.var 0) (.str "times")) [s_P_reckoned_2b0] []
noncomputable def s_P_reckoned_3b0 : XS := .ret (.bi .int [.cmp .Lt (.var 1) (.var 2)])
noncomputable def s_P_reckoned_3 : XS := .ite (.cmp .Eq (.var 0) (.str "less")) [s_P_reckoned_3b0] []
noncomputable def s_P_reckoned_4 : XS := .ret (.bi .int [.cmp .Eq (.var 1) (.var 2)])
noncomputable def ir_P_reckoned : FnIR := ⟨3, 3, [
  s_P_reckoned_0,
  s_P_reckoned_1,
  s_P_reckoned_2,
  s_P_reckoned_3,
  s_P_reckoned_4]⟩
noncomputable def s_P_is_great_0 : XS := .ret (.ands [.cmp .In (.var 0) (.tup [.str "add", .str "minus", .str "times"]), .cmp .Gt (.bi .abs [.call i_P_reckoned [.var 0, .sub (.var 1) (.neg (.int 2)), .sub (.var 1) (.neg (.int 1))]]) (.con 0)])
noncomputable def ir_P_is_great : FnIR := ⟨2, 2, [
  s_P_is_great_0]⟩
noncomputable def s_P_is_full_0b0 : XS := .ret (.cmp .Eq (.bi .len [.sub (.sub (.var 1) (.neg (.int 1))) (.int 3)]) (.con 2))
noncomputable def s_P_is_full_0 : XS := .ite (.cmp .In (.var 0) (.tup [.str "num", .str "get", .str "fun"])) [s_P_is_full_0b0] []
noncomputable def s_P_is_full_1b0 : XS := .ret (.cmp .Eq (.bi .len [.sub (.sub (.var 1) (.neg (.int 1))) (.int 2)]) (.con 2))
noncomputable def s_P_is_full_1 : XS := .ite (.cmp .Eq (.var 0) (.str "keep")) [s_P_is_full_1b0] []
noncomputable def s_P_is_full_2 : XS := .ret (.ands [.cmp .Eq (.var 0) (.str "back"), .cmp .Gt (.bi .len [.var 1]) (.int 1), .cmp .Eq (.bi .len [.sub (.sub (.var 1) (.neg (.int 2))) (.int 3)]) (.con 2)])
noncomputable def ir_P_is_full : FnIR := ⟨2, 2, [
  s_P_is_full_0,
  s_P_is_full_1,
  s_P_is_full_2]⟩
noncomputable def s_P_stuck_word_0 : XS := .unp [3, 4, 5, 6] (.sub (.var 1) (.neg (.int 1)))
noncomputable def s_P_stuck_word_1b0 : XS := .ret (.str "end")
noncomputable def s_P_stuck_word_1 : XS := .ite (.cmp .Eq (.var 4) (.bi .len [.sub (.var 0) (.var 3)])) [s_P_stuck_word_1b0] []
noncomputable def s_P_stuck_word_2 : XS := .asg 7 (.sub (.sub (.var 0) (.var 3)) (.var 4))
noncomputable def s_P_stuck_word_3 : XS := .asg 8 (.sub (.var 7) (.int 0))
noncomputable def s_P_stuck_word_4b0 : XS := .ret (.str "empty")
noncomputable def s_P_stuck_word_4 : XS := .ite (.cmp .Lt (.bi .len [.var 6]) (.sub (.con 3) (.var 8))) [s_P_stuck_word_4b0] []
noncomputable def s_P_stuck_word_5b0 : XS := .ret (.str "own")
noncomputable def s_P_stuck_word_5 : XS := .ite (.call i_P_lacks_own [.var 7, .var 5]) [s_P_stuck_word_5b0] []
noncomputable def s_P_stuck_word_6b0 : XS := .ret (.str "kind")
noncomputable def s_P_stuck_word_6 : XS := .ite (.not (.call i_P_is_right [.var 8, .var 6, .var 2])) [s_P_stuck_word_6b0] []
noncomputable def s_P_stuck_word_7b0 : XS := .ret (.str "great")
noncomputable def s_P_stuck_word_7 : XS := .ite (.call i_P_is_great [.var 8, .var 6]) [s_P_stuck_word_7b0] []
noncomputable def s_P_stuck_word_8b0 : XS := .ret (.str "deep")
noncomputable def s_P_stuck_word_8 : XS := .ite (.ands [.cmp .Eq (.var 8) (.str "call"), .cmp .Eq (.bi .len [.var 1]) (.con 1)]) [s_P_stuck_word_8b0] []
noncomputable def s_P_stuck_word_9b0 : XS := .ret (.str "full")
noncomputable def s_P_stuck_word_9 : XS := .ite (.call i_P_is_full [.var 8, .var 1]) [s_P_stuck_word_9b0] []
noncomputable def s_P_stuck_word_10 : XS := .ret .none
noncomputable def ir_P_stuck_word : FnIR := ⟨3, 9, [
  s_P_stuck_word_0,
  s_P_stuck_word_1,
  s_P_stuck_word_2,
  s_P_stuck_word_3,
  s_P_stuck_word_4,
  s_P_stuck_word_5,
  s_P_stuck_word_6,
  s_P_stuck_word_7,
  s_P_stuck_word_8,
  s_P_stuck_word_9,
  s_P_stuck_word_10]⟩
noncomputable def s_P_called_0 : XS := .unp [2, 3, 4, 5] (.sub (.var 0) (.neg (.int 1)))
noncomputable def s_P_called_1 : XS := .asg 6 (.sub (.var 1) (.sub (.sub (.var 5) (.neg (.int 2))) (.int 1)))
noncomputable def s_P_called_2 : XS := .asg 7 (.tup [.sub (.var 6) (.int 1), .int 0, .bin .Add (.sub (.var 6) (.int 2)) (.tup [.sub (.var 5) (.neg (.int 1))]), .tup []])
noncomputable def s_P_called_3 : XS := .ret (.tup [.none, .bin .Add (.slc (.var 0) none (some (.neg (.int 1)))) (.list [.tup [.var 2, .bin .Add (.var 3) (.int 1), .var 4, .slc (.var 5) none (some (.neg (.int 2)))], .var 7]), .bi .dict [.var 1]])
noncomputable def ir_P_called : FnIR := ⟨2, 8, [
  s_P_called_0,
  s_P_called_1,
  s_P_called_2,
  s_P_called_3]⟩
noncomputable def s_P_gone_back_0 : XS := .asg 2 (.sub (.sub (.sub (.var 0) (.neg (.int 1))) (.int 3)) (.neg (.int 1)))
noncomputable def s_P_gone_back_1b0 : XS := .ret (.tup [.tup [.str "done", .var 2], .list [], .bi .dict [.var 1]])
noncomputable def s_P_gone_back_1 : XS := .ite (.cmp .Eq (.bi .len [.var 0]) (.int 1)) [s_P_gone_back_1b0] []
noncomputable def s_P_gone_back_2 : XS := .unp [3, 4, 5, 6] (.sub (.var 0) (.neg (.int 2)))
noncomputable def s_P_gone_back_3 : XS := .ret (.tup [.none, .bin .Add (.slc (.var 0) none (some (.neg (.int 2)))) (.list [.tup [.var 3, .var 4, .var 5, .bin .Add (.var 6) (.tup [.var 2])]]), .bi .dict [.var 1]])
noncomputable def ir_P_gone_back : FnIR := ⟨2, 7, [
  s_P_gone_back_0,
  s_P_gone_back_1,
  s_P_gone_back_2,
  s_P_gone_back_3]⟩
noncomputable def s_P_put_new_0 : XS := .asg 2 (.bin .Add (.maxd (.bi .list [.var 0]) (.neg (.int 1))) (.int 1))
noncomputable def s_P_put_new_1 : XS := .sets (.var 0) (.var 2) (.var 1)
noncomputable def s_P_put_new_2 : XS := .ret (.tup [.str "at", .var 2])
noncomputable def ir_P_put_new : FnIR := ⟨2, 3, [
  s_P_put_new_0,
  s_P_put_new_1,
  s_P_put_new_2]⟩
noncomputable def s_P_pushed_0 : XS := .asg 4 (.sub (.var 0) (.int 0))
noncomputable def s_P_pushed_1b0 : XS := .ret (.tup [.sub (.var 0) (.int 1)])
noncomputable def s_P_pushed_1 : XS := .ite (.cmp .Eq (.var 4) (.str "num")) [s_P_pushed_1b0] []
noncomputable def s_P_pushed_2b0 : XS := .ret (.tup [.sub (.var 1) (.sub (.var 0) (.int 1))])
noncomputable def s_P_pushed_2 : XS := .ite (.cmp .Eq (.var 4) (.str "get")) [s_P_pushed_2b0] []
noncomputable def s_P_pushed_3b0 : XS := .ret (.tup [.call i_P_reckoned [.var 4, .sub (.var 2) (.int 0), .sub (.var 2) (.int 1)]])
noncomputable def s_P_pushed_3 : XS := .ite (.cmp .In (.var 4) (.tup [.str "add", .str "minus", .str "times", .str "less", .str "same"])) [s_P_pushed_3b0] []
noncomputable def s_P_pushed_4b0 : XS := .ret (.tup [.call i_P_put_new [.var 3, .tup [.str "box", .sub (.var 2) (.int 0)]]])
noncomputable def s_P_pushed_4 : XS := .ite (.cmp .Eq (.var 4) (.str "box")) [s_P_pushed_4b0] []
noncomputable def s_P_pushed_5b0 : XS := .ret (.tup [.call i_P_put_new [.var 3, .tup [.str "fun", .sub (.var 0) (.int 1), .bi .tuple [.comp (.sub (.var 1) (.var 5)) (.sub (.var 0) (.int 2)) none]]]])
noncomputable def s_P_pushed_5 : XS := .ite (.cmp .Eq (.var 4) (.str "fun")) [s_P_pushed_5b0] []
noncomputable def s_P_pushed_6b0 : XS := .ret (.tup [.sub (.sub (.var 3) (.sub (.sub (.var 2) (.int 0)) (.int 1))) (.int 1)])
noncomputable def s_P_pushed_6 : XS := .ite (.cmp .Eq (.var 4) (.str "open")) [s_P_pushed_6b0] []
noncomputable def s_P_pushed_7b0 : XS := .sets (.var 3) (.sub (.sub (.var 2) (.int 0)) (.int 1)) (.tup [.str "box", .sub (.var 2) (.int 1)])
noncomputable def s_P_pushed_7 : XS := .ite (.cmp .Eq (.var 4) (.str "fill")) [s_P_pushed_7b0] []
noncomputable def s_P_pushed_8 : XS := .ret (.tup [])
noncomputable def ir_P_pushed : FnIR := ⟨4, 5, [
  s_P_pushed_0,
  s_P_pushed_1,
  s_P_pushed_2,
  s_P_pushed_3,
  s_P_pushed_4,
  s_P_pushed_5,
  s_P_pushed_6,
  s_P_pushed_7,
  s_P_pushed_8]⟩
noncomputable def s_P_place_behind_0b0 : XS := .ret (.sub (.var 0) (.int 1))
noncomputable def s_P_place_behind_0 : XS := .ite (.ors [.cmp .Eq (.sub (.var 0) (.int 0)) (.str "jump"), .ands [.cmp .Eq (.sub (.var 0) (.int 0)) (.str "unless"), .cmp .Eq (.sub (.var 2) (.int 0)) (.int 0)]]) [s_P_place_behind_0b0] []
noncomputable def s_P_place_behind_1 : XS := .ret (.bin .Add (.var 1) (.int 1))
noncomputable def ir_P_place_behind : FnIR := ⟨3, 3, [
  s_P_place_behind_0,
  s_P_place_behind_1]⟩
noncomputable def s_P_said_of_0b0 : XS := .ret (.bi .str [.var 0])
noncomputable def s_P_said_of_0 : XS := .ite (.not (.call i_P_is_at [.var 0])) [s_P_said_of_0b0] []
noncomputable def s_P_said_of_1b0 : XS := .ret (.str "box")
noncomputable def s_P_said_of_1 : XS := .ite (.call i_P_is_kind [.var 0, .var 1, .str "box"]) [s_P_said_of_1b0] []
noncomputable def s_P_said_of_2 : XS := .ret (.str "function")
noncomputable def ir_P_said_of : FnIR := ⟨2, 2, [
  s_P_said_of_0,
  s_P_said_of_1,
  s_P_said_of_2]⟩
noncomputable def s_P_stepped_0 : XS := .unp [2, 3, 4] (.var 1)
noncomputable def s_P_stepped_1 : XS := .ite (.cmp .IsNot (.var 2) .none) [.stop] []
noncomputable def s_P_stepped_2 : XS := .asg 5 (.call i_P_stuck_word [.var 0, .var 3, .var 4])
noncomputable def s_P_stepped_3b0 : XS := .ret (.tup [.tup [.tup [.str "stuck", .var 5], .bi .list [.var 3], .bi .dict [.var 4]], .none])
noncomputable def s_P_stepped_3 : XS := .ite (.cmp .IsNot (.var 5) .none) [s_P_stepped_3b0] []
noncomputable def s_P_stepped_4 : XS := .unp [6, 7, 8, 9] (.sub (.var 3) (.neg (.int 1)))
noncomputable def s_P_stepped_5 : XS := .asg 10 (.sub (.sub (.var 0) (.var 6)) (.var 7))
noncomputable def s_P_stepped_6b0 : XS := .ret (.tup [.call i_P_called [.var 3, .var 4], .none])
noncomputable def s_P_stepped_6 : XS := .ite (.cmp .Eq (.sub (.var 10) (.int 0)) (.str "call")) [s_P_stepped_6b0] []
noncomputable def s_P_stepped_7b0 : XS := .ret (.tup [.call i_P_gone_back [.var 3, .var 4], .none])
noncomputable def s_P_stepped_7 : XS := .ite (.cmp .Eq (.sub (.var 10) (.int 0)) (.str "back")) [s_P_stepped_7b0] []
noncomputable def s_P_stepped_8 : XS := .asg 11 (.bi .dict [.var 4])
noncomputable def s_P_stepped_9 : XS := .asg 12 (.slc (.var 9) none (some (.bin .Sub (.bi .len [.var 9]) (.sub (.con 3) (.sub (.var 10) (.int 0))))))
noncomputable def s_P_stepped_10 : XS := .asg 13 (.slc (.var 9) (some (.bi .len [.var 12])) none)
noncomputable def s_P_stepped_11 : XS := .asg 14 (.call i_P_pushed [.var 10, .var 8, .var 13, .var 11])
noncomputable def s_P_stepped_12b0 : XS := .asg 8 (.bin .Add (.var 8) (.var 13))
noncomputable def s_P_stepped_12 : XS := .ite (.cmp .Eq (.sub (.var 10) (.int 0)) (.str "keep")) [s_P_stepped_12b0] []
noncomputable def s_P_stepped_13 : XS := .asg 15 .none
noncomputable def s_P_stepped_14b0 : XS := .asg 15 (.call i_P_said_of [.sub (.var 13) (.int 0), .var 4])
noncomputable def s_P_stepped_14 : XS := .ite (.cmp .Eq (.sub (.var 10) (.int 0)) (.str "say")) [s_P_stepped_14b0] []
noncomputable def s_P_stepped_15 : XS := .asg 16 (.tup [.var 6, .call i_P_place_behind [.var 10, .var 7, .var 13], .var 8, .bin .Add (.var 12) (.var 14)])
noncomputable def s_P_stepped_16 : XS := .ret (.tup [.tup [.none, .bin .Add (.slc (.var 3) none (some (.neg (.int 1)))) (.list [.var 16]), .var 11], .var 15])
noncomputable def ir_P_stepped : FnIR := ⟨2, 17, [
  s_P_stepped_0,
  s_P_stepped_1,
  s_P_stepped_2,
  s_P_stepped_3,
  s_P_stepped_4,
  s_P_stepped_5,
  s_P_stepped_6,
  s_P_stepped_7,
  s_P_stepped_8,
  s_P_stepped_9,
  s_P_stepped_10,
  s_P_stepped_11,
  s_P_stepped_12,
  s_P_stepped_13,
  s_P_stepped_14,
  s_P_stepped_15,
  s_P_stepped_16]⟩
noncomputable def s_L_cell_0 : XS := .asg 2 (.bin .Mult (.var 1) (.int 7919))
noncomputable def s_L_cell_1 : XS := .asg 3 (.bi .len [.var 0])
noncomputable def s_L_cell_2b0 : XS := .asg 2 (.bin .Add (.bin .Add (.bin .Mult (.sub (.var 0) (.bin .Mod (.var 1) (.var 3))) (.int 48271)) (.var 2)) (.bin .Mult (.bin .FloorDiv (.var 1) (.var 3)) (.int 104729)))
noncomputable def s_L_cell_2 : XS := .ite (.cmp .Gt (.var 3) (.int 0)) [s_L_cell_2b0] []
noncomputable def s_L_cell_3 : XS := .asg 2 (.bin .Mod (.var 2) (.int 1000003))
noncomputable def s_L_cell_4 : XS := .ret (.bin .Mod (.bin .Mult (.var 2) (.bin .Add (.bin .Add (.var 2) (.bin .Mult (.int 2) (.var 1))) (.int 17))) (.int 1000003))
noncomputable def ir_L_cell : FnIR := ⟨2, 4, [
  s_L_cell_0,
  s_L_cell_1,
  s_L_cell_2,
  s_L_cell_3,
  s_L_cell_4]⟩
noncomputable def s_L_raw_0b0 : XS := .ret (.bin .Mult (.var 1) (.int 7919))
noncomputable def s_L_raw_0 : XS := .ite (.cmp .Eq (.bi .len [.var 0]) (.int 0)) [s_L_raw_0b0] []
noncomputable def s_L_raw_1 : XS := .ret (.bin .Add (.sub (.var 0) (.bin .Mod (.var 1) (.bi .len [.var 0]))) (.bin .Mult (.bin .FloorDiv (.var 1) (.bi .len [.var 0])) (.int 104729)))
noncomputable def ir_L_raw : FnIR := ⟨2, 2, [
  s_L_raw_0,
  s_L_raw_1]⟩
noncomputable def s_L_whole_0 : XS := .ret (.ands [.isi (.var 0) .int, .not (.isi (.var 0) .bool)])
noncomputable def ir_L_whole : FnIR := ⟨1, 1, [
  s_L_whole_0]⟩
noncomputable def s_L_number_0 : XS := .asg 2 (.call i_L_cell [.var 0, .var 1])
noncomputable def s_L_number_1b0 : XS := .ret (.bin .Sub (.bin .Mod (.call i_L_raw [.var 0, .var 1]) (.bin .Add (.bin .Mult (.int 2) (.bin .Pow (.int 10) (.int 30))) (.int 1))) (.bin .Pow (.int 10) (.int 30)))
noncomputable def s_L_number_1 : XS := .ite (.cmp .Eq (.bin .Mod (.var 2) (.int 6)) (.int 1)) [s_L_number_1b0] []
noncomputable def s_L_number_2b0 : XS := .ret (.sub (.list [.bin .Pow (.int 10) (.int 30), .bin .Sub (.int 0) (.bin .Pow (.int 10) (.int 30)), .bin .Sub (.bin .Pow (.int 10) (.int 30)) (.int 1), .int 0, .bin .Pow (.int 10) (.int 15), .bin .Sub (.bin .Sub (.int 0) (.bin .Pow (.int 10) (.int 15))) (.int 1)]) (.bin .Mod (.bin .FloorDiv (.var 2) (.int 6)) (.int 6)))
noncomputable def s_L_number_2 : XS := .ite (.cmp .Eq (.bin .Mod (.var 2) (.int 6)) (.int 2)) [s_L_number_2b0] []
noncomputable def s_L_number_3 : XS := .ret (.bin .Sub (.bin .Mod (.bin .FloorDiv (.var 2) (.int 6)) (.int 7)) (.int 3))
noncomputable def ir_L_number : FnIR := ⟨2, 3, [
  s_L_number_0,
  s_L_number_1,
  s_L_number_2,
  s_L_number_3]⟩
noncomputable def s_L_value_0 : XS := .asg 3 (.call i_L_cell [.var 0, .bin .Add (.var 1) (.int 3)])
noncomputable def s_L_value_1b0 : XS := .ret (.tup [.str "at", .sub (.var 2) (.bin .Mod (.bin .FloorDiv (.var 3) (.int 5)) (.bi .len [.var 2]))])
noncomputable def s_L_value_1 : XS := .ite (.ands [.cmp .NotEq (.var 2) (.list []), .cmp .Lt (.bin .Mod (.var 3) (.int 5)) (.int 2)]) [s_L_value_1b0] []
noncomputable def s_L_value_2 : XS := .ret (.call i_L_number [.var 0, .var 1])
noncomputable def ir_L_value : FnIR := ⟨3, 4, [
  s_L_value_0,
  s_L_value_1,
  s_L_value_2]⟩
noncomputable def s_L_values_0 : XS := .ret (.bi .tuple [.comp (.call i_L_value [.var 0, .bin .Add (.var 1) (.bin .Mult (.int 11) (.var 4)), .var 3]) (.bi .range [.var 2]) none])
noncomputable def ir_L_values : FnIR := ⟨4, 4, [
  s_L_values_0]⟩
noncomputable def s_L_names_0 : XS := .asg 1 (.call i_L_cell [.var 0, .int 1])
noncomputable def s_L_names_1 : XS := .asg 2 (.bin .Mod (.var 1) (.int 7))
noncomputable def s_L_names_2b0 : XS := .asg 2 (.sub (.list [.int 40, .int 40, .int 40, .int 130]) (.bin .Mod (.bin .FloorDiv (.var 1) (.int 112)) (.int 4)))
noncomputable def s_L_names_2 : XS := .ite (.cmp .Eq (.bin .Mod (.bin .FloorDiv (.var 1) (.int 7)) (.int 16)) (.int 1)) [s_L_names_2b0] []
noncomputable def s_L_names_3 : XS := .asg 3 (.bin .Add (.int 1) (.bin .Mod (.bin .FloorDiv (.var 1) (.int 112)) (.int 5)))
noncomputable def s_L_names_4 : XS := .asgc 4 (.bin .Add (.bin .Mod (.bin .FloorDiv (.var 1) (.int 560)) (.int 30)) (.bin .Mult (.var 3) (.var 5))) (.bi .range [.var 2]) none
noncomputable def s_L_names_5b0 : XS := .expr (.me .reverse (.var 4) [])
noncomputable def s_L_names_5 : XS := .ite (.cmp .Eq (.bin .Mod (.bin .FloorDiv (.var 1) (.int 16800)) (.int 2)) (.int 1)) [s_L_names_5b0] []
noncomputable def s_L_names_6 : XS := .ret (.var 4)
noncomputable def ir_L_names : FnIR := ⟨1, 5, [
  s_L_names_0,
  s_L_names_1,
  s_L_names_2,
  s_L_names_3,
  s_L_names_4,
  s_L_names_5,
  s_L_names_6]⟩
noncomputable def s_L_things_0 : XS := .asg 3 .dict0
noncomputable def s_L_things_1b0 : XS := .asg 5 (.call i_L_cell [.var 0, .bin .Add (.int 100) (.var 4)])
noncomputable def s_L_things_1b1b0 : XS := .sets (.var 3) (.sub (.var 1) (.var 4)) (.tup [.str "box", .call i_L_value [.var 0, .bin .Add (.int 200) (.var 4), .var 1]])
noncomputable def s_L_things_1b1e0 : XS := .asg 6 (.call i_L_values [.var 0, .bin .Add (.int 300) (.bin .Mult (.int 5) (.var 4)), .bin .Mod (.bin .FloorDiv (.var 5) (.int 2)) (.int 9), .var 1])
noncomputable def s_L_things_1b1e1 : XS := .sets (.var 3) (.sub (.var 1) (.var 4)) (.tup [.str "fun", .bin .Mod (.bin .FloorDiv (.var 5) (.int 18)) (.var 2), .var 6])
noncomputable def s_L_things_1b1 : XS := .ite (.cmp .Eq (.bin .Mod (.var 5) (.int 2)) (.int 0)) [s_L_things_1b1b0] [s_L_things_1b1e0, s_L_things_1b1e1]
noncomputable def s_L_things_1 : XS := .for_ 4 (.bi .range [.bi .len [.var 1]]) [s_L_things_1b0, s_L_things_1b1]
noncomputable def s_L_things_2 : XS := .ret (.var 3)
noncomputable def ir_L_things : FnIR := ⟨3, 7, [
  s_L_things_0,
  s_L_things_1,
  s_L_things_2]⟩
noncomputable def s_L_frame_0 : XS := .asg 4 (.call i_L_cell [.var 0, .var 1])
noncomputable def s_L_frame_1 : XS := .asg 5 (.bin .Mod (.var 4) (.bi .len [.var 2]))
noncomputable def s_L_frame_2 : XS := .asg 6 (.call i_L_values [.var 0, .bin .Add (.var 1) (.int 1), .bin .Mod (.bin .FloorDiv (.var 4) (.int 20)) (.int 5), .var 3])
noncomputable def s_L_frame_3 : XS := .asg 7 (.call i_L_values [.var 0, .bin .Add (.var 1) (.int 2), .bin .Mod (.bin .FloorDiv (.var 4) (.int 100)) (.int 5), .var 3])
noncomputable def s_L_frame_4b0 : XS := .asg 6 (.slc (.bin .Add (.var 6) (.call i_L_values [.var 0, .bin .Add (.var 1) (.int 5), .int 60, .var 3])) none (some (.int 60)))
noncomputable def s_L_frame_4 : XS := .ite (.cmp .Eq (.bin .Mod (.bin .FloorDiv (.var 4) (.int 500)) (.int 32)) (.int 1)) [s_L_frame_4b0] []
noncomputable def s_L_frame_5b0 : XS := .asg 7 (.slc (.bin .Add (.var 7) (.call i_L_values [.var 0, .bin .Add (.var 1) (.int 5), .int 60, .var 3])) none (some (.int 60)))
noncomputable def s_L_frame_5 : XS := .ite (.cmp .Eq (.bin .Mod (.bin .FloorDiv (.var 4) (.int 500)) (.int 32)) (.int 2)) [s_L_frame_5b0] []
noncomputable def s_L_frame_6 : XS := .ret (.tup [.var 5, .bin .Mod (.bin .FloorDiv (.var 4) (.int 16000)) (.bin .Add (.bi .len [.sub (.var 2) (.var 5)]) (.int 1)), .var 6, .var 7])
noncomputable def ir_L_frame : FnIR := ⟨4, 8, [
  s_L_frame_0,
  s_L_frame_1,
  s_L_frame_2,
  s_L_frame_3,
  s_L_frame_4,
  s_L_frame_5,
  s_L_frame_6]⟩
noncomputable def s_L_frames_0 : XS := .asg 3 (.call i_L_cell [.var 0, .int 2])
noncomputable def s_L_frames_1 : XS := .asg 4 (.bin .Add (.int 1) (.bin .Mod (.var 3) (.int 3)))
noncomputable def s_L_frames_2b0 : XS := .asg 4 (.bin .Add (.int 59) (.bin .Mod (.bin .FloorDiv (.var 3) (.int 48)) (.int 2)))
noncomputable def s_L_frames_2 : XS := .ite (.cmp .Eq (.bin .Mod (.bin .FloorDiv (.var 3) (.int 3)) (.int 16)) (.int 1)) [s_L_frames_2b0] []
noncomputable def s_L_frames_3 : XS := .ret (.comp (.call i_L_frame [.var 0, .bin .Add (.int 500) (.bin .Mult (.int 13) (.var 5)), .var 1, .var 2]) (.bi .range [.var 4]) none)
noncomputable def ir_L_frames : FnIR := ⟨3, 5, [
  s_L_frames_0,
  s_L_frames_1,
  s_L_frames_2,
  s_L_frames_3]⟩
noncomputable def s_L_row_0 : XS := .asg 5 (.call i_L_cell [.var 0, .var 1])
noncomputable def s_L_row_1 : XS := .asg 6 (.sub (.var 2) (.bin .Mod (.var 5) (.bi .len [.var 2])))
noncomputable def s_L_row_2 : XS := .asg 7 (.bin .FloorDiv (.var 5) (.bi .len [.var 2]))
noncomputable def s_L_row_3b0 : XS := .asg 8 (.bin .Sub (.bin .Mod (.call i_L_raw [.var 0, .var 1]) (.bin .Add (.bin .Mult (.int 2) (.bin .Pow (.int 10) (.int 12))) (.int 1))) (.bin .Pow (.int 10) (.int 12)))
noncomputable def s_L_row_3b1 : XS := .ret (.tup [.str "num", .sub (.list [.bin .Sub (.bin .Mod (.var 7) (.int 19)) (.int 9), .var 8]) (.bin .Mod (.bin .FloorDiv (.var 7) (.int 19)) (.int 2))])
noncomputable def s_L_row_3 : XS := .ite (.cmp .Eq (.var 6) (.str "num")) [s_L_row_3b0, s_L_row_3b1] []
noncomputable def s_L_row_4b0 : XS := .ret (.tup [.str "get", .sub (.list [.bin .Mod (.var 7) (.int 5), .bin .Mod (.bin .FloorDiv (.var 7) (.int 5)) (.int 60)]) (.bi .int [.cmp .Eq (.bin .Mod (.bin .FloorDiv (.var 7) (.int 300)) (.int 8)) (.int 1)])])
noncomputable def s_L_row_4 : XS := .ite (.cmp .Eq (.var 6) (.str "get")) [s_L_row_4b0] []
noncomputable def s_L_row_5b0 : XS := .asg 8 (.sub (.list [.int 5, .int 60]) (.bi .int [.cmp .Eq (.bin .Mod (.bin .FloorDiv (.var 7) (.int 9)) (.int 16)) (.int 1)]))
noncomputable def s_L_row_5b1 : XS := .asg 9 (.bi .tuple [.comp (.bin .Mod (.call i_L_cell [.var 0, .bin .Add (.bin .Add (.var 1) (.int 17)) (.var 10)]) (.var 8)) (.bi .range [.bin .Mod (.var 7) (.int 9)]) none])
noncomputable def s_L_row_5b2 : XS := .ret (.tup [.str "fun", .bin .Mod (.bin .FloorDiv (.var 7) (.int 144)) (.var 3), .var 9])
noncomputable def s_L_row_5 : XS := .ite (.cmp .Eq (.var 6) (.str "fun")) [s_L_row_5b0, s_L_row_5b1, s_L_row_5b2] []
noncomputable def s_L_row_6b0 : XS := .ret (.tup [.var 6, .bin .Mod (.var 7) (.bin .Add (.var 4) (.int 1))])
noncomputable def s_L_row_6 : XS := .ite (.ors [.cmp .Eq (.var 6) (.str "jump"), .cmp .Eq (.var 6) (.str "unless")]) [s_L_row_6b0] []
noncomputable def s_L_row_7 : XS := .ret (.tup [.var 6])
noncomputable def ir_L_row : FnIR := ⟨5, 10, [
  s_L_row_0,
  s_L_row_1,
  s_L_row_2,
  s_L_row_3,
  s_L_row_4,
  s_L_row_5,
  s_L_row_6,
  s_L_row_7]⟩
noncomputable def s_L_program_0 : XS := .asg 2 (.call i_L_cell [.var 0, .int 0])
noncomputable def s_L_program_1 : XS := .asg 3 (.bin .Add (.int 1) (.bin .Mod (.var 2) (.int 3)))
noncomputable def s_L_program_2b0 : XS := .asg 3 (.int 20)
noncomputable def s_L_program_2 : XS := .ite (.cmp .Eq (.bin .Mod (.bin .FloorDiv (.var 2) (.int 3)) (.int 16)) (.int 1)) [s_L_program_2b0] []
noncomputable def s_L_program_3 : XS := .asg 4 (.list [])
noncomputable def s_L_program_4b0 : XS := .asg 6 (.bin .Mod (.call i_L_cell [.var 0, .bin .Add (.int 20) (.var 5)]) (.int 7))
noncomputable def s_L_program_4b1b0 : XS := .asg 6 (.int 60)
noncomputable def s_L_program_4b1 : XS := .ite (.cmp .Eq (.bin .Mod (.bin .FloorDiv (.call i_L_cell [.var 0, .bin .Add (.int 20) (.var 5)]) (.int 7)) (.int 32)) (.int 1)) [s_L_program_4b1b0] []
noncomputable def s_L_program_4b2 : XS := .asgc 7 (.call i_L_row [.var 0, .bin .Add (.bin .Add (.int 1000) (.bin .Mult (.int 61) (.var 5))) (.var 8), .var 1, .var 3, .var 6]) (.bi .range [.var 6]) none
noncomputable def s_L_program_4b3 : XS := .expr (.me .append (.var 4) [.var 7])
noncomputable def s_L_program_4 : XS := .for_ 5 (.bi .range [.var 3]) [s_L_program_4b0, s_L_program_4b1, s_L_program_4b2, s_L_program_4b3]
noncomputable def s_L_program_5 : XS := .ret (.var 4)
noncomputable def ir_L_program : FnIR := ⟨2, 8, [
  s_L_program_0,
  s_L_program_1,
  s_L_program_2,
  s_L_program_3,
  s_L_program_4,
  s_L_program_5]⟩
noncomputable def s_L_state_0 : XS := .asg 2 (.call i_L_names [.var 0])
noncomputable def s_L_state_1 : XS := .ret (.tup [.none, .call i_L_frames [.var 0, .var 1, .var 2], .call i_L_things [.var 0, .var 2, .bi .len [.var 1]]])
noncomputable def ir_L_state : FnIR := ⟨2, 3, [
  s_L_state_0,
  s_L_state_1]⟩
noncomputable def s_L_topped_0 : XS := .asg 4 (.sub (.sub (.var 2) (.int 1)) (.neg (.int 1)))
noncomputable def s_L_topped_1 : XS := .asg 5 (.sub (.var 1) (.sub (.var 4) (.int 0)))
noncomputable def s_L_topped_2 : XS := .asg 6 (.bi .min [.sub (.var 4) (.int 1), .int 59])
noncomputable def s_L_topped_3 : XS := .asg 7 (.call i_L_row [.var 0, .int 7, .var 3, .bi .len [.var 1], .bi .max [.bi .len [.var 5], .bin .Add (.var 6) (.int 1)]])
noncomputable def s_L_topped_4 : XS := .sets (.var 1) (.sub (.var 4) (.int 0)) (.bin .Add (.bin .Add (.slc (.var 5) none (some (.var 6))) (.list [.var 7])) (.slc (.var 5) (some (.bin .Add (.var 6) (.int 1))) none))
noncomputable def s_L_topped_5 : XS := .ret (.tup [.none, .bin .Add (.slc (.sub (.var 2) (.int 1)) none (some (.neg (.int 1)))) (.list [.tup [.sub (.var 4) (.int 0), .var 6, .sub (.var 4) (.int 2), .sub (.var 4) (.int 3)]]), .sub (.var 2) (.int 2)])
noncomputable def ir_L_topped : FnIR := ⟨4, 8, [
  s_L_topped_0,
  s_L_topped_1,
  s_L_topped_2,
  s_L_topped_3,
  s_L_topped_4,
  s_L_topped_5]⟩
noncomputable def s_L_alike_0b0b0 : XS := .ret (.bool false)
noncomputable def s_L_alike_0b0 : XS := .ite (.cmp .NotEq (.isi (.var 0) .tuple) (.isi (.var 1) .tuple)) [s_L_alike_0b0b0] []
noncomputable def s_L_alike_0b1b0 : XS := .ret (.bool false)
noncomputable def s_L_alike_0b1 : XS := .ite (.ors [.not (.isi2 (.var 0) .tuple .list), .cmp .NotEq (.bi .len [.var 0]) (.bi .len [.var 1])]) [s_L_alike_0b1b0] []
noncomputable def s_L_alike_0b2 : XS := .ret (.bi .all [.comp (.call i_L_alike [.sub (.var 0) (.var 2), .sub (.var 1) (.var 2)]) (.bi .range [.bi .len [.var 1]]) none])
noncomputable def s_L_alike_0 : XS := .ite (.isi2 (.var 1) .tuple .list) [s_L_alike_0b0, s_L_alike_0b1, s_L_alike_0b2] []
noncomputable def s_L_alike_1b0 : XS := .ret (.ands [.isi (.var 0) .str, .cmp .Eq (.var 0) (.var 1)])
noncomputable def s_L_alike_1 : XS := .ite (.isi (.var 1) .str) [s_L_alike_1b0] []
noncomputable def s_L_alike_2b0 : XS := .ret (.cmp .Is (.var 0) .none)
noncomputable def s_L_alike_2 : XS := .ite (.cmp .Is (.var 1) .none) [s_L_alike_2b0] []
noncomputable def s_L_alike_3 : XS := .ret (.ands [.call i_L_whole [.var 0], .cmp .Eq (.var 0) (.var 1)])
noncomputable def ir_L_alike : FnIR := ⟨2, 2, [
  s_L_alike_0,
  s_L_alike_1,
  s_L_alike_2,
  s_L_alike_3]⟩
noncomputable def s_L_same_things_0b0 : XS := .ret (.bool false)
noncomputable def s_L_same_things_0 : XS := .ite (.ors [.not (.isi (.var 0) .dict), .cmp .NotEq (.bi .len [.var 0]) (.bi .len [.var 1])]) [s_L_same_things_0b0] []
noncomputable def s_L_same_things_1b0b0 : XS := .ret (.bool false)
noncomputable def s_L_same_things_1b0 : XS := .ite (.ors [.not (.call i_L_whole [.var 2]), .cmp .NotIn (.var 2) (.var 1)]) [s_L_same_things_1b0b0] []
noncomputable def s_L_same_things_1b1b0 : XS := .ret (.bool false)
noncomputable def s_L_same_things_1b1 : XS := .ite (.not (.call i_L_alike [.sub (.var 0) (.var 2), .sub (.var 1) (.var 2)])) [s_L_same_things_1b1b0] []
noncomputable def s_L_same_things_1 : XS := .for_ 2 (.bi .list [.var 0]) [s_L_same_things_1b0, s_L_same_things_1b1]
noncomputable def s_L_same_things_2 : XS := .ret (.bool true)
noncomputable def ir_L_same_things : FnIR := ⟨2, 3, [
  s_L_same_things_0,
  s_L_same_things_1,
  s_L_same_things_2]⟩
noncomputable def s_L_same_state_0b0 : XS := .ret (.bool false)
noncomputable def s_L_same_state_0 : XS := .ite (.ors [.not (.isi (.var 0) .tuple), .cmp .NotEq (.bi .len [.var 0]) (.int 3), .not (.isi (.sub (.var 0) (.int 1)) .list)]) [s_L_same_state_0b0] []
noncomputable def s_L_same_state_1 : XS := .ret (.ands [.call i_L_alike [.sub (.var 0) (.int 0), .sub (.var 1) (.int 0)], .call i_L_alike [.sub (.var 0) (.int 1), .sub (.var 1) (.int 1)], .call i_L_same_things [.sub (.var 0) (.int 2), .sub (.var 1) (.int 2)]])
noncomputable def ir_L_same_state : FnIR := ⟨2, 2, [
  s_L_same_state_0,
  s_L_same_state_1]⟩
noncomputable def s_L_copy_0 : XS := .ret (.tup [.sub (.var 0) (.int 0), .bi .list [.sub (.var 0) (.int 1)], .bi .dict [.sub (.var 0) (.int 2)]])
noncomputable def ir_L_copy : FnIR := ⟨1, 1, [
  s_L_copy_0]⟩
noncomputable def s_L_is_box_0 : XS := .ret (.ands [.isi (.var 0) .tuple, .cmp .Eq (.sub (.sub (.var 1) (.sub (.var 0) (.int 1))) (.int 0)) (.str "box")])
noncomputable def ir_L_is_box : FnIR := ⟨2, 2, [
  s_L_is_box_0]⟩
noncomputable def s_L_due_0 : XS := .asg 3 (.sub (.var 2) (.int 3))
noncomputable def s_L_due_1b0 : XS := .ret (.tup [.tup [.tup [.str "stuck", .str "empty"], .sub (.var 1) (.int 1), .sub (.var 1) (.int 2)], .none])
noncomputable def s_L_due_1 : XS := .ite (.cmp .Lt (.bi .len [.var 3]) (.sub (.list [.int 1, .int 2]) (.bi .int [.cmp .Eq (.sub (.var 0) (.int 0)) (.str "fill")]))) [s_L_due_1b0] []
noncomputable def s_L_due_2b0 : XS := .ret (.tup [.tup [.tup [.str "stuck", .str "kind"], .sub (.var 1) (.int 1), .sub (.var 1) (.int 2)], .none])
noncomputable def s_L_due_2 : XS := .ite (.ands [.cmp .Eq (.sub (.var 0) (.int 0)) (.str "open"), .not (.call i_L_is_box [.sub (.var 3) (.neg (.int 1)), .sub (.var 1) (.int 2)])]) [s_L_due_2b0] []
noncomputable def s_L_due_3b0 : XS := .ret (.tup [.tup [.tup [.str "stuck", .str "kind"], .sub (.var 1) (.int 1), .sub (.var 1) (.int 2)], .none])
noncomputable def s_L_due_3 : XS := .ite (.ands [.cmp .Eq (.sub (.var 0) (.int 0)) (.str "fill"), .not (.call i_L_is_box [.sub (.var 3) (.neg (.int 2)), .sub (.var 1) (.int 2)])]) [s_L_due_3b0] []
noncomputable def s_L_due_4 : XS := .asg 4 (.bi .dict [.sub (.var 1) (.int 2)])
noncomputable def s_L_due_5b0 : XS := .asg 5 (.int 0)
noncomputable def s_L_due_5b1b0 : XS := .asg 5 (.bi .max [.var 5, .bin .Add (.var 6) (.int 1)])
noncomputable def s_L_due_5b1 : XS := .for_ 6 (.bi .list [.var 4]) [s_L_due_5b1b0]
noncomputable def s_L_due_5b2 : XS := .sets (.var 4) (.var 5) (.tup [.str "box", .sub (.var 3) (.neg (.int 1))])
noncomputable def s_L_due_5b3 : XS := .asg 3 (.bin .Add (.slc (.var 3) none (some (.neg (.int 1)))) (.tup [.tup [.str "at", .var 5]]))
noncomputable def s_L_due_5e0b0 : XS := .asg 3 (.bin .Add (.slc (.var 3) none (some (.neg (.int 1)))) (.tup [.sub (.sub (.var 4) (.sub (.sub (.var 3) (.neg (.int 1))) (.int 1))) (.int 1)]))
noncomputable def s_L_due_5e0e0 : XS := .sets (.var 4) (.sub (.sub (.var 3) (.neg (.int 2))) (.int 1)) (.tup [.str "box", .sub (.var 3) (.neg (.int 1))])
noncomputable def s_L_due_5e0e1 : XS := .asg 3 (.slc (.var 3) none (some (.neg (.int 2))))
noncomputable def s_L_due_5e0 : XS := .ite (.cmp .Eq (.sub (.var 0) (.int 0)) (.str "open")) [s_L_due_5e0b0] [s_L_due_5e0e0, s_L_due_5e0e1]
noncomputable def s_L_due_5 : XS := .ite (.cmp .Eq (.sub (.var 0) (.int 0)) (.str "box")) [s_L_due_5b0, s_L_due_5b1, s_L_due_5b2, s_L_due_5b3] [s_L_due_5e0]
noncomputable def s_L_due_6 : XS := .ret (.tup [.tup [.none, .bin .Add (.slc (.sub (.var 1) (.int 1)) none (some (.neg (.int 1)))) (.list [.tup [.sub (.var 2) (.int 0), .bin .Add (.sub (.var 2) (.int 1)) (.int 1), .sub (.var 2) (.int 2), .var 3]]), .var 4], .none])
noncomputable def ir_L_due : FnIR := ⟨3, 7, [
  s_L_due_0,
  s_L_due_1,
  s_L_due_2,
  s_L_due_3,
  s_L_due_4,
  s_L_due_5,
  s_L_due_6]⟩
noncomputable def s_P_law_0 : XS := .asg 1 (.list [.str "box", .str "open", .str "fill"])
noncomputable def s_P_law_1 : XS := .asg 2 (.call i_L_program [.var 0, .bin .Add (.var 1) (.list [.str "drop"])])
noncomputable def s_P_law_2 : XS := .asg 3 (.call i_L_topped [.var 0, .var 2, .call i_L_state [.var 0, .var 2], .var 1])
noncomputable def s_P_law_3 : XS := .asg 4 (.call i_L_copy [.var 3])
noncomputable def s_P_law_4 : XS := .asgc 5 (.bi .list [.var 9]) (.var 2) none
noncomputable def s_P_law_5 : XS := .asg 6 (.call i_P_stepped [.var 5, .var 4])
noncomputable def s_P_law_6b0 : XS := .ret (.bool false)
noncomputable def s_P_law_6 : XS := .ite (.ors [.not (.isi (.var 6) .tuple), .cmp .NotEq (.bi .len [.var 6]) (.int 2), .cmp .NotEq (.var 5) (.var 2), .not (.call i_L_same_state [.var 4, .var 3])]) [s_P_law_6b0] []
noncomputable def s_P_law_7 : XS := .asg 7 (.sub (.sub (.var 3) (.int 1)) (.neg (.int 1)))
noncomputable def s_P_law_8 : XS := .asg 8 (.call i_L_due [.sub (.sub (.var 2) (.sub (.var 7) (.int 0))) (.sub (.var 7) (.int 1)), .var 3, .var 7])
noncomputable def s_P_law_9b0 : XS := .ret (.bool false)
noncomputable def s_P_law_9 : XS := .ite (.ors [.not (.call i_L_same_state [.sub (.var 6) (.int 0), .sub (.var 8) (.int 0)]), .not (.call i_L_alike [.sub (.var 6) (.int 1), .sub (.var 8) (.int 1)])]) [s_P_law_9b0] []
noncomputable def s_P_law_10 : XS := .expr (.me .append (.sub (.sub (.var 6) (.int 0)) (.int 1)) [.int 0])
noncomputable def s_P_law_11 : XS := .sets (.sub (.sub (.var 6) (.int 0)) (.int 2)) (.bin .Sub (.int 0) (.int 1)) (.int 0)
noncomputable def s_P_law_12 : XS := .ret (.ands [.call i_L_same_state [.var 4, .var 3], .call i_L_same_state [.sub (.call i_P_stepped [.var 5, .var 4]) (.int 0), .sub (.var 8) (.int 0)]])
noncomputable def ir_P_law : FnIR := ⟨1, 9, [
  s_P_law_0,
  s_P_law_1,
  s_P_law_2,
  s_P_law_3,
  s_P_law_4,
  s_P_law_5,
  s_P_law_6,
  s_P_law_7,
  s_P_law_8,
  s_P_law_9,
  s_P_law_10,
  s_P_law_11,
  s_P_law_12]⟩
noncomputable def tab : List Ent := [
  ⟨"is_at", ir_P_is_at, ["value"]⟩,
  ⟨"is_kind", ir_P_is_kind, ["value", "things", "word"]⟩,
  ⟨"lacks_own", ir_P_lacks_own, ["parts", "own"]⟩,
  ⟨"is_right", ir_P_is_right, ["word", "stack", "things"]⟩,
  ⟨"reckoned", ir_P_reckoned, ["word", "first", "second"]⟩,
  ⟨"is_great", ir_P_is_great, ["word", "stack"]⟩,
  ⟨"is_full", ir_P_is_full, ["word", "frames"]⟩,
  ⟨"stuck_word", ir_P_stuck_word, ["program", "frames", "things", "body", "place", "own", "stack", "parts", "word"]⟩,
  ⟨"called", ir_P_called, ["frames", "things", "body", "place", "own", "stack", "callee", "frame"]⟩,
  ⟨"gone_back", ir_P_gone_back, ["frames", "things", "value", "body", "place", "own", "stack"]⟩,
  ⟨"put_new", ir_P_put_new, ["things", "thing", "number"]⟩,
  ⟨"pushed", ir_P_pushed, ["parts", "own", "popped", "things", "word"]⟩,
  ⟨"place_behind", ir_P_place_behind, ["parts", "place", "popped"]⟩,
  ⟨"said_of", ir_P_said_of, ["value", "things"]⟩,
  ⟨"stepped", ir_P_stepped, ["program", "state", "end", "frames", "things", "stuck", "body", "place", "own", "stack", "parts", "after", "rest", "popped", "new", "said", "frame"]⟩,
  ⟨"_law_cell", ir_L_cell, ["_law_script", "_law_k", "_law_mixed", "_law_size"]⟩,
  ⟨"_law_raw", ir_L_raw, ["_law_script", "_law_k"]⟩,
  ⟨"_law_whole", ir_L_whole, ["_law_found"]⟩,
  ⟨"_law_number", ir_L_number, ["_law_script", "_law_k", "_law_cell_here"]⟩,
  ⟨"_law_value", ir_L_value, ["_law_script", "_law_k", "_law_names_here", "_law_cell_here"]⟩,
  ⟨"_law_values", ir_L_values, ["_law_script", "_law_k", "_law_many", "_law_names_here"]⟩,
  ⟨"_law_names", ir_L_names, ["_law_script", "_law_cell_here", "_law_many", "_law_step", "_law_names_here"]⟩,
  ⟨"_law_things", ir_L_things, ["_law_script", "_law_names_here", "_law_bodies", "_law_things_here", "_law_j", "_law_cell_here", "_law_kept"]⟩,
  ⟨"_law_frame", ir_L_frame, ["_law_script", "_law_k", "_law_program_here", "_law_names_here", "_law_cell_here", "_law_body", "_law_own", "_law_stack"]⟩,
  ⟨"_law_frames", ir_L_frames, ["_law_script", "_law_program_here", "_law_names_here", "_law_cell_here", "_law_many"]⟩,
  ⟨"_law_row", ir_L_row, ["_law_script", "_law_k", "_law_words", "_law_bodies", "_law_size", "_law_cell_here", "_law_word", "_law_more", "_law_far", "_law_kept"]⟩,
  ⟨"_law_program", ir_L_program, ["_law_script", "_law_words", "_law_cell_here", "_law_bodies", "_law_program_here", "_law_b", "_law_size", "_law_rows"]⟩,
  ⟨"_law_state", ir_L_state, ["_law_script", "_law_program_here", "_law_names_here"]⟩,
  ⟨"_law_topped", ir_L_topped, ["_law_script", "_law_program_here", "_law_state_here", "_law_words", "_law_frame_here", "_law_body", "_law_place", "_law_row_here"]⟩,
  ⟨"_law_alike", ir_L_alike, ["_law_found", "_law_due_here"]⟩,
  ⟨"_law_same_things", ir_L_same_things, ["_law_found", "_law_due_here", "_law_number_here"]⟩,
  ⟨"_law_same_state", ir_L_same_state, ["_law_found", "_law_due_here"]⟩,
  ⟨"_law_copy", ir_L_copy, ["_law_state_here"]⟩,
  ⟨"_law_is_box", ir_L_is_box, ["_law_value_here", "_law_things_here"]⟩,
  ⟨"_law_due", ir_L_due, ["_law_row_here", "_law_state_here", "_law_frame_here", "_law_stack", "_law_things_here", "_law_number_here", "_law_one"]⟩,
  ⟨"law", ir_P_law, ["_law_script", "_law_words", "_law_program_here", "_law_state_here", "_law_handed", "_law_given", "_law_found", "_law_frame_here", "_law_due_here"]⟩]
end Mine

set_option maxRecDepth 100000
set_option autoImplicit false
set_option linter.unusedSimpArgs false
set_option linter.unusedVariables false
namespace Mine
open PySem PyProof.Rows

section
variable {c : Cx} {n : Nat} {H : AH}
noncomputable def consts : List (Str × AV) := [((("MOST_NUMBER" : String) : Str), AV.int 1000000000000000000000000000000), ((("MOST_FRAMES" : String) : Str), AV.int 60), ((("MOST_VALUES" : String) : Str), AV.int 60), ((("POPS" : String) : Str), AV.ref 40)]
structure Tab (c : Cx) : Prop where
  fns : c.fns = tab.map fun t => (t.name, t.ir)
  cons : c.cons = consts
/-- a list of numbers -/
noncomputable def Ints (H : AH) (a : Nat) (N : List Int) : Prop := ∃ own, H a = some (.list own (N.map .int)) ∧ N.length ≤ 10000
theorem Ints.len {a : Nat} {N : List Int} (h : Ints H a N) {Q : AV → AH → Prop} (hq : Q (.int N.length) H) : biW .len [.ref a] H Q := by
  obtain ⟨own, h1, h2⟩ := h
  exact lenL h1 (by rw [List.length_map]; omega) (by rw [List.length_map]; exact hq)
theorem Ints.get {a : Nat} {N : List Int} (h : Ints H a N) {k : Int} (h0 : 0 ≤ k) (h1 : k < N.length) {Q : AV → AH → Prop} (hq : ∀ x, x ∈ N → Q (.int x) H) : getW (.ref a) (.int k) H Q := by
  obtain ⟨own, h2, h3⟩ := h
  have hk : k.toNat < N.length := by first | decide | with_reducible first | assumption | exact zm0 (by decide) | exact zm1 (by decide) (by decide) | exact zm3 (by assumption) (by decide) | omega
  refine getL h2 h0 (by rw [List.length_map]; omega) (x := .int N[k.toNat]) ?_ (hq _ (List.getElem_mem hk))
  rw [List.getElem?_map, List.getElem?_eq_getElem hk]; rfl
theorem Ints.grow {H' : AH} {a : Nat} {N : List Int} (h : Ints H a N) (g : ∀ a o, H a = some o → H' a = some o) : Ints H' a N := let ⟨own, h1, h2⟩ := h; ⟨own, g _ _ h1, h2⟩

theorem cell_ok (hc : Tab c) {a : Nat} {N : List Int} {k : Int} {Q : AV → AH → Prop} (hH : Ints H a N) (h0 : 0 ≤ k) (h1 : k ≤ 100000) (hQ : ∀ v : Int, 0 ≤ v → v < 1000003 → Q (.int v) H) :
    CW c (n + 1) i_L_cell [.ref a, .int k] H Q := by
  refine CW.run (f := "_law_cell") (ir := ir_L_cell) (by rw [hc.fns]; rfl) rfl ?_
  simp only [qx_1, qx_2, qx_3, qx_4, qx_5, qx_6, qx_7, qx_8, qx_9, qx_10, qx_11, qx_13, qx_15, qx_16, qx_17, qx_18, qx_19, qx_20, qx_21, qx_22, qx_23, qx_24, qx_25, qx_26, qt_1, qt_2, qt_3, qt_4, qt_5, qt_6, qt_7, qt_9, qt_10, qt_11, qt_12, qt_13, ql_1, ql_2, qa_1, qa_2, qb_1, qb_2, qo_1, qo_2, qc_1, qc_2, k_n, k_r, k_1, k_2, k_3, k_4, k_5, k_6, k_7, k_8, k_9, qs_1, add_i, sub_i, mul_i, div_i, mod_i, pow_i, eq_i, ne_i, eq_s, ne_s, eq_b, ne_b, lt_i, le_i, gt_i, ge_i, ret_v, ret_n, tru_b, vk_i, vk_s, vk_t, vk_n, vk_b, is_nn, is_in, is_sn, is_tn, is_rn, isn_nn, isn_tn, zn1, zn2, zn3, zn4, zn5, zn6, zn7, zn8, beq_self_eq_true, then_n, then_r, thenR_n, thenR_r, loop_n, loop_r, zl1, zl2, zl3, zl4, rng_1, rng_2, int_b, str_i, max_i, min_i, len_t, list_t, zl7, zl8, List.replicate, zl9, zl10, List.set, zl5, zl6, zo1, zo3, zo2, Nat.reduceSub, zl11, zl12, zn9, if_false, if_true, zn10, zn11, Bool.not_true, Bool.not_false, zn12, zn13, reduceCtorEq, zn15, zn14, zn18, zn16, zn17, forall_const, zb1, zb2, zb3, zb4, zb5, zb6, zb7, decide_true, decide_false, eq_self, ir_L_cell, s_L_cell_0, s_L_cell_1, s_L_cell_2b0, s_L_cell_2, s_L_cell_3, s_L_cell_4]
  refine ⟨.inr (by decide), hH.len ?_⟩
  simp only [qx_1, qx_2, qx_3, qx_4, qx_5, qx_6, qx_7, qx_8, qx_9, qx_10, qx_11, qx_13, qx_15, qx_16, qx_17, qx_18, qx_19, qx_20, qx_21, qx_22, qx_23, qx_24, qx_25, qx_26, qt_1, qt_2, qt_3, qt_4, qt_5, qt_6, qt_7, qt_9, qt_10, qt_11, qt_12, qt_13, ql_1, ql_2, qa_1, qa_2, qb_1, qb_2, qo_1, qo_2, qc_1, qc_2, k_n, k_r, k_1, k_2, k_3, k_4, k_5, k_6, k_7, k_8, k_9, qs_1, add_i, sub_i, mul_i, div_i, mod_i, pow_i, eq_i, ne_i, eq_s, ne_s, eq_b, ne_b, lt_i, le_i, gt_i, ge_i, ret_v, ret_n, tru_b, vk_i, vk_s, vk_t, vk_n, vk_b, is_nn, is_in, is_sn, is_tn, is_rn, isn_nn, isn_tn, zn1, zn2, zn3, zn4, zn5, zn6, zn7, zn8, beq_self_eq_true, then_n, then_r, thenR_n, thenR_r, loop_n, loop_r, zl1, zl2, zl3, zl4, rng_1, rng_2, int_b, str_i, max_i, min_i, len_t, list_t, zl7, zl8, List.replicate, zl9, zl10, List.set, zl5, zl6, zo1, zo3, zo2, Nat.reduceSub, zl11, zl12, zn9, if_false, if_true, zn10, zn11, Bool.not_true, Bool.not_false, zn12, zn13, reduceCtorEq, zn15, zn14, zn18, zn16, zn17, forall_const, zb1, zb2, zb3, zb4, zb5, zb6, zb7, decide_true, decide_false, eq_self]
  have fin : ∀ m : Int, (0 : Int) < 1000003 ∧ mulOk 2 k ∧ mulOk (m % 1000003) (m % 1000003 + 2 * k + 17) ∧ (0 : Int) < 1000003 ∧ Q (AV.int (m % 1000003 * (m % 1000003 + 2 * k + 17) % 1000003)) H := by
    intro m
    have b1 := Int.emod_nonneg m (b := 1000003) (by first | decide | with_reducible first | assumption | exact zm0 (by decide) | exact zm1 (by decide) (by decide) | exact zm3 (by assumption) (by decide) | omega)
    have b2 := Int.emod_lt_of_pos m (b := 1000003) (by first | decide | with_reducible first | assumption | exact zm0 (by decide) | exact zm1 (by decide) (by decide) | exact zm3 (by assumption) (by decide) | omega)
    exact ⟨by first | decide | with_reducible first | assumption | exact zm0 (by decide) | exact zm1 (by decide) (by decide) | exact zm3 (by assumption) (by decide) | omega, .inl (by decide), .inl (by first | decide | with_reducible first | assumption | exact zm0 (by decide) | exact zm1 (by decide) (by decide) | exact zm3 (by assumption) (by decide) | omega), by first | decide | with_reducible first | assumption | exact zm0 (by decide) | exact zm1 (by decide) (by decide) | exact zm3 (by assumption) (by decide) | omega, hQ _ (Int.emod_nonneg _ (by first | decide | with_reducible first | assumption | exact zm0 (by decide) | exact zm1 (by decide) (by decide) | exact zm3 (by assumption) (by decide) | omega)) (Int.emod_lt_of_pos _ (by first | decide | with_reducible first | assumption | exact zm0 (by decide) | exact zm1 (by decide) (by decide) | exact zm3 (by assumption) (by decide) | omega))⟩
  refine ⟨fun hp => ?_, fun _ => fin _⟩
  refine ⟨hp, hH.get (Int.emod_nonneg _ (by first | decide | with_reducible first | assumption | exact zm0 (by decide) | exact zm1 (by decide) (by decide) | exact zm3 (by assumption) (by decide) | omega)) (Int.emod_lt_of_pos _ hp) fun x _ => ?_⟩
  simp only [qx_1, qx_2, qx_3, qx_4, qx_5, qx_6, qx_7, qx_8, qx_9, qx_10, qx_11, qx_13, qx_15, qx_16, qx_17, qx_18, qx_19, qx_20, qx_21, qx_22, qx_23, qx_24, qx_25, qx_26, qt_1, qt_2, qt_3, qt_4, qt_5, qt_6, qt_7, qt_9, qt_10, qt_11, qt_12, qt_13, ql_1, ql_2, qa_1, qa_2, qb_1, qb_2, qo_1, qo_2, qc_1, qc_2, k_n, k_r, k_1, k_2, k_3, k_4, k_5, k_6, k_7, k_8, k_9, qs_1, add_i, sub_i, mul_i, div_i, mod_i, pow_i, eq_i, ne_i, eq_s, ne_s, eq_b, ne_b, lt_i, le_i, gt_i, ge_i, ret_v, ret_n, tru_b, vk_i, vk_s, vk_t, vk_n, vk_b, is_nn, is_in, is_sn, is_tn, is_rn, isn_nn, isn_tn, zn1, zn2, zn3, zn4, zn5, zn6, zn7, zn8, beq_self_eq_true, then_n, then_r, thenR_n, thenR_r, loop_n, loop_r, zl1, zl2, zl3, zl4, rng_1, rng_2, int_b, str_i, max_i, min_i, len_t, list_t, zl7, zl8, List.replicate, zl9, zl10, List.set, zl5, zl6, zo1, zo3, zo2, Nat.reduceSub, zl11, zl12, zn9, if_false, if_true, zn10, zn11, Bool.not_true, Bool.not_false, zn12, zn13, reduceCtorEq, zn15, zn14, zn18, zn16, zn17, forall_const, zb1, zb2, zb3, zb4, zb5, zb6, zb7, decide_true, decide_false, eq_self]
  obtain ⟨_, _, hN⟩ := hH
  exact ⟨.inr (by decide), hp, by first | decide | with_reducible first | assumption | exact zm0 (by decide) | exact zm1 (by decide) (by decide) | exact zm3 (by assumption) (by decide) | omega, .inr (by decide), fin _⟩

theorem raw_ok (hc : Tab c) {a : Nat} {N : List Int} {k : Int} {Q : AV → AH → Prop} (hH : Ints H a N) (h0 : 0 ≤ k) (hQ : ∀ v : Int, Q (.int v) H) :
    CW c (n + 1) i_L_raw [.ref a, .int k] H Q := by
  refine CW.run (f := "_law_raw") (ir := ir_L_raw) (by rw [hc.fns]; rfl) rfl ?_
  simp only [qx_1, qx_2, qx_3, qx_4, qx_5, qx_6, qx_7, qx_8, qx_9, qx_10, qx_11, qx_13, qx_15, qx_16, qx_17, qx_18, qx_19, qx_20, qx_21, qx_22, qx_23, qx_24, qx_25, qx_26, qt_1, qt_2, qt_3, qt_4, qt_5, qt_6, qt_7, qt_9, qt_10, qt_11, qt_12, qt_13, ql_1, ql_2, qa_1, qa_2, qb_1, qb_2, qo_1, qo_2, qc_1, qc_2, k_n, k_r, k_1, k_2, k_3, k_4, k_5, k_6, k_7, k_8, k_9, qs_1, add_i, sub_i, mul_i, div_i, mod_i, pow_i, eq_i, ne_i, eq_s, ne_s, eq_b, ne_b, lt_i, le_i, gt_i, ge_i, ret_v, ret_n, tru_b, vk_i, vk_s, vk_t, vk_n, vk_b, is_nn, is_in, is_sn, is_tn, is_rn, isn_nn, isn_tn, zn1, zn2, zn3, zn4, zn5, zn6, zn7, zn8, beq_self_eq_true, then_n, then_r, thenR_n, thenR_r, loop_n, loop_r, zl1, zl2, zl3, zl4, rng_1, rng_2, int_b, str_i, max_i, min_i, len_t, list_t, zl7, zl8, List.replicate, zl9, zl10, List.set, zl5, zl6, zo1, zo3, zo2, Nat.reduceSub, zl11, zl12, zn9, if_false, if_true, zn10, zn11, Bool.not_true, Bool.not_false, zn12, zn13, reduceCtorEq, zn15, zn14, zn18, zn16, zn17, forall_const, zb1, zb2, zb3, zb4, zb5, zb6, zb7, decide_true, decide_false, eq_self, ir_L_raw, s_L_raw_0b0, s_L_raw_0, s_L_raw_1]
  refine hH.len ?_
  simp only [qx_1, qx_2, qx_3, qx_4, qx_5, qx_6, qx_7, qx_8, qx_9, qx_10, qx_11, qx_13, qx_15, qx_16, qx_17, qx_18, qx_19, qx_20, qx_21, qx_22, qx_23, qx_24, qx_25, qx_26, qt_1, qt_2, qt_3, qt_4, qt_5, qt_6, qt_7, qt_9, qt_10, qt_11, qt_12, qt_13, ql_1, ql_2, qa_1, qa_2, qb_1, qb_2, qo_1, qo_2, qc_1, qc_2, k_n, k_r, k_1, k_2, k_3, k_4, k_5, k_6, k_7, k_8, k_9, qs_1, add_i, sub_i, mul_i, div_i, mod_i, pow_i, eq_i, ne_i, eq_s, ne_s, eq_b, ne_b, lt_i, le_i, gt_i, ge_i, ret_v, ret_n, tru_b, vk_i, vk_s, vk_t, vk_n, vk_b, is_nn, is_in, is_sn, is_tn, is_rn, isn_nn, isn_tn, zn1, zn2, zn3, zn4, zn5, zn6, zn7, zn8, beq_self_eq_true, then_n, then_r, thenR_n, thenR_r, loop_n, loop_r, zl1, zl2, zl3, zl4, rng_1, rng_2, int_b, str_i, max_i, min_i, len_t, list_t, zl7, zl8, List.replicate, zl9, zl10, List.set, zl5, zl6, zo1, zo3, zo2, Nat.reduceSub, zl11, zl12, zn9, if_false, if_true, zn10, zn11, Bool.not_true, Bool.not_false, zn12, zn13, reduceCtorEq, zn15, zn14, zn18, zn16, zn17, forall_const, zb1, zb2, zb3, zb4, zb5, zb6, zb7, decide_true, decide_false, eq_self]
  refine ⟨fun _ => ⟨.inr (by decide), hQ _⟩, fun hp => hH.len ?_⟩
  obtain ⟨_, _, hN⟩ := id hH
  simp only [qx_1, qx_2, qx_3, qx_4, qx_5, qx_6, qx_7, qx_8, qx_9, qx_10, qx_11, qx_13, qx_15, qx_16, qx_17, qx_18, qx_19, qx_20, qx_21, qx_22, qx_23, qx_24, qx_25, qx_26, qt_1, qt_2, qt_3, qt_4, qt_5, qt_6, qt_7, qt_9, qt_10, qt_11, qt_12, qt_13, ql_1, ql_2, qa_1, qa_2, qb_1, qb_2, qo_1, qo_2, qc_1, qc_2, k_n, k_r, k_1, k_2, k_3, k_4, k_5, k_6, k_7, k_8, k_9, qs_1, add_i, sub_i, mul_i, div_i, mod_i, pow_i, eq_i, ne_i, eq_s, ne_s, eq_b, ne_b, lt_i, le_i, gt_i, ge_i, ret_v, ret_n, tru_b, vk_i, vk_s, vk_t, vk_n, vk_b, is_nn, is_in, is_sn, is_tn, is_rn, isn_nn, isn_tn, zn1, zn2, zn3, zn4, zn5, zn6, zn7, zn8, beq_self_eq_true, then_n, then_r, thenR_n, thenR_r, loop_n, loop_r, zl1, zl2, zl3, zl4, rng_1, rng_2, int_b, str_i, max_i, min_i, len_t, list_t, zl7, zl8, List.replicate, zl9, zl10, List.set, zl5, zl6, zo1, zo3, zo2, Nat.reduceSub, zl11, zl12, zn9, if_false, if_true, zn10, zn11, Bool.not_true, Bool.not_false, zn12, zn13, reduceCtorEq, zn15, zn14, zn18, zn16, zn17, forall_const, zb1, zb2, zb3, zb4, zb5, zb6, zb7, decide_true, decide_false, eq_self]
  refine ⟨by first | decide | with_reducible first | assumption | exact zm0 (by decide) | exact zm1 (by decide) (by decide) | exact zm3 (by assumption) (by decide) | omega, hH.get (Int.emod_nonneg _ (by first | decide | with_reducible first | assumption | exact zm0 (by decide) | exact zm1 (by decide) (by decide) | exact zm3 (by assumption) (by decide) | omega)) (Int.emod_lt_of_pos _ (by first | decide | with_reducible first | assumption | exact zm0 (by decide) | exact zm1 (by decide) (by decide) | exact zm3 (by assumption) (by decide) | omega)) fun x _ => hH.len ?_⟩
  simp only [qx_1, qx_2, qx_3, qx_4, qx_5, qx_6, qx_7, qx_8, qx_9, qx_10, qx_11, qx_13, qx_15, qx_16, qx_17, qx_18, qx_19, qx_20, qx_21, qx_22, qx_23, qx_24, qx_25, qx_26, qt_1, qt_2, qt_3, qt_4, qt_5, qt_6, qt_7, qt_9, qt_10, qt_11, qt_12, qt_13, ql_1, ql_2, qa_1, qa_2, qb_1, qb_2, qo_1, qo_2, qc_1, qc_2, k_n, k_r, k_1, k_2, k_3, k_4, k_5, k_6, k_7, k_8, k_9, qs_1, add_i, sub_i, mul_i, div_i, mod_i, pow_i, eq_i, ne_i, eq_s, ne_s, eq_b, ne_b, lt_i, le_i, gt_i, ge_i, ret_v, ret_n, tru_b, vk_i, vk_s, vk_t, vk_n, vk_b, is_nn, is_in, is_sn, is_tn, is_rn, isn_nn, isn_tn, zn1, zn2, zn3, zn4, zn5, zn6, zn7, zn8, beq_self_eq_true, then_n, then_r, thenR_n, thenR_r, loop_n, loop_r, zl1, zl2, zl3, zl4, rng_1, rng_2, int_b, str_i, max_i, min_i, len_t, list_t, zl7, zl8, List.replicate, zl9, zl10, List.set, zl5, zl6, zo1, zo3, zo2, Nat.reduceSub, zl11, zl12, zn9, if_false, if_true, zn10, zn11, Bool.not_true, Bool.not_false, zn12, zn13, reduceCtorEq, zn15, zn14, zn18, zn16, zn17, forall_const, zb1, zb2, zb3, zb4, zb5, zb6, zb7, decide_true, decide_false, eq_self]
  exact ⟨by first | decide | with_reducible first | assumption | exact zm0 (by decide) | exact zm1 (by decide) (by decide) | exact zm3 (by assumption) (by decide) | omega, by first | decide | with_reducible first | assumption | exact zm0 (by decide) | exact zm1 (by decide) (by decide) | exact zm3 (by assumption) (by decide) | omega, .inr (by decide), hQ _⟩

theorem number_ok (hc : Tab c) {a : Nat} {N : List Int} {k : Int} {Q : AV → AH → Prop} (hH : Ints H a N) (h0 : 0 ≤ k) (h1 : k ≤ 100000) (hQ : ∀ v : Int, v.natAbs ≤ 10 ^ 30 → Q (.int v) H) :
    CW c (n + 2) i_L_number [.ref a, .int k] H Q := by
  refine CW.pure (CW.run (f := "_law_number") (ir := ir_L_number) (by rw [hc.fns]; rfl) rfl ?_)
  simp only [qx_1, qx_2, qx_3, qx_4, qx_5, qx_6, qx_7, qx_8, qx_9, qx_10, qx_11, qx_13, qx_15, qx_16, qx_17, qx_18, qx_19, qx_20, qx_21, qx_22, qx_23, qx_24, qx_25, qx_26, qt_1, qt_2, qt_3, qt_4, qt_5, qt_6, qt_7, qt_9, qt_10, qt_11, qt_12, qt_13, ql_1, ql_2, qa_1, qa_2, qb_1, qb_2, qo_1, qo_2, qc_1, qc_2, k_n, k_r, k_1, k_2, k_3, k_4, k_5, k_6, k_7, k_8, k_9, qs_1, add_i, sub_i, mul_i, div_i, mod_i, pow_i, eq_i, ne_i, eq_s, ne_s, eq_b, ne_b, lt_i, le_i, gt_i, ge_i, ret_v, ret_n, tru_b, vk_i, vk_s, vk_t, vk_n, vk_b, is_nn, is_in, is_sn, is_tn, is_rn, isn_nn, isn_tn, zn1, zn2, zn3, zn4, zn5, zn6, zn7, zn8, beq_self_eq_true, then_n, then_r, thenR_n, thenR_r, loop_n, loop_r, zl1, zl2, zl3, zl4, rng_1, rng_2, int_b, str_i, max_i, min_i, len_t, list_t, zl7, zl8, List.replicate, zl9, zl10, List.set, zl5, zl6, zo1, zo3, zo2, Nat.reduceSub, zl11, zl12, zn9, if_false, if_true, zn10, zn11, Bool.not_true, Bool.not_false, zn12, zn13, reduceCtorEq, zn15, zn14, zn18, zn16, zn17, forall_const, zb1, zb2, zb3, zb4, zb5, zb6, zb7, decide_true, decide_false, eq_self, ir_L_number, s_L_number_0, s_L_number_1b0, s_L_number_1, s_L_number_2b0, s_L_number_2, s_L_number_3]
  refine cell_ok hc hH h0 h1 fun v hv0 hv1 => ?_
  simp only [qx_1, qx_2, qx_3, qx_4, qx_5, qx_6, qx_7, qx_8, qx_9, qx_10, qx_11, qx_13, qx_15, qx_16, qx_17, qx_18, qx_19, qx_20, qx_21, qx_22, qx_23, qx_24, qx_25, qx_26, qt_1, qt_2, qt_3, qt_4, qt_5, qt_6, qt_7, qt_9, qt_10, qt_11, qt_12, qt_13, ql_1, ql_2, qa_1, qa_2, qb_1, qb_2, qo_1, qo_2, qc_1, qc_2, k_n, k_r, k_1, k_2, k_3, k_4, k_5, k_6, k_7, k_8, k_9, qs_1, add_i, sub_i, mul_i, div_i, mod_i, pow_i, eq_i, ne_i, eq_s, ne_s, eq_b, ne_b, lt_i, le_i, gt_i, ge_i, ret_v, ret_n, tru_b, vk_i, vk_s, vk_t, vk_n, vk_b, is_nn, is_in, is_sn, is_tn, is_rn, isn_nn, isn_tn, zn1, zn2, zn3, zn4, zn5, zn6, zn7, zn8, beq_self_eq_true, then_n, then_r, thenR_n, thenR_r, loop_n, loop_r, zl1, zl2, zl3, zl4, rng_1, rng_2, int_b, str_i, max_i, min_i, len_t, list_t, zl7, zl8, List.replicate, zl9, zl10, List.set, zl5, zl6, zo1, zo3, zo2, Nat.reduceSub, zl11, zl12, zn9, if_false, if_true, zn10, zn11, Bool.not_true, Bool.not_false, zn12, zn13, reduceCtorEq, zn15, zn14, zn18, zn16, zn17, forall_const, zb1, zb2, zb3, zb4, zb5, zb6, zb7, decide_true, decide_false, eq_self]
  refine ⟨by first | decide | with_reducible first | assumption | exact zm0 (by decide) | exact zm1 (by decide) (by decide) | exact zm3 (by assumption) (by decide) | omega, fun _ => ?_, fun _ => ⟨by first | decide | with_reducible first | assumption | exact zm0 (by decide) | exact zm1 (by decide) (by decide) | exact zm3 (by assumption) (by decide) | omega, fun _ => ?_, fun _ => ⟨by first | decide | with_reducible first | assumption | exact zm0 (by decide) | exact zm1 (by decide) (by decide) | exact zm3 (by assumption) (by decide) | omega, by first | decide | with_reducible first | assumption | exact zm0 (by decide) | exact zm1 (by decide) (by decide) | exact zm3 (by assumption) (by decide) | omega, by first | decide | with_reducible first | assumption | exact zm0 (by decide) | exact zm1 (by decide) (by decide) | exact zm3 (by assumption) (by decide) | omega, fun _ _ h => h, hQ _ (by first | decide | with_reducible first | assumption | exact zm0 (by decide) | exact zm1 (by decide) (by decide) | exact zm3 (by assumption) (by decide) | omega)⟩⟩⟩
  · refine raw_ok hc hH h0 fun w => ?_
    simp only [qx_1, qx_2, qx_3, qx_4, qx_5, qx_6, qx_7, qx_8, qx_9, qx_10, qx_11, qx_13, qx_15, qx_16, qx_17, qx_18, qx_19, qx_20, qx_21, qx_22, qx_23, qx_24, qx_25, qx_26, qt_1, qt_2, qt_3, qt_4, qt_5, qt_6, qt_7, qt_9, qt_10, qt_11, qt_12, qt_13, ql_1, ql_2, qa_1, qa_2, qb_1, qb_2, qo_1, qo_2, qc_1, qc_2, k_n, k_r, k_1, k_2, k_3, k_4, k_5, k_6, k_7, k_8, k_9, qs_1, add_i, sub_i, mul_i, div_i, mod_i, pow_i, eq_i, ne_i, eq_s, ne_s, eq_b, ne_b, lt_i, le_i, gt_i, ge_i, ret_v, ret_n, tru_b, vk_i, vk_s, vk_t, vk_n, vk_b, is_nn, is_in, is_sn, is_tn, is_rn, isn_nn, isn_tn, zn1, zn2, zn3, zn4, zn5, zn6, zn7, zn8, beq_self_eq_true, then_n, then_r, thenR_n, thenR_r, loop_n, loop_r, zl1, zl2, zl3, zl4, rng_1, rng_2, int_b, str_i, max_i, min_i, len_t, list_t, zl7, zl8, List.replicate, zl9, zl10, List.set, zl5, zl6, zo1, zo3, zo2, Nat.reduceSub, zl11, zl12, zn9, if_false, if_true, zn10, zn11, Bool.not_true, Bool.not_false, zn12, zn13, reduceCtorEq, zn15, zn14, zn18, zn16, zn17, forall_const, zb1, zb2, zb3, zb4, zb5, zb6, zb7, decide_true, decide_false, eq_self]
    have e30 : (10 : Int) ^ (30 : Int).toNat = 1000000000000000000000000000000 := by decide
    rw [e30]
    exact ⟨by first | decide | with_reducible first | assumption | exact zm0 (by decide) | exact zm1 (by decide) (by decide) | exact zm3 (by assumption) (by decide) | omega, by first | decide | with_reducible first | assumption | exact zm0 (by decide) | exact zm1 (by decide) (by decide) | exact zm3 (by assumption) (by decide) | omega, by first | decide | with_reducible first | assumption | exact zm0 (by decide) | exact zm1 (by decide) (by decide) | exact zm3 (by assumption) (by decide) | omega, by first | decide | with_reducible first | assumption | exact zm0 (by decide) | exact zm1 (by decide) (by decide) | exact zm3 (by assumption) (by decide) | omega, .inl (by decide), by decide, by first | decide | with_reducible first | assumption | exact zm0 (by decide) | exact zm1 (by decide) (by decide) | exact zm3 (by assumption) (by decide) | omega, by first | decide | with_reducible first | assumption | exact zm0 (by decide) | exact zm1 (by decide) (by decide) | exact zm3 (by assumption) (by decide) | omega, by first | decide | with_reducible first | assumption | exact zm0 (by decide) | exact zm1 (by decide) (by decide) | exact zm3 (by assumption) (by decide) | omega, by first | decide | with_reducible first | assumption | exact zm0 (by decide) | exact zm1 (by decide) (by decide) | exact zm3 (by assumption) (by decide) | omega, fun _ _ h => h, hQ _ (by first | decide | with_reducible first | assumption | exact zm0 (by decide) | exact zm1 (by decide) (by decide) | exact zm3 (by assumption) (by decide) | omega)⟩
  · refine ⟨by first | decide | with_reducible first | assumption | exact zm0 (by decide) | exact zm1 (by decide) (by decide) | exact zm3 (by assumption) (by decide) | omega, by first | decide | with_reducible first | assumption | exact zm0 (by decide) | exact zm1 (by decide) (by decide) | exact zm3 (by assumption) (by decide) | omega, by first | decide | with_reducible first | assumption | exact zm0 (by decide) | exact zm1 (by decide) (by decide) | exact zm3 (by assumption) (by decide) | omega, by first | decide | with_reducible first | assumption | exact zm0 (by decide) | exact zm1 (by decide) (by decide) | exact zm3 (by assumption) (by decide) | omega, by first | decide | with_reducible first | assumption | exact zm0 (by decide) | exact zm1 (by decide) (by decide) | exact zm3 (by assumption) (by decide) | omega, by first | decide | with_reducible first | assumption | exact zm0 (by decide) | exact zm1 (by decide) (by decide) | exact zm3 (by assumption) (by decide) | omega, by first | decide | with_reducible first | assumption | exact zm0 (by decide) | exact zm1 (by decide) (by decide) | exact zm3 (by assumption) (by decide) | omega, by first | decide | with_reducible first | assumption | exact zm0 (by decide) | exact zm1 (by decide) (by decide) | exact zm3 (by assumption) (by decide) | omega, by first | decide | with_reducible first | assumption | exact zm0 (by decide) | exact zm1 (by decide) (by decide) | exact zm3 (by assumption) (by decide) | omega, by first | decide | with_reducible first | assumption | exact zm0 (by decide) | exact zm1 (by decide) (by decide) | exact zm3 (by assumption) (by decide) | omega, by first | decide | with_reducible first | assumption | exact zm0 (by decide) | exact zm1 (by decide) (by decide) | exact zm3 (by assumption) (by decide) | omega, by first | decide | with_reducible first | assumption | exact zm0 (by decide) | exact zm1 (by decide) (by decide) | exact zm3 (by assumption) (by decide) | omega, by first | decide | with_reducible first | assumption | exact zm0 (by decide) | exact zm1 (by decide) (by decide) | exact zm3 (by assumption) (by decide) | omega, by first | decide | with_reducible first | assumption | exact zm0 (by decide) | exact zm1 (by decide) (by decide) | exact zm3 (by assumption) (by decide) | omega, by first | decide | with_reducible first | assumption | exact zm0 (by decide) | exact zm1 (by decide) (by decide) | exact zm3 (by assumption) (by decide) | omega, by first | decide | with_reducible first | assumption | exact zm0 (by decide) | exact zm1 (by decide) (by decide) | exact zm3 (by assumption) (by decide) | omega, by first | decide | with_reducible first | assumption | exact zm0 (by decide) | exact zm1 (by decide) (by decide) | exact zm3 (by assumption) (by decide) | omega, by first | decide | with_reducible first | assumption | exact zm0 (by decide) | exact zm1 (by decide) (by decide) | exact zm3 (by assumption) (by decide) | omega, by first | decide | with_reducible first | assumption | exact zm0 (by decide) | exact zm1 (by decide) (by decide) | exact zm3 (by assumption) (by decide) | omega, by first | decide | with_reducible first | assumption | exact zm0 (by decide) | exact zm1 (by decide) (by decide) | exact zm3 (by assumption) (by decide) | omega, by simp, fun r hr => ?_⟩
    refine ⟨by first | decide | with_reducible first | assumption | exact zm0 (by decide) | exact zm1 (by decide) (by decide) | exact zm3 (by assumption) (by decide) | omega, by first | decide | with_reducible first | assumption | exact zm0 (by decide) | exact zm1 (by decide) (by decide) | exact zm3 (by assumption) (by decide) | omega, by first | decide | with_reducible first | assumption | exact zm0 (by decide) | exact zm1 (by decide) (by decide) | exact zm3 (by assumption) (by decide) | omega, ?_⟩
    generalize hl : [AV.int ((10 : Int) ^ (30 : Int).toNat), AV.int (0 - (10 : Int) ^ (30 : Int).toNat), AV.int ((10 : Int) ^ (30 : Int).toNat - 1), AV.int 0, AV.int ((10 : Int) ^ (15 : Int).toNat), AV.int (0 - (10 : Int) ^ (15 : Int).toNat - 1)] = l
    have hlen : l.length = 6 := by rw [← hl]; rfl
    have hall : ∀ x ∈ l, ∃ i, x = AV.int i ∧ i.natAbs ≤ 10 ^ 30 := by rw [← hl]; intro x hx; simp only [List.mem_cons, List.not_mem_nil, or_false] at hx; rcases hx with rfl | rfl | rfl | rfl | rfl | rfl <;> exact ⟨_, rfl, by decide⟩
    have hk : (v / 6 % 6).toNat < l.length := by first | decide | with_reducible first | assumption | exact zm0 (by decide) | exact zm1 (by decide) (by decide) | exact zm3 (by assumption) (by decide) | omega
    refine getL (H := H.set r (.list true l)) (AH.set_self _ _ _) (by first | decide | with_reducible first | assumption | exact zm0 (by decide) | exact zm1 (by decide) (by decide) | exact zm3 (by assumption) (by decide) | omega) (by first | decide | with_reducible first | assumption | exact zm0 (by decide) | exact zm1 (by decide) (by decide) | exact zm3 (by assumption) (by decide) | omega) (List.getElem?_eq_getElem hk) ?_
    obtain ⟨i, hi, hi2⟩ := hall _ (List.getElem_mem hk)
    rw [hi]
    exact ⟨fun _ _ h => AH.set_of h hr, hQ _ hi2⟩

/-- a value: a number or a place that has a name -/
noncomputable def IsVal (N : List Int) (v : AV) : Prop := (∃ i, v = .int i ∧ i.natAbs ≤ 10 ^ 30) ∨ ∃ x ∈ N, v = .tup [.str "at", .int x]

theorem value_ok (hc : Tab c) {a b : Nat} {S N : List Int} {k : Int} {Q : AV → AH → Prop} (hS : Ints H a S) (hN : Ints H b N) (h0 : 0 ≤ k) (h1 : k ≤ 90000) (hQ : ∀ v, IsVal N v → Q v H) :
    CW c (n + 3) i_L_value [.ref a, .int k, .ref b] H Q := by
  refine CW.pure (CW.run (f := "_law_value") (ir := ir_L_value) (by rw [hc.fns]; rfl) rfl ?_)
  simp only [qx_1, qx_2, qx_3, qx_4, qx_5, qx_6, qx_7, qx_8, qx_9, qx_10, qx_11, qx_13, qx_15, qx_16, qx_17, qx_18, qx_19, qx_20, qx_21, qx_22, qx_23, qx_24, qx_25, qx_26, qt_1, qt_2, qt_3, qt_4, qt_5, qt_6, qt_7, qt_9, qt_10, qt_11, qt_12, qt_13, ql_1, ql_2, qa_1, qa_2, qb_1, qb_2, qo_1, qo_2, qc_1, qc_2, k_n, k_r, k_1, k_2, k_3, k_4, k_5, k_6, k_7, k_8, k_9, qs_1, add_i, sub_i, mul_i, div_i, mod_i, pow_i, eq_i, ne_i, eq_s, ne_s, eq_b, ne_b, lt_i, le_i, gt_i, ge_i, ret_v, ret_n, tru_b, vk_i, vk_s, vk_t, vk_n, vk_b, is_nn, is_in, is_sn, is_tn, is_rn, isn_nn, isn_tn, zn1, zn2, zn3, zn4, zn5, zn6, zn7, zn8, beq_self_eq_true, then_n, then_r, thenR_n, thenR_r, loop_n, loop_r, zl1, zl2, zl3, zl4, rng_1, rng_2, int_b, str_i, max_i, min_i, len_t, list_t, zl7, zl8, List.replicate, zl9, zl10, List.set, zl5, zl6, zo1, zo3, zo2, Nat.reduceSub, zl11, zl12, zn9, if_false, if_true, zn10, zn11, Bool.not_true, Bool.not_false, zn12, zn13, reduceCtorEq, zn15, zn14, zn18, zn16, zn17, forall_const, zb1, zb2, zb3, zb4, zb5, zb6, zb7, decide_true, decide_false, eq_self, ir_L_value, s_L_value_0, s_L_value_1b0, s_L_value_1, s_L_value_2]
  refine cell_ok hc hS (by first | decide | with_reducible first | assumption | exact zm0 (by decide) | exact zm1 (by decide) (by decide) | exact zm3 (by assumption) (by decide) | omega) (by first | decide | with_reducible first | assumption | exact zm0 (by decide) | exact zm1 (by decide) (by decide) | exact zm3 (by assumption) (by decide) | omega) fun v hv0 hv1 => ?_
  refine ⟨by simp, fun r hr => ?_⟩
  obtain ⟨own, hb, hb2⟩ := id hN
  refine eqLn (AH.set_of hb hr) (AH.set_self _ _ _) ?_
  simp only [qx_1, qx_2, qx_3, qx_4, qx_5, qx_6, qx_7, qx_8, qx_9, qx_10, qx_11, qx_13, qx_15, qx_16, qx_17, qx_18, qx_19, qx_20, qx_21, qx_22, qx_23, qx_24, qx_25, qx_26, qt_1, qt_2, qt_3, qt_4, qt_5, qt_6, qt_7, qt_9, qt_10, qt_11, qt_12, qt_13, ql_1, ql_2, qa_1, qa_2, qb_1, qb_2, qo_1, qo_2, qc_1, qc_2, k_n, k_r, k_1, k_2, k_3, k_4, k_5, k_6, k_7, k_8, k_9, qs_1, add_i, sub_i, mul_i, div_i, mod_i, pow_i, eq_i, ne_i, eq_s, ne_s, eq_b, ne_b, lt_i, le_i, gt_i, ge_i, ret_v, ret_n, tru_b, vk_i, vk_s, vk_t, vk_n, vk_b, is_nn, is_in, is_sn, is_tn, is_rn, isn_nn, isn_tn, zn1, zn2, zn3, zn4, zn5, zn6, zn7, zn8, beq_self_eq_true, then_n, then_r, thenR_n, thenR_r, loop_n, loop_r, zl1, zl2, zl3, zl4, rng_1, rng_2, int_b, str_i, max_i, min_i, len_t, list_t, zl7, zl8, List.replicate, zl9, zl10, List.set, zl5, zl6, zo1, zo3, zo2, Nat.reduceSub, zl11, zl12, zn9, if_false, if_true, zn10, zn11, Bool.not_true, Bool.not_false, zn12, zn13, reduceCtorEq, zn15, zn14, zn18, zn16, zn17, forall_const, zb1, zb2, zb3, zb4, zb5, zb6, zb7, decide_true, decide_false, eq_self]
  have g : ∀ (a : Nat) (o : AObj), H a = some o → H.set r (.list true []) a = some o := fun _ _ h => AH.set_of h hr
  have tail : CW c (n + 2) i_L_number [.ref a, .int k] (H.set r (.list true [])) fun v H1 => (∀ (a : Nat) (o : AObj), H a = some o → H1 a = some o) ∧ Q v H :=
    number_ok hc (hS.grow g) h0 (by first | decide | with_reducible first | assumption | exact zm0 (by decide) | exact zm1 (by decide) (by decide) | exact zm3 (by assumption) (by decide) | omega) fun v hv => ⟨g, hQ _ (.inl ⟨_, rfl, hv⟩)⟩
  refine ⟨fun hne => ⟨by first | decide | with_reducible first | assumption | exact zm0 (by decide) | exact zm1 (by decide) (by decide) | exact zm3 (by assumption) (by decide) | omega, fun _ => ⟨by first | decide | with_reducible first | assumption | exact zm0 (by decide) | exact zm1 (by decide) (by decide) | exact zm3 (by assumption) (by decide) | omega, by first | decide | with_reducible first | assumption | exact zm0 (by decide) | exact zm1 (by decide) (by decide) | exact zm3 (by assumption) (by decide) | omega, (hN.grow g).len ?_⟩, fun _ => tail⟩, fun _ => tail⟩
  simp only [qx_1, qx_2, qx_3, qx_4, qx_5, qx_6, qx_7, qx_8, qx_9, qx_10, qx_11, qx_13, qx_15, qx_16, qx_17, qx_18, qx_19, qx_20, qx_21, qx_22, qx_23, qx_24, qx_25, qx_26, qt_1, qt_2, qt_3, qt_4, qt_5, qt_6, qt_7, qt_9, qt_10, qt_11, qt_12, qt_13, ql_1, ql_2, qa_1, qa_2, qb_1, qb_2, qo_1, qo_2, qc_1, qc_2, k_n, k_r, k_1, k_2, k_3, k_4, k_5, k_6, k_7, k_8, k_9, qs_1, add_i, sub_i, mul_i, div_i, mod_i, pow_i, eq_i, ne_i, eq_s, ne_s, eq_b, ne_b, lt_i, le_i, gt_i, ge_i, ret_v, ret_n, tru_b, vk_i, vk_s, vk_t, vk_n, vk_b, is_nn, is_in, is_sn, is_tn, is_rn, isn_nn, isn_tn, zn1, zn2, zn3, zn4, zn5, zn6, zn7, zn8, beq_self_eq_true, then_n, then_r, thenR_n, thenR_r, loop_n, loop_r, zl1, zl2, zl3, zl4, rng_1, rng_2, int_b, str_i, max_i, min_i, len_t, list_t, zl7, zl8, List.replicate, zl9, zl10, List.set, zl5, zl6, zo1, zo3, zo2, Nat.reduceSub, zl11, zl12, zn9, if_false, if_true, zn10, zn11, Bool.not_true, Bool.not_false, zn12, zn13, reduceCtorEq, zn15, zn14, zn18, zn16, zn17, forall_const, zb1, zb2, zb3, zb4, zb5, zb6, zb7, decide_true, decide_false, eq_self]
  have hpos : 0 < N.length := by
    cases N with
    | nil => simp at hne
    | cons => simp
  refine ⟨by first | decide | with_reducible first | assumption | exact zm0 (by decide) | exact zm1 (by decide) (by decide) | exact zm3 (by assumption) (by decide) | omega, (hN.grow g).get (Int.emod_nonneg _ (by first | decide | with_reducible first | assumption | exact zm0 (by decide) | exact zm1 (by decide) (by decide) | exact zm3 (by assumption) (by decide) | omega)) (Int.emod_lt_of_pos _ (by first | decide | with_reducible first | assumption | exact zm0 (by decide) | exact zm1 (by decide) (by decide) | exact zm3 (by assumption) (by decide) | omega)) fun x hx => ⟨by simp, g, hQ _ (.inr ⟨x, hx, rfl⟩)⟩⟩
end
end Mine

set_option maxRecDepth 100000
set_option autoImplicit false
set_option linter.unusedSimpArgs false
set_option linter.unusedVariables false
namespace Mine
open PySem PyProof.Rows

section
variable {c : Cx} {n : Nat} {H : AH}

theorem values_ok (hc : Tab c) {a b : Nat} {S N : List Int} {k m : Int} {Q : AV → AH → Prop} (hS : Ints H a S) (hN : Ints H b N) (h0 : 0 ≤ k) (h1 : k ≤ 80000) (hm0 : 0 ≤ m) (hm1 : m ≤ 100)
    (hQ : ∀ l : List AV, (l.length : Int) ≤ m → (∀ v ∈ l, IsVal N v) → Q (.tup l) H) : CW c (n + 4) i_L_values [.ref a, .int k, .int m, .ref b] H Q := by
  refine CW.pure (CW.run (f := "_law_values") (ir := ir_L_values) (by rw [hc.fns]; rfl) rfl ?_)
  simp only [qx_1, qx_2, qx_3, qx_4, qx_5, qx_6, qx_7, qx_8, qx_9, qx_10, qx_11, qx_13, qx_15, qx_16, qx_17, qx_18, qx_19, qx_20, qx_21, qx_22, qx_23, qx_24, qx_25, qx_26, qt_1, qt_2, qt_3, qt_4, qt_5, qt_6, qt_7, qt_9, qt_10, qt_11, qt_12, qt_13, ql_1, ql_2, qa_1, qa_2, qb_1, qb_2, qo_1, qo_2, qc_1, qc_2, k_n, k_r, k_1, k_2, k_3, k_4, k_5, k_6, k_7, k_8, k_9, qs_1, add_i, sub_i, mul_i, div_i, mod_i, pow_i, eq_i, ne_i, eq_s, ne_s, eq_b, ne_b, lt_i, le_i, gt_i, ge_i, ret_v, ret_n, tru_b, vk_i, vk_s, vk_t, vk_n, vk_b, is_nn, is_in, is_sn, is_tn, is_rn, isn_nn, isn_tn, zn1, zn2, zn3, zn4, zn5, zn6, zn7, zn8, beq_self_eq_true, then_n, then_r, thenR_n, thenR_r, loop_n, loop_r, zl1, zl2, zl3, zl4, rng_1, rng_2, int_b, str_i, max_i, min_i, len_t, list_t, zl7, zl8, List.replicate, zl9, zl10, List.set, zl5, zl6, zo1, zo3, zo2, Nat.reduceSub, zl11, zl12, zn9, if_false, if_true, zn10, zn11, Bool.not_true, Bool.not_false, zn12, zn13, reduceCtorEq, zn15, zn14, zn18, zn16, zn17, forall_const, zb1, zb2, zb3, zb4, zb5, zb6, zb7, decide_true, decide_false, eq_self, ir_L_values, s_L_values_0]
  refine comp_range (fun _ v => IsVal N v) hm0 (by first | decide | with_reducible first | assumption | exact zm0 (by decide) | exact zm1 (by decide) (by decide) | exact zm3 (by assumption) (by decide) | omega) (fun j hj Q' hq' => ?_) fun ys hl hys D hD => ?_
  · simp only [wpR_eq, wpE_eq, qx_1, qx_2, qx_3, qx_4, qx_5, qx_6, qx_7, qx_8, qx_9, qx_10, qx_11, qx_13, qx_15, qx_16, qx_17, qx_18, qx_19, qx_20, qx_21, qx_22, qx_23, qx_24, qx_25, qx_26, qt_1, qt_2, qt_3, qt_4, qt_5, qt_6, qt_7, qt_9, qt_10, qt_11, qt_12, qt_13, ql_1, ql_2, qa_1, qa_2, qb_1, qb_2, qo_1, qo_2, qc_1, qc_2, k_n, k_r, k_1, k_2, k_3, k_4, k_5, k_6, k_7, k_8, k_9, qs_1, add_i, sub_i, mul_i, div_i, mod_i, pow_i, eq_i, ne_i, eq_s, ne_s, eq_b, ne_b, lt_i, le_i, gt_i, ge_i, ret_v, ret_n, tru_b, vk_i, vk_s, vk_t, vk_n, vk_b, is_nn, is_in, is_sn, is_tn, is_rn, isn_nn, isn_tn, zn1, zn2, zn3, zn4, zn5, zn6, zn7, zn8, beq_self_eq_true, then_n, then_r, thenR_n, thenR_r, loop_n, loop_r, zl1, zl2, zl3, zl4, rng_1, rng_2, int_b, str_i, max_i, min_i, len_t, list_t, zl7, zl8, List.replicate, zl9, zl10, List.set, zl5, zl6, zo1, zo3, zo2, Nat.reduceSub, zl11, zl12, zn9, if_false, if_true, zn10, zn11, Bool.not_true, Bool.not_false, zn12, zn13, reduceCtorEq, zn15, zn14, zn18, zn16, zn17, forall_const, zb1, zb2, zb3, zb4, zb5, zb6, zb7, decide_true, decide_false, eq_self]
    exact ⟨.inl (by decide), value_ok hc hS hN (by first | decide | with_reducible first | assumption | exact zm0 (by decide) | exact zm1 (by decide) (by decide) | exact zm3 (by assumption) (by decide) | omega) (by first | decide | with_reducible first | assumption | exact zm0 (by decide) | exact zm1 (by decide) (by decide) | exact zm3 (by assumption) (by decide) | omega) fun v hv => hq' v hv⟩
  · refine tupL (AH.set_self _ _ _) (by first | decide | with_reducible first | assumption | exact zm0 (by decide) | exact zm1 (by decide) (by decide) | exact zm3 (by assumption) (by decide) | omega) ⟨fun _ _ h => AH.set_of h hD, hQ ys (by first | decide | with_reducible first | assumption | exact zm0 (by decide) | exact zm1 (by decide) (by decide) | exact zm3 (by assumption) (by decide) | omega) fun v hv => ?_⟩
    obtain ⟨i, hi, e⟩ := List.getElem_of_mem hv
    exact hys i v (by rw [List.getElem?_eq_getElem hi, e])

theorem Run.nodup {N : List Int} (h : Run N) : N.Nodup := h.elim (fun h => h.imp fun q => Int.ne_of_lt q) fun h => h.imp fun q => (Int.ne_of_lt q).symm
theorem ints_fun (f : Nat → Int) : ∀ (ys : List AV) (k : Nat), (∀ i y, ys[i]? = some y → y = AV.int (f (i + k))) → ys = ((List.range' k ys.length).map f).map .int
  | [], _, _ => rfl
  | y :: ys, k, h => by
    have h0 := h 0 y rfl
    rw [Nat.zero_add] at h0
    have ih := ints_fun f ys (k + 1) fun i z hz => by
      have := h (i + 1) z (by simpa using hz)
      rw [show i + (k + 1) = i + 1 + k by first | decide | with_reducible first | assumption | exact zm0 (by decide) | exact zm1 (by decide) (by decide) | exact zm3 (by assumption) (by decide) | omega]; exact this
    rw [List.length_cons, List.range'_succ, List.map_cons, List.map_cons, ← ih, ← h0]
theorem rise (s0 st : Int) (h : 1 ≤ st) (m : Nat) : ((List.range' 0 m).map fun (j : Nat) => s0 + st * (j : Int)).Pairwise (· < ·) := by
  rw [List.pairwise_map]
  refine (List.pairwise_lt_range' (s := 0) (n := m)).imp fun {a b} q => ?_
  have : st * (a : Int) < st * (b : Int) := Int.mul_lt_mul_of_pos_left (by first | decide | with_reducible first | assumption | exact zm0 (by decide) | exact zm1 (by decide) (by decide) | exact zm3 (by assumption) (by decide) | omega) (by first | decide | with_reducible first | assumption | exact zm0 (by decide) | exact zm1 (by decide) (by decide) | exact zm3 (by assumption) (by decide) | omega)
  omega

theorem names_ok (hc : Tab c) {a : Nat} {S : List Int} {Q : AV → AH → Prop} (hS : Ints H a S)
    (hQ : ∀ (r : Nat) (N : List Int), H r = none → N.length ≤ 130 → Run N → (∀ x ∈ N, 0 ≤ x) → Q (.ref r) (H.set r (.list true (N.map .int)))) : CW c (n + 2) i_L_names [.ref a] H Q := by
  refine CW.fresh (P := fun _ => True) (CW.cut 3 (f := "_law_names") (ir := ir_L_names) (by rw [hc.fns]; rfl) rfl ?_)
  simp only [qx_1, qx_2, qx_3, qx_4, qx_5, qx_6, qx_7, qx_8, qx_9, qx_10, qx_11, qx_13, qx_15, qx_16, qx_17, qx_18, qx_19, qx_20, qx_21, qx_22, qx_23, qx_24, qx_25, qx_26, qt_1, qt_2, qt_3, qt_4, qt_5, qt_6, qt_7, qt_9, qt_10, qt_11, qt_12, qt_13, ql_1, ql_2, qa_1, qa_2, qb_1, qb_2, qo_1, qo_2, qc_1, qc_2, k_n, k_r, k_1, k_2, k_3, k_4, k_5, k_6, k_7, k_8, k_9, qs_1, add_i, sub_i, mul_i, div_i, mod_i, pow_i, eq_i, ne_i, eq_s, ne_s, eq_b, ne_b, lt_i, le_i, gt_i, ge_i, ret_v, ret_n, tru_b, vk_i, vk_s, vk_t, vk_n, vk_b, is_nn, is_in, is_sn, is_tn, is_rn, isn_nn, isn_tn, zn1, zn2, zn3, zn4, zn5, zn6, zn7, zn8, beq_self_eq_true, then_n, then_r, thenR_n, thenR_r, loop_n, loop_r, zl1, zl2, zl3, zl4, rng_1, rng_2, int_b, str_i, max_i, min_i, len_t, list_t, zl7, zl8, List.replicate, zl9, zl10, List.set, zl5, zl6, zo1, zo3, zo2, Nat.reduceSub, zl11, zl12, zn9, if_false, if_true, zn10, zn11, Bool.not_true, Bool.not_false, zn12, zn13, reduceCtorEq, zn15, zn14, zn18, zn16, zn17, forall_const, zb1, zb2, zb3, zb4, zb5, zb6, zb7, decide_true, decide_false, eq_self, ir_L_names, s_L_names_0, s_L_names_1, s_L_names_2b0, s_L_names_2, s_L_names_3, s_L_names_4, s_L_names_5b0, s_L_names_5, s_L_names_6]
  refine cell_ok hc hS (by first | decide | with_reducible first | assumption | exact zm0 (by decide) | exact zm1 (by decide) (by decide) | exact zm3 (by assumption) (by decide) | omega) (by first | decide | with_reducible first | assumption | exact zm0 (by decide) | exact zm1 (by decide) (by decide) | exact zm3 (by assumption) (by decide) | omega) fun v hv0 hv1 => ?_
  have tail : ∀ (H1 : AH) (m : Int), (∀ a o, H a = some o → H1 a = some o) → 0 ≤ m → m ≤ 130 → WS c (n + 1) (ir_L_names.body.drop 3) [some (.ref a), some (.int v), some (.int m), none, none] H1
      fun fl _ H' => ∃ v, retv fl v ∧ (∀ a o, H a = some o → H' a = some o) ∧ ∃ r o, v = .ref r ∧ H r = none ∧ H' r = some o ∧ Q v (H.set r o) := by
    intro H1 m g hm0 hm1
    refine sS _ _ _ _ ?_
    simp only [qx_1, qx_2, qx_3, qx_4, qx_5, qx_6, qx_7, qx_8, qx_9, qx_10, qx_11, qx_13, qx_15, qx_16, qx_17, qx_18, qx_19, qx_20, qx_21, qx_22, qx_23, qx_24, qx_25, qx_26, qt_1, qt_2, qt_3, qt_4, qt_5, qt_6, qt_7, qt_9, qt_10, qt_11, qt_12, qt_13, ql_1, ql_2, qa_1, qa_2, qb_1, qb_2, qo_1, qo_2, qc_1, qc_2, k_n, k_r, k_1, k_2, k_3, k_4, k_5, k_6, k_7, k_8, k_9, qs_1, add_i, sub_i, mul_i, div_i, mod_i, pow_i, eq_i, ne_i, eq_s, ne_s, eq_b, ne_b, lt_i, le_i, gt_i, ge_i, ret_v, ret_n, tru_b, vk_i, vk_s, vk_t, vk_n, vk_b, is_nn, is_in, is_sn, is_tn, is_rn, isn_nn, isn_tn, zn1, zn2, zn3, zn4, zn5, zn6, zn7, zn8, beq_self_eq_true, then_n, then_r, thenR_n, thenR_r, loop_n, loop_r, zl1, zl2, zl3, zl4, rng_1, rng_2, int_b, str_i, max_i, min_i, len_t, list_t, zl7, zl8, List.replicate, zl9, zl10, List.set, zl5, zl6, zo1, zo3, zo2, Nat.reduceSub, zl11, zl12, zn9, if_false, if_true, zn10, zn11, Bool.not_true, Bool.not_false, zn12, zn13, reduceCtorEq, zn15, zn14, zn18, zn16, zn17, forall_const, zb1, zb2, zb3, zb4, zb5, zb6, zb7, decide_true, decide_false, eq_self, ir_L_names, s_L_names_0, s_L_names_1, s_L_names_2b0, s_L_names_2, s_L_names_3, s_L_names_4, s_L_names_5b0, s_L_names_5, s_L_names_6]
    refine ⟨by first | decide | with_reducible first | assumption | exact zm0 (by decide) | exact zm1 (by decide) (by decide) | exact zm3 (by assumption) (by decide) | omega, by first | decide | with_reducible first | assumption | exact zm0 (by decide) | exact zm1 (by decide) (by decide) | exact zm3 (by assumption) (by decide) | omega, by first | decide | with_reducible first | assumption | exact zm0 (by decide) | exact zm1 (by decide) (by decide) | exact zm3 (by assumption) (by decide) | omega, comp_range (fun j y => y = AV.int (v / 560 % 30 + (1 + v / 112 % 5) * (j : Int))) hm0 (by first | decide | with_reducible first | assumption | exact zm0 (by decide) | exact zm1 (by decide) (by decide) | exact zm3 (by assumption) (by decide) | omega) (fun j hj Q' hq' => ?_) fun ys hl hys D hD => ?_⟩
    · simp only [wpR_eq, wpE_eq, qx_1, qx_2, qx_3, qx_4, qx_5, qx_6, qx_7, qx_8, qx_9, qx_10, qx_11, qx_13, qx_15, qx_16, qx_17, qx_18, qx_19, qx_20, qx_21, qx_22, qx_23, qx_24, qx_25, qx_26, qt_1, qt_2, qt_3, qt_4, qt_5, qt_6, qt_7, qt_9, qt_10, qt_11, qt_12, qt_13, ql_1, ql_2, qa_1, qa_2, qb_1, qb_2, qo_1, qo_2, qc_1, qc_2, k_n, k_r, k_1, k_2, k_3, k_4, k_5, k_6, k_7, k_8, k_9, qs_1, add_i, sub_i, mul_i, div_i, mod_i, pow_i, eq_i, ne_i, eq_s, ne_s, eq_b, ne_b, lt_i, le_i, gt_i, ge_i, ret_v, ret_n, tru_b, vk_i, vk_s, vk_t, vk_n, vk_b, is_nn, is_in, is_sn, is_tn, is_rn, isn_nn, isn_tn, zn1, zn2, zn3, zn4, zn5, zn6, zn7, zn8, beq_self_eq_true, then_n, then_r, thenR_n, thenR_r, loop_n, loop_r, zl1, zl2, zl3, zl4, rng_1, rng_2, int_b, str_i, max_i, min_i, len_t, list_t, zl7, zl8, List.replicate, zl9, zl10, List.set, zl5, zl6, zo1, zo3, zo2, Nat.reduceSub, zl11, zl12, zn9, if_false, if_true, zn10, zn11, Bool.not_true, Bool.not_false, zn12, zn13, reduceCtorEq, zn15, zn14, zn18, zn16, zn17, forall_const, zb1, zb2, zb3, zb4, zb5, zb6, zb7, decide_true, decide_false, eq_self]
      exact ⟨by first | decide | with_reducible first | assumption | exact zm0 (by decide) | exact zm1 (by decide) (by decide) | exact zm3 (by assumption) (by decide) | omega, by first | decide | with_reducible first | assumption | exact zm0 (by decide) | exact zm1 (by decide) (by decide) | exact zm3 (by assumption) (by decide) | omega, by first | decide | with_reducible first | assumption | exact zm0 (by decide) | exact zm1 (by decide) (by decide) | exact zm3 (by assumption) (by decide) | omega, .inr (by first | decide | with_reducible first | assumption | exact zm0 (by decide) | exact zm1 (by decide) (by decide) | exact zm3 (by assumption) (by decide) | omega), hq' _ rfl⟩
    · obtain ⟨N, rfl, hR, hN0⟩ : ∃ N : List Int, ys = N.map .int ∧ N.Pairwise (· < ·) ∧ ∀ x ∈ N, 0 ≤ x := ⟨_, ints_fun (fun (j : Nat) => v / 560 % 30 + (1 + v / 112 % 5) * (j : Int)) ys 0 (fun i y h => hys i y h), rise _ _ (by first | decide | with_reducible first | assumption | exact zm0 (by decide) | exact zm1 (by decide) (by decide) | exact zm3 (by assumption) (by decide) | omega) ys.length, fun x hx => by
        obtain ⟨j, _, rfl⟩ := List.mem_map.mp hx
        exact Int.add_nonneg (zm0 (by decide)) (Int.mul_nonneg (by first | decide | with_reducible first | assumption | exact zm0 (by decide) | exact zm1 (by decide) (by decide) | exact zm3 (by assumption) (by decide) | omega) (Int.natCast_nonneg _))⟩
      rw [List.length_map] at hl
      have hDH : H D = none := by
        cases e : H D with
        | none => rfl
        | some o => rw [g _ _ e] at hD; cases hD
      refine ⟨by first | decide | with_reducible first | assumption | exact zm0 (by decide) | exact zm1 (by decide) (by decide) | exact zm3 (by assumption) (by decide) | omega, by first | decide | with_reducible first | assumption | exact zm0 (by decide) | exact zm1 (by decide) (by decide) | exact zm3 (by assumption) (by decide) | omega, by first | decide | with_reducible first | assumption | exact zm0 (by decide) | exact zm1 (by decide) (by decide) | exact zm3 (by assumption) (by decide) | omega, fun _ => ⟨⟨true, _, AH.set_self _ _ _⟩, _, AH.set_self _ _ _, by rw [List.length_map]; omega, ?_⟩, fun _ => ?_⟩
      · refine ⟨fun b o e => ?_, D, _, rfl, hDH, AH.set_self _ _ _, ?_⟩
        · have hb : b ≠ D := fun q => by rw [q, hDH] at e; cases e
          rw [AH.set_ne _ _ hb, AH.set_ne _ _ hb]; exact g _ _ e
        · rw [← List.map_reverse]; exact hQ D N.reverse hDH (by rw [List.length_reverse]; omega) (.inr (List.pairwise_reverse.mpr hR)) (fun x hx => hN0 x (List.mem_reverse.mp hx))
      · refine ⟨fun b o e => AH.set_of (g _ _ e) hD, D, _, rfl, hDH, AH.set_self _ _ _, hQ D N hDH (by first | decide | with_reducible first | assumption | exact zm0 (by decide) | exact zm1 (by decide) (by decide) | exact zm3 (by assumption) (by decide) | omega) (.inl hR) hN0⟩
  simp only [qx_1, qx_2, qx_3, qx_4, qx_5, qx_6, qx_7, qx_8, qx_9, qx_10, qx_11, qx_13, qx_15, qx_16, qx_17, qx_18, qx_19, qx_20, qx_21, qx_22, qx_23, qx_24, qx_25, qx_26, qt_1, qt_2, qt_3, qt_4, qt_5, qt_6, qt_7, qt_9, qt_10, qt_11, qt_12, qt_13, ql_1, ql_2, qa_1, qa_2, qb_1, qb_2, qo_1, qo_2, qc_1, qc_2, k_n, k_r, k_1, k_2, k_3, k_4, k_5, k_6, k_7, k_8, k_9, qs_1, add_i, sub_i, mul_i, div_i, mod_i, pow_i, eq_i, ne_i, eq_s, ne_s, eq_b, ne_b, lt_i, le_i, gt_i, ge_i, ret_v, ret_n, tru_b, vk_i, vk_s, vk_t, vk_n, vk_b, is_nn, is_in, is_sn, is_tn, is_rn, isn_nn, isn_tn, zn1, zn2, zn3, zn4, zn5, zn6, zn7, zn8, beq_self_eq_true, then_n, then_r, thenR_n, thenR_r, loop_n, loop_r, zl1, zl2, zl3, zl4, rng_1, rng_2, int_b, str_i, max_i, min_i, len_t, list_t, zl7, zl8, List.replicate, zl9, zl10, List.set, zl5, zl6, zo1, zo3, zo2, Nat.reduceSub, zl11, zl12, zn9, if_false, if_true, zn10, zn11, Bool.not_true, Bool.not_false, zn12, zn13, reduceCtorEq, zn15, zn14, zn18, zn16, zn17, forall_const, zb1, zb2, zb3, zb4, zb5, zb6, zb7, decide_true, decide_false, eq_self]
  refine ⟨by first | decide | with_reducible first | assumption | exact zm0 (by decide) | exact zm1 (by decide) (by decide) | exact zm3 (by assumption) (by decide) | omega, by first | decide | with_reducible first | assumption | exact zm0 (by decide) | exact zm1 (by decide) (by decide) | exact zm3 (by assumption) (by decide) | omega, by first | decide | with_reducible first | assumption | exact zm0 (by decide) | exact zm1 (by decide) (by decide) | exact zm3 (by assumption) (by decide) | omega, by first | decide | with_reducible first | assumption | exact zm0 (by decide) | exact zm1 (by decide) (by decide) | exact zm3 (by assumption) (by decide) | omega, fun _ => ⟨by simp, fun r hr => ⟨by first | decide | with_reducible first | assumption | exact zm0 (by decide) | exact zm1 (by decide) (by decide) | exact zm3 (by assumption) (by decide) | omega, by first | decide | with_reducible first | assumption | exact zm0 (by decide) | exact zm1 (by decide) (by decide) | exact zm3 (by assumption) (by decide) | omega, by first | decide | with_reducible first | assumption | exact zm0 (by decide) | exact zm1 (by decide) (by decide) | exact zm3 (by assumption) (by decide) | omega, ?_⟩⟩, fun _ => tail H (v % 7) (fun _ _ h => h) (by first | decide | with_reducible first | assumption | exact zm0 (by decide) | exact zm1 (by decide) (by decide) | exact zm3 (by assumption) (by decide) | omega) (by first | decide | with_reducible first | assumption | exact zm0 (by decide) | exact zm1 (by decide) (by decide) | exact zm3 (by assumption) (by decide) | omega)⟩
  have h4 : (v / 112 % 4).toNat < 4 := by first | decide | with_reducible first | assumption | exact zm0 (by decide) | exact zm1 (by decide) (by decide) | exact zm3 (by assumption) (by decide) | omega
  have hh : (v / 112 % 4).toNat = 0 ∨ (v / 112 % 4).toNat = 1 ∨ (v / 112 % 4).toNat = 2 ∨ (v / 112 % 4).toNat = 3 := by first | decide | with_reducible first | assumption | exact zm0 (by decide) | exact zm1 (by decide) (by decide) | exact zm3 (by assumption) (by decide) | omega
  have g : ∀ (a : Nat) (o : AObj), H a = some o → H.set r (.list true [AV.int 40, AV.int 40, AV.int 40, AV.int 130]) a = some o := fun _ _ h => AH.set_of h hr
  rcases hh with q | q | q | q
  · exact getL (AH.set_self _ _ _) (by first | decide | with_reducible first | assumption | exact zm0 (by decide) | exact zm1 (by decide) (by decide) | exact zm3 (by assumption) (by decide) | omega) (by simp) (by rw [q]; rfl) (tail _ _ g (by first | decide | with_reducible first | assumption | exact zm0 (by decide) | exact zm1 (by decide) (by decide) | exact zm3 (by assumption) (by decide) | omega) (by first | decide | with_reducible first | assumption | exact zm0 (by decide) | exact zm1 (by decide) (by decide) | exact zm3 (by assumption) (by decide) | omega))
  · exact getL (AH.set_self _ _ _) (by first | decide | with_reducible first | assumption | exact zm0 (by decide) | exact zm1 (by decide) (by decide) | exact zm3 (by assumption) (by decide) | omega) (by simp) (by rw [q]; rfl) (tail _ _ g (by first | decide | with_reducible first | assumption | exact zm0 (by decide) | exact zm1 (by decide) (by decide) | exact zm3 (by assumption) (by decide) | omega) (by first | decide | with_reducible first | assumption | exact zm0 (by decide) | exact zm1 (by decide) (by decide) | exact zm3 (by assumption) (by decide) | omega))
  · exact getL (AH.set_self _ _ _) (by first | decide | with_reducible first | assumption | exact zm0 (by decide) | exact zm1 (by decide) (by decide) | exact zm3 (by assumption) (by decide) | omega) (by simp) (by rw [q]; rfl) (tail _ _ g (by first | decide | with_reducible first | assumption | exact zm0 (by decide) | exact zm1 (by decide) (by decide) | exact zm3 (by assumption) (by decide) | omega) (by first | decide | with_reducible first | assumption | exact zm0 (by decide) | exact zm1 (by decide) (by decide) | exact zm3 (by assumption) (by decide) | omega))
  · exact getL (AH.set_self _ _ _) (by first | decide | with_reducible first | assumption | exact zm0 (by decide) | exact zm1 (by decide) (by decide) | exact zm3 (by assumption) (by decide) | omega) (by simp) (by rw [q]; rfl) (tail _ _ g (by first | decide | with_reducible first | assumption | exact zm0 (by decide) | exact zm1 (by decide) (by decide) | exact zm3 (by assumption) (by decide) | omega) (by first | decide | with_reducible first | assumption | exact zm0 (by decide) | exact zm1 (by decide) (by decide) | exact zm3 (by assumption) (by decide) | omega))

/-- strings in a list -/
noncomputable def Strs (H : AH) (a : Nat) (N : List Str) : Prop := ∃ own, H a = some (.list own (N.map .str))
end
end Mine

set_option maxRecDepth 100000
set_option autoImplicit false
set_option linter.unusedSimpArgs false
set_option linter.unusedVariables false
namespace Mine
open PySem PyProof.Rows

section
variable {c : Cx} {n : Nat} {H : AH}

theorem Strs.len {a : Nat} {N : List Str} (h : Strs H a N) (hl : N.length ≤ 10000) {Q : AV → AH → Prop} (hq : Q (.int N.length) H) : biW .len [.ref a] H Q := by
  obtain ⟨own, h1⟩ := h
  exact lenL h1 (by rw [List.length_map]; omega) (by rw [List.length_map]; exact hq)
theorem Strs.get {a : Nat} {N : List Str} (h : Strs H a N) (hl : N.length ≤ 10000) {k : Int} (h0 : 0 ≤ k) (h1 : k < N.length) {Q : AV → AH → Prop} (hq : ∀ x, x ∈ N → Q (.str x) H) : getW (.ref a) (.int k) H Q := by
  obtain ⟨own, h2⟩ := h
  have hk : k.toNat < N.length := by first | decide | with_reducible first | assumption | exact zm0 (by decide) | exact zm1 (by decide) (by decide) | exact zm3 (by assumption) (by decide) | omega
  refine getL h2 h0 (by rw [List.length_map]; omega) (x := .str N[k.toNat]) ?_ (hq _ (List.getElem_mem hk))
  rw [List.getElem?_map, List.getElem?_eq_getElem hk]; rfl
/-- a small new list, read at once -/
theorem getNew {r : Nat} {l : List AV} {k : Int} {Q : AV → AH → Prop} (h0 : 0 ≤ k) (hk : k < l.length) (hl : l.length ≤ 100) (hq : ∀ x ∈ l, Q x (H.set r (.list true l))) : getW (.ref r) (.int k) (H.set r (.list true l)) Q := by
  have h : k.toNat < l.length := by first | decide | with_reducible first | assumption | exact zm0 (by decide) | exact zm1 (by decide) (by decide) | exact zm3 (by assumption) (by decide) | omega
  exact getL (AH.set_self _ _ _) h0 (by first | decide | with_reducible first | assumption | exact zm0 (by decide) | exact zm1 (by decide) (by decide) | exact zm3 (by assumption) (by decide) | omega) (List.getElem?_eq_getElem h) (hq _ (List.getElem_mem h))

/-- an instruction with a word of W -/
noncomputable def Row (W : List Str) (v : AV) : Prop := ∃ w ∈ W, (w = "num" ∧ ∃ i : Int, v = .tup [.str w, .int i] ∧ i.natAbs ≤ 10 ^ 30) ∨ (w = "get" ∧ ∃ i : Int, v = .tup [.str w, .int i] ∧ 0 ≤ i) ∨ (w = "fun" ∧ ∃ (i : Int) (l : List AV), v = .tup [.str w, .int i, .tup l]) ∨
  ((w = "jump" ∨ w = "unless") ∧ ∃ i : Int, v = .tup [.str w, .int i] ∧ 0 ≤ i) ∨ (w ≠ "num" ∧ w ≠ "get" ∧ w ≠ "fun" ∧ w ≠ "jump" ∧ w ≠ "unless" ∧ v = .tup [.str w])
theorem row_ok (hc : Tab c) {a w : Nat} {S : List Int} {W : List Str} {k bd sz : Int} {Q : AV → AH → Prop} (hS : Ints H a S) (hW : Strs H w W) (hW0 : 0 < W.length) (hW1 : W.length ≤ 100) (h0 : 0 ≤ k) (h1 : k ≤ 90000) (hb : 0 < bd) (hs : 0 ≤ sz)
    (hQ : ∀ v, Row W v → Q v H) : CW c (n + 2) i_L_row [.ref a, .int k, .ref w, .int bd, .int sz] H Q := by
  refine CW.pure (CW.cut 3 (f := "_law_row") (ir := ir_L_row) (by rw [hc.fns]; rfl) rfl ?_)
  have tail : ∀ (st : Str) (v m : Int), st ∈ W → 0 ≤ m → WS c (n + 1) (ir_L_row.body.drop 3) [some (.ref a), some (.int k), some (.ref w), some (.int bd), some (.int sz), some (.int v), some (.str st), some (.int m), none, none] H
      fun fl _ H' => ∃ v, retv fl v ∧ (∀ a o, H a = some o → H' a = some o) ∧ Q v H := by
    intro st v m hst m0
    have g : ∀ (r : Nat) (l : List AV), H r = none → ∀ (a : Nat) (o : AObj), H a = some o → H.set r (.list true l) a = some o := fun r l hr _ _ h => AH.set_of h hr
    refine sS _ _ _ _ ?_
    simp only [qx_1, qx_2, qx_3, qx_4, qx_5, qx_6, qx_7, qx_8, qx_9, qx_10, qx_11, qx_13, qx_15, qx_16, qx_17, qx_18, qx_19, qx_20, qx_21, qx_22, qx_23, qx_24, qx_25, qx_26, qt_1, qt_2, qt_3, qt_4, qt_5, qt_6, qt_7, qt_9, qt_10, qt_11, qt_12, qt_13, ql_1, ql_2, qa_1, qa_2, qb_1, qb_2, qo_1, qo_2, qc_1, qc_2, k_n, k_r, k_1, k_2, k_3, k_4, k_5, k_6, k_7, k_8, k_9, qs_1, add_i, sub_i, mul_i, div_i, mod_i, pow_i, eq_i, ne_i, eq_s, ne_s, eq_b, ne_b, lt_i, le_i, gt_i, ge_i, ret_v, ret_n, tru_b, vk_i, vk_s, vk_t, vk_n, vk_b, is_nn, is_in, is_sn, is_tn, is_rn, isn_nn, isn_tn, zn1, zn2, zn3, zn4, zn5, zn6, zn7, zn8, beq_self_eq_true, then_n, then_r, thenR_n, thenR_r, loop_n, loop_r, zl1, zl2, zl3, zl4, rng_1, rng_2, int_b, str_i, max_i, min_i, len_t, list_t, zl7, zl8, List.replicate, zl9, zl10, List.set, zl5, zl6, zo1, zo3, zo2, Nat.reduceSub, zl11, zl12, zn9, if_false, if_true, zn10, zn11, Bool.not_true, Bool.not_false, zn12, zn13, reduceCtorEq, zn15, zn14, zn18, zn16, zn17, forall_const, zb1, zb2, zb3, zb4, zb5, zb6, zb7, decide_true, decide_false, eq_self, ir_L_row, s_L_row_0, s_L_row_1, s_L_row_2, s_L_row_3b0, s_L_row_3b1, s_L_row_3, s_L_row_4b0, s_L_row_4, s_L_row_5b0, s_L_row_5b1, s_L_row_5b2, s_L_row_5, s_L_row_6b0, s_L_row_6, s_L_row_7]
    refine ⟨fun e => ?_, fun n1 => ⟨fun e => ?_, fun n2 => ⟨fun e => ?_, fun n3 => ?_⟩⟩⟩
    · refine raw_ok hc hS h0 fun x => ?_
      simp only [qx_1, qx_2, qx_3, qx_4, qx_5, qx_6, qx_7, qx_8, qx_9, qx_10, qx_11, qx_13, qx_15, qx_16, qx_17, qx_18, qx_19, qx_20, qx_21, qx_22, qx_23, qx_24, qx_25, qx_26, qt_1, qt_2, qt_3, qt_4, qt_5, qt_6, qt_7, qt_9, qt_10, qt_11, qt_12, qt_13, ql_1, ql_2, qa_1, qa_2, qb_1, qb_2, qo_1, qo_2, qc_1, qc_2, k_n, k_r, k_1, k_2, k_3, k_4, k_5, k_6, k_7, k_8, k_9, qs_1, add_i, sub_i, mul_i, div_i, mod_i, pow_i, eq_i, ne_i, eq_s, ne_s, eq_b, ne_b, lt_i, le_i, gt_i, ge_i, ret_v, ret_n, tru_b, vk_i, vk_s, vk_t, vk_n, vk_b, is_nn, is_in, is_sn, is_tn, is_rn, isn_nn, isn_tn, zn1, zn2, zn3, zn4, zn5, zn6, zn7, zn8, beq_self_eq_true, then_n, then_r, thenR_n, thenR_r, loop_n, loop_r, zl1, zl2, zl3, zl4, rng_1, rng_2, int_b, str_i, max_i, min_i, len_t, list_t, zl7, zl8, List.replicate, zl9, zl10, List.set, zl5, zl6, zo1, zo3, zo2, Nat.reduceSub, zl11, zl12, zn9, if_false, if_true, zn10, zn11, Bool.not_true, Bool.not_false, zn12, zn13, reduceCtorEq, zn15, zn14, zn18, zn16, zn17, forall_const, zb1, zb2, zb3, zb4, zb5, zb6, zb7, decide_true, decide_false, eq_self]
      have e12 : (10 : Int) ^ (12 : Int).toNat = 1000000000000 := by decide
      rw [e12]
      refine ⟨by first | decide | with_reducible first | assumption | exact zm0 (by decide) | exact zm1 (by decide) (by decide) | exact zm3 (by assumption) (by decide) | omega, by first | decide | with_reducible first | assumption | exact zm0 (by decide) | exact zm1 (by decide) (by decide) | exact zm3 (by assumption) (by decide) | omega, by first | decide | with_reducible first | assumption | exact zm0 (by decide) | exact zm1 (by decide) (by decide) | exact zm3 (by assumption) (by decide) | omega, by first | decide | with_reducible first | assumption | exact zm0 (by decide) | exact zm1 (by decide) (by decide) | exact zm3 (by assumption) (by decide) | omega, .inl (by decide), by decide, by first | decide | with_reducible first | assumption | exact zm0 (by decide) | exact zm1 (by decide) (by decide) | exact zm3 (by assumption) (by decide) | omega, by first | decide | with_reducible first | assumption | exact zm0 (by decide) | exact zm1 (by decide) (by decide) | exact zm3 (by assumption) (by decide) | omega, by first | decide | with_reducible first | assumption | exact zm0 (by decide) | exact zm1 (by decide) (by decide) | exact zm3 (by assumption) (by decide) | omega, by first | decide | with_reducible first | assumption | exact zm0 (by decide) | exact zm1 (by decide) (by decide) | exact zm3 (by assumption) (by decide) | omega, by first | decide | with_reducible first | assumption | exact zm0 (by decide) | exact zm1 (by decide) (by decide) | exact zm3 (by assumption) (by decide) | omega, by simp, fun r hr => ⟨by first | decide | with_reducible first | assumption | exact zm0 (by decide) | exact zm1 (by decide) (by decide) | exact zm3 (by assumption) (by decide) | omega, by first | decide | with_reducible first | assumption | exact zm0 (by decide) | exact zm1 (by decide) (by decide) | exact zm3 (by assumption) (by decide) | omega, by first | decide | with_reducible first | assumption | exact zm0 (by decide) | exact zm1 (by decide) (by decide) | exact zm3 (by assumption) (by decide) | omega, getNew (by first | decide | with_reducible first | assumption | exact zm0 (by decide) | exact zm1 (by decide) (by decide) | exact zm3 (by assumption) (by decide) | omega) (by simp; omega) (by simp) fun y hy => ⟨by simp, g _ _ hr, ?_⟩⟩⟩
      have hy' : ∃ i : Int, y = .int i ∧ i.natAbs ≤ 10 ^ 30 := by
        simp only [List.mem_cons, List.not_mem_nil, or_false] at hy; rcases hy with rfl | rfl
        · exact ⟨_, rfl, by first | decide | with_reducible first | assumption | exact zm0 (by decide) | exact zm1 (by decide) (by decide) | exact zm3 (by assumption) (by decide) | omega⟩
        · exact ⟨_, rfl, by first | decide | with_reducible first | assumption | exact zm0 (by decide) | exact zm1 (by decide) (by decide) | exact zm3 (by assumption) (by decide) | omega⟩
      obtain ⟨i, rfl, hi⟩ := hy'
      exact hQ _ ⟨st, hst, .inl ⟨e, i, by rw [e], hi⟩⟩
    · refine ⟨by first | decide | with_reducible first | assumption | exact zm0 (by decide) | exact zm1 (by decide) (by decide) | exact zm3 (by assumption) (by decide) | omega, by first | decide | with_reducible first | assumption | exact zm0 (by decide) | exact zm1 (by decide) (by decide) | exact zm3 (by assumption) (by decide) | omega, by first | decide | with_reducible first | assumption | exact zm0 (by decide) | exact zm1 (by decide) (by decide) | exact zm3 (by assumption) (by decide) | omega, by first | decide | with_reducible first | assumption | exact zm0 (by decide) | exact zm1 (by decide) (by decide) | exact zm3 (by assumption) (by decide) | omega, by simp, fun r hr => ⟨by first | decide | with_reducible first | assumption | exact zm0 (by decide) | exact zm1 (by decide) (by decide) | exact zm3 (by assumption) (by decide) | omega, by first | decide | with_reducible first | assumption | exact zm0 (by decide) | exact zm1 (by decide) (by decide) | exact zm3 (by assumption) (by decide) | omega, by first | decide | with_reducible first | assumption | exact zm0 (by decide) | exact zm1 (by decide) (by decide) | exact zm3 (by assumption) (by decide) | omega, ?_⟩⟩
      refine getNew (by split <;> omega) (by split <;> simp) (by simp) fun y hy => ⟨by simp, g _ _ hr, ?_⟩
      have hy' : ∃ i : Int, y = .int i ∧ 0 ≤ i := by
        simp only [List.mem_cons, List.not_mem_nil, or_false] at hy; rcases hy with rfl | rfl
        · exact ⟨_, rfl, by first | decide | with_reducible first | assumption | exact zm0 (by decide) | exact zm1 (by decide) (by decide) | exact zm3 (by assumption) (by decide) | omega⟩
        · exact ⟨_, rfl, by first | decide | with_reducible first | assumption | exact zm0 (by decide) | exact zm1 (by decide) (by decide) | exact zm3 (by assumption) (by decide) | omega⟩
      obtain ⟨i, rfl, hi⟩ := hy'
      exact hQ _ ⟨st, hst, .inr (.inl ⟨e, i, by rw [e], hi⟩)⟩
    · refine ⟨by simp, fun r hr => ⟨by first | decide | with_reducible first | assumption | exact zm0 (by decide) | exact zm1 (by decide) (by decide) | exact zm3 (by assumption) (by decide) | omega, by first | decide | with_reducible first | assumption | exact zm0 (by decide) | exact zm1 (by decide) (by decide) | exact zm3 (by assumption) (by decide) | omega, by first | decide | with_reducible first | assumption | exact zm0 (by decide) | exact zm1 (by decide) (by decide) | exact zm3 (by assumption) (by decide) | omega, ?_⟩⟩
      refine getNew (by split <;> omega) (by split <;> simp) (by simp) fun y hy => ?_
      have hy' : ∃ f : Int, y = .int f ∧ 0 < f := by
        simp at hy; rcases hy with rfl | rfl
        · exact ⟨5, rfl, by first | decide | with_reducible first | assumption | exact zm0 (by decide) | exact zm1 (by decide) (by decide) | exact zm3 (by assumption) (by decide) | omega⟩
        · exact ⟨60, rfl, by first | decide | with_reducible first | assumption | exact zm0 (by decide) | exact zm1 (by decide) (by decide) | exact zm3 (by assumption) (by decide) | omega⟩
      obtain ⟨f, rfl, hf⟩ := hy'
      refine ⟨by first | decide | with_reducible first | assumption | exact zm0 (by decide) | exact zm1 (by decide) (by decide) | exact zm3 (by assumption) (by decide) | omega, comp_range (fun _ _ => True) (by first | decide | with_reducible first | assumption | exact zm0 (by decide) | exact zm1 (by decide) (by decide) | exact zm3 (by assumption) (by decide) | omega) (by first | decide | with_reducible first | assumption | exact zm0 (by decide) | exact zm1 (by decide) (by decide) | exact zm3 (by assumption) (by decide) | omega) (fun j hj Q' hq' => ?_) fun ys hlen _ D hD => tupL (AH.set_self _ _ _) (by first | decide | with_reducible first | assumption | exact zm0 (by decide) | exact zm1 (by decide) (by decide) | exact zm3 (by assumption) (by decide) | omega) ?_⟩
      · simp only [wpR_eq, wpE_eq, qx_1, qx_2, qx_3, qx_4, qx_5, qx_6, qx_7, qx_8, qx_9, qx_10, qx_11, qx_13, qx_15, qx_16, qx_17, qx_18, qx_19, qx_20, qx_21, qx_22, qx_23, qx_24, qx_25, qx_26, qt_1, qt_2, qt_3, qt_4, qt_5, qt_6, qt_7, qt_9, qt_10, qt_11, qt_12, qt_13, ql_1, ql_2, qa_1, qa_2, qb_1, qb_2, qo_1, qo_2, qc_1, qc_2, k_n, k_r, k_1, k_2, k_3, k_4, k_5, k_6, k_7, k_8, k_9, qs_1, add_i, sub_i, mul_i, div_i, mod_i, pow_i, eq_i, ne_i, eq_s, ne_s, eq_b, ne_b, lt_i, le_i, gt_i, ge_i, ret_v, ret_n, tru_b, vk_i, vk_s, vk_t, vk_n, vk_b, is_nn, is_in, is_sn, is_tn, is_rn, isn_nn, isn_tn, zn1, zn2, zn3, zn4, zn5, zn6, zn7, zn8, beq_self_eq_true, then_n, then_r, thenR_n, thenR_r, loop_n, loop_r, zl1, zl2, zl3, zl4, rng_1, rng_2, int_b, str_i, max_i, min_i, len_t, list_t, zl7, zl8, List.replicate, zl9, zl10, List.set, zl5, zl6, zo1, zo3, zo2, Nat.reduceSub, zl11, zl12, zn9, if_false, if_true, zn10, zn11, Bool.not_true, Bool.not_false, zn12, zn13, reduceCtorEq, zn15, zn14, zn18, zn16, zn17, forall_const, zb1, zb2, zb3, zb4, zb5, zb6, zb7, decide_true, decide_false, eq_self]
        exact cell_ok hc (hS.grow (g _ _ hr)) (by first | decide | with_reducible first | assumption | exact zm0 (by decide) | exact zm1 (by decide) (by decide) | exact zm3 (by assumption) (by decide) | omega) (by first | decide | with_reducible first | assumption | exact zm0 (by decide) | exact zm1 (by decide) (by decide) | exact zm3 (by assumption) (by decide) | omega) fun v _ _ => ⟨hf, hq' _ trivial⟩
      · exact ⟨by first | decide | with_reducible first | assumption | exact zm0 (by decide) | exact zm1 (by decide) (by decide) | exact zm3 (by assumption) (by decide) | omega, by first | decide | with_reducible first | assumption | exact zm0 (by decide) | exact zm1 (by decide) (by decide) | exact zm3 (by assumption) (by decide) | omega, hb, by simp, fun b o e => AH.set_of (g _ _ hr b o e) hD, hQ _ ⟨st, hst, .inr (.inr (.inl ⟨e, _, _, by rw [e]⟩))⟩⟩
    · have ju : (st = "jump" ∨ st = "unless") → ∀ i : Int, 0 ≤ i → Row W (.tup [.str st, .int i]) := fun h i hi => ⟨st, hst, .inr (.inr (.inr (.inl ⟨h, i, rfl, hi⟩)))⟩
      have hm : 0 ≤ m % (sz + 1) := Int.emod_nonneg _ (by first | decide | with_reducible first | assumption | exact zm0 (by decide) | exact zm1 (by decide) (by decide) | exact zm3 (by assumption) (by decide) | omega)
      exact ⟨fun n4 => ⟨fun n5 => ⟨by simp, fun _ _ h => h, hQ _ ⟨st, hst, .inr (.inr (.inr (.inr ⟨n1, n2, n3, n4, n5, rfl⟩)))⟩⟩, fun e => ⟨by first | decide | with_reducible first | assumption | exact zm0 (by decide) | exact zm1 (by decide) (by decide) | exact zm3 (by assumption) (by decide) | omega, by simp, fun _ _ h => h, hQ _ (ju (.inr e) _ hm)⟩⟩, fun e => ⟨by first | decide | with_reducible first | assumption | exact zm0 (by decide) | exact zm1 (by decide) (by decide) | exact zm3 (by assumption) (by decide) | omega, by simp, fun _ _ h => h, hQ _ (ju (.inl e) _ hm)⟩⟩
  simp only [qx_1, qx_2, qx_3, qx_4, qx_5, qx_6, qx_7, qx_8, qx_9, qx_10, qx_11, qx_13, qx_15, qx_16, qx_17, qx_18, qx_19, qx_20, qx_21, qx_22, qx_23, qx_24, qx_25, qx_26, qt_1, qt_2, qt_3, qt_4, qt_5, qt_6, qt_7, qt_9, qt_10, qt_11, qt_12, qt_13, ql_1, ql_2, qa_1, qa_2, qb_1, qb_2, qo_1, qo_2, qc_1, qc_2, k_n, k_r, k_1, k_2, k_3, k_4, k_5, k_6, k_7, k_8, k_9, qs_1, add_i, sub_i, mul_i, div_i, mod_i, pow_i, eq_i, ne_i, eq_s, ne_s, eq_b, ne_b, lt_i, le_i, gt_i, ge_i, ret_v, ret_n, tru_b, vk_i, vk_s, vk_t, vk_n, vk_b, is_nn, is_in, is_sn, is_tn, is_rn, isn_nn, isn_tn, zn1, zn2, zn3, zn4, zn5, zn6, zn7, zn8, beq_self_eq_true, then_n, then_r, thenR_n, thenR_r, loop_n, loop_r, zl1, zl2, zl3, zl4, rng_1, rng_2, int_b, str_i, max_i, min_i, len_t, list_t, zl7, zl8, List.replicate, zl9, zl10, List.set, zl5, zl6, zo1, zo3, zo2, Nat.reduceSub, zl11, zl12, zn9, if_false, if_true, zn10, zn11, Bool.not_true, Bool.not_false, zn12, zn13, reduceCtorEq, zn15, zn14, zn18, zn16, zn17, forall_const, zb1, zb2, zb3, zb4, zb5, zb6, zb7, decide_true, decide_false, eq_self, ir_L_row, s_L_row_0, s_L_row_1, s_L_row_2, s_L_row_3b0, s_L_row_3b1, s_L_row_3, s_L_row_4b0, s_L_row_4, s_L_row_5b0, s_L_row_5b1, s_L_row_5b2, s_L_row_5, s_L_row_6b0, s_L_row_6, s_L_row_7]
  refine cell_ok hc hS h0 (by first | decide | with_reducible first | assumption | exact zm0 (by decide) | exact zm1 (by decide) (by decide) | exact zm3 (by assumption) (by decide) | omega) fun v hv0 hv1 => hW.len (by first | decide | with_reducible first | assumption | exact zm0 (by decide) | exact zm1 (by decide) (by decide) | exact zm3 (by assumption) (by decide) | omega) ?_
  simp only [qx_1, qx_2, qx_3, qx_4, qx_5, qx_6, qx_7, qx_8, qx_9, qx_10, qx_11, qx_13, qx_15, qx_16, qx_17, qx_18, qx_19, qx_20, qx_21, qx_22, qx_23, qx_24, qx_25, qx_26, qt_1, qt_2, qt_3, qt_4, qt_5, qt_6, qt_7, qt_9, qt_10, qt_11, qt_12, qt_13, ql_1, ql_2, qa_1, qa_2, qb_1, qb_2, qo_1, qo_2, qc_1, qc_2, k_n, k_r, k_1, k_2, k_3, k_4, k_5, k_6, k_7, k_8, k_9, qs_1, add_i, sub_i, mul_i, div_i, mod_i, pow_i, eq_i, ne_i, eq_s, ne_s, eq_b, ne_b, lt_i, le_i, gt_i, ge_i, ret_v, ret_n, tru_b, vk_i, vk_s, vk_t, vk_n, vk_b, is_nn, is_in, is_sn, is_tn, is_rn, isn_nn, isn_tn, zn1, zn2, zn3, zn4, zn5, zn6, zn7, zn8, beq_self_eq_true, then_n, then_r, thenR_n, thenR_r, loop_n, loop_r, zl1, zl2, zl3, zl4, rng_1, rng_2, int_b, str_i, max_i, min_i, len_t, list_t, zl7, zl8, List.replicate, zl9, zl10, List.set, zl5, zl6, zo1, zo3, zo2, Nat.reduceSub, zl11, zl12, zn9, if_false, if_true, zn10, zn11, Bool.not_true, Bool.not_false, zn12, zn13, reduceCtorEq, zn15, zn14, zn18, zn16, zn17, forall_const, zb1, zb2, zb3, zb4, zb5, zb6, zb7, decide_true, decide_false, eq_self]
  have b0 : 0 ≤ v % (W.length : Int) := Int.emod_nonneg _ (by first | decide | with_reducible first | assumption | exact zm0 (by decide) | exact zm1 (by decide) (by decide) | exact zm3 (by assumption) (by decide) | omega)
  refine ⟨by first | decide | with_reducible first | assumption | exact zm0 (by decide) | exact zm1 (by decide) (by decide) | exact zm3 (by assumption) (by decide) | omega, hW.get (by first | decide | with_reducible first | assumption | exact zm0 (by decide) | exact zm1 (by decide) (by decide) | exact zm3 (by assumption) (by decide) | omega) b0 (Int.emod_lt_of_pos _ (by first | decide | with_reducible first | assumption | exact zm0 (by decide) | exact zm1 (by decide) (by decide) | exact zm3 (by assumption) (by decide) | omega)) fun st hst => hW.len (by first | decide | with_reducible first | assumption | exact zm0 (by decide) | exact zm1 (by decide) (by decide) | exact zm3 (by assumption) (by decide) | omega) ?_⟩
  simp only [qx_1, qx_2, qx_3, qx_4, qx_5, qx_6, qx_7, qx_8, qx_9, qx_10, qx_11, qx_13, qx_15, qx_16, qx_17, qx_18, qx_19, qx_20, qx_21, qx_22, qx_23, qx_24, qx_25, qx_26, qt_1, qt_2, qt_3, qt_4, qt_5, qt_6, qt_7, qt_9, qt_10, qt_11, qt_12, qt_13, ql_1, ql_2, qa_1, qa_2, qb_1, qb_2, qo_1, qo_2, qc_1, qc_2, k_n, k_r, k_1, k_2, k_3, k_4, k_5, k_6, k_7, k_8, k_9, qs_1, add_i, sub_i, mul_i, div_i, mod_i, pow_i, eq_i, ne_i, eq_s, ne_s, eq_b, ne_b, lt_i, le_i, gt_i, ge_i, ret_v, ret_n, tru_b, vk_i, vk_s, vk_t, vk_n, vk_b, is_nn, is_in, is_sn, is_tn, is_rn, isn_nn, isn_tn, zn1, zn2, zn3, zn4, zn5, zn6, zn7, zn8, beq_self_eq_true, then_n, then_r, thenR_n, thenR_r, loop_n, loop_r, zl1, zl2, zl3, zl4, rng_1, rng_2, int_b, str_i, max_i, min_i, len_t, list_t, zl7, zl8, List.replicate, zl9, zl10, List.set, zl5, zl6, zo1, zo3, zo2, Nat.reduceSub, zl11, zl12, zn9, if_false, if_true, zn10, zn11, Bool.not_true, Bool.not_false, zn12, zn13, reduceCtorEq, zn15, zn14, zn18, zn16, zn17, forall_const, zb1, zb2, zb3, zb4, zb5, zb6, zb7, decide_true, decide_false, eq_self]
  exact ⟨by first | decide | with_reducible first | assumption | exact zm0 (by decide) | exact zm1 (by decide) (by decide) | exact zm3 (by assumption) (by decide) | omega, by first | decide | with_reducible first | assumption | exact zm0 (by decide) | exact zm1 (by decide) (by decide) | exact zm3 (by assumption) (by decide) | omega, tail st v _ hst (Int.ediv_nonneg hv0 (by first | decide | with_reducible first | assumption | exact zm0 (by decide) | exact zm1 (by decide) (by decide) | exact zm3 (by assumption) (by decide) | omega))⟩

/-- a program: a list of bodies -/
noncomputable def Prog (H : AH) (p : Nat) (B : List (List AV)) : Prop := ∃ rl : List (Nat × List AV), H p = some (.list true (rl.map fun x => .ref x.1)) ∧ B = rl.map (·.2) ∧ 0 < rl.length ∧ rl.length ≤ 20 ∧ ∀ x ∈ rl, (∃ own, H x.1 = some (.list own x.2)) ∧ x.2.length ≤ 60
theorem Prog.grow {H' : AH} {p : Nat} {B : List (List AV)} (h : Prog H p B) (g : ∀ a o, H a = some o → H' a = some o) : Prog H' p B :=
  let ⟨rl, h1, h2, h3, h4, h5⟩ := h; ⟨rl, g _ _ h1, h2, h3, h4, fun x hx => let ⟨⟨o, e1⟩, e2⟩ := h5 x hx; ⟨⟨o, g _ _ e1⟩, e2⟩⟩
theorem Prog.size {p : Nat} {B : List (List AV)} (h : Prog H p B) : 0 < B.length ∧ B.length ≤ 20 := by
  obtain ⟨rl, h1, rfl, h3, h4, h5⟩ := h
  rw [List.length_map]; exact ⟨h3, h4⟩
theorem Prog.len {p : Nat} {B : List (List AV)} (h : Prog H p B) {Q : AV → AH → Prop} (hq : Q (.int B.length) H) : biW .len [.ref p] H Q := by
  obtain ⟨rl, h1, rfl, h3, h4, h5⟩ := h
  rw [List.length_map] at hq
  exact lenL h1 (by rw [List.length_map]; omega) (by rw [List.length_map]; exact hq)
theorem Prog.get {p : Nat} {B : List (List AV)} (h : Prog H p B) {k : Int} (h0 : 0 ≤ k) (h1 : k < B.length) {Q : AV → AH → Prop} (hq : ∀ r own l, H r = some (.list own l) → l.length ≤ 60 → B[k.toNat]? = some l → Q (.ref r) H) : getW (.ref p) (.int k) H Q := by
  obtain ⟨rl, e1, rfl, e3, e4, e5⟩ := h
  rw [List.length_map] at h1
  have hk : k.toNat < rl.length := by first | decide | with_reducible first | assumption | exact zm0 (by decide) | exact zm1 (by decide) (by decide) | exact zm3 (by assumption) (by decide) | omega
  obtain ⟨⟨o, q1⟩, q2⟩ := e5 _ (List.getElem_mem hk)
  refine getL e1 h0 (by rw [List.length_map]; omega) (x := .ref rl[k.toNat].1) ?_ (hq _ o _ q1 q2 ?_)
  · rw [List.getElem?_map, List.getElem?_eq_getElem hk]; rfl
  · rw [List.getElem?_map, List.getElem?_eq_getElem hk]; rfl

/-- the words of a program -/
noncomputable def Rows (W : List Str) (B : List (List AV)) : Prop := ∀ b ∈ B, ∀ r ∈ b, Row W r
theorem program_ok (hc : Tab c) {a w : Nat} {S : List Int} {W : List Str} {Q : AV → AH → Prop} (hS : Ints H a S) (hW : Strs H w W) (hW0 : 0 < W.length) (hW1 : W.length ≤ 100)
    (hQ : ∀ (p : Nat) (B : List (List AV)) (H' : AH), (∀ a o, H a = some o → H' a = some o) → Prog H' p B → H p = none → Rows W B → Q (.ref p) H') : CW c (n + 3) i_L_program [.ref a, .ref w] H Q := by
  refine CW.cut 3 (f := "_law_program") (ir := ir_L_program) (by rw [hc.fns]; rfl) rfl ?_
  have tail : ∀ (v m : Int), 1 ≤ m → m ≤ 20 → WS c (n + 2) (ir_L_program.body.drop 3) [some (.ref a), some (.ref w), some (.int v), some (.int m), none, none, none, none] H fun fl _ H' => ∃ v, retv fl v ∧ Q v H' := by
    intro v m m0 m1
    refine sS _ _ _ _ ?_
    simp only [qx_1, qx_2, qx_3, qx_4, qx_5, qx_6, qx_7, qx_8, qx_9, qx_10, qx_11, qx_13, qx_15, qx_16, qx_17, qx_18, qx_19, qx_20, qx_21, qx_22, qx_23, qx_24, qx_25, qx_26, qt_1, qt_2, qt_3, qt_4, qt_5, qt_6, qt_7, qt_9, qt_10, qt_11, qt_12, qt_13, ql_1, ql_2, qa_1, qa_2, qb_1, qb_2, qo_1, qo_2, qc_1, qc_2, k_n, k_r, k_1, k_2, k_3, k_4, k_5, k_6, k_7, k_8, k_9, qs_1, add_i, sub_i, mul_i, div_i, mod_i, pow_i, eq_i, ne_i, eq_s, ne_s, eq_b, ne_b, lt_i, le_i, gt_i, ge_i, ret_v, ret_n, tru_b, vk_i, vk_s, vk_t, vk_n, vk_b, is_nn, is_in, is_sn, is_tn, is_rn, isn_nn, isn_tn, zn1, zn2, zn3, zn4, zn5, zn6, zn7, zn8, beq_self_eq_true, then_n, then_r, thenR_n, thenR_r, loop_n, loop_r, zl1, zl2, zl3, zl4, rng_1, rng_2, int_b, str_i, max_i, min_i, len_t, list_t, zl7, zl8, List.replicate, zl9, zl10, List.set, zl5, zl6, zo1, zo3, zo2, Nat.reduceSub, zl11, zl12, zn9, if_false, if_true, zn10, zn11, Bool.not_true, Bool.not_false, zn12, zn13, reduceCtorEq, zn15, zn14, zn18, zn16, zn17, forall_const, zb1, zb2, zb3, zb4, zb5, zb6, zb7, decide_true, decide_false, eq_self, ir_L_program, s_L_program_0, s_L_program_1, s_L_program_2b0, s_L_program_2, s_L_program_3, s_L_program_4b0, s_L_program_4b1b0, s_L_program_4b1, s_L_program_4b2, s_L_program_4b3, s_L_program_4, s_L_program_5]
    refine ⟨by simp, fun p hp => ?_⟩
    refine for_range (fun j ρ' H' => ∃ x5 x6 x7, ∃ rl : List (Nat × List AV), ρ' = [some (.ref a), some (.ref w), some (.int v), some (.int m), some (.ref p), x5, x6, x7] ∧ (∀ a o, H a = some o → H' a = some o) ∧ H' p = some (.list true (rl.map fun x => .ref x.1)) ∧ rl.length = j ∧ ∀ x ∈ rl, x.1 ≠ p ∧ H' x.1 = some (.list true x.2) ∧ x.2.length ≤ 60 ∧ ∀ r ∈ x.2, Row W r)
      (by first | decide | with_reducible first | assumption | exact zm0 (by decide) | exact zm1 (by decide) (by decide) | exact zm3 (by assumption) (by decide) | omega) (by first | decide | with_reducible first | assumption | exact zm0 (by decide) | exact zm1 (by decide) (by decide) | exact zm3 (by assumption) (by decide) | omega) ⟨none, none, none, [], rfl, fun _ _ h => AH.set_of h hp, AH.set_self _ _ _, rfl, by simp⟩ ?_ ?_
    · rintro j ρ' H' hj ⟨x5, x6, x7, rl, rfl, g, h1, h2, h3⟩
      have hS' := hS.grow g
      have hW' : Strs H' w W := let ⟨o, e⟩ := hW; ⟨o, g _ _ e⟩
      rw [wpR_eq]
      refine wp_cut 2 ?_
      have fin : ∀ sz : Int, 0 ≤ sz → sz ≤ 60 → wpR c (n + 2) [.asgc 7 (.call i_L_row [.var 0, .bin .Add (.bin .Add (.int 1000) (.bin .Mult (.int 61) (.var 5))) (.var 8), .var 1, .var 3, .var 6]) (.bi .range [.var 6]) none, .expr (.me .append (.var 4) [.var 7])]
          [some (.ref a), some (.ref w), some (.int v), some (.int m), some (.ref p), some (.int j), some (.int sz), x7] H' (LoopQ (fun ρ' H' => ∃ x5 x6 x7, ∃ rl : List (Nat × List AV), ρ' = [some (.ref a), some (.ref w), some (.int v), some (.int m), some (.ref p), x5, x6, x7] ∧ (∀ a o, H a = some o → H' a = some o) ∧ H' p = some (.list true (rl.map fun x => .ref x.1)) ∧ rl.length = j + 1 ∧ ∀ x ∈ rl, x.1 ≠ p ∧ H' x.1 = some (.list true x.2) ∧ x.2.length ≤ 60 ∧ ∀ r ∈ x.2, Row W r)
            (fun f ρ' H' => match f with | .next => wpS c (n + 2) [.ret (.var 4)] ρ' H' (fun fl _ H' => ∃ v, retv fl v ∧ Q v H') | .brk => ∃ v, retv .brk v ∧ Q v H' | .cont => ∃ v, retv .cont v ∧ Q v H' | .ret v => ∃ w, retv (.ret v) w ∧ Q w H')) := by
        intro sz z0 z1
        unfold wpR
        simp only [qx_1, qx_2, qx_3, qx_4, qx_5, qx_6, qx_7, qx_8, qx_9, qx_10, qx_11, qx_13, qx_15, qx_16, qx_17, qx_18, qx_19, qx_20, qx_21, qx_22, qx_23, qx_24, qx_25, qx_26, qt_1, qt_2, qt_3, qt_4, qt_5, qt_6, qt_7, qt_9, qt_10, qt_11, qt_12, qt_13, ql_1, ql_2, qa_1, qa_2, qb_1, qb_2, qo_1, qo_2, qc_1, qc_2, k_n, k_r, k_1, k_2, k_3, k_4, k_5, k_6, k_7, k_8, k_9, qs_1, add_i, sub_i, mul_i, div_i, mod_i, pow_i, eq_i, ne_i, eq_s, ne_s, eq_b, ne_b, lt_i, le_i, gt_i, ge_i, ret_v, ret_n, tru_b, vk_i, vk_s, vk_t, vk_n, vk_b, is_nn, is_in, is_sn, is_tn, is_rn, isn_nn, isn_tn, zn1, zn2, zn3, zn4, zn5, zn6, zn7, zn8, beq_self_eq_true, then_n, then_r, thenR_n, thenR_r, loop_n, loop_r, zl1, zl2, zl3, zl4, rng_1, rng_2, int_b, str_i, max_i, min_i, len_t, list_t, zl7, zl8, List.replicate, zl9, zl10, List.set, zl5, zl6, zo1, zo3, zo2, Nat.reduceSub, zl11, zl12, zn9, if_false, if_true, zn10, zn11, Bool.not_true, Bool.not_false, zn12, zn13, reduceCtorEq, zn15, zn14, zn18, zn16, zn17, forall_const, zb1, zb2, zb3, zb4, zb5, zb6, zb7, decide_true, decide_false, eq_self]
        refine comp_range (fun _ v => Row W v) z0 (by first | decide | with_reducible first | assumption | exact zm0 (by decide) | exact zm1 (by decide) (by decide) | exact zm3 (by assumption) (by decide) | omega) (fun i hi Q' hq' => ?_) fun ys hl hys D hD => ?_
        · simp only [wpR_eq, wpE_eq, qx_1, qx_2, qx_3, qx_4, qx_5, qx_6, qx_7, qx_8, qx_9, qx_10, qx_11, qx_13, qx_15, qx_16, qx_17, qx_18, qx_19, qx_20, qx_21, qx_22, qx_23, qx_24, qx_25, qx_26, qt_1, qt_2, qt_3, qt_4, qt_5, qt_6, qt_7, qt_9, qt_10, qt_11, qt_12, qt_13, ql_1, ql_2, qa_1, qa_2, qb_1, qb_2, qo_1, qo_2, qc_1, qc_2, k_n, k_r, k_1, k_2, k_3, k_4, k_5, k_6, k_7, k_8, k_9, qs_1, add_i, sub_i, mul_i, div_i, mod_i, pow_i, eq_i, ne_i, eq_s, ne_s, eq_b, ne_b, lt_i, le_i, gt_i, ge_i, ret_v, ret_n, tru_b, vk_i, vk_s, vk_t, vk_n, vk_b, is_nn, is_in, is_sn, is_tn, is_rn, isn_nn, isn_tn, zn1, zn2, zn3, zn4, zn5, zn6, zn7, zn8, beq_self_eq_true, then_n, then_r, thenR_n, thenR_r, loop_n, loop_r, zl1, zl2, zl3, zl4, rng_1, rng_2, int_b, str_i, max_i, min_i, len_t, list_t, zl7, zl8, List.replicate, zl9, zl10, List.set, zl5, zl6, zo1, zo3, zo2, Nat.reduceSub, zl11, zl12, zn9, if_false, if_true, zn10, zn11, Bool.not_true, Bool.not_false, zn12, zn13, reduceCtorEq, zn15, zn14, zn18, zn16, zn17, forall_const, zb1, zb2, zb3, zb4, zb5, zb6, zb7, decide_true, decide_false, eq_self]
          exact ⟨.inl (by decide), row_ok hc hS' hW' hW0 hW1 (by first | decide | with_reducible first | assumption | exact zm0 (by decide) | exact zm1 (by decide) (by decide) | exact zm3 (by assumption) (by decide) | omega) (by first | decide | with_reducible first | assumption | exact zm0 (by decide) | exact zm1 (by decide) (by decide) | exact zm3 (by assumption) (by decide) | omega) (by first | decide | with_reducible first | assumption | exact zm0 (by decide) | exact zm1 (by decide) (by decide) | exact zm3 (by assumption) (by decide) | omega) z0 hq'⟩
        · have hDp : D ≠ p := fun q => by rw [q, h1] at hD; cases hD
          have e1 : (H'.set D (.list true ys)) p = some (.list true (rl.map fun x => .ref x.1)) := AH.set_of h1 hD
          refine ⟨⟨true, _, e1⟩, _, e1, by rw [List.length_map]; omega, some (.int j), some (.int sz), some (.ref D), rl ++ [(D, ys)], rfl, fun b o e => ?_, ?_, by simp [h2], fun x hx => ?_⟩
          · have hb : b ≠ p := fun q => by rw [q, hp] at e; cases e
            rw [AH.set_ne _ _ hb]; exact AH.set_of (g _ _ e) hD
          · rw [AH.set_self]; simp
          · rcases List.mem_append.mp hx with hx | hx
            · obtain ⟨q1, q2, q3, q4⟩ := h3 x hx
              exact ⟨q1, by rw [AH.set_ne _ _ q1]; exact AH.set_of q2 hD, q3, q4⟩
            · simp at hx; subst hx
              exact ⟨hDp, by rw [AH.set_ne _ _ hDp]; exact AH.set_self _ _ _, by show ys.length ≤ 60; omega, fun y hy => by
                obtain ⟨i, hi, e⟩ := List.getElem_of_mem hy
                exact hys i y (by rw [List.getElem?_eq_getElem hi, e])⟩
      simp only [qx_1, qx_2, qx_3, qx_4, qx_5, qx_6, qx_7, qx_8, qx_9, qx_10, qx_11, qx_13, qx_15, qx_16, qx_17, qx_18, qx_19, qx_20, qx_21, qx_22, qx_23, qx_24, qx_25, qx_26, qt_1, qt_2, qt_3, qt_4, qt_5, qt_6, qt_7, qt_9, qt_10, qt_11, qt_12, qt_13, ql_1, ql_2, qa_1, qa_2, qb_1, qb_2, qo_1, qo_2, qc_1, qc_2, k_n, k_r, k_1, k_2, k_3, k_4, k_5, k_6, k_7, k_8, k_9, qs_1, add_i, sub_i, mul_i, div_i, mod_i, pow_i, eq_i, ne_i, eq_s, ne_s, eq_b, ne_b, lt_i, le_i, gt_i, ge_i, ret_v, ret_n, tru_b, vk_i, vk_s, vk_t, vk_n, vk_b, is_nn, is_in, is_sn, is_tn, is_rn, isn_nn, isn_tn, zn1, zn2, zn3, zn4, zn5, zn6, zn7, zn8, beq_self_eq_true, then_n, then_r, thenR_n, thenR_r, loop_n, loop_r, zl1, zl2, zl3, zl4, rng_1, rng_2, int_b, str_i, max_i, min_i, len_t, list_t, zl7, zl8, List.replicate, zl9, zl10, List.set, zl5, zl6, zo1, zo3, zo2, Nat.reduceSub, zl11, zl12, zn9, if_false, if_true, zn10, zn11, Bool.not_true, Bool.not_false, zn12, zn13, reduceCtorEq, zn15, zn14, zn18, zn16, zn17, forall_const, zb1, zb2, zb3, zb4, zb5, zb6, zb7, decide_true, decide_false, eq_self]
      refine cell_ok hc hS' (by first | decide | with_reducible first | assumption | exact zm0 (by decide) | exact zm1 (by decide) (by decide) | exact zm3 (by assumption) (by decide) | omega) (by first | decide | with_reducible first | assumption | exact zm0 (by decide) | exact zm1 (by decide) (by decide) | exact zm3 (by assumption) (by decide) | omega) fun x hx0 hx1 => ?_
      simp only [qx_1, qx_2, qx_3, qx_4, qx_5, qx_6, qx_7, qx_8, qx_9, qx_10, qx_11, qx_13, qx_15, qx_16, qx_17, qx_18, qx_19, qx_20, qx_21, qx_22, qx_23, qx_24, qx_25, qx_26, qt_1, qt_2, qt_3, qt_4, qt_5, qt_6, qt_7, qt_9, qt_10, qt_11, qt_12, qt_13, ql_1, ql_2, qa_1, qa_2, qb_1, qb_2, qo_1, qo_2, qc_1, qc_2, k_n, k_r, k_1, k_2, k_3, k_4, k_5, k_6, k_7, k_8, k_9, qs_1, add_i, sub_i, mul_i, div_i, mod_i, pow_i, eq_i, ne_i, eq_s, ne_s, eq_b, ne_b, lt_i, le_i, gt_i, ge_i, ret_v, ret_n, tru_b, vk_i, vk_s, vk_t, vk_n, vk_b, is_nn, is_in, is_sn, is_tn, is_rn, isn_nn, isn_tn, zn1, zn2, zn3, zn4, zn5, zn6, zn7, zn8, beq_self_eq_true, then_n, then_r, thenR_n, thenR_r, loop_n, loop_r, zl1, zl2, zl3, zl4, rng_1, rng_2, int_b, str_i, max_i, min_i, len_t, list_t, zl7, zl8, List.replicate, zl9, zl10, List.set, zl5, zl6, zo1, zo3, zo2, Nat.reduceSub, zl11, zl12, zn9, if_false, if_true, zn10, zn11, Bool.not_true, Bool.not_false, zn12, zn13, reduceCtorEq, zn15, zn14, zn18, zn16, zn17, forall_const, zb1, zb2, zb3, zb4, zb5, zb6, zb7, decide_true, decide_false, eq_self]
      refine ⟨by first | decide | with_reducible first | assumption | exact zm0 (by decide) | exact zm1 (by decide) (by decide) | exact zm3 (by assumption) (by decide) | omega, cell_ok hc hS' (by first | decide | with_reducible first | assumption | exact zm0 (by decide) | exact zm1 (by decide) (by decide) | exact zm3 (by assumption) (by decide) | omega) (by first | decide | with_reducible first | assumption | exact zm0 (by decide) | exact zm1 (by decide) (by decide) | exact zm3 (by assumption) (by decide) | omega) fun y hy0 hy1 => ?_⟩
      simp only [qx_1, qx_2, qx_3, qx_4, qx_5, qx_6, qx_7, qx_8, qx_9, qx_10, qx_11, qx_13, qx_15, qx_16, qx_17, qx_18, qx_19, qx_20, qx_21, qx_22, qx_23, qx_24, qx_25, qx_26, qt_1, qt_2, qt_3, qt_4, qt_5, qt_6, qt_7, qt_9, qt_10, qt_11, qt_12, qt_13, ql_1, ql_2, qa_1, qa_2, qb_1, qb_2, qo_1, qo_2, qc_1, qc_2, k_n, k_r, k_1, k_2, k_3, k_4, k_5, k_6, k_7, k_8, k_9, qs_1, add_i, sub_i, mul_i, div_i, mod_i, pow_i, eq_i, ne_i, eq_s, ne_s, eq_b, ne_b, lt_i, le_i, gt_i, ge_i, ret_v, ret_n, tru_b, vk_i, vk_s, vk_t, vk_n, vk_b, is_nn, is_in, is_sn, is_tn, is_rn, isn_nn, isn_tn, zn1, zn2, zn3, zn4, zn5, zn6, zn7, zn8, beq_self_eq_true, then_n, then_r, thenR_n, thenR_r, loop_n, loop_r, zl1, zl2, zl3, zl4, rng_1, rng_2, int_b, str_i, max_i, min_i, len_t, list_t, zl7, zl8, List.replicate, zl9, zl10, List.set, zl5, zl6, zo1, zo3, zo2, Nat.reduceSub, zl11, zl12, zn9, if_false, if_true, zn10, zn11, Bool.not_true, Bool.not_false, zn12, zn13, reduceCtorEq, zn15, zn14, zn18, zn16, zn17, forall_const, zb1, zb2, zb3, zb4, zb5, zb6, zb7, decide_true, decide_false, eq_self]
      exact ⟨by first | decide | with_reducible first | assumption | exact zm0 (by decide) | exact zm1 (by decide) (by decide) | exact zm3 (by assumption) (by decide) | omega, by first | decide | with_reducible first | assumption | exact zm0 (by decide) | exact zm1 (by decide) (by decide) | exact zm3 (by assumption) (by decide) | omega, by first | decide | with_reducible first | assumption | exact zm0 (by decide) | exact zm1 (by decide) (by decide) | exact zm3 (by assumption) (by decide) | omega, fun _ => fin 60 (by first | decide | with_reducible first | assumption | exact zm0 (by decide) | exact zm1 (by decide) (by decide) | exact zm3 (by assumption) (by decide) | omega) (by first | decide | with_reducible first | assumption | exact zm0 (by decide) | exact zm1 (by decide) (by decide) | exact zm3 (by assumption) (by decide) | omega), fun _ => fin _ (by first | decide | with_reducible first | assumption | exact zm0 (by decide) | exact zm1 (by decide) (by decide) | exact zm3 (by assumption) (by decide) | omega) (by first | decide | with_reducible first | assumption | exact zm0 (by decide) | exact zm1 (by decide) (by decide) | exact zm3 (by assumption) (by decide) | omega)⟩
    · rintro ρ' H' ⟨x5, x6, x7, rl, rfl, g, h1, h2, h3⟩
      simp only [qx_1, qx_2, qx_3, qx_4, qx_5, qx_6, qx_7, qx_8, qx_9, qx_10, qx_11, qx_13, qx_15, qx_16, qx_17, qx_18, qx_19, qx_20, qx_21, qx_22, qx_23, qx_24, qx_25, qx_26, qt_1, qt_2, qt_3, qt_4, qt_5, qt_6, qt_7, qt_9, qt_10, qt_11, qt_12, qt_13, ql_1, ql_2, qa_1, qa_2, qb_1, qb_2, qo_1, qo_2, qc_1, qc_2, k_n, k_r, k_1, k_2, k_3, k_4, k_5, k_6, k_7, k_8, k_9, qs_1, add_i, sub_i, mul_i, div_i, mod_i, pow_i, eq_i, ne_i, eq_s, ne_s, eq_b, ne_b, lt_i, le_i, gt_i, ge_i, ret_v, ret_n, tru_b, vk_i, vk_s, vk_t, vk_n, vk_b, is_nn, is_in, is_sn, is_tn, is_rn, isn_nn, isn_tn, zn1, zn2, zn3, zn4, zn5, zn6, zn7, zn8, beq_self_eq_true, then_n, then_r, thenR_n, thenR_r, loop_n, loop_r, zl1, zl2, zl3, zl4, rng_1, rng_2, int_b, str_i, max_i, min_i, len_t, list_t, zl7, zl8, List.replicate, zl9, zl10, List.set, zl5, zl6, zo1, zo3, zo2, Nat.reduceSub, zl11, zl12, zn9, if_false, if_true, zn10, zn11, Bool.not_true, Bool.not_false, zn12, zn13, reduceCtorEq, zn15, zn14, zn18, zn16, zn17, forall_const, zb1, zb2, zb3, zb4, zb5, zb6, zb7, decide_true, decide_false, eq_self]
      refine hQ p _ H' g ⟨rl, h1, rfl, by first | decide | with_reducible first | assumption | exact zm0 (by decide) | exact zm1 (by decide) (by decide) | exact zm3 (by assumption) (by decide) | omega, by first | decide | with_reducible first | assumption | exact zm0 (by decide) | exact zm1 (by decide) (by decide) | exact zm3 (by assumption) (by decide) | omega, fun x hx => let ⟨_, e1, e2, _⟩ := h3 x hx; ⟨⟨true, e1⟩, e2⟩⟩ hp fun b hb r hr => ?_
      obtain ⟨x, hx, rfl⟩ := List.mem_map.mp hb
      exact (h3 x hx).2.2.2 r hr
  simp only [qx_1, qx_2, qx_3, qx_4, qx_5, qx_6, qx_7, qx_8, qx_9, qx_10, qx_11, qx_13, qx_15, qx_16, qx_17, qx_18, qx_19, qx_20, qx_21, qx_22, qx_23, qx_24, qx_25, qx_26, qt_1, qt_2, qt_3, qt_4, qt_5, qt_6, qt_7, qt_9, qt_10, qt_11, qt_12, qt_13, ql_1, ql_2, qa_1, qa_2, qb_1, qb_2, qo_1, qo_2, qc_1, qc_2, k_n, k_r, k_1, k_2, k_3, k_4, k_5, k_6, k_7, k_8, k_9, qs_1, add_i, sub_i, mul_i, div_i, mod_i, pow_i, eq_i, ne_i, eq_s, ne_s, eq_b, ne_b, lt_i, le_i, gt_i, ge_i, ret_v, ret_n, tru_b, vk_i, vk_s, vk_t, vk_n, vk_b, is_nn, is_in, is_sn, is_tn, is_rn, isn_nn, isn_tn, zn1, zn2, zn3, zn4, zn5, zn6, zn7, zn8, beq_self_eq_true, then_n, then_r, thenR_n, thenR_r, loop_n, loop_r, zl1, zl2, zl3, zl4, rng_1, rng_2, int_b, str_i, max_i, min_i, len_t, list_t, zl7, zl8, List.replicate, zl9, zl10, List.set, zl5, zl6, zo1, zo3, zo2, Nat.reduceSub, zl11, zl12, zn9, if_false, if_true, zn10, zn11, Bool.not_true, Bool.not_false, zn12, zn13, reduceCtorEq, zn15, zn14, zn18, zn16, zn17, forall_const, zb1, zb2, zb3, zb4, zb5, zb6, zb7, decide_true, decide_false, eq_self, ir_L_program, s_L_program_0, s_L_program_1, s_L_program_2b0, s_L_program_2, s_L_program_3, s_L_program_4b0, s_L_program_4b1b0, s_L_program_4b1, s_L_program_4b2, s_L_program_4b3, s_L_program_4, s_L_program_5]
  refine cell_ok hc hS (by first | decide | with_reducible first | assumption | exact zm0 (by decide) | exact zm1 (by decide) (by decide) | exact zm3 (by assumption) (by decide) | omega) (by first | decide | with_reducible first | assumption | exact zm0 (by decide) | exact zm1 (by decide) (by decide) | exact zm3 (by assumption) (by decide) | omega) fun v hv0 hv1 => ?_
  simp only [qx_1, qx_2, qx_3, qx_4, qx_5, qx_6, qx_7, qx_8, qx_9, qx_10, qx_11, qx_13, qx_15, qx_16, qx_17, qx_18, qx_19, qx_20, qx_21, qx_22, qx_23, qx_24, qx_25, qx_26, qt_1, qt_2, qt_3, qt_4, qt_5, qt_6, qt_7, qt_9, qt_10, qt_11, qt_12, qt_13, ql_1, ql_2, qa_1, qa_2, qb_1, qb_2, qo_1, qo_2, qc_1, qc_2, k_n, k_r, k_1, k_2, k_3, k_4, k_5, k_6, k_7, k_8, k_9, qs_1, add_i, sub_i, mul_i, div_i, mod_i, pow_i, eq_i, ne_i, eq_s, ne_s, eq_b, ne_b, lt_i, le_i, gt_i, ge_i, ret_v, ret_n, tru_b, vk_i, vk_s, vk_t, vk_n, vk_b, is_nn, is_in, is_sn, is_tn, is_rn, isn_nn, isn_tn, zn1, zn2, zn3, zn4, zn5, zn6, zn7, zn8, beq_self_eq_true, then_n, then_r, thenR_n, thenR_r, loop_n, loop_r, zl1, zl2, zl3, zl4, rng_1, rng_2, int_b, str_i, max_i, min_i, len_t, list_t, zl7, zl8, List.replicate, zl9, zl10, List.set, zl5, zl6, zo1, zo3, zo2, Nat.reduceSub, zl11, zl12, zn9, if_false, if_true, zn10, zn11, Bool.not_true, Bool.not_false, zn12, zn13, reduceCtorEq, zn15, zn14, zn18, zn16, zn17, forall_const, zb1, zb2, zb3, zb4, zb5, zb6, zb7, decide_true, decide_false, eq_self]
  exact ⟨by first | decide | with_reducible first | assumption | exact zm0 (by decide) | exact zm1 (by decide) (by decide) | exact zm3 (by assumption) (by decide) | omega, by first | decide | with_reducible first | assumption | exact zm0 (by decide) | exact zm1 (by decide) (by decide) | exact zm3 (by assumption) (by decide) | omega, by first | decide | with_reducible first | assumption | exact zm0 (by decide) | exact zm1 (by decide) (by decide) | exact zm3 (by assumption) (by decide) | omega, by first | decide | with_reducible first | assumption | exact zm0 (by decide) | exact zm1 (by decide) (by decide) | exact zm3 (by assumption) (by decide) | omega, fun _ => tail _ _ (by first | decide | with_reducible first | assumption | exact zm0 (by decide) | exact zm1 (by decide) (by decide) | exact zm3 (by assumption) (by decide) | omega) (by first | decide | with_reducible first | assumption | exact zm0 (by decide) | exact zm1 (by decide) (by decide) | exact zm3 (by assumption) (by decide) | omega), fun _ => tail _ _ (by first | decide | with_reducible first | assumption | exact zm0 (by decide) | exact zm1 (by decide) (by decide) | exact zm3 (by assumption) (by decide) | omega) (by first | decide | with_reducible first | assumption | exact zm0 (by decide) | exact zm1 (by decide) (by decide) | exact zm3 (by assumption) (by decide) | omega)⟩
end
end Mine

set_option maxRecDepth 100000
set_option autoImplicit false
set_option linter.unusedSimpArgs false
set_option linter.unusedVariables false
namespace Mine
open PySem PyProof.Rows

section
variable {c : Cx} {n : Nat} {H : AH}

theorem cut_mem {lo hi : Option Int} {l : List AV} {x : AV} (h : x ∈ cut lo hi l) : x ∈ l := List.mem_of_mem_drop (List.mem_of_mem_take h)
theorem cut_len (lo hi : Option Int) (l : List AV) : (cut lo hi l).length ≤ l.length := by
  unfold cut; rw [List.length_take, List.length_drop]; omega
theorem cut_le {k : Int} (h0 : 0 ≤ k) (l : List AV) : (cut none (some k) l).length ≤ k.toNat := by
  obtain ⟨j, rfl⟩ := Int.eq_ofNat_of_zero_le h0
  unfold cut
  simp only [Option.elim, Nat.sub_zero]
  rw [clipAt_nat, List.length_take]
  omega
noncomputable def Vals (N : List Int) (l : List AV) : Prop := l.length ≤ 60 ∧ ∀ x ∈ l, IsVal N x
noncomputable def IsFrame (N : List Int) (v : AV) : Prop := ∃ b q o s, v = .tup [.int b, .int q, .tup o, .tup s] ∧ 0 ≤ b ∧ 0 ≤ q ∧ Vals N o ∧ Vals N s
/-- a place that a program has -/
noncomputable def fitQ (B : List (List AV)) (b q : Int) : Bool := match B[b.toNat]? with | some l => decide (q ≤ l.length) | none => false
noncomputable def fitF (B : List (List AV)) : AV → Bool
  | .tup [.int b, .int q, _, _] => fitQ B b q
  | _ => false
theorem fitF_eq {B : List (List AV)} {b q : Int} {o s : AV} : fitF B (.tup [.int b, .int q, o, s]) = fitQ B b q := rfl
theorem fitQ_some {B : List (List AV)} {b q : Int} {l : List AV} (h : B[b.toNat]? = some l) : fitQ B b q = decide (q ≤ l.length) := by unfold fitQ; rw [h]
theorem fitQ_none {B : List (List AV)} {b q : Int} (h : B[b.toNat]? = none) : fitQ B b q = false := by unfold fitQ; rw [h]

theorem frame_ok (hc : Tab c) {a p b : Nat} {B : List (List AV)} {S N : List Int} {k : Int} {Q : AV → AH → Prop} (hS : Ints H a S) (hP : Prog H p B) (hN : Ints H b N) (h0 : 0 ≤ k) (h1 : k ≤ 70000)
    (hQ : ∀ v, IsFrame N v → fitF B v = true → Q v H) : CW c (n + 5) i_L_frame [.ref a, .int k, .ref p, .ref b] H Q := by
  refine CW.cut 5 (f := "_law_frame") (ir := ir_L_frame) (by rw [hc.fns]; rfl) rfl ?_
  obtain ⟨hm0, hm1⟩ := hP.size
  have tail : ∀ (v : Int) (o s : List AV), 0 ≤ v → Vals N o → Vals N s → WS c (n + 4) (ir_L_frame.body.drop 5) [some (.ref a), some (.int k), some (.ref p), some (.ref b), some (.int v), some (.int (v % B.length)), some (.tup o), some (.tup s)] H
      fun fl _ H' => ∃ v, retv fl v ∧ Q v H' := by
    intro v o s v0 ho hs
    have hsl := hs.1
    refine sS _ _ _ _ ?_
    simp only [qx_1, qx_2, qx_3, qx_4, qx_5, qx_6, qx_7, qx_8, qx_9, qx_10, qx_11, qx_13, qx_15, qx_16, qx_17, qx_18, qx_19, qx_20, qx_21, qx_22, qx_23, qx_24, qx_25, qx_26, qt_1, qt_2, qt_3, qt_4, qt_5, qt_6, qt_7, qt_9, qt_10, qt_11, qt_12, qt_13, ql_1, ql_2, qa_1, qa_2, qb_1, qb_2, qo_1, qo_2, qc_1, qc_2, k_n, k_r, k_1, k_2, k_3, k_4, k_5, k_6, k_7, k_8, k_9, qs_1, add_i, sub_i, mul_i, div_i, mod_i, pow_i, eq_i, ne_i, eq_s, ne_s, eq_b, ne_b, lt_i, le_i, gt_i, ge_i, ret_v, ret_n, tru_b, vk_i, vk_s, vk_t, vk_n, vk_b, is_nn, is_in, is_sn, is_tn, is_rn, isn_nn, isn_tn, zn1, zn2, zn3, zn4, zn5, zn6, zn7, zn8, beq_self_eq_true, then_n, then_r, thenR_n, thenR_r, loop_n, loop_r, zl1, zl2, zl3, zl4, rng_1, rng_2, int_b, str_i, max_i, min_i, len_t, list_t, zl7, zl8, List.replicate, zl9, zl10, List.set, zl5, zl6, zo1, zo3, zo2, Nat.reduceSub, zl11, zl12, zn9, if_false, if_true, zn10, zn11, Bool.not_true, Bool.not_false, zn12, zn13, reduceCtorEq, zn15, zn14, zn18, zn16, zn17, forall_const, zb1, zb2, zb3, zb4, zb5, zb6, zb7, decide_true, decide_false, eq_self, ir_L_frame, s_L_frame_0, s_L_frame_1, s_L_frame_2, s_L_frame_3, s_L_frame_4b0, s_L_frame_4, s_L_frame_5b0, s_L_frame_5, s_L_frame_6, slc_t, add_t]
    have fin : ∀ s, Vals N s → (0 : Int) < 16000 ∧ (16000 : Int) < 1073741824 ∧ getW (.ref p) (.int (v % B.length)) H fun a_1 H1 => biW .len [a_1] H1 fun a_2 H1 => opW .Add a_2 (.int 1) H1 fun b_1 H2 => opW .Mod (.int (v / 16000)) b_1 H2 fun a_3 H1 => [AV.int (v % B.length), a_3, AV.tup o, AV.tup s].length ≤ 10000000 ∧ Q (.tup [AV.int (v % B.length), a_3, AV.tup o, AV.tup s]) H1 := by
      intro s hs
      have b0 : 0 ≤ v % (B.length : Int) := Int.emod_nonneg _ (by first | decide | with_reducible first | assumption | exact zm0 (by decide) | exact zm1 (by decide) (by decide) | exact zm3 (by assumption) (by decide) | omega)
      refine ⟨by first | decide | with_reducible first | assumption | exact zm0 (by decide) | exact zm1 (by decide) (by decide) | exact zm3 (by assumption) (by decide) | omega, by first | decide | with_reducible first | assumption | exact zm0 (by decide) | exact zm1 (by decide) (by decide) | exact zm3 (by assumption) (by decide) | omega, hP.get b0 (Int.emod_lt_of_pos _ (by first | decide | with_reducible first | assumption | exact zm0 (by decide) | exact zm1 (by decide) (by decide) | exact zm3 (by assumption) (by decide) | omega)) fun r own l e1 e2 e3 => lenL e1 (by first | decide | with_reducible first | assumption | exact zm0 (by decide) | exact zm1 (by decide) (by decide) | exact zm3 (by assumption) (by decide) | omega) ?_⟩
      simp only [qx_1, qx_2, qx_3, qx_4, qx_5, qx_6, qx_7, qx_8, qx_9, qx_10, qx_11, qx_13, qx_15, qx_16, qx_17, qx_18, qx_19, qx_20, qx_21, qx_22, qx_23, qx_24, qx_25, qx_26, qt_1, qt_2, qt_3, qt_4, qt_5, qt_6, qt_7, qt_9, qt_10, qt_11, qt_12, qt_13, ql_1, ql_2, qa_1, qa_2, qb_1, qb_2, qo_1, qo_2, qc_1, qc_2, k_n, k_r, k_1, k_2, k_3, k_4, k_5, k_6, k_7, k_8, k_9, qs_1, add_i, sub_i, mul_i, div_i, mod_i, pow_i, eq_i, ne_i, eq_s, ne_s, eq_b, ne_b, lt_i, le_i, gt_i, ge_i, ret_v, ret_n, tru_b, vk_i, vk_s, vk_t, vk_n, vk_b, is_nn, is_in, is_sn, is_tn, is_rn, isn_nn, isn_tn, zn1, zn2, zn3, zn4, zn5, zn6, zn7, zn8, beq_self_eq_true, then_n, then_r, thenR_n, thenR_r, loop_n, loop_r, zl1, zl2, zl3, zl4, rng_1, rng_2, int_b, str_i, max_i, min_i, len_t, list_t, zl7, zl8, List.replicate, zl9, zl10, List.set, zl5, zl6, zo1, zo3, zo2, Nat.reduceSub, zl11, zl12, zn9, if_false, if_true, zn10, zn11, Bool.not_true, Bool.not_false, zn12, zn13, reduceCtorEq, zn15, zn14, zn18, zn16, zn17, forall_const, zb1, zb2, zb3, zb4, zb5, zb6, zb7, decide_true, decide_false, eq_self]
      have q0 : 0 ≤ v / 16000 % ((l.length : Int) + 1) := Int.emod_nonneg _ (by first | decide | with_reducible first | assumption | exact zm0 (by decide) | exact zm1 (by decide) (by decide) | exact zm3 (by assumption) (by decide) | omega)
      have q1 : v / 16000 % ((l.length : Int) + 1) < l.length + 1 := Int.emod_lt_of_pos _ (by first | decide | with_reducible first | assumption | exact zm0 (by decide) | exact zm1 (by decide) (by decide) | exact zm3 (by assumption) (by decide) | omega)
      exact ⟨by first | decide | with_reducible first | assumption | exact zm0 (by decide) | exact zm1 (by decide) (by decide) | exact zm3 (by assumption) (by decide) | omega, by simp, hQ _ ⟨_, _, _, _, rfl, b0, q0, ho, hs⟩ (by rw [fitF_eq, fitQ_some e3]; simp; omega)⟩
    refine ⟨by first | decide | with_reducible first | assumption | exact zm0 (by decide) | exact zm1 (by decide) (by decide) | exact zm3 (by assumption) (by decide) | omega, by first | decide | with_reducible first | assumption | exact zm0 (by decide) | exact zm1 (by decide) (by decide) | exact zm3 (by assumption) (by decide) | omega, by first | decide | with_reducible first | assumption | exact zm0 (by decide) | exact zm1 (by decide) (by decide) | exact zm3 (by assumption) (by decide) | omega, fun _ => ?_, fun _ => fin s hs⟩
    refine values_ok hc hS hN (by first | decide | with_reducible first | assumption | exact zm0 (by decide) | exact zm1 (by decide) (by decide) | exact zm3 (by assumption) (by decide) | omega) (by first | decide | with_reducible first | assumption | exact zm0 (by decide) | exact zm1 (by decide) (by decide) | exact zm3 (by assumption) (by decide) | omega) (by first | decide | with_reducible first | assumption | exact zm0 (by decide) | exact zm1 (by decide) (by decide) | exact zm3 (by assumption) (by decide) | omega) (by first | decide | with_reducible first | assumption | exact zm0 (by decide) | exact zm1 (by decide) (by decide) | exact zm3 (by assumption) (by decide) | omega) fun l hl hv => ?_
    simp only [qx_1, qx_2, qx_3, qx_4, qx_5, qx_6, qx_7, qx_8, qx_9, qx_10, qx_11, qx_13, qx_15, qx_16, qx_17, qx_18, qx_19, qx_20, qx_21, qx_22, qx_23, qx_24, qx_25, qx_26, qt_1, qt_2, qt_3, qt_4, qt_5, qt_6, qt_7, qt_9, qt_10, qt_11, qt_12, qt_13, ql_1, ql_2, qa_1, qa_2, qb_1, qb_2, qo_1, qo_2, qc_1, qc_2, k_n, k_r, k_1, k_2, k_3, k_4, k_5, k_6, k_7, k_8, k_9, qs_1, add_i, sub_i, mul_i, div_i, mod_i, pow_i, eq_i, ne_i, eq_s, ne_s, eq_b, ne_b, lt_i, le_i, gt_i, ge_i, ret_v, ret_n, tru_b, vk_i, vk_s, vk_t, vk_n, vk_b, is_nn, is_in, is_sn, is_tn, is_rn, isn_nn, isn_tn, zn1, zn2, zn3, zn4, zn5, zn6, zn7, zn8, beq_self_eq_true, then_n, then_r, thenR_n, thenR_r, loop_n, loop_r, zl1, zl2, zl3, zl4, rng_1, rng_2, int_b, str_i, max_i, min_i, len_t, list_t, zl7, zl8, List.replicate, zl9, zl10, List.set, zl5, zl6, zo1, zo3, zo2, Nat.reduceSub, zl11, zl12, zn9, if_false, if_true, zn10, zn11, Bool.not_true, Bool.not_false, zn12, zn13, reduceCtorEq, zn15, zn14, zn18, zn16, zn17, forall_const, zb1, zb2, zb3, zb4, zb5, zb6, zb7, decide_true, decide_false, eq_self, slc_t, add_t]
    refine ⟨by first | decide | with_reducible first | assumption | exact zm0 (by decide) | exact zm1 (by decide) (by decide) | exact zm3 (by assumption) (by decide) | omega, _, _, rfl, rfl, by rw [List.length_append]; omega, fin _ ⟨?_, fun x hx => ?_⟩⟩
    · exact cut_le (by first | decide | with_reducible first | assumption | exact zm0 (by decide) | exact zm1 (by decide) (by decide) | exact zm3 (by assumption) (by decide) | omega) _
    · rcases List.mem_append.mp (cut_mem hx) with q | q
      · exact hs.2 x q
      · exact hv x q
  simp only [qx_1, qx_2, qx_3, qx_4, qx_5, qx_6, qx_7, qx_8, qx_9, qx_10, qx_11, qx_13, qx_15, qx_16, qx_17, qx_18, qx_19, qx_20, qx_21, qx_22, qx_23, qx_24, qx_25, qx_26, qt_1, qt_2, qt_3, qt_4, qt_5, qt_6, qt_7, qt_9, qt_10, qt_11, qt_12, qt_13, ql_1, ql_2, qa_1, qa_2, qb_1, qb_2, qo_1, qo_2, qc_1, qc_2, k_n, k_r, k_1, k_2, k_3, k_4, k_5, k_6, k_7, k_8, k_9, qs_1, add_i, sub_i, mul_i, div_i, mod_i, pow_i, eq_i, ne_i, eq_s, ne_s, eq_b, ne_b, lt_i, le_i, gt_i, ge_i, ret_v, ret_n, tru_b, vk_i, vk_s, vk_t, vk_n, vk_b, is_nn, is_in, is_sn, is_tn, is_rn, isn_nn, isn_tn, zn1, zn2, zn3, zn4, zn5, zn6, zn7, zn8, beq_self_eq_true, then_n, then_r, thenR_n, thenR_r, loop_n, loop_r, zl1, zl2, zl3, zl4, rng_1, rng_2, int_b, str_i, max_i, min_i, len_t, list_t, zl7, zl8, List.replicate, zl9, zl10, List.set, zl5, zl6, zo1, zo3, zo2, Nat.reduceSub, zl11, zl12, zn9, if_false, if_true, zn10, zn11, Bool.not_true, Bool.not_false, zn12, zn13, reduceCtorEq, zn15, zn14, zn18, zn16, zn17, forall_const, zb1, zb2, zb3, zb4, zb5, zb6, zb7, decide_true, decide_false, eq_self, ir_L_frame, s_L_frame_0, s_L_frame_1, s_L_frame_2, s_L_frame_3, s_L_frame_4b0, s_L_frame_4, s_L_frame_5b0, s_L_frame_5, s_L_frame_6]
  refine cell_ok hc hS h0 (by first | decide | with_reducible first | assumption | exact zm0 (by decide) | exact zm1 (by decide) (by decide) | exact zm3 (by assumption) (by decide) | omega) fun v hv0 hv1 => hP.len ?_
  simp only [qx_1, qx_2, qx_3, qx_4, qx_5, qx_6, qx_7, qx_8, qx_9, qx_10, qx_11, qx_13, qx_15, qx_16, qx_17, qx_18, qx_19, qx_20, qx_21, qx_22, qx_23, qx_24, qx_25, qx_26, qt_1, qt_2, qt_3, qt_4, qt_5, qt_6, qt_7, qt_9, qt_10, qt_11, qt_12, qt_13, ql_1, ql_2, qa_1, qa_2, qb_1, qb_2, qo_1, qo_2, qc_1, qc_2, k_n, k_r, k_1, k_2, k_3, k_4, k_5, k_6, k_7, k_8, k_9, qs_1, add_i, sub_i, mul_i, div_i, mod_i, pow_i, eq_i, ne_i, eq_s, ne_s, eq_b, ne_b, lt_i, le_i, gt_i, ge_i, ret_v, ret_n, tru_b, vk_i, vk_s, vk_t, vk_n, vk_b, is_nn, is_in, is_sn, is_tn, is_rn, isn_nn, isn_tn, zn1, zn2, zn3, zn4, zn5, zn6, zn7, zn8, beq_self_eq_true, then_n, then_r, thenR_n, thenR_r, loop_n, loop_r, zl1, zl2, zl3, zl4, rng_1, rng_2, int_b, str_i, max_i, min_i, len_t, list_t, zl7, zl8, List.replicate, zl9, zl10, List.set, zl5, zl6, zo1, zo3, zo2, Nat.reduceSub, zl11, zl12, zn9, if_false, if_true, zn10, zn11, Bool.not_true, Bool.not_false, zn12, zn13, reduceCtorEq, zn15, zn14, zn18, zn16, zn17, forall_const, zb1, zb2, zb3, zb4, zb5, zb6, zb7, decide_true, decide_false, eq_self]
  refine ⟨by first | decide | with_reducible first | assumption | exact zm0 (by decide) | exact zm1 (by decide) (by decide) | exact zm3 (by assumption) (by decide) | omega, by first | decide | with_reducible first | assumption | exact zm0 (by decide) | exact zm1 (by decide) (by decide) | exact zm3 (by assumption) (by decide) | omega, by first | decide | with_reducible first | assumption | exact zm0 (by decide) | exact zm1 (by decide) (by decide) | exact zm3 (by assumption) (by decide) | omega, by first | decide | with_reducible first | assumption | exact zm0 (by decide) | exact zm1 (by decide) (by decide) | exact zm3 (by assumption) (by decide) | omega, values_ok hc hS hN (by first | decide | with_reducible first | assumption | exact zm0 (by decide) | exact zm1 (by decide) (by decide) | exact zm3 (by assumption) (by decide) | omega) (by first | decide | with_reducible first | assumption | exact zm0 (by decide) | exact zm1 (by decide) (by decide) | exact zm3 (by assumption) (by decide) | omega) (by first | decide | with_reducible first | assumption | exact zm0 (by decide) | exact zm1 (by decide) (by decide) | exact zm3 (by assumption) (by decide) | omega) (by first | decide | with_reducible first | assumption | exact zm0 (by decide) | exact zm1 (by decide) (by decide) | exact zm3 (by assumption) (by decide) | omega) fun o ho1 ho2 => ?_⟩
  refine ⟨by first | decide | with_reducible first | assumption | exact zm0 (by decide) | exact zm1 (by decide) (by decide) | exact zm3 (by assumption) (by decide) | omega, by first | decide | with_reducible first | assumption | exact zm0 (by decide) | exact zm1 (by decide) (by decide) | exact zm3 (by assumption) (by decide) | omega, by first | decide | with_reducible first | assumption | exact zm0 (by decide) | exact zm1 (by decide) (by decide) | exact zm3 (by assumption) (by decide) | omega, values_ok hc hS hN (by first | decide | with_reducible first | assumption | exact zm0 (by decide) | exact zm1 (by decide) (by decide) | exact zm3 (by assumption) (by decide) | omega) (by first | decide | with_reducible first | assumption | exact zm0 (by decide) | exact zm1 (by decide) (by decide) | exact zm3 (by assumption) (by decide) | omega) (by first | decide | with_reducible first | assumption | exact zm0 (by decide) | exact zm1 (by decide) (by decide) | exact zm3 (by assumption) (by decide) | omega) (by first | decide | with_reducible first | assumption | exact zm0 (by decide) | exact zm1 (by decide) (by decide) | exact zm3 (by assumption) (by decide) | omega) fun s hs1 hs2 => ?_⟩
  refine ⟨by first | decide | with_reducible first | assumption | exact zm0 (by decide) | exact zm1 (by decide) (by decide) | exact zm3 (by assumption) (by decide) | omega, by first | decide | with_reducible first | assumption | exact zm0 (by decide) | exact zm1 (by decide) (by decide) | exact zm3 (by assumption) (by decide) | omega, by first | decide | with_reducible first | assumption | exact zm0 (by decide) | exact zm1 (by decide) (by decide) | exact zm3 (by assumption) (by decide) | omega, fun _ => values_ok hc hS hN (by first | decide | with_reducible first | assumption | exact zm0 (by decide) | exact zm1 (by decide) (by decide) | exact zm3 (by assumption) (by decide) | omega) (by first | decide | with_reducible first | assumption | exact zm0 (by decide) | exact zm1 (by decide) (by decide) | exact zm3 (by assumption) (by decide) | omega) (by first | decide | with_reducible first | assumption | exact zm0 (by decide) | exact zm1 (by decide) (by decide) | exact zm3 (by assumption) (by decide) | omega) (by first | decide | with_reducible first | assumption | exact zm0 (by decide) | exact zm1 (by decide) (by decide) | exact zm3 (by assumption) (by decide) | omega) fun l hl hv => ?_, fun _ => tail v o s hv0 ⟨by first | decide | with_reducible first | assumption | exact zm0 (by decide) | exact zm1 (by decide) (by decide) | exact zm3 (by assumption) (by decide) | omega, ho2⟩ ⟨by first | decide | with_reducible first | assumption | exact zm0 (by decide) | exact zm1 (by decide) (by decide) | exact zm3 (by assumption) (by decide) | omega, hs2⟩⟩
  simp only [qx_1, qx_2, qx_3, qx_4, qx_5, qx_6, qx_7, qx_8, qx_9, qx_10, qx_11, qx_13, qx_15, qx_16, qx_17, qx_18, qx_19, qx_20, qx_21, qx_22, qx_23, qx_24, qx_25, qx_26, qt_1, qt_2, qt_3, qt_4, qt_5, qt_6, qt_7, qt_9, qt_10, qt_11, qt_12, qt_13, ql_1, ql_2, qa_1, qa_2, qb_1, qb_2, qo_1, qo_2, qc_1, qc_2, k_n, k_r, k_1, k_2, k_3, k_4, k_5, k_6, k_7, k_8, k_9, qs_1, add_i, sub_i, mul_i, div_i, mod_i, pow_i, eq_i, ne_i, eq_s, ne_s, eq_b, ne_b, lt_i, le_i, gt_i, ge_i, ret_v, ret_n, tru_b, vk_i, vk_s, vk_t, vk_n, vk_b, is_nn, is_in, is_sn, is_tn, is_rn, isn_nn, isn_tn, zn1, zn2, zn3, zn4, zn5, zn6, zn7, zn8, beq_self_eq_true, then_n, then_r, thenR_n, thenR_r, loop_n, loop_r, zl1, zl2, zl3, zl4, rng_1, rng_2, int_b, str_i, max_i, min_i, len_t, list_t, zl7, zl8, List.replicate, zl9, zl10, List.set, zl5, zl6, zo1, zo3, zo2, Nat.reduceSub, zl11, zl12, zn9, if_false, if_true, zn10, zn11, Bool.not_true, Bool.not_false, zn12, zn13, reduceCtorEq, zn15, zn14, zn18, zn16, zn17, forall_const, zb1, zb2, zb3, zb4, zb5, zb6, zb7, decide_true, decide_false, eq_self, slc_t, add_t]
  refine ⟨by first | decide | with_reducible first | assumption | exact zm0 (by decide) | exact zm1 (by decide) (by decide) | exact zm3 (by assumption) (by decide) | omega, _, _, rfl, rfl, by rw [List.length_append]; omega, tail v _ s hv0 ⟨?_, fun x hx => ?_⟩ ⟨by first | decide | with_reducible first | assumption | exact zm0 (by decide) | exact zm1 (by decide) (by decide) | exact zm3 (by assumption) (by decide) | omega, hs2⟩⟩
  · exact cut_le (by first | decide | with_reducible first | assumption | exact zm0 (by decide) | exact zm1 (by decide) (by decide) | exact zm3 (by assumption) (by decide) | omega) _
  · rcases List.mem_append.mp (cut_mem hx) with q | q
    · exact ho2 x q
    · exact hv x q

/-- a list of frames -/
noncomputable def Frames (N : List Int) (F : List AV) : Prop := F.length ≤ 60 ∧ ∀ f ∈ F, IsFrame N f
theorem all_of {P : AV → Prop} {ys : List AV} (h : ∀ (i : Nat) (y : AV), ys[i]? = some y → P y) : ∀ y ∈ ys, P y := fun y hy => by
  obtain ⟨i, hi, e⟩ := List.getElem_of_mem hy
  exact h i y (by rw [List.getElem?_eq_getElem hi, e])

theorem frames_ok (hc : Tab c) {a p b : Nat} {B : List (List AV)} {S N : List Int} {Q : AV → AH → Prop} (hS : Ints H a S) (hP : Prog H p B) (hN : Ints H b N)
    (hQ : ∀ (r : Nat) (F : List AV), H r = none → Frames N F → (∀ f ∈ F, fitF B f = true) → 0 < F.length → Q (.ref r) (H.set r (.list true F))) : CW c (n + 6) i_L_frames [.ref a, .ref p, .ref b] H Q := by
  refine CW.cut 3 (f := "_law_frames") (ir := ir_L_frames) (by rw [hc.fns]; rfl) rfl ?_
  have tail : ∀ (v k : Int), 1 ≤ k → k ≤ 60 → WS c (n + 5) (ir_L_frames.body.drop 3) [some (.ref a), some (.ref p), some (.ref b), some (.int v), some (.int k)] H fun fl _ H' => ∃ v, retv fl v ∧ Q v H' := by
    intro v k k0 k1
    refine sS _ _ _ _ ?_
    simp only [qx_1, qx_2, qx_3, qx_4, qx_5, qx_6, qx_7, qx_8, qx_9, qx_10, qx_11, qx_13, qx_15, qx_16, qx_17, qx_18, qx_19, qx_20, qx_21, qx_22, qx_23, qx_24, qx_25, qx_26, qt_1, qt_2, qt_3, qt_4, qt_5, qt_6, qt_7, qt_9, qt_10, qt_11, qt_12, qt_13, ql_1, ql_2, qa_1, qa_2, qb_1, qb_2, qo_1, qo_2, qc_1, qc_2, k_n, k_r, k_1, k_2, k_3, k_4, k_5, k_6, k_7, k_8, k_9, qs_1, add_i, sub_i, mul_i, div_i, mod_i, pow_i, eq_i, ne_i, eq_s, ne_s, eq_b, ne_b, lt_i, le_i, gt_i, ge_i, ret_v, ret_n, tru_b, vk_i, vk_s, vk_t, vk_n, vk_b, is_nn, is_in, is_sn, is_tn, is_rn, isn_nn, isn_tn, zn1, zn2, zn3, zn4, zn5, zn6, zn7, zn8, beq_self_eq_true, then_n, then_r, thenR_n, thenR_r, loop_n, loop_r, zl1, zl2, zl3, zl4, rng_1, rng_2, int_b, str_i, max_i, min_i, len_t, list_t, zl7, zl8, List.replicate, zl9, zl10, List.set, zl5, zl6, zo1, zo3, zo2, Nat.reduceSub, zl11, zl12, zn9, if_false, if_true, zn10, zn11, Bool.not_true, Bool.not_false, zn12, zn13, reduceCtorEq, zn15, zn14, zn18, zn16, zn17, forall_const, zb1, zb2, zb3, zb4, zb5, zb6, zb7, decide_true, decide_false, eq_self, ir_L_frames, s_L_frames_0, s_L_frames_1, s_L_frames_2b0, s_L_frames_2, s_L_frames_3]
    refine comp_range (fun _ f => IsFrame N f ∧ fitF B f = true) (by first | decide | with_reducible first | assumption | exact zm0 (by decide) | exact zm1 (by decide) (by decide) | exact zm3 (by assumption) (by decide) | omega) (by first | decide | with_reducible first | assumption | exact zm0 (by decide) | exact zm1 (by decide) (by decide) | exact zm3 (by assumption) (by decide) | omega) (fun j hj Q' hq' => ?_) fun ys hl hys D hD => ?_
    · simp only [wpR_eq, wpE_eq, qx_1, qx_2, qx_3, qx_4, qx_5, qx_6, qx_7, qx_8, qx_9, qx_10, qx_11, qx_13, qx_15, qx_16, qx_17, qx_18, qx_19, qx_20, qx_21, qx_22, qx_23, qx_24, qx_25, qx_26, qt_1, qt_2, qt_3, qt_4, qt_5, qt_6, qt_7, qt_9, qt_10, qt_11, qt_12, qt_13, ql_1, ql_2, qa_1, qa_2, qb_1, qb_2, qo_1, qo_2, qc_1, qc_2, k_n, k_r, k_1, k_2, k_3, k_4, k_5, k_6, k_7, k_8, k_9, qs_1, add_i, sub_i, mul_i, div_i, mod_i, pow_i, eq_i, ne_i, eq_s, ne_s, eq_b, ne_b, lt_i, le_i, gt_i, ge_i, ret_v, ret_n, tru_b, vk_i, vk_s, vk_t, vk_n, vk_b, is_nn, is_in, is_sn, is_tn, is_rn, isn_nn, isn_tn, zn1, zn2, zn3, zn4, zn5, zn6, zn7, zn8, beq_self_eq_true, then_n, then_r, thenR_n, thenR_r, loop_n, loop_r, zl1, zl2, zl3, zl4, rng_1, rng_2, int_b, str_i, max_i, min_i, len_t, list_t, zl7, zl8, List.replicate, zl9, zl10, List.set, zl5, zl6, zo1, zo3, zo2, Nat.reduceSub, zl11, zl12, zn9, if_false, if_true, zn10, zn11, Bool.not_true, Bool.not_false, zn12, zn13, reduceCtorEq, zn15, zn14, zn18, zn16, zn17, forall_const, zb1, zb2, zb3, zb4, zb5, zb6, zb7, decide_true, decide_false, eq_self]
      exact ⟨.inl (by decide), frame_ok hc hS hP hN (by first | decide | with_reducible first | assumption | exact zm0 (by decide) | exact zm1 (by decide) (by decide) | exact zm3 (by assumption) (by decide) | omega) (by first | decide | with_reducible first | assumption | exact zm0 (by decide) | exact zm1 (by decide) (by decide) | exact zm3 (by assumption) (by decide) | omega) fun v hv hv2 => hq' v ⟨hv, hv2⟩⟩
    · exact hQ D ys hD ⟨by first | decide | with_reducible first | assumption | exact zm0 (by decide) | exact zm1 (by decide) (by decide) | exact zm3 (by assumption) (by decide) | omega, fun y hy => (all_of hys y hy).1⟩ (fun y hy => (all_of hys y hy).2) (by first | decide | with_reducible first | assumption | exact zm0 (by decide) | exact zm1 (by decide) (by decide) | exact zm3 (by assumption) (by decide) | omega)
  simp only [qx_1, qx_2, qx_3, qx_4, qx_5, qx_6, qx_7, qx_8, qx_9, qx_10, qx_11, qx_13, qx_15, qx_16, qx_17, qx_18, qx_19, qx_20, qx_21, qx_22, qx_23, qx_24, qx_25, qx_26, qt_1, qt_2, qt_3, qt_4, qt_5, qt_6, qt_7, qt_9, qt_10, qt_11, qt_12, qt_13, ql_1, ql_2, qa_1, qa_2, qb_1, qb_2, qo_1, qo_2, qc_1, qc_2, k_n, k_r, k_1, k_2, k_3, k_4, k_5, k_6, k_7, k_8, k_9, qs_1, add_i, sub_i, mul_i, div_i, mod_i, pow_i, eq_i, ne_i, eq_s, ne_s, eq_b, ne_b, lt_i, le_i, gt_i, ge_i, ret_v, ret_n, tru_b, vk_i, vk_s, vk_t, vk_n, vk_b, is_nn, is_in, is_sn, is_tn, is_rn, isn_nn, isn_tn, zn1, zn2, zn3, zn4, zn5, zn6, zn7, zn8, beq_self_eq_true, then_n, then_r, thenR_n, thenR_r, loop_n, loop_r, zl1, zl2, zl3, zl4, rng_1, rng_2, int_b, str_i, max_i, min_i, len_t, list_t, zl7, zl8, List.replicate, zl9, zl10, List.set, zl5, zl6, zo1, zo3, zo2, Nat.reduceSub, zl11, zl12, zn9, if_false, if_true, zn10, zn11, Bool.not_true, Bool.not_false, zn12, zn13, reduceCtorEq, zn15, zn14, zn18, zn16, zn17, forall_const, zb1, zb2, zb3, zb4, zb5, zb6, zb7, decide_true, decide_false, eq_self, ir_L_frames, s_L_frames_0, s_L_frames_1, s_L_frames_2b0, s_L_frames_2, s_L_frames_3]
  refine cell_ok hc hS (by first | decide | with_reducible first | assumption | exact zm0 (by decide) | exact zm1 (by decide) (by decide) | exact zm3 (by assumption) (by decide) | omega) (by first | decide | with_reducible first | assumption | exact zm0 (by decide) | exact zm1 (by decide) (by decide) | exact zm3 (by assumption) (by decide) | omega) fun v hv0 hv1 => ?_
  simp only [qx_1, qx_2, qx_3, qx_4, qx_5, qx_6, qx_7, qx_8, qx_9, qx_10, qx_11, qx_13, qx_15, qx_16, qx_17, qx_18, qx_19, qx_20, qx_21, qx_22, qx_23, qx_24, qx_25, qx_26, qt_1, qt_2, qt_3, qt_4, qt_5, qt_6, qt_7, qt_9, qt_10, qt_11, qt_12, qt_13, ql_1, ql_2, qa_1, qa_2, qb_1, qb_2, qo_1, qo_2, qc_1, qc_2, k_n, k_r, k_1, k_2, k_3, k_4, k_5, k_6, k_7, k_8, k_9, qs_1, add_i, sub_i, mul_i, div_i, mod_i, pow_i, eq_i, ne_i, eq_s, ne_s, eq_b, ne_b, lt_i, le_i, gt_i, ge_i, ret_v, ret_n, tru_b, vk_i, vk_s, vk_t, vk_n, vk_b, is_nn, is_in, is_sn, is_tn, is_rn, isn_nn, isn_tn, zn1, zn2, zn3, zn4, zn5, zn6, zn7, zn8, beq_self_eq_true, then_n, then_r, thenR_n, thenR_r, loop_n, loop_r, zl1, zl2, zl3, zl4, rng_1, rng_2, int_b, str_i, max_i, min_i, len_t, list_t, zl7, zl8, List.replicate, zl9, zl10, List.set, zl5, zl6, zo1, zo3, zo2, Nat.reduceSub, zl11, zl12, zn9, if_false, if_true, zn10, zn11, Bool.not_true, Bool.not_false, zn12, zn13, reduceCtorEq, zn15, zn14, zn18, zn16, zn17, forall_const, zb1, zb2, zb3, zb4, zb5, zb6, zb7, decide_true, decide_false, eq_self]
  exact ⟨by first | decide | with_reducible first | assumption | exact zm0 (by decide) | exact zm1 (by decide) (by decide) | exact zm3 (by assumption) (by decide) | omega, by first | decide | with_reducible first | assumption | exact zm0 (by decide) | exact zm1 (by decide) (by decide) | exact zm3 (by assumption) (by decide) | omega, by first | decide | with_reducible first | assumption | exact zm0 (by decide) | exact zm1 (by decide) (by decide) | exact zm3 (by assumption) (by decide) | omega, by first | decide | with_reducible first | assumption | exact zm0 (by decide) | exact zm1 (by decide) (by decide) | exact zm3 (by assumption) (by decide) | omega, fun _ => ⟨by first | decide | with_reducible first | assumption | exact zm0 (by decide) | exact zm1 (by decide) (by decide) | exact zm3 (by assumption) (by decide) | omega, by first | decide | with_reducible first | assumption | exact zm0 (by decide) | exact zm1 (by decide) (by decide) | exact zm3 (by assumption) (by decide) | omega, by first | decide | with_reducible first | assumption | exact zm0 (by decide) | exact zm1 (by decide) (by decide) | exact zm3 (by assumption) (by decide) | omega, tail _ _ (by first | decide | with_reducible first | assumption | exact zm0 (by decide) | exact zm1 (by decide) (by decide) | exact zm3 (by assumption) (by decide) | omega) (by first | decide | with_reducible first | assumption | exact zm0 (by decide) | exact zm1 (by decide) (by decide) | exact zm3 (by assumption) (by decide) | omega)⟩, fun _ => tail _ _ (by first | decide | with_reducible first | assumption | exact zm0 (by decide) | exact zm1 (by decide) (by decide) | exact zm3 (by assumption) (by decide) | omega) (by first | decide | with_reducible first | assumption | exact zm0 (by decide) | exact zm1 (by decide) (by decide) | exact zm3 (by assumption) (by decide) | omega)⟩

/-- a thing, and the table of things -/
noncomputable def IsThing (N : List Int) (v : AV) : Prop := (∃ w, v = .tup [.str "box", w] ∧ IsVal N w) ∨ ∃ i l, v = .tup [.str "fun", .int i, .tup l] ∧ 0 ≤ i ∧ Vals N l
noncomputable def fitI (m : Nat) : AV → Bool
  | .int i => decide (i < m)
  | _ => true
noncomputable def fitT (m : Nat) : AV → Bool
  | .tup [_, x, _] => fitI m x
  | _ => true
abbrev keys (T : List (Int × AV)) : List Int := T.map (·.1)
theorem storedA_len (kvs : List (Int × AV)) (k : Int) (v : AV) : (storedA kvs k v).length ≤ kvs.length + 1 := by
  unfold storedA; split <;> simp
theorem storedA_mem {kvs : List (Int × AV)} {k : Int} {v : AV} {kv : Int × AV} (h : kv ∈ storedA kvs k v) : kv ∈ kvs ∨ kv.2 = v := by
  unfold storedA at h; split at h
  · obtain ⟨x, hx, e⟩ := List.mem_map.mp h
    split at e
    · right; rw [← e]
    · left; rw [← e]; exact hx
  · rcases List.mem_append.mp h with q | q
    · exact .inl q
    · right; simp at q; rw [q]
theorem keyAt_isSome (kvs : List (Int × AV)) (k : Int) : (keyAt kvs k).isSome = kvs.any fun kv => kv.1 = k := by
  unfold keyAt
  rw [Option.isSome_map]
  induction kvs with
  | nil => rfl
  | cons x r ih =>
    rw [List.find?_cons, List.any_cons]
    by_cases hk : x.1 = k <;> simp [hk]
    simpa using ih
theorem storedA_any (kvs : List (Int × AV)) (k : Int) (v : AV) (x : Int) : ((storedA kvs k v).any fun kv => kv.1 = x) = ((kvs.any fun kv => kv.1 = x) || decide (k = x)) := by
  unfold storedA
  by_cases h : (kvs.any fun kv => kv.1 = k) = true
  · rw [if_pos h, List.any_map]
    have e : ((fun kv : Int × AV => decide (kv.1 = x)) ∘ fun kv => if kv.1 = k then (kv.1, v) else kv) = fun kv => decide (kv.1 = x) := by
      funext kv
      show decide ((if kv.1 = k then (kv.1, v) else kv).1 = x) = decide (kv.1 = x)
      split <;> rfl
    rw [e]
    by_cases hx : k = x
    · subst hx; simp [h]
    · simp [hx]
  · rw [if_neg h, List.any_append]; simp

theorem any_keys (kvs : List (Int × AV)) (x : Int) : (kvs.any fun kv => decide (kv.1 = x)) = decide (x ∈ keys kvs) := by
  rw [Bool.eq_iff_iff]
  simp only [List.any_eq_true, decide_eq_true_eq, List.mem_map]
theorem stored_new {kvs : List (Int × AV)} {x : Int} {v : AV} (h : x ∉ keys kvs) : storedA kvs x v = kvs ++ [(x, v)] := by
  unfold storedA
  rw [any_keys, if_neg (by simpa using h)]
theorem keys_stored {kvs : List (Int × AV)} {x : Int} {v : AV} (h : x ∈ keys kvs) : keys (storedA kvs x v) = keys kvs := by
  unfold storedA keys
  rw [any_keys, if_pos (by simpa using h), List.map_map]
  refine List.map_congr_left fun kv _ => ?_
  show (if kv.1 = x then (kv.1, v) else kv).1 = kv.1
  split <;> rfl

theorem things_ok (hc : Tab c) {a b : Nat} {S N : List Int} {m : Nat} {Q : AV → AH → Prop} (hS : Ints H a S) (hN : Ints H b N) (hNl : N.length ≤ 130) (hNd : N.Nodup) (hm : 0 < m)
    (hQ : ∀ (d : Nat) (T : List (Int × AV)), H d = none → keys T = N → (∀ kv ∈ T, IsThing N kv.2 ∧ fitT m kv.2 = true) → Q (.ref d) (H.set d (.dict true T))) : CW c (n + 5) i_L_things [.ref a, .ref b, .int m] H Q := by
  refine CW.fresh (P := fun _ => True) (CW.run (f := "_law_things") (ir := ir_L_things) (by rw [hc.fns]; rfl) rfl ?_)
  simp only [qx_1, qx_2, qx_3, qx_4, qx_5, qx_6, qx_7, qx_8, qx_9, qx_10, qx_11, qx_13, qx_15, qx_16, qx_17, qx_18, qx_19, qx_20, qx_21, qx_22, qx_23, qx_24, qx_25, qx_26, qt_1, qt_2, qt_3, qt_4, qt_5, qt_6, qt_7, qt_9, qt_10, qt_11, qt_12, qt_13, ql_1, ql_2, qa_1, qa_2, qb_1, qb_2, qo_1, qo_2, qc_1, qc_2, k_n, k_r, k_1, k_2, k_3, k_4, k_5, k_6, k_7, k_8, k_9, qs_1, add_i, sub_i, mul_i, div_i, mod_i, pow_i, eq_i, ne_i, eq_s, ne_s, eq_b, ne_b, lt_i, le_i, gt_i, ge_i, ret_v, ret_n, tru_b, vk_i, vk_s, vk_t, vk_n, vk_b, is_nn, is_in, is_sn, is_tn, is_rn, isn_nn, isn_tn, zn1, zn2, zn3, zn4, zn5, zn6, zn7, zn8, beq_self_eq_true, then_n, then_r, thenR_n, thenR_r, loop_n, loop_r, zl1, zl2, zl3, zl4, rng_1, rng_2, int_b, str_i, max_i, min_i, len_t, list_t, zl7, zl8, List.replicate, zl9, zl10, List.set, zl5, zl6, zo1, zo3, zo2, Nat.reduceSub, zl11, zl12, zn9, if_false, if_true, zn10, zn11, Bool.not_true, Bool.not_false, zn12, zn13, reduceCtorEq, zn15, zn14, zn18, zn16, zn17, forall_const, zb1, zb2, zb3, zb4, zb5, zb6, zb7, decide_true, decide_false, eq_self, ir_L_things, s_L_things_0, s_L_things_1b0, s_L_things_1b1b0, s_L_things_1b1e0, s_L_things_1b1e1, s_L_things_1b1, s_L_things_1, s_L_things_2]
  intro d hd
  have g0 : ∀ (T : List (Int × AV)) (a : Nat) (o : AObj), H a = some o → H.set d (.dict true T) a = some o := fun T _ _ h => AH.set_of h hd
  refine (hN.grow (g0 _)).len ?_
  simp only [qx_1, qx_2, qx_3, qx_4, qx_5, qx_6, qx_7, qx_8, qx_9, qx_10, qx_11, qx_13, qx_15, qx_16, qx_17, qx_18, qx_19, qx_20, qx_21, qx_22, qx_23, qx_24, qx_25, qx_26, qt_1, qt_2, qt_3, qt_4, qt_5, qt_6, qt_7, qt_9, qt_10, qt_11, qt_12, qt_13, ql_1, ql_2, qa_1, qa_2, qb_1, qb_2, qo_1, qo_2, qc_1, qc_2, k_n, k_r, k_1, k_2, k_3, k_4, k_5, k_6, k_7, k_8, k_9, qs_1, add_i, sub_i, mul_i, div_i, mod_i, pow_i, eq_i, ne_i, eq_s, ne_s, eq_b, ne_b, lt_i, le_i, gt_i, ge_i, ret_v, ret_n, tru_b, vk_i, vk_s, vk_t, vk_n, vk_b, is_nn, is_in, is_sn, is_tn, is_rn, isn_nn, isn_tn, zn1, zn2, zn3, zn4, zn5, zn6, zn7, zn8, beq_self_eq_true, then_n, then_r, thenR_n, thenR_r, loop_n, loop_r, zl1, zl2, zl3, zl4, rng_1, rng_2, int_b, str_i, max_i, min_i, len_t, list_t, zl7, zl8, List.replicate, zl9, zl10, List.set, zl5, zl6, zo1, zo3, zo2, Nat.reduceSub, zl11, zl12, zn9, if_false, if_true, zn10, zn11, Bool.not_true, Bool.not_false, zn12, zn13, reduceCtorEq, zn15, zn14, zn18, zn16, zn17, forall_const, zb1, zb2, zb3, zb4, zb5, zb6, zb7, decide_true, decide_false, eq_self]
  refine for_range (fun j ρ' H' => ∃ x4 x5 x6 T, ρ' = [some (.ref a), some (.ref b), some (.int m), some (.ref d), x4, x5, x6] ∧ H' = H.set d (.dict true T) ∧ keys T = N.take j ∧ ∀ kv ∈ T, IsThing N kv.2 ∧ fitT m kv.2 = true)
    (by first | decide | with_reducible first | assumption | exact zm0 (by decide) | exact zm1 (by decide) (by decide) | exact zm3 (by assumption) (by decide) | omega) (by first | decide | with_reducible first | assumption | exact zm0 (by decide) | exact zm1 (by decide) (by decide) | exact zm3 (by assumption) (by decide) | omega) ⟨none, none, none, [], rfl, rfl, by simp, by simp⟩ ?_ ?_
  · rintro j ρ' H' hj ⟨x4, x5, x6, T, rfl, rfl, t1, t2⟩
    have hS' := hS.grow (g0 T)
    have hN' := hN.grow (g0 T)
    obtain ⟨own, hb, hb2⟩ := id hN'
    have hjN : j < N.length := by first | decide | with_reducible first | assumption | exact zm0 (by decide) | exact zm1 (by decide) (by decide) | exact zm3 (by assumption) (by decide) | omega
    have hTl : T.length ≤ 130 := by
      have := congrArg List.length t1
      rw [List.length_map, List.length_take] at this; omega
    have hnew : N[j] ∉ keys T := by
      rw [t1]
      intro hin
      obtain ⟨i, hi, e⟩ := List.getElem_of_mem hin
      rw [List.length_take] at hi
      rw [List.getElem_take] at e
      have := (List.getElem_inj hNd).mp e
      omega
    have done : ∀ (x4 x5 x6 : Option AV) (v : AV), IsThing N v → fitT m v = true → ∃ y4 y5 y6 T', [some (.ref a), some (.ref b), some (.int m), some (.ref d), x4, x5, x6] = [some (.ref a), some (.ref b), some (.int m), some (.ref d), y4, y5, y6] ∧ (H.set d (.dict true T)).set d (.dict true (storedA T N[j] v)) = H.set d (.dict true T') ∧ keys T' = N.take (j + 1) ∧ ∀ kv ∈ T', IsThing N kv.2 ∧ fitT m kv.2 = true := by
      intro x4 x5 x6 v hv hv2
      refine ⟨x4, x5, x6, T ++ [(N[j], v)], rfl, ?_, ?_, fun kv hkv => ?_⟩
      · rw [stored_new hnew]; funext q; unfold AH.set; split <;> rfl
      · rw [List.take_add_one, List.getElem?_eq_getElem hjN, ← t1]; simp
      · rcases List.mem_append.mp hkv with q | q
        · exact t2 kv q
        · simp at q; subst q; exact ⟨hv, hv2⟩
    have getN : ∀ (Q : AV → AH → Prop), Q (.int N[j]) (H.set d (.dict true T)) → getW (.ref b) (.int j) (H.set d (.dict true T)) Q := fun Q hq => by
      refine getL hb (by first | decide | with_reducible first | assumption | exact zm0 (by decide) | exact zm1 (by decide) (by decide) | exact zm3 (by assumption) (by decide) | omega) (by rw [List.length_map]; omega) (x := .int N[j]) ?_ hq
      rw [List.getElem?_map, Int.toNat_natCast, List.getElem?_eq_getElem hjN]; rfl
    simp only [wpR_eq, wpE_eq, qx_1, qx_2, qx_3, qx_4, qx_5, qx_6, qx_7, qx_8, qx_9, qx_10, qx_11, qx_13, qx_15, qx_16, qx_17, qx_18, qx_19, qx_20, qx_21, qx_22, qx_23, qx_24, qx_25, qx_26, qt_1, qt_2, qt_3, qt_4, qt_5, qt_6, qt_7, qt_9, qt_10, qt_11, qt_12, qt_13, ql_1, ql_2, qa_1, qa_2, qb_1, qb_2, qo_1, qo_2, qc_1, qc_2, k_n, k_r, k_1, k_2, k_3, k_4, k_5, k_6, k_7, k_8, k_9, qs_1, add_i, sub_i, mul_i, div_i, mod_i, pow_i, eq_i, ne_i, eq_s, ne_s, eq_b, ne_b, lt_i, le_i, gt_i, ge_i, ret_v, ret_n, tru_b, vk_i, vk_s, vk_t, vk_n, vk_b, is_nn, is_in, is_sn, is_tn, is_rn, isn_nn, isn_tn, zn1, zn2, zn3, zn4, zn5, zn6, zn7, zn8, beq_self_eq_true, then_n, then_r, thenR_n, thenR_r, loop_n, loop_r, zl1, zl2, zl3, zl4, rng_1, rng_2, int_b, str_i, max_i, min_i, len_t, list_t, zl7, zl8, List.replicate, zl9, zl10, List.set, zl5, zl6, zo1, zo3, zo2, Nat.reduceSub, zl11, zl12, zn9, if_false, if_true, zn10, zn11, Bool.not_true, Bool.not_false, zn12, zn13, reduceCtorEq, zn15, zn14, zn18, zn16, zn17, forall_const, zb1, zb2, zb3, zb4, zb5, zb6, zb7, decide_true, decide_false, eq_self]
    refine cell_ok hc hS' (by first | decide | with_reducible first | assumption | exact zm0 (by decide) | exact zm1 (by decide) (by decide) | exact zm3 (by assumption) (by decide) | omega) (by first | decide | with_reducible first | assumption | exact zm0 (by decide) | exact zm1 (by decide) (by decide) | exact zm3 (by assumption) (by decide) | omega) fun v hv0 hv1 => ?_
    simp only [qx_1, qx_2, qx_3, qx_4, qx_5, qx_6, qx_7, qx_8, qx_9, qx_10, qx_11, qx_13, qx_15, qx_16, qx_17, qx_18, qx_19, qx_20, qx_21, qx_22, qx_23, qx_24, qx_25, qx_26, qt_1, qt_2, qt_3, qt_4, qt_5, qt_6, qt_7, qt_9, qt_10, qt_11, qt_12, qt_13, ql_1, ql_2, qa_1, qa_2, qb_1, qb_2, qo_1, qo_2, qc_1, qc_2, k_n, k_r, k_1, k_2, k_3, k_4, k_5, k_6, k_7, k_8, k_9, qs_1, add_i, sub_i, mul_i, div_i, mod_i, pow_i, eq_i, ne_i, eq_s, ne_s, eq_b, ne_b, lt_i, le_i, gt_i, ge_i, ret_v, ret_n, tru_b, vk_i, vk_s, vk_t, vk_n, vk_b, is_nn, is_in, is_sn, is_tn, is_rn, isn_nn, isn_tn, zn1, zn2, zn3, zn4, zn5, zn6, zn7, zn8, beq_self_eq_true, then_n, then_r, thenR_n, thenR_r, loop_n, loop_r, zl1, zl2, zl3, zl4, rng_1, rng_2, int_b, str_i, max_i, min_i, len_t, list_t, zl7, zl8, List.replicate, zl9, zl10, List.set, zl5, zl6, zo1, zo3, zo2, Nat.reduceSub, zl11, zl12, zn9, if_false, if_true, zn10, zn11, Bool.not_true, Bool.not_false, zn12, zn13, reduceCtorEq, zn15, zn14, zn18, zn16, zn17, forall_const, zb1, zb2, zb3, zb4, zb5, zb6, zb7, decide_true, decide_false, eq_self]
    refine ⟨by first | decide | with_reducible first | assumption | exact zm0 (by decide) | exact zm1 (by decide) (by decide) | exact zm3 (by assumption) (by decide) | omega, fun _ => ?_, fun _ => ?_⟩
    · refine value_ok hc hS' hN' (by first | decide | with_reducible first | assumption | exact zm0 (by decide) | exact zm1 (by decide) (by decide) | exact zm3 (by assumption) (by decide) | omega) (by first | decide | with_reducible first | assumption | exact zm0 (by decide) | exact zm1 (by decide) (by decide) | exact zm3 (by assumption) (by decide) | omega) fun w hw => ⟨by simp, getN _ (setD (AH.set_self _ _ _) (by first | decide | with_reducible first | assumption | exact zm0 (by decide) | exact zm1 (by decide) (by decide) | exact zm3 (by assumption) (by decide) | omega) ?_)⟩
      exact done _ _ _ _ (.inl ⟨w, rfl, hw⟩) rfl
    · refine ⟨.inl (by decide), by first | decide | with_reducible first | assumption | exact zm0 (by decide) | exact zm1 (by decide) (by decide) | exact zm3 (by assumption) (by decide) | omega, by first | decide | with_reducible first | assumption | exact zm0 (by decide) | exact zm1 (by decide) (by decide) | exact zm3 (by assumption) (by decide) | omega, by first | decide | with_reducible first | assumption | exact zm0 (by decide) | exact zm1 (by decide) (by decide) | exact zm3 (by assumption) (by decide) | omega, values_ok hc hS' hN' (by first | decide | with_reducible first | assumption | exact zm0 (by decide) | exact zm1 (by decide) (by decide) | exact zm3 (by assumption) (by decide) | omega) (by first | decide | with_reducible first | assumption | exact zm0 (by decide) | exact zm1 (by decide) (by decide) | exact zm3 (by assumption) (by decide) | omega) (by first | decide | with_reducible first | assumption | exact zm0 (by decide) | exact zm1 (by decide) (by decide) | exact zm3 (by assumption) (by decide) | omega) (by first | decide | with_reducible first | assumption | exact zm0 (by decide) | exact zm1 (by decide) (by decide) | exact zm3 (by assumption) (by decide) | omega) fun l hl hv => ?_⟩
      have i0 : 0 ≤ v / 18 % (m : Int) := Int.emod_nonneg _ (by first | decide | with_reducible first | assumption | exact zm0 (by decide) | exact zm1 (by decide) (by decide) | exact zm3 (by assumption) (by decide) | omega)
      have i1 : v / 18 % (m : Int) < m := Int.emod_lt_of_pos _ (by first | decide | with_reducible first | assumption | exact zm0 (by decide) | exact zm1 (by decide) (by decide) | exact zm3 (by assumption) (by decide) | omega)
      refine ⟨by first | decide | with_reducible first | assumption | exact zm0 (by decide) | exact zm1 (by decide) (by decide) | exact zm3 (by assumption) (by decide) | omega, by first | decide | with_reducible first | assumption | exact zm0 (by decide) | exact zm1 (by decide) (by decide) | exact zm3 (by assumption) (by decide) | omega, by first | decide | with_reducible first | assumption | exact zm0 (by decide) | exact zm1 (by decide) (by decide) | exact zm3 (by assumption) (by decide) | omega, by simp, getN _ (setD (AH.set_self _ _ _) (by first | decide | with_reducible first | assumption | exact zm0 (by decide) | exact zm1 (by decide) (by decide) | exact zm3 (by assumption) (by decide) | omega) ?_)⟩
      exact done _ _ _ _ (.inr ⟨_, l, rfl, i0, by first | decide | with_reducible first | assumption | exact zm0 (by decide) | exact zm1 (by decide) (by decide) | exact zm3 (by assumption) (by decide) | omega, hv⟩) (decide_eq_true i1)
  · rintro ρ' H' ⟨x4, x5, x6, T, rfl, rfl, t1, t2⟩
    simp only [qx_1, qx_2, qx_3, qx_4, qx_5, qx_6, qx_7, qx_8, qx_9, qx_10, qx_11, qx_13, qx_15, qx_16, qx_17, qx_18, qx_19, qx_20, qx_21, qx_22, qx_23, qx_24, qx_25, qx_26, qt_1, qt_2, qt_3, qt_4, qt_5, qt_6, qt_7, qt_9, qt_10, qt_11, qt_12, qt_13, ql_1, ql_2, qa_1, qa_2, qb_1, qb_2, qo_1, qo_2, qc_1, qc_2, k_n, k_r, k_1, k_2, k_3, k_4, k_5, k_6, k_7, k_8, k_9, qs_1, add_i, sub_i, mul_i, div_i, mod_i, pow_i, eq_i, ne_i, eq_s, ne_s, eq_b, ne_b, lt_i, le_i, gt_i, ge_i, ret_v, ret_n, tru_b, vk_i, vk_s, vk_t, vk_n, vk_b, is_nn, is_in, is_sn, is_tn, is_rn, isn_nn, isn_tn, zn1, zn2, zn3, zn4, zn5, zn6, zn7, zn8, beq_self_eq_true, then_n, then_r, thenR_n, thenR_r, loop_n, loop_r, zl1, zl2, zl3, zl4, rng_1, rng_2, int_b, str_i, max_i, min_i, len_t, list_t, zl7, zl8, List.replicate, zl9, zl10, List.set, zl5, zl6, zo1, zo3, zo2, Nat.reduceSub, zl11, zl12, zn9, if_false, if_true, zn10, zn11, Bool.not_true, Bool.not_false, zn12, zn13, reduceCtorEq, zn15, zn14, zn18, zn16, zn17, forall_const, zb1, zb2, zb3, zb4, zb5, zb6, zb7, decide_true, decide_false, eq_self]
    rw [List.take_of_length_le (by first | decide | with_reducible first | assumption | exact zm0 (by decide) | exact zm1 (by decide) (by decide) | exact zm3 (by assumption) (by decide) | omega)] at t1
    exact ⟨g0 T, d, _, rfl, hd, AH.set_self _ _ _, hQ d T hd t1 t2⟩

theorem IsVal.mono {N N' : List Int} (h : ∀ x ∈ N, x ∈ N') {v : AV} (x : IsVal N v) : IsVal N' v := x.imp id fun ⟨y, hy, e⟩ => ⟨y, h y hy, e⟩
theorem Vals.mono {N N' : List Int} (h : ∀ x ∈ N, x ∈ N') {l : List AV} (x : Vals N l) : Vals N' l := ⟨x.1, fun v hv => (x.2 v hv).mono h⟩
theorem IsFrame.mono {N N' : List Int} (h : ∀ x ∈ N, x ∈ N') {v : AV} (x : IsFrame N v) : IsFrame N' v := let ⟨b, q, o, s, e, z1, z2, h1, h2⟩ := x; ⟨b, q, o, s, e, z1, z2, h1.mono h, h2.mono h⟩
theorem IsThing.mono {N N' : List Int} (h : ∀ x ∈ N, x ∈ N') {v : AV} (x : IsThing N v) : IsThing N' v := x.imp (fun ⟨w, e, h1⟩ => ⟨w, e, h1.mono h⟩) fun ⟨i, l, e, z, h1⟩ => ⟨i, l, e, z, h1.mono h⟩
theorem keyAt_mem {T : List (Int × AV)} {x : Int} {v : AV} (h : keyAt T x = some v) : (x, v) ∈ T := by
  unfold keyAt at h
  obtain ⟨kv, h1, h2⟩ := Option.map_eq_some_iff.mp h
  have h3 := List.mem_of_find?_eq_some h1
  have h4 := List.find?_some h1
  simp at h4
  subst h4; subst h2; exact h3
theorem keyAt_key {T : List (Int × AV)} {x : Int} (h : x ∈ T.map (·.1)) : ∃ v, keyAt T x = some v := by
  obtain ⟨kv, h1, h2⟩ := List.mem_map.mp h
  have : (keyAt T x).isSome = true := by rw [keyAt_isSome, List.any_eq_true]; exact ⟨kv, h1, by simpa using h2⟩
  exact Option.isSome_iff_exists.mp this
/-- how a state may have ended -/
noncomputable def IsEnd (N : List Int) (e : AV) : Prop := e = .none ∨ (∃ v, e = .tup [.str "done", v] ∧ IsVal N v) ∨ ∃ w, e = .tup [.str "stuck", .str w]
/-- a state, its lists and its table in the heap -/
structure State (H : AH) (st : AV) (e : AV) (F : List AV) (T : List (Int × AV)) (f t : Nat) : Prop where
  st : st = .tup [e, .ref f, .ref t]
  en : IsEnd (keys T) e
  fr : ∃ own, H f = some (.list own F)
  th : ∃ own, H t = some (.dict own T)
  hF : Frames (keys T) F
  hT : T.length ≤ 200
  hV : ∀ kv ∈ T, IsThing (keys T) kv.2
theorem State.grow {H' : AH} {st : AV} {e : AV} {F : List AV} {T : List (Int × AV)} {f t : Nat} (h : State H st e F T f t) (g : ∀ a o, H a = some o → H' a = some o) : State H' st e F T f t :=
  ⟨h.st, h.en, let ⟨o, q⟩ := h.fr; ⟨o, g _ _ q⟩, let ⟨o, q⟩ := h.th; ⟨o, g _ _ q⟩, h.hF, h.hT, h.hV⟩

/-- all that a program has -/
noncomputable def Fit (B : List (List AV)) (F : List AV) (T : List (Int × AV)) : Prop := (∀ f ∈ F, fitF B f = true) ∧ ∀ kv ∈ T, fitT B.length kv.2 = true
theorem state_ok (hc : Tab c) {a p : Nat} {B : List (List AV)} {S : List Int} {Q : AV → AH → Prop} (hS : Ints H a S) (hP : Prog H p B)
    (hQ : ∀ (st : AV) (F : List AV) (T : List (Int × AV)) (f t : Nat) (H' : AH), (∀ a o, H a = some o → H' a = some o) → State H' st .none F T f t → Fit B F T → 0 < F.length → T.length ≤ 130 → (∀ x ∈ keys T, 0 ≤ x) → Q st H') : CW c (n + 7) i_L_state [.ref a, .ref p] H Q := by
  refine CW.run (f := "_law_state") (ir := ir_L_state) (by rw [hc.fns]; rfl) rfl ?_
  simp only [qx_1, qx_2, qx_3, qx_4, qx_5, qx_6, qx_7, qx_8, qx_9, qx_10, qx_11, qx_13, qx_15, qx_16, qx_17, qx_18, qx_19, qx_20, qx_21, qx_22, qx_23, qx_24, qx_25, qx_26, qt_1, qt_2, qt_3, qt_4, qt_5, qt_6, qt_7, qt_9, qt_10, qt_11, qt_12, qt_13, ql_1, ql_2, qa_1, qa_2, qb_1, qb_2, qo_1, qo_2, qc_1, qc_2, k_n, k_r, k_1, k_2, k_3, k_4, k_5, k_6, k_7, k_8, k_9, qs_1, add_i, sub_i, mul_i, div_i, mod_i, pow_i, eq_i, ne_i, eq_s, ne_s, eq_b, ne_b, lt_i, le_i, gt_i, ge_i, ret_v, ret_n, tru_b, vk_i, vk_s, vk_t, vk_n, vk_b, is_nn, is_in, is_sn, is_tn, is_rn, isn_nn, isn_tn, zn1, zn2, zn3, zn4, zn5, zn6, zn7, zn8, beq_self_eq_true, then_n, then_r, thenR_n, thenR_r, loop_n, loop_r, zl1, zl2, zl3, zl4, rng_1, rng_2, int_b, str_i, max_i, min_i, len_t, list_t, zl7, zl8, List.replicate, zl9, zl10, List.set, zl5, zl6, zo1, zo3, zo2, Nat.reduceSub, zl11, zl12, zn9, if_false, if_true, zn10, zn11, Bool.not_true, Bool.not_false, zn12, zn13, reduceCtorEq, zn15, zn14, zn18, zn16, zn17, forall_const, zb1, zb2, zb3, zb4, zb5, zb6, zb7, decide_true, decide_false, eq_self, ir_L_state, s_L_state_0, s_L_state_1]
  refine names_ok hc hS fun b N hb hNl hNr hN0 => ?_
  have g1 : ∀ (a : Nat) (o : AObj), H a = some o → H.set b (.list true (N.map .int)) a = some o := fun _ _ h => AH.set_of h hb
  have hN : Ints (H.set b (.list true (N.map .int))) b N := ⟨true, AH.set_self _ _ _, by first | decide | with_reducible first | assumption | exact zm0 (by decide) | exact zm1 (by decide) (by decide) | exact zm3 (by assumption) (by decide) | omega⟩
  refine frames_ok hc (hS.grow g1) (hP.grow g1) hN fun f F hf hF hF2 hF3 => ?_
  generalize H.set b (.list true (N.map .int)) = H1 at g1 hN hf
  have g2 : ∀ (a : Nat) (o : AObj), H1 a = some o → H1.set f (.list true F) a = some o := fun _ _ h => AH.set_of h hf
  refine ((hP.grow g1).grow g2).len ?_
  refine things_ok hc ((hS.grow g1).grow g2) (hN.grow g2) hNl hNr.nodup hP.size.1 fun t T ht hT hT2 => ?_
  have g3 : ∀ (a : Nat) (o : AObj), (H1.set f (.list true F)) a = some o → (H1.set f (.list true F)).set t (.dict true T) a = some o := fun _ _ h => AH.set_of h ht
  subst hT
  rw [List.length_map] at hNl
  exact ⟨by simp, hQ _ F T f t _ (fun a o h => g3 _ _ (g2 _ _ (g1 _ _ h))) ⟨rfl, .inl rfl, ⟨true, g3 _ _ (AH.set_self _ _ _)⟩, ⟨true, AH.set_self _ _ _⟩, hF, by first | decide | with_reducible first | assumption | exact zm0 (by decide) | exact zm1 (by decide) (by decide) | exact zm3 (by assumption) (by decide) | omega, fun kv hkv => (hT2 kv hkv).1⟩ ⟨hF2, fun kv hkv => (hT2 kv hkv).2⟩ hF3 hNl hN0⟩

theorem get0 {x y z : AV} {Q : AV → AH → Prop} (hq : Q x H) : getW (.tup [x, y, z]) (.int 0) H Q := ⟨⟨by simp, by simp, by simp⟩, x, rfl, hq⟩
theorem get1 {x y z : AV} {Q : AV → AH → Prop} (hq : Q y H) : getW (.tup [x, y, z]) (.int 1) H Q := ⟨⟨by simp, by simp, by simp⟩, y, rfl, hq⟩
theorem get2 {x y z : AV} {Q : AV → AH → Prop} (hq : Q z H) : getW (.tup [x, y, z]) (.int 2) H Q := ⟨⟨by simp, by simp, by simp⟩, z, rfl, hq⟩

theorem copy_ok (hc : Tab c) {f t : Nat} {st e : AV} {F : List AV} {T : List (Int × AV)} {Q : AV → AH → Prop} (hst : State H st e F T f t)
    (hQ : ∀ (f' t' : Nat), H f' = none → H t' = none → f' ≠ t' → State ((H.set f' (.list true F)).set t' (.dict true T)) (.tup [e, .ref f', .ref t']) e F T f' t' → Q (.tup [e, .ref f', .ref t']) ((H.set f' (.list true F)).set t' (.dict true T))) : CW c (n + 1) i_L_copy [st] H Q := by
  refine CW.run (f := "_law_copy") (ir := ir_L_copy) (by rw [hc.fns]; rfl) rfl ?_
  obtain ⟨rfl, h1, ⟨o1, h2⟩, ⟨o2, h3⟩, h4, h5, h6⟩ := id hst
  simp only [qx_1, qx_2, qx_3, qx_4, qx_5, qx_6, qx_7, qx_8, qx_9, qx_10, qx_11, qx_13, qx_15, qx_16, qx_17, qx_18, qx_19, qx_20, qx_21, qx_22, qx_23, qx_24, qx_25, qx_26, qt_1, qt_2, qt_3, qt_4, qt_5, qt_6, qt_7, qt_9, qt_10, qt_11, qt_12, qt_13, ql_1, ql_2, qa_1, qa_2, qb_1, qb_2, qo_1, qo_2, qc_1, qc_2, k_n, k_r, k_1, k_2, k_3, k_4, k_5, k_6, k_7, k_8, k_9, qs_1, add_i, sub_i, mul_i, div_i, mod_i, pow_i, eq_i, ne_i, eq_s, ne_s, eq_b, ne_b, lt_i, le_i, gt_i, ge_i, ret_v, ret_n, tru_b, vk_i, vk_s, vk_t, vk_n, vk_b, is_nn, is_in, is_sn, is_tn, is_rn, isn_nn, isn_tn, zn1, zn2, zn3, zn4, zn5, zn6, zn7, zn8, beq_self_eq_true, then_n, then_r, thenR_n, thenR_r, loop_n, loop_r, zl1, zl2, zl3, zl4, rng_1, rng_2, int_b, str_i, max_i, min_i, len_t, list_t, zl7, zl8, List.replicate, zl9, zl10, List.set, zl5, zl6, zo1, zo3, zo2, Nat.reduceSub, zl11, zl12, zn9, if_false, if_true, zn10, zn11, Bool.not_true, Bool.not_false, zn12, zn13, reduceCtorEq, zn15, zn14, zn18, zn16, zn17, forall_const, zb1, zb2, zb3, zb4, zb5, zb6, zb7, decide_true, decide_false, eq_self, ir_L_copy, s_L_copy_0]
  refine get0 (get1 (listL h2 (by have := h4.1; omega) fun r hr => get2 (dictD (AH.set_of h3 hr) (by first | decide | with_reducible first | assumption | exact zm0 (by decide) | exact zm1 (by decide) (by decide) | exact zm3 (by assumption) (by decide) | omega) fun d hd => ⟨by simp, ?_⟩)))
  have hrd : r ≠ d := fun q => by rw [← q, AH.set_self] at hd; cases hd
  have hd0 : H d = none := by rw [AH.set_ne _ _ hrd.symm] at hd; exact hd
  exact hQ r d hr hd0 hrd ⟨rfl, h1, ⟨true, AH.set_of (AH.set_self _ _ _) hd⟩, ⟨true, AH.set_self _ _ _⟩, h4, h5, h6⟩
end
end Mine

set_option maxRecDepth 100000
set_option autoImplicit false
set_option linter.unusedSimpArgs false
set_option linter.unusedVariables false
namespace Mine
open PySem PyProof.Rows

section
variable {c : Cx} {n : Nat} {H : AH}

theorem whole_ok (hc : Tab c) {i : Int} {Q : AV → AH → Prop} (hQ : Q (.bool true) H) : CW c (n + 1) i_L_whole [.int i] H Q := by
  refine CW.run (f := "_law_whole") (ir := ir_L_whole) (by rw [hc.fns]; rfl) rfl ?_
  simp only [qx_1, qx_2, qx_3, qx_4, qx_5, qx_6, qx_7, qx_8, qx_9, qx_10, qx_11, qx_13, qx_15, qx_16, qx_17, qx_18, qx_19, qx_20, qx_21, qx_22, qx_23, qx_24, qx_25, qx_26, qt_1, qt_2, qt_3, qt_4, qt_5, qt_6, qt_7, qt_9, qt_10, qt_11, qt_12, qt_13, ql_1, ql_2, qa_1, qa_2, qb_1, qb_2, qo_1, qo_2, qc_1, qc_2, k_n, k_r, k_1, k_2, k_3, k_4, k_5, k_6, k_7, k_8, k_9, qs_1, add_i, sub_i, mul_i, div_i, mod_i, pow_i, eq_i, ne_i, eq_s, ne_s, eq_b, ne_b, lt_i, le_i, gt_i, ge_i, ret_v, ret_n, tru_b, vk_i, vk_s, vk_t, vk_n, vk_b, is_nn, is_in, is_sn, is_tn, is_rn, isn_nn, isn_tn, zn1, zn2, zn3, zn4, zn5, zn6, zn7, zn8, beq_self_eq_true, then_n, then_r, thenR_n, thenR_r, loop_n, loop_r, zl1, zl2, zl3, zl4, rng_1, rng_2, int_b, str_i, max_i, min_i, len_t, list_t, zl7, zl8, List.replicate, zl9, zl10, List.set, zl5, zl6, zo1, zo3, zo2, Nat.reduceSub, zl11, zl12, zn9, if_false, if_true, zn10, zn11, Bool.not_true, Bool.not_false, zn12, zn13, reduceCtorEq, zn15, zn14, zn18, zn16, zn17, forall_const, zb1, zb2, zb3, zb4, zb5, zb6, zb7, decide_true, decide_false, eq_self, ir_L_whole, s_L_whole_0]
  exact hQ

/-- plain data, so deep -/
noncomputable def Plain : Nat → AV → Prop
  | _, .none => True
  | _, .int _ => True
  | _, .str _ => True
  | d + 1, .tup l => l.length ≤ 10000 ∧ ∀ y ∈ l, Plain d y
  | _, _ => False
/-- two that hold the same items -/
inductive Two (H : AH) (l : List AV) : AV → AV → Prop
  | tup : Two H l (.tup l) (.tup l)
  | list {a b : Nat} {o1 o2 : Bool} : H a = some (.list o1 l) → H b = some (.list o2 l) → Two H l (.ref a) (.ref b)
theorem allB_true : ∀ (l : List AV), (∀ y ∈ l, y = .bool true) → ∃ bs, allB l = some bs ∧ bs.all id = true
  | [], _ => ⟨[], rfl, rfl⟩
  | y :: l, h => by
    obtain ⟨bs, h1, h2⟩ := allB_true l fun z hz => h z (.tail _ hz)
    refine ⟨true :: bs, ?_, by simpa using h2⟩
    rw [h y (.head _)]
    simp only [allB, truB, h1]

theorem alike_two (hc : Tab c) {l : List AV} {x y : AV} {Q : AV → AH → Prop} (hl : l.length ≤ 10000) (ih : ∀ z ∈ l, ∀ (Q : AV → AH → Prop), Q (.bool true) H → CW c n i_L_alike [z, z] H Q) (h : Two H l x y) (hQ : Q (.bool true) H) : CW c (n + 1) i_L_alike [x, y] H Q := by
  refine CW.pure (CW.run (f := "_law_alike") (ir := ir_L_alike) (by rw [hc.fns]; rfl) rfl ?_)
  have elem : ∀ (x y : AV), (∀ (k : Int) (z : AV), 0 ≤ k → l[k.toNat]? = some z → ∀ Q : AV → AH → Prop, Q z H → getW x (.int k) H Q ∧ getW y (.int k) H Q) →
      CompP (fun ρ H Q => wpC c n none ρ H Q) (fun ρ H Q => wpE c n (.call i_L_alike [.sub (.var 0) (.var 2), .sub (.var 1) (.var 2)]) ρ H Q) (none : Option X).isSome [some x, some y] (.rng 0 l.length) H (fun ys H' => ∀ D, H' D = none → biW .all [.ref D] (H'.set D (.list true ys)) fun v H1 => (∀ a o, H a = some o → H1 a = some o) ∧ Q v H) := by
    intro x y hg
    refine comp_range (fun _ z => z = .bool true) (by first | decide | with_reducible first | assumption | exact zm0 (by decide) | exact zm1 (by decide) (by decide) | exact zm3 (by assumption) (by decide) | omega) (by first | decide | with_reducible first | assumption | exact zm0 (by decide) | exact zm1 (by decide) (by decide) | exact zm3 (by assumption) (by decide) | omega) (fun j hj Q' hq' => ?_) fun ys hys1 hys2 D hD => ?_
    · simp only [wpR_eq, wpE_eq, qx_1, qx_2, qx_3, qx_4, qx_5, qx_6, qx_7, qx_8, qx_9, qx_10, qx_11, qx_13, qx_15, qx_16, qx_17, qx_18, qx_19, qx_20, qx_21, qx_22, qx_23, qx_24, qx_25, qx_26, qt_1, qt_2, qt_3, qt_4, qt_5, qt_6, qt_7, qt_9, qt_10, qt_11, qt_12, qt_13, ql_1, ql_2, qa_1, qa_2, qb_1, qb_2, qo_1, qo_2, qc_1, qc_2, k_n, k_r, k_1, k_2, k_3, k_4, k_5, k_6, k_7, k_8, k_9, qs_1, add_i, sub_i, mul_i, div_i, mod_i, pow_i, eq_i, ne_i, eq_s, ne_s, eq_b, ne_b, lt_i, le_i, gt_i, ge_i, ret_v, ret_n, tru_b, vk_i, vk_s, vk_t, vk_n, vk_b, is_nn, is_in, is_sn, is_tn, is_rn, isn_nn, isn_tn, zn1, zn2, zn3, zn4, zn5, zn6, zn7, zn8, beq_self_eq_true, then_n, then_r, thenR_n, thenR_r, loop_n, loop_r, zl1, zl2, zl3, zl4, rng_1, rng_2, int_b, str_i, max_i, min_i, len_t, list_t, zl7, zl8, List.replicate, zl9, zl10, List.set, zl5, zl6, zo1, zo3, zo2, Nat.reduceSub, zl11, zl12, zn9, if_false, if_true, zn10, zn11, Bool.not_true, Bool.not_false, zn12, zn13, reduceCtorEq, zn15, zn14, zn18, zn16, zn17, forall_const, zb1, zb2, zb3, zb4, zb5, zb6, zb7, decide_true, decide_false, eq_self]
      have hj' : j < l.length := by first | decide | with_reducible first | assumption | exact zm0 (by decide) | exact zm1 (by decide) (by decide) | exact zm3 (by assumption) (by decide) | omega
      have e : l[((j : Nat) : Int).toNat]? = some l[j] := by rw [Int.toNat_natCast]; exact List.getElem?_eq_getElem hj'
      refine (hg j _ (by first | decide | with_reducible first | assumption | exact zm0 (by decide) | exact zm1 (by decide) (by decide) | exact zm3 (by assumption) (by decide) | omega) e _ ((hg j _ (by first | decide | with_reducible first | assumption | exact zm0 (by decide) | exact zm1 (by decide) (by decide) | exact zm3 (by assumption) (by decide) | omega) e _ ?_).2)).1
      exact ih _ (List.getElem_mem hj') _ (hq' _ rfl)
    · obtain ⟨bs, b1, b2⟩ := allB_true ys (all_of hys2)
      exact allL (AH.set_self _ _ _) b1 ⟨fun _ _ h => AH.set_of h hD, by rw [b2]; exact hQ⟩
  cases h with
  | tup =>
    simp only [qx_1, qx_2, qx_3, qx_4, qx_5, qx_6, qx_7, qx_8, qx_9, qx_10, qx_11, qx_13, qx_15, qx_16, qx_17, qx_18, qx_19, qx_20, qx_21, qx_22, qx_23, qx_24, qx_25, qx_26, qt_1, qt_2, qt_3, qt_4, qt_5, qt_6, qt_7, qt_9, qt_10, qt_11, qt_12, qt_13, ql_1, ql_2, qa_1, qa_2, qb_1, qb_2, qo_1, qo_2, qc_1, qc_2, k_n, k_r, k_1, k_2, k_3, k_4, k_5, k_6, k_7, k_8, k_9, qs_1, add_i, sub_i, mul_i, div_i, mod_i, pow_i, eq_i, ne_i, eq_s, ne_s, eq_b, ne_b, lt_i, le_i, gt_i, ge_i, ret_v, ret_n, tru_b, vk_i, vk_s, vk_t, vk_n, vk_b, is_nn, is_in, is_sn, is_tn, is_rn, isn_nn, isn_tn, zn1, zn2, zn3, zn4, zn5, zn6, zn7, zn8, beq_self_eq_true, then_n, then_r, thenR_n, thenR_r, loop_n, loop_r, zl1, zl2, zl3, zl4, rng_1, rng_2, int_b, str_i, max_i, min_i, len_t, list_t, zl7, zl8, List.replicate, zl9, zl10, List.set, zl5, zl6, zo1, zo3, zo2, Nat.reduceSub, zl11, zl12, zn9, if_false, if_true, zn10, zn11, Bool.not_true, Bool.not_false, zn12, zn13, reduceCtorEq, zn15, zn14, zn18, zn16, zn17, forall_const, zb1, zb2, zb3, zb4, zb5, zb6, zb7, decide_true, decide_false, eq_self, ir_L_alike, s_L_alike_0b0b0, s_L_alike_0b0, s_L_alike_0b1b0, s_L_alike_0b1, s_L_alike_0b2, s_L_alike_0, s_L_alike_1b0, s_L_alike_1, s_L_alike_2b0, s_L_alike_2, s_L_alike_3]
    refine ⟨by first | decide | with_reducible first | assumption | exact zm0 (by decide) | exact zm1 (by decide) (by decide) | exact zm3 (by assumption) (by decide) | omega, by first | decide | with_reducible first | assumption | exact zm0 (by decide) | exact zm1 (by decide) (by decide) | exact zm3 (by assumption) (by decide) | omega, by first | decide | with_reducible first | assumption | exact zm0 (by decide) | exact zm1 (by decide) (by decide) | exact zm3 (by assumption) (by decide) | omega, elem _ _ fun k z k0 e Q hq => ?_⟩
    have hk := (List.getElem?_eq_some_iff.mp e).1
    have : getW (.tup l) (.int k) H Q := ⟨⟨by first | decide | with_reducible first | assumption | exact zm0 (by decide) | exact zm1 (by decide) (by decide) | exact zm3 (by assumption) (by decide) | omega, by first | decide | with_reducible first | assumption | exact zm0 (by decide) | exact zm1 (by decide) (by decide) | exact zm3 (by assumption) (by decide) | omega, by first | decide | with_reducible first | assumption | exact zm0 (by decide) | exact zm1 (by decide) (by decide) | exact zm3 (by assumption) (by decide) | omega⟩, z, by unfold pyIdx; rw [if_neg (by first | decide | with_reducible first | assumption | exact zm0 (by decide) | exact zm1 (by decide) (by decide) | exact zm3 (by assumption) (by decide) | omega)]; exact e, hq⟩
    exact ⟨this, this⟩
  | list ha hb =>
    have hl' : l.length ≤ 10000000 := by first | decide | with_reducible first | assumption | exact zm0 (by decide) | exact zm1 (by decide) (by decide) | exact zm3 (by assumption) (by decide) | omega
    simp only [qx_1, qx_2, qx_3, qx_4, qx_5, qx_6, qx_7, qx_8, qx_9, qx_10, qx_11, qx_13, qx_15, qx_16, qx_17, qx_18, qx_19, qx_20, qx_21, qx_22, qx_23, qx_24, qx_25, qx_26, qt_1, qt_2, qt_3, qt_4, qt_5, qt_6, qt_7, qt_9, qt_10, qt_11, qt_12, qt_13, ql_1, ql_2, qa_1, qa_2, qb_1, qb_2, qo_1, qo_2, qc_1, qc_2, k_n, k_r, k_1, k_2, k_3, k_4, k_5, k_6, k_7, k_8, k_9, qs_1, add_i, sub_i, mul_i, div_i, mod_i, pow_i, eq_i, ne_i, eq_s, ne_s, eq_b, ne_b, lt_i, le_i, gt_i, ge_i, ret_v, ret_n, tru_b, vk_i, vk_s, vk_t, vk_n, vk_b, is_nn, is_in, is_sn, is_tn, is_rn, isn_nn, isn_tn, zn1, zn2, zn3, zn4, zn5, zn6, zn7, zn8, beq_self_eq_true, then_n, then_r, thenR_n, thenR_r, loop_n, loop_r, zl1, zl2, zl3, zl4, rng_1, rng_2, int_b, str_i, max_i, min_i, len_t, list_t, zl7, zl8, List.replicate, zl9, zl10, List.set, zl5, zl6, zo1, zo3, zo2, Nat.reduceSub, zl11, zl12, zn9, if_false, if_true, zn10, zn11, Bool.not_true, Bool.not_false, zn12, zn13, reduceCtorEq, zn15, zn14, zn18, zn16, zn17, forall_const, zb1, zb2, zb3, zb4, zb5, zb6, zb7, decide_true, decide_false, eq_self, ir_L_alike, s_L_alike_0b0b0, s_L_alike_0b0, s_L_alike_0b1b0, s_L_alike_0b1, s_L_alike_0b2, s_L_alike_0, s_L_alike_1b0, s_L_alike_1, s_L_alike_2b0, s_L_alike_2, s_L_alike_3, vkL_eq ha, vkL_eq hb, lenL_eq ha hl', lenL_eq hb hl']
    exact elem _ _ fun k z k0 e Q hq => ⟨getL ha k0 hl' e hq, getL hb k0 hl' e hq⟩

theorem alike_plain (hc : Tab c) : ∀ (d : Nat) (x : AV), Plain d x → ∀ (n : Nat) (Q : AV → AH → Prop), Q (.bool true) H → CW c (n + d + 2) i_L_alike [x, x] H Q
  | d, .none, _, n, Q, hQ => by
    refine CW.run (f := "_law_alike") (ir := ir_L_alike) (by rw [hc.fns]; rfl) rfl ?_
    simp only [qx_1, qx_2, qx_3, qx_4, qx_5, qx_6, qx_7, qx_8, qx_9, qx_10, qx_11, qx_13, qx_15, qx_16, qx_17, qx_18, qx_19, qx_20, qx_21, qx_22, qx_23, qx_24, qx_25, qx_26, qt_1, qt_2, qt_3, qt_4, qt_5, qt_6, qt_7, qt_9, qt_10, qt_11, qt_12, qt_13, ql_1, ql_2, qa_1, qa_2, qb_1, qb_2, qo_1, qo_2, qc_1, qc_2, k_n, k_r, k_1, k_2, k_3, k_4, k_5, k_6, k_7, k_8, k_9, qs_1, add_i, sub_i, mul_i, div_i, mod_i, pow_i, eq_i, ne_i, eq_s, ne_s, eq_b, ne_b, lt_i, le_i, gt_i, ge_i, ret_v, ret_n, tru_b, vk_i, vk_s, vk_t, vk_n, vk_b, is_nn, is_in, is_sn, is_tn, is_rn, isn_nn, isn_tn, zn1, zn2, zn3, zn4, zn5, zn6, zn7, zn8, beq_self_eq_true, then_n, then_r, thenR_n, thenR_r, loop_n, loop_r, zl1, zl2, zl3, zl4, rng_1, rng_2, int_b, str_i, max_i, min_i, len_t, list_t, zl7, zl8, List.replicate, zl9, zl10, List.set, zl5, zl6, zo1, zo3, zo2, Nat.reduceSub, zl11, zl12, zn9, if_false, if_true, zn10, zn11, Bool.not_true, Bool.not_false, zn12, zn13, reduceCtorEq, zn15, zn14, zn18, zn16, zn17, forall_const, zb1, zb2, zb3, zb4, zb5, zb6, zb7, decide_true, decide_false, eq_self, ir_L_alike, s_L_alike_0b0b0, s_L_alike_0b0, s_L_alike_0b1b0, s_L_alike_0b1, s_L_alike_0b2, s_L_alike_0, s_L_alike_1b0, s_L_alike_1, s_L_alike_2b0, s_L_alike_2, s_L_alike_3]
    exact hQ
  | d, .int i, _, n, Q, hQ => by
    refine CW.run (f := "_law_alike") (ir := ir_L_alike) (by rw [hc.fns]; rfl) rfl ?_
    simp only [qx_1, qx_2, qx_3, qx_4, qx_5, qx_6, qx_7, qx_8, qx_9, qx_10, qx_11, qx_13, qx_15, qx_16, qx_17, qx_18, qx_19, qx_20, qx_21, qx_22, qx_23, qx_24, qx_25, qx_26, qt_1, qt_2, qt_3, qt_4, qt_5, qt_6, qt_7, qt_9, qt_10, qt_11, qt_12, qt_13, ql_1, ql_2, qa_1, qa_2, qb_1, qb_2, qo_1, qo_2, qc_1, qc_2, k_n, k_r, k_1, k_2, k_3, k_4, k_5, k_6, k_7, k_8, k_9, qs_1, add_i, sub_i, mul_i, div_i, mod_i, pow_i, eq_i, ne_i, eq_s, ne_s, eq_b, ne_b, lt_i, le_i, gt_i, ge_i, ret_v, ret_n, tru_b, vk_i, vk_s, vk_t, vk_n, vk_b, is_nn, is_in, is_sn, is_tn, is_rn, isn_nn, isn_tn, zn1, zn2, zn3, zn4, zn5, zn6, zn7, zn8, beq_self_eq_true, then_n, then_r, thenR_n, thenR_r, loop_n, loop_r, zl1, zl2, zl3, zl4, rng_1, rng_2, int_b, str_i, max_i, min_i, len_t, list_t, zl7, zl8, List.replicate, zl9, zl10, List.set, zl5, zl6, zo1, zo3, zo2, Nat.reduceSub, zl11, zl12, zn9, if_false, if_true, zn10, zn11, Bool.not_true, Bool.not_false, zn12, zn13, reduceCtorEq, zn15, zn14, zn18, zn16, zn17, forall_const, zb1, zb2, zb3, zb4, zb5, zb6, zb7, decide_true, decide_false, eq_self, ir_L_alike, s_L_alike_0b0b0, s_L_alike_0b0, s_L_alike_0b1b0, s_L_alike_0b1, s_L_alike_0b2, s_L_alike_0, s_L_alike_1b0, s_L_alike_1, s_L_alike_2b0, s_L_alike_2, s_L_alike_3]
    refine whole_ok hc ?_
    simp only [qx_1, qx_2, qx_3, qx_4, qx_5, qx_6, qx_7, qx_8, qx_9, qx_10, qx_11, qx_13, qx_15, qx_16, qx_17, qx_18, qx_19, qx_20, qx_21, qx_22, qx_23, qx_24, qx_25, qx_26, qt_1, qt_2, qt_3, qt_4, qt_5, qt_6, qt_7, qt_9, qt_10, qt_11, qt_12, qt_13, ql_1, ql_2, qa_1, qa_2, qb_1, qb_2, qo_1, qo_2, qc_1, qc_2, k_n, k_r, k_1, k_2, k_3, k_4, k_5, k_6, k_7, k_8, k_9, qs_1, add_i, sub_i, mul_i, div_i, mod_i, pow_i, eq_i, ne_i, eq_s, ne_s, eq_b, ne_b, lt_i, le_i, gt_i, ge_i, ret_v, ret_n, tru_b, vk_i, vk_s, vk_t, vk_n, vk_b, is_nn, is_in, is_sn, is_tn, is_rn, isn_nn, isn_tn, zn1, zn2, zn3, zn4, zn5, zn6, zn7, zn8, beq_self_eq_true, then_n, then_r, thenR_n, thenR_r, loop_n, loop_r, zl1, zl2, zl3, zl4, rng_1, rng_2, int_b, str_i, max_i, min_i, len_t, list_t, zl7, zl8, List.replicate, zl9, zl10, List.set, zl5, zl6, zo1, zo3, zo2, Nat.reduceSub, zl11, zl12, zn9, if_false, if_true, zn10, zn11, Bool.not_true, Bool.not_false, zn12, zn13, reduceCtorEq, zn15, zn14, zn18, zn16, zn17, forall_const, zb1, zb2, zb3, zb4, zb5, zb6, zb7, decide_true, decide_false, eq_self]
    simpa using hQ
  | d, .str s, _, n, Q, hQ => by
    refine CW.run (f := "_law_alike") (ir := ir_L_alike) (by rw [hc.fns]; rfl) rfl ?_
    simp only [qx_1, qx_2, qx_3, qx_4, qx_5, qx_6, qx_7, qx_8, qx_9, qx_10, qx_11, qx_13, qx_15, qx_16, qx_17, qx_18, qx_19, qx_20, qx_21, qx_22, qx_23, qx_24, qx_25, qx_26, qt_1, qt_2, qt_3, qt_4, qt_5, qt_6, qt_7, qt_9, qt_10, qt_11, qt_12, qt_13, ql_1, ql_2, qa_1, qa_2, qb_1, qb_2, qo_1, qo_2, qc_1, qc_2, k_n, k_r, k_1, k_2, k_3, k_4, k_5, k_6, k_7, k_8, k_9, qs_1, add_i, sub_i, mul_i, div_i, mod_i, pow_i, eq_i, ne_i, eq_s, ne_s, eq_b, ne_b, lt_i, le_i, gt_i, ge_i, ret_v, ret_n, tru_b, vk_i, vk_s, vk_t, vk_n, vk_b, is_nn, is_in, is_sn, is_tn, is_rn, isn_nn, isn_tn, zn1, zn2, zn3, zn4, zn5, zn6, zn7, zn8, beq_self_eq_true, then_n, then_r, thenR_n, thenR_r, loop_n, loop_r, zl1, zl2, zl3, zl4, rng_1, rng_2, int_b, str_i, max_i, min_i, len_t, list_t, zl7, zl8, List.replicate, zl9, zl10, List.set, zl5, zl6, zo1, zo3, zo2, Nat.reduceSub, zl11, zl12, zn9, if_false, if_true, zn10, zn11, Bool.not_true, Bool.not_false, zn12, zn13, reduceCtorEq, zn15, zn14, zn18, zn16, zn17, forall_const, zb1, zb2, zb3, zb4, zb5, zb6, zb7, decide_true, decide_false, eq_self, ir_L_alike, s_L_alike_0b0b0, s_L_alike_0b0, s_L_alike_0b1b0, s_L_alike_0b1, s_L_alike_0b2, s_L_alike_0, s_L_alike_1b0, s_L_alike_1, s_L_alike_2b0, s_L_alike_2, s_L_alike_3]
    simpa using hQ
  | d + 1, .tup l, h, n, Q, hQ => alike_two hc h.1 (fun z hz Q hQ => alike_plain hc d z (h.2 z hz) n Q hQ) .tup hQ
  | 0, .tup _, h, _, _, _ => by simp [Plain] at h
  | d, .bool _, h, _, _, _ => by cases d <;> simp [Plain] at h
  | d, .ref _, h, _, _, _ => by cases d <;> simp [Plain] at h
  | d, .rng _ _, h, _, _, _ => by cases d <;> simp [Plain] at h
  | d, .view _, h, _, _, _ => by cases d <;> simp [Plain] at h

theorem plain_val {N : List Int} {v : AV} (h : IsVal N v) (d : Nat) : Plain (d + 1) v := by
  rcases h with ⟨i, rfl, _⟩ | ⟨x, _, rfl⟩
  · trivial
  · refine ⟨by simp, fun y hy => ?_⟩
    simp at hy; rcases hy with rfl | rfl <;> (cases d <;> trivial)
theorem plain_vals {N : List Int} {l : List AV} (h : Vals N l) (d : Nat) : Plain (d + 2) (.tup l) := ⟨by have := h.1; omega, fun y hy => plain_val (h.2 y hy) d⟩
theorem plain_thing {N : List Int} {v : AV} (h : IsThing N v) : Plain 3 v := by
  rcases h with ⟨w, rfl, hw⟩ | ⟨i, l, rfl, _, hl⟩
  · refine ⟨by simp, fun y hy => ?_⟩
    simp at hy; rcases hy with rfl | rfl
    · trivial
    · exact plain_val hw 1
  · refine ⟨by simp, fun y hy => ?_⟩
    simp at hy; rcases hy with rfl | rfl | rfl
    · trivial
    · trivial
    · exact plain_vals hl 0
theorem plain_frame {N : List Int} {v : AV} (h : IsFrame N v) : Plain 3 v := by
  obtain ⟨b, q, o, s, rfl, _, _, h1, h2⟩ := h
  refine ⟨by simp, fun y hy => ?_⟩
  simp at hy; rcases hy with rfl | rfl | rfl | rfl
  · trivial
  · trivial
  · exact plain_vals h1 0
  · exact plain_vals h2 0
theorem plain_end {N : List Int} {v : AV} (h : IsEnd N v) : Plain 3 v := by
  rcases h with rfl | ⟨w, rfl, hw⟩ | ⟨w, rfl⟩
  · trivial
  · refine ⟨by simp, fun y hy => ?_⟩
    simp at hy; rcases hy with rfl | rfl
    · trivial
    · exact plain_val hw 1
  · refine ⟨by simp, fun y hy => ?_⟩
    simp at hy; rcases hy with rfl | rfl <;> trivial

theorem same_things_ok (hc : Tab c) {a b : Nat} {o1 o2 : Bool} {T : List (Int × AV)} {Q : AV → AH → Prop} (ha : H a = some (.dict o1 T)) (hb : H b = some (.dict o2 T)) (hT : T.length ≤ 200) (hV : ∀ kv ∈ T, Plain 3 kv.2) (hQ : Q (.bool true) H) :
    CW c (n + 6) i_L_same_things [.ref a, .ref b] H Q := by
  refine CW.pure (CW.run (f := "_law_same_things") (ir := ir_L_same_things) (by rw [hc.fns]; rfl) rfl ?_)
  have hT' : T.length ≤ 10000000 := by first | decide | with_reducible first | assumption | exact zm0 (by decide) | exact zm1 (by decide) (by decide) | exact zm3 (by assumption) (by decide) | omega
  simp only [qx_1, qx_2, qx_3, qx_4, qx_5, qx_6, qx_7, qx_8, qx_9, qx_10, qx_11, qx_13, qx_15, qx_16, qx_17, qx_18, qx_19, qx_20, qx_21, qx_22, qx_23, qx_24, qx_25, qx_26, qt_1, qt_2, qt_3, qt_4, qt_5, qt_6, qt_7, qt_9, qt_10, qt_11, qt_12, qt_13, ql_1, ql_2, qa_1, qa_2, qb_1, qb_2, qo_1, qo_2, qc_1, qc_2, k_n, k_r, k_1, k_2, k_3, k_4, k_5, k_6, k_7, k_8, k_9, qs_1, add_i, sub_i, mul_i, div_i, mod_i, pow_i, eq_i, ne_i, eq_s, ne_s, eq_b, ne_b, lt_i, le_i, gt_i, ge_i, ret_v, ret_n, tru_b, vk_i, vk_s, vk_t, vk_n, vk_b, is_nn, is_in, is_sn, is_tn, is_rn, isn_nn, isn_tn, zn1, zn2, zn3, zn4, zn5, zn6, zn7, zn8, beq_self_eq_true, then_n, then_r, thenR_n, thenR_r, loop_n, loop_r, zl1, zl2, zl3, zl4, rng_1, rng_2, int_b, str_i, max_i, min_i, len_t, list_t, zl7, zl8, List.replicate, zl9, zl10, List.set, zl5, zl6, zo1, zo3, zo2, Nat.reduceSub, zl11, zl12, zn9, if_false, if_true, zn10, zn11, Bool.not_true, Bool.not_false, zn12, zn13, reduceCtorEq, zn15, zn14, zn18, zn16, zn17, forall_const, zb1, zb2, zb3, zb4, zb5, zb6, zb7, decide_true, decide_false, eq_self, ir_L_same_things, s_L_same_things_0b0, s_L_same_things_0, s_L_same_things_1b0b0, s_L_same_things_1b0, s_L_same_things_1b1b0, s_L_same_things_1b1, s_L_same_things_1, s_L_same_things_2, vkD_eq ha, lenD_eq ha hT', lenD_eq hb hT']
  refine listD ha hT' fun r hr => ?_
  have g : ∀ (l : List AV) (a : Nat) (o : AObj), H a = some o → H.set r (.list true l) a = some o := fun _ _ _ h => AH.set_of h hr
  refine for_list (fun j ρ' H' => ∃ x, ρ' = [some (.ref a), some (.ref b), x] ∧ H' = H.set r (.list true (T.map fun kv => .int kv.1))) (AH.set_self _ _ _) ⟨none, rfl, rfl⟩ ?_ ?_ ?_
  · rintro j ρ' H' ⟨x, rfl, rfl⟩; exact ⟨true, AH.set_self _ _ _⟩
  · rintro j y ρ' H' e ⟨x, rfl, rfl⟩
    rw [List.getElem?_map] at e
    obtain ⟨kv, e1, rfl⟩ := Option.map_eq_some_iff.mp e
    have hkv : kv ∈ T := List.mem_of_getElem? e1
    have hany : (T.any fun q => decide (q.1 = kv.1)) = true := List.any_eq_true.mpr ⟨kv, hkv, by simp⟩
    obtain ⟨v, hv⟩ := keyAt_key (T := T) (x := kv.1) (List.mem_map.mpr ⟨kv, hkv, rfl⟩)
    simp only [wpR_eq, wpE_eq, qx_1, qx_2, qx_3, qx_4, qx_5, qx_6, qx_7, qx_8, qx_9, qx_10, qx_11, qx_13, qx_15, qx_16, qx_17, qx_18, qx_19, qx_20, qx_21, qx_22, qx_23, qx_24, qx_25, qx_26, qt_1, qt_2, qt_3, qt_4, qt_5, qt_6, qt_7, qt_9, qt_10, qt_11, qt_12, qt_13, ql_1, ql_2, qa_1, qa_2, qb_1, qb_2, qo_1, qo_2, qc_1, qc_2, k_n, k_r, k_1, k_2, k_3, k_4, k_5, k_6, k_7, k_8, k_9, qs_1, add_i, sub_i, mul_i, div_i, mod_i, pow_i, eq_i, ne_i, eq_s, ne_s, eq_b, ne_b, lt_i, le_i, gt_i, ge_i, ret_v, ret_n, tru_b, vk_i, vk_s, vk_t, vk_n, vk_b, is_nn, is_in, is_sn, is_tn, is_rn, isn_nn, isn_tn, zn1, zn2, zn3, zn4, zn5, zn6, zn7, zn8, beq_self_eq_true, then_n, then_r, thenR_n, thenR_r, loop_n, loop_r, zl1, zl2, zl3, zl4, rng_1, rng_2, int_b, str_i, max_i, min_i, len_t, list_t, zl7, zl8, List.replicate, zl9, zl10, List.set, zl5, zl6, zo1, zo3, zo2, Nat.reduceSub, zl11, zl12, zn9, if_false, if_true, zn10, zn11, Bool.not_true, Bool.not_false, zn12, zn13, reduceCtorEq, zn15, zn14, zn18, zn16, zn17, forall_const, zb1, zb2, zb3, zb4, zb5, zb6, zb7, decide_true, decide_false, eq_self]
    refine whole_ok hc ?_
    simp only [qx_1, qx_2, qx_3, qx_4, qx_5, qx_6, qx_7, qx_8, qx_9, qx_10, qx_11, qx_13, qx_15, qx_16, qx_17, qx_18, qx_19, qx_20, qx_21, qx_22, qx_23, qx_24, qx_25, qx_26, qt_1, qt_2, qt_3, qt_4, qt_5, qt_6, qt_7, qt_9, qt_10, qt_11, qt_12, qt_13, ql_1, ql_2, qa_1, qa_2, qb_1, qb_2, qo_1, qo_2, qc_1, qc_2, k_n, k_r, k_1, k_2, k_3, k_4, k_5, k_6, k_7, k_8, k_9, qs_1, add_i, sub_i, mul_i, div_i, mod_i, pow_i, eq_i, ne_i, eq_s, ne_s, eq_b, ne_b, lt_i, le_i, gt_i, ge_i, ret_v, ret_n, tru_b, vk_i, vk_s, vk_t, vk_n, vk_b, is_nn, is_in, is_sn, is_tn, is_rn, isn_nn, isn_tn, zn1, zn2, zn3, zn4, zn5, zn6, zn7, zn8, beq_self_eq_true, then_n, then_r, thenR_n, thenR_r, loop_n, loop_r, zl1, zl2, zl3, zl4, rng_1, rng_2, int_b, str_i, max_i, min_i, len_t, list_t, zl7, zl8, List.replicate, zl9, zl10, List.set, zl5, zl6, zo1, zo3, zo2, Nat.reduceSub, zl11, zl12, zn9, if_false, if_true, zn10, zn11, Bool.not_true, Bool.not_false, zn12, zn13, reduceCtorEq, zn15, zn14, zn18, zn16, zn17, forall_const, zb1, zb2, zb3, zb4, zb5, zb6, zb7, decide_true, decide_false, eq_self]
    refine in_d (g _ _ _ hb) ?_
    rw [hany]
    simp only [qx_1, qx_2, qx_3, qx_4, qx_5, qx_6, qx_7, qx_8, qx_9, qx_10, qx_11, qx_13, qx_15, qx_16, qx_17, qx_18, qx_19, qx_20, qx_21, qx_22, qx_23, qx_24, qx_25, qx_26, qt_1, qt_2, qt_3, qt_4, qt_5, qt_6, qt_7, qt_9, qt_10, qt_11, qt_12, qt_13, ql_1, ql_2, qa_1, qa_2, qb_1, qb_2, qo_1, qo_2, qc_1, qc_2, k_n, k_r, k_1, k_2, k_3, k_4, k_5, k_6, k_7, k_8, k_9, qs_1, add_i, sub_i, mul_i, div_i, mod_i, pow_i, eq_i, ne_i, eq_s, ne_s, eq_b, ne_b, lt_i, le_i, gt_i, ge_i, ret_v, ret_n, tru_b, vk_i, vk_s, vk_t, vk_n, vk_b, is_nn, is_in, is_sn, is_tn, is_rn, isn_nn, isn_tn, zn1, zn2, zn3, zn4, zn5, zn6, zn7, zn8, beq_self_eq_true, then_n, then_r, thenR_n, thenR_r, loop_n, loop_r, zl1, zl2, zl3, zl4, rng_1, rng_2, int_b, str_i, max_i, min_i, len_t, list_t, zl7, zl8, List.replicate, zl9, zl10, List.set, zl5, zl6, zo1, zo3, zo2, Nat.reduceSub, zl11, zl12, zn9, if_false, if_true, zn10, zn11, Bool.not_true, Bool.not_false, zn12, zn13, reduceCtorEq, zn15, zn14, zn18, zn16, zn17, forall_const, zb1, zb2, zb3, zb4, zb5, zb6, zb7, decide_true, decide_false, eq_self]
    refine getD (g _ _ _ ha) hv (getD (g _ _ _ hb) hv ?_)
    refine alike_plain hc 3 v (hV _ (keyAt_mem hv)) n _ ?_
    exact ⟨(fun q => nomatch q), fun _ => ⟨_, rfl, rfl⟩⟩
  · rintro ρ' H' ⟨x, rfl, rfl⟩
    simp only [qx_1, qx_2, qx_3, qx_4, qx_5, qx_6, qx_7, qx_8, qx_9, qx_10, qx_11, qx_13, qx_15, qx_16, qx_17, qx_18, qx_19, qx_20, qx_21, qx_22, qx_23, qx_24, qx_25, qx_26, qt_1, qt_2, qt_3, qt_4, qt_5, qt_6, qt_7, qt_9, qt_10, qt_11, qt_12, qt_13, ql_1, ql_2, qa_1, qa_2, qb_1, qb_2, qo_1, qo_2, qc_1, qc_2, k_n, k_r, k_1, k_2, k_3, k_4, k_5, k_6, k_7, k_8, k_9, qs_1, add_i, sub_i, mul_i, div_i, mod_i, pow_i, eq_i, ne_i, eq_s, ne_s, eq_b, ne_b, lt_i, le_i, gt_i, ge_i, ret_v, ret_n, tru_b, vk_i, vk_s, vk_t, vk_n, vk_b, is_nn, is_in, is_sn, is_tn, is_rn, isn_nn, isn_tn, zn1, zn2, zn3, zn4, zn5, zn6, zn7, zn8, beq_self_eq_true, then_n, then_r, thenR_n, thenR_r, loop_n, loop_r, zl1, zl2, zl3, zl4, rng_1, rng_2, int_b, str_i, max_i, min_i, len_t, list_t, zl7, zl8, List.replicate, zl9, zl10, List.set, zl5, zl6, zo1, zo3, zo2, Nat.reduceSub, zl11, zl12, zn9, if_false, if_true, zn10, zn11, Bool.not_true, Bool.not_false, zn12, zn13, reduceCtorEq, zn15, zn14, zn18, zn16, zn17, forall_const, zb1, zb2, zb3, zb4, zb5, zb6, zb7, decide_true, decide_false, eq_self]
    exact ⟨fun _ _ h => g _ _ _ h, hQ⟩

theorem same_state_ok (hc : Tab c) {s1 s2 e : AV} {F : List AV} {T : List (Int × AV)} {f1 t1 f2 t2 : Nat} {Q : AV → AH → Prop} (h1 : State H s1 e F T f1 t1) (h2 : State H s2 e F T f2 t2) (hQ : Q (.bool true) H) : CW c (n + 7) i_L_same_state [s1, s2] H Q := by
  refine CW.run (f := "_law_same_state") (ir := ir_L_same_state) (by rw [hc.fns]; rfl) rfl ?_
  obtain ⟨rfl, e1, ⟨o1, e2⟩, ⟨o2, e3⟩, e4, e5, e6⟩ := id h1
  obtain ⟨rfl, _, ⟨o3, k2⟩, ⟨o4, k3⟩, _, _, _⟩ := id h2
  simp only [qx_1, qx_2, qx_3, qx_4, qx_5, qx_6, qx_7, qx_8, qx_9, qx_10, qx_11, qx_13, qx_15, qx_16, qx_17, qx_18, qx_19, qx_20, qx_21, qx_22, qx_23, qx_24, qx_25, qx_26, qt_1, qt_2, qt_3, qt_4, qt_5, qt_6, qt_7, qt_9, qt_10, qt_11, qt_12, qt_13, ql_1, ql_2, qa_1, qa_2, qb_1, qb_2, qo_1, qo_2, qc_1, qc_2, k_n, k_r, k_1, k_2, k_3, k_4, k_5, k_6, k_7, k_8, k_9, qs_1, add_i, sub_i, mul_i, div_i, mod_i, pow_i, eq_i, ne_i, eq_s, ne_s, eq_b, ne_b, lt_i, le_i, gt_i, ge_i, ret_v, ret_n, tru_b, vk_i, vk_s, vk_t, vk_n, vk_b, is_nn, is_in, is_sn, is_tn, is_rn, isn_nn, isn_tn, zn1, zn2, zn3, zn4, zn5, zn6, zn7, zn8, beq_self_eq_true, then_n, then_r, thenR_n, thenR_r, loop_n, loop_r, zl1, zl2, zl3, zl4, rng_1, rng_2, int_b, str_i, max_i, min_i, len_t, list_t, zl7, zl8, List.replicate, zl9, zl10, List.set, zl5, zl6, zo1, zo3, zo2, Nat.reduceSub, zl11, zl12, zn9, if_false, if_true, zn10, zn11, Bool.not_true, Bool.not_false, zn12, zn13, reduceCtorEq, zn15, zn14, zn18, zn16, zn17, forall_const, zb1, zb2, zb3, zb4, zb5, zb6, zb7, decide_true, decide_false, eq_self, ir_L_same_state, s_L_same_state_0b0, s_L_same_state_0, s_L_same_state_1]
  refine ⟨by simp, fun _ => get1 (vkL e2 ?_), fun q => absurd rfl q⟩
  simp only [qx_1, qx_2, qx_3, qx_4, qx_5, qx_6, qx_7, qx_8, qx_9, qx_10, qx_11, qx_13, qx_15, qx_16, qx_17, qx_18, qx_19, qx_20, qx_21, qx_22, qx_23, qx_24, qx_25, qx_26, qt_1, qt_2, qt_3, qt_4, qt_5, qt_6, qt_7, qt_9, qt_10, qt_11, qt_12, qt_13, ql_1, ql_2, qa_1, qa_2, qb_1, qb_2, qo_1, qo_2, qc_1, qc_2, k_n, k_r, k_1, k_2, k_3, k_4, k_5, k_6, k_7, k_8, k_9, qs_1, add_i, sub_i, mul_i, div_i, mod_i, pow_i, eq_i, ne_i, eq_s, ne_s, eq_b, ne_b, lt_i, le_i, gt_i, ge_i, ret_v, ret_n, tru_b, vk_i, vk_s, vk_t, vk_n, vk_b, is_nn, is_in, is_sn, is_tn, is_rn, isn_nn, isn_tn, zn1, zn2, zn3, zn4, zn5, zn6, zn7, zn8, beq_self_eq_true, then_n, then_r, thenR_n, thenR_r, loop_n, loop_r, zl1, zl2, zl3, zl4, rng_1, rng_2, int_b, str_i, max_i, min_i, len_t, list_t, zl7, zl8, List.replicate, zl9, zl10, List.set, zl5, zl6, zo1, zo3, zo2, Nat.reduceSub, zl11, zl12, zn9, if_false, if_true, zn10, zn11, Bool.not_true, Bool.not_false, zn12, zn13, reduceCtorEq, zn15, zn14, zn18, zn16, zn17, forall_const, zb1, zb2, zb3, zb4, zb5, zb6, zb7, decide_true, decide_false, eq_self]
  refine get0 (get0 (alike_plain hc 3 e (plain_end e1) (n + 1) _ ?_))
  simp only [qx_1, qx_2, qx_3, qx_4, qx_5, qx_6, qx_7, qx_8, qx_9, qx_10, qx_11, qx_13, qx_15, qx_16, qx_17, qx_18, qx_19, qx_20, qx_21, qx_22, qx_23, qx_24, qx_25, qx_26, qt_1, qt_2, qt_3, qt_4, qt_5, qt_6, qt_7, qt_9, qt_10, qt_11, qt_12, qt_13, ql_1, ql_2, qa_1, qa_2, qb_1, qb_2, qo_1, qo_2, qc_1, qc_2, k_n, k_r, k_1, k_2, k_3, k_4, k_5, k_6, k_7, k_8, k_9, qs_1, add_i, sub_i, mul_i, div_i, mod_i, pow_i, eq_i, ne_i, eq_s, ne_s, eq_b, ne_b, lt_i, le_i, gt_i, ge_i, ret_v, ret_n, tru_b, vk_i, vk_s, vk_t, vk_n, vk_b, is_nn, is_in, is_sn, is_tn, is_rn, isn_nn, isn_tn, zn1, zn2, zn3, zn4, zn5, zn6, zn7, zn8, beq_self_eq_true, then_n, then_r, thenR_n, thenR_r, loop_n, loop_r, zl1, zl2, zl3, zl4, rng_1, rng_2, int_b, str_i, max_i, min_i, len_t, list_t, zl7, zl8, List.replicate, zl9, zl10, List.set, zl5, zl6, zo1, zo3, zo2, Nat.reduceSub, zl11, zl12, zn9, if_false, if_true, zn10, zn11, Bool.not_true, Bool.not_false, zn12, zn13, reduceCtorEq, zn15, zn14, zn18, zn16, zn17, forall_const, zb1, zb2, zb3, zb4, zb5, zb6, zb7, decide_true, decide_false, eq_self]
  refine get1 (get1 (alike_two hc (by have := e4.1; omega) (fun z hz Q hQ => alike_plain hc 3 z (plain_frame (e4.2 z hz)) n Q hQ) (.list e2 k2) ?_))
  simp only [qx_1, qx_2, qx_3, qx_4, qx_5, qx_6, qx_7, qx_8, qx_9, qx_10, qx_11, qx_13, qx_15, qx_16, qx_17, qx_18, qx_19, qx_20, qx_21, qx_22, qx_23, qx_24, qx_25, qx_26, qt_1, qt_2, qt_3, qt_4, qt_5, qt_6, qt_7, qt_9, qt_10, qt_11, qt_12, qt_13, ql_1, ql_2, qa_1, qa_2, qb_1, qb_2, qo_1, qo_2, qc_1, qc_2, k_n, k_r, k_1, k_2, k_3, k_4, k_5, k_6, k_7, k_8, k_9, qs_1, add_i, sub_i, mul_i, div_i, mod_i, pow_i, eq_i, ne_i, eq_s, ne_s, eq_b, ne_b, lt_i, le_i, gt_i, ge_i, ret_v, ret_n, tru_b, vk_i, vk_s, vk_t, vk_n, vk_b, is_nn, is_in, is_sn, is_tn, is_rn, isn_nn, isn_tn, zn1, zn2, zn3, zn4, zn5, zn6, zn7, zn8, beq_self_eq_true, then_n, then_r, thenR_n, thenR_r, loop_n, loop_r, zl1, zl2, zl3, zl4, rng_1, rng_2, int_b, str_i, max_i, min_i, len_t, list_t, zl7, zl8, List.replicate, zl9, zl10, List.set, zl5, zl6, zo1, zo3, zo2, Nat.reduceSub, zl11, zl12, zn9, if_false, if_true, zn10, zn11, Bool.not_true, Bool.not_false, zn12, zn13, reduceCtorEq, zn15, zn14, zn18, zn16, zn17, forall_const, zb1, zb2, zb3, zb4, zb5, zb6, zb7, decide_true, decide_false, eq_self]
  exact get2 (get2 (same_things_ok hc e3 k3 e5 (fun kv hkv => plain_thing (e6 kv hkv)) hQ))
end
end Mine

set_option maxRecDepth 100000
set_option autoImplicit false
set_option linter.unusedSimpArgs false
set_option linter.unusedVariables false
namespace Mine
open PySem PyProof.Rows

section
variable {c : Cx} {n : Nat} {H : AH}

/-! ## reading from behind, and cuts -/
theorem last_at {l : List AV} {x : AV} : (l ++ [x])[pyIdx (-1) (l ++ [x]).length]? = some x := by
  have : pyIdx (-1) (l ++ [x]).length = l.length := by unfold pyIdx; rw [if_pos (by first | decide | with_reducible first | assumption | exact zm0 (by decide) | exact zm1 (by decide) (by decide) | exact zm3 (by assumption) (by decide) | omega), List.length_append, List.length_singleton]; omega
  rw [this, List.getElem?_append_right (Nat.le_refl _)]; simp
theorem getM1 {a : Nat} {own : Bool} {l : List AV} {x : AV} {Q : AV → AH → Prop} (h : H a = some (.list own (l ++ [x]))) (hl : l.length ≤ 1000000) (hq : Q x H) : getW (.ref a) (.int (-1)) H Q :=
  .inl ⟨own, _, h, ⟨by simp; omega, by first | decide | with_reducible first | assumption | exact zm0 (by decide) | exact zm1 (by decide) (by decide) | exact zm3 (by assumption) (by decide) | omega, by simp; omega⟩, x, last_at, hq⟩
theorem getT1 {l : List AV} {x : AV} {Q : AV → AH → Prop} (hl : l.length ≤ 1000000) (hq : Q x H) : getW (.tup (l ++ [x])) (.int (-1)) H Q :=
  ⟨⟨by simp; omega, by first | decide | with_reducible first | assumption | exact zm0 (by decide) | exact zm1 (by decide) (by decide) | exact zm3 (by assumption) (by decide) | omega, by simp; omega⟩, x, last_at, hq⟩
theorem cut_take {l : List AV} {k : Int} (h0 : 0 ≤ k) (h : k ≤ l.length) : cut none (some k) l = l.take k.toNat := by
  obtain ⟨j, rfl⟩ := Int.eq_ofNat_of_zero_le h0
  unfold cut
  simp only [Option.elim, List.drop_zero, Nat.sub_zero, Int.toNat_natCast]
  rw [clipAt_nat, Nat.min_eq_left (by first | decide | with_reducible first | assumption | exact zm0 (by decide) | exact zm1 (by decide) (by decide) | exact zm3 (by assumption) (by decide) | omega)]
theorem cut_drop {l : List AV} {k : Nat} (h : k ≤ l.length) : cut (some (k : Int)) none l = l.drop k := by
  unfold cut
  simp only [Option.elim]
  rw [clipAt_nat, Nat.min_eq_left h, List.take_of_length_le (by rw [List.length_drop]; omega)]
theorem cut_m1 {l : List AV} {x : AV} : cut none (some (-1)) (l ++ [x]) = l := by
  unfold cut
  simp only [Option.elim, List.drop_zero, Nat.sub_zero]
  rw [show ((-1 : Int)) = -((1 : Nat) : Int) from rfl, clipAt_neg _ _ (Nat.le_refl _)]
  simp
theorem in_strs {w : Str} (L : List Str) {B : Bool → AH → Prop} (hw : PyData.strOk w = true) (hL : L.all PyData.strOk = true) (hq : B (decide (w ∈ L)) H) : cmpW .In (.str w) (.tup (L.map .str)) H B := by
  have dv : ∀ L : List Str, L.all PyData.strOk = true → DVs H (L.map .str) (L.map .str) := by
    intro L
    induction L with
    | nil => intro _; exact .nil
    | cons x L ih =>
      intro h
      rw [List.all_cons, Bool.and_eq_true] at h
      exact .cons (.str x h.1) (ih h.2)
  refine ⟨.str w, L.map .str, .str w hw, dv L hL, by simp [PyData.depth], ?_⟩
  have e : ((L.map PyData.str).any fun y => PyData.eqv y (.str w)) = decide (w ∈ L) := by
    rw [Bool.eq_iff_iff, List.any_eq_true, decide_eq_true_eq]
    constructor
    · rintro ⟨y, hy, h⟩
      obtain ⟨x, hx, rfl⟩ := List.mem_map.mp hy
      simp only [PyData.eqv, beq_iff_eq] at h
      exact h ▸ hx
    · intro h
      exact ⟨.str w, List.mem_map.mpr ⟨w, h, rfl⟩, by simp [PyData.eqv]⟩
  rw [e]; exact hq

theorem getT2 {l : List AV} {x y : AV} {Q : AV → AH → Prop} (hl : l.length ≤ 1000000) (hq : Q x H) : getW (.tup (l ++ [x, y])) (.int (-2)) H Q := by
  refine ⟨⟨by simp; omega, by first | decide | with_reducible first | assumption | exact zm0 (by decide) | exact zm1 (by decide) (by decide) | exact zm3 (by assumption) (by decide) | omega, by simp; omega⟩, x, ?_, hq⟩
  have : pyIdx (-2) (l ++ [x, y]).length = l.length := by unfold pyIdx; rw [if_pos (by first | decide | with_reducible first | assumption | exact zm0 (by decide) | exact zm1 (by decide) (by decide) | exact zm3 (by assumption) (by decide) | omega), List.length_append]; simp only [List.length_cons, List.length_nil]; omega
  rw [this, List.getElem?_append_right (Nat.le_refl _)]; simp
theorem getT1' {l : List AV} {x y : AV} {Q : AV → AH → Prop} (hl : l.length ≤ 1000) (hq : Q y H) : getW (.tup (l ++ [x, y])) (.int (-1)) H Q := by
  have := getT1 (H := H) (Q := Q) (l := l ++ [x]) (x := y) (by rw [List.length_append, List.length_singleton]; omega) hq
  rwa [List.append_assoc] at this
theorem cut_m2 {l : List AV} {x y : AV} : cut none (some (-2)) (l ++ [x, y]) = l := by
  unfold cut
  simp only [Option.elim, List.drop_zero, Nat.sub_zero]
  rw [show ((-2 : Int)) = -((2 : Nat) : Int) from rfl, clipAt_neg _ _ (by decide)]
  simp

/-! ## the words of this law -/
noncomputable def W3 : List Str := ["box", "open", "fill"]
theorem no_in {w : Str} (h : w ∈ W3) (L : List Str) (hL : (W3.all fun x => !L.contains x) = true) : decide (w ∈ L) = false := by
  have := List.all_eq_true.mp hL w h
  simpa using this
theorem no_eq {w : Str} (h : w ∈ W3) (x : Str) (hx : W3.contains x = false) : ¬ w = x := fun e => by
  subst e; rw [List.contains_iff_mem.mpr h] at hx; cases hx
theorem ok3 {w : Str} (h : w ∈ W3) : PyData.strOk w = true := List.all_eq_true.mp (show W3.all PyData.strOk = true by decide +kernel) w h
theorem row0 {w : Str} {Q : AV → AH → Prop} (hq : Q (.str w) H) : getW (.tup [.str w]) (.int 0) H Q := ⟨⟨by simp, by simp, by simp⟩, _, rfl, hq⟩

noncomputable def isAt : AV → Bool
  | .tup _ => true
  | _ => false
theorem is_at_ok (hc : Tab c) {N : List Int} {v : AV} {Q : AV → AH → Prop} (hv : IsVal N v) (hQ : Q (.bool (isAt v)) H) : CW c (n + 1) i_P_is_at [v] H Q := by
  refine CW.run (f := "is_at") (ir := ir_P_is_at) (by rw [hc.fns]; rfl) rfl ?_
  rcases hv with ⟨i, rfl, _⟩ | ⟨x, _, rfl⟩
  · simp only [qx_1, qx_2, qx_3, qx_4, qx_5, qx_6, qx_7, qx_8, qx_9, qx_10, qx_11, qx_13, qx_15, qx_16, qx_17, qx_18, qx_19, qx_20, qx_21, qx_22, qx_23, qx_24, qx_25, qx_26, qt_1, qt_2, qt_3, qt_4, qt_5, qt_6, qt_7, qt_9, qt_10, qt_11, qt_12, qt_13, ql_1, ql_2, qa_1, qa_2, qb_1, qb_2, qo_1, qo_2, qc_1, qc_2, k_n, k_r, k_1, k_2, k_3, k_4, k_5, k_6, k_7, k_8, k_9, qs_1, add_i, sub_i, mul_i, div_i, mod_i, pow_i, eq_i, ne_i, eq_s, ne_s, eq_b, ne_b, lt_i, le_i, gt_i, ge_i, ret_v, ret_n, tru_b, vk_i, vk_s, vk_t, vk_n, vk_b, is_nn, is_in, is_sn, is_tn, is_rn, isn_nn, isn_tn, zn1, zn2, zn3, zn4, zn5, zn6, zn7, zn8, beq_self_eq_true, then_n, then_r, thenR_n, thenR_r, loop_n, loop_r, zl1, zl2, zl3, zl4, rng_1, rng_2, int_b, str_i, max_i, min_i, len_t, list_t, zl7, zl8, List.replicate, zl9, zl10, List.set, zl5, zl6, zo1, zo3, zo2, Nat.reduceSub, zl11, zl12, zn9, if_false, if_true, zn10, zn11, Bool.not_true, Bool.not_false, zn12, zn13, reduceCtorEq, zn15, zn14, zn18, zn16, zn17, forall_const, zb1, zb2, zb3, zb4, zb5, zb6, zb7, decide_true, decide_false, eq_self, ir_P_is_at, s_P_is_at_0]
    exact hQ
  · simp only [qx_1, qx_2, qx_3, qx_4, qx_5, qx_6, qx_7, qx_8, qx_9, qx_10, qx_11, qx_13, qx_15, qx_16, qx_17, qx_18, qx_19, qx_20, qx_21, qx_22, qx_23, qx_24, qx_25, qx_26, qt_1, qt_2, qt_3, qt_4, qt_5, qt_6, qt_7, qt_9, qt_10, qt_11, qt_12, qt_13, ql_1, ql_2, qa_1, qa_2, qb_1, qb_2, qo_1, qo_2, qc_1, qc_2, k_n, k_r, k_1, k_2, k_3, k_4, k_5, k_6, k_7, k_8, k_9, qs_1, add_i, sub_i, mul_i, div_i, mod_i, pow_i, eq_i, ne_i, eq_s, ne_s, eq_b, ne_b, lt_i, le_i, gt_i, ge_i, ret_v, ret_n, tru_b, vk_i, vk_s, vk_t, vk_n, vk_b, is_nn, is_in, is_sn, is_tn, is_rn, isn_nn, isn_tn, zn1, zn2, zn3, zn4, zn5, zn6, zn7, zn8, beq_self_eq_true, then_n, then_r, thenR_n, thenR_r, loop_n, loop_r, zl1, zl2, zl3, zl4, rng_1, rng_2, int_b, str_i, max_i, min_i, len_t, list_t, zl7, zl8, List.replicate, zl9, zl10, List.set, zl5, zl6, zo1, zo3, zo2, Nat.reduceSub, zl11, zl12, zn9, if_false, if_true, zn10, zn11, Bool.not_true, Bool.not_false, zn12, zn13, reduceCtorEq, zn15, zn14, zn18, zn16, zn17, forall_const, zb1, zb2, zb3, zb4, zb5, zb6, zb7, decide_true, decide_false, eq_self, ir_P_is_at, s_P_is_at_0]
    exact hQ
noncomputable def boxAt (T : List (Int × AV)) (x : Int) : Bool := match keyAt T x with
  | some (.tup (.str k :: _)) => decide (k = "box")
  | _ => false
noncomputable def isBox (T : List (Int × AV)) : AV → Bool
  | .tup [_, .int x] => boxAt T x
  | _ => false
theorem is_kind_ok (hc : Tab c) {t : Nat} {own : Bool} {T : List (Int × AV)} {v : AV} {Q : AV → AH → Prop} (ht : H t = some (.dict own T)) (hV : ∀ kv ∈ T, IsThing (keys T) kv.2) (hv : IsVal (keys T) v)
    (hQ : Q (.bool (isBox T v)) H) : CW c (n + 2) i_P_is_kind [v, .ref t, .str "box"] H Q := by
  refine CW.run (f := "is_kind") (ir := ir_P_is_kind) (by rw [hc.fns]; rfl) rfl ?_
  simp only [qx_1, qx_2, qx_3, qx_4, qx_5, qx_6, qx_7, qx_8, qx_9, qx_10, qx_11, qx_13, qx_15, qx_16, qx_17, qx_18, qx_19, qx_20, qx_21, qx_22, qx_23, qx_24, qx_25, qx_26, qt_1, qt_2, qt_3, qt_4, qt_5, qt_6, qt_7, qt_9, qt_10, qt_11, qt_12, qt_13, ql_1, ql_2, qa_1, qa_2, qb_1, qb_2, qo_1, qo_2, qc_1, qc_2, k_n, k_r, k_1, k_2, k_3, k_4, k_5, k_6, k_7, k_8, k_9, qs_1, add_i, sub_i, mul_i, div_i, mod_i, pow_i, eq_i, ne_i, eq_s, ne_s, eq_b, ne_b, lt_i, le_i, gt_i, ge_i, ret_v, ret_n, tru_b, vk_i, vk_s, vk_t, vk_n, vk_b, is_nn, is_in, is_sn, is_tn, is_rn, isn_nn, isn_tn, zn1, zn2, zn3, zn4, zn5, zn6, zn7, zn8, beq_self_eq_true, then_n, then_r, thenR_n, thenR_r, loop_n, loop_r, zl1, zl2, zl3, zl4, rng_1, rng_2, int_b, str_i, max_i, min_i, len_t, list_t, zl7, zl8, List.replicate, zl9, zl10, List.set, zl5, zl6, zo1, zo3, zo2, Nat.reduceSub, zl11, zl12, zn9, if_false, if_true, zn10, zn11, Bool.not_true, Bool.not_false, zn12, zn13, reduceCtorEq, zn15, zn14, zn18, zn16, zn17, forall_const, zb1, zb2, zb3, zb4, zb5, zb6, zb7, decide_true, decide_false, eq_self, ir_P_is_kind, s_P_is_kind_0]
  refine is_at_ok hc hv ?_
  rcases hv with ⟨i, rfl, _⟩ | ⟨x, hx, rfl⟩
  · simp only [qx_1, qx_2, qx_3, qx_4, qx_5, qx_6, qx_7, qx_8, qx_9, qx_10, qx_11, qx_13, qx_15, qx_16, qx_17, qx_18, qx_19, qx_20, qx_21, qx_22, qx_23, qx_24, qx_25, qx_26, qt_1, qt_2, qt_3, qt_4, qt_5, qt_6, qt_7, qt_9, qt_10, qt_11, qt_12, qt_13, ql_1, ql_2, qa_1, qa_2, qb_1, qb_2, qo_1, qo_2, qc_1, qc_2, k_n, k_r, k_1, k_2, k_3, k_4, k_5, k_6, k_7, k_8, k_9, qs_1, add_i, sub_i, mul_i, div_i, mod_i, pow_i, eq_i, ne_i, eq_s, ne_s, eq_b, ne_b, lt_i, le_i, gt_i, ge_i, ret_v, ret_n, tru_b, vk_i, vk_s, vk_t, vk_n, vk_b, is_nn, is_in, is_sn, is_tn, is_rn, isn_nn, isn_tn, zn1, zn2, zn3, zn4, zn5, zn6, zn7, zn8, beq_self_eq_true, then_n, then_r, thenR_n, thenR_r, loop_n, loop_r, zl1, zl2, zl3, zl4, rng_1, rng_2, int_b, str_i, max_i, min_i, len_t, list_t, zl7, zl8, List.replicate, zl9, zl10, List.set, zl5, zl6, zo1, zo3, zo2, Nat.reduceSub, zl11, zl12, zn9, if_false, if_true, zn10, zn11, Bool.not_true, Bool.not_false, zn12, zn13, reduceCtorEq, zn15, zn14, zn18, zn16, zn17, forall_const, zb1, zb2, zb3, zb4, zb5, zb6, zb7, decide_true, decide_false, eq_self, isAt]
    exact hQ
  · obtain ⟨v, hv⟩ := keyAt_key hx
    simp only [qx_1, qx_2, qx_3, qx_4, qx_5, qx_6, qx_7, qx_8, qx_9, qx_10, qx_11, qx_13, qx_15, qx_16, qx_17, qx_18, qx_19, qx_20, qx_21, qx_22, qx_23, qx_24, qx_25, qx_26, qt_1, qt_2, qt_3, qt_4, qt_5, qt_6, qt_7, qt_9, qt_10, qt_11, qt_12, qt_13, ql_1, ql_2, qa_1, qa_2, qb_1, qb_2, qo_1, qo_2, qc_1, qc_2, k_n, k_r, k_1, k_2, k_3, k_4, k_5, k_6, k_7, k_8, k_9, qs_1, add_i, sub_i, mul_i, div_i, mod_i, pow_i, eq_i, ne_i, eq_s, ne_s, eq_b, ne_b, lt_i, le_i, gt_i, ge_i, ret_v, ret_n, tru_b, vk_i, vk_s, vk_t, vk_n, vk_b, is_nn, is_in, is_sn, is_tn, is_rn, isn_nn, isn_tn, zn1, zn2, zn3, zn4, zn5, zn6, zn7, zn8, beq_self_eq_true, then_n, then_r, thenR_n, thenR_r, loop_n, loop_r, zl1, zl2, zl3, zl4, rng_1, rng_2, int_b, str_i, max_i, min_i, len_t, list_t, zl7, zl8, List.replicate, zl9, zl10, List.set, zl5, zl6, zo1, zo3, zo2, Nat.reduceSub, zl11, zl12, zn9, if_false, if_true, zn10, zn11, Bool.not_true, Bool.not_false, zn12, zn13, reduceCtorEq, zn15, zn14, zn18, zn16, zn17, forall_const, zb1, zb2, zb3, zb4, zb5, zb6, zb7, decide_true, decide_false, eq_self, g20, g21, g30, g31, g32, g40, g41, g42, g43, isAt]
    refine getD ht hv ?_
    have e : isBox T (.tup [.str "at", .int x]) = boxAt T x := rfl
    rw [e] at hQ
    unfold boxAt at hQ
    rw [hv] at hQ
    rcases hV _ (keyAt_mem hv) with ⟨y, e, _⟩ | ⟨j, l, e, _⟩
    · cases e
      simp only [qx_1, qx_2, qx_3, qx_4, qx_5, qx_6, qx_7, qx_8, qx_9, qx_10, qx_11, qx_13, qx_15, qx_16, qx_17, qx_18, qx_19, qx_20, qx_21, qx_22, qx_23, qx_24, qx_25, qx_26, qt_1, qt_2, qt_3, qt_4, qt_5, qt_6, qt_7, qt_9, qt_10, qt_11, qt_12, qt_13, ql_1, ql_2, qa_1, qa_2, qb_1, qb_2, qo_1, qo_2, qc_1, qc_2, k_n, k_r, k_1, k_2, k_3, k_4, k_5, k_6, k_7, k_8, k_9, qs_1, add_i, sub_i, mul_i, div_i, mod_i, pow_i, eq_i, ne_i, eq_s, ne_s, eq_b, ne_b, lt_i, le_i, gt_i, ge_i, ret_v, ret_n, tru_b, vk_i, vk_s, vk_t, vk_n, vk_b, is_nn, is_in, is_sn, is_tn, is_rn, isn_nn, isn_tn, zn1, zn2, zn3, zn4, zn5, zn6, zn7, zn8, beq_self_eq_true, then_n, then_r, thenR_n, thenR_r, loop_n, loop_r, zl1, zl2, zl3, zl4, rng_1, rng_2, int_b, str_i, max_i, min_i, len_t, list_t, zl7, zl8, List.replicate, zl9, zl10, List.set, zl5, zl6, zo1, zo3, zo2, Nat.reduceSub, zl11, zl12, zn9, if_false, if_true, zn10, zn11, Bool.not_true, Bool.not_false, zn12, zn13, reduceCtorEq, zn15, zn14, zn18, zn16, zn17, forall_const, zb1, zb2, zb3, zb4, zb5, zb6, zb7, decide_true, decide_false, eq_self, g20, g21, g30, g31, g32, g40, g41, g42, g43]
      exact hQ
    · cases e
      simp only [qx_1, qx_2, qx_3, qx_4, qx_5, qx_6, qx_7, qx_8, qx_9, qx_10, qx_11, qx_13, qx_15, qx_16, qx_17, qx_18, qx_19, qx_20, qx_21, qx_22, qx_23, qx_24, qx_25, qx_26, qt_1, qt_2, qt_3, qt_4, qt_5, qt_6, qt_7, qt_9, qt_10, qt_11, qt_12, qt_13, ql_1, ql_2, qa_1, qa_2, qb_1, qb_2, qo_1, qo_2, qc_1, qc_2, k_n, k_r, k_1, k_2, k_3, k_4, k_5, k_6, k_7, k_8, k_9, qs_1, add_i, sub_i, mul_i, div_i, mod_i, pow_i, eq_i, ne_i, eq_s, ne_s, eq_b, ne_b, lt_i, le_i, gt_i, ge_i, ret_v, ret_n, tru_b, vk_i, vk_s, vk_t, vk_n, vk_b, is_nn, is_in, is_sn, is_tn, is_rn, isn_nn, isn_tn, zn1, zn2, zn3, zn4, zn5, zn6, zn7, zn8, beq_self_eq_true, then_n, then_r, thenR_n, thenR_r, loop_n, loop_r, zl1, zl2, zl3, zl4, rng_1, rng_2, int_b, str_i, max_i, min_i, len_t, list_t, zl7, zl8, List.replicate, zl9, zl10, List.set, zl5, zl6, zo1, zo3, zo2, Nat.reduceSub, zl11, zl12, zn9, if_false, if_true, zn10, zn11, Bool.not_true, Bool.not_false, zn12, zn13, reduceCtorEq, zn15, zn14, zn18, zn16, zn17, forall_const, zb1, zb2, zb3, zb4, zb5, zb6, zb7, decide_true, decide_false, eq_self, g20, g21, g30, g31, g32, g40, g41, g42, g43]
      exact hQ
theorem is_box_ok (hc : Tab c) {t : Nat} {own : Bool} {T : List (Int × AV)} {v : AV} {Q : AV → AH → Prop} (ht : H t = some (.dict own T)) (hV : ∀ kv ∈ T, IsThing (keys T) kv.2) (hv : IsVal (keys T) v)
    (hQ : Q (.bool (isBox T v)) H) : CW c (n + 1) i_L_is_box [v, .ref t] H Q := by
  refine CW.run (f := "_law_is_box") (ir := ir_L_is_box) (by rw [hc.fns]; rfl) rfl ?_
  rcases hv with ⟨i, rfl, _⟩ | ⟨x, hx, rfl⟩
  · simp only [qx_1, qx_2, qx_3, qx_4, qx_5, qx_6, qx_7, qx_8, qx_9, qx_10, qx_11, qx_13, qx_15, qx_16, qx_17, qx_18, qx_19, qx_20, qx_21, qx_22, qx_23, qx_24, qx_25, qx_26, qt_1, qt_2, qt_3, qt_4, qt_5, qt_6, qt_7, qt_9, qt_10, qt_11, qt_12, qt_13, ql_1, ql_2, qa_1, qa_2, qb_1, qb_2, qo_1, qo_2, qc_1, qc_2, k_n, k_r, k_1, k_2, k_3, k_4, k_5, k_6, k_7, k_8, k_9, qs_1, add_i, sub_i, mul_i, div_i, mod_i, pow_i, eq_i, ne_i, eq_s, ne_s, eq_b, ne_b, lt_i, le_i, gt_i, ge_i, ret_v, ret_n, tru_b, vk_i, vk_s, vk_t, vk_n, vk_b, is_nn, is_in, is_sn, is_tn, is_rn, isn_nn, isn_tn, zn1, zn2, zn3, zn4, zn5, zn6, zn7, zn8, beq_self_eq_true, then_n, then_r, thenR_n, thenR_r, loop_n, loop_r, zl1, zl2, zl3, zl4, rng_1, rng_2, int_b, str_i, max_i, min_i, len_t, list_t, zl7, zl8, List.replicate, zl9, zl10, List.set, zl5, zl6, zo1, zo3, zo2, Nat.reduceSub, zl11, zl12, zn9, if_false, if_true, zn10, zn11, Bool.not_true, Bool.not_false, zn12, zn13, reduceCtorEq, zn15, zn14, zn18, zn16, zn17, forall_const, zb1, zb2, zb3, zb4, zb5, zb6, zb7, decide_true, decide_false, eq_self, ir_L_is_box, s_L_is_box_0]
    exact hQ
  · obtain ⟨v, hv⟩ := keyAt_key hx
    simp only [qx_1, qx_2, qx_3, qx_4, qx_5, qx_6, qx_7, qx_8, qx_9, qx_10, qx_11, qx_13, qx_15, qx_16, qx_17, qx_18, qx_19, qx_20, qx_21, qx_22, qx_23, qx_24, qx_25, qx_26, qt_1, qt_2, qt_3, qt_4, qt_5, qt_6, qt_7, qt_9, qt_10, qt_11, qt_12, qt_13, ql_1, ql_2, qa_1, qa_2, qb_1, qb_2, qo_1, qo_2, qc_1, qc_2, k_n, k_r, k_1, k_2, k_3, k_4, k_5, k_6, k_7, k_8, k_9, qs_1, add_i, sub_i, mul_i, div_i, mod_i, pow_i, eq_i, ne_i, eq_s, ne_s, eq_b, ne_b, lt_i, le_i, gt_i, ge_i, ret_v, ret_n, tru_b, vk_i, vk_s, vk_t, vk_n, vk_b, is_nn, is_in, is_sn, is_tn, is_rn, isn_nn, isn_tn, zn1, zn2, zn3, zn4, zn5, zn6, zn7, zn8, beq_self_eq_true, then_n, then_r, thenR_n, thenR_r, loop_n, loop_r, zl1, zl2, zl3, zl4, rng_1, rng_2, int_b, str_i, max_i, min_i, len_t, list_t, zl7, zl8, List.replicate, zl9, zl10, List.set, zl5, zl6, zo1, zo3, zo2, Nat.reduceSub, zl11, zl12, zn9, if_false, if_true, zn10, zn11, Bool.not_true, Bool.not_false, zn12, zn13, reduceCtorEq, zn15, zn14, zn18, zn16, zn17, forall_const, zb1, zb2, zb3, zb4, zb5, zb6, zb7, decide_true, decide_false, eq_self, g20, g21, g30, g31, g32, g40, g41, g42, g43, ir_L_is_box, s_L_is_box_0]
    refine getD ht hv ?_
    have e : isBox T (.tup [.str "at", .int x]) = boxAt T x := rfl
    rw [e] at hQ
    unfold boxAt at hQ
    rw [hv] at hQ
    rcases hV _ (keyAt_mem hv) with ⟨y, e, _⟩ | ⟨j, l, e, _⟩
    · cases e
      simp only [qx_1, qx_2, qx_3, qx_4, qx_5, qx_6, qx_7, qx_8, qx_9, qx_10, qx_11, qx_13, qx_15, qx_16, qx_17, qx_18, qx_19, qx_20, qx_21, qx_22, qx_23, qx_24, qx_25, qx_26, qt_1, qt_2, qt_3, qt_4, qt_5, qt_6, qt_7, qt_9, qt_10, qt_11, qt_12, qt_13, ql_1, ql_2, qa_1, qa_2, qb_1, qb_2, qo_1, qo_2, qc_1, qc_2, k_n, k_r, k_1, k_2, k_3, k_4, k_5, k_6, k_7, k_8, k_9, qs_1, add_i, sub_i, mul_i, div_i, mod_i, pow_i, eq_i, ne_i, eq_s, ne_s, eq_b, ne_b, lt_i, le_i, gt_i, ge_i, ret_v, ret_n, tru_b, vk_i, vk_s, vk_t, vk_n, vk_b, is_nn, is_in, is_sn, is_tn, is_rn, isn_nn, isn_tn, zn1, zn2, zn3, zn4, zn5, zn6, zn7, zn8, beq_self_eq_true, then_n, then_r, thenR_n, thenR_r, loop_n, loop_r, zl1, zl2, zl3, zl4, rng_1, rng_2, int_b, str_i, max_i, min_i, len_t, list_t, zl7, zl8, List.replicate, zl9, zl10, List.set, zl5, zl6, zo1, zo3, zo2, Nat.reduceSub, zl11, zl12, zn9, if_false, if_true, zn10, zn11, Bool.not_true, Bool.not_false, zn12, zn13, reduceCtorEq, zn15, zn14, zn18, zn16, zn17, forall_const, zb1, zb2, zb3, zb4, zb5, zb6, zb7, decide_true, decide_false, eq_self, g20, g21, g30, g31, g32, g40, g41, g42, g43]
      exact hQ
    · cases e
      simp only [qx_1, qx_2, qx_3, qx_4, qx_5, qx_6, qx_7, qx_8, qx_9, qx_10, qx_11, qx_13, qx_15, qx_16, qx_17, qx_18, qx_19, qx_20, qx_21, qx_22, qx_23, qx_24, qx_25, qx_26, qt_1, qt_2, qt_3, qt_4, qt_5, qt_6, qt_7, qt_9, qt_10, qt_11, qt_12, qt_13, ql_1, ql_2, qa_1, qa_2, qb_1, qb_2, qo_1, qo_2, qc_1, qc_2, k_n, k_r, k_1, k_2, k_3, k_4, k_5, k_6, k_7, k_8, k_9, qs_1, add_i, sub_i, mul_i, div_i, mod_i, pow_i, eq_i, ne_i, eq_s, ne_s, eq_b, ne_b, lt_i, le_i, gt_i, ge_i, ret_v, ret_n, tru_b, vk_i, vk_s, vk_t, vk_n, vk_b, is_nn, is_in, is_sn, is_tn, is_rn, isn_nn, isn_tn, zn1, zn2, zn3, zn4, zn5, zn6, zn7, zn8, beq_self_eq_true, then_n, then_r, thenR_n, thenR_r, loop_n, loop_r, zl1, zl2, zl3, zl4, rng_1, rng_2, int_b, str_i, max_i, min_i, len_t, list_t, zl7, zl8, List.replicate, zl9, zl10, List.set, zl5, zl6, zo1, zo3, zo2, Nat.reduceSub, zl11, zl12, zn9, if_false, if_true, zn10, zn11, Bool.not_true, Bool.not_false, zn12, zn13, reduceCtorEq, zn15, zn14, zn18, zn16, zn17, forall_const, zb1, zb2, zb3, zb4, zb5, zb6, zb7, decide_true, decide_false, eq_self, g20, g21, g30, g31, g32, g40, g41, g42, g43]
      exact hQ

theorem lacks_own_ok (hc : Tab c) {w : Str} {o : AV} {Q : AV → AH → Prop} (hw : w ∈ W3) (hQ : Q (.bool false) H) : CW c (n + 1) i_P_lacks_own [.tup [.str w], o] H Q := by
  refine CW.run (f := "lacks_own") (ir := ir_P_lacks_own) (by rw [hc.fns]; rfl) rfl ?_
  simp only [qx_1, qx_2, qx_3, qx_4, qx_5, qx_6, qx_7, qx_8, qx_9, qx_10, qx_11, qx_13, qx_15, qx_16, qx_17, qx_18, qx_19, qx_20, qx_21, qx_22, qx_23, qx_24, qx_25, qx_26, qt_1, qt_2, qt_3, qt_4, qt_5, qt_6, qt_7, qt_9, qt_10, qt_11, qt_12, qt_13, ql_1, ql_2, qa_1, qa_2, qb_1, qb_2, qo_1, qo_2, qc_1, qc_2, k_n, k_r, k_1, k_2, k_3, k_4, k_5, k_6, k_7, k_8, k_9, qs_1, add_i, sub_i, mul_i, div_i, mod_i, pow_i, eq_i, ne_i, eq_s, ne_s, eq_b, ne_b, lt_i, le_i, gt_i, ge_i, ret_v, ret_n, tru_b, vk_i, vk_s, vk_t, vk_n, vk_b, is_nn, is_in, is_sn, is_tn, is_rn, isn_nn, isn_tn, zn1, zn2, zn3, zn4, zn5, zn6, zn7, zn8, beq_self_eq_true, then_n, then_r, thenR_n, thenR_r, loop_n, loop_r, zl1, zl2, zl3, zl4, rng_1, rng_2, int_b, str_i, max_i, min_i, len_t, list_t, zl7, zl8, List.replicate, zl9, zl10, List.set, zl5, zl6, zo1, zo3, zo2, Nat.reduceSub, zl11, zl12, zn9, if_false, if_true, zn10, zn11, Bool.not_true, Bool.not_false, zn12, zn13, reduceCtorEq, zn15, zn14, zn18, zn16, zn17, forall_const, zb1, zb2, zb3, zb4, zb5, zb6, zb7, decide_true, decide_false, eq_self, ir_P_lacks_own, s_P_lacks_own_0]
  refine row0 ?_
  simp only [qx_1, qx_2, qx_3, qx_4, qx_5, qx_6, qx_7, qx_8, qx_9, qx_10, qx_11, qx_13, qx_15, qx_16, qx_17, qx_18, qx_19, qx_20, qx_21, qx_22, qx_23, qx_24, qx_25, qx_26, qt_1, qt_2, qt_3, qt_4, qt_5, qt_6, qt_7, qt_9, qt_10, qt_11, qt_12, qt_13, ql_1, ql_2, qa_1, qa_2, qb_1, qb_2, qo_1, qo_2, qc_1, qc_2, k_n, k_r, k_1, k_2, k_3, k_4, k_5, k_6, k_7, k_8, k_9, qs_1, add_i, sub_i, mul_i, div_i, mod_i, pow_i, eq_i, ne_i, eq_s, ne_s, eq_b, ne_b, lt_i, le_i, gt_i, ge_i, ret_v, ret_n, tru_b, vk_i, vk_s, vk_t, vk_n, vk_b, is_nn, is_in, is_sn, is_tn, is_rn, isn_nn, isn_tn, zn1, zn2, zn3, zn4, zn5, zn6, zn7, zn8, beq_self_eq_true, then_n, then_r, thenR_n, thenR_r, loop_n, loop_r, zl1, zl2, zl3, zl4, rng_1, rng_2, int_b, str_i, max_i, min_i, len_t, list_t, zl7, zl8, List.replicate, zl9, zl10, List.set, zl5, zl6, zo1, zo3, zo2, Nat.reduceSub, zl11, zl12, zn9, if_false, if_true, zn10, zn11, Bool.not_true, Bool.not_false, zn12, zn13, reduceCtorEq, zn15, zn14, zn18, zn16, zn17, forall_const, zb1, zb2, zb3, zb4, zb5, zb6, zb7, decide_true, decide_false, eq_self]
  refine ⟨fun e => absurd e (no_eq hw _ (by decide)), fun _ => ?_⟩
  simp only [qx_1, qx_2, qx_3, qx_4, qx_5, qx_6, qx_7, qx_8, qx_9, qx_10, qx_11, qx_13, qx_15, qx_16, qx_17, qx_18, qx_19, qx_20, qx_21, qx_22, qx_23, qx_24, qx_25, qx_26, qt_1, qt_2, qt_3, qt_4, qt_5, qt_6, qt_7, qt_9, qt_10, qt_11, qt_12, qt_13, ql_1, ql_2, qa_1, qa_2, qb_1, qb_2, qo_1, qo_2, qc_1, qc_2, k_n, k_r, k_1, k_2, k_3, k_4, k_5, k_6, k_7, k_8, k_9, qs_1, add_i, sub_i, mul_i, div_i, mod_i, pow_i, eq_i, ne_i, eq_s, ne_s, eq_b, ne_b, lt_i, le_i, gt_i, ge_i, ret_v, ret_n, tru_b, vk_i, vk_s, vk_t, vk_n, vk_b, is_nn, is_in, is_sn, is_tn, is_rn, isn_nn, isn_tn, zn1, zn2, zn3, zn4, zn5, zn6, zn7, zn8, beq_self_eq_true, then_n, then_r, thenR_n, thenR_r, loop_n, loop_r, zl1, zl2, zl3, zl4, rng_1, rng_2, int_b, str_i, max_i, min_i, len_t, list_t, zl7, zl8, List.replicate, zl9, zl10, List.set, zl5, zl6, zo1, zo3, zo2, Nat.reduceSub, zl11, zl12, zn9, if_false, if_true, zn10, zn11, Bool.not_true, Bool.not_false, zn12, zn13, reduceCtorEq, zn15, zn14, zn18, zn16, zn17, forall_const, zb1, zb2, zb3, zb4, zb5, zb6, zb7, decide_true, decide_false, eq_self, s_P_lacks_own_1]
  refine row0 ?_
  simp only [qx_1, qx_2, qx_3, qx_4, qx_5, qx_6, qx_7, qx_8, qx_9, qx_10, qx_11, qx_13, qx_15, qx_16, qx_17, qx_18, qx_19, qx_20, qx_21, qx_22, qx_23, qx_24, qx_25, qx_26, qt_1, qt_2, qt_3, qt_4, qt_5, qt_6, qt_7, qt_9, qt_10, qt_11, qt_12, qt_13, ql_1, ql_2, qa_1, qa_2, qb_1, qb_2, qo_1, qo_2, qc_1, qc_2, k_n, k_r, k_1, k_2, k_3, k_4, k_5, k_6, k_7, k_8, k_9, qs_1, add_i, sub_i, mul_i, div_i, mod_i, pow_i, eq_i, ne_i, eq_s, ne_s, eq_b, ne_b, lt_i, le_i, gt_i, ge_i, ret_v, ret_n, tru_b, vk_i, vk_s, vk_t, vk_n, vk_b, is_nn, is_in, is_sn, is_tn, is_rn, isn_nn, isn_tn, zn1, zn2, zn3, zn4, zn5, zn6, zn7, zn8, beq_self_eq_true, then_n, then_r, thenR_n, thenR_r, loop_n, loop_r, zl1, zl2, zl3, zl4, rng_1, rng_2, int_b, str_i, max_i, min_i, len_t, list_t, zl7, zl8, List.replicate, zl9, zl10, List.set, zl5, zl6, zo1, zo3, zo2, Nat.reduceSub, zl11, zl12, zn9, if_false, if_true, zn10, zn11, Bool.not_true, Bool.not_false, zn12, zn13, reduceCtorEq, zn15, zn14, zn18, zn16, zn17, forall_const, zb1, zb2, zb3, zb4, zb5, zb6, zb7, decide_true, decide_false, eq_self]
  refine ⟨fun e => absurd e (no_eq hw _ (by decide)), fun q => ?_⟩
  rw [decide_eq_false q]; exact hQ
theorem is_great_ok (hc : Tab c) {w : Str} {s : AV} {Q : AV → AH → Prop} (hw : w ∈ W3) (hQ : Q (.bool false) H) : CW c (n + 1) i_P_is_great [.str w, s] H Q := by
  refine CW.run (f := "is_great") (ir := ir_P_is_great) (by rw [hc.fns]; rfl) rfl ?_
  simp only [qx_1, qx_2, qx_3, qx_4, qx_5, qx_6, qx_7, qx_8, qx_9, qx_10, qx_11, qx_13, qx_15, qx_16, qx_17, qx_18, qx_19, qx_20, qx_21, qx_22, qx_23, qx_24, qx_25, qx_26, qt_1, qt_2, qt_3, qt_4, qt_5, qt_6, qt_7, qt_9, qt_10, qt_11, qt_12, qt_13, ql_1, ql_2, qa_1, qa_2, qb_1, qb_2, qo_1, qo_2, qc_1, qc_2, k_n, k_r, k_1, k_2, k_3, k_4, k_5, k_6, k_7, k_8, k_9, qs_1, add_i, sub_i, mul_i, div_i, mod_i, pow_i, eq_i, ne_i, eq_s, ne_s, eq_b, ne_b, lt_i, le_i, gt_i, ge_i, ret_v, ret_n, tru_b, vk_i, vk_s, vk_t, vk_n, vk_b, is_nn, is_in, is_sn, is_tn, is_rn, isn_nn, isn_tn, zn1, zn2, zn3, zn4, zn5, zn6, zn7, zn8, beq_self_eq_true, then_n, then_r, thenR_n, thenR_r, loop_n, loop_r, zl1, zl2, zl3, zl4, rng_1, rng_2, int_b, str_i, max_i, min_i, len_t, list_t, zl7, zl8, List.replicate, zl9, zl10, List.set, zl5, zl6, zo1, zo3, zo2, Nat.reduceSub, zl11, zl12, zn9, if_false, if_true, zn10, zn11, Bool.not_true, Bool.not_false, zn12, zn13, reduceCtorEq, zn15, zn14, zn18, zn16, zn17, forall_const, zb1, zb2, zb3, zb4, zb5, zb6, zb7, decide_true, decide_false, eq_self, ir_P_is_great, s_P_is_great_0]
  refine ⟨by simp, in_strs ["add", "minus", "times"] (ok3 hw) (by decide +kernel) ?_⟩
  rw [no_in hw _ (by decide)]
  simp only [qx_1, qx_2, qx_3, qx_4, qx_5, qx_6, qx_7, qx_8, qx_9, qx_10, qx_11, qx_13, qx_15, qx_16, qx_17, qx_18, qx_19, qx_20, qx_21, qx_22, qx_23, qx_24, qx_25, qx_26, qt_1, qt_2, qt_3, qt_4, qt_5, qt_6, qt_7, qt_9, qt_10, qt_11, qt_12, qt_13, ql_1, ql_2, qa_1, qa_2, qb_1, qb_2, qo_1, qo_2, qc_1, qc_2, k_n, k_r, k_1, k_2, k_3, k_4, k_5, k_6, k_7, k_8, k_9, qs_1, add_i, sub_i, mul_i, div_i, mod_i, pow_i, eq_i, ne_i, eq_s, ne_s, eq_b, ne_b, lt_i, le_i, gt_i, ge_i, ret_v, ret_n, tru_b, vk_i, vk_s, vk_t, vk_n, vk_b, is_nn, is_in, is_sn, is_tn, is_rn, isn_nn, isn_tn, zn1, zn2, zn3, zn4, zn5, zn6, zn7, zn8, beq_self_eq_true, then_n, then_r, thenR_n, thenR_r, loop_n, loop_r, zl1, zl2, zl3, zl4, rng_1, rng_2, int_b, str_i, max_i, min_i, len_t, list_t, zl7, zl8, List.replicate, zl9, zl10, List.set, zl5, zl6, zo1, zo3, zo2, Nat.reduceSub, zl11, zl12, zn9, if_false, if_true, zn10, zn11, Bool.not_true, Bool.not_false, zn12, zn13, reduceCtorEq, zn15, zn14, zn18, zn16, zn17, forall_const, zb1, zb2, zb3, zb4, zb5, zb6, zb7, decide_true, decide_false, eq_self]
  exact hQ
theorem is_full_ok (hc : Tab c) {w : Str} {f : AV} {Q : AV → AH → Prop} (hw : w ∈ W3) (hQ : Q (.bool false) H) : CW c (n + 1) i_P_is_full [.str w, f] H Q := by
  refine CW.run (f := "is_full") (ir := ir_P_is_full) (by rw [hc.fns]; rfl) rfl ?_
  simp only [qx_1, qx_2, qx_3, qx_4, qx_5, qx_6, qx_7, qx_8, qx_9, qx_10, qx_11, qx_13, qx_15, qx_16, qx_17, qx_18, qx_19, qx_20, qx_21, qx_22, qx_23, qx_24, qx_25, qx_26, qt_1, qt_2, qt_3, qt_4, qt_5, qt_6, qt_7, qt_9, qt_10, qt_11, qt_12, qt_13, ql_1, ql_2, qa_1, qa_2, qb_1, qb_2, qo_1, qo_2, qc_1, qc_2, k_n, k_r, k_1, k_2, k_3, k_4, k_5, k_6, k_7, k_8, k_9, qs_1, add_i, sub_i, mul_i, div_i, mod_i, pow_i, eq_i, ne_i, eq_s, ne_s, eq_b, ne_b, lt_i, le_i, gt_i, ge_i, ret_v, ret_n, tru_b, vk_i, vk_s, vk_t, vk_n, vk_b, is_nn, is_in, is_sn, is_tn, is_rn, isn_nn, isn_tn, zn1, zn2, zn3, zn4, zn5, zn6, zn7, zn8, beq_self_eq_true, then_n, then_r, thenR_n, thenR_r, loop_n, loop_r, zl1, zl2, zl3, zl4, rng_1, rng_2, int_b, str_i, max_i, min_i, len_t, list_t, zl7, zl8, List.replicate, zl9, zl10, List.set, zl5, zl6, zo1, zo3, zo2, Nat.reduceSub, zl11, zl12, zn9, if_false, if_true, zn10, zn11, Bool.not_true, Bool.not_false, zn12, zn13, reduceCtorEq, zn15, zn14, zn18, zn16, zn17, forall_const, zb1, zb2, zb3, zb4, zb5, zb6, zb7, decide_true, decide_false, eq_self, ir_P_is_full, s_P_is_full_0]
  refine ⟨by simp, in_strs ["num", "get", "fun"] (ok3 hw) (by decide +kernel) ?_⟩
  rw [no_in hw _ (by decide)]
  simp only [qx_1, qx_2, qx_3, qx_4, qx_5, qx_6, qx_7, qx_8, qx_9, qx_10, qx_11, qx_13, qx_15, qx_16, qx_17, qx_18, qx_19, qx_20, qx_21, qx_22, qx_23, qx_24, qx_25, qx_26, qt_1, qt_2, qt_3, qt_4, qt_5, qt_6, qt_7, qt_9, qt_10, qt_11, qt_12, qt_13, ql_1, ql_2, qa_1, qa_2, qb_1, qb_2, qo_1, qo_2, qc_1, qc_2, k_n, k_r, k_1, k_2, k_3, k_4, k_5, k_6, k_7, k_8, k_9, qs_1, add_i, sub_i, mul_i, div_i, mod_i, pow_i, eq_i, ne_i, eq_s, ne_s, eq_b, ne_b, lt_i, le_i, gt_i, ge_i, ret_v, ret_n, tru_b, vk_i, vk_s, vk_t, vk_n, vk_b, is_nn, is_in, is_sn, is_tn, is_rn, isn_nn, isn_tn, zn1, zn2, zn3, zn4, zn5, zn6, zn7, zn8, beq_self_eq_true, then_n, then_r, thenR_n, thenR_r, loop_n, loop_r, zl1, zl2, zl3, zl4, rng_1, rng_2, int_b, str_i, max_i, min_i, len_t, list_t, zl7, zl8, List.replicate, zl9, zl10, List.set, zl5, zl6, zo1, zo3, zo2, Nat.reduceSub, zl11, zl12, zn9, if_false, if_true, zn10, zn11, Bool.not_true, Bool.not_false, zn12, zn13, reduceCtorEq, zn15, zn14, zn18, zn16, zn17, forall_const, zb1, zb2, zb3, zb4, zb5, zb6, zb7, decide_true, decide_false, eq_self, s_P_is_full_1]
  refine ⟨fun e => absurd e (no_eq hw _ (by decide)), fun _ => ?_⟩
  simp only [qx_1, qx_2, qx_3, qx_4, qx_5, qx_6, qx_7, qx_8, qx_9, qx_10, qx_11, qx_13, qx_15, qx_16, qx_17, qx_18, qx_19, qx_20, qx_21, qx_22, qx_23, qx_24, qx_25, qx_26, qt_1, qt_2, qt_3, qt_4, qt_5, qt_6, qt_7, qt_9, qt_10, qt_11, qt_12, qt_13, ql_1, ql_2, qa_1, qa_2, qb_1, qb_2, qo_1, qo_2, qc_1, qc_2, k_n, k_r, k_1, k_2, k_3, k_4, k_5, k_6, k_7, k_8, k_9, qs_1, add_i, sub_i, mul_i, div_i, mod_i, pow_i, eq_i, ne_i, eq_s, ne_s, eq_b, ne_b, lt_i, le_i, gt_i, ge_i, ret_v, ret_n, tru_b, vk_i, vk_s, vk_t, vk_n, vk_b, is_nn, is_in, is_sn, is_tn, is_rn, isn_nn, isn_tn, zn1, zn2, zn3, zn4, zn5, zn6, zn7, zn8, beq_self_eq_true, then_n, then_r, thenR_n, thenR_r, loop_n, loop_r, zl1, zl2, zl3, zl4, rng_1, rng_2, int_b, str_i, max_i, min_i, len_t, list_t, zl7, zl8, List.replicate, zl9, zl10, List.set, zl5, zl6, zo1, zo3, zo2, Nat.reduceSub, zl11, zl12, zn9, if_false, if_true, zn10, zn11, Bool.not_true, Bool.not_false, zn12, zn13, reduceCtorEq, zn15, zn14, zn18, zn16, zn17, forall_const, zb1, zb2, zb3, zb4, zb5, zb6, zb7, decide_true, decide_false, eq_self, s_P_is_full_2]
  refine ⟨fun e => absurd e (no_eq hw _ (by decide)), fun q => ?_⟩
  rw [decide_eq_false q]; exact hQ

theorem con_at (hc : Tab c) {k : Nat} {x : Str} {v : AV} {P : AV → Prop} (e : consts[k]? = some (x, v)) (h : P v) : ∃ x v, c.cons[k]? = some (x, v) ∧ P v := ⟨x, v, by rw [hc.cons]; exact e, h⟩

/-! ## what the words take and want -/
noncomputable def popI (w : Str) : Int := if w = "fill" then 2 else 1
theorem popI_le (w : Str) : 1 ≤ popI w ∧ popI w ≤ 2 := by unfold popI; split <;> omega
/-- the last, and the one before it -/
noncomputable def topV (s : List AV) : AV := s.getLast?.getD .none
noncomputable def undV (s : List AV) : AV := s.dropLast.getLast?.getD .none
theorem topV_eq (s0 : List AV) (x : AV) : topV (s0 ++ [x]) = x := by unfold topV; simp
theorem topV_eq2 (s0 : List AV) (x y : AV) : topV (s0 ++ [x, y]) = y := by unfold topV; simp
theorem undV_eq (s0 : List AV) (x y : AV) : undV (s0 ++ [x, y]) = x := by
  unfold undV
  rw [show s0 ++ [x, y] = (s0 ++ [x]) ++ [y] by simp, List.dropLast_concat]; simp
theorem split_last {s : List AV} (h : 0 < s.length) : ∃ s0 x, s = s0 ++ [x] := by
  rcases List.eq_nil_or_concat s with rfl | ⟨s0, x, rfl⟩
  · simp at h
  · exact ⟨s0, x, by simp⟩
theorem split_two {s : List AV} (h : 1 < s.length) : ∃ s0 x y, s = s0 ++ [x, y] := by
  obtain ⟨s1, y, rfl⟩ := split_last (s := s) (by first | decide | with_reducible first | assumption | exact zm0 (by decide) | exact zm1 (by decide) (by decide) | exact zm3 (by assumption) (by decide) | omega)
  obtain ⟨s0, x, rfl⟩ := split_last (s := s1) (by simp at h; omega)
  exact ⟨s0, x, y, by simp⟩
noncomputable def rightB (w : Str) (s : List AV) (T : List (Int × AV)) : Bool := if w = "open" then isBox T (topV s) else if w = "fill" then isBox T (undV s) else true
theorem is_right_ok (hc : Tab c) {w : Str} {t : Nat} {own : Bool} {T : List (Int × AV)} {s : List AV} {Q : AV → AH → Prop} (hw : w ∈ W3) (ht : H t = some (.dict own T)) (hV : ∀ kv ∈ T, IsThing (keys T) kv.2) (hs : Vals (keys T) s) (hp : popI w ≤ s.length)
    (hQ : Q (.bool (rightB w s T)) H) : CW c (n + 3) i_P_is_right [.str w, .tup s, .ref t] H Q := by
  refine CW.run (f := "is_right") (ir := ir_P_is_right) (by rw [hc.fns]; rfl) rfl ?_
  obtain ⟨p1, p2⟩ := popI_le w
  have hsl := hs.1
  simp only [qx_1, qx_2, qx_3, qx_4, qx_5, qx_6, qx_7, qx_8, qx_9, qx_10, qx_11, qx_13, qx_15, qx_16, qx_17, qx_18, qx_19, qx_20, qx_21, qx_22, qx_23, qx_24, qx_25, qx_26, qt_1, qt_2, qt_3, qt_4, qt_5, qt_6, qt_7, qt_9, qt_10, qt_11, qt_12, qt_13, ql_1, ql_2, qa_1, qa_2, qb_1, qb_2, qo_1, qo_2, qc_1, qc_2, k_n, k_r, k_1, k_2, k_3, k_4, k_5, k_6, k_7, k_8, k_9, qs_1, add_i, sub_i, mul_i, div_i, mod_i, pow_i, eq_i, ne_i, eq_s, ne_s, eq_b, ne_b, lt_i, le_i, gt_i, ge_i, ret_v, ret_n, tru_b, vk_i, vk_s, vk_t, vk_n, vk_b, is_nn, is_in, is_sn, is_tn, is_rn, isn_nn, isn_tn, zn1, zn2, zn3, zn4, zn5, zn6, zn7, zn8, beq_self_eq_true, then_n, then_r, thenR_n, thenR_r, loop_n, loop_r, zl1, zl2, zl3, zl4, rng_1, rng_2, int_b, str_i, max_i, min_i, len_t, list_t, zl7, zl8, List.replicate, zl9, zl10, List.set, zl5, zl6, zo1, zo3, zo2, Nat.reduceSub, zl11, zl12, zn9, if_false, if_true, zn10, zn11, Bool.not_true, Bool.not_false, zn12, zn13, reduceCtorEq, zn15, zn14, zn18, zn16, zn17, forall_const, zb1, zb2, zb3, zb4, zb5, zb6, zb7, decide_true, decide_false, eq_self, ir_P_is_right, s_P_is_right_0]
  refine ⟨by simp, in_strs ["add", "minus", "times", "less"] (ok3 hw) (by decide +kernel) ?_⟩
  rw [no_in hw _ (by decide)]
  simp only [qx_1, qx_2, qx_3, qx_4, qx_5, qx_6, qx_7, qx_8, qx_9, qx_10, qx_11, qx_13, qx_15, qx_16, qx_17, qx_18, qx_19, qx_20, qx_21, qx_22, qx_23, qx_24, qx_25, qx_26, qt_1, qt_2, qt_3, qt_4, qt_5, qt_6, qt_7, qt_9, qt_10, qt_11, qt_12, qt_13, ql_1, ql_2, qa_1, qa_2, qb_1, qb_2, qo_1, qo_2, qc_1, qc_2, k_n, k_r, k_1, k_2, k_3, k_4, k_5, k_6, k_7, k_8, k_9, qs_1, add_i, sub_i, mul_i, div_i, mod_i, pow_i, eq_i, ne_i, eq_s, ne_s, eq_b, ne_b, lt_i, le_i, gt_i, ge_i, ret_v, ret_n, tru_b, vk_i, vk_s, vk_t, vk_n, vk_b, is_nn, is_in, is_sn, is_tn, is_rn, isn_nn, isn_tn, zn1, zn2, zn3, zn4, zn5, zn6, zn7, zn8, beq_self_eq_true, then_n, then_r, thenR_n, thenR_r, loop_n, loop_r, zl1, zl2, zl3, zl4, rng_1, rng_2, int_b, str_i, max_i, min_i, len_t, list_t, zl7, zl8, List.replicate, zl9, zl10, List.set, zl5, zl6, zo1, zo3, zo2, Nat.reduceSub, zl11, zl12, zn9, if_false, if_true, zn10, zn11, Bool.not_true, Bool.not_false, zn12, zn13, reduceCtorEq, zn15, zn14, zn18, zn16, zn17, forall_const, zb1, zb2, zb3, zb4, zb5, zb6, zb7, decide_true, decide_false, eq_self, s_P_is_right_1]
  refine ⟨fun e => absurd e (no_eq hw _ (by decide)), fun _ => ?_⟩
  simp only [qx_1, qx_2, qx_3, qx_4, qx_5, qx_6, qx_7, qx_8, qx_9, qx_10, qx_11, qx_13, qx_15, qx_16, qx_17, qx_18, qx_19, qx_20, qx_21, qx_22, qx_23, qx_24, qx_25, qx_26, qt_1, qt_2, qt_3, qt_4, qt_5, qt_6, qt_7, qt_9, qt_10, qt_11, qt_12, qt_13, ql_1, ql_2, qa_1, qa_2, qb_1, qb_2, qo_1, qo_2, qc_1, qc_2, k_n, k_r, k_1, k_2, k_3, k_4, k_5, k_6, k_7, k_8, k_9, qs_1, add_i, sub_i, mul_i, div_i, mod_i, pow_i, eq_i, ne_i, eq_s, ne_s, eq_b, ne_b, lt_i, le_i, gt_i, ge_i, ret_v, ret_n, tru_b, vk_i, vk_s, vk_t, vk_n, vk_b, is_nn, is_in, is_sn, is_tn, is_rn, isn_nn, isn_tn, zn1, zn2, zn3, zn4, zn5, zn6, zn7, zn8, beq_self_eq_true, then_n, then_r, thenR_n, thenR_r, loop_n, loop_r, zl1, zl2, zl3, zl4, rng_1, rng_2, int_b, str_i, max_i, min_i, len_t, list_t, zl7, zl8, List.replicate, zl9, zl10, List.set, zl5, zl6, zo1, zo3, zo2, Nat.reduceSub, zl11, zl12, zn9, if_false, if_true, zn10, zn11, Bool.not_true, Bool.not_false, zn12, zn13, reduceCtorEq, zn15, zn14, zn18, zn16, zn17, forall_const, zb1, zb2, zb3, zb4, zb5, zb6, zb7, decide_true, decide_false, eq_self, s_P_is_right_2, s_P_is_right_2b0]
  unfold rightB at hQ
  refine ⟨fun e => ?_, fun e1 => ?_⟩
  · rw [if_pos e] at hQ
    obtain ⟨s0, x, rfl⟩ := split_last (s := s) (by first | decide | with_reducible first | assumption | exact zm0 (by decide) | exact zm1 (by decide) (by decide) | exact zm3 (by assumption) (by decide) | omega)
    rw [topV_eq] at hQ
    exact ⟨1, rfl, getT1 (by simp at hsl; omega) (is_kind_ok hc ht hV (hs.2 x (by simp)) hQ)⟩
  rw [if_neg e1] at hQ
  simp only [qx_1, qx_2, qx_3, qx_4, qx_5, qx_6, qx_7, qx_8, qx_9, qx_10, qx_11, qx_13, qx_15, qx_16, qx_17, qx_18, qx_19, qx_20, qx_21, qx_22, qx_23, qx_24, qx_25, qx_26, qt_1, qt_2, qt_3, qt_4, qt_5, qt_6, qt_7, qt_9, qt_10, qt_11, qt_12, qt_13, ql_1, ql_2, qa_1, qa_2, qb_1, qb_2, qo_1, qo_2, qc_1, qc_2, k_n, k_r, k_1, k_2, k_3, k_4, k_5, k_6, k_7, k_8, k_9, qs_1, add_i, sub_i, mul_i, div_i, mod_i, pow_i, eq_i, ne_i, eq_s, ne_s, eq_b, ne_b, lt_i, le_i, gt_i, ge_i, ret_v, ret_n, tru_b, vk_i, vk_s, vk_t, vk_n, vk_b, is_nn, is_in, is_sn, is_tn, is_rn, isn_nn, isn_tn, zn1, zn2, zn3, zn4, zn5, zn6, zn7, zn8, beq_self_eq_true, then_n, then_r, thenR_n, thenR_r, loop_n, loop_r, zl1, zl2, zl3, zl4, rng_1, rng_2, int_b, str_i, max_i, min_i, len_t, list_t, zl7, zl8, List.replicate, zl9, zl10, List.set, zl5, zl6, zo1, zo3, zo2, Nat.reduceSub, zl11, zl12, zn9, if_false, if_true, zn10, zn11, Bool.not_true, Bool.not_false, zn12, zn13, reduceCtorEq, zn15, zn14, zn18, zn16, zn17, forall_const, zb1, zb2, zb3, zb4, zb5, zb6, zb7, decide_true, decide_false, eq_self, s_P_is_right_3, s_P_is_right_3b0]
  refine ⟨fun e => ?_, fun e2 => ?_⟩
  · rw [if_pos e] at hQ
    have hp2 : popI w = 2 := by unfold popI; rw [if_pos e]
    obtain ⟨s0, x, y, rfl⟩ := split_two (s := s) (by first | decide | with_reducible first | assumption | exact zm0 (by decide) | exact zm1 (by decide) (by decide) | exact zm3 (by assumption) (by decide) | omega)
    rw [undV_eq] at hQ
    exact ⟨2, rfl, getT2 (by simp at hsl; omega) (is_kind_ok hc ht hV (hs.2 x (by simp)) hQ)⟩
  rw [if_neg e2] at hQ
  simp only [qx_1, qx_2, qx_3, qx_4, qx_5, qx_6, qx_7, qx_8, qx_9, qx_10, qx_11, qx_13, qx_15, qx_16, qx_17, qx_18, qx_19, qx_20, qx_21, qx_22, qx_23, qx_24, qx_25, qx_26, qt_1, qt_2, qt_3, qt_4, qt_5, qt_6, qt_7, qt_9, qt_10, qt_11, qt_12, qt_13, ql_1, ql_2, qa_1, qa_2, qb_1, qb_2, qo_1, qo_2, qc_1, qc_2, k_n, k_r, k_1, k_2, k_3, k_4, k_5, k_6, k_7, k_8, k_9, qs_1, add_i, sub_i, mul_i, div_i, mod_i, pow_i, eq_i, ne_i, eq_s, ne_s, eq_b, ne_b, lt_i, le_i, gt_i, ge_i, ret_v, ret_n, tru_b, vk_i, vk_s, vk_t, vk_n, vk_b, is_nn, is_in, is_sn, is_tn, is_rn, isn_nn, isn_tn, zn1, zn2, zn3, zn4, zn5, zn6, zn7, zn8, beq_self_eq_true, then_n, then_r, thenR_n, thenR_r, loop_n, loop_r, zl1, zl2, zl3, zl4, rng_1, rng_2, int_b, str_i, max_i, min_i, len_t, list_t, zl7, zl8, List.replicate, zl9, zl10, List.set, zl5, zl6, zo1, zo3, zo2, Nat.reduceSub, zl11, zl12, zn9, if_false, if_true, zn10, zn11, Bool.not_true, Bool.not_false, zn12, zn13, reduceCtorEq, zn15, zn14, zn18, zn16, zn17, forall_const, zb1, zb2, zb3, zb4, zb5, zb6, zb7, decide_true, decide_false, eq_self, s_P_is_right_4, s_P_is_right_5]
  exact ⟨fun e => absurd e (no_eq hw _ (by decide)), fun _ => hQ⟩
end
end Mine

set_option maxRecDepth 100000
set_option autoImplicit false
set_option linter.unusedSimpArgs false
set_option linter.unusedVariables false
namespace Mine
open PySem PyProof.Rows

noncomputable def popsKv : List (Str × AV) := [("num", .int 0), ("get", .int 0), ("keep", .int 1), ("drop", .int 1), ("add", .int 2), ("minus", .int 2), ("times", .int 2), ("less", .int 2), ("same", .int 2), ("box", .int 1), ("open", .int 1), ("fill", .int 2), ("call", .int 2), ("back", .int 1), ("say", .int 1), ("fun", .int 0), ("jump", .int 0), ("unless", .int 1)]
theorem pops_at {w : Str} (h : w ∈ W3) : keyAt popsKv w = some (.int (popI w)) := by
  have a1 : popI "box" = 1 := if_neg (by decide)
  have a2 : popI "open" = 1 := if_neg (by decide)
  have a3 : popI "fill" = 2 := if_pos (by decide)
  unfold W3 at h
  simp only [List.mem_cons, List.not_mem_nil, or_false] at h
  rcases h with rfl | rfl | rfl
  · rw [a1]; rfl
  · rw [a2]; rfl
  · rw [a3]; rfl
noncomputable def stuckV (w : Str) (s : List AV) (T : List (Int × AV)) : AV := if (s.length : Int) < popI w then .str "empty" else if rightB w s T = false then .str "kind" else .none

/-- a state that may be stepped, its top row -/
structure Tp (H : AH) (p f t : Nat) (B : List (List AV)) (F0 : List AV) (b q : Int) (o s : List AV) (T : List (Int × AV)) (w : Str) : Prop where
  prog : Prog H p B
  fr : ∃ own, H f = some (.list own (F0 ++ [.tup [.int b, .int q, .tup o, .tup s]]))
  th : ∃ own, H t = some (.dict own T)
  pops : H 40 = some (.sdict popsKv)
  b0 : 0 ≤ b
  q0 : 0 ≤ q
  body : ∃ l, B[b.toNat]? = some l ∧ l[q.toNat]? = some (.tup [.str w])
  hw : w ∈ W3
  hF : F0.length ≤ 100
  ho : Vals (keys T) o
  hs : Vals (keys T) s
  hT : T.length ≤ 200
  hV : ∀ kv ∈ T, IsThing (keys T) kv.2

section
variable {c : Cx} {n : Nat} {H : AH}
theorem Tp.get {p f t : Nat} {B : List (List AV)} {F0 : List AV} {b q : Int} {o s : List AV} {T : List (Int × AV)} {w : Str} (h : Tp H p f t B F0 b q o s T w) {Q : AV → AH → Prop} (hq : ∀ a own l, H a = some (.list own l) → l.length ≤ 60 → l[q.toNat]? = some (.tup [.str w]) → q < l.length → Q (.ref a) H) : getW (.ref p) (.int b) H Q := by
  obtain ⟨l, h1, h2⟩ := h.body
  have hb : b < B.length := by have := (List.getElem?_eq_some_iff.mp h1).1; have := h.b0; omega
  refine h.prog.get h.b0 hb fun a own l' e1 e2 e3 => ?_
  rw [h1] at e3; cases e3
  exact hq a own l e1 e2 h2 (by have := (List.getElem?_eq_some_iff.mp h2).1; have := h.q0; omega)

theorem stuck_word_ok (hc : Tab c) {p f t : Nat} {B : List (List AV)} {F0 : List AV} {b q : Int} {o s : List AV} {T : List (Int × AV)} {w : Str} {Q : AV → AH → Prop} (h : Tp H p f t B F0 b q o s T w)
    (hQ : Q (stuckV w s T) H) : CW c (n + 4) i_P_stuck_word [.ref p, .ref f, .ref t] H Q := by
  refine CW.run (f := "stuck_word") (ir := ir_P_stuck_word) (by rw [hc.fns]; rfl) rfl ?_
  obtain ⟨ow, hf⟩ := h.fr
  obtain ⟨ot, ht⟩ := h.th
  have hw := h.hw
  have hs := h.hs.1
  have hF := h.hF
  simp only [qx_1, qx_2, qx_3, qx_4, qx_5, qx_6, qx_7, qx_8, qx_9, qx_10, qx_11, qx_13, qx_15, qx_16, qx_17, qx_18, qx_19, qx_20, qx_21, qx_22, qx_23, qx_24, qx_25, qx_26, qt_1, qt_2, qt_3, qt_4, qt_5, qt_6, qt_7, qt_9, qt_10, qt_11, qt_12, qt_13, ql_1, ql_2, qa_1, qa_2, qb_1, qb_2, qo_1, qo_2, qc_1, qc_2, k_n, k_r, k_1, k_2, k_3, k_4, k_5, k_6, k_7, k_8, k_9, qs_1, add_i, sub_i, mul_i, div_i, mod_i, pow_i, eq_i, ne_i, eq_s, ne_s, eq_b, ne_b, lt_i, le_i, gt_i, ge_i, ret_v, ret_n, tru_b, vk_i, vk_s, vk_t, vk_n, vk_b, is_nn, is_in, is_sn, is_tn, is_rn, isn_nn, isn_tn, zn1, zn2, zn3, zn4, zn5, zn6, zn7, zn8, beq_self_eq_true, then_n, then_r, thenR_n, thenR_r, loop_n, loop_r, zl1, zl2, zl3, zl4, rng_1, rng_2, int_b, str_i, max_i, min_i, len_t, list_t, zl7, zl8, List.replicate, zl9, zl10, List.set, zl5, zl6, zo1, zo3, zo2, Nat.reduceSub, zl11, zl12, zn9, if_false, if_true, zn10, zn11, Bool.not_true, Bool.not_false, zn12, zn13, reduceCtorEq, zn15, zn14, zn18, zn16, zn17, forall_const, zb1, zb2, zb3, zb4, zb5, zb6, zb7, decide_true, decide_false, eq_self, ir_P_stuck_word, s_P_stuck_word_0]
  refine ⟨1, rfl, getM1 hf (by first | decide | with_reducible first | assumption | exact zm0 (by decide) | exact zm1 (by decide) (by decide) | exact zm3 (by assumption) (by decide) | omega) ⟨_, rfl, rfl, ?_⟩⟩
  simp only [qx_1, qx_2, qx_3, qx_4, qx_5, qx_6, qx_7, qx_8, qx_9, qx_10, qx_11, qx_13, qx_15, qx_16, qx_17, qx_18, qx_19, qx_20, qx_21, qx_22, qx_23, qx_24, qx_25, qx_26, qt_1, qt_2, qt_3, qt_4, qt_5, qt_6, qt_7, qt_9, qt_10, qt_11, qt_12, qt_13, ql_1, ql_2, qa_1, qa_2, qb_1, qb_2, qo_1, qo_2, qc_1, qc_2, k_n, k_r, k_1, k_2, k_3, k_4, k_5, k_6, k_7, k_8, k_9, qs_1, add_i, sub_i, mul_i, div_i, mod_i, pow_i, eq_i, ne_i, eq_s, ne_s, eq_b, ne_b, lt_i, le_i, gt_i, ge_i, ret_v, ret_n, tru_b, vk_i, vk_s, vk_t, vk_n, vk_b, is_nn, is_in, is_sn, is_tn, is_rn, isn_nn, isn_tn, zn1, zn2, zn3, zn4, zn5, zn6, zn7, zn8, beq_self_eq_true, then_n, then_r, thenR_n, thenR_r, loop_n, loop_r, zl1, zl2, zl3, zl4, rng_1, rng_2, int_b, str_i, max_i, min_i, len_t, list_t, zl7, zl8, List.replicate, zl9, zl10, List.set, zl5, zl6, zo1, zo3, zo2, Nat.reduceSub, zl11, zl12, zn9, if_false, if_true, zn10, zn11, Bool.not_true, Bool.not_false, zn12, zn13, reduceCtorEq, zn15, zn14, zn18, zn16, zn17, forall_const, zb1, zb2, zb3, zb4, zb5, zb6, zb7, decide_true, decide_false, eq_self, setAll, s_P_stuck_word_1]
  refine h.get fun a own l e1 e2 e3 e4 => lenL e1 (by first | decide | with_reducible first | assumption | exact zm0 (by decide) | exact zm1 (by decide) (by decide) | exact zm3 (by assumption) (by decide) | omega) ?_
  simp only [qx_1, qx_2, qx_3, qx_4, qx_5, qx_6, qx_7, qx_8, qx_9, qx_10, qx_11, qx_13, qx_15, qx_16, qx_17, qx_18, qx_19, qx_20, qx_21, qx_22, qx_23, qx_24, qx_25, qx_26, qt_1, qt_2, qt_3, qt_4, qt_5, qt_6, qt_7, qt_9, qt_10, qt_11, qt_12, qt_13, ql_1, ql_2, qa_1, qa_2, qb_1, qb_2, qo_1, qo_2, qc_1, qc_2, k_n, k_r, k_1, k_2, k_3, k_4, k_5, k_6, k_7, k_8, k_9, qs_1, add_i, sub_i, mul_i, div_i, mod_i, pow_i, eq_i, ne_i, eq_s, ne_s, eq_b, ne_b, lt_i, le_i, gt_i, ge_i, ret_v, ret_n, tru_b, vk_i, vk_s, vk_t, vk_n, vk_b, is_nn, is_in, is_sn, is_tn, is_rn, isn_nn, isn_tn, zn1, zn2, zn3, zn4, zn5, zn6, zn7, zn8, beq_self_eq_true, then_n, then_r, thenR_n, thenR_r, loop_n, loop_r, zl1, zl2, zl3, zl4, rng_1, rng_2, int_b, str_i, max_i, min_i, len_t, list_t, zl7, zl8, List.replicate, zl9, zl10, List.set, zl5, zl6, zo1, zo3, zo2, Nat.reduceSub, zl11, zl12, zn9, if_false, if_true, zn10, zn11, Bool.not_true, Bool.not_false, zn12, zn13, reduceCtorEq, zn15, zn14, zn18, zn16, zn17, forall_const, zb1, zb2, zb3, zb4, zb5, zb6, zb7, decide_true, decide_false, eq_self]
  refine ⟨fun e => absurd e (by first | decide | with_reducible first | assumption | exact zm0 (by decide) | exact zm1 (by decide) (by decide) | exact zm3 (by assumption) (by decide) | omega), fun _ => ?_⟩
  simp only [qx_1, qx_2, qx_3, qx_4, qx_5, qx_6, qx_7, qx_8, qx_9, qx_10, qx_11, qx_13, qx_15, qx_16, qx_17, qx_18, qx_19, qx_20, qx_21, qx_22, qx_23, qx_24, qx_25, qx_26, qt_1, qt_2, qt_3, qt_4, qt_5, qt_6, qt_7, qt_9, qt_10, qt_11, qt_12, qt_13, ql_1, ql_2, qa_1, qa_2, qb_1, qb_2, qo_1, qo_2, qc_1, qc_2, k_n, k_r, k_1, k_2, k_3, k_4, k_5, k_6, k_7, k_8, k_9, qs_1, add_i, sub_i, mul_i, div_i, mod_i, pow_i, eq_i, ne_i, eq_s, ne_s, eq_b, ne_b, lt_i, le_i, gt_i, ge_i, ret_v, ret_n, tru_b, vk_i, vk_s, vk_t, vk_n, vk_b, is_nn, is_in, is_sn, is_tn, is_rn, isn_nn, isn_tn, zn1, zn2, zn3, zn4, zn5, zn6, zn7, zn8, beq_self_eq_true, then_n, then_r, thenR_n, thenR_r, loop_n, loop_r, zl1, zl2, zl3, zl4, rng_1, rng_2, int_b, str_i, max_i, min_i, len_t, list_t, zl7, zl8, List.replicate, zl9, zl10, List.set, zl5, zl6, zo1, zo3, zo2, Nat.reduceSub, zl11, zl12, zn9, if_false, if_true, zn10, zn11, Bool.not_true, Bool.not_false, zn12, zn13, reduceCtorEq, zn15, zn14, zn18, zn16, zn17, forall_const, zb1, zb2, zb3, zb4, zb5, zb6, zb7, decide_true, decide_false, eq_self, s_P_stuck_word_2]
  refine h.get fun a own l e1 e2 e3 e4 => getL e1 h.q0 (by first | decide | with_reducible first | assumption | exact zm0 (by decide) | exact zm1 (by decide) (by decide) | exact zm3 (by assumption) (by decide) | omega) e3 ?_
  simp only [qx_1, qx_2, qx_3, qx_4, qx_5, qx_6, qx_7, qx_8, qx_9, qx_10, qx_11, qx_13, qx_15, qx_16, qx_17, qx_18, qx_19, qx_20, qx_21, qx_22, qx_23, qx_24, qx_25, qx_26, qt_1, qt_2, qt_3, qt_4, qt_5, qt_6, qt_7, qt_9, qt_10, qt_11, qt_12, qt_13, ql_1, ql_2, qa_1, qa_2, qb_1, qb_2, qo_1, qo_2, qc_1, qc_2, k_n, k_r, k_1, k_2, k_3, k_4, k_5, k_6, k_7, k_8, k_9, qs_1, add_i, sub_i, mul_i, div_i, mod_i, pow_i, eq_i, ne_i, eq_s, ne_s, eq_b, ne_b, lt_i, le_i, gt_i, ge_i, ret_v, ret_n, tru_b, vk_i, vk_s, vk_t, vk_n, vk_b, is_nn, is_in, is_sn, is_tn, is_rn, isn_nn, isn_tn, zn1, zn2, zn3, zn4, zn5, zn6, zn7, zn8, beq_self_eq_true, then_n, then_r, thenR_n, thenR_r, loop_n, loop_r, zl1, zl2, zl3, zl4, rng_1, rng_2, int_b, str_i, max_i, min_i, len_t, list_t, zl7, zl8, List.replicate, zl9, zl10, List.set, zl5, zl6, zo1, zo3, zo2, Nat.reduceSub, zl11, zl12, zn9, if_false, if_true, zn10, zn11, Bool.not_true, Bool.not_false, zn12, zn13, reduceCtorEq, zn15, zn14, zn18, zn16, zn17, forall_const, zb1, zb2, zb3, zb4, zb5, zb6, zb7, decide_true, decide_false, eq_self, s_P_stuck_word_3]
  refine row0 ?_
  simp only [qx_1, qx_2, qx_3, qx_4, qx_5, qx_6, qx_7, qx_8, qx_9, qx_10, qx_11, qx_13, qx_15, qx_16, qx_17, qx_18, qx_19, qx_20, qx_21, qx_22, qx_23, qx_24, qx_25, qx_26, qt_1, qt_2, qt_3, qt_4, qt_5, qt_6, qt_7, qt_9, qt_10, qt_11, qt_12, qt_13, ql_1, ql_2, qa_1, qa_2, qb_1, qb_2, qo_1, qo_2, qc_1, qc_2, k_n, k_r, k_1, k_2, k_3, k_4, k_5, k_6, k_7, k_8, k_9, qs_1, add_i, sub_i, mul_i, div_i, mod_i, pow_i, eq_i, ne_i, eq_s, ne_s, eq_b, ne_b, lt_i, le_i, gt_i, ge_i, ret_v, ret_n, tru_b, vk_i, vk_s, vk_t, vk_n, vk_b, is_nn, is_in, is_sn, is_tn, is_rn, isn_nn, isn_tn, zn1, zn2, zn3, zn4, zn5, zn6, zn7, zn8, beq_self_eq_true, then_n, then_r, thenR_n, thenR_r, loop_n, loop_r, zl1, zl2, zl3, zl4, rng_1, rng_2, int_b, str_i, max_i, min_i, len_t, list_t, zl7, zl8, List.replicate, zl9, zl10, List.set, zl5, zl6, zo1, zo3, zo2, Nat.reduceSub, zl11, zl12, zn9, if_false, if_true, zn10, zn11, Bool.not_true, Bool.not_false, zn12, zn13, reduceCtorEq, zn15, zn14, zn18, zn16, zn17, forall_const, zb1, zb2, zb3, zb4, zb5, zb6, zb7, decide_true, decide_false, eq_self, s_P_stuck_word_4, s_P_stuck_word_4b0]
  refine ⟨by first | decide | with_reducible first | assumption | exact zm0 (by decide) | exact zm1 (by decide) (by decide) | exact zm3 (by assumption) (by decide) | omega, con_at hc (k := 3) (x := "POPS") (v := .ref 40) rfl ⟨popsKv, h.pops, _, pops_at hw, ?_⟩⟩
  simp only [qx_1, qx_2, qx_3, qx_4, qx_5, qx_6, qx_7, qx_8, qx_9, qx_10, qx_11, qx_13, qx_15, qx_16, qx_17, qx_18, qx_19, qx_20, qx_21, qx_22, qx_23, qx_24, qx_25, qx_26, qt_1, qt_2, qt_3, qt_4, qt_5, qt_6, qt_7, qt_9, qt_10, qt_11, qt_12, qt_13, ql_1, ql_2, qa_1, qa_2, qb_1, qb_2, qo_1, qo_2, qc_1, qc_2, k_n, k_r, k_1, k_2, k_3, k_4, k_5, k_6, k_7, k_8, k_9, qs_1, add_i, sub_i, mul_i, div_i, mod_i, pow_i, eq_i, ne_i, eq_s, ne_s, eq_b, ne_b, lt_i, le_i, gt_i, ge_i, ret_v, ret_n, tru_b, vk_i, vk_s, vk_t, vk_n, vk_b, is_nn, is_in, is_sn, is_tn, is_rn, isn_nn, isn_tn, zn1, zn2, zn3, zn4, zn5, zn6, zn7, zn8, beq_self_eq_true, then_n, then_r, thenR_n, thenR_r, loop_n, loop_r, zl1, zl2, zl3, zl4, rng_1, rng_2, int_b, str_i, max_i, min_i, len_t, list_t, zl7, zl8, List.replicate, zl9, zl10, List.set, zl5, zl6, zo1, zo3, zo2, Nat.reduceSub, zl11, zl12, zn9, if_false, if_true, zn10, zn11, Bool.not_true, Bool.not_false, zn12, zn13, reduceCtorEq, zn15, zn14, zn18, zn16, zn17, forall_const, zb1, zb2, zb3, zb4, zb5, zb6, zb7, decide_true, decide_false, eq_self]
  unfold stuckV at hQ
  refine ⟨fun e => ?_, fun e1 => ?_⟩
  · rw [if_pos e] at hQ; exact hQ
  rw [if_neg e1] at hQ
  simp only [qx_1, qx_2, qx_3, qx_4, qx_5, qx_6, qx_7, qx_8, qx_9, qx_10, qx_11, qx_13, qx_15, qx_16, qx_17, qx_18, qx_19, qx_20, qx_21, qx_22, qx_23, qx_24, qx_25, qx_26, qt_1, qt_2, qt_3, qt_4, qt_5, qt_6, qt_7, qt_9, qt_10, qt_11, qt_12, qt_13, ql_1, ql_2, qa_1, qa_2, qb_1, qb_2, qo_1, qo_2, qc_1, qc_2, k_n, k_r, k_1, k_2, k_3, k_4, k_5, k_6, k_7, k_8, k_9, qs_1, add_i, sub_i, mul_i, div_i, mod_i, pow_i, eq_i, ne_i, eq_s, ne_s, eq_b, ne_b, lt_i, le_i, gt_i, ge_i, ret_v, ret_n, tru_b, vk_i, vk_s, vk_t, vk_n, vk_b, is_nn, is_in, is_sn, is_tn, is_rn, isn_nn, isn_tn, zn1, zn2, zn3, zn4, zn5, zn6, zn7, zn8, beq_self_eq_true, then_n, then_r, thenR_n, thenR_r, loop_n, loop_r, zl1, zl2, zl3, zl4, rng_1, rng_2, int_b, str_i, max_i, min_i, len_t, list_t, zl7, zl8, List.replicate, zl9, zl10, List.set, zl5, zl6, zo1, zo3, zo2, Nat.reduceSub, zl11, zl12, zn9, if_false, if_true, zn10, zn11, Bool.not_true, Bool.not_false, zn12, zn13, reduceCtorEq, zn15, zn14, zn18, zn16, zn17, forall_const, zb1, zb2, zb3, zb4, zb5, zb6, zb7, decide_true, decide_false, eq_self, s_P_stuck_word_5]
  refine lacks_own_ok hc hw ?_
  simp only [qx_1, qx_2, qx_3, qx_4, qx_5, qx_6, qx_7, qx_8, qx_9, qx_10, qx_11, qx_13, qx_15, qx_16, qx_17, qx_18, qx_19, qx_20, qx_21, qx_22, qx_23, qx_24, qx_25, qx_26, qt_1, qt_2, qt_3, qt_4, qt_5, qt_6, qt_7, qt_9, qt_10, qt_11, qt_12, qt_13, ql_1, ql_2, qa_1, qa_2, qb_1, qb_2, qo_1, qo_2, qc_1, qc_2, k_n, k_r, k_1, k_2, k_3, k_4, k_5, k_6, k_7, k_8, k_9, qs_1, add_i, sub_i, mul_i, div_i, mod_i, pow_i, eq_i, ne_i, eq_s, ne_s, eq_b, ne_b, lt_i, le_i, gt_i, ge_i, ret_v, ret_n, tru_b, vk_i, vk_s, vk_t, vk_n, vk_b, is_nn, is_in, is_sn, is_tn, is_rn, isn_nn, isn_tn, zn1, zn2, zn3, zn4, zn5, zn6, zn7, zn8, beq_self_eq_true, then_n, then_r, thenR_n, thenR_r, loop_n, loop_r, zl1, zl2, zl3, zl4, rng_1, rng_2, int_b, str_i, max_i, min_i, len_t, list_t, zl7, zl8, List.replicate, zl9, zl10, List.set, zl5, zl6, zo1, zo3, zo2, Nat.reduceSub, zl11, zl12, zn9, if_false, if_true, zn10, zn11, Bool.not_true, Bool.not_false, zn12, zn13, reduceCtorEq, zn15, zn14, zn18, zn16, zn17, forall_const, zb1, zb2, zb3, zb4, zb5, zb6, zb7, decide_true, decide_false, eq_self, s_P_stuck_word_6, s_P_stuck_word_6b0]
  refine is_right_ok hc hw ht h.hV h.hs (by first | decide | with_reducible first | assumption | exact zm0 (by decide) | exact zm1 (by decide) (by decide) | exact zm3 (by assumption) (by decide) | omega) ?_
  simp only [qx_1, qx_2, qx_3, qx_4, qx_5, qx_6, qx_7, qx_8, qx_9, qx_10, qx_11, qx_13, qx_15, qx_16, qx_17, qx_18, qx_19, qx_20, qx_21, qx_22, qx_23, qx_24, qx_25, qx_26, qt_1, qt_2, qt_3, qt_4, qt_5, qt_6, qt_7, qt_9, qt_10, qt_11, qt_12, qt_13, ql_1, ql_2, qa_1, qa_2, qb_1, qb_2, qo_1, qo_2, qc_1, qc_2, k_n, k_r, k_1, k_2, k_3, k_4, k_5, k_6, k_7, k_8, k_9, qs_1, add_i, sub_i, mul_i, div_i, mod_i, pow_i, eq_i, ne_i, eq_s, ne_s, eq_b, ne_b, lt_i, le_i, gt_i, ge_i, ret_v, ret_n, tru_b, vk_i, vk_s, vk_t, vk_n, vk_b, is_nn, is_in, is_sn, is_tn, is_rn, isn_nn, isn_tn, zn1, zn2, zn3, zn4, zn5, zn6, zn7, zn8, beq_self_eq_true, then_n, then_r, thenR_n, thenR_r, loop_n, loop_r, zl1, zl2, zl3, zl4, rng_1, rng_2, int_b, str_i, max_i, min_i, len_t, list_t, zl7, zl8, List.replicate, zl9, zl10, List.set, zl5, zl6, zo1, zo3, zo2, Nat.reduceSub, zl11, zl12, zn9, if_false, if_true, zn10, zn11, Bool.not_true, Bool.not_false, zn12, zn13, reduceCtorEq, zn15, zn14, zn18, zn16, zn17, forall_const, zb1, zb2, zb3, zb4, zb5, zb6, zb7, decide_true, decide_false, eq_self]
  refine ⟨fun e => ?_, fun e2 => ?_⟩
  · rw [if_pos e] at hQ; exact hQ
  rw [if_neg (by rw [e2]; decide)] at hQ
  simp only [qx_1, qx_2, qx_3, qx_4, qx_5, qx_6, qx_7, qx_8, qx_9, qx_10, qx_11, qx_13, qx_15, qx_16, qx_17, qx_18, qx_19, qx_20, qx_21, qx_22, qx_23, qx_24, qx_25, qx_26, qt_1, qt_2, qt_3, qt_4, qt_5, qt_6, qt_7, qt_9, qt_10, qt_11, qt_12, qt_13, ql_1, ql_2, qa_1, qa_2, qb_1, qb_2, qo_1, qo_2, qc_1, qc_2, k_n, k_r, k_1, k_2, k_3, k_4, k_5, k_6, k_7, k_8, k_9, qs_1, add_i, sub_i, mul_i, div_i, mod_i, pow_i, eq_i, ne_i, eq_s, ne_s, eq_b, ne_b, lt_i, le_i, gt_i, ge_i, ret_v, ret_n, tru_b, vk_i, vk_s, vk_t, vk_n, vk_b, is_nn, is_in, is_sn, is_tn, is_rn, isn_nn, isn_tn, zn1, zn2, zn3, zn4, zn5, zn6, zn7, zn8, beq_self_eq_true, then_n, then_r, thenR_n, thenR_r, loop_n, loop_r, zl1, zl2, zl3, zl4, rng_1, rng_2, int_b, str_i, max_i, min_i, len_t, list_t, zl7, zl8, List.replicate, zl9, zl10, List.set, zl5, zl6, zo1, zo3, zo2, Nat.reduceSub, zl11, zl12, zn9, if_false, if_true, zn10, zn11, Bool.not_true, Bool.not_false, zn12, zn13, reduceCtorEq, zn15, zn14, zn18, zn16, zn17, forall_const, zb1, zb2, zb3, zb4, zb5, zb6, zb7, decide_true, decide_false, eq_self, s_P_stuck_word_7]
  refine is_great_ok hc hw ?_
  simp only [qx_1, qx_2, qx_3, qx_4, qx_5, qx_6, qx_7, qx_8, qx_9, qx_10, qx_11, qx_13, qx_15, qx_16, qx_17, qx_18, qx_19, qx_20, qx_21, qx_22, qx_23, qx_24, qx_25, qx_26, qt_1, qt_2, qt_3, qt_4, qt_5, qt_6, qt_7, qt_9, qt_10, qt_11, qt_12, qt_13, ql_1, ql_2, qa_1, qa_2, qb_1, qb_2, qo_1, qo_2, qc_1, qc_2, k_n, k_r, k_1, k_2, k_3, k_4, k_5, k_6, k_7, k_8, k_9, qs_1, add_i, sub_i, mul_i, div_i, mod_i, pow_i, eq_i, ne_i, eq_s, ne_s, eq_b, ne_b, lt_i, le_i, gt_i, ge_i, ret_v, ret_n, tru_b, vk_i, vk_s, vk_t, vk_n, vk_b, is_nn, is_in, is_sn, is_tn, is_rn, isn_nn, isn_tn, zn1, zn2, zn3, zn4, zn5, zn6, zn7, zn8, beq_self_eq_true, then_n, then_r, thenR_n, thenR_r, loop_n, loop_r, zl1, zl2, zl3, zl4, rng_1, rng_2, int_b, str_i, max_i, min_i, len_t, list_t, zl7, zl8, List.replicate, zl9, zl10, List.set, zl5, zl6, zo1, zo3, zo2, Nat.reduceSub, zl11, zl12, zn9, if_false, if_true, zn10, zn11, Bool.not_true, Bool.not_false, zn12, zn13, reduceCtorEq, zn15, zn14, zn18, zn16, zn17, forall_const, zb1, zb2, zb3, zb4, zb5, zb6, zb7, decide_true, decide_false, eq_self, s_P_stuck_word_8]
  refine ⟨fun e => absurd e (no_eq hw _ (by decide)), fun _ => ?_⟩
  simp only [qx_1, qx_2, qx_3, qx_4, qx_5, qx_6, qx_7, qx_8, qx_9, qx_10, qx_11, qx_13, qx_15, qx_16, qx_17, qx_18, qx_19, qx_20, qx_21, qx_22, qx_23, qx_24, qx_25, qx_26, qt_1, qt_2, qt_3, qt_4, qt_5, qt_6, qt_7, qt_9, qt_10, qt_11, qt_12, qt_13, ql_1, ql_2, qa_1, qa_2, qb_1, qb_2, qo_1, qo_2, qc_1, qc_2, k_n, k_r, k_1, k_2, k_3, k_4, k_5, k_6, k_7, k_8, k_9, qs_1, add_i, sub_i, mul_i, div_i, mod_i, pow_i, eq_i, ne_i, eq_s, ne_s, eq_b, ne_b, lt_i, le_i, gt_i, ge_i, ret_v, ret_n, tru_b, vk_i, vk_s, vk_t, vk_n, vk_b, is_nn, is_in, is_sn, is_tn, is_rn, isn_nn, isn_tn, zn1, zn2, zn3, zn4, zn5, zn6, zn7, zn8, beq_self_eq_true, then_n, then_r, thenR_n, thenR_r, loop_n, loop_r, zl1, zl2, zl3, zl4, rng_1, rng_2, int_b, str_i, max_i, min_i, len_t, list_t, zl7, zl8, List.replicate, zl9, zl10, List.set, zl5, zl6, zo1, zo3, zo2, Nat.reduceSub, zl11, zl12, zn9, if_false, if_true, zn10, zn11, Bool.not_true, Bool.not_false, zn12, zn13, reduceCtorEq, zn15, zn14, zn18, zn16, zn17, forall_const, zb1, zb2, zb3, zb4, zb5, zb6, zb7, decide_true, decide_false, eq_self, s_P_stuck_word_9]
  refine is_full_ok hc hw ?_
  simp only [qx_1, qx_2, qx_3, qx_4, qx_5, qx_6, qx_7, qx_8, qx_9, qx_10, qx_11, qx_13, qx_15, qx_16, qx_17, qx_18, qx_19, qx_20, qx_21, qx_22, qx_23, qx_24, qx_25, qx_26, qt_1, qt_2, qt_3, qt_4, qt_5, qt_6, qt_7, qt_9, qt_10, qt_11, qt_12, qt_13, ql_1, ql_2, qa_1, qa_2, qb_1, qb_2, qo_1, qo_2, qc_1, qc_2, k_n, k_r, k_1, k_2, k_3, k_4, k_5, k_6, k_7, k_8, k_9, qs_1, add_i, sub_i, mul_i, div_i, mod_i, pow_i, eq_i, ne_i, eq_s, ne_s, eq_b, ne_b, lt_i, le_i, gt_i, ge_i, ret_v, ret_n, tru_b, vk_i, vk_s, vk_t, vk_n, vk_b, is_nn, is_in, is_sn, is_tn, is_rn, isn_nn, isn_tn, zn1, zn2, zn3, zn4, zn5, zn6, zn7, zn8, beq_self_eq_true, then_n, then_r, thenR_n, thenR_r, loop_n, loop_r, zl1, zl2, zl3, zl4, rng_1, rng_2, int_b, str_i, max_i, min_i, len_t, list_t, zl7, zl8, List.replicate, zl9, zl10, List.set, zl5, zl6, zo1, zo3, zo2, Nat.reduceSub, zl11, zl12, zn9, if_false, if_true, zn10, zn11, Bool.not_true, Bool.not_false, zn12, zn13, reduceCtorEq, zn15, zn14, zn18, zn16, zn17, forall_const, zb1, zb2, zb3, zb4, zb5, zb6, zb7, decide_true, decide_false, eq_self, s_P_stuck_word_10]
  exact hQ

/-! ## a new number -/
noncomputable def IsNum (T : List (Int × AV)) (k : Int) : Prop := (keys T = [] ∧ k = 0) ∨ (k - 1 ∈ keys T ∧ ∀ x ∈ keys T, x ≤ k - 1)
theorem IsNum.one {T : List (Int × AV)} {k k' : Int} (h : IsNum T k) (h' : IsNum T k') : k = k' := by
  rcases h with ⟨a, b⟩ | ⟨a, b⟩ <;> rcases h' with ⟨a', b'⟩ | ⟨a', b'⟩
  · omega
  · rw [a] at a'; cases a'
  · rw [a'] at a; cases a
  · have := b _ a'; have := b' _ a; omega
theorem IsNum.new {T : List (Int × AV)} {k : Int} (h : IsNum T k) : k ∉ keys T := fun hk => by
  rcases h with ⟨a, _⟩ | ⟨_, b⟩
  · rw [a] at hk; cases hk
  · have := b k hk; omega
theorem IsNum.ex (T : List (Int × AV)) : ∃ k, IsNum T k := by
  have : ∀ N : List Int, N = [] ∨ ∃ m, m ∈ N ∧ ∀ x ∈ N, x ≤ m := by
    intro N
    induction N with
    | nil => exact .inl rfl
    | cons a N ih =>
      right
      rcases ih with rfl | ⟨m, h1, h2⟩
      · exact ⟨a, by simp, fun x hx => by simp at hx; omega⟩
      · by_cases h : a ≤ m
        · exact ⟨m, List.mem_cons_of_mem _ h1, fun x hx => by rcases List.mem_cons.mp hx with z | z; omega; exact h2 x z⟩
        · exact ⟨a, by simp, fun x hx => by rcases List.mem_cons.mp hx with z | z; omega; have := h2 x z; omega⟩
  rcases this (keys T) with h | ⟨m, h1, h2⟩
  · exact ⟨0, .inl ⟨h, rfl⟩⟩
  · exact ⟨m + 1, .inr ⟨by rw [Int.add_sub_cancel]; exact h1, fun x hx => by have := h2 x hx; omega⟩⟩

theorem put_new_ok (hc : Tab c) {t : Nat} {T : List (Int × AV)} {th : AV} {Q : AV → AH → Prop} (ht : H t = some (.dict true T)) (hT : T.length ≤ 1000)
    (hQ : ∀ k H', IsNum T k → (∀ a ob, a ≠ t → H a = some ob → H' a = some ob) → H' t = some (.dict true (T ++ [(k, th)])) → Q (.tup [.str "at", .int k]) H') : CW c (n + 1) i_P_put_new [.ref t, th] H Q := by
  refine CW.run (f := "put_new") (ir := ir_P_put_new) (by rw [hc.fns]; rfl) rfl ?_
  simp only [qx_1, qx_2, qx_3, qx_4, qx_5, qx_6, qx_7, qx_8, qx_9, qx_10, qx_11, qx_13, qx_15, qx_16, qx_17, qx_18, qx_19, qx_20, qx_21, qx_22, qx_23, qx_24, qx_25, qx_26, qt_1, qt_2, qt_3, qt_4, qt_5, qt_6, qt_7, qt_9, qt_10, qt_11, qt_12, qt_13, ql_1, ql_2, qa_1, qa_2, qb_1, qb_2, qo_1, qo_2, qc_1, qc_2, k_n, k_r, k_1, k_2, k_3, k_4, k_5, k_6, k_7, k_8, k_9, qs_1, add_i, sub_i, mul_i, div_i, mod_i, pow_i, eq_i, ne_i, eq_s, ne_s, eq_b, ne_b, lt_i, le_i, gt_i, ge_i, ret_v, ret_n, tru_b, vk_i, vk_s, vk_t, vk_n, vk_b, is_nn, is_in, is_sn, is_tn, is_rn, isn_nn, isn_tn, zn1, zn2, zn3, zn4, zn5, zn6, zn7, zn8, beq_self_eq_true, then_n, then_r, thenR_n, thenR_r, loop_n, loop_r, zl1, zl2, zl3, zl4, rng_1, rng_2, int_b, str_i, max_i, min_i, len_t, list_t, zl7, zl8, List.replicate, zl9, zl10, List.set, zl5, zl6, zo1, zo3, zo2, Nat.reduceSub, zl11, zl12, zn9, if_false, if_true, zn10, zn11, Bool.not_true, Bool.not_false, zn12, zn13, reduceCtorEq, zn15, zn14, zn18, zn16, zn17, forall_const, zb1, zb2, zb3, zb4, zb5, zb6, zb7, decide_true, decide_false, eq_self, ir_P_put_new, s_P_put_new_0]
  have fin : ∀ (k : Int) (H1 : AH), IsNum T k → (∀ a ob, H a = some ob → H1 a = some ob) → wpS c n [s_P_put_new_1, s_P_put_new_2] [some (.ref t), some th, some (.int k)] H1 fun fl _ H' => ∃ v, retv fl v ∧ Q v H' := by
    intro k H1 hk g
    simp only [qx_1, qx_2, qx_3, qx_4, qx_5, qx_6, qx_7, qx_8, qx_9, qx_10, qx_11, qx_13, qx_15, qx_16, qx_17, qx_18, qx_19, qx_20, qx_21, qx_22, qx_23, qx_24, qx_25, qx_26, qt_1, qt_2, qt_3, qt_4, qt_5, qt_6, qt_7, qt_9, qt_10, qt_11, qt_12, qt_13, ql_1, ql_2, qa_1, qa_2, qb_1, qb_2, qo_1, qo_2, qc_1, qc_2, k_n, k_r, k_1, k_2, k_3, k_4, k_5, k_6, k_7, k_8, k_9, qs_1, add_i, sub_i, mul_i, div_i, mod_i, pow_i, eq_i, ne_i, eq_s, ne_s, eq_b, ne_b, lt_i, le_i, gt_i, ge_i, ret_v, ret_n, tru_b, vk_i, vk_s, vk_t, vk_n, vk_b, is_nn, is_in, is_sn, is_tn, is_rn, isn_nn, isn_tn, zn1, zn2, zn3, zn4, zn5, zn6, zn7, zn8, beq_self_eq_true, then_n, then_r, thenR_n, thenR_r, loop_n, loop_r, zl1, zl2, zl3, zl4, rng_1, rng_2, int_b, str_i, max_i, min_i, len_t, list_t, zl7, zl8, List.replicate, zl9, zl10, List.set, zl5, zl6, zo1, zo3, zo2, Nat.reduceSub, zl11, zl12, zn9, if_false, if_true, zn10, zn11, Bool.not_true, Bool.not_false, zn12, zn13, reduceCtorEq, zn15, zn14, zn18, zn16, zn17, forall_const, zb1, zb2, zb3, zb4, zb5, zb6, zb7, decide_true, decide_false, eq_self, s_P_put_new_1]
    refine setD (g _ _ ht) (by first | decide | with_reducible first | assumption | exact zm0 (by decide) | exact zm1 (by decide) (by decide) | exact zm3 (by assumption) (by decide) | omega) ?_
    rw [stored_new hk.new]
    simp only [qx_1, qx_2, qx_3, qx_4, qx_5, qx_6, qx_7, qx_8, qx_9, qx_10, qx_11, qx_13, qx_15, qx_16, qx_17, qx_18, qx_19, qx_20, qx_21, qx_22, qx_23, qx_24, qx_25, qx_26, qt_1, qt_2, qt_3, qt_4, qt_5, qt_6, qt_7, qt_9, qt_10, qt_11, qt_12, qt_13, ql_1, ql_2, qa_1, qa_2, qb_1, qb_2, qo_1, qo_2, qc_1, qc_2, k_n, k_r, k_1, k_2, k_3, k_4, k_5, k_6, k_7, k_8, k_9, qs_1, add_i, sub_i, mul_i, div_i, mod_i, pow_i, eq_i, ne_i, eq_s, ne_s, eq_b, ne_b, lt_i, le_i, gt_i, ge_i, ret_v, ret_n, tru_b, vk_i, vk_s, vk_t, vk_n, vk_b, is_nn, is_in, is_sn, is_tn, is_rn, isn_nn, isn_tn, zn1, zn2, zn3, zn4, zn5, zn6, zn7, zn8, beq_self_eq_true, then_n, then_r, thenR_n, thenR_r, loop_n, loop_r, zl1, zl2, zl3, zl4, rng_1, rng_2, int_b, str_i, max_i, min_i, len_t, list_t, zl7, zl8, List.replicate, zl9, zl10, List.set, zl5, zl6, zo1, zo3, zo2, Nat.reduceSub, zl11, zl12, zn9, if_false, if_true, zn10, zn11, Bool.not_true, Bool.not_false, zn12, zn13, reduceCtorEq, zn15, zn14, zn18, zn16, zn17, forall_const, zb1, zb2, zb3, zb4, zb5, zb6, zb7, decide_true, decide_false, eq_self, s_P_put_new_2]
    exact ⟨by simp, hQ k _ hk (fun a ob ha h => by rw [AH.set_ne _ _ ha]; exact g _ _ h) (AH.set_self _ _ _)⟩
  refine listD ht (by first | decide | with_reducible first | assumption | exact zm0 (by decide) | exact zm1 (by decide) (by decide) | exact zm3 (by assumption) (by decide) | omega) fun r hr => ⟨1, rfl, true, keys T, by rw [AH.set_self, List.map_map]; rfl, fun e => ?_, fun m hm hall => ?_⟩
  · simp only [qx_1, qx_2, qx_3, qx_4, qx_5, qx_6, qx_7, qx_8, qx_9, qx_10, qx_11, qx_13, qx_15, qx_16, qx_17, qx_18, qx_19, qx_20, qx_21, qx_22, qx_23, qx_24, qx_25, qx_26, qt_1, qt_2, qt_3, qt_4, qt_5, qt_6, qt_7, qt_9, qt_10, qt_11, qt_12, qt_13, ql_1, ql_2, qa_1, qa_2, qb_1, qb_2, qo_1, qo_2, qc_1, qc_2, k_n, k_r, k_1, k_2, k_3, k_4, k_5, k_6, k_7, k_8, k_9, qs_1, add_i, sub_i, mul_i, div_i, mod_i, pow_i, eq_i, ne_i, eq_s, ne_s, eq_b, ne_b, lt_i, le_i, gt_i, ge_i, ret_v, ret_n, tru_b, vk_i, vk_s, vk_t, vk_n, vk_b, is_nn, is_in, is_sn, is_tn, is_rn, isn_nn, isn_tn, zn1, zn2, zn3, zn4, zn5, zn6, zn7, zn8, beq_self_eq_true, then_n, then_r, thenR_n, thenR_r, loop_n, loop_r, zl1, zl2, zl3, zl4, rng_1, rng_2, int_b, str_i, max_i, min_i, len_t, list_t, zl7, zl8, List.replicate, zl9, zl10, List.set, zl5, zl6, zo1, zo3, zo2, Nat.reduceSub, zl11, zl12, zn9, if_false, if_true, zn10, zn11, Bool.not_true, Bool.not_false, zn12, zn13, reduceCtorEq, zn15, zn14, zn18, zn16, zn17, forall_const, zb1, zb2, zb3, zb4, zb5, zb6, zb7, decide_true, decide_false, eq_self]
    exact fin _ _ (.inl ⟨e, rfl⟩) fun _ _ h => AH.set_of h hr
  · simp only [qx_1, qx_2, qx_3, qx_4, qx_5, qx_6, qx_7, qx_8, qx_9, qx_10, qx_11, qx_13, qx_15, qx_16, qx_17, qx_18, qx_19, qx_20, qx_21, qx_22, qx_23, qx_24, qx_25, qx_26, qt_1, qt_2, qt_3, qt_4, qt_5, qt_6, qt_7, qt_9, qt_10, qt_11, qt_12, qt_13, ql_1, ql_2, qa_1, qa_2, qb_1, qb_2, qo_1, qo_2, qc_1, qc_2, k_n, k_r, k_1, k_2, k_3, k_4, k_5, k_6, k_7, k_8, k_9, qs_1, add_i, sub_i, mul_i, div_i, mod_i, pow_i, eq_i, ne_i, eq_s, ne_s, eq_b, ne_b, lt_i, le_i, gt_i, ge_i, ret_v, ret_n, tru_b, vk_i, vk_s, vk_t, vk_n, vk_b, is_nn, is_in, is_sn, is_tn, is_rn, isn_nn, isn_tn, zn1, zn2, zn3, zn4, zn5, zn6, zn7, zn8, beq_self_eq_true, then_n, then_r, thenR_n, thenR_r, loop_n, loop_r, zl1, zl2, zl3, zl4, rng_1, rng_2, int_b, str_i, max_i, min_i, len_t, list_t, zl7, zl8, List.replicate, zl9, zl10, List.set, zl5, zl6, zo1, zo3, zo2, Nat.reduceSub, zl11, zl12, zn9, if_false, if_true, zn10, zn11, Bool.not_true, Bool.not_false, zn12, zn13, reduceCtorEq, zn15, zn14, zn18, zn16, zn17, forall_const, zb1, zb2, zb3, zb4, zb5, zb6, zb7, decide_true, decide_false, eq_self]
    exact fin _ _ (.inr ⟨by rw [Int.add_sub_cancel]; exact hm, fun x hx => by rw [Int.add_sub_cancel]; exact hall x hx⟩) fun _ _ h => AH.set_of h hr

/-! ## what a step gives -/
noncomputable def atX : AV → Int
  | .tup [_, .int x] => x
  | _ => 0
noncomputable def inBox (T : List (Int × AV)) (x : Int) : AV := match keyAt T x with
  | some (.tup [_, y]) => y
  | _ => .none
/-- the things behind, the values pushed, the values left -/
noncomputable def outT (w : Str) (k : Int) (s : List AV) (T : List (Int × AV)) : List (Int × AV) := if w = "box" then T ++ [(k, .tup [.str "box", topV s])] else if w = "open" then T else storedA T (atX (undV s)) (.tup [.str "box", topV s])
noncomputable def newL (w : Str) (k : Int) (s : List AV) (T : List (Int × AV)) : List AV := if w = "box" then [.tup [.str "at", .int k]] else if w = "open" then [inBox T (atX (topV s))] else []
noncomputable def restL (w : Str) (s : List AV) : List AV := s.take (s.length - (popI w).toNat)
theorem box_at {T : List (Int × AV)} {v : AV} (hv : IsVal (keys T) v) (hV : ∀ kv ∈ T, IsThing (keys T) kv.2) (h : isBox T v = true) : ∃ x y, v = .tup [.str "at", .int x] ∧ x ∈ keys T ∧ keyAt T x = some (.tup [.str "box", y]) ∧ inBox T x = y ∧ IsVal (keys T) y := by
  rcases hv with ⟨i, rfl, _⟩ | ⟨x, hx, rfl⟩
  · cases h
  · obtain ⟨u, hu⟩ := keyAt_key hx
    have h' : boxAt T x = true := h
    unfold boxAt at h'
    rw [hu] at h'
    rcases hV _ (keyAt_mem hu) with ⟨y, e, hy⟩ | ⟨j, l, e, _⟩
    · cases e; exact ⟨x, y, rfl, hx, hu, by unfold inBox; rw [hu], hy⟩
    · cases e; exact absurd (show decide (("fun" : Str) = "box") = true from h') (by decide)

theorem pushed_ok (hc : Tab c) {w : Str} {t : Nat} {o : AV} {T : List (Int × AV)} {s : List AV} {Q : AV → AH → Prop} (hw : w ∈ W3) (ht : H t = some (.dict true T)) (hT : T.length ≤ 200) (hV : ∀ kv ∈ T, IsThing (keys T) kv.2) (hs : Vals (keys T) s) (hp : popI w ≤ s.length) (hr : rightB w s T = true)
    (hQ : ∀ k H', IsNum T k → (∀ a ob, a ≠ t → H a = some ob → H' a = some ob) → H' t = some (.dict true (outT w k s T)) → Q (.tup (newL w k s T)) H') : CW c (n + 2) i_P_pushed [.tup [.str w], o, .tup (s.drop (restL w s).length), .ref t] H Q := by
  refine CW.run (f := "pushed") (ir := ir_P_pushed) (by rw [hc.fns]; rfl) rfl ?_
  obtain ⟨p1, p2⟩ := popI_le w
  simp only [qx_1, qx_2, qx_3, qx_4, qx_5, qx_6, qx_7, qx_8, qx_9, qx_10, qx_11, qx_13, qx_15, qx_16, qx_17, qx_18, qx_19, qx_20, qx_21, qx_22, qx_23, qx_24, qx_25, qx_26, qt_1, qt_2, qt_3, qt_4, qt_5, qt_6, qt_7, qt_9, qt_10, qt_11, qt_12, qt_13, ql_1, ql_2, qa_1, qa_2, qb_1, qb_2, qo_1, qo_2, qc_1, qc_2, k_n, k_r, k_1, k_2, k_3, k_4, k_5, k_6, k_7, k_8, k_9, qs_1, add_i, sub_i, mul_i, div_i, mod_i, pow_i, eq_i, ne_i, eq_s, ne_s, eq_b, ne_b, lt_i, le_i, gt_i, ge_i, ret_v, ret_n, tru_b, vk_i, vk_s, vk_t, vk_n, vk_b, is_nn, is_in, is_sn, is_tn, is_rn, isn_nn, isn_tn, zn1, zn2, zn3, zn4, zn5, zn6, zn7, zn8, beq_self_eq_true, then_n, then_r, thenR_n, thenR_r, loop_n, loop_r, zl1, zl2, zl3, zl4, rng_1, rng_2, int_b, str_i, max_i, min_i, len_t, list_t, zl7, zl8, List.replicate, zl9, zl10, List.set, zl5, zl6, zo1, zo3, zo2, Nat.reduceSub, zl11, zl12, zn9, if_false, if_true, zn10, zn11, Bool.not_true, Bool.not_false, zn12, zn13, reduceCtorEq, zn15, zn14, zn18, zn16, zn17, forall_const, zb1, zb2, zb3, zb4, zb5, zb6, zb7, decide_true, decide_false, eq_self, ir_P_pushed, s_P_pushed_0]
  refine row0 ?_
  simp only [qx_1, qx_2, qx_3, qx_4, qx_5, qx_6, qx_7, qx_8, qx_9, qx_10, qx_11, qx_13, qx_15, qx_16, qx_17, qx_18, qx_19, qx_20, qx_21, qx_22, qx_23, qx_24, qx_25, qx_26, qt_1, qt_2, qt_3, qt_4, qt_5, qt_6, qt_7, qt_9, qt_10, qt_11, qt_12, qt_13, ql_1, ql_2, qa_1, qa_2, qb_1, qb_2, qo_1, qo_2, qc_1, qc_2, k_n, k_r, k_1, k_2, k_3, k_4, k_5, k_6, k_7, k_8, k_9, qs_1, add_i, sub_i, mul_i, div_i, mod_i, pow_i, eq_i, ne_i, eq_s, ne_s, eq_b, ne_b, lt_i, le_i, gt_i, ge_i, ret_v, ret_n, tru_b, vk_i, vk_s, vk_t, vk_n, vk_b, is_nn, is_in, is_sn, is_tn, is_rn, isn_nn, isn_tn, zn1, zn2, zn3, zn4, zn5, zn6, zn7, zn8, beq_self_eq_true, then_n, then_r, thenR_n, thenR_r, loop_n, loop_r, zl1, zl2, zl3, zl4, rng_1, rng_2, int_b, str_i, max_i, min_i, len_t, list_t, zl7, zl8, List.replicate, zl9, zl10, List.set, zl5, zl6, zo1, zo3, zo2, Nat.reduceSub, zl11, zl12, zn9, if_false, if_true, zn10, zn11, Bool.not_true, Bool.not_false, zn12, zn13, reduceCtorEq, zn15, zn14, zn18, zn16, zn17, forall_const, zb1, zb2, zb3, zb4, zb5, zb6, zb7, decide_true, decide_false, eq_self, s_P_pushed_1]
  refine ⟨fun e => absurd e (no_eq hw _ (by decide)), fun _ => ?_⟩
  simp only [qx_1, qx_2, qx_3, qx_4, qx_5, qx_6, qx_7, qx_8, qx_9, qx_10, qx_11, qx_13, qx_15, qx_16, qx_17, qx_18, qx_19, qx_20, qx_21, qx_22, qx_23, qx_24, qx_25, qx_26, qt_1, qt_2, qt_3, qt_4, qt_5, qt_6, qt_7, qt_9, qt_10, qt_11, qt_12, qt_13, ql_1, ql_2, qa_1, qa_2, qb_1, qb_2, qo_1, qo_2, qc_1, qc_2, k_n, k_r, k_1, k_2, k_3, k_4, k_5, k_6, k_7, k_8, k_9, qs_1, add_i, sub_i, mul_i, div_i, mod_i, pow_i, eq_i, ne_i, eq_s, ne_s, eq_b, ne_b, lt_i, le_i, gt_i, ge_i, ret_v, ret_n, tru_b, vk_i, vk_s, vk_t, vk_n, vk_b, is_nn, is_in, is_sn, is_tn, is_rn, isn_nn, isn_tn, zn1, zn2, zn3, zn4, zn5, zn6, zn7, zn8, beq_self_eq_true, then_n, then_r, thenR_n, thenR_r, loop_n, loop_r, zl1, zl2, zl3, zl4, rng_1, rng_2, int_b, str_i, max_i, min_i, len_t, list_t, zl7, zl8, List.replicate, zl9, zl10, List.set, zl5, zl6, zo1, zo3, zo2, Nat.reduceSub, zl11, zl12, zn9, if_false, if_true, zn10, zn11, Bool.not_true, Bool.not_false, zn12, zn13, reduceCtorEq, zn15, zn14, zn18, zn16, zn17, forall_const, zb1, zb2, zb3, zb4, zb5, zb6, zb7, decide_true, decide_false, eq_self, s_P_pushed_2]
  refine ⟨fun e => absurd e (no_eq hw _ (by decide)), fun _ => ?_⟩
  simp only [qx_1, qx_2, qx_3, qx_4, qx_5, qx_6, qx_7, qx_8, qx_9, qx_10, qx_11, qx_13, qx_15, qx_16, qx_17, qx_18, qx_19, qx_20, qx_21, qx_22, qx_23, qx_24, qx_25, qx_26, qt_1, qt_2, qt_3, qt_4, qt_5, qt_6, qt_7, qt_9, qt_10, qt_11, qt_12, qt_13, ql_1, ql_2, qa_1, qa_2, qb_1, qb_2, qo_1, qo_2, qc_1, qc_2, k_n, k_r, k_1, k_2, k_3, k_4, k_5, k_6, k_7, k_8, k_9, qs_1, add_i, sub_i, mul_i, div_i, mod_i, pow_i, eq_i, ne_i, eq_s, ne_s, eq_b, ne_b, lt_i, le_i, gt_i, ge_i, ret_v, ret_n, tru_b, vk_i, vk_s, vk_t, vk_n, vk_b, is_nn, is_in, is_sn, is_tn, is_rn, isn_nn, isn_tn, zn1, zn2, zn3, zn4, zn5, zn6, zn7, zn8, beq_self_eq_true, then_n, then_r, thenR_n, thenR_r, loop_n, loop_r, zl1, zl2, zl3, zl4, rng_1, rng_2, int_b, str_i, max_i, min_i, len_t, list_t, zl7, zl8, List.replicate, zl9, zl10, List.set, zl5, zl6, zo1, zo3, zo2, Nat.reduceSub, zl11, zl12, zn9, if_false, if_true, zn10, zn11, Bool.not_true, Bool.not_false, zn12, zn13, reduceCtorEq, zn15, zn14, zn18, zn16, zn17, forall_const, zb1, zb2, zb3, zb4, zb5, zb6, zb7, decide_true, decide_false, eq_self, s_P_pushed_3]
  refine ⟨by simp, in_strs ["add", "minus", "times", "less", "same"] (ok3 hw) (by decide +kernel) ?_⟩
  rw [no_in hw _ (by decide)]
  simp only [qx_1, qx_2, qx_3, qx_4, qx_5, qx_6, qx_7, qx_8, qx_9, qx_10, qx_11, qx_13, qx_15, qx_16, qx_17, qx_18, qx_19, qx_20, qx_21, qx_22, qx_23, qx_24, qx_25, qx_26, qt_1, qt_2, qt_3, qt_4, qt_5, qt_6, qt_7, qt_9, qt_10, qt_11, qt_12, qt_13, ql_1, ql_2, qa_1, qa_2, qb_1, qb_2, qo_1, qo_2, qc_1, qc_2, k_n, k_r, k_1, k_2, k_3, k_4, k_5, k_6, k_7, k_8, k_9, qs_1, add_i, sub_i, mul_i, div_i, mod_i, pow_i, eq_i, ne_i, eq_s, ne_s, eq_b, ne_b, lt_i, le_i, gt_i, ge_i, ret_v, ret_n, tru_b, vk_i, vk_s, vk_t, vk_n, vk_b, is_nn, is_in, is_sn, is_tn, is_rn, isn_nn, isn_tn, zn1, zn2, zn3, zn4, zn5, zn6, zn7, zn8, beq_self_eq_true, then_n, then_r, thenR_n, thenR_r, loop_n, loop_r, zl1, zl2, zl3, zl4, rng_1, rng_2, int_b, str_i, max_i, min_i, len_t, list_t, zl7, zl8, List.replicate, zl9, zl10, List.set, zl5, zl6, zo1, zo3, zo2, Nat.reduceSub, zl11, zl12, zn9, if_false, if_true, zn10, zn11, Bool.not_true, Bool.not_false, zn12, zn13, reduceCtorEq, zn15, zn14, zn18, zn16, zn17, forall_const, zb1, zb2, zb3, zb4, zb5, zb6, zb7, decide_true, decide_false, eq_self, s_P_pushed_4, s_P_pushed_4b0]
  unfold outT newL at hQ
  have one : popI w = 1 → ∃ s0 x, s = s0 ++ [x] ∧ s.drop (restL w s).length = [x] := fun e => by
    obtain ⟨s0, x, rfl⟩ := split_last (s := s) (by first | decide | with_reducible first | assumption | exact zm0 (by decide) | exact zm1 (by decide) (by decide) | exact zm3 (by assumption) (by decide) | omega)
    exact ⟨s0, x, rfl, by unfold restL; rw [e]; simp⟩
  refine ⟨fun e => ?_, fun e1 => ?_⟩
  · obtain ⟨s0, x, rfl, hd⟩ := one (by rw [e]; exact if_neg (by decide))
    rw [hd]
    simp only [if_pos e, topV_eq] at hQ
    refine ⟨⟨by simp, by simp, by simp⟩, x, rfl, by simp, put_new_ok hc ht (by first | decide | with_reducible first | assumption | exact zm0 (by decide) | exact zm1 (by decide) (by decide) | exact zm3 (by assumption) (by decide) | omega) fun k H' hk g h1 => ⟨by simp, hQ k H' hk g h1⟩⟩
  simp only [if_neg e1] at hQ
  simp only [qx_1, qx_2, qx_3, qx_4, qx_5, qx_6, qx_7, qx_8, qx_9, qx_10, qx_11, qx_13, qx_15, qx_16, qx_17, qx_18, qx_19, qx_20, qx_21, qx_22, qx_23, qx_24, qx_25, qx_26, qt_1, qt_2, qt_3, qt_4, qt_5, qt_6, qt_7, qt_9, qt_10, qt_11, qt_12, qt_13, ql_1, ql_2, qa_1, qa_2, qb_1, qb_2, qo_1, qo_2, qc_1, qc_2, k_n, k_r, k_1, k_2, k_3, k_4, k_5, k_6, k_7, k_8, k_9, qs_1, add_i, sub_i, mul_i, div_i, mod_i, pow_i, eq_i, ne_i, eq_s, ne_s, eq_b, ne_b, lt_i, le_i, gt_i, ge_i, ret_v, ret_n, tru_b, vk_i, vk_s, vk_t, vk_n, vk_b, is_nn, is_in, is_sn, is_tn, is_rn, isn_nn, isn_tn, zn1, zn2, zn3, zn4, zn5, zn6, zn7, zn8, beq_self_eq_true, then_n, then_r, thenR_n, thenR_r, loop_n, loop_r, zl1, zl2, zl3, zl4, rng_1, rng_2, int_b, str_i, max_i, min_i, len_t, list_t, zl7, zl8, List.replicate, zl9, zl10, List.set, zl5, zl6, zo1, zo3, zo2, Nat.reduceSub, zl11, zl12, zn9, if_false, if_true, zn10, zn11, Bool.not_true, Bool.not_false, zn12, zn13, reduceCtorEq, zn15, zn14, zn18, zn16, zn17, forall_const, zb1, zb2, zb3, zb4, zb5, zb6, zb7, decide_true, decide_false, eq_self, s_P_pushed_5]
  refine ⟨fun e => absurd e (no_eq hw _ (by decide)), fun _ => ?_⟩
  simp only [qx_1, qx_2, qx_3, qx_4, qx_5, qx_6, qx_7, qx_8, qx_9, qx_10, qx_11, qx_13, qx_15, qx_16, qx_17, qx_18, qx_19, qx_20, qx_21, qx_22, qx_23, qx_24, qx_25, qx_26, qt_1, qt_2, qt_3, qt_4, qt_5, qt_6, qt_7, qt_9, qt_10, qt_11, qt_12, qt_13, ql_1, ql_2, qa_1, qa_2, qb_1, qb_2, qo_1, qo_2, qc_1, qc_2, k_n, k_r, k_1, k_2, k_3, k_4, k_5, k_6, k_7, k_8, k_9, qs_1, add_i, sub_i, mul_i, div_i, mod_i, pow_i, eq_i, ne_i, eq_s, ne_s, eq_b, ne_b, lt_i, le_i, gt_i, ge_i, ret_v, ret_n, tru_b, vk_i, vk_s, vk_t, vk_n, vk_b, is_nn, is_in, is_sn, is_tn, is_rn, isn_nn, isn_tn, zn1, zn2, zn3, zn4, zn5, zn6, zn7, zn8, beq_self_eq_true, then_n, then_r, thenR_n, thenR_r, loop_n, loop_r, zl1, zl2, zl3, zl4, rng_1, rng_2, int_b, str_i, max_i, min_i, len_t, list_t, zl7, zl8, List.replicate, zl9, zl10, List.set, zl5, zl6, zo1, zo3, zo2, Nat.reduceSub, zl11, zl12, zn9, if_false, if_true, zn10, zn11, Bool.not_true, Bool.not_false, zn12, zn13, reduceCtorEq, zn15, zn14, zn18, zn16, zn17, forall_const, zb1, zb2, zb3, zb4, zb5, zb6, zb7, decide_true, decide_false, eq_self, s_P_pushed_6, s_P_pushed_6b0]
  obtain ⟨k, hk⟩ := IsNum.ex T
  refine ⟨fun e => ?_, fun e2 => ?_⟩
  · obtain ⟨s0, x, rfl, hd⟩ := one (by rw [e]; exact if_neg (by decide))
    rw [hd]
    simp only [if_pos e, topV_eq] at hQ
    unfold rightB at hr
    rw [if_pos e, topV_eq] at hr
    obtain ⟨z, y, rfl, hz, h1, h2, _⟩ := box_at (hs.2 x (by simp)) hV hr
    refine ⟨⟨by simp, by simp, by simp⟩, _, rfl, ?_⟩
    simp only [qx_1, qx_2, qx_3, qx_4, qx_5, qx_6, qx_7, qx_8, qx_9, qx_10, qx_11, qx_13, qx_15, qx_16, qx_17, qx_18, qx_19, qx_20, qx_21, qx_22, qx_23, qx_24, qx_25, qx_26, qt_1, qt_2, qt_3, qt_4, qt_5, qt_6, qt_7, qt_9, qt_10, qt_11, qt_12, qt_13, ql_1, ql_2, qa_1, qa_2, qb_1, qb_2, qo_1, qo_2, qc_1, qc_2, k_n, k_r, k_1, k_2, k_3, k_4, k_5, k_6, k_7, k_8, k_9, qs_1, add_i, sub_i, mul_i, div_i, mod_i, pow_i, eq_i, ne_i, eq_s, ne_s, eq_b, ne_b, lt_i, le_i, gt_i, ge_i, ret_v, ret_n, tru_b, vk_i, vk_s, vk_t, vk_n, vk_b, is_nn, is_in, is_sn, is_tn, is_rn, isn_nn, isn_tn, zn1, zn2, zn3, zn4, zn5, zn6, zn7, zn8, beq_self_eq_true, then_n, then_r, thenR_n, thenR_r, loop_n, loop_r, zl1, zl2, zl3, zl4, rng_1, rng_2, int_b, str_i, max_i, min_i, len_t, list_t, zl7, zl8, List.replicate, zl9, zl10, List.set, zl5, zl6, zo1, zo3, zo2, Nat.reduceSub, zl11, zl12, zn9, if_false, if_true, zn10, zn11, Bool.not_true, Bool.not_false, zn12, zn13, reduceCtorEq, zn15, zn14, zn18, zn16, zn17, forall_const, zb1, zb2, zb3, zb4, zb5, zb6, zb7, decide_true, decide_false, eq_self, g20, g21, g30, g31, g32, g40, g41, g42, g43]
    refine getD ht h1 ?_
    simp only [qx_1, qx_2, qx_3, qx_4, qx_5, qx_6, qx_7, qx_8, qx_9, qx_10, qx_11, qx_13, qx_15, qx_16, qx_17, qx_18, qx_19, qx_20, qx_21, qx_22, qx_23, qx_24, qx_25, qx_26, qt_1, qt_2, qt_3, qt_4, qt_5, qt_6, qt_7, qt_9, qt_10, qt_11, qt_12, qt_13, ql_1, ql_2, qa_1, qa_2, qb_1, qb_2, qo_1, qo_2, qc_1, qc_2, k_n, k_r, k_1, k_2, k_3, k_4, k_5, k_6, k_7, k_8, k_9, qs_1, add_i, sub_i, mul_i, div_i, mod_i, pow_i, eq_i, ne_i, eq_s, ne_s, eq_b, ne_b, lt_i, le_i, gt_i, ge_i, ret_v, ret_n, tru_b, vk_i, vk_s, vk_t, vk_n, vk_b, is_nn, is_in, is_sn, is_tn, is_rn, isn_nn, isn_tn, zn1, zn2, zn3, zn4, zn5, zn6, zn7, zn8, beq_self_eq_true, then_n, then_r, thenR_n, thenR_r, loop_n, loop_r, zl1, zl2, zl3, zl4, rng_1, rng_2, int_b, str_i, max_i, min_i, len_t, list_t, zl7, zl8, List.replicate, zl9, zl10, List.set, zl5, zl6, zo1, zo3, zo2, Nat.reduceSub, zl11, zl12, zn9, if_false, if_true, zn10, zn11, Bool.not_true, Bool.not_false, zn12, zn13, reduceCtorEq, zn15, zn14, zn18, zn16, zn17, forall_const, zb1, zb2, zb3, zb4, zb5, zb6, zb7, decide_true, decide_false, eq_self, g20, g21, g30, g31, g32, g40, g41, g42, g43]
    have hq := hQ k H hk (fun _ _ _ h => h) ht
    rw [show atX (.tup [.str "at", .int z]) = z from rfl, h2] at hq
    exact ⟨by simp, hq⟩
  simp only [if_neg e2] at hQ
  have e3 : w = "fill" := by
    unfold W3 at hw
    simp only [List.mem_cons, List.not_mem_nil, or_false] at hw
    exact (hw.resolve_left e1).resolve_left e2
  have hp2 : popI w = 2 := by unfold popI; rw [if_pos e3]
  obtain ⟨s0, x, y, rfl⟩ := split_two (s := s) (by first | decide | with_reducible first | assumption | exact zm0 (by decide) | exact zm1 (by decide) (by decide) | exact zm3 (by assumption) (by decide) | omega)
  have hd : (s0 ++ [x, y]).drop (restL w (s0 ++ [x, y])).length = [x, y] := by unfold restL; rw [hp2]; simp
  rw [hd]
  unfold rightB at hr
  rw [if_neg e2, if_pos e3, undV_eq] at hr
  obtain ⟨z, u, rfl, hz, h1, h2, _⟩ := box_at (hs.2 x (by simp)) hV hr
  simp only [topV_eq2, undV_eq] at hQ
  simp only [qx_1, qx_2, qx_3, qx_4, qx_5, qx_6, qx_7, qx_8, qx_9, qx_10, qx_11, qx_13, qx_15, qx_16, qx_17, qx_18, qx_19, qx_20, qx_21, qx_22, qx_23, qx_24, qx_25, qx_26, qt_1, qt_2, qt_3, qt_4, qt_5, qt_6, qt_7, qt_9, qt_10, qt_11, qt_12, qt_13, ql_1, ql_2, qa_1, qa_2, qb_1, qb_2, qo_1, qo_2, qc_1, qc_2, k_n, k_r, k_1, k_2, k_3, k_4, k_5, k_6, k_7, k_8, k_9, qs_1, add_i, sub_i, mul_i, div_i, mod_i, pow_i, eq_i, ne_i, eq_s, ne_s, eq_b, ne_b, lt_i, le_i, gt_i, ge_i, ret_v, ret_n, tru_b, vk_i, vk_s, vk_t, vk_n, vk_b, is_nn, is_in, is_sn, is_tn, is_rn, isn_nn, isn_tn, zn1, zn2, zn3, zn4, zn5, zn6, zn7, zn8, beq_self_eq_true, then_n, then_r, thenR_n, thenR_r, loop_n, loop_r, zl1, zl2, zl3, zl4, rng_1, rng_2, int_b, str_i, max_i, min_i, len_t, list_t, zl7, zl8, List.replicate, zl9, zl10, List.set, zl5, zl6, zo1, zo3, zo2, Nat.reduceSub, zl11, zl12, zn9, if_false, if_true, zn10, zn11, Bool.not_true, Bool.not_false, zn12, zn13, reduceCtorEq, zn15, zn14, zn18, zn16, zn17, forall_const, zb1, zb2, zb3, zb4, zb5, zb6, zb7, decide_true, decide_false, eq_self, s_P_pushed_7, s_P_pushed_7b0]
  refine ⟨fun _ => ?_, fun e => absurd e3 e⟩
  simp only [qx_1, qx_2, qx_3, qx_4, qx_5, qx_6, qx_7, qx_8, qx_9, qx_10, qx_11, qx_13, qx_15, qx_16, qx_17, qx_18, qx_19, qx_20, qx_21, qx_22, qx_23, qx_24, qx_25, qx_26, qt_1, qt_2, qt_3, qt_4, qt_5, qt_6, qt_7, qt_9, qt_10, qt_11, qt_12, qt_13, ql_1, ql_2, qa_1, qa_2, qb_1, qb_2, qo_1, qo_2, qc_1, qc_2, k_n, k_r, k_1, k_2, k_3, k_4, k_5, k_6, k_7, k_8, k_9, qs_1, add_i, sub_i, mul_i, div_i, mod_i, pow_i, eq_i, ne_i, eq_s, ne_s, eq_b, ne_b, lt_i, le_i, gt_i, ge_i, ret_v, ret_n, tru_b, vk_i, vk_s, vk_t, vk_n, vk_b, is_nn, is_in, is_sn, is_tn, is_rn, isn_nn, isn_tn, zn1, zn2, zn3, zn4, zn5, zn6, zn7, zn8, beq_self_eq_true, then_n, then_r, thenR_n, thenR_r, loop_n, loop_r, zl1, zl2, zl3, zl4, rng_1, rng_2, int_b, str_i, max_i, min_i, len_t, list_t, zl7, zl8, List.replicate, zl9, zl10, List.set, zl5, zl6, zo1, zo3, zo2, Nat.reduceSub, zl11, zl12, zn9, if_false, if_true, zn10, zn11, Bool.not_true, Bool.not_false, zn12, zn13, reduceCtorEq, zn15, zn14, zn18, zn16, zn17, forall_const, zb1, zb2, zb3, zb4, zb5, zb6, zb7, decide_true, decide_false, eq_self, g20, g21, g30, g31, g32, g40, g41, g42, g43]
  refine ⟨by simp, setD ht (by first | decide | with_reducible first | assumption | exact zm0 (by decide) | exact zm1 (by decide) (by decide) | exact zm3 (by assumption) (by decide) | omega) ?_⟩
  simp only [qx_1, qx_2, qx_3, qx_4, qx_5, qx_6, qx_7, qx_8, qx_9, qx_10, qx_11, qx_13, qx_15, qx_16, qx_17, qx_18, qx_19, qx_20, qx_21, qx_22, qx_23, qx_24, qx_25, qx_26, qt_1, qt_2, qt_3, qt_4, qt_5, qt_6, qt_7, qt_9, qt_10, qt_11, qt_12, qt_13, ql_1, ql_2, qa_1, qa_2, qb_1, qb_2, qo_1, qo_2, qc_1, qc_2, k_n, k_r, k_1, k_2, k_3, k_4, k_5, k_6, k_7, k_8, k_9, qs_1, add_i, sub_i, mul_i, div_i, mod_i, pow_i, eq_i, ne_i, eq_s, ne_s, eq_b, ne_b, lt_i, le_i, gt_i, ge_i, ret_v, ret_n, tru_b, vk_i, vk_s, vk_t, vk_n, vk_b, is_nn, is_in, is_sn, is_tn, is_rn, isn_nn, isn_tn, zn1, zn2, zn3, zn4, zn5, zn6, zn7, zn8, beq_self_eq_true, then_n, then_r, thenR_n, thenR_r, loop_n, loop_r, zl1, zl2, zl3, zl4, rng_1, rng_2, int_b, str_i, max_i, min_i, len_t, list_t, zl7, zl8, List.replicate, zl9, zl10, List.set, zl5, zl6, zo1, zo3, zo2, Nat.reduceSub, zl11, zl12, zn9, if_false, if_true, zn10, zn11, Bool.not_true, Bool.not_false, zn12, zn13, reduceCtorEq, zn15, zn14, zn18, zn16, zn17, forall_const, zb1, zb2, zb3, zb4, zb5, zb6, zb7, decide_true, decide_false, eq_self, s_P_pushed_8]
  exact ⟨by simp, hQ k _ hk (fun a ob ha h => by rw [AH.set_ne _ _ ha]; exact h) (AH.set_self _ _ _)⟩

theorem place_behind_ok (hc : Tab c) {w : Str} {q : Int} {pl : AV} {Q : AV → AH → Prop} (hw : w ∈ W3) (hQ : Q (.int (q + 1)) H) : CW c (n + 1) i_P_place_behind [.tup [.str w], .int q, pl] H Q := by
  refine CW.run (f := "place_behind") (ir := ir_P_place_behind) (by rw [hc.fns]; rfl) rfl ?_
  simp only [qx_1, qx_2, qx_3, qx_4, qx_5, qx_6, qx_7, qx_8, qx_9, qx_10, qx_11, qx_13, qx_15, qx_16, qx_17, qx_18, qx_19, qx_20, qx_21, qx_22, qx_23, qx_24, qx_25, qx_26, qt_1, qt_2, qt_3, qt_4, qt_5, qt_6, qt_7, qt_9, qt_10, qt_11, qt_12, qt_13, ql_1, ql_2, qa_1, qa_2, qb_1, qb_2, qo_1, qo_2, qc_1, qc_2, k_n, k_r, k_1, k_2, k_3, k_4, k_5, k_6, k_7, k_8, k_9, qs_1, add_i, sub_i, mul_i, div_i, mod_i, pow_i, eq_i, ne_i, eq_s, ne_s, eq_b, ne_b, lt_i, le_i, gt_i, ge_i, ret_v, ret_n, tru_b, vk_i, vk_s, vk_t, vk_n, vk_b, is_nn, is_in, is_sn, is_tn, is_rn, isn_nn, isn_tn, zn1, zn2, zn3, zn4, zn5, zn6, zn7, zn8, beq_self_eq_true, then_n, then_r, thenR_n, thenR_r, loop_n, loop_r, zl1, zl2, zl3, zl4, rng_1, rng_2, int_b, str_i, max_i, min_i, len_t, list_t, zl7, zl8, List.replicate, zl9, zl10, List.set, zl5, zl6, zo1, zo3, zo2, Nat.reduceSub, zl11, zl12, zn9, if_false, if_true, zn10, zn11, Bool.not_true, Bool.not_false, zn12, zn13, reduceCtorEq, zn15, zn14, zn18, zn16, zn17, forall_const, zb1, zb2, zb3, zb4, zb5, zb6, zb7, decide_true, decide_false, eq_self, ir_P_place_behind, s_P_place_behind_0b0, s_P_place_behind_0, s_P_place_behind_1]
  refine row0 ?_
  simp only [qx_1, qx_2, qx_3, qx_4, qx_5, qx_6, qx_7, qx_8, qx_9, qx_10, qx_11, qx_13, qx_15, qx_16, qx_17, qx_18, qx_19, qx_20, qx_21, qx_22, qx_23, qx_24, qx_25, qx_26, qt_1, qt_2, qt_3, qt_4, qt_5, qt_6, qt_7, qt_9, qt_10, qt_11, qt_12, qt_13, ql_1, ql_2, qa_1, qa_2, qb_1, qb_2, qo_1, qo_2, qc_1, qc_2, k_n, k_r, k_1, k_2, k_3, k_4, k_5, k_6, k_7, k_8, k_9, qs_1, add_i, sub_i, mul_i, div_i, mod_i, pow_i, eq_i, ne_i, eq_s, ne_s, eq_b, ne_b, lt_i, le_i, gt_i, ge_i, ret_v, ret_n, tru_b, vk_i, vk_s, vk_t, vk_n, vk_b, is_nn, is_in, is_sn, is_tn, is_rn, isn_nn, isn_tn, zn1, zn2, zn3, zn4, zn5, zn6, zn7, zn8, beq_self_eq_true, then_n, then_r, thenR_n, thenR_r, loop_n, loop_r, zl1, zl2, zl3, zl4, rng_1, rng_2, int_b, str_i, max_i, min_i, len_t, list_t, zl7, zl8, List.replicate, zl9, zl10, List.set, zl5, zl6, zo1, zo3, zo2, Nat.reduceSub, zl11, zl12, zn9, if_false, if_true, zn10, zn11, Bool.not_true, Bool.not_false, zn12, zn13, reduceCtorEq, zn15, zn14, zn18, zn16, zn17, forall_const, zb1, zb2, zb3, zb4, zb5, zb6, zb7, decide_true, decide_false, eq_self]
  refine ⟨fun _ => row0 ?_, fun e => absurd e (no_eq hw _ (by decide))⟩
  simp only [qx_1, qx_2, qx_3, qx_4, qx_5, qx_6, qx_7, qx_8, qx_9, qx_10, qx_11, qx_13, qx_15, qx_16, qx_17, qx_18, qx_19, qx_20, qx_21, qx_22, qx_23, qx_24, qx_25, qx_26, qt_1, qt_2, qt_3, qt_4, qt_5, qt_6, qt_7, qt_9, qt_10, qt_11, qt_12, qt_13, ql_1, ql_2, qa_1, qa_2, qb_1, qb_2, qo_1, qo_2, qc_1, qc_2, k_n, k_r, k_1, k_2, k_3, k_4, k_5, k_6, k_7, k_8, k_9, qs_1, add_i, sub_i, mul_i, div_i, mod_i, pow_i, eq_i, ne_i, eq_s, ne_s, eq_b, ne_b, lt_i, le_i, gt_i, ge_i, ret_v, ret_n, tru_b, vk_i, vk_s, vk_t, vk_n, vk_b, is_nn, is_in, is_sn, is_tn, is_rn, isn_nn, isn_tn, zn1, zn2, zn3, zn4, zn5, zn6, zn7, zn8, beq_self_eq_true, then_n, then_r, thenR_n, thenR_r, loop_n, loop_r, zl1, zl2, zl3, zl4, rng_1, rng_2, int_b, str_i, max_i, min_i, len_t, list_t, zl7, zl8, List.replicate, zl9, zl10, List.set, zl5, zl6, zo1, zo3, zo2, Nat.reduceSub, zl11, zl12, zn9, if_false, if_true, zn10, zn11, Bool.not_true, Bool.not_false, zn12, zn13, reduceCtorEq, zn15, zn14, zn18, zn16, zn17, forall_const, zb1, zb2, zb3, zb4, zb5, zb6, zb7, decide_true, decide_false, eq_self]
  exact ⟨fun e => absurd e (no_eq hw _ (by decide)), fun _ => hQ⟩
end
end Mine

set_option maxRecDepth 100000
set_option autoImplicit false
set_option linter.unusedSimpArgs false
set_option linter.unusedVariables false
namespace Mine
open PySem PyProof.Rows

noncomputable def isN : AV → Bool
  | .none => true
  | _ => false
theorem isN_str (x : Str) : isN (.str x) = false := rfl
noncomputable def outE (w : Str) (s : List AV) (T : List (Int × AV)) : AV := if isN (stuckV w s T) = true then .none else .tup [.str "stuck", stuckV w s T]
noncomputable def outL (w : Str) (k b q : Int) (o s : List AV) (T : List (Int × AV)) : AV := if isN (stuckV w s T) = true then .tup [.int b, .int (q + 1), .tup o, .tup (restL w s ++ newL w k s T)] else .tup [.int b, .int q, .tup o, .tup s]
noncomputable def outTT (w : Str) (k : Int) (s : List AV) (T : List (Int × AV)) : List (Int × AV) := if isN (stuckV w s T) = true then outT w k s T else T
theorem stuck_none {w : Str} {s : List AV} {T : List (Int × AV)} (h : isN (stuckV w s T) = true) : popI w ≤ s.length ∧ rightB w s T = true := by
  unfold stuckV at h
  split at h
  · cases h
  · split at h
    · cases h
    · rename_i a b
      exact ⟨by first | decide | with_reducible first | assumption | exact zm0 (by decide) | exact zm1 (by decide) (by decide) | exact zm3 (by assumption) (by decide) | omega, by simpa using b⟩
theorem stuck_cases (w : Str) (s : List AV) (T : List (Int × AV)) : stuckV w s T = .none ∨ ∃ x : Str, stuckV w s T = .str x := by
  unfold stuckV
  split
  · exact .inr ⟨_, rfl⟩
  · split
    · exact .inr ⟨_, rfl⟩
    · exact .inl rfl
structure Behind (H H' : AH) (f' t' : Nat) (F' : List AV) (T : List (Int × AV)) : Prop where
  f0 : H f' = none
  t0 : H t' = none
  ne : f' ≠ t'
  g : ∀ a o, H a = some o → H' a = some o
  hf : H' f' = some (.list true F')
  ht : H' t' = some (.dict true T)

section
variable {c : Cx} {n : Nat} {H : AH}

theorem stepped_ok (hc : Tab c) {p f t : Nat} {B : List (List AV)} {F0 : List AV} {b q : Int} {o s : List AV} {T : List (Int × AV)} {w : Str} {Q : AV → AH → Prop} (h : Tp H p f t B F0 b q o s T w)
    (hQ : ∀ (k : Int) (f' t' : Nat) (H' : AH), IsNum T k → Behind H H' f' t' (F0 ++ [outL w k b q o s T]) (outTT w k s T) → Q (.tup [.tup [outE w s T, .ref f', .ref t'], .none]) H') : CW c (n + 5) i_P_stepped [.ref p, .tup [.none, .ref f, .ref t]] H Q := by
  refine CW.run (f := "stepped") (ir := ir_P_stepped) (by rw [hc.fns]; rfl) rfl ?_
  obtain ⟨ow, hf⟩ := h.fr
  obtain ⟨ot, ht⟩ := h.th
  have hw := h.hw
  have ho := h.ho.1
  have hs := h.hs.1
  have hF := h.hF
  have hT := h.hT
  simp only [qx_1, qx_2, qx_3, qx_4, qx_5, qx_6, qx_7, qx_8, qx_9, qx_10, qx_11, qx_13, qx_15, qx_16, qx_17, qx_18, qx_19, qx_20, qx_21, qx_22, qx_23, qx_24, qx_25, qx_26, qt_1, qt_2, qt_3, qt_4, qt_5, qt_6, qt_7, qt_9, qt_10, qt_11, qt_12, qt_13, ql_1, ql_2, qa_1, qa_2, qb_1, qb_2, qo_1, qo_2, qc_1, qc_2, k_n, k_r, k_1, k_2, k_3, k_4, k_5, k_6, k_7, k_8, k_9, qs_1, add_i, sub_i, mul_i, div_i, mod_i, pow_i, eq_i, ne_i, eq_s, ne_s, eq_b, ne_b, lt_i, le_i, gt_i, ge_i, ret_v, ret_n, tru_b, vk_i, vk_s, vk_t, vk_n, vk_b, is_nn, is_in, is_sn, is_tn, is_rn, isn_nn, isn_tn, zn1, zn2, zn3, zn4, zn5, zn6, zn7, zn8, beq_self_eq_true, then_n, then_r, thenR_n, thenR_r, loop_n, loop_r, zl1, zl2, zl3, zl4, rng_1, rng_2, int_b, str_i, max_i, min_i, len_t, list_t, zl7, zl8, List.replicate, zl9, zl10, List.set, zl5, zl6, zo1, zo3, zo2, Nat.reduceSub, zl11, zl12, zn9, if_false, if_true, zn10, zn11, Bool.not_true, Bool.not_false, zn12, zn13, reduceCtorEq, zn15, zn14, zn18, zn16, zn17, forall_const, zb1, zb2, zb3, zb4, zb5, zb6, zb7, decide_true, decide_false, eq_self, ir_P_stepped, s_P_stepped_0]
  refine ⟨_, rfl, rfl, ?_⟩
  simp only [qx_1, qx_2, qx_3, qx_4, qx_5, qx_6, qx_7, qx_8, qx_9, qx_10, qx_11, qx_13, qx_15, qx_16, qx_17, qx_18, qx_19, qx_20, qx_21, qx_22, qx_23, qx_24, qx_25, qx_26, qt_1, qt_2, qt_3, qt_4, qt_5, qt_6, qt_7, qt_9, qt_10, qt_11, qt_12, qt_13, ql_1, ql_2, qa_1, qa_2, qb_1, qb_2, qo_1, qo_2, qc_1, qc_2, k_n, k_r, k_1, k_2, k_3, k_4, k_5, k_6, k_7, k_8, k_9, qs_1, add_i, sub_i, mul_i, div_i, mod_i, pow_i, eq_i, ne_i, eq_s, ne_s, eq_b, ne_b, lt_i, le_i, gt_i, ge_i, ret_v, ret_n, tru_b, vk_i, vk_s, vk_t, vk_n, vk_b, is_nn, is_in, is_sn, is_tn, is_rn, isn_nn, isn_tn, zn1, zn2, zn3, zn4, zn5, zn6, zn7, zn8, beq_self_eq_true, then_n, then_r, thenR_n, thenR_r, loop_n, loop_r, zl1, zl2, zl3, zl4, rng_1, rng_2, int_b, str_i, max_i, min_i, len_t, list_t, zl7, zl8, List.replicate, zl9, zl10, List.set, zl5, zl6, zo1, zo3, zo2, Nat.reduceSub, zl11, zl12, zn9, if_false, if_true, zn10, zn11, Bool.not_true, Bool.not_false, zn12, zn13, reduceCtorEq, zn15, zn14, zn18, zn16, zn17, forall_const, zb1, zb2, zb3, zb4, zb5, zb6, zb7, decide_true, decide_false, eq_self, setAll, s_P_stepped_1]
  simp only [qx_1, qx_2, qx_3, qx_4, qx_5, qx_6, qx_7, qx_8, qx_9, qx_10, qx_11, qx_13, qx_15, qx_16, qx_17, qx_18, qx_19, qx_20, qx_21, qx_22, qx_23, qx_24, qx_25, qx_26, qt_1, qt_2, qt_3, qt_4, qt_5, qt_6, qt_7, qt_9, qt_10, qt_11, qt_12, qt_13, ql_1, ql_2, qa_1, qa_2, qb_1, qb_2, qo_1, qo_2, qc_1, qc_2, k_n, k_r, k_1, k_2, k_3, k_4, k_5, k_6, k_7, k_8, k_9, qs_1, add_i, sub_i, mul_i, div_i, mod_i, pow_i, eq_i, ne_i, eq_s, ne_s, eq_b, ne_b, lt_i, le_i, gt_i, ge_i, ret_v, ret_n, tru_b, vk_i, vk_s, vk_t, vk_n, vk_b, is_nn, is_in, is_sn, is_tn, is_rn, isn_nn, isn_tn, zn1, zn2, zn3, zn4, zn5, zn6, zn7, zn8, beq_self_eq_true, then_n, then_r, thenR_n, thenR_r, loop_n, loop_r, zl1, zl2, zl3, zl4, rng_1, rng_2, int_b, str_i, max_i, min_i, len_t, list_t, zl7, zl8, List.replicate, zl9, zl10, List.set, zl5, zl6, zo1, zo3, zo2, Nat.reduceSub, zl11, zl12, zn9, if_false, if_true, zn10, zn11, Bool.not_true, Bool.not_false, zn12, zn13, reduceCtorEq, zn15, zn14, zn18, zn16, zn17, forall_const, zb1, zb2, zb3, zb4, zb5, zb6, zb7, decide_true, decide_false, eq_self, s_P_stepped_2]
  refine stuck_word_ok hc h ?_
  unfold outL outE outTT at hQ
  rcases stuck_cases w s T with e | ⟨x, e⟩
  rotate_left
  · obtain ⟨k, hk⟩ := IsNum.ex T
    rw [e] at hQ ⊢
    rw [isN_str] at hQ
    simp only [Bool.false_eq_true, if_false] at hQ
    have isn : ∀ {x : Str} {B : Bool → AH → Prop}, cmpW .IsNot (.str x) .none H B = B true H := rfl
    simp only [qx_1, qx_2, qx_3, qx_4, qx_5, qx_6, qx_7, qx_8, qx_9, qx_10, qx_11, qx_13, qx_15, qx_16, qx_17, qx_18, qx_19, qx_20, qx_21, qx_22, qx_23, qx_24, qx_25, qx_26, qt_1, qt_2, qt_3, qt_4, qt_5, qt_6, qt_7, qt_9, qt_10, qt_11, qt_12, qt_13, ql_1, ql_2, qa_1, qa_2, qb_1, qb_2, qo_1, qo_2, qc_1, qc_2, k_n, k_r, k_1, k_2, k_3, k_4, k_5, k_6, k_7, k_8, k_9, qs_1, add_i, sub_i, mul_i, div_i, mod_i, pow_i, eq_i, ne_i, eq_s, ne_s, eq_b, ne_b, lt_i, le_i, gt_i, ge_i, ret_v, ret_n, tru_b, vk_i, vk_s, vk_t, vk_n, vk_b, is_nn, is_in, is_sn, is_tn, is_rn, isn_nn, isn_tn, zn1, zn2, zn3, zn4, zn5, zn6, zn7, zn8, beq_self_eq_true, then_n, then_r, thenR_n, thenR_r, loop_n, loop_r, zl1, zl2, zl3, zl4, rng_1, rng_2, int_b, str_i, max_i, min_i, len_t, list_t, zl7, zl8, List.replicate, zl9, zl10, List.set, zl5, zl6, zo1, zo3, zo2, Nat.reduceSub, zl11, zl12, zn9, if_false, if_true, zn10, zn11, Bool.not_true, Bool.not_false, zn12, zn13, reduceCtorEq, zn15, zn14, zn18, zn16, zn17, forall_const, zb1, zb2, zb3, zb4, zb5, zb6, zb7, decide_true, decide_false, eq_self, s_P_stepped_3, s_P_stepped_3b0, isn]
    refine ⟨by simp, listL hf (by simp; omega) fun f' hf' => dictD (AH.set_of ht hf') (by first | decide | with_reducible first | assumption | exact zm0 (by decide) | exact zm1 (by decide) (by decide) | exact zm3 (by assumption) (by decide) | omega) fun t' ht' => ⟨by simp, by simp, ?_⟩⟩
    have hne : f' ≠ t' := fun q => by rw [← q, AH.set_self] at ht'; cases ht'
    exact hQ k f' t' _ hk ⟨hf', by rw [AH.set_ne _ _ hne.symm] at ht'; exact ht', hne, fun a o h => AH.set_of (AH.set_of h hf') ht', AH.set_of (AH.set_self _ _ _) ht', AH.set_self _ _ _⟩
  · have eN : isN (stuckV w s T) = true := by rw [e]; rfl
    simp only [if_pos eN] at hQ
    obtain ⟨c1, c2⟩ := stuck_none eN
    rw [e]
    simp only [qx_1, qx_2, qx_3, qx_4, qx_5, qx_6, qx_7, qx_8, qx_9, qx_10, qx_11, qx_13, qx_15, qx_16, qx_17, qx_18, qx_19, qx_20, qx_21, qx_22, qx_23, qx_24, qx_25, qx_26, qt_1, qt_2, qt_3, qt_4, qt_5, qt_6, qt_7, qt_9, qt_10, qt_11, qt_12, qt_13, ql_1, ql_2, qa_1, qa_2, qb_1, qb_2, qo_1, qo_2, qc_1, qc_2, k_n, k_r, k_1, k_2, k_3, k_4, k_5, k_6, k_7, k_8, k_9, qs_1, add_i, sub_i, mul_i, div_i, mod_i, pow_i, eq_i, ne_i, eq_s, ne_s, eq_b, ne_b, lt_i, le_i, gt_i, ge_i, ret_v, ret_n, tru_b, vk_i, vk_s, vk_t, vk_n, vk_b, is_nn, is_in, is_sn, is_tn, is_rn, isn_nn, isn_tn, zn1, zn2, zn3, zn4, zn5, zn6, zn7, zn8, beq_self_eq_true, then_n, then_r, thenR_n, thenR_r, loop_n, loop_r, zl1, zl2, zl3, zl4, rng_1, rng_2, int_b, str_i, max_i, min_i, len_t, list_t, zl7, zl8, List.replicate, zl9, zl10, List.set, zl5, zl6, zo1, zo3, zo2, Nat.reduceSub, zl11, zl12, zn9, if_false, if_true, zn10, zn11, Bool.not_true, Bool.not_false, zn12, zn13, reduceCtorEq, zn15, zn14, zn18, zn16, zn17, forall_const, zb1, zb2, zb3, zb4, zb5, zb6, zb7, decide_true, decide_false, eq_self, s_P_stepped_3]
    simp only [qx_1, qx_2, qx_3, qx_4, qx_5, qx_6, qx_7, qx_8, qx_9, qx_10, qx_11, qx_13, qx_15, qx_16, qx_17, qx_18, qx_19, qx_20, qx_21, qx_22, qx_23, qx_24, qx_25, qx_26, qt_1, qt_2, qt_3, qt_4, qt_5, qt_6, qt_7, qt_9, qt_10, qt_11, qt_12, qt_13, ql_1, ql_2, qa_1, qa_2, qb_1, qb_2, qo_1, qo_2, qc_1, qc_2, k_n, k_r, k_1, k_2, k_3, k_4, k_5, k_6, k_7, k_8, k_9, qs_1, add_i, sub_i, mul_i, div_i, mod_i, pow_i, eq_i, ne_i, eq_s, ne_s, eq_b, ne_b, lt_i, le_i, gt_i, ge_i, ret_v, ret_n, tru_b, vk_i, vk_s, vk_t, vk_n, vk_b, is_nn, is_in, is_sn, is_tn, is_rn, isn_nn, isn_tn, zn1, zn2, zn3, zn4, zn5, zn6, zn7, zn8, beq_self_eq_true, then_n, then_r, thenR_n, thenR_r, loop_n, loop_r, zl1, zl2, zl3, zl4, rng_1, rng_2, int_b, str_i, max_i, min_i, len_t, list_t, zl7, zl8, List.replicate, zl9, zl10, List.set, zl5, zl6, zo1, zo3, zo2, Nat.reduceSub, zl11, zl12, zn9, if_false, if_true, zn10, zn11, Bool.not_true, Bool.not_false, zn12, zn13, reduceCtorEq, zn15, zn14, zn18, zn16, zn17, forall_const, zb1, zb2, zb3, zb4, zb5, zb6, zb7, decide_true, decide_false, eq_self, s_P_stepped_4]
    refine ⟨1, rfl, getM1 hf (by first | decide | with_reducible first | assumption | exact zm0 (by decide) | exact zm1 (by decide) (by decide) | exact zm3 (by assumption) (by decide) | omega) ⟨_, rfl, rfl, ?_⟩⟩
    simp only [qx_1, qx_2, qx_3, qx_4, qx_5, qx_6, qx_7, qx_8, qx_9, qx_10, qx_11, qx_13, qx_15, qx_16, qx_17, qx_18, qx_19, qx_20, qx_21, qx_22, qx_23, qx_24, qx_25, qx_26, qt_1, qt_2, qt_3, qt_4, qt_5, qt_6, qt_7, qt_9, qt_10, qt_11, qt_12, qt_13, ql_1, ql_2, qa_1, qa_2, qb_1, qb_2, qo_1, qo_2, qc_1, qc_2, k_n, k_r, k_1, k_2, k_3, k_4, k_5, k_6, k_7, k_8, k_9, qs_1, add_i, sub_i, mul_i, div_i, mod_i, pow_i, eq_i, ne_i, eq_s, ne_s, eq_b, ne_b, lt_i, le_i, gt_i, ge_i, ret_v, ret_n, tru_b, vk_i, vk_s, vk_t, vk_n, vk_b, is_nn, is_in, is_sn, is_tn, is_rn, isn_nn, isn_tn, zn1, zn2, zn3, zn4, zn5, zn6, zn7, zn8, beq_self_eq_true, then_n, then_r, thenR_n, thenR_r, loop_n, loop_r, zl1, zl2, zl3, zl4, rng_1, rng_2, int_b, str_i, max_i, min_i, len_t, list_t, zl7, zl8, List.replicate, zl9, zl10, List.set, zl5, zl6, zo1, zo3, zo2, Nat.reduceSub, zl11, zl12, zn9, if_false, if_true, zn10, zn11, Bool.not_true, Bool.not_false, zn12, zn13, reduceCtorEq, zn15, zn14, zn18, zn16, zn17, forall_const, zb1, zb2, zb3, zb4, zb5, zb6, zb7, decide_true, decide_false, eq_self, setAll, s_P_stepped_5]
    refine h.get fun a own l e1 e2 e3 e4 => getL e1 h.q0 (by first | decide | with_reducible first | assumption | exact zm0 (by decide) | exact zm1 (by decide) (by decide) | exact zm3 (by assumption) (by decide) | omega) e3 ?_
    simp only [qx_1, qx_2, qx_3, qx_4, qx_5, qx_6, qx_7, qx_8, qx_9, qx_10, qx_11, qx_13, qx_15, qx_16, qx_17, qx_18, qx_19, qx_20, qx_21, qx_22, qx_23, qx_24, qx_25, qx_26, qt_1, qt_2, qt_3, qt_4, qt_5, qt_6, qt_7, qt_9, qt_10, qt_11, qt_12, qt_13, ql_1, ql_2, qa_1, qa_2, qb_1, qb_2, qo_1, qo_2, qc_1, qc_2, k_n, k_r, k_1, k_2, k_3, k_4, k_5, k_6, k_7, k_8, k_9, qs_1, add_i, sub_i, mul_i, div_i, mod_i, pow_i, eq_i, ne_i, eq_s, ne_s, eq_b, ne_b, lt_i, le_i, gt_i, ge_i, ret_v, ret_n, tru_b, vk_i, vk_s, vk_t, vk_n, vk_b, is_nn, is_in, is_sn, is_tn, is_rn, isn_nn, isn_tn, zn1, zn2, zn3, zn4, zn5, zn6, zn7, zn8, beq_self_eq_true, then_n, then_r, thenR_n, thenR_r, loop_n, loop_r, zl1, zl2, zl3, zl4, rng_1, rng_2, int_b, str_i, max_i, min_i, len_t, list_t, zl7, zl8, List.replicate, zl9, zl10, List.set, zl5, zl6, zo1, zo3, zo2, Nat.reduceSub, zl11, zl12, zn9, if_false, if_true, zn10, zn11, Bool.not_true, Bool.not_false, zn12, zn13, reduceCtorEq, zn15, zn14, zn18, zn16, zn17, forall_const, zb1, zb2, zb3, zb4, zb5, zb6, zb7, decide_true, decide_false, eq_self, s_P_stepped_6]
    refine row0 ?_
    simp only [qx_1, qx_2, qx_3, qx_4, qx_5, qx_6, qx_7, qx_8, qx_9, qx_10, qx_11, qx_13, qx_15, qx_16, qx_17, qx_18, qx_19, qx_20, qx_21, qx_22, qx_23, qx_24, qx_25, qx_26, qt_1, qt_2, qt_3, qt_4, qt_5, qt_6, qt_7, qt_9, qt_10, qt_11, qt_12, qt_13, ql_1, ql_2, qa_1, qa_2, qb_1, qb_2, qo_1, qo_2, qc_1, qc_2, k_n, k_r, k_1, k_2, k_3, k_4, k_5, k_6, k_7, k_8, k_9, qs_1, add_i, sub_i, mul_i, div_i, mod_i, pow_i, eq_i, ne_i, eq_s, ne_s, eq_b, ne_b, lt_i, le_i, gt_i, ge_i, ret_v, ret_n, tru_b, vk_i, vk_s, vk_t, vk_n, vk_b, is_nn, is_in, is_sn, is_tn, is_rn, isn_nn, isn_tn, zn1, zn2, zn3, zn4, zn5, zn6, zn7, zn8, beq_self_eq_true, then_n, then_r, thenR_n, thenR_r, loop_n, loop_r, zl1, zl2, zl3, zl4, rng_1, rng_2, int_b, str_i, max_i, min_i, len_t, list_t, zl7, zl8, List.replicate, zl9, zl10, List.set, zl5, zl6, zo1, zo3, zo2, Nat.reduceSub, zl11, zl12, zn9, if_false, if_true, zn10, zn11, Bool.not_true, Bool.not_false, zn12, zn13, reduceCtorEq, zn15, zn14, zn18, zn16, zn17, forall_const, zb1, zb2, zb3, zb4, zb5, zb6, zb7, decide_true, decide_false, eq_self]
    refine ⟨fun q => absurd q (no_eq hw _ (by decide)), fun _ => ?_⟩
    simp only [qx_1, qx_2, qx_3, qx_4, qx_5, qx_6, qx_7, qx_8, qx_9, qx_10, qx_11, qx_13, qx_15, qx_16, qx_17, qx_18, qx_19, qx_20, qx_21, qx_22, qx_23, qx_24, qx_25, qx_26, qt_1, qt_2, qt_3, qt_4, qt_5, qt_6, qt_7, qt_9, qt_10, qt_11, qt_12, qt_13, ql_1, ql_2, qa_1, qa_2, qb_1, qb_2, qo_1, qo_2, qc_1, qc_2, k_n, k_r, k_1, k_2, k_3, k_4, k_5, k_6, k_7, k_8, k_9, qs_1, add_i, sub_i, mul_i, div_i, mod_i, pow_i, eq_i, ne_i, eq_s, ne_s, eq_b, ne_b, lt_i, le_i, gt_i, ge_i, ret_v, ret_n, tru_b, vk_i, vk_s, vk_t, vk_n, vk_b, is_nn, is_in, is_sn, is_tn, is_rn, isn_nn, isn_tn, zn1, zn2, zn3, zn4, zn5, zn6, zn7, zn8, beq_self_eq_true, then_n, then_r, thenR_n, thenR_r, loop_n, loop_r, zl1, zl2, zl3, zl4, rng_1, rng_2, int_b, str_i, max_i, min_i, len_t, list_t, zl7, zl8, List.replicate, zl9, zl10, List.set, zl5, zl6, zo1, zo3, zo2, Nat.reduceSub, zl11, zl12, zn9, if_false, if_true, zn10, zn11, Bool.not_true, Bool.not_false, zn12, zn13, reduceCtorEq, zn15, zn14, zn18, zn16, zn17, forall_const, zb1, zb2, zb3, zb4, zb5, zb6, zb7, decide_true, decide_false, eq_self, s_P_stepped_7]
    refine row0 ?_
    simp only [qx_1, qx_2, qx_3, qx_4, qx_5, qx_6, qx_7, qx_8, qx_9, qx_10, qx_11, qx_13, qx_15, qx_16, qx_17, qx_18, qx_19, qx_20, qx_21, qx_22, qx_23, qx_24, qx_25, qx_26, qt_1, qt_2, qt_3, qt_4, qt_5, qt_6, qt_7, qt_9, qt_10, qt_11, qt_12, qt_13, ql_1, ql_2, qa_1, qa_2, qb_1, qb_2, qo_1, qo_2, qc_1, qc_2, k_n, k_r, k_1, k_2, k_3, k_4, k_5, k_6, k_7, k_8, k_9, qs_1, add_i, sub_i, mul_i, div_i, mod_i, pow_i, eq_i, ne_i, eq_s, ne_s, eq_b, ne_b, lt_i, le_i, gt_i, ge_i, ret_v, ret_n, tru_b, vk_i, vk_s, vk_t, vk_n, vk_b, is_nn, is_in, is_sn, is_tn, is_rn, isn_nn, isn_tn, zn1, zn2, zn3, zn4, zn5, zn6, zn7, zn8, beq_self_eq_true, then_n, then_r, thenR_n, thenR_r, loop_n, loop_r, zl1, zl2, zl3, zl4, rng_1, rng_2, int_b, str_i, max_i, min_i, len_t, list_t, zl7, zl8, List.replicate, zl9, zl10, List.set, zl5, zl6, zo1, zo3, zo2, Nat.reduceSub, zl11, zl12, zn9, if_false, if_true, zn10, zn11, Bool.not_true, Bool.not_false, zn12, zn13, reduceCtorEq, zn15, zn14, zn18, zn16, zn17, forall_const, zb1, zb2, zb3, zb4, zb5, zb6, zb7, decide_true, decide_false, eq_self]
    refine ⟨fun q => absurd q (no_eq hw _ (by decide)), fun _ => ?_⟩
    simp only [qx_1, qx_2, qx_3, qx_4, qx_5, qx_6, qx_7, qx_8, qx_9, qx_10, qx_11, qx_13, qx_15, qx_16, qx_17, qx_18, qx_19, qx_20, qx_21, qx_22, qx_23, qx_24, qx_25, qx_26, qt_1, qt_2, qt_3, qt_4, qt_5, qt_6, qt_7, qt_9, qt_10, qt_11, qt_12, qt_13, ql_1, ql_2, qa_1, qa_2, qb_1, qb_2, qo_1, qo_2, qc_1, qc_2, k_n, k_r, k_1, k_2, k_3, k_4, k_5, k_6, k_7, k_8, k_9, qs_1, add_i, sub_i, mul_i, div_i, mod_i, pow_i, eq_i, ne_i, eq_s, ne_s, eq_b, ne_b, lt_i, le_i, gt_i, ge_i, ret_v, ret_n, tru_b, vk_i, vk_s, vk_t, vk_n, vk_b, is_nn, is_in, is_sn, is_tn, is_rn, isn_nn, isn_tn, zn1, zn2, zn3, zn4, zn5, zn6, zn7, zn8, beq_self_eq_true, then_n, then_r, thenR_n, thenR_r, loop_n, loop_r, zl1, zl2, zl3, zl4, rng_1, rng_2, int_b, str_i, max_i, min_i, len_t, list_t, zl7, zl8, List.replicate, zl9, zl10, List.set, zl5, zl6, zo1, zo3, zo2, Nat.reduceSub, zl11, zl12, zn9, if_false, if_true, zn10, zn11, Bool.not_true, Bool.not_false, zn12, zn13, reduceCtorEq, zn15, zn14, zn18, zn16, zn17, forall_const, zb1, zb2, zb3, zb4, zb5, zb6, zb7, decide_true, decide_false, eq_self, s_P_stepped_8]
    refine dictD ht (by first | decide | with_reducible first | assumption | exact zm0 (by decide) | exact zm1 (by decide) (by decide) | exact zm3 (by assumption) (by decide) | omega) fun t' ht' => ?_
    have g1 : ∀ (a : Nat) (o : AObj), H a = some o → H.set t' (.dict true T) a = some o := fun _ _ h => AH.set_of h ht'
    have tT : (H.set t' (.dict true T)) t' = some (.dict true T) := AH.set_self _ _ _
    generalize H.set t' (.dict true T) = H1 at g1 tT
    simp only [qx_1, qx_2, qx_3, qx_4, qx_5, qx_6, qx_7, qx_8, qx_9, qx_10, qx_11, qx_13, qx_15, qx_16, qx_17, qx_18, qx_19, qx_20, qx_21, qx_22, qx_23, qx_24, qx_25, qx_26, qt_1, qt_2, qt_3, qt_4, qt_5, qt_6, qt_7, qt_9, qt_10, qt_11, qt_12, qt_13, ql_1, ql_2, qa_1, qa_2, qb_1, qb_2, qo_1, qo_2, qc_1, qc_2, k_n, k_r, k_1, k_2, k_3, k_4, k_5, k_6, k_7, k_8, k_9, qs_1, add_i, sub_i, mul_i, div_i, mod_i, pow_i, eq_i, ne_i, eq_s, ne_s, eq_b, ne_b, lt_i, le_i, gt_i, ge_i, ret_v, ret_n, tru_b, vk_i, vk_s, vk_t, vk_n, vk_b, is_nn, is_in, is_sn, is_tn, is_rn, isn_nn, isn_tn, zn1, zn2, zn3, zn4, zn5, zn6, zn7, zn8, beq_self_eq_true, then_n, then_r, thenR_n, thenR_r, loop_n, loop_r, zl1, zl2, zl3, zl4, rng_1, rng_2, int_b, str_i, max_i, min_i, len_t, list_t, zl7, zl8, List.replicate, zl9, zl10, List.set, zl5, zl6, zo1, zo3, zo2, Nat.reduceSub, zl11, zl12, zn9, if_false, if_true, zn10, zn11, Bool.not_true, Bool.not_false, zn12, zn13, reduceCtorEq, zn15, zn14, zn18, zn16, zn17, forall_const, zb1, zb2, zb3, zb4, zb5, zb6, zb7, decide_true, decide_false, eq_self, s_P_stepped_9]
    refine ⟨by first | decide | with_reducible first | assumption | exact zm0 (by decide) | exact zm1 (by decide) (by decide) | exact zm3 (by assumption) (by decide) | omega, con_at hc (k := 3) (x := "POPS") (v := .ref 40) rfl (row0 ⟨popsKv, g1 _ _ h.pops, _, pops_at hw, ?_⟩)⟩
    obtain ⟨p0, p1⟩ := popI_le w
    simp only [qx_1, qx_2, qx_3, qx_4, qx_5, qx_6, qx_7, qx_8, qx_9, qx_10, qx_11, qx_13, qx_15, qx_16, qx_17, qx_18, qx_19, qx_20, qx_21, qx_22, qx_23, qx_24, qx_25, qx_26, qt_1, qt_2, qt_3, qt_4, qt_5, qt_6, qt_7, qt_9, qt_10, qt_11, qt_12, qt_13, ql_1, ql_2, qa_1, qa_2, qb_1, qb_2, qo_1, qo_2, qc_1, qc_2, k_n, k_r, k_1, k_2, k_3, k_4, k_5, k_6, k_7, k_8, k_9, qs_1, add_i, sub_i, mul_i, div_i, mod_i, pow_i, eq_i, ne_i, eq_s, ne_s, eq_b, ne_b, lt_i, le_i, gt_i, ge_i, ret_v, ret_n, tru_b, vk_i, vk_s, vk_t, vk_n, vk_b, is_nn, is_in, is_sn, is_tn, is_rn, isn_nn, isn_tn, zn1, zn2, zn3, zn4, zn5, zn6, zn7, zn8, beq_self_eq_true, then_n, then_r, thenR_n, thenR_r, loop_n, loop_r, zl1, zl2, zl3, zl4, rng_1, rng_2, int_b, str_i, max_i, min_i, len_t, list_t, zl7, zl8, List.replicate, zl9, zl10, List.set, zl5, zl6, zo1, zo3, zo2, Nat.reduceSub, zl11, zl12, zn9, if_false, if_true, zn10, zn11, Bool.not_true, Bool.not_false, zn12, zn13, reduceCtorEq, zn15, zn14, zn18, zn16, zn17, forall_const, zb1, zb2, zb3, zb4, zb5, zb6, zb7, decide_true, decide_false, eq_self, slc_t]
    refine ⟨none, some ((s.length : Int) - popI w), rfl, rfl, by first | decide | with_reducible first | assumption | exact zm0 (by decide) | exact zm1 (by decide) (by decide) | exact zm3 (by assumption) (by decide) | omega, ?_⟩
    have er : cut none (some ((s.length : Int) - popI w)) s = restL w s := by
      rw [cut_take (by first | decide | with_reducible first | assumption | exact zm0 (by decide) | exact zm1 (by decide) (by decide) | exact zm3 (by assumption) (by decide) | omega) (by first | decide | with_reducible first | assumption | exact zm0 (by decide) | exact zm1 (by decide) (by decide) | exact zm3 (by assumption) (by decide) | omega)]; unfold restL; congr 1; omega
    rw [er]
    have hrl : (restL w s).length = s.length - (popI w).toNat := by unfold restL; rw [List.length_take]; omega
    simp only [qx_1, qx_2, qx_3, qx_4, qx_5, qx_6, qx_7, qx_8, qx_9, qx_10, qx_11, qx_13, qx_15, qx_16, qx_17, qx_18, qx_19, qx_20, qx_21, qx_22, qx_23, qx_24, qx_25, qx_26, qt_1, qt_2, qt_3, qt_4, qt_5, qt_6, qt_7, qt_9, qt_10, qt_11, qt_12, qt_13, ql_1, ql_2, qa_1, qa_2, qb_1, qb_2, qo_1, qo_2, qc_1, qc_2, k_n, k_r, k_1, k_2, k_3, k_4, k_5, k_6, k_7, k_8, k_9, qs_1, add_i, sub_i, mul_i, div_i, mod_i, pow_i, eq_i, ne_i, eq_s, ne_s, eq_b, ne_b, lt_i, le_i, gt_i, ge_i, ret_v, ret_n, tru_b, vk_i, vk_s, vk_t, vk_n, vk_b, is_nn, is_in, is_sn, is_tn, is_rn, isn_nn, isn_tn, zn1, zn2, zn3, zn4, zn5, zn6, zn7, zn8, beq_self_eq_true, then_n, then_r, thenR_n, thenR_r, loop_n, loop_r, zl1, zl2, zl3, zl4, rng_1, rng_2, int_b, str_i, max_i, min_i, len_t, list_t, zl7, zl8, List.replicate, zl9, zl10, List.set, zl5, zl6, zo1, zo3, zo2, Nat.reduceSub, zl11, zl12, zn9, if_false, if_true, zn10, zn11, Bool.not_true, Bool.not_false, zn12, zn13, reduceCtorEq, zn15, zn14, zn18, zn16, zn17, forall_const, zb1, zb2, zb3, zb4, zb5, zb6, zb7, decide_true, decide_false, eq_self, s_P_stepped_10, slc_t]
    refine ⟨by first | decide | with_reducible first | assumption | exact zm0 (by decide) | exact zm1 (by decide) (by decide) | exact zm3 (by assumption) (by decide) | omega, some ((restL w s).length : Int), none, rfl, rfl, by first | decide | with_reducible first | assumption | exact zm0 (by decide) | exact zm1 (by decide) (by decide) | exact zm3 (by assumption) (by decide) | omega, ?_⟩
    rw [cut_drop (by first | decide | with_reducible first | assumption | exact zm0 (by decide) | exact zm1 (by decide) (by decide) | exact zm3 (by assumption) (by decide) | omega)]
    simp only [qx_1, qx_2, qx_3, qx_4, qx_5, qx_6, qx_7, qx_8, qx_9, qx_10, qx_11, qx_13, qx_15, qx_16, qx_17, qx_18, qx_19, qx_20, qx_21, qx_22, qx_23, qx_24, qx_25, qx_26, qt_1, qt_2, qt_3, qt_4, qt_5, qt_6, qt_7, qt_9, qt_10, qt_11, qt_12, qt_13, ql_1, ql_2, qa_1, qa_2, qb_1, qb_2, qo_1, qo_2, qc_1, qc_2, k_n, k_r, k_1, k_2, k_3, k_4, k_5, k_6, k_7, k_8, k_9, qs_1, add_i, sub_i, mul_i, div_i, mod_i, pow_i, eq_i, ne_i, eq_s, ne_s, eq_b, ne_b, lt_i, le_i, gt_i, ge_i, ret_v, ret_n, tru_b, vk_i, vk_s, vk_t, vk_n, vk_b, is_nn, is_in, is_sn, is_tn, is_rn, isn_nn, isn_tn, zn1, zn2, zn3, zn4, zn5, zn6, zn7, zn8, beq_self_eq_true, then_n, then_r, thenR_n, thenR_r, loop_n, loop_r, zl1, zl2, zl3, zl4, rng_1, rng_2, int_b, str_i, max_i, min_i, len_t, list_t, zl7, zl8, List.replicate, zl9, zl10, List.set, zl5, zl6, zo1, zo3, zo2, Nat.reduceSub, zl11, zl12, zn9, if_false, if_true, zn10, zn11, Bool.not_true, Bool.not_false, zn12, zn13, reduceCtorEq, zn15, zn14, zn18, zn16, zn17, forall_const, zb1, zb2, zb3, zb4, zb5, zb6, zb7, decide_true, decide_false, eq_self, s_P_stepped_11]
    refine pushed_ok hc hw tT hT h.hV h.hs c1 c2 fun k H2 hk g2 h2t => ?_
    have hnew : (newL w k s T).length ≤ 1 := by unfold newL; split <;> (try split) <;> simp
    have ne : ∀ a ob, H a = some ob → a ≠ t' := fun a ob h q => by rw [q, ht'] at h; cases h
    have g3 : ∀ a ob, H a = some ob → H2 a = some ob := fun a ob h => g2 _ _ (ne a ob h) (g1 _ _ h)
    simp only [qx_1, qx_2, qx_3, qx_4, qx_5, qx_6, qx_7, qx_8, qx_9, qx_10, qx_11, qx_13, qx_15, qx_16, qx_17, qx_18, qx_19, qx_20, qx_21, qx_22, qx_23, qx_24, qx_25, qx_26, qt_1, qt_2, qt_3, qt_4, qt_5, qt_6, qt_7, qt_9, qt_10, qt_11, qt_12, qt_13, ql_1, ql_2, qa_1, qa_2, qb_1, qb_2, qo_1, qo_2, qc_1, qc_2, k_n, k_r, k_1, k_2, k_3, k_4, k_5, k_6, k_7, k_8, k_9, qs_1, add_i, sub_i, mul_i, div_i, mod_i, pow_i, eq_i, ne_i, eq_s, ne_s, eq_b, ne_b, lt_i, le_i, gt_i, ge_i, ret_v, ret_n, tru_b, vk_i, vk_s, vk_t, vk_n, vk_b, is_nn, is_in, is_sn, is_tn, is_rn, isn_nn, isn_tn, zn1, zn2, zn3, zn4, zn5, zn6, zn7, zn8, beq_self_eq_true, then_n, then_r, thenR_n, thenR_r, loop_n, loop_r, zl1, zl2, zl3, zl4, rng_1, rng_2, int_b, str_i, max_i, min_i, len_t, list_t, zl7, zl8, List.replicate, zl9, zl10, List.set, zl5, zl6, zo1, zo3, zo2, Nat.reduceSub, zl11, zl12, zn9, if_false, if_true, zn10, zn11, Bool.not_true, Bool.not_false, zn12, zn13, reduceCtorEq, zn15, zn14, zn18, zn16, zn17, forall_const, zb1, zb2, zb3, zb4, zb5, zb6, zb7, decide_true, decide_false, eq_self, s_P_stepped_12]
    refine row0 ?_
    simp only [qx_1, qx_2, qx_3, qx_4, qx_5, qx_6, qx_7, qx_8, qx_9, qx_10, qx_11, qx_13, qx_15, qx_16, qx_17, qx_18, qx_19, qx_20, qx_21, qx_22, qx_23, qx_24, qx_25, qx_26, qt_1, qt_2, qt_3, qt_4, qt_5, qt_6, qt_7, qt_9, qt_10, qt_11, qt_12, qt_13, ql_1, ql_2, qa_1, qa_2, qb_1, qb_2, qo_1, qo_2, qc_1, qc_2, k_n, k_r, k_1, k_2, k_3, k_4, k_5, k_6, k_7, k_8, k_9, qs_1, add_i, sub_i, mul_i, div_i, mod_i, pow_i, eq_i, ne_i, eq_s, ne_s, eq_b, ne_b, lt_i, le_i, gt_i, ge_i, ret_v, ret_n, tru_b, vk_i, vk_s, vk_t, vk_n, vk_b, is_nn, is_in, is_sn, is_tn, is_rn, isn_nn, isn_tn, zn1, zn2, zn3, zn4, zn5, zn6, zn7, zn8, beq_self_eq_true, then_n, then_r, thenR_n, thenR_r, loop_n, loop_r, zl1, zl2, zl3, zl4, rng_1, rng_2, int_b, str_i, max_i, min_i, len_t, list_t, zl7, zl8, List.replicate, zl9, zl10, List.set, zl5, zl6, zo1, zo3, zo2, Nat.reduceSub, zl11, zl12, zn9, if_false, if_true, zn10, zn11, Bool.not_true, Bool.not_false, zn12, zn13, reduceCtorEq, zn15, zn14, zn18, zn16, zn17, forall_const, zb1, zb2, zb3, zb4, zb5, zb6, zb7, decide_true, decide_false, eq_self]
    refine ⟨fun q => absurd q (no_eq hw _ (by decide)), fun _ => ?_⟩
    simp only [qx_1, qx_2, qx_3, qx_4, qx_5, qx_6, qx_7, qx_8, qx_9, qx_10, qx_11, qx_13, qx_15, qx_16, qx_17, qx_18, qx_19, qx_20, qx_21, qx_22, qx_23, qx_24, qx_25, qx_26, qt_1, qt_2, qt_3, qt_4, qt_5, qt_6, qt_7, qt_9, qt_10, qt_11, qt_12, qt_13, ql_1, ql_2, qa_1, qa_2, qb_1, qb_2, qo_1, qo_2, qc_1, qc_2, k_n, k_r, k_1, k_2, k_3, k_4, k_5, k_6, k_7, k_8, k_9, qs_1, add_i, sub_i, mul_i, div_i, mod_i, pow_i, eq_i, ne_i, eq_s, ne_s, eq_b, ne_b, lt_i, le_i, gt_i, ge_i, ret_v, ret_n, tru_b, vk_i, vk_s, vk_t, vk_n, vk_b, is_nn, is_in, is_sn, is_tn, is_rn, isn_nn, isn_tn, zn1, zn2, zn3, zn4, zn5, zn6, zn7, zn8, beq_self_eq_true, then_n, then_r, thenR_n, thenR_r, loop_n, loop_r, zl1, zl2, zl3, zl4, rng_1, rng_2, int_b, str_i, max_i, min_i, len_t, list_t, zl7, zl8, List.replicate, zl9, zl10, List.set, zl5, zl6, zo1, zo3, zo2, Nat.reduceSub, zl11, zl12, zn9, if_false, if_true, zn10, zn11, Bool.not_true, Bool.not_false, zn12, zn13, reduceCtorEq, zn15, zn14, zn18, zn16, zn17, forall_const, zb1, zb2, zb3, zb4, zb5, zb6, zb7, decide_true, decide_false, eq_self, s_P_stepped_13, s_P_stepped_14]
    refine row0 ?_
    simp only [qx_1, qx_2, qx_3, qx_4, qx_5, qx_6, qx_7, qx_8, qx_9, qx_10, qx_11, qx_13, qx_15, qx_16, qx_17, qx_18, qx_19, qx_20, qx_21, qx_22, qx_23, qx_24, qx_25, qx_26, qt_1, qt_2, qt_3, qt_4, qt_5, qt_6, qt_7, qt_9, qt_10, qt_11, qt_12, qt_13, ql_1, ql_2, qa_1, qa_2, qb_1, qb_2, qo_1, qo_2, qc_1, qc_2, k_n, k_r, k_1, k_2, k_3, k_4, k_5, k_6, k_7, k_8, k_9, qs_1, add_i, sub_i, mul_i, div_i, mod_i, pow_i, eq_i, ne_i, eq_s, ne_s, eq_b, ne_b, lt_i, le_i, gt_i, ge_i, ret_v, ret_n, tru_b, vk_i, vk_s, vk_t, vk_n, vk_b, is_nn, is_in, is_sn, is_tn, is_rn, isn_nn, isn_tn, zn1, zn2, zn3, zn4, zn5, zn6, zn7, zn8, beq_self_eq_true, then_n, then_r, thenR_n, thenR_r, loop_n, loop_r, zl1, zl2, zl3, zl4, rng_1, rng_2, int_b, str_i, max_i, min_i, len_t, list_t, zl7, zl8, List.replicate, zl9, zl10, List.set, zl5, zl6, zo1, zo3, zo2, Nat.reduceSub, zl11, zl12, zn9, if_false, if_true, zn10, zn11, Bool.not_true, Bool.not_false, zn12, zn13, reduceCtorEq, zn15, zn14, zn18, zn16, zn17, forall_const, zb1, zb2, zb3, zb4, zb5, zb6, zb7, decide_true, decide_false, eq_self]
    refine ⟨fun q => absurd q (no_eq hw _ (by decide)), fun _ => ?_⟩
    simp only [qx_1, qx_2, qx_3, qx_4, qx_5, qx_6, qx_7, qx_8, qx_9, qx_10, qx_11, qx_13, qx_15, qx_16, qx_17, qx_18, qx_19, qx_20, qx_21, qx_22, qx_23, qx_24, qx_25, qx_26, qt_1, qt_2, qt_3, qt_4, qt_5, qt_6, qt_7, qt_9, qt_10, qt_11, qt_12, qt_13, ql_1, ql_2, qa_1, qa_2, qb_1, qb_2, qo_1, qo_2, qc_1, qc_2, k_n, k_r, k_1, k_2, k_3, k_4, k_5, k_6, k_7, k_8, k_9, qs_1, add_i, sub_i, mul_i, div_i, mod_i, pow_i, eq_i, ne_i, eq_s, ne_s, eq_b, ne_b, lt_i, le_i, gt_i, ge_i, ret_v, ret_n, tru_b, vk_i, vk_s, vk_t, vk_n, vk_b, is_nn, is_in, is_sn, is_tn, is_rn, isn_nn, isn_tn, zn1, zn2, zn3, zn4, zn5, zn6, zn7, zn8, beq_self_eq_true, then_n, then_r, thenR_n, thenR_r, loop_n, loop_r, zl1, zl2, zl3, zl4, rng_1, rng_2, int_b, str_i, max_i, min_i, len_t, list_t, zl7, zl8, List.replicate, zl9, zl10, List.set, zl5, zl6, zo1, zo3, zo2, Nat.reduceSub, zl11, zl12, zn9, if_false, if_true, zn10, zn11, Bool.not_true, Bool.not_false, zn12, zn13, reduceCtorEq, zn15, zn14, zn18, zn16, zn17, forall_const, zb1, zb2, zb3, zb4, zb5, zb6, zb7, decide_true, decide_false, eq_self, s_P_stepped_15]
    refine place_behind_ok hc hw ?_
    simp only [qx_1, qx_2, qx_3, qx_4, qx_5, qx_6, qx_7, qx_8, qx_9, qx_10, qx_11, qx_13, qx_15, qx_16, qx_17, qx_18, qx_19, qx_20, qx_21, qx_22, qx_23, qx_24, qx_25, qx_26, qt_1, qt_2, qt_3, qt_4, qt_5, qt_6, qt_7, qt_9, qt_10, qt_11, qt_12, qt_13, ql_1, ql_2, qa_1, qa_2, qb_1, qb_2, qo_1, qo_2, qc_1, qc_2, k_n, k_r, k_1, k_2, k_3, k_4, k_5, k_6, k_7, k_8, k_9, qs_1, add_i, sub_i, mul_i, div_i, mod_i, pow_i, eq_i, ne_i, eq_s, ne_s, eq_b, ne_b, lt_i, le_i, gt_i, ge_i, ret_v, ret_n, tru_b, vk_i, vk_s, vk_t, vk_n, vk_b, is_nn, is_in, is_sn, is_tn, is_rn, isn_nn, isn_tn, zn1, zn2, zn3, zn4, zn5, zn6, zn7, zn8, beq_self_eq_true, then_n, then_r, thenR_n, thenR_r, loop_n, loop_r, zl1, zl2, zl3, zl4, rng_1, rng_2, int_b, str_i, max_i, min_i, len_t, list_t, zl7, zl8, List.replicate, zl9, zl10, List.set, zl5, zl6, zo1, zo3, zo2, Nat.reduceSub, zl11, zl12, zn9, if_false, if_true, zn10, zn11, Bool.not_true, Bool.not_false, zn12, zn13, reduceCtorEq, zn15, zn14, zn18, zn16, zn17, forall_const, zb1, zb2, zb3, zb4, zb5, zb6, zb7, decide_true, decide_false, eq_self, add_t]
    refine ⟨by first | decide | with_reducible first | assumption | exact zm0 (by decide) | exact zm1 (by decide) (by decide) | exact zm3 (by assumption) (by decide) | omega, by simp, ?_⟩
    simp only [qx_1, qx_2, qx_3, qx_4, qx_5, qx_6, qx_7, qx_8, qx_9, qx_10, qx_11, qx_13, qx_15, qx_16, qx_17, qx_18, qx_19, qx_20, qx_21, qx_22, qx_23, qx_24, qx_25, qx_26, qt_1, qt_2, qt_3, qt_4, qt_5, qt_6, qt_7, qt_9, qt_10, qt_11, qt_12, qt_13, ql_1, ql_2, qa_1, qa_2, qb_1, qb_2, qo_1, qo_2, qc_1, qc_2, k_n, k_r, k_1, k_2, k_3, k_4, k_5, k_6, k_7, k_8, k_9, qs_1, add_i, sub_i, mul_i, div_i, mod_i, pow_i, eq_i, ne_i, eq_s, ne_s, eq_b, ne_b, lt_i, le_i, gt_i, ge_i, ret_v, ret_n, tru_b, vk_i, vk_s, vk_t, vk_n, vk_b, is_nn, is_in, is_sn, is_tn, is_rn, isn_nn, isn_tn, zn1, zn2, zn3, zn4, zn5, zn6, zn7, zn8, beq_self_eq_true, then_n, then_r, thenR_n, thenR_r, loop_n, loop_r, zl1, zl2, zl3, zl4, rng_1, rng_2, int_b, str_i, max_i, min_i, len_t, list_t, zl7, zl8, List.replicate, zl9, zl10, List.set, zl5, zl6, zo1, zo3, zo2, Nat.reduceSub, zl11, zl12, zn9, if_false, if_true, zn10, zn11, Bool.not_true, Bool.not_false, zn12, zn13, reduceCtorEq, zn15, zn14, zn18, zn16, zn17, forall_const, zb1, zb2, zb3, zb4, zb5, zb6, zb7, decide_true, decide_false, eq_self, s_P_stepped_16]
    refine ⟨1, rfl, slcL (lo := none) (hi := some (-1)) rfl rfl (g3 _ _ hf) (by simp; omega) fun r1 hr1 => ?_⟩
    rw [cut_m1]
    simp only [qx_1, qx_2, qx_3, qx_4, qx_5, qx_6, qx_7, qx_8, qx_9, qx_10, qx_11, qx_13, qx_15, qx_16, qx_17, qx_18, qx_19, qx_20, qx_21, qx_22, qx_23, qx_24, qx_25, qx_26, qt_1, qt_2, qt_3, qt_4, qt_5, qt_6, qt_7, qt_9, qt_10, qt_11, qt_12, qt_13, ql_1, ql_2, qa_1, qa_2, qb_1, qb_2, qo_1, qo_2, qc_1, qc_2, k_n, k_r, k_1, k_2, k_3, k_4, k_5, k_6, k_7, k_8, k_9, qs_1, add_i, sub_i, mul_i, div_i, mod_i, pow_i, eq_i, ne_i, eq_s, ne_s, eq_b, ne_b, lt_i, le_i, gt_i, ge_i, ret_v, ret_n, tru_b, vk_i, vk_s, vk_t, vk_n, vk_b, is_nn, is_in, is_sn, is_tn, is_rn, isn_nn, isn_tn, zn1, zn2, zn3, zn4, zn5, zn6, zn7, zn8, beq_self_eq_true, then_n, then_r, thenR_n, thenR_r, loop_n, loop_r, zl1, zl2, zl3, zl4, rng_1, rng_2, int_b, str_i, max_i, min_i, len_t, list_t, zl7, zl8, List.replicate, zl9, zl10, List.set, zl5, zl6, zo1, zo3, zo2, Nat.reduceSub, zl11, zl12, zn9, if_false, if_true, zn10, zn11, Bool.not_true, Bool.not_false, zn12, zn13, reduceCtorEq, zn15, zn14, zn18, zn16, zn17, forall_const, zb1, zb2, zb3, zb4, zb5, zb6, zb7, decide_true, decide_false, eq_self, add_l]
    refine ⟨by simp, fun r2 hr2 => ⟨_, _, _, _, AH.set_of (AH.set_self _ _ _) hr2, AH.set_self _ _ _, by simp; omega, fun r3 hr3 => ⟨by simp, by simp, ?_⟩⟩⟩
    have hr30 : ∀ x, H2 r3 = some x → False := fun x e => by rw [AH.set_of (AH.set_of e hr1) hr2] at hr3; cases hr3
    refine hQ k r3 t' _ hk ⟨?_, ht', fun q => hr30 _ (q ▸ h2t), fun a o h => AH.set_of (AH.set_of (AH.set_of (g3 _ _ h) hr1) hr2) hr3, AH.set_self _ _ _, AH.set_of (AH.set_of (AH.set_of h2t hr1) hr2) hr3⟩
    cases e : H r3 with
    | none => rfl
    | some x => exact (hr30 x (g3 _ _ e)).elim
end
end Mine

set_option maxRecDepth 100000
set_option autoImplicit false
set_option linter.unusedSimpArgs false
set_option linter.unusedVariables false
namespace Mine
open PySem PyProof.Rows

noncomputable def W4 : List Str := W3 ++ [("drop" : Str)]
/-- in this law a row is its word alone -/
theorem row_one {W : List Str} (hW : (W.all fun x => !(["num", "get", "fun", "jump", "unless"] : List Str).contains x) = true) {v : AV} (h : Row W v) : ∃ w, w ∈ W ∧ v = .tup [.str w] := by
  obtain ⟨w, hw, h⟩ := h
  have hn := List.all_eq_true.mp hW w hw
  simp only [Bool.not_eq_true', List.contains_eq_mem, decide_eq_false_iff_not, List.mem_cons, List.not_mem_nil, or_false, not_or] at hn
  rcases h with ⟨e, _⟩ | ⟨e, _⟩ | ⟨e, _⟩ | ⟨e, _⟩ | ⟨_, _, _, _, _, rfl⟩
  · exact absurd e hn.1
  · exact absurd e hn.2.1
  · exact absurd e hn.2.2.1
  · exact absurd e (fun e => e.elim hn.2.2.2.1 hn.2.2.2.2)
  · exact ⟨w, hw, rfl⟩
theorem Row.up {v : AV} (h : Row W3 v) : Row W4 v := let ⟨w, h1, h2⟩ := h; ⟨w, by unfold W4; exact List.mem_append.mpr (.inl h1), h2⟩
theorem Row.noref {W : List Str} {v : AV} (h : Row W v) (r : Nat) : v ≠ .ref r := by
  obtain ⟨w, _, h⟩ := h
  rcases h with ⟨_, _, rfl, _⟩ | ⟨_, _, rfl, _⟩ | ⟨_, _, _, rfl⟩ | ⟨_, _, rfl, _⟩ | ⟨_, _, _, _, _, rfl⟩ <;> exact fun q => nomatch q
theorem cut_dropW {l : List AV} (k : Nat) : cut (some (k : Int)) none l = l.drop k := by
  by_cases h : k ≤ l.length
  · exact cut_drop h
  · unfold cut
    simp only [Option.elim]
    rw [clipAt_nat, Nat.min_eq_right (by first | decide | with_reducible first | assumption | exact zm0 (by decide) | exact zm1 (by decide) (by decide) | exact zm3 (by assumption) (by decide) | omega), List.drop_of_length_le (Nat.le_refl _), List.drop_of_length_le (by first | decide | with_reducible first | assumption | exact zm0 (by decide) | exact zm1 (by decide) (by decide) | exact zm3 (by assumption) (by decide) | omega)]; simp

section
variable {c : Cx} {n : Nat} {H : AH}

/-- another list is not the program's -/
theorem Prog.ne {p x : Nat} {B : List (List AV)} {own : Bool} {l : List AV} (h : Prog H p B) (hx : H x = some (.list own l)) (hl : ∀ y ∈ l, ∀ r, y ≠ .ref r) : x ≠ p := fun e => by
  obtain ⟨rl, h1, _, h3, _⟩ := h
  rw [e, h1] at hx
  cases hx
  cases rl with
  | nil => simp at h3
  | cons z _ => exact hl (.ref z.1) (by simp) z.1 rfl
/-- a body of the program is put anew -/
theorem Prog.put {H' : AH} {p r5 k : Nat} {B : List (List AV)} {W : List Str} {nb : List AV} (h : Prog H p B) (hR : Rows W B) (hk : k < B.length) (hn : nb.length ≤ 60) (h5 : r5 ≠ p) (g : ∀ a o, a ≠ p → H a = some o → H' a = some o) (e5 : H' r5 = some (.list true nb))
    (ep : ∀ L : List AV, H p = some (.list true L) → H' p = some (.list true (L.set k (.ref r5)))) : Prog H' p (B.set k nb) := by
  have h0 := h
  obtain ⟨rl, h1, rfl, h3, h4, h6⟩ := h
  refine ⟨rl.set k (r5, nb), by rw [ep _ h1, List.map_set], by rw [List.map_set], by rw [List.length_set]; exact h3, by rw [List.length_set]; exact h4, fun x hx => ?_⟩
  rcases List.mem_or_eq_of_mem_set hx with q | q
  · obtain ⟨⟨o, e1⟩, e2⟩ := h6 x q
    exact ⟨⟨o, g _ _ (h0.ne e1 fun y hy r => (hR x.2 (List.mem_map.mpr ⟨x, q, rfl⟩) y hy).noref r) e1⟩, e2⟩
  · rw [q]; exact ⟨⟨true, e5⟩, hn⟩

theorem topped_ok (hc : Tab c) {a p w0 f t : Nat} {S : List Int} {B : List (List AV)} {F : List AV} {T : List (Int × AV)} {st : AV} {Q : AV → AH → Prop} (hS : Ints H a S) (hP : Prog H p B) (hR : Rows W4 B) (hW : Strs H w0 W3) (hst : State H st .none F T f t) (hfit : Fit B F T) (hF : 0 < F.length)
    (hQ : ∀ (F0 : List AV) (b q : Int) (o s : List AV) (B' : List (List AV)) (l : List AV) (w : Str) (f' : Nat) (H' : AH), (∀ a ob, a ≠ p → H a = some ob → H' a = some ob) → Prog H' p B' → Rows W4 B' → B'[b.toNat]? = some l → l[q.toNat]? = some (.tup [.str w]) → w ∈ W3 → (∀ y ∈ o, IsVal (keys T) y) →
      State H' (.tup [.none, .ref f', .ref t]) .none (F0 ++ [.tup [.int b, .int q, .tup o, .tup s]]) T f' t → Q (.tup [.none, .ref f', .ref t]) H') : CW c (n + 3) i_L_topped [.ref a, .ref p, st, .ref w0] H Q := by
  refine CW.run (f := "_law_topped") (ir := ir_L_topped) (by rw [hc.fns]; rfl) rfl ?_
  obtain ⟨rfl, _, ⟨o1, h2⟩, ⟨o2, h3⟩, h4, h5, h6⟩ := id hst
  obtain ⟨F0, x, rfl⟩ := split_last hF
  obtain ⟨b, q, o, s, rfl, b0, q0, k1, k2⟩ := h4.2 x (by simp)
  have hft := hfit.1 _ (List.mem_append.mpr (.inr (List.mem_singleton.mpr rfl)))
  rw [fitF_eq] at hft
  have hFl := h4.1
  rw [List.length_append, List.length_singleton] at hFl
  have hbl : b < B.length := by
    by_cases e : b < B.length
    · exact e
    · rw [fitQ_none (List.getElem?_eq_none (by first | decide | with_reducible first | assumption | exact zm0 (by decide) | exact zm1 (by decide) (by decide) | exact zm3 (by assumption) (by decide) | omega))] at hft; cases hft
  obtain ⟨hB0, hB1⟩ := hP.size
  simp only [qx_1, qx_2, qx_3, qx_4, qx_5, qx_6, qx_7, qx_8, qx_9, qx_10, qx_11, qx_13, qx_15, qx_16, qx_17, qx_18, qx_19, qx_20, qx_21, qx_22, qx_23, qx_24, qx_25, qx_26, qt_1, qt_2, qt_3, qt_4, qt_5, qt_6, qt_7, qt_9, qt_10, qt_11, qt_12, qt_13, ql_1, ql_2, qa_1, qa_2, qb_1, qb_2, qo_1, qo_2, qc_1, qc_2, k_n, k_r, k_1, k_2, k_3, k_4, k_5, k_6, k_7, k_8, k_9, qs_1, add_i, sub_i, mul_i, div_i, mod_i, pow_i, eq_i, ne_i, eq_s, ne_s, eq_b, ne_b, lt_i, le_i, gt_i, ge_i, ret_v, ret_n, tru_b, vk_i, vk_s, vk_t, vk_n, vk_b, is_nn, is_in, is_sn, is_tn, is_rn, isn_nn, isn_tn, zn1, zn2, zn3, zn4, zn5, zn6, zn7, zn8, beq_self_eq_true, then_n, then_r, thenR_n, thenR_r, loop_n, loop_r, zl1, zl2, zl3, zl4, rng_1, rng_2, int_b, str_i, max_i, min_i, len_t, list_t, zl7, zl8, List.replicate, zl9, zl10, List.set, zl5, zl6, zo1, zo3, zo2, Nat.reduceSub, zl11, zl12, zn9, if_false, if_true, zn10, zn11, Bool.not_true, Bool.not_false, zn12, zn13, reduceCtorEq, zn15, zn14, zn18, zn16, zn17, forall_const, zb1, zb2, zb3, zb4, zb5, zb6, zb7, decide_true, decide_false, eq_self, g20, g21, g30, g31, g32, g40, g41, g42, g43, ir_L_topped, s_L_topped_0]
  refine ⟨1, rfl, getM1 h2 (by first | decide | with_reducible first | assumption | exact zm0 (by decide) | exact zm1 (by decide) (by decide) | exact zm3 (by assumption) (by decide) | omega) ?_⟩
  simp only [qx_1, qx_2, qx_3, qx_4, qx_5, qx_6, qx_7, qx_8, qx_9, qx_10, qx_11, qx_13, qx_15, qx_16, qx_17, qx_18, qx_19, qx_20, qx_21, qx_22, qx_23, qx_24, qx_25, qx_26, qt_1, qt_2, qt_3, qt_4, qt_5, qt_6, qt_7, qt_9, qt_10, qt_11, qt_12, qt_13, ql_1, ql_2, qa_1, qa_2, qb_1, qb_2, qo_1, qo_2, qc_1, qc_2, k_n, k_r, k_1, k_2, k_3, k_4, k_5, k_6, k_7, k_8, k_9, qs_1, add_i, sub_i, mul_i, div_i, mod_i, pow_i, eq_i, ne_i, eq_s, ne_s, eq_b, ne_b, lt_i, le_i, gt_i, ge_i, ret_v, ret_n, tru_b, vk_i, vk_s, vk_t, vk_n, vk_b, is_nn, is_in, is_sn, is_tn, is_rn, isn_nn, isn_tn, zn1, zn2, zn3, zn4, zn5, zn6, zn7, zn8, beq_self_eq_true, then_n, then_r, thenR_n, thenR_r, loop_n, loop_r, zl1, zl2, zl3, zl4, rng_1, rng_2, int_b, str_i, max_i, min_i, len_t, list_t, zl7, zl8, List.replicate, zl9, zl10, List.set, zl5, zl6, zo1, zo3, zo2, Nat.reduceSub, zl11, zl12, zn9, if_false, if_true, zn10, zn11, Bool.not_true, Bool.not_false, zn12, zn13, reduceCtorEq, zn15, zn14, zn18, zn16, zn17, forall_const, zb1, zb2, zb3, zb4, zb5, zb6, zb7, decide_true, decide_false, eq_self, g20, g21, g30, g31, g32, g40, g41, g42, g43, s_L_topped_1]
  refine hP.get b0 hbl fun rb own l e1 e2 e3 => ?_
  rw [fitQ_some e3] at hft
  have hql : q ≤ l.length := of_decide_eq_true hft
  simp only [qx_1, qx_2, qx_3, qx_4, qx_5, qx_6, qx_7, qx_8, qx_9, qx_10, qx_11, qx_13, qx_15, qx_16, qx_17, qx_18, qx_19, qx_20, qx_21, qx_22, qx_23, qx_24, qx_25, qx_26, qt_1, qt_2, qt_3, qt_4, qt_5, qt_6, qt_7, qt_9, qt_10, qt_11, qt_12, qt_13, ql_1, ql_2, qa_1, qa_2, qb_1, qb_2, qo_1, qo_2, qc_1, qc_2, k_n, k_r, k_1, k_2, k_3, k_4, k_5, k_6, k_7, k_8, k_9, qs_1, add_i, sub_i, mul_i, div_i, mod_i, pow_i, eq_i, ne_i, eq_s, ne_s, eq_b, ne_b, lt_i, le_i, gt_i, ge_i, ret_v, ret_n, tru_b, vk_i, vk_s, vk_t, vk_n, vk_b, is_nn, is_in, is_sn, is_tn, is_rn, isn_nn, isn_tn, zn1, zn2, zn3, zn4, zn5, zn6, zn7, zn8, beq_self_eq_true, then_n, then_r, thenR_n, thenR_r, loop_n, loop_r, zl1, zl2, zl3, zl4, rng_1, rng_2, int_b, str_i, max_i, min_i, len_t, list_t, zl7, zl8, List.replicate, zl9, zl10, List.set, zl5, zl6, zo1, zo3, zo2, Nat.reduceSub, zl11, zl12, zn9, if_false, if_true, zn10, zn11, Bool.not_true, Bool.not_false, zn12, zn13, reduceCtorEq, zn15, zn14, zn18, zn16, zn17, forall_const, zb1, zb2, zb3, zb4, zb5, zb6, zb7, decide_true, decide_false, eq_self, g20, g21, g30, g31, g32, g40, g41, g42, g43, s_L_topped_2]
  obtain ⟨m, hm⟩ : ∃ m : Nat, min q 59 = (m : Int) := ⟨(min q 59).toNat, by first | decide | with_reducible first | assumption | exact zm0 (by decide) | exact zm1 (by decide) (by decide) | exact zm3 (by assumption) (by decide) | omega⟩
  rw [hm]
  have hml : m ≤ l.length := by first | decide | with_reducible first | assumption | exact zm0 (by decide) | exact zm1 (by decide) (by decide) | exact zm3 (by assumption) (by decide) | omega
  have hm59 : m ≤ 59 := by first | decide | with_reducible first | assumption | exact zm0 (by decide) | exact zm1 (by decide) (by decide) | exact zm3 (by assumption) (by decide) | omega
  simp only [qx_1, qx_2, qx_3, qx_4, qx_5, qx_6, qx_7, qx_8, qx_9, qx_10, qx_11, qx_13, qx_15, qx_16, qx_17, qx_18, qx_19, qx_20, qx_21, qx_22, qx_23, qx_24, qx_25, qx_26, qt_1, qt_2, qt_3, qt_4, qt_5, qt_6, qt_7, qt_9, qt_10, qt_11, qt_12, qt_13, ql_1, ql_2, qa_1, qa_2, qb_1, qb_2, qo_1, qo_2, qc_1, qc_2, k_n, k_r, k_1, k_2, k_3, k_4, k_5, k_6, k_7, k_8, k_9, qs_1, add_i, sub_i, mul_i, div_i, mod_i, pow_i, eq_i, ne_i, eq_s, ne_s, eq_b, ne_b, lt_i, le_i, gt_i, ge_i, ret_v, ret_n, tru_b, vk_i, vk_s, vk_t, vk_n, vk_b, is_nn, is_in, is_sn, is_tn, is_rn, isn_nn, isn_tn, zn1, zn2, zn3, zn4, zn5, zn6, zn7, zn8, beq_self_eq_true, then_n, then_r, thenR_n, thenR_r, loop_n, loop_r, zl1, zl2, zl3, zl4, rng_1, rng_2, int_b, str_i, max_i, min_i, len_t, list_t, zl7, zl8, List.replicate, zl9, zl10, List.set, zl5, zl6, zo1, zo3, zo2, Nat.reduceSub, zl11, zl12, zn9, if_false, if_true, zn10, zn11, Bool.not_true, Bool.not_false, zn12, zn13, reduceCtorEq, zn15, zn14, zn18, zn16, zn17, forall_const, zb1, zb2, zb3, zb4, zb5, zb6, zb7, decide_true, decide_false, eq_self, s_L_topped_3]
  refine hP.len (lenL e1 (by first | decide | with_reducible first | assumption | exact zm0 (by decide) | exact zm1 (by decide) (by decide) | exact zm3 (by assumption) (by decide) | omega) ?_)
  simp only [qx_1, qx_2, qx_3, qx_4, qx_5, qx_6, qx_7, qx_8, qx_9, qx_10, qx_11, qx_13, qx_15, qx_16, qx_17, qx_18, qx_19, qx_20, qx_21, qx_22, qx_23, qx_24, qx_25, qx_26, qt_1, qt_2, qt_3, qt_4, qt_5, qt_6, qt_7, qt_9, qt_10, qt_11, qt_12, qt_13, ql_1, ql_2, qa_1, qa_2, qb_1, qb_2, qo_1, qo_2, qc_1, qc_2, k_n, k_r, k_1, k_2, k_3, k_4, k_5, k_6, k_7, k_8, k_9, qs_1, add_i, sub_i, mul_i, div_i, mod_i, pow_i, eq_i, ne_i, eq_s, ne_s, eq_b, ne_b, lt_i, le_i, gt_i, ge_i, ret_v, ret_n, tru_b, vk_i, vk_s, vk_t, vk_n, vk_b, is_nn, is_in, is_sn, is_tn, is_rn, isn_nn, isn_tn, zn1, zn2, zn3, zn4, zn5, zn6, zn7, zn8, beq_self_eq_true, then_n, then_r, thenR_n, thenR_r, loop_n, loop_r, zl1, zl2, zl3, zl4, rng_1, rng_2, int_b, str_i, max_i, min_i, len_t, list_t, zl7, zl8, List.replicate, zl9, zl10, List.set, zl5, zl6, zo1, zo3, zo2, Nat.reduceSub, zl11, zl12, zn9, if_false, if_true, zn10, zn11, Bool.not_true, Bool.not_false, zn12, zn13, reduceCtorEq, zn15, zn14, zn18, zn16, zn17, forall_const, zb1, zb2, zb3, zb4, zb5, zb6, zb7, decide_true, decide_false, eq_self]
  refine row_ok hc hS hW (by decide) (by decide) (by first | decide | with_reducible first | assumption | exact zm0 (by decide) | exact zm1 (by decide) (by decide) | exact zm3 (by assumption) (by decide) | omega) (by first | decide | with_reducible first | assumption | exact zm0 (by decide) | exact zm1 (by decide) (by decide) | exact zm3 (by assumption) (by decide) | omega) (by first | decide | with_reducible first | assumption | exact zm0 (by decide) | exact zm1 (by decide) (by decide) | exact zm3 (by assumption) (by decide) | omega) (by first | decide | with_reducible first | assumption | exact zm0 (by decide) | exact zm1 (by decide) (by decide) | exact zm3 (by assumption) (by decide) | omega) fun r hr => ?_
  obtain ⟨w, hw3, rfl⟩ := row_one (by decide) hr
  simp only [qx_1, qx_2, qx_3, qx_4, qx_5, qx_6, qx_7, qx_8, qx_9, qx_10, qx_11, qx_13, qx_15, qx_16, qx_17, qx_18, qx_19, qx_20, qx_21, qx_22, qx_23, qx_24, qx_25, qx_26, qt_1, qt_2, qt_3, qt_4, qt_5, qt_6, qt_7, qt_9, qt_10, qt_11, qt_12, qt_13, ql_1, ql_2, qa_1, qa_2, qb_1, qb_2, qo_1, qo_2, qc_1, qc_2, k_n, k_r, k_1, k_2, k_3, k_4, k_5, k_6, k_7, k_8, k_9, qs_1, add_i, sub_i, mul_i, div_i, mod_i, pow_i, eq_i, ne_i, eq_s, ne_s, eq_b, ne_b, lt_i, le_i, gt_i, ge_i, ret_v, ret_n, tru_b, vk_i, vk_s, vk_t, vk_n, vk_b, is_nn, is_in, is_sn, is_tn, is_rn, isn_nn, isn_tn, zn1, zn2, zn3, zn4, zn5, zn6, zn7, zn8, beq_self_eq_true, then_n, then_r, thenR_n, thenR_r, loop_n, loop_r, zl1, zl2, zl3, zl4, rng_1, rng_2, int_b, str_i, max_i, min_i, len_t, list_t, zl7, zl8, List.replicate, zl9, zl10, List.set, zl5, zl6, zo1, zo3, zo2, Nat.reduceSub, zl11, zl12, zn9, if_false, if_true, zn10, zn11, Bool.not_true, Bool.not_false, zn12, zn13, reduceCtorEq, zn15, zn14, zn18, zn16, zn17, forall_const, zb1, zb2, zb3, zb4, zb5, zb6, zb7, decide_true, decide_false, eq_self, s_L_topped_4, add_l]
  refine slcL (lo := none) (hi := some (m : Int)) rfl rfl e1 (by first | decide | with_reducible first | assumption | exact zm0 (by decide) | exact zm1 (by decide) (by decide) | exact zm3 (by assumption) (by decide) | omega) fun r1 hr1 => ⟨by simp, fun r2 hr2 => ⟨_, _, _, _, AH.set_of (AH.set_self _ _ _) hr2, AH.set_self _ _ _, ?_, fun r3 hr3 => ?_⟩⟩
  · have := cut_len none (some (m : Int)) l
    simp only [List.length_cons, List.length_nil]; omega
  rw [cut_take (by first | decide | with_reducible first | assumption | exact zm0 (by decide) | exact zm1 (by decide) (by decide) | exact zm3 (by assumption) (by decide) | omega) (by first | decide | with_reducible first | assumption | exact zm0 (by decide) | exact zm1 (by decide) (by decide) | exact zm3 (by assumption) (by decide) | omega), Int.toNat_natCast] at hr2 hr3 ⊢
  have e13 : (((H.set r1 (.list true (l.take m))).set r2 (.list true [.tup [.str w]])).set r3 (.list true (l.take m ++ [.tup [.str w]]))) rb = some (.list own l) := AH.set_of (AH.set_of (AH.set_of e1 hr1) hr2) hr3
  refine slcL (lo := some ((m : Int) + 1)) (hi := none) rfl rfl e13 (by first | decide | with_reducible first | assumption | exact zm0 (by decide) | exact zm1 (by decide) (by decide) | exact zm3 (by assumption) (by decide) | omega) fun r4 hr4 => ⟨_, _, _, _, AH.set_of (AH.set_self _ _ _) hr4, AH.set_self _ _ _, ?_, fun r5 hr5 => ?_⟩
  · have := cut_len (some ((m : Int) + 1)) none l
    simp only [List.length_append, List.length_take, List.length_cons, List.length_nil]; omega
  rw [show ((m : Int) + 1) = ((m + 1 : Nat) : Int) by first | decide | with_reducible first | assumption | exact zm0 (by decide) | exact zm1 (by decide) (by decide) | exact zm3 (by assumption) (by decide) | omega, cut_dropW] at hr5 ⊢
  have g5 : ∀ (a : Nat) (ob : AObj), H a = some ob → (((((H.set r1 (.list true (l.take m))).set r2 (.list true [.tup [.str w]])).set r3 (.list true (l.take m ++ [.tup [.str w]]))).set r4 (.list true (l.drop (m + 1)))).set r5 (.list true (l.take m ++ [.tup [.str w]] ++ l.drop (m + 1)))) a = some ob :=
    fun a ob h => AH.set_of (AH.set_of (AH.set_of (AH.set_of (AH.set_of h hr1) hr2) hr3) hr4) hr5
  have e5 : (((((H.set r1 (.list true (l.take m))).set r2 (.list true [.tup [.str w]])).set r3 (.list true (l.take m ++ [.tup [.str w]]))).set r4 (.list true (l.drop (m + 1)))).set r5 (.list true (l.take m ++ [.tup [.str w]] ++ l.drop (m + 1)))) r5 = some (.list true (l.take m ++ [.tup [.str w]] ++ l.drop (m + 1))) := AH.set_self _ _ _
  generalize ((((H.set r1 (.list true (l.take m))).set r2 (.list true [.tup [.str w]])).set r3 (.list true (l.take m ++ [.tup [.str w]]))).set r4 (.list true (l.drop (m + 1)))).set r5 (.list true (l.take m ++ [.tup [.str w]] ++ l.drop (m + 1))) = H5 at g5 e5
  generalize hnb : l.take m ++ [.tup [.str w]] ++ l.drop (m + 1) = nb at e5
  have hnl : nb.length ≤ 60 := by
    rw [← hnb, List.length_append, List.length_append, List.length_take, List.length_drop, List.length_singleton]; omega
  have hlB : l ∈ B := List.mem_of_getElem? e3
  have hnr : ∀ y ∈ nb, Row W4 y := fun y hy => by
    rw [← hnb] at hy
    rcases List.mem_append.mp hy with hy | hy
    · rcases List.mem_append.mp hy with hy | hy
      · exact hR l hlB y (List.mem_of_mem_take hy)
      · simp at hy; rw [hy]; exact hr.up
    · exact hR l hlB y (List.mem_of_mem_drop hy)
  have hnm : nb[m]? = some (.tup [.str w]) := by
    rw [← hnb, List.append_assoc, List.getElem?_append_right (by rw [List.length_take]; omega), List.length_take, Nat.min_eq_left hml]; simp
  have h5p : r5 ≠ p := (hP.grow g5).ne e5 fun y hy r => (hnr y hy).noref r
  have hfp : f ≠ p := hP.ne h2 fun y hy r => by
    obtain ⟨_, _, _, _, rfl, _⟩ := h4.2 y hy
    exact fun q => nomatch q
  have htp : t ≠ p := fun e => by
    obtain ⟨rl, q1, _⟩ := hP
    rw [e, q1] at h3; cases h3
  obtain ⟨rl, q1, q2, q3, q4, q5⟩ := id hP
  have hrl : rl.length = B.length := by rw [q2, List.length_map]
  simp only [qx_1, qx_2, qx_3, qx_4, qx_5, qx_6, qx_7, qx_8, qx_9, qx_10, qx_11, qx_13, qx_15, qx_16, qx_17, qx_18, qx_19, qx_20, qx_21, qx_22, qx_23, qx_24, qx_25, qx_26, qt_1, qt_2, qt_3, qt_4, qt_5, qt_6, qt_7, qt_9, qt_10, qt_11, qt_12, qt_13, ql_1, ql_2, qa_1, qa_2, qb_1, qb_2, qo_1, qo_2, qc_1, qc_2, k_n, k_r, k_1, k_2, k_3, k_4, k_5, k_6, k_7, k_8, k_9, qs_1, add_i, sub_i, mul_i, div_i, mod_i, pow_i, eq_i, ne_i, eq_s, ne_s, eq_b, ne_b, lt_i, le_i, gt_i, ge_i, ret_v, ret_n, tru_b, vk_i, vk_s, vk_t, vk_n, vk_b, is_nn, is_in, is_sn, is_tn, is_rn, isn_nn, isn_tn, zn1, zn2, zn3, zn4, zn5, zn6, zn7, zn8, beq_self_eq_true, then_n, then_r, thenR_n, thenR_r, loop_n, loop_r, zl1, zl2, zl3, zl4, rng_1, rng_2, int_b, str_i, max_i, min_i, len_t, list_t, zl7, zl8, List.replicate, zl9, zl10, List.set, zl5, zl6, zo1, zo3, zo2, Nat.reduceSub, zl11, zl12, zn9, if_false, if_true, zn10, zn11, Bool.not_true, Bool.not_false, zn12, zn13, reduceCtorEq, zn15, zn14, zn18, zn16, zn17, forall_const, zb1, zb2, zb3, zb4, zb5, zb6, zb7, decide_true, decide_false, eq_self, g20, g21, g30, g31, g32, g40, g41, g42, g43]
  refine setL (g5 _ _ q1) b0 (by rw [List.length_map]; omega) (by rw [List.length_map]; omega) ?_
  have g6 : ∀ (a : Nat) (ob : AObj), a ≠ p → H a = some ob → (H5.set p (.list true ((rl.map fun x => AV.ref x.1).set b.toNat (.ref r5)))) a = some ob := fun a ob ha h => by rw [AH.set_ne _ _ ha]; exact g5 _ _ h
  have hP6 : Prog (H5.set p (.list true ((rl.map fun x => AV.ref x.1).set b.toNat (.ref r5)))) p (B.set b.toNat nb) :=
    hP.put hR (by first | decide | with_reducible first | assumption | exact zm0 (by decide) | exact zm1 (by decide) (by decide) | exact zm3 (by assumption) (by decide) | omega) hnl h5p g6 (by rw [AH.set_ne _ _ h5p]; exact e5) fun L e => by
      rw [q1] at e; cases e; exact AH.set_self _ _ _
  generalize H5.set p (.list true ((rl.map fun x => AV.ref x.1).set b.toNat (.ref r5))) = H6 at g6 hP6
  simp only [qx_1, qx_2, qx_3, qx_4, qx_5, qx_6, qx_7, qx_8, qx_9, qx_10, qx_11, qx_13, qx_15, qx_16, qx_17, qx_18, qx_19, qx_20, qx_21, qx_22, qx_23, qx_24, qx_25, qx_26, qt_1, qt_2, qt_3, qt_4, qt_5, qt_6, qt_7, qt_9, qt_10, qt_11, qt_12, qt_13, ql_1, ql_2, qa_1, qa_2, qb_1, qb_2, qo_1, qo_2, qc_1, qc_2, k_n, k_r, k_1, k_2, k_3, k_4, k_5, k_6, k_7, k_8, k_9, qs_1, add_i, sub_i, mul_i, div_i, mod_i, pow_i, eq_i, ne_i, eq_s, ne_s, eq_b, ne_b, lt_i, le_i, gt_i, ge_i, ret_v, ret_n, tru_b, vk_i, vk_s, vk_t, vk_n, vk_b, is_nn, is_in, is_sn, is_tn, is_rn, isn_nn, isn_tn, zn1, zn2, zn3, zn4, zn5, zn6, zn7, zn8, beq_self_eq_true, then_n, then_r, thenR_n, thenR_r, loop_n, loop_r, zl1, zl2, zl3, zl4, rng_1, rng_2, int_b, str_i, max_i, min_i, len_t, list_t, zl7, zl8, List.replicate, zl9, zl10, List.set, zl5, zl6, zo1, zo3, zo2, Nat.reduceSub, zl11, zl12, zn9, if_false, if_true, zn10, zn11, Bool.not_true, Bool.not_false, zn12, zn13, reduceCtorEq, zn15, zn14, zn18, zn16, zn17, forall_const, zb1, zb2, zb3, zb4, zb5, zb6, zb7, decide_true, decide_false, eq_self, g20, g21, g30, g31, g32, g40, g41, g42, g43, s_L_topped_5, add_l]
  refine ⟨1, rfl, slcL (lo := none) (hi := some (-1)) rfl rfl (g6 _ _ hfp h2) (by simp; omega) fun r6 hr6 => ?_⟩
  rw [cut_m1]
  refine ⟨by simp, by simp, fun r7 hr7 => ⟨_, _, _, _, AH.set_of (AH.set_self _ _ _) hr7, AH.set_self _ _ _, by simp; omega, fun r8 hr8 => ?_⟩⟩
  simp only [qx_1, qx_2, qx_3, qx_4, qx_5, qx_6, qx_7, qx_8, qx_9, qx_10, qx_11, qx_13, qx_15, qx_16, qx_17, qx_18, qx_19, qx_20, qx_21, qx_22, qx_23, qx_24, qx_25, qx_26, qt_1, qt_2, qt_3, qt_4, qt_5, qt_6, qt_7, qt_9, qt_10, qt_11, qt_12, qt_13, ql_1, ql_2, qa_1, qa_2, qb_1, qb_2, qo_1, qo_2, qc_1, qc_2, k_n, k_r, k_1, k_2, k_3, k_4, k_5, k_6, k_7, k_8, k_9, qs_1, add_i, sub_i, mul_i, div_i, mod_i, pow_i, eq_i, ne_i, eq_s, ne_s, eq_b, ne_b, lt_i, le_i, gt_i, ge_i, ret_v, ret_n, tru_b, vk_i, vk_s, vk_t, vk_n, vk_b, is_nn, is_in, is_sn, is_tn, is_rn, isn_nn, isn_tn, zn1, zn2, zn3, zn4, zn5, zn6, zn7, zn8, beq_self_eq_true, then_n, then_r, thenR_n, thenR_r, loop_n, loop_r, zl1, zl2, zl3, zl4, rng_1, rng_2, int_b, str_i, max_i, min_i, len_t, list_t, zl7, zl8, List.replicate, zl9, zl10, List.set, zl5, zl6, zo1, zo3, zo2, Nat.reduceSub, zl11, zl12, zn9, if_false, if_true, zn10, zn11, Bool.not_true, Bool.not_false, zn12, zn13, reduceCtorEq, zn15, zn14, zn18, zn16, zn17, forall_const, zb1, zb2, zb3, zb4, zb5, zb6, zb7, decide_true, decide_false, eq_self, g20, g21, g30, g31, g32, g40, g41, g42, g43]
  have g9 : ∀ (a : Nat) (ob : AObj), H6 a = some ob → (((H6.set r6 (.list true F0)).set r7 (.list true [.tup [.int b, .int m, .tup o, .tup s]])).set r8 (.list true (F0 ++ [.tup [.int b, .int m, .tup o, .tup s]]))) a = some ob := fun _ _ h => AH.set_of (AH.set_of (AH.set_of h hr6) hr7) hr8
  refine ⟨by simp, hQ F0 b m o s (B.set b.toNat nb) nb w r8 _ (fun a ob ha h => g9 _ _ (g6 _ _ ha h)) (hP6.grow g9) (fun b' hb' y hy => ?_) ?_ (by rw [Int.toNat_natCast]; exact hnm) hw3 k1.2 ⟨rfl, .inl rfl, ⟨true, AH.set_self _ _ _⟩, ⟨o2, g9 _ _ (g6 _ _ htp h3)⟩, ⟨by rw [List.length_append, List.length_singleton]; omega, fun y hy => ?_⟩, h5, h6⟩⟩
  · rcases List.mem_or_eq_of_mem_set hb' with z | z
    · exact hR b' z y hy
    · rw [z] at hy; exact hnr y hy
  · rw [List.getElem?_set_self (by first | decide | with_reducible first | assumption | exact zm0 (by decide) | exact zm1 (by decide) (by decide) | exact zm3 (by assumption) (by decide) | omega)]
  · rcases List.mem_append.mp hy with z | z
    · exact h4.2 y (List.mem_append.mpr (.inl z))
    · simp at z; subst z; exact ⟨_, _, _, _, rfl, b0, by first | decide | with_reducible first | assumption | exact zm0 (by decide) | exact zm1 (by decide) (by decide) | exact zm3 (by assumption) (by decide) | omega, k1, k2⟩
end
end Mine

set_option maxRecDepth 100000
set_option autoImplicit false
set_option linter.unusedSimpArgs false
set_option linter.unusedVariables false
namespace Mine
open PySem PyProof.Rows

/-! ## a program as plain data -/
theorem eqv_all_cons {d : PyData} {ds : List PyData} (h1 : PyData.eqv d d = true) (h2 : PyData.eqvAll ds ds = true) : PyData.eqvAll (d :: ds) (d :: ds) = true := by
  show (PyData.eqv d d && PyData.eqvAll ds ds) = true
  rw [h1, h2]; rfl
theorem eqv_str (w : Str) : PyData.eqv (.str w) (.str w) = true := by show (w == w) = true; simp
theorem eqv_int (i : Int) : PyData.eqv (.int i) (.int i) = true := by show (i == i) = true; simp
theorem row_data {v : AV} (h : Row W4 v) : ∃ d, PyData.eqv d d = true ∧ d.depth ≤ 5 ∧ ∀ H, DV H v d := by
  obtain ⟨w, hw, rfl⟩ := row_one (by decide) h
  have hk : PyData.strOk w = true := List.all_eq_true.mp (show W4.all PyData.strOk = true by decide +kernel) w hw
  exact ⟨.tuple [.str w], eqv_all_cons (eqv_str w) rfl, by simp [PyData.depth, PyData.depthAll], fun H => .tup (.cons (.str w hk) .nil)⟩
theorem body_data : ∀ {l : List AV}, (∀ v ∈ l, Row W4 v) → ∃ ds, PyData.eqvAll ds ds = true ∧ PyData.depthAll ds ≤ 5 ∧ ∀ H, DVs H l ds
  | [], _ => ⟨[], rfl, by simp [PyData.depthAll], fun _ => .nil⟩
  | v :: l, h => by
    obtain ⟨d, d1, d2, d3⟩ := row_data (h v (.head _))
    obtain ⟨ds, e1, e2, e3⟩ := body_data (l := l) fun w hw => h w (.tail _ hw)
    exact ⟨d :: ds, eqv_all_cons d1 e1, by simp only [PyData.depthAll]; omega, fun H => .cons (d3 H) (e3 H)⟩
theorem prog_data : ∀ {B : List (List AV)}, Rows W4 B → ∃ es, PyData.eqvAll es es = true ∧ PyData.depthAll es ≤ 6 ∧ ∀ (H : AH) (rl : List (Nat × List AV)), rl.map (·.2) = B → (∀ x ∈ rl, ∃ own, H x.1 = some (.list own x.2)) → DVs H (rl.map fun x => .ref x.1) es
  | [], _ => ⟨[], rfl, by simp [PyData.depthAll], fun H rl e _ => by
    cases rl with
    | nil => exact .nil
    | cons => simp at e⟩
  | b :: B, h => by
    obtain ⟨ds, d1, d2, d3⟩ := body_data (h b (.head _))
    obtain ⟨es, e1, e2, e3⟩ := prog_data (B := B) fun x hx => h x (.tail _ hx)
    refine ⟨.list ds :: es, eqv_all_cons (show PyData.eqvAll ds ds = true from d1) e1, by simp only [PyData.depthAll, PyData.depth]; omega, fun H rl e hx => ?_⟩
    cases rl with
    | nil => simp at e
    | cons x rl =>
      simp only [List.map_cons, List.cons.injEq] at e
      obtain ⟨rfl, e⟩ := e
      obtain ⟨own, hh⟩ := hx x (.head _)
      exact .cons (.list hh (d3 H)) (e3 H rl e fun y hy => hx y (.tail _ hy))

section
variable {c : Cx} {n : Nat} {H : AH}
theorem same_prog {p p' : Nat} {B : List (List AV)} {Q : Bool → AH → Prop} (h1 : Prog H p B) (h2 : Prog H p' B) (hR : Rows W4 B) (hq : Q false H) : cmpW .NotEq (.ref p) (.ref p') H Q := by
  obtain ⟨es, e1, e2, e3⟩ := prog_data hR
  obtain ⟨r1, a1, a2, _, _, a5⟩ := h1
  obtain ⟨r2, b1, b2, _, _, b5⟩ := h2
  refine .inr ⟨.list es, .list es, .list a1 (e3 H r1 a2.symm fun x hx => (a5 x hx).1), .list b1 (e3 H r2 b2.symm fun x hx => (b5 x hx).1), ?_, ?_⟩
  · simp only [PyData.depth]; omega
  · have : PyData.eqv (.list es) (.list es) = true := e1
    rw [this]; exact hq

/-- a copy of each body -/
theorem copies_ok {p : Nat} {B : List (List AV)} {x0 x1 x2 x3 x4 x5 x6 x7 x8 : Option AV} {wt : Loc → AH → (Bool → AH → Prop) → Prop} {Q : List AV → AH → Prop} (hP : Prog H p B)
    (hQ : ∀ (gl : List (Nat × List AV)) (H' : AH), (∀ a ob, H a = some ob → H' a = some ob) → gl.map (·.2) = B → (∀ x ∈ gl, H' x.1 = some (.list true x.2)) → Q (gl.map fun x => .ref x.1) H') :
    CompP wt (fun ρ H Q => wpE c n (.bi .list [.var 9]) ρ H Q) false [x0, x1, x2, x3, x4, x5, x6, x7, x8] (.ref p) H Q := by
  obtain ⟨rl, h1, rfl, h3, h4, h5⟩ := hP
  refine ⟨.list, _, fun j ys H' => ∃ gl : List (Nat × List AV), ys = gl.map (fun x => .ref x.1) ∧ (∀ a ob, H a = some ob → H' a = some ob) ∧ gl.map (·.2) = (rl.take j).map (·.2) ∧ ∀ x ∈ gl, H' x.1 = some (.list true x.2), .list h1, ⟨[], rfl, fun _ _ h => h, rfl, by simp⟩, ?_, ?_, ?_⟩
  · rintro j ys H' ⟨gl, rfl, g, e, _⟩
    refine ⟨.list (g _ _ h1), ?_⟩
    have := congrArg List.length e
    rw [List.length_map, List.length_map, List.length_take] at this
    rw [List.length_map]; omega
  · rintro j y ys H' ej ⟨gl, rfl, g, e, hg⟩
    rw [List.getElem?_map] at ej
    obtain ⟨x, ex, rfl⟩ := Option.map_eq_some_iff.mp ej
    obtain ⟨⟨own, hx⟩, hl⟩ := h5 x (List.mem_of_getElem? ex)
    simp only [Bool.false_eq_true, if_false]
    simp only [wpR_eq, wpE_eq, qx_1, qx_2, qx_3, qx_4, qx_5, qx_6, qx_7, qx_8, qx_9, qx_10, qx_11, qx_13, qx_15, qx_16, qx_17, qx_18, qx_19, qx_20, qx_21, qx_22, qx_23, qx_24, qx_25, qx_26, qt_1, qt_2, qt_3, qt_4, qt_5, qt_6, qt_7, qt_9, qt_10, qt_11, qt_12, qt_13, ql_1, ql_2, qa_1, qa_2, qb_1, qb_2, qo_1, qo_2, qc_1, qc_2, k_n, k_r, k_1, k_2, k_3, k_4, k_5, k_6, k_7, k_8, k_9, qs_1, add_i, sub_i, mul_i, div_i, mod_i, pow_i, eq_i, ne_i, eq_s, ne_s, eq_b, ne_b, lt_i, le_i, gt_i, ge_i, ret_v, ret_n, tru_b, vk_i, vk_s, vk_t, vk_n, vk_b, is_nn, is_in, is_sn, is_tn, is_rn, isn_nn, isn_tn, zn1, zn2, zn3, zn4, zn5, zn6, zn7, zn8, beq_self_eq_true, then_n, then_r, thenR_n, thenR_r, loop_n, loop_r, zl1, zl2, zl3, zl4, rng_1, rng_2, int_b, str_i, max_i, min_i, len_t, list_t, zl7, zl8, List.replicate, zl9, zl10, List.set, zl5, zl6, zo1, zo3, zo2, Nat.reduceSub, zl11, zl12, zn9, if_false, if_true, zn10, zn11, Bool.not_true, Bool.not_false, zn12, zn13, reduceCtorEq, zn15, zn14, zn18, zn16, zn17, forall_const, zb1, zb2, zb3, zb4, zb5, zb6, zb7, decide_true, decide_false, eq_self]
    refine listL (g _ _ hx) (by first | decide | with_reducible first | assumption | exact zm0 (by decide) | exact zm1 (by decide) (by decide) | exact zm3 (by assumption) (by decide) | omega) fun r hr => ⟨gl ++ [(r, x.2)], by simp, fun a ob h => AH.set_of (g _ _ h) hr, ?_, fun z hz => ?_⟩
    · rw [List.take_add_one, ex, List.map_append, List.map_append, e]; rfl
    · rcases List.mem_append.mp hz with q | q
      · exact AH.set_of (hg z q) hr
      · simp at q; subst q; exact AH.set_self _ _ _
  · rintro ys H' ⟨gl, rfl, g, e, hg⟩
    rw [List.length_map, List.take_of_length_le (Nat.le_refl _)] at e
    exact hQ gl H' g e hg

end
end Mine

set_option maxRecDepth 100000
set_option autoImplicit false
set_option linter.unusedSimpArgs false
set_option linter.unusedVariables false
namespace Mine
open PySem PyProof.Rows

noncomputable def NumL (N : List Int) (k : Int) : Prop := (N = [] ∧ k = 0) ∨ (k - 1 ∈ N ∧ ∀ x ∈ N, x ≤ k - 1)
theorem NumL.add {N : List Int} {k y : Int} (h : NumL N k) (hy : 0 ≤ y) : NumL (N ++ [y]) (max k (y + 1)) := by
  right
  rcases h with ⟨rfl, rfl⟩ | ⟨a, b⟩
  · have e : max 0 (y + 1) - 1 = y := by first | decide | with_reducible first | assumption | exact zm0 (by decide) | exact zm1 (by decide) (by decide) | exact zm3 (by assumption) (by decide) | omega
    rw [e]; exact ⟨by simp, fun x hx => by simp at hx; omega⟩
  · by_cases z : y + 1 ≤ k
    · have e : max k (y + 1) - 1 = k - 1 := by first | decide | with_reducible first | assumption | exact zm0 (by decide) | exact zm1 (by decide) (by decide) | exact zm3 (by assumption) (by decide) | omega
      rw [e]; exact ⟨List.mem_append.mpr (.inl a), fun x hx => by
        rcases List.mem_append.mp hx with q | q
        · exact b x q
        · simp at q; omega⟩
    · have e : max k (y + 1) - 1 = y := by first | decide | with_reducible first | assumption | exact zm0 (by decide) | exact zm1 (by decide) (by decide) | exact zm3 (by assumption) (by decide) | omega
      rw [e]; exact ⟨by simp, fun x hx => by
        rcases List.mem_append.mp hx with q | q
        · have := b x q; omega
        · simp at q; omega⟩

section
variable {c : Cx} {n : Nat} {H : AH}

theorem due_ok (hc : Tab c) {f t : Nat} {F0 : List AV} {b q : Int} {o s : List AV} {T : List (Int × AV)} {w : Str} {Q : AV → AH → Prop} (hw : w ∈ W3) (hst : State H (.tup [.none, .ref f, .ref t]) .none (F0 ++ [.tup [.int b, .int q, .tup o, .tup s]]) T f t) (hs : Vals (keys T) s) (hK : ∀ x ∈ keys T, 0 ≤ x)
    (hQ : ∀ (k : Int) (f' t' : Nat) (H' : AH), IsNum T k → (∀ a ob, H a = some ob → H' a = some ob) → (∃ own, H' f' = some (.list own (F0 ++ [outL w k b q o s T]))) → (f' = f ∨ H f' = none) → (∃ own, H' t' = some (.dict own (outTT w k s T))) → (t' = t ∨ H t' = none) →
      Q (.tup [.tup [outE w s T, .ref f', .ref t'], .none]) H') : CW c (n + 2) i_L_due [.tup [.str w], .tup [.none, .ref f, .ref t], .tup [.int b, .int q, .tup o, .tup s]] H Q := by
  refine CW.run (f := "_law_due") (ir := ir_L_due) (by rw [hc.fns]; rfl) rfl ?_
  obtain ⟨_, _, ⟨o1, h2⟩, ⟨o2, h3⟩, h4, h5, h6⟩ := id hst
  have hsl := hs.1
  have hFl := h4.1
  rw [List.length_append, List.length_singleton] at hFl
  obtain ⟨p0, p1⟩ := popI_le w
  obtain ⟨k0, hk0⟩ := IsNum.ex T
  have stuck : ∀ (x : Str) (H1 : AH), stuckV w s T = .str x → (∀ a ob, H a = some ob → H1 a = some ob) → Q (.tup [.tup [.tup [.str "stuck", .str x], .ref f, .ref t], .none]) H1 := fun x H1 e g => by
    have hq := hQ k0 f t H1 hk0 g
    unfold outL outE outTT at hq
    rw [e, isN_str] at hq
    simp only [Bool.false_eq_true, if_false] at hq
    exact hq ⟨o1, g _ _ h2⟩ (.inl trivial) ⟨o2, g _ _ h3⟩ (.inl trivial)
  simp only [qx_1, qx_2, qx_3, qx_4, qx_5, qx_6, qx_7, qx_8, qx_9, qx_10, qx_11, qx_13, qx_15, qx_16, qx_17, qx_18, qx_19, qx_20, qx_21, qx_22, qx_23, qx_24, qx_25, qx_26, qt_1, qt_2, qt_3, qt_4, qt_5, qt_6, qt_7, qt_9, qt_10, qt_11, qt_12, qt_13, ql_1, ql_2, qa_1, qa_2, qb_1, qb_2, qo_1, qo_2, qc_1, qc_2, k_n, k_r, k_1, k_2, k_3, k_4, k_5, k_6, k_7, k_8, k_9, qs_1, add_i, sub_i, mul_i, div_i, mod_i, pow_i, eq_i, ne_i, eq_s, ne_s, eq_b, ne_b, lt_i, le_i, gt_i, ge_i, ret_v, ret_n, tru_b, vk_i, vk_s, vk_t, vk_n, vk_b, is_nn, is_in, is_sn, is_tn, is_rn, isn_nn, isn_tn, zn1, zn2, zn3, zn4, zn5, zn6, zn7, zn8, beq_self_eq_true, then_n, then_r, thenR_n, thenR_r, loop_n, loop_r, zl1, zl2, zl3, zl4, rng_1, rng_2, int_b, str_i, max_i, min_i, len_t, list_t, zl7, zl8, List.replicate, zl9, zl10, List.set, zl5, zl6, zo1, zo3, zo2, Nat.reduceSub, zl11, zl12, zn9, if_false, if_true, zn10, zn11, Bool.not_true, Bool.not_false, zn12, zn13, reduceCtorEq, zn15, zn14, zn18, zn16, zn17, forall_const, zb1, zb2, zb3, zb4, zb5, zb6, zb7, decide_true, decide_false, eq_self, g20, g21, g30, g31, g32, g40, g41, g42, g43, ir_L_due, s_L_due_0]
  simp only [qx_1, qx_2, qx_3, qx_4, qx_5, qx_6, qx_7, qx_8, qx_9, qx_10, qx_11, qx_13, qx_15, qx_16, qx_17, qx_18, qx_19, qx_20, qx_21, qx_22, qx_23, qx_24, qx_25, qx_26, qt_1, qt_2, qt_3, qt_4, qt_5, qt_6, qt_7, qt_9, qt_10, qt_11, qt_12, qt_13, ql_1, ql_2, qa_1, qa_2, qb_1, qb_2, qo_1, qo_2, qc_1, qc_2, k_n, k_r, k_1, k_2, k_3, k_4, k_5, k_6, k_7, k_8, k_9, qs_1, add_i, sub_i, mul_i, div_i, mod_i, pow_i, eq_i, ne_i, eq_s, ne_s, eq_b, ne_b, lt_i, le_i, gt_i, ge_i, ret_v, ret_n, tru_b, vk_i, vk_s, vk_t, vk_n, vk_b, is_nn, is_in, is_sn, is_tn, is_rn, isn_nn, isn_tn, zn1, zn2, zn3, zn4, zn5, zn6, zn7, zn8, beq_self_eq_true, then_n, then_r, thenR_n, thenR_r, loop_n, loop_r, zl1, zl2, zl3, zl4, rng_1, rng_2, int_b, str_i, max_i, min_i, len_t, list_t, zl7, zl8, List.replicate, zl9, zl10, List.set, zl5, zl6, zo1, zo3, zo2, Nat.reduceSub, zl11, zl12, zn9, if_false, if_true, zn10, zn11, Bool.not_true, Bool.not_false, zn12, zn13, reduceCtorEq, zn15, zn14, zn18, zn16, zn17, forall_const, zb1, zb2, zb3, zb4, zb5, zb6, zb7, decide_true, decide_false, eq_self, g20, g21, g30, g31, g32, g40, g41, g42, g43, s_L_due_1, s_L_due_1b0]
  refine ⟨by first | decide | with_reducible first | assumption | exact zm0 (by decide) | exact zm1 (by decide) (by decide) | exact zm3 (by assumption) (by decide) | omega, by simp, fun r0 hr0 => row0 ?_⟩
  simp only [qx_1, qx_2, qx_3, qx_4, qx_5, qx_6, qx_7, qx_8, qx_9, qx_10, qx_11, qx_13, qx_15, qx_16, qx_17, qx_18, qx_19, qx_20, qx_21, qx_22, qx_23, qx_24, qx_25, qx_26, qt_1, qt_2, qt_3, qt_4, qt_5, qt_6, qt_7, qt_9, qt_10, qt_11, qt_12, qt_13, ql_1, ql_2, qa_1, qa_2, qb_1, qb_2, qo_1, qo_2, qc_1, qc_2, k_n, k_r, k_1, k_2, k_3, k_4, k_5, k_6, k_7, k_8, k_9, qs_1, add_i, sub_i, mul_i, div_i, mod_i, pow_i, eq_i, ne_i, eq_s, ne_s, eq_b, ne_b, lt_i, le_i, gt_i, ge_i, ret_v, ret_n, tru_b, vk_i, vk_s, vk_t, vk_n, vk_b, is_nn, is_in, is_sn, is_tn, is_rn, isn_nn, isn_tn, zn1, zn2, zn3, zn4, zn5, zn6, zn7, zn8, beq_self_eq_true, then_n, then_r, thenR_n, thenR_r, loop_n, loop_r, zl1, zl2, zl3, zl4, rng_1, rng_2, int_b, str_i, max_i, min_i, len_t, list_t, zl7, zl8, List.replicate, zl9, zl10, List.set, zl5, zl6, zo1, zo3, zo2, Nat.reduceSub, zl11, zl12, zn9, if_false, if_true, zn10, zn11, Bool.not_true, Bool.not_false, zn12, zn13, reduceCtorEq, zn15, zn14, zn18, zn16, zn17, forall_const, zb1, zb2, zb3, zb4, zb5, zb6, zb7, decide_true, decide_false, eq_self]
  have g0 : ∀ (l : List AV) (a : Nat) (ob : AObj), H a = some ob → H.set r0 (.list true l) a = some ob := fun _ _ _ h => AH.set_of h hr0
  have more : ∀ H1 : AH, (∀ a ob, H a = some ob → H1 a = some ob) → ¬ (s.length : Int) < popI w → wpS c (n + 1) [s_L_due_2, s_L_due_3, s_L_due_4, s_L_due_5, s_L_due_6] [some (.tup [.str w]), some (.tup [.none, .ref f, .ref t]), some (.tup [.int b, .int q, .tup o, .tup s]), some (.tup s), none, none, none] H1 fun fl _ H' => ∃ v, retv fl v ∧ Q v H' := by
    intro H1 g1 hlen
    have fin : ∀ (k : Int) (s' : List AV) (y5 y6 : Option AV) (t2 : Nat) (H2 : AH), rightB w s T = true → IsNum T k → (∀ a ob, H a = some ob → H2 a = some ob) → H t2 = none → H2 t2 = some (.dict true (outT w k s T)) → s' = restL w s ++ newL w k s T → wpS c (n + 1) [s_L_due_6] [some (.tup [.str w]), some (.tup [.none, .ref f, .ref t]), some (.tup [.int b, .int q, .tup o, .tup s]), some (.tup s'), some (.ref t2), y5, y6] H2 fun fl _ H' => ∃ v, retv fl v ∧ Q v H' := by
      intro k s' y5 y6 t2 H2 hrt hk g2 ht20 ht2 es
      have e : stuckV w s T = .none := by unfold stuckV; rw [if_neg hlen, if_neg (by rw [hrt]; decide)]
      simp only [qx_1, qx_2, qx_3, qx_4, qx_5, qx_6, qx_7, qx_8, qx_9, qx_10, qx_11, qx_13, qx_15, qx_16, qx_17, qx_18, qx_19, qx_20, qx_21, qx_22, qx_23, qx_24, qx_25, qx_26, qt_1, qt_2, qt_3, qt_4, qt_5, qt_6, qt_7, qt_9, qt_10, qt_11, qt_12, qt_13, ql_1, ql_2, qa_1, qa_2, qb_1, qb_2, qo_1, qo_2, qc_1, qc_2, k_n, k_r, k_1, k_2, k_3, k_4, k_5, k_6, k_7, k_8, k_9, qs_1, add_i, sub_i, mul_i, div_i, mod_i, pow_i, eq_i, ne_i, eq_s, ne_s, eq_b, ne_b, lt_i, le_i, gt_i, ge_i, ret_v, ret_n, tru_b, vk_i, vk_s, vk_t, vk_n, vk_b, is_nn, is_in, is_sn, is_tn, is_rn, isn_nn, isn_tn, zn1, zn2, zn3, zn4, zn5, zn6, zn7, zn8, beq_self_eq_true, then_n, then_r, thenR_n, thenR_r, loop_n, loop_r, zl1, zl2, zl3, zl4, rng_1, rng_2, int_b, str_i, max_i, min_i, len_t, list_t, zl7, zl8, List.replicate, zl9, zl10, List.set, zl5, zl6, zo1, zo3, zo2, Nat.reduceSub, zl11, zl12, zn9, if_false, if_true, zn10, zn11, Bool.not_true, Bool.not_false, zn12, zn13, reduceCtorEq, zn15, zn14, zn18, zn16, zn17, forall_const, zb1, zb2, zb3, zb4, zb5, zb6, zb7, decide_true, decide_false, eq_self, g20, g21, g30, g31, g32, g40, g41, g42, g43, s_L_due_6, add_l]
      refine ⟨1, rfl, slcL (lo := none) (hi := some (-1)) rfl rfl (g2 _ _ h2) (by simp; omega) fun r6 hr6 => ?_⟩
      rw [cut_m1]
      refine ⟨by simp, by simp, fun r7 hr7 => ⟨_, _, _, _, AH.set_of (AH.set_self _ _ _) hr7, AH.set_self _ _ _, by simp; omega, fun r8 hr8 => ⟨by simp, by simp, ?_⟩⟩⟩
      have hq := fun H' => hQ k r8 t2 H' hk
      unfold outL outE outTT at hq
      rw [e] at hq
      simp only [show isN .none = true from rfl, if_true] at hq
      refine hq _ (fun _ _ h => AH.set_of (AH.set_of (AH.set_of (g2 _ _ h) hr6) hr7) hr8) ⟨true, by rw [AH.set_self, es]⟩ (.inr ?_) ⟨true, AH.set_of (AH.set_of (AH.set_of ht2 hr6) hr7) hr8⟩ (.inr ht20)
      cases z : H r8 with
      | none => rfl
      | some ob => rw [AH.set_of (AH.set_of (g2 _ _ z) hr6) hr7] at hr8; cases hr8
    have wr : rightB w s T = true → wpS c (n + 1) [s_L_due_4, s_L_due_5, s_L_due_6] [some (.tup [.str w]), some (.tup [.none, .ref f, .ref t]), some (.tup [.int b, .int q, .tup o, .tup s]), some (.tup s), none, none, none] H1 fun fl _ H' => ∃ v, retv fl v ∧ Q v H' := by
      intro hrt
      simp only [qx_1, qx_2, qx_3, qx_4, qx_5, qx_6, qx_7, qx_8, qx_9, qx_10, qx_11, qx_13, qx_15, qx_16, qx_17, qx_18, qx_19, qx_20, qx_21, qx_22, qx_23, qx_24, qx_25, qx_26, qt_1, qt_2, qt_3, qt_4, qt_5, qt_6, qt_7, qt_9, qt_10, qt_11, qt_12, qt_13, ql_1, ql_2, qa_1, qa_2, qb_1, qb_2, qo_1, qo_2, qc_1, qc_2, k_n, k_r, k_1, k_2, k_3, k_4, k_5, k_6, k_7, k_8, k_9, qs_1, add_i, sub_i, mul_i, div_i, mod_i, pow_i, eq_i, ne_i, eq_s, ne_s, eq_b, ne_b, lt_i, le_i, gt_i, ge_i, ret_v, ret_n, tru_b, vk_i, vk_s, vk_t, vk_n, vk_b, is_nn, is_in, is_sn, is_tn, is_rn, isn_nn, isn_tn, zn1, zn2, zn3, zn4, zn5, zn6, zn7, zn8, beq_self_eq_true, then_n, then_r, thenR_n, thenR_r, loop_n, loop_r, zl1, zl2, zl3, zl4, rng_1, rng_2, int_b, str_i, max_i, min_i, len_t, list_t, zl7, zl8, List.replicate, zl9, zl10, List.set, zl5, zl6, zo1, zo3, zo2, Nat.reduceSub, zl11, zl12, zn9, if_false, if_true, zn10, zn11, Bool.not_true, Bool.not_false, zn12, zn13, reduceCtorEq, zn15, zn14, zn18, zn16, zn17, forall_const, zb1, zb2, zb3, zb4, zb5, zb6, zb7, decide_true, decide_false, eq_self, g20, g21, g30, g31, g32, g40, g41, g42, g43, s_L_due_4]
      refine dictD (g1 _ _ h3) (by first | decide | with_reducible first | assumption | exact zm0 (by decide) | exact zm1 (by decide) (by decide) | exact zm3 (by assumption) (by decide) | omega) fun t2 ht2 => ?_
      have ht20 : H t2 = none := by
        cases z : H t2 with
        | none => rfl
        | some ob => rw [g1 _ _ z] at ht2; cases ht2
      have g2 : ∀ (a : Nat) (ob : AObj), H a = some ob → H1.set t2 (.dict true T) a = some ob := fun _ _ h => AH.set_of (g1 _ _ h) ht2
      have tT : (H1.set t2 (.dict true T)) t2 = some (.dict true T) := AH.set_self _ _ _
      generalize H1.set t2 (.dict true T) = H2 at g2 tT
      have ne : ∀ a ob, H a = some ob → a ≠ t2 := fun a ob h z => by rw [z, ht20] at h; cases h
      simp only [qx_1, qx_2, qx_3, qx_4, qx_5, qx_6, qx_7, qx_8, qx_9, qx_10, qx_11, qx_13, qx_15, qx_16, qx_17, qx_18, qx_19, qx_20, qx_21, qx_22, qx_23, qx_24, qx_25, qx_26, qt_1, qt_2, qt_3, qt_4, qt_5, qt_6, qt_7, qt_9, qt_10, qt_11, qt_12, qt_13, ql_1, ql_2, qa_1, qa_2, qb_1, qb_2, qo_1, qo_2, qc_1, qc_2, k_n, k_r, k_1, k_2, k_3, k_4, k_5, k_6, k_7, k_8, k_9, qs_1, add_i, sub_i, mul_i, div_i, mod_i, pow_i, eq_i, ne_i, eq_s, ne_s, eq_b, ne_b, lt_i, le_i, gt_i, ge_i, ret_v, ret_n, tru_b, vk_i, vk_s, vk_t, vk_n, vk_b, is_nn, is_in, is_sn, is_tn, is_rn, isn_nn, isn_tn, zn1, zn2, zn3, zn4, zn5, zn6, zn7, zn8, beq_self_eq_true, then_n, then_r, thenR_n, thenR_r, loop_n, loop_r, zl1, zl2, zl3, zl4, rng_1, rng_2, int_b, str_i, max_i, min_i, len_t, list_t, zl7, zl8, List.replicate, zl9, zl10, List.set, zl5, zl6, zo1, zo3, zo2, Nat.reduceSub, zl11, zl12, zn9, if_false, if_true, zn10, zn11, Bool.not_true, Bool.not_false, zn12, zn13, reduceCtorEq, zn15, zn14, zn18, zn16, zn17, forall_const, zb1, zb2, zb3, zb4, zb5, zb6, zb7, decide_true, decide_false, eq_self, s_L_due_5]
      refine row0 ?_
      simp only [qx_1, qx_2, qx_3, qx_4, qx_5, qx_6, qx_7, qx_8, qx_9, qx_10, qx_11, qx_13, qx_15, qx_16, qx_17, qx_18, qx_19, qx_20, qx_21, qx_22, qx_23, qx_24, qx_25, qx_26, qt_1, qt_2, qt_3, qt_4, qt_5, qt_6, qt_7, qt_9, qt_10, qt_11, qt_12, qt_13, ql_1, ql_2, qa_1, qa_2, qb_1, qb_2, qo_1, qo_2, qc_1, qc_2, k_n, k_r, k_1, k_2, k_3, k_4, k_5, k_6, k_7, k_8, k_9, qs_1, add_i, sub_i, mul_i, div_i, mod_i, pow_i, eq_i, ne_i, eq_s, ne_s, eq_b, ne_b, lt_i, le_i, gt_i, ge_i, ret_v, ret_n, tru_b, vk_i, vk_s, vk_t, vk_n, vk_b, is_nn, is_in, is_sn, is_tn, is_rn, isn_nn, isn_tn, zn1, zn2, zn3, zn4, zn5, zn6, zn7, zn8, beq_self_eq_true, then_n, then_r, thenR_n, thenR_r, loop_n, loop_r, zl1, zl2, zl3, zl4, rng_1, rng_2, int_b, str_i, max_i, min_i, len_t, list_t, zl7, zl8, List.replicate, zl9, zl10, List.set, zl5, zl6, zo1, zo3, zo2, Nat.reduceSub, zl11, zl12, zn9, if_false, if_true, zn10, zn11, Bool.not_true, Bool.not_false, zn12, zn13, reduceCtorEq, zn15, zn14, zn18, zn16, zn17, forall_const, zb1, zb2, zb3, zb4, zb5, zb6, zb7, decide_true, decide_false, eq_self]
      refine ⟨fun e => ?_, fun e1 => ?_⟩
      · have hp1 : popI w = 1 := by rw [e]; exact if_neg (by decide)
        obtain ⟨s0, x, es⟩ := split_last (s := s) (by first | decide | with_reducible first | assumption | exact zm0 (by decide) | exact zm1 (by decide) (by decide) | exact zm3 (by assumption) (by decide) | omega)
        have er : restL w s = s0 := by unfold restL; rw [hp1, es]; simp
        have et : topV s = x := by rw [es]; exact topV_eq _ _
        simp only [qx_1, qx_2, qx_3, qx_4, qx_5, qx_6, qx_7, qx_8, qx_9, qx_10, qx_11, qx_13, qx_15, qx_16, qx_17, qx_18, qx_19, qx_20, qx_21, qx_22, qx_23, qx_24, qx_25, qx_26, qt_1, qt_2, qt_3, qt_4, qt_5, qt_6, qt_7, qt_9, qt_10, qt_11, qt_12, qt_13, ql_1, ql_2, qa_1, qa_2, qb_1, qb_2, qo_1, qo_2, qc_1, qc_2, k_n, k_r, k_1, k_2, k_3, k_4, k_5, k_6, k_7, k_8, k_9, qs_1, add_i, sub_i, mul_i, div_i, mod_i, pow_i, eq_i, ne_i, eq_s, ne_s, eq_b, ne_b, lt_i, le_i, gt_i, ge_i, ret_v, ret_n, tru_b, vk_i, vk_s, vk_t, vk_n, vk_b, is_nn, is_in, is_sn, is_tn, is_rn, isn_nn, isn_tn, zn1, zn2, zn3, zn4, zn5, zn6, zn7, zn8, beq_self_eq_true, then_n, then_r, thenR_n, thenR_r, loop_n, loop_r, zl1, zl2, zl3, zl4, rng_1, rng_2, int_b, str_i, max_i, min_i, len_t, list_t, zl7, zl8, List.replicate, zl9, zl10, List.set, zl5, zl6, zo1, zo3, zo2, Nat.reduceSub, zl11, zl12, zn9, if_false, if_true, zn10, zn11, Bool.not_true, Bool.not_false, zn12, zn13, reduceCtorEq, zn15, zn14, zn18, zn16, zn17, forall_const, zb1, zb2, zb3, zb4, zb5, zb6, zb7, decide_true, decide_false, eq_self, s_L_due_5b0, s_L_due_5b1]
        refine listD tT (by first | decide | with_reducible first | assumption | exact zm0 (by decide) | exact zm1 (by decide) (by decide) | exact zm3 (by assumption) (by decide) | omega) fun r5 hr5 => ?_
        have kk : (T.map fun kv => AV.int kv.1) = (keys T).map .int := by rw [List.map_map]; rfl
        rw [kk]
        refine for_list (fun j ρ' H' => ∃ k y6, ρ' = [some (.tup [.str w]), some (.tup [.none, .ref f, .ref t]), some (.tup [.int b, .int q, .tup o, .tup s]), some (.tup s), some (.ref t2), some (.int k), y6] ∧ H' = H2.set r5 (.list true ((keys T).map .int)) ∧ NumL ((keys T).take j) k) (AH.set_self _ _ _) ⟨0, none, rfl, rfl, .inl ⟨by simp, rfl⟩⟩ ?_ ?_ ?_
        · rintro j ρ' H' ⟨k, y6, rfl, rfl, _⟩; exact ⟨true, AH.set_self _ _ _⟩
        · rintro j y ρ' H' ej ⟨k, y6, rfl, rfl, hk⟩
          rw [List.getElem?_map] at ej
          obtain ⟨z, ez, rfl⟩ := Option.map_eq_some_iff.mp ej
          simp only [wpR_eq, wpE_eq, qx_1, qx_2, qx_3, qx_4, qx_5, qx_6, qx_7, qx_8, qx_9, qx_10, qx_11, qx_13, qx_15, qx_16, qx_17, qx_18, qx_19, qx_20, qx_21, qx_22, qx_23, qx_24, qx_25, qx_26, qt_1, qt_2, qt_3, qt_4, qt_5, qt_6, qt_7, qt_9, qt_10, qt_11, qt_12, qt_13, ql_1, ql_2, qa_1, qa_2, qb_1, qb_2, qo_1, qo_2, qc_1, qc_2, k_n, k_r, k_1, k_2, k_3, k_4, k_5, k_6, k_7, k_8, k_9, qs_1, add_i, sub_i, mul_i, div_i, mod_i, pow_i, eq_i, ne_i, eq_s, ne_s, eq_b, ne_b, lt_i, le_i, gt_i, ge_i, ret_v, ret_n, tru_b, vk_i, vk_s, vk_t, vk_n, vk_b, is_nn, is_in, is_sn, is_tn, is_rn, isn_nn, isn_tn, zn1, zn2, zn3, zn4, zn5, zn6, zn7, zn8, beq_self_eq_true, then_n, then_r, thenR_n, thenR_r, loop_n, loop_r, zl1, zl2, zl3, zl4, rng_1, rng_2, int_b, str_i, max_i, min_i, len_t, list_t, zl7, zl8, List.replicate, zl9, zl10, List.set, zl5, zl6, zo1, zo3, zo2, Nat.reduceSub, zl11, zl12, zn9, if_false, if_true, zn10, zn11, Bool.not_true, Bool.not_false, zn12, zn13, reduceCtorEq, zn15, zn14, zn18, zn16, zn17, forall_const, zb1, zb2, zb3, zb4, zb5, zb6, zb7, decide_true, decide_false, eq_self, s_L_due_5b1b0]
          refine ⟨_, _, rfl, ?_⟩
          rw [List.take_add_one, ez]
          exact hk.add (hK z (List.mem_of_getElem? ez))
        · rintro ρ' H' ⟨k, y6, rfl, rfl, hk⟩
          rw [List.length_map, List.take_of_length_le (by simp)] at hk
          have hkN : IsNum T k := hk
          rw [es]
          simp only [qx_1, qx_2, qx_3, qx_4, qx_5, qx_6, qx_7, qx_8, qx_9, qx_10, qx_11, qx_13, qx_15, qx_16, qx_17, qx_18, qx_19, qx_20, qx_21, qx_22, qx_23, qx_24, qx_25, qx_26, qt_1, qt_2, qt_3, qt_4, qt_5, qt_6, qt_7, qt_9, qt_10, qt_11, qt_12, qt_13, ql_1, ql_2, qa_1, qa_2, qb_1, qb_2, qo_1, qo_2, qc_1, qc_2, k_n, k_r, k_1, k_2, k_3, k_4, k_5, k_6, k_7, k_8, k_9, qs_1, add_i, sub_i, mul_i, div_i, mod_i, pow_i, eq_i, ne_i, eq_s, ne_s, eq_b, ne_b, lt_i, le_i, gt_i, ge_i, ret_v, ret_n, tru_b, vk_i, vk_s, vk_t, vk_n, vk_b, is_nn, is_in, is_sn, is_tn, is_rn, isn_nn, isn_tn, zn1, zn2, zn3, zn4, zn5, zn6, zn7, zn8, beq_self_eq_true, then_n, then_r, thenR_n, thenR_r, loop_n, loop_r, zl1, zl2, zl3, zl4, rng_1, rng_2, int_b, str_i, max_i, min_i, len_t, list_t, zl7, zl8, List.replicate, zl9, zl10, List.set, zl5, zl6, zo1, zo3, zo2, Nat.reduceSub, zl11, zl12, zn9, if_false, if_true, zn10, zn11, Bool.not_true, Bool.not_false, zn12, zn13, reduceCtorEq, zn15, zn14, zn18, zn16, zn17, forall_const, zb1, zb2, zb3, zb4, zb5, zb6, zb7, decide_true, decide_false, eq_self, s_L_due_5b2]
          refine ⟨1, rfl, getT1 (by rw [es] at hsl; simp at hsl; omega) ⟨by simp, setD (AH.set_of tT hr5) (by first | decide | with_reducible first | assumption | exact zm0 (by decide) | exact zm1 (by decide) (by decide) | exact zm3 (by assumption) (by decide) | omega) ?_⟩⟩
          rw [stored_new hkN.new]
          simp only [qx_1, qx_2, qx_3, qx_4, qx_5, qx_6, qx_7, qx_8, qx_9, qx_10, qx_11, qx_13, qx_15, qx_16, qx_17, qx_18, qx_19, qx_20, qx_21, qx_22, qx_23, qx_24, qx_25, qx_26, qt_1, qt_2, qt_3, qt_4, qt_5, qt_6, qt_7, qt_9, qt_10, qt_11, qt_12, qt_13, ql_1, ql_2, qa_1, qa_2, qb_1, qb_2, qo_1, qo_2, qc_1, qc_2, k_n, k_r, k_1, k_2, k_3, k_4, k_5, k_6, k_7, k_8, k_9, qs_1, add_i, sub_i, mul_i, div_i, mod_i, pow_i, eq_i, ne_i, eq_s, ne_s, eq_b, ne_b, lt_i, le_i, gt_i, ge_i, ret_v, ret_n, tru_b, vk_i, vk_s, vk_t, vk_n, vk_b, is_nn, is_in, is_sn, is_tn, is_rn, isn_nn, isn_tn, zn1, zn2, zn3, zn4, zn5, zn6, zn7, zn8, beq_self_eq_true, then_n, then_r, thenR_n, thenR_r, loop_n, loop_r, zl1, zl2, zl3, zl4, rng_1, rng_2, int_b, str_i, max_i, min_i, len_t, list_t, zl7, zl8, List.replicate, zl9, zl10, List.set, zl5, zl6, zo1, zo3, zo2, Nat.reduceSub, zl11, zl12, zn9, if_false, if_true, zn10, zn11, Bool.not_true, Bool.not_false, zn12, zn13, reduceCtorEq, zn15, zn14, zn18, zn16, zn17, forall_const, zb1, zb2, zb3, zb4, zb5, zb6, zb7, decide_true, decide_false, eq_self, s_L_due_5b3, slc_t]
          refine ⟨1, rfl, none, some (-1), rfl, rfl, by rw [es] at hsl; omega, ?_⟩
          rw [cut_m1]
          simp only [qx_1, qx_2, qx_3, qx_4, qx_5, qx_6, qx_7, qx_8, qx_9, qx_10, qx_11, qx_13, qx_15, qx_16, qx_17, qx_18, qx_19, qx_20, qx_21, qx_22, qx_23, qx_24, qx_25, qx_26, qt_1, qt_2, qt_3, qt_4, qt_5, qt_6, qt_7, qt_9, qt_10, qt_11, qt_12, qt_13, ql_1, ql_2, qa_1, qa_2, qb_1, qb_2, qo_1, qo_2, qc_1, qc_2, k_n, k_r, k_1, k_2, k_3, k_4, k_5, k_6, k_7, k_8, k_9, qs_1, add_i, sub_i, mul_i, div_i, mod_i, pow_i, eq_i, ne_i, eq_s, ne_s, eq_b, ne_b, lt_i, le_i, gt_i, ge_i, ret_v, ret_n, tru_b, vk_i, vk_s, vk_t, vk_n, vk_b, is_nn, is_in, is_sn, is_tn, is_rn, isn_nn, isn_tn, zn1, zn2, zn3, zn4, zn5, zn6, zn7, zn8, beq_self_eq_true, then_n, then_r, thenR_n, thenR_r, loop_n, loop_r, zl1, zl2, zl3, zl4, rng_1, rng_2, int_b, str_i, max_i, min_i, len_t, list_t, zl7, zl8, List.replicate, zl9, zl10, List.set, zl5, zl6, zo1, zo3, zo2, Nat.reduceSub, zl11, zl12, zn9, if_false, if_true, zn10, zn11, Bool.not_true, Bool.not_false, zn12, zn13, reduceCtorEq, zn15, zn14, zn18, zn16, zn17, forall_const, zb1, zb2, zb3, zb4, zb5, zb6, zb7, decide_true, decide_false, eq_self, add_t]
          refine ⟨by simp, by simp, by rw [es] at hsl; simp at hsl ⊢; omega, ?_⟩
          rw [← es]
          refine fin k _ _ _ t2 _ hrt hkN (fun a ob h => by rw [AH.set_ne _ _ (ne a ob h)]; exact AH.set_of (g2 _ _ h) hr5) ht20 ?_ ?_
          · rw [AH.set_self]; unfold outT; rw [if_pos e, et]
          · unfold newL; rw [if_pos e, er]
      · simp only [qx_1, qx_2, qx_3, qx_4, qx_5, qx_6, qx_7, qx_8, qx_9, qx_10, qx_11, qx_13, qx_15, qx_16, qx_17, qx_18, qx_19, qx_20, qx_21, qx_22, qx_23, qx_24, qx_25, qx_26, qt_1, qt_2, qt_3, qt_4, qt_5, qt_6, qt_7, qt_9, qt_10, qt_11, qt_12, qt_13, ql_1, ql_2, qa_1, qa_2, qb_1, qb_2, qo_1, qo_2, qc_1, qc_2, k_n, k_r, k_1, k_2, k_3, k_4, k_5, k_6, k_7, k_8, k_9, qs_1, add_i, sub_i, mul_i, div_i, mod_i, pow_i, eq_i, ne_i, eq_s, ne_s, eq_b, ne_b, lt_i, le_i, gt_i, ge_i, ret_v, ret_n, tru_b, vk_i, vk_s, vk_t, vk_n, vk_b, is_nn, is_in, is_sn, is_tn, is_rn, isn_nn, isn_tn, zn1, zn2, zn3, zn4, zn5, zn6, zn7, zn8, beq_self_eq_true, then_n, then_r, thenR_n, thenR_r, loop_n, loop_r, zl1, zl2, zl3, zl4, rng_1, rng_2, int_b, str_i, max_i, min_i, len_t, list_t, zl7, zl8, List.replicate, zl9, zl10, List.set, zl5, zl6, zo1, zo3, zo2, Nat.reduceSub, zl11, zl12, zn9, if_false, if_true, zn10, zn11, Bool.not_true, Bool.not_false, zn12, zn13, reduceCtorEq, zn15, zn14, zn18, zn16, zn17, forall_const, zb1, zb2, zb3, zb4, zb5, zb6, zb7, decide_true, decide_false, eq_self, s_L_due_5e0, s_L_due_5e0b0]
        refine row0 ?_
        simp only [qx_1, qx_2, qx_3, qx_4, qx_5, qx_6, qx_7, qx_8, qx_9, qx_10, qx_11, qx_13, qx_15, qx_16, qx_17, qx_18, qx_19, qx_20, qx_21, qx_22, qx_23, qx_24, qx_25, qx_26, qt_1, qt_2, qt_3, qt_4, qt_5, qt_6, qt_7, qt_9, qt_10, qt_11, qt_12, qt_13, ql_1, ql_2, qa_1, qa_2, qb_1, qb_2, qo_1, qo_2, qc_1, qc_2, k_n, k_r, k_1, k_2, k_3, k_4, k_5, k_6, k_7, k_8, k_9, qs_1, add_i, sub_i, mul_i, div_i, mod_i, pow_i, eq_i, ne_i, eq_s, ne_s, eq_b, ne_b, lt_i, le_i, gt_i, ge_i, ret_v, ret_n, tru_b, vk_i, vk_s, vk_t, vk_n, vk_b, is_nn, is_in, is_sn, is_tn, is_rn, isn_nn, isn_tn, zn1, zn2, zn3, zn4, zn5, zn6, zn7, zn8, beq_self_eq_true, then_n, then_r, thenR_n, thenR_r, loop_n, loop_r, zl1, zl2, zl3, zl4, rng_1, rng_2, int_b, str_i, max_i, min_i, len_t, list_t, zl7, zl8, List.replicate, zl9, zl10, List.set, zl5, zl6, zo1, zo3, zo2, Nat.reduceSub, zl11, zl12, zn9, if_false, if_true, zn10, zn11, Bool.not_true, Bool.not_false, zn12, zn13, reduceCtorEq, zn15, zn14, zn18, zn16, zn17, forall_const, zb1, zb2, zb3, zb4, zb5, zb6, zb7, decide_true, decide_false, eq_self]
        unfold rightB at hrt
        refine ⟨fun e => ?_, fun e2 => ?_⟩
        · have hp1 : popI w = 1 := by rw [e]; exact if_neg (by decide)
          obtain ⟨s0, x, es⟩ := split_last (s := s) (by first | decide | with_reducible first | assumption | exact zm0 (by decide) | exact zm1 (by decide) (by decide) | exact zm3 (by assumption) (by decide) | omega)
          have er : restL w s = s0 := by unfold restL; rw [hp1, es]; simp
          have et : topV s = x := by rw [es]; exact topV_eq _ _
          have hrt' := hrt
          rw [if_pos e, et] at hrt'
          obtain ⟨z, y, ex, hz, b1, b2, _⟩ := box_at (hs.2 x (by rw [es]; simp)) h6 hrt'
          have f1 := fin k0 (s0 ++ [y]) none none t2 H2 (by unfold rightB; exact hrt) hk0 g2 ht20 (by rw [tT]; unfold outT; rw [if_neg e1, if_pos e]) (by unfold newL; rw [if_neg e1, if_pos e, er, et, ex]; show s0 ++ [y] = s0 ++ [inBox T z]; rw [b2])
          rw [es]
          rw [es] at f1
          subst ex
          simp only [qx_1, qx_2, qx_3, qx_4, qx_5, qx_6, qx_7, qx_8, qx_9, qx_10, qx_11, qx_13, qx_15, qx_16, qx_17, qx_18, qx_19, qx_20, qx_21, qx_22, qx_23, qx_24, qx_25, qx_26, qt_1, qt_2, qt_3, qt_4, qt_5, qt_6, qt_7, qt_9, qt_10, qt_11, qt_12, qt_13, ql_1, ql_2, qa_1, qa_2, qb_1, qb_2, qo_1, qo_2, qc_1, qc_2, k_n, k_r, k_1, k_2, k_3, k_4, k_5, k_6, k_7, k_8, k_9, qs_1, add_i, sub_i, mul_i, div_i, mod_i, pow_i, eq_i, ne_i, eq_s, ne_s, eq_b, ne_b, lt_i, le_i, gt_i, ge_i, ret_v, ret_n, tru_b, vk_i, vk_s, vk_t, vk_n, vk_b, is_nn, is_in, is_sn, is_tn, is_rn, isn_nn, isn_tn, zn1, zn2, zn3, zn4, zn5, zn6, zn7, zn8, beq_self_eq_true, then_n, then_r, thenR_n, thenR_r, loop_n, loop_r, zl1, zl2, zl3, zl4, rng_1, rng_2, int_b, str_i, max_i, min_i, len_t, list_t, zl7, zl8, List.replicate, zl9, zl10, List.set, zl5, zl6, zo1, zo3, zo2, Nat.reduceSub, zl11, zl12, zn9, if_false, if_true, zn10, zn11, Bool.not_true, Bool.not_false, zn12, zn13, reduceCtorEq, zn15, zn14, zn18, zn16, zn17, forall_const, zb1, zb2, zb3, zb4, zb5, zb6, zb7, decide_true, decide_false, eq_self, slc_t]
          refine ⟨1, rfl, none, some (-1), rfl, rfl, by rw [es] at hsl; omega, ?_⟩
          rw [cut_m1]
          refine ⟨1, rfl, getT1 (by rw [es] at hsl; simp at hsl; omega) ?_⟩
          simp only [qx_1, qx_2, qx_3, qx_4, qx_5, qx_6, qx_7, qx_8, qx_9, qx_10, qx_11, qx_13, qx_15, qx_16, qx_17, qx_18, qx_19, qx_20, qx_21, qx_22, qx_23, qx_24, qx_25, qx_26, qt_1, qt_2, qt_3, qt_4, qt_5, qt_6, qt_7, qt_9, qt_10, qt_11, qt_12, qt_13, ql_1, ql_2, qa_1, qa_2, qb_1, qb_2, qo_1, qo_2, qc_1, qc_2, k_n, k_r, k_1, k_2, k_3, k_4, k_5, k_6, k_7, k_8, k_9, qs_1, add_i, sub_i, mul_i, div_i, mod_i, pow_i, eq_i, ne_i, eq_s, ne_s, eq_b, ne_b, lt_i, le_i, gt_i, ge_i, ret_v, ret_n, tru_b, vk_i, vk_s, vk_t, vk_n, vk_b, is_nn, is_in, is_sn, is_tn, is_rn, isn_nn, isn_tn, zn1, zn2, zn3, zn4, zn5, zn6, zn7, zn8, beq_self_eq_true, then_n, then_r, thenR_n, thenR_r, loop_n, loop_r, zl1, zl2, zl3, zl4, rng_1, rng_2, int_b, str_i, max_i, min_i, len_t, list_t, zl7, zl8, List.replicate, zl9, zl10, List.set, zl5, zl6, zo1, zo3, zo2, Nat.reduceSub, zl11, zl12, zn9, if_false, if_true, zn10, zn11, Bool.not_true, Bool.not_false, zn12, zn13, reduceCtorEq, zn15, zn14, zn18, zn16, zn17, forall_const, zb1, zb2, zb3, zb4, zb5, zb6, zb7, decide_true, decide_false, eq_self, g20, g21, g30, g31, g32, g40, g41, g42, g43]
          refine getD tT b1 ?_
          simp only [qx_1, qx_2, qx_3, qx_4, qx_5, qx_6, qx_7, qx_8, qx_9, qx_10, qx_11, qx_13, qx_15, qx_16, qx_17, qx_18, qx_19, qx_20, qx_21, qx_22, qx_23, qx_24, qx_25, qx_26, qt_1, qt_2, qt_3, qt_4, qt_5, qt_6, qt_7, qt_9, qt_10, qt_11, qt_12, qt_13, ql_1, ql_2, qa_1, qa_2, qb_1, qb_2, qo_1, qo_2, qc_1, qc_2, k_n, k_r, k_1, k_2, k_3, k_4, k_5, k_6, k_7, k_8, k_9, qs_1, add_i, sub_i, mul_i, div_i, mod_i, pow_i, eq_i, ne_i, eq_s, ne_s, eq_b, ne_b, lt_i, le_i, gt_i, ge_i, ret_v, ret_n, tru_b, vk_i, vk_s, vk_t, vk_n, vk_b, is_nn, is_in, is_sn, is_tn, is_rn, isn_nn, isn_tn, zn1, zn2, zn3, zn4, zn5, zn6, zn7, zn8, beq_self_eq_true, then_n, then_r, thenR_n, thenR_r, loop_n, loop_r, zl1, zl2, zl3, zl4, rng_1, rng_2, int_b, str_i, max_i, min_i, len_t, list_t, zl7, zl8, List.replicate, zl9, zl10, List.set, zl5, zl6, zo1, zo3, zo2, Nat.reduceSub, zl11, zl12, zn9, if_false, if_true, zn10, zn11, Bool.not_true, Bool.not_false, zn12, zn13, reduceCtorEq, zn15, zn14, zn18, zn16, zn17, forall_const, zb1, zb2, zb3, zb4, zb5, zb6, zb7, decide_true, decide_false, eq_self, g20, g21, g30, g31, g32, g40, g41, g42, g43, add_t]
          exact ⟨by simp, by rw [es] at hsl; simp at hsl ⊢; omega, f1⟩
        · have e3 : w = "fill" := by
            unfold W3 at hw
            simp only [List.mem_cons, List.not_mem_nil, or_false] at hw
            exact (hw.resolve_left e1).resolve_left e2
          have hp2 : popI w = 2 := by unfold popI; rw [if_pos e3]
          obtain ⟨s0, x, y, es⟩ := split_two (s := s) (by first | decide | with_reducible first | assumption | exact zm0 (by decide) | exact zm1 (by decide) (by decide) | exact zm3 (by assumption) (by decide) | omega)
          have er : restL w s = s0 := by unfold restL; rw [hp2, es]; simp
          have hrt' := hrt
          rw [if_neg e2, if_pos e3, es, undV_eq] at hrt'
          obtain ⟨z, u, ex, hz, b1, b2, _⟩ := box_at (hs.2 x (by rw [es]; simp)) h6 hrt'
          have f1 := fun H3 => fin k0 s0 none none t2 H3 (by unfold rightB; exact hrt) hk0
          have eT : outT w k0 s T = storedA T z (.tup [.str "box", y]) := by unfold outT; rw [if_neg e1, if_neg e2, es, undV_eq, topV_eq2, ex]; rfl
          have eN : s0 = restL w s ++ newL w k0 s T := by unfold newL; rw [if_neg e1, if_neg e2, er]; simp
          rw [eT] at f1
          rw [es]
          rw [es] at f1 eN
          subst ex
          have hs0 : s0.length ≤ 60 := by rw [es] at hsl; simp at hsl; omega
          simp only [qx_1, qx_2, qx_3, qx_4, qx_5, qx_6, qx_7, qx_8, qx_9, qx_10, qx_11, qx_13, qx_15, qx_16, qx_17, qx_18, qx_19, qx_20, qx_21, qx_22, qx_23, qx_24, qx_25, qx_26, qt_1, qt_2, qt_3, qt_4, qt_5, qt_6, qt_7, qt_9, qt_10, qt_11, qt_12, qt_13, ql_1, ql_2, qa_1, qa_2, qb_1, qb_2, qo_1, qo_2, qc_1, qc_2, k_n, k_r, k_1, k_2, k_3, k_4, k_5, k_6, k_7, k_8, k_9, qs_1, add_i, sub_i, mul_i, div_i, mod_i, pow_i, eq_i, ne_i, eq_s, ne_s, eq_b, ne_b, lt_i, le_i, gt_i, ge_i, ret_v, ret_n, tru_b, vk_i, vk_s, vk_t, vk_n, vk_b, is_nn, is_in, is_sn, is_tn, is_rn, isn_nn, isn_tn, zn1, zn2, zn3, zn4, zn5, zn6, zn7, zn8, beq_self_eq_true, then_n, then_r, thenR_n, thenR_r, loop_n, loop_r, zl1, zl2, zl3, zl4, rng_1, rng_2, int_b, str_i, max_i, min_i, len_t, list_t, zl7, zl8, List.replicate, zl9, zl10, List.set, zl5, zl6, zo1, zo3, zo2, Nat.reduceSub, zl11, zl12, zn9, if_false, if_true, zn10, zn11, Bool.not_true, Bool.not_false, zn12, zn13, reduceCtorEq, zn15, zn14, zn18, zn16, zn17, forall_const, zb1, zb2, zb3, zb4, zb5, zb6, zb7, decide_true, decide_false, eq_self, s_L_due_5e0e0]
          refine ⟨1, rfl, getT1' (by first | decide | with_reducible first | assumption | exact zm0 (by decide) | exact zm1 (by decide) (by decide) | exact zm3 (by assumption) (by decide) | omega) ⟨by simp, 2, rfl, getT2 (by first | decide | with_reducible first | assumption | exact zm0 (by decide) | exact zm1 (by decide) (by decide) | exact zm3 (by assumption) (by decide) | omega) ?_⟩⟩
          simp only [qx_1, qx_2, qx_3, qx_4, qx_5, qx_6, qx_7, qx_8, qx_9, qx_10, qx_11, qx_13, qx_15, qx_16, qx_17, qx_18, qx_19, qx_20, qx_21, qx_22, qx_23, qx_24, qx_25, qx_26, qt_1, qt_2, qt_3, qt_4, qt_5, qt_6, qt_7, qt_9, qt_10, qt_11, qt_12, qt_13, ql_1, ql_2, qa_1, qa_2, qb_1, qb_2, qo_1, qo_2, qc_1, qc_2, k_n, k_r, k_1, k_2, k_3, k_4, k_5, k_6, k_7, k_8, k_9, qs_1, add_i, sub_i, mul_i, div_i, mod_i, pow_i, eq_i, ne_i, eq_s, ne_s, eq_b, ne_b, lt_i, le_i, gt_i, ge_i, ret_v, ret_n, tru_b, vk_i, vk_s, vk_t, vk_n, vk_b, is_nn, is_in, is_sn, is_tn, is_rn, isn_nn, isn_tn, zn1, zn2, zn3, zn4, zn5, zn6, zn7, zn8, beq_self_eq_true, then_n, then_r, thenR_n, thenR_r, loop_n, loop_r, zl1, zl2, zl3, zl4, rng_1, rng_2, int_b, str_i, max_i, min_i, len_t, list_t, zl7, zl8, List.replicate, zl9, zl10, List.set, zl5, zl6, zo1, zo3, zo2, Nat.reduceSub, zl11, zl12, zn9, if_false, if_true, zn10, zn11, Bool.not_true, Bool.not_false, zn12, zn13, reduceCtorEq, zn15, zn14, zn18, zn16, zn17, forall_const, zb1, zb2, zb3, zb4, zb5, zb6, zb7, decide_true, decide_false, eq_self, g20, g21, g30, g31, g32, g40, g41, g42, g43]
          refine setD tT (by first | decide | with_reducible first | assumption | exact zm0 (by decide) | exact zm1 (by decide) (by decide) | exact zm3 (by assumption) (by decide) | omega) ?_
          simp only [qx_1, qx_2, qx_3, qx_4, qx_5, qx_6, qx_7, qx_8, qx_9, qx_10, qx_11, qx_13, qx_15, qx_16, qx_17, qx_18, qx_19, qx_20, qx_21, qx_22, qx_23, qx_24, qx_25, qx_26, qt_1, qt_2, qt_3, qt_4, qt_5, qt_6, qt_7, qt_9, qt_10, qt_11, qt_12, qt_13, ql_1, ql_2, qa_1, qa_2, qb_1, qb_2, qo_1, qo_2, qc_1, qc_2, k_n, k_r, k_1, k_2, k_3, k_4, k_5, k_6, k_7, k_8, k_9, qs_1, add_i, sub_i, mul_i, div_i, mod_i, pow_i, eq_i, ne_i, eq_s, ne_s, eq_b, ne_b, lt_i, le_i, gt_i, ge_i, ret_v, ret_n, tru_b, vk_i, vk_s, vk_t, vk_n, vk_b, is_nn, is_in, is_sn, is_tn, is_rn, isn_nn, isn_tn, zn1, zn2, zn3, zn4, zn5, zn6, zn7, zn8, beq_self_eq_true, then_n, then_r, thenR_n, thenR_r, loop_n, loop_r, zl1, zl2, zl3, zl4, rng_1, rng_2, int_b, str_i, max_i, min_i, len_t, list_t, zl7, zl8, List.replicate, zl9, zl10, List.set, zl5, zl6, zo1, zo3, zo2, Nat.reduceSub, zl11, zl12, zn9, if_false, if_true, zn10, zn11, Bool.not_true, Bool.not_false, zn12, zn13, reduceCtorEq, zn15, zn14, zn18, zn16, zn17, forall_const, zb1, zb2, zb3, zb4, zb5, zb6, zb7, decide_true, decide_false, eq_self, s_L_due_5e0e1, slc_t]
          refine ⟨2, rfl, none, some (-2), rfl, rfl, by rw [es] at hsl; omega, ?_⟩
          rw [cut_m2]
          exact f1 _ (fun a ob h => by rw [AH.set_ne _ _ (ne a ob h)]; exact g2 _ _ h) ht20 (AH.set_self _ _ _) eN
    have kind : rightB w s T = false → Q (.tup [.tup [.tup [.str "stuck", .str "kind"], .ref f, .ref t], .none]) H1 := fun hrt => stuck _ _ (by unfold stuckV; rw [if_neg hlen, if_pos hrt]) g1
    unfold rightB at wr kind
    have step3 : ¬ w = "open" → wpS c (n + 1) [s_L_due_3, s_L_due_4, s_L_due_5, s_L_due_6] [some (.tup [.str w]), some (.tup [.none, .ref f, .ref t]), some (.tup [.int b, .int q, .tup o, .tup s]), some (.tup s), none, none, none] H1 fun fl _ H' => ∃ v, retv fl v ∧ Q v H' := by
      intro e1
      rw [if_neg e1] at wr kind
      simp only [qx_1, qx_2, qx_3, qx_4, qx_5, qx_6, qx_7, qx_8, qx_9, qx_10, qx_11, qx_13, qx_15, qx_16, qx_17, qx_18, qx_19, qx_20, qx_21, qx_22, qx_23, qx_24, qx_25, qx_26, qt_1, qt_2, qt_3, qt_4, qt_5, qt_6, qt_7, qt_9, qt_10, qt_11, qt_12, qt_13, ql_1, ql_2, qa_1, qa_2, qb_1, qb_2, qo_1, qo_2, qc_1, qc_2, k_n, k_r, k_1, k_2, k_3, k_4, k_5, k_6, k_7, k_8, k_9, qs_1, add_i, sub_i, mul_i, div_i, mod_i, pow_i, eq_i, ne_i, eq_s, ne_s, eq_b, ne_b, lt_i, le_i, gt_i, ge_i, ret_v, ret_n, tru_b, vk_i, vk_s, vk_t, vk_n, vk_b, is_nn, is_in, is_sn, is_tn, is_rn, isn_nn, isn_tn, zn1, zn2, zn3, zn4, zn5, zn6, zn7, zn8, beq_self_eq_true, then_n, then_r, thenR_n, thenR_r, loop_n, loop_r, zl1, zl2, zl3, zl4, rng_1, rng_2, int_b, str_i, max_i, min_i, len_t, list_t, zl7, zl8, List.replicate, zl9, zl10, List.set, zl5, zl6, zo1, zo3, zo2, Nat.reduceSub, zl11, zl12, zn9, if_false, if_true, zn10, zn11, Bool.not_true, Bool.not_false, zn12, zn13, reduceCtorEq, zn15, zn14, zn18, zn16, zn17, forall_const, zb1, zb2, zb3, zb4, zb5, zb6, zb7, decide_true, decide_false, eq_self, g20, g21, g30, g31, g32, g40, g41, g42, g43, s_L_due_3, s_L_due_3b0]
      refine row0 ?_
      simp only [qx_1, qx_2, qx_3, qx_4, qx_5, qx_6, qx_7, qx_8, qx_9, qx_10, qx_11, qx_13, qx_15, qx_16, qx_17, qx_18, qx_19, qx_20, qx_21, qx_22, qx_23, qx_24, qx_25, qx_26, qt_1, qt_2, qt_3, qt_4, qt_5, qt_6, qt_7, qt_9, qt_10, qt_11, qt_12, qt_13, ql_1, ql_2, qa_1, qa_2, qb_1, qb_2, qo_1, qo_2, qc_1, qc_2, k_n, k_r, k_1, k_2, k_3, k_4, k_5, k_6, k_7, k_8, k_9, qs_1, add_i, sub_i, mul_i, div_i, mod_i, pow_i, eq_i, ne_i, eq_s, ne_s, eq_b, ne_b, lt_i, le_i, gt_i, ge_i, ret_v, ret_n, tru_b, vk_i, vk_s, vk_t, vk_n, vk_b, is_nn, is_in, is_sn, is_tn, is_rn, isn_nn, isn_tn, zn1, zn2, zn3, zn4, zn5, zn6, zn7, zn8, beq_self_eq_true, then_n, then_r, thenR_n, thenR_r, loop_n, loop_r, zl1, zl2, zl3, zl4, rng_1, rng_2, int_b, str_i, max_i, min_i, len_t, list_t, zl7, zl8, List.replicate, zl9, zl10, List.set, zl5, zl6, zo1, zo3, zo2, Nat.reduceSub, zl11, zl12, zn9, if_false, if_true, zn10, zn11, Bool.not_true, Bool.not_false, zn12, zn13, reduceCtorEq, zn15, zn14, zn18, zn16, zn17, forall_const, zb1, zb2, zb3, zb4, zb5, zb6, zb7, decide_true, decide_false, eq_self]
      refine ⟨fun e => ?_, fun e => wr (by rw [if_neg e])⟩
      rw [if_pos e] at wr kind
      have hp2 : popI w = 2 := by unfold popI; rw [if_pos e]
      obtain ⟨s0, x, y, es⟩ := split_two (s := s) (by first | decide | with_reducible first | assumption | exact zm0 (by decide) | exact zm1 (by decide) (by decide) | exact zm3 (by assumption) (by decide) | omega)
      rw [es, undV_eq] at wr kind
      rw [es]
      refine ⟨2, rfl, getT2 (by rw [es] at hsl; simp at hsl; omega) ?_⟩
      refine is_box_ok hc (g1 _ _ h3) h6 (hs.2 x (by rw [es]; simp)) ?_
      simp only [qx_1, qx_2, qx_3, qx_4, qx_5, qx_6, qx_7, qx_8, qx_9, qx_10, qx_11, qx_13, qx_15, qx_16, qx_17, qx_18, qx_19, qx_20, qx_21, qx_22, qx_23, qx_24, qx_25, qx_26, qt_1, qt_2, qt_3, qt_4, qt_5, qt_6, qt_7, qt_9, qt_10, qt_11, qt_12, qt_13, ql_1, ql_2, qa_1, qa_2, qb_1, qb_2, qo_1, qo_2, qc_1, qc_2, k_n, k_r, k_1, k_2, k_3, k_4, k_5, k_6, k_7, k_8, k_9, qs_1, add_i, sub_i, mul_i, div_i, mod_i, pow_i, eq_i, ne_i, eq_s, ne_s, eq_b, ne_b, lt_i, le_i, gt_i, ge_i, ret_v, ret_n, tru_b, vk_i, vk_s, vk_t, vk_n, vk_b, is_nn, is_in, is_sn, is_tn, is_rn, isn_nn, isn_tn, zn1, zn2, zn3, zn4, zn5, zn6, zn7, zn8, beq_self_eq_true, then_n, then_r, thenR_n, thenR_r, loop_n, loop_r, zl1, zl2, zl3, zl4, rng_1, rng_2, int_b, str_i, max_i, min_i, len_t, list_t, zl7, zl8, List.replicate, zl9, zl10, List.set, zl5, zl6, zo1, zo3, zo2, Nat.reduceSub, zl11, zl12, zn9, if_false, if_true, zn10, zn11, Bool.not_true, Bool.not_false, zn12, zn13, reduceCtorEq, zn15, zn14, zn18, zn16, zn17, forall_const, zb1, zb2, zb3, zb4, zb5, zb6, zb7, decide_true, decide_false, eq_self, g20, g21, g30, g31, g32, g40, g41, g42, g43]
      exact ⟨fun z => ⟨by simp, by simp, by simp, kind z⟩, fun z => wr z⟩
    simp only [qx_1, qx_2, qx_3, qx_4, qx_5, qx_6, qx_7, qx_8, qx_9, qx_10, qx_11, qx_13, qx_15, qx_16, qx_17, qx_18, qx_19, qx_20, qx_21, qx_22, qx_23, qx_24, qx_25, qx_26, qt_1, qt_2, qt_3, qt_4, qt_5, qt_6, qt_7, qt_9, qt_10, qt_11, qt_12, qt_13, ql_1, ql_2, qa_1, qa_2, qb_1, qb_2, qo_1, qo_2, qc_1, qc_2, k_n, k_r, k_1, k_2, k_3, k_4, k_5, k_6, k_7, k_8, k_9, qs_1, add_i, sub_i, mul_i, div_i, mod_i, pow_i, eq_i, ne_i, eq_s, ne_s, eq_b, ne_b, lt_i, le_i, gt_i, ge_i, ret_v, ret_n, tru_b, vk_i, vk_s, vk_t, vk_n, vk_b, is_nn, is_in, is_sn, is_tn, is_rn, isn_nn, isn_tn, zn1, zn2, zn3, zn4, zn5, zn6, zn7, zn8, beq_self_eq_true, then_n, then_r, thenR_n, thenR_r, loop_n, loop_r, zl1, zl2, zl3, zl4, rng_1, rng_2, int_b, str_i, max_i, min_i, len_t, list_t, zl7, zl8, List.replicate, zl9, zl10, List.set, zl5, zl6, zo1, zo3, zo2, Nat.reduceSub, zl11, zl12, zn9, if_false, if_true, zn10, zn11, Bool.not_true, Bool.not_false, zn12, zn13, reduceCtorEq, zn15, zn14, zn18, zn16, zn17, forall_const, zb1, zb2, zb3, zb4, zb5, zb6, zb7, decide_true, decide_false, eq_self, g20, g21, g30, g31, g32, g40, g41, g42, g43, s_L_due_2, s_L_due_2b0]
    refine row0 ?_
    simp only [qx_1, qx_2, qx_3, qx_4, qx_5, qx_6, qx_7, qx_8, qx_9, qx_10, qx_11, qx_13, qx_15, qx_16, qx_17, qx_18, qx_19, qx_20, qx_21, qx_22, qx_23, qx_24, qx_25, qx_26, qt_1, qt_2, qt_3, qt_4, qt_5, qt_6, qt_7, qt_9, qt_10, qt_11, qt_12, qt_13, ql_1, ql_2, qa_1, qa_2, qb_1, qb_2, qo_1, qo_2, qc_1, qc_2, k_n, k_r, k_1, k_2, k_3, k_4, k_5, k_6, k_7, k_8, k_9, qs_1, add_i, sub_i, mul_i, div_i, mod_i, pow_i, eq_i, ne_i, eq_s, ne_s, eq_b, ne_b, lt_i, le_i, gt_i, ge_i, ret_v, ret_n, tru_b, vk_i, vk_s, vk_t, vk_n, vk_b, is_nn, is_in, is_sn, is_tn, is_rn, isn_nn, isn_tn, zn1, zn2, zn3, zn4, zn5, zn6, zn7, zn8, beq_self_eq_true, then_n, then_r, thenR_n, thenR_r, loop_n, loop_r, zl1, zl2, zl3, zl4, rng_1, rng_2, int_b, str_i, max_i, min_i, len_t, list_t, zl7, zl8, List.replicate, zl9, zl10, List.set, zl5, zl6, zo1, zo3, zo2, Nat.reduceSub, zl11, zl12, zn9, if_false, if_true, zn10, zn11, Bool.not_true, Bool.not_false, zn12, zn13, reduceCtorEq, zn15, zn14, zn18, zn16, zn17, forall_const, zb1, zb2, zb3, zb4, zb5, zb6, zb7, decide_true, decide_false, eq_self]
    refine ⟨fun e => ?_, fun e => step3 e⟩
    rw [if_pos e] at wr kind
    obtain ⟨s0, x, es⟩ := split_last (s := s) (by first | decide | with_reducible first | assumption | exact zm0 (by decide) | exact zm1 (by decide) (by decide) | exact zm3 (by assumption) (by decide) | omega)
    rw [es, topV_eq] at wr kind
    rw [es]
    refine ⟨1, rfl, getT1 (by rw [es] at hsl; simp at hsl; omega) ?_⟩
    refine is_box_ok hc (g1 _ _ h3) h6 (hs.2 x (by rw [es]; simp)) ?_
    simp only [qx_1, qx_2, qx_3, qx_4, qx_5, qx_6, qx_7, qx_8, qx_9, qx_10, qx_11, qx_13, qx_15, qx_16, qx_17, qx_18, qx_19, qx_20, qx_21, qx_22, qx_23, qx_24, qx_25, qx_26, qt_1, qt_2, qt_3, qt_4, qt_5, qt_6, qt_7, qt_9, qt_10, qt_11, qt_12, qt_13, ql_1, ql_2, qa_1, qa_2, qb_1, qb_2, qo_1, qo_2, qc_1, qc_2, k_n, k_r, k_1, k_2, k_3, k_4, k_5, k_6, k_7, k_8, k_9, qs_1, add_i, sub_i, mul_i, div_i, mod_i, pow_i, eq_i, ne_i, eq_s, ne_s, eq_b, ne_b, lt_i, le_i, gt_i, ge_i, ret_v, ret_n, tru_b, vk_i, vk_s, vk_t, vk_n, vk_b, is_nn, is_in, is_sn, is_tn, is_rn, isn_nn, isn_tn, zn1, zn2, zn3, zn4, zn5, zn6, zn7, zn8, beq_self_eq_true, then_n, then_r, thenR_n, thenR_r, loop_n, loop_r, zl1, zl2, zl3, zl4, rng_1, rng_2, int_b, str_i, max_i, min_i, len_t, list_t, zl7, zl8, List.replicate, zl9, zl10, List.set, zl5, zl6, zo1, zo3, zo2, Nat.reduceSub, zl11, zl12, zn9, if_false, if_true, zn10, zn11, Bool.not_true, Bool.not_false, zn12, zn13, reduceCtorEq, zn15, zn14, zn18, zn16, zn17, forall_const, zb1, zb2, zb3, zb4, zb5, zb6, zb7, decide_true, decide_false, eq_self, g20, g21, g30, g31, g32, g40, g41, g42, g43]
    refine ⟨fun z => ⟨by simp, by simp, by simp, kind z⟩, fun z => ?_⟩
    simp only [qx_1, qx_2, qx_3, qx_4, qx_5, qx_6, qx_7, qx_8, qx_9, qx_10, qx_11, qx_13, qx_15, qx_16, qx_17, qx_18, qx_19, qx_20, qx_21, qx_22, qx_23, qx_24, qx_25, qx_26, qt_1, qt_2, qt_3, qt_4, qt_5, qt_6, qt_7, qt_9, qt_10, qt_11, qt_12, qt_13, ql_1, ql_2, qa_1, qa_2, qb_1, qb_2, qo_1, qo_2, qc_1, qc_2, k_n, k_r, k_1, k_2, k_3, k_4, k_5, k_6, k_7, k_8, k_9, qs_1, add_i, sub_i, mul_i, div_i, mod_i, pow_i, eq_i, ne_i, eq_s, ne_s, eq_b, ne_b, lt_i, le_i, gt_i, ge_i, ret_v, ret_n, tru_b, vk_i, vk_s, vk_t, vk_n, vk_b, is_nn, is_in, is_sn, is_tn, is_rn, isn_nn, isn_tn, zn1, zn2, zn3, zn4, zn5, zn6, zn7, zn8, beq_self_eq_true, then_n, then_r, thenR_n, thenR_r, loop_n, loop_r, zl1, zl2, zl3, zl4, rng_1, rng_2, int_b, str_i, max_i, min_i, len_t, list_t, zl7, zl8, List.replicate, zl9, zl10, List.set, zl5, zl6, zo1, zo3, zo2, Nat.reduceSub, zl11, zl12, zn9, if_false, if_true, zn10, zn11, Bool.not_true, Bool.not_false, zn12, zn13, reduceCtorEq, zn15, zn14, zn18, zn16, zn17, forall_const, zb1, zb2, zb3, zb4, zb5, zb6, zb7, decide_true, decide_false, eq_self, g20, g21, g30, g31, g32, g40, g41, g42, g43, s_L_due_3]
    refine row0 ?_
    simp only [qx_1, qx_2, qx_3, qx_4, qx_5, qx_6, qx_7, qx_8, qx_9, qx_10, qx_11, qx_13, qx_15, qx_16, qx_17, qx_18, qx_19, qx_20, qx_21, qx_22, qx_23, qx_24, qx_25, qx_26, qt_1, qt_2, qt_3, qt_4, qt_5, qt_6, qt_7, qt_9, qt_10, qt_11, qt_12, qt_13, ql_1, ql_2, qa_1, qa_2, qb_1, qb_2, qo_1, qo_2, qc_1, qc_2, k_n, k_r, k_1, k_2, k_3, k_4, k_5, k_6, k_7, k_8, k_9, qs_1, add_i, sub_i, mul_i, div_i, mod_i, pow_i, eq_i, ne_i, eq_s, ne_s, eq_b, ne_b, lt_i, le_i, gt_i, ge_i, ret_v, ret_n, tru_b, vk_i, vk_s, vk_t, vk_n, vk_b, is_nn, is_in, is_sn, is_tn, is_rn, isn_nn, isn_tn, zn1, zn2, zn3, zn4, zn5, zn6, zn7, zn8, beq_self_eq_true, then_n, then_r, thenR_n, thenR_r, loop_n, loop_r, zl1, zl2, zl3, zl4, rng_1, rng_2, int_b, str_i, max_i, min_i, len_t, list_t, zl7, zl8, List.replicate, zl9, zl10, List.set, zl5, zl6, zo1, zo3, zo2, Nat.reduceSub, zl11, zl12, zn9, if_false, if_true, zn10, zn11, Bool.not_true, Bool.not_false, zn12, zn13, reduceCtorEq, zn15, zn14, zn18, zn16, zn17, forall_const, zb1, zb2, zb3, zb4, zb5, zb6, zb7, decide_true, decide_false, eq_self]
    exact ⟨fun e' => absurd (e.symm.trans e') (by decide), fun _ => wr z⟩
  have mid : ∀ H1 : AH, (∀ a ob, H a = some ob → H1 a = some ob) → ((s.length : Int) < popI w → Q (.tup [.tup [.tup [.str "stuck", .str "empty"], .ref f, .ref t], .none]) H1) := fun H1 g1 z => stuck _ _ (by unfold stuckV; rw [if_pos z]) g1
  by_cases e : w = "fill"
  · have hp2 : popI w = 2 := by unfold popI; rw [if_pos e]
    rw [hp2] at more mid
    rw [if_pos e]
    refine getL (AH.set_self _ _ _) (by decide) (by simp) (x := .int 2) rfl ?_
    simp only [qx_1, qx_2, qx_3, qx_4, qx_5, qx_6, qx_7, qx_8, qx_9, qx_10, qx_11, qx_13, qx_15, qx_16, qx_17, qx_18, qx_19, qx_20, qx_21, qx_22, qx_23, qx_24, qx_25, qx_26, qt_1, qt_2, qt_3, qt_4, qt_5, qt_6, qt_7, qt_9, qt_10, qt_11, qt_12, qt_13, ql_1, ql_2, qa_1, qa_2, qb_1, qb_2, qo_1, qo_2, qc_1, qc_2, k_n, k_r, k_1, k_2, k_3, k_4, k_5, k_6, k_7, k_8, k_9, qs_1, add_i, sub_i, mul_i, div_i, mod_i, pow_i, eq_i, ne_i, eq_s, ne_s, eq_b, ne_b, lt_i, le_i, gt_i, ge_i, ret_v, ret_n, tru_b, vk_i, vk_s, vk_t, vk_n, vk_b, is_nn, is_in, is_sn, is_tn, is_rn, isn_nn, isn_tn, zn1, zn2, zn3, zn4, zn5, zn6, zn7, zn8, beq_self_eq_true, then_n, then_r, thenR_n, thenR_r, loop_n, loop_r, zl1, zl2, zl3, zl4, rng_1, rng_2, int_b, str_i, max_i, min_i, len_t, list_t, zl7, zl8, List.replicate, zl9, zl10, List.set, zl5, zl6, zo1, zo3, zo2, Nat.reduceSub, zl11, zl12, zn9, if_false, if_true, zn10, zn11, Bool.not_true, Bool.not_false, zn12, zn13, reduceCtorEq, zn15, zn14, zn18, zn16, zn17, forall_const, zb1, zb2, zb3, zb4, zb5, zb6, zb7, decide_true, decide_false, eq_self, g20, g21, g30, g31, g32, g40, g41, g42, g43]
    exact ⟨fun z => ⟨by simp, by simp, by simp, mid _ (g0 _) z⟩, fun z => more _ (g0 _) z⟩
  · have hp1 : popI w = 1 := by unfold popI; rw [if_neg e]
    rw [hp1] at more mid
    rw [if_neg e]
    refine getL (AH.set_self _ _ _) (by decide) (by simp) (x := .int 1) rfl ?_
    simp only [qx_1, qx_2, qx_3, qx_4, qx_5, qx_6, qx_7, qx_8, qx_9, qx_10, qx_11, qx_13, qx_15, qx_16, qx_17, qx_18, qx_19, qx_20, qx_21, qx_22, qx_23, qx_24, qx_25, qx_26, qt_1, qt_2, qt_3, qt_4, qt_5, qt_6, qt_7, qt_9, qt_10, qt_11, qt_12, qt_13, ql_1, ql_2, qa_1, qa_2, qb_1, qb_2, qo_1, qo_2, qc_1, qc_2, k_n, k_r, k_1, k_2, k_3, k_4, k_5, k_6, k_7, k_8, k_9, qs_1, add_i, sub_i, mul_i, div_i, mod_i, pow_i, eq_i, ne_i, eq_s, ne_s, eq_b, ne_b, lt_i, le_i, gt_i, ge_i, ret_v, ret_n, tru_b, vk_i, vk_s, vk_t, vk_n, vk_b, is_nn, is_in, is_sn, is_tn, is_rn, isn_nn, isn_tn, zn1, zn2, zn3, zn4, zn5, zn6, zn7, zn8, beq_self_eq_true, then_n, then_r, thenR_n, thenR_r, loop_n, loop_r, zl1, zl2, zl3, zl4, rng_1, rng_2, int_b, str_i, max_i, min_i, len_t, list_t, zl7, zl8, List.replicate, zl9, zl10, List.set, zl5, zl6, zo1, zo3, zo2, Nat.reduceSub, zl11, zl12, zn9, if_false, if_true, zn10, zn11, Bool.not_true, Bool.not_false, zn12, zn13, reduceCtorEq, zn15, zn14, zn18, zn16, zn17, forall_const, zb1, zb2, zb3, zb4, zb5, zb6, zb7, decide_true, decide_false, eq_self, g20, g21, g30, g31, g32, g40, g41, g42, g43]
    exact ⟨fun z => ⟨by simp, by simp, by simp, mid _ (g0 _) z⟩, fun z => more _ (g0 _) z⟩
end
end Mine

set_option maxRecDepth 100000
set_option autoImplicit false
set_option linter.unusedSimpArgs false
set_option linter.unusedVariables false
namespace Mine
open PySem PyProof.Rows

theorem out_end (N : List Int) (w : Str) (s : List AV) (T : List (Int × AV)) : IsEnd N (outE w s T) := by
  unfold outE
  rcases stuck_cases w s T with e | ⟨x, e⟩
  · rw [e]; exact .inl rfl
  · rw [e]; exact .inr (.inr ⟨x, rfl⟩)
theorem stored_sub {T : List (Int × AV)} {z : Int} {v : AV} {x : Int} (h : x ∈ keys T) : x ∈ keys (storedA T z v) := by
  have e := storedA_any T z v x
  rw [any_keys, any_keys, decide_eq_true h, Bool.true_or] at e
  exact of_decide_eq_true e
theorem out_sub {w : Str} {k : Int} {s : List AV} {T : List (Int × AV)} : ∀ x ∈ keys T, x ∈ keys (outTT w k s T) := fun x hx => by
  unfold outTT outT
  split
  · split
    · unfold keys; rw [List.map_append]; exact List.mem_append.mpr (.inl hx)
    · split
      · exact hx
      · exact stored_sub hx
  · exact hx
theorem out_len (w : Str) (k : Int) (s : List AV) (T : List (Int × AV)) : (outTT w k s T).length ≤ T.length + 1 := by
  unfold outTT outT
  split
  · split
    · simp
    · split
      · omega
      · exact storedA_len _ _ _
  · omega
theorem top_val {N : List Int} {w : Str} {s : List AV} (hs : Vals N s) (h : popI w ≤ s.length) : IsVal N (topV s) := by
  have := (popI_le w).1
  obtain ⟨s0, x, rfl⟩ := split_last (s := s) (by first | decide | with_reducible first | assumption | exact zm0 (by decide) | exact zm1 (by decide) (by decide) | exact zm3 (by assumption) (by decide) | omega)
  rw [topV_eq]; exact hs.2 x (by simp)
theorem out_thing {w : Str} {k : Int} {s : List AV} {T : List (Int × AV)} (hs : Vals (keys T) s) (hV : ∀ kv ∈ T, IsThing (keys T) kv.2) : ∀ kv ∈ outTT w k s T, IsThing (keys (outTT w k s T)) kv.2 := by
  have key : ∀ kv ∈ outTT w k s T, IsThing (keys T) kv.2 := by
    unfold outTT
    split
    · rename_i e
      have ht : IsThing (keys T) (.tup [.str "box", topV s]) := .inl ⟨_, rfl, top_val hs (stuck_none e).1⟩
      unfold outT
      intro kv hkv
      split at hkv
      · rcases List.mem_append.mp hkv with z | z
        · exact hV kv z
        · simp at z; rw [z]; exact ht
      · split at hkv
        · exact hV kv hkv
        · rcases storedA_mem hkv with z | z
          · exact hV kv z
          · rw [z]; exact ht
    · exact hV
  exact fun kv hkv => (key kv hkv).mono out_sub
theorem out_frame {w : Str} {k b q : Int} {o s : List AV} {T : List (Int × AV)} (b0 : 0 ≤ b) (q0 : 0 ≤ q) (ho : Vals (keys T) o) (hs : Vals (keys T) s) (hV : ∀ kv ∈ T, IsThing (keys T) kv.2) : IsFrame (keys (outTT w k s T)) (outL w k b q o s T) := by
  have sub := @out_sub w k s T
  unfold outL
  split
  · rename_i e
    obtain ⟨c1, c2⟩ := stuck_none e
    have p1 := (popI_le w).1
    have hsl := hs.1
    refine ⟨_, _, _, _, rfl, b0, by first | decide | with_reducible first | assumption | exact zm0 (by decide) | exact zm1 (by decide) (by decide) | exact zm3 (by assumption) (by decide) | omega, ho.mono sub, ?_, ?_⟩
    · have : (newL w k s T).length ≤ 1 := by unfold newL; split; simp; split <;> simp
      have : (restL w s).length ≤ s.length - 1 := by unfold restL; rw [List.length_take]; omega
      rw [List.length_append]; omega
    · intro y hy
      rcases List.mem_append.mp hy with z | z
      · exact (hs.2 y (List.mem_of_mem_take z)).mono sub
      · unfold newL at z
        split at z
        · rename_i e1
          simp at z; rw [z]
          refine .inr ⟨k, ?_, rfl⟩
          unfold outTT outT; rw [if_pos e, if_pos e1]; simp [keys]
        · split at z
          · rename_i e2
            unfold rightB at c2
            rw [if_pos e2] at c2
            obtain ⟨u, v, e3, _, _, e4, e5⟩ := box_at (top_val hs c1) hV c2
            simp at z; rw [z, e3]
            show IsVal _ (inBox T u)
            rw [e4]; exact e5.mono sub
          · cases z
  · exact ⟨_, _, _, _, rfl, b0, q0, ho.mono sub, hs.mono sub⟩

section
variable {c : Cx} {n : Nat} {H : AH}

theorem law_ok (hc : Tab c) {a : Nat} {S : List Int} {Q : AV → AH → Prop} (hS : Ints H a S) (hpops : H 40 = some (.sdict popsKv)) (hQ : ∀ H', Q (.bool true) H') : CW c (n + 9) i_P_law [.ref a] H Q := by
  refine CW.run (f := "law") (ir := ir_P_law) (by rw [hc.fns]; rfl) rfl ?_
  simp only [qx_1, qx_2, qx_3, qx_4, qx_5, qx_6, qx_7, qx_8, qx_9, qx_10, qx_11, qx_13, qx_15, qx_16, qx_17, qx_18, qx_19, qx_20, qx_21, qx_22, qx_23, qx_24, qx_25, qx_26, qt_1, qt_2, qt_3, qt_4, qt_5, qt_6, qt_7, qt_9, qt_10, qt_11, qt_12, qt_13, ql_1, ql_2, qa_1, qa_2, qb_1, qb_2, qo_1, qo_2, qc_1, qc_2, k_n, k_r, k_1, k_2, k_3, k_4, k_5, k_6, k_7, k_8, k_9, qs_1, add_i, sub_i, mul_i, div_i, mod_i, pow_i, eq_i, ne_i, eq_s, ne_s, eq_b, ne_b, lt_i, le_i, gt_i, ge_i, ret_v, ret_n, tru_b, vk_i, vk_s, vk_t, vk_n, vk_b, is_nn, is_in, is_sn, is_tn, is_rn, isn_nn, isn_tn, zn1, zn2, zn3, zn4, zn5, zn6, zn7, zn8, beq_self_eq_true, then_n, then_r, thenR_n, thenR_r, loop_n, loop_r, zl1, zl2, zl3, zl4, rng_1, rng_2, int_b, str_i, max_i, min_i, len_t, list_t, zl7, zl8, List.replicate, zl9, zl10, List.set, zl5, zl6, zo1, zo3, zo2, Nat.reduceSub, zl11, zl12, zn9, if_false, if_true, zn10, zn11, Bool.not_true, Bool.not_false, zn12, zn13, reduceCtorEq, zn15, zn14, zn18, zn16, zn17, forall_const, zb1, zb2, zb3, zb4, zb5, zb6, zb7, decide_true, decide_false, eq_self, ir_P_law, s_P_law_0]
  refine ⟨by simp, fun w0 hw0 => ?_⟩
  simp only [qx_1, qx_2, qx_3, qx_4, qx_5, qx_6, qx_7, qx_8, qx_9, qx_10, qx_11, qx_13, qx_15, qx_16, qx_17, qx_18, qx_19, qx_20, qx_21, qx_22, qx_23, qx_24, qx_25, qx_26, qt_1, qt_2, qt_3, qt_4, qt_5, qt_6, qt_7, qt_9, qt_10, qt_11, qt_12, qt_13, ql_1, ql_2, qa_1, qa_2, qb_1, qb_2, qo_1, qo_2, qc_1, qc_2, k_n, k_r, k_1, k_2, k_3, k_4, k_5, k_6, k_7, k_8, k_9, qs_1, add_i, sub_i, mul_i, div_i, mod_i, pow_i, eq_i, ne_i, eq_s, ne_s, eq_b, ne_b, lt_i, le_i, gt_i, ge_i, ret_v, ret_n, tru_b, vk_i, vk_s, vk_t, vk_n, vk_b, is_nn, is_in, is_sn, is_tn, is_rn, isn_nn, isn_tn, zn1, zn2, zn3, zn4, zn5, zn6, zn7, zn8, beq_self_eq_true, then_n, then_r, thenR_n, thenR_r, loop_n, loop_r, zl1, zl2, zl3, zl4, rng_1, rng_2, int_b, str_i, max_i, min_i, len_t, list_t, zl7, zl8, List.replicate, zl9, zl10, List.set, zl5, zl6, zo1, zo3, zo2, Nat.reduceSub, zl11, zl12, zn9, if_false, if_true, zn10, zn11, Bool.not_true, Bool.not_false, zn12, zn13, reduceCtorEq, zn15, zn14, zn18, zn16, zn17, forall_const, zb1, zb2, zb3, zb4, zb5, zb6, zb7, decide_true, decide_false, eq_self, s_P_law_1, add_l]
  refine ⟨by simp, fun r1 hr1 => ⟨_, _, _, _, AH.set_of (AH.set_self _ _ _) hr1, AH.set_self _ _ _, by simp, fun r2 hr2 => ?_⟩⟩
  have hW3 : (((H.set w0 (.list true (W3.map .str))).set r1 (.list true [.str "drop"])).set r2 (.list true (W4.map .str))) w0 = some (.list true (W3.map .str)) := AH.set_of (AH.set_of (AH.set_self H w0 (.list true (W3.map .str))) hr1) hr2
  have hW4 := AH.set_self ((H.set w0 (.list true (W3.map .str))).set r1 (.list true [.str "drop"])) r2 (.list true (W4.map .str))
  have g3 : ∀ (a : Nat) (ob : AObj), H a = some ob → (((H.set w0 (.list true (W3.map .str))).set r1 (.list true [.str "drop"])).set r2 (.list true (W4.map .str))) a = some ob := fun _ _ h => AH.set_of (AH.set_of (AH.set_of h hw0) hr1) hr2
  have go : ∀ H3 : AH, (∀ a ob, H a = some ob → H3 a = some ob) → Strs H3 w0 W3 → Strs H3 r2 W4 → CW c (n + 8) i_L_program [.ref a, .ref r2] H3 fun v H1 => wpS c (n + 8) [s_P_law_2, s_P_law_3, s_P_law_4, s_P_law_5, s_P_law_6, s_P_law_7, s_P_law_8, s_P_law_9, s_P_law_10, s_P_law_11, s_P_law_12] [some (.ref a), some (.ref w0), some v, none, none, none, none, none, none] H1 fun fl _ H' => ∃ v, retv fl v ∧ Q v H' := by
    intro H3 g3 hW3 hW4
    refine program_ok hc (hS.grow g3) hW4 (by decide) (by decide) fun p B H4 g4 hP hp0 hR => ?_
    have hS4 := (hS.grow g3).grow g4
    have hWw : Strs H4 w0 W3 := let ⟨o, e⟩ := hW3; ⟨o, g4 _ _ e⟩
    have hp4 := g4 _ _ (g3 _ _ hpops)
    simp only [qx_1, qx_2, qx_3, qx_4, qx_5, qx_6, qx_7, qx_8, qx_9, qx_10, qx_11, qx_13, qx_15, qx_16, qx_17, qx_18, qx_19, qx_20, qx_21, qx_22, qx_23, qx_24, qx_25, qx_26, qt_1, qt_2, qt_3, qt_4, qt_5, qt_6, qt_7, qt_9, qt_10, qt_11, qt_12, qt_13, ql_1, ql_2, qa_1, qa_2, qb_1, qb_2, qo_1, qo_2, qc_1, qc_2, k_n, k_r, k_1, k_2, k_3, k_4, k_5, k_6, k_7, k_8, k_9, qs_1, add_i, sub_i, mul_i, div_i, mod_i, pow_i, eq_i, ne_i, eq_s, ne_s, eq_b, ne_b, lt_i, le_i, gt_i, ge_i, ret_v, ret_n, tru_b, vk_i, vk_s, vk_t, vk_n, vk_b, is_nn, is_in, is_sn, is_tn, is_rn, isn_nn, isn_tn, zn1, zn2, zn3, zn4, zn5, zn6, zn7, zn8, beq_self_eq_true, then_n, then_r, thenR_n, thenR_r, loop_n, loop_r, zl1, zl2, zl3, zl4, rng_1, rng_2, int_b, str_i, max_i, min_i, len_t, list_t, zl7, zl8, List.replicate, zl9, zl10, List.set, zl5, zl6, zo1, zo3, zo2, Nat.reduceSub, zl11, zl12, zn9, if_false, if_true, zn10, zn11, Bool.not_true, Bool.not_false, zn12, zn13, reduceCtorEq, zn15, zn14, zn18, zn16, zn17, forall_const, zb1, zb2, zb3, zb4, zb5, zb6, zb7, decide_true, decide_false, eq_self, s_P_law_2]
    refine state_ok hc hS4 hP fun st F T f t H5 g5 hst hfit hF0 hTl hK => ?_
    have hS5 := hS4.grow g5
    have hap : a ≠ p := by
      obtain ⟨ow, e1, _⟩ := hS5
      refine (hP.grow g5).ne e1 fun y hy r => ?_
      obtain ⟨x, _, rfl⟩ := List.mem_map.mp hy
      exact fun q => nomatch q
    have h40 : (40 : Nat) ≠ p := fun e => by
      obtain ⟨rl, q1, _⟩ := hP.grow g5
      rw [← e, g5 _ _ hp4] at q1; cases q1
    refine topped_ok hc hS5 (hP.grow g5) hR (let ⟨o, e⟩ := hWw; ⟨o, g5 _ _ e⟩) hst hfit hF0 fun F0 b q o s B6 l w f7 H7 g6 hP7 hR6 hb hr htop _ hst7 => ?_
    have hS7 : Ints H7 a S := let ⟨ow, e1, e2⟩ := hS5; ⟨ow, g6 _ _ hap e1, e2⟩
    have hp7 := g6 _ _ h40 (g5 _ _ hp4)
    obtain ⟨_, _, ⟨o1, h2⟩, ⟨o2, h3⟩, h4, h5, h6⟩ := id hst7
    obtain ⟨b', q', o'', s'', ef, b0, q0, ho, hs⟩ := h4.2 _ (List.mem_append.mpr (.inr (List.mem_singleton.mpr rfl)))
    simp only [AV.tup.injEq, List.cons.injEq, AV.int.injEq, and_true] at ef
    obtain ⟨rfl, rfl, rfl, rfl⟩ := ef
    have hFl := h4.1
    rw [List.length_append, List.length_singleton] at hFl
    clear g3 hW3 hW4 g4 hP hp0 hR hS4 hp4 g5 hst hfit hF0 hS5 hap h40 g6
    simp only [qx_1, qx_2, qx_3, qx_4, qx_5, qx_6, qx_7, qx_8, qx_9, qx_10, qx_11, qx_13, qx_15, qx_16, qx_17, qx_18, qx_19, qx_20, qx_21, qx_22, qx_23, qx_24, qx_25, qx_26, qt_1, qt_2, qt_3, qt_4, qt_5, qt_6, qt_7, qt_9, qt_10, qt_11, qt_12, qt_13, ql_1, ql_2, qa_1, qa_2, qb_1, qb_2, qo_1, qo_2, qc_1, qc_2, k_n, k_r, k_1, k_2, k_3, k_4, k_5, k_6, k_7, k_8, k_9, qs_1, add_i, sub_i, mul_i, div_i, mod_i, pow_i, eq_i, ne_i, eq_s, ne_s, eq_b, ne_b, lt_i, le_i, gt_i, ge_i, ret_v, ret_n, tru_b, vk_i, vk_s, vk_t, vk_n, vk_b, is_nn, is_in, is_sn, is_tn, is_rn, isn_nn, isn_tn, zn1, zn2, zn3, zn4, zn5, zn6, zn7, zn8, beq_self_eq_true, then_n, then_r, thenR_n, thenR_r, loop_n, loop_r, zl1, zl2, zl3, zl4, rng_1, rng_2, int_b, str_i, max_i, min_i, len_t, list_t, zl7, zl8, List.replicate, zl9, zl10, List.set, zl5, zl6, zo1, zo3, zo2, Nat.reduceSub, zl11, zl12, zn9, if_false, if_true, zn10, zn11, Bool.not_true, Bool.not_false, zn12, zn13, reduceCtorEq, zn15, zn14, zn18, zn16, zn17, forall_const, zb1, zb2, zb3, zb4, zb5, zb6, zb7, decide_true, decide_false, eq_self, s_P_law_3]
    refine copy_ok hc hst7 fun f8 t8 hf8 ht8 hne8 hh8 => ?_
    have g8 : ∀ (a : Nat) (ob : AObj), H7 a = some ob → ((H7.set f8 (.list true (F0 ++ [.tup [.int b, .int q, .tup o, .tup s]]))).set t8 (.dict true T)) a = some ob := fun a ob h => by
      have q1 : a ≠ t8 := fun q => by rw [q, ht8] at h; cases h
      have q2 : a ≠ f8 := fun q => by rw [q, hf8] at h; cases h
      rw [AH.set_ne _ _ q1, AH.set_ne _ _ q2]; exact h
    have hst8 := hst7.grow g8
    have hP8 := hP7.grow g8
    have hp8 := g8 _ _ hp7
    generalize (H7.set f8 (.list true (F0 ++ [.tup [.int b, .int q, .tup o, .tup s]]))).set t8 (.dict true T) = H8 at hst8 hh8 hP8 hp8
    clear g8 hst7 hP7 hp7 hS7
    simp only [qx_1, qx_2, qx_3, qx_4, qx_5, qx_6, qx_7, qx_8, qx_9, qx_10, qx_11, qx_13, qx_15, qx_16, qx_17, qx_18, qx_19, qx_20, qx_21, qx_22, qx_23, qx_24, qx_25, qx_26, qt_1, qt_2, qt_3, qt_4, qt_5, qt_6, qt_7, qt_9, qt_10, qt_11, qt_12, qt_13, ql_1, ql_2, qa_1, qa_2, qb_1, qb_2, qo_1, qo_2, qc_1, qc_2, k_n, k_r, k_1, k_2, k_3, k_4, k_5, k_6, k_7, k_8, k_9, qs_1, add_i, sub_i, mul_i, div_i, mod_i, pow_i, eq_i, ne_i, eq_s, ne_s, eq_b, ne_b, lt_i, le_i, gt_i, ge_i, ret_v, ret_n, tru_b, vk_i, vk_s, vk_t, vk_n, vk_b, is_nn, is_in, is_sn, is_tn, is_rn, isn_nn, isn_tn, zn1, zn2, zn3, zn4, zn5, zn6, zn7, zn8, beq_self_eq_true, then_n, then_r, thenR_n, thenR_r, loop_n, loop_r, zl1, zl2, zl3, zl4, rng_1, rng_2, int_b, str_i, max_i, min_i, len_t, list_t, zl7, zl8, List.replicate, zl9, zl10, List.set, zl5, zl6, zo1, zo3, zo2, Nat.reduceSub, zl11, zl12, zn9, if_false, if_true, zn10, zn11, Bool.not_true, Bool.not_false, zn12, zn13, reduceCtorEq, zn15, zn14, zn18, zn16, zn17, forall_const, zb1, zb2, zb3, zb4, zb5, zb6, zb7, decide_true, decide_false, eq_self, s_P_law_4]
    refine copies_ok hP8 fun gl H9 g9 hgl hgl2 D hD => ?_
    have g10 : ∀ (a : Nat) (ob : AObj), H8 a = some ob → (H9.set D (.list true (gl.map fun x => .ref x.1))) a = some ob := fun _ _ h => AH.set_of (g9 _ _ h) hD
    have hP10 : Prog (H9.set D (.list true (gl.map fun x => .ref x.1))) D B6 := by
      obtain ⟨rl, _, q2, q3, q4, q5⟩ := hP8
      have hlen : gl.length = rl.length := by have := congrArg List.length (hgl.trans q2); rwa [List.length_map, List.length_map] at this
      refine ⟨gl, AH.set_self _ _ _, hgl.symm, by first | decide | with_reducible first | assumption | exact zm0 (by decide) | exact zm1 (by decide) (by decide) | exact zm3 (by assumption) (by decide) | omega, by first | decide | with_reducible first | assumption | exact zm0 (by decide) | exact zm1 (by decide) (by decide) | exact zm3 (by assumption) (by decide) | omega, fun x hx => ⟨⟨true, AH.set_of (hgl2 x hx) hD⟩, ?_⟩⟩
      have : x.2 ∈ rl.map (·.2) := by rw [← q2, ← hgl]; exact List.mem_map.mpr ⟨x, hx, rfl⟩
      obtain ⟨y, hy, e⟩ := List.mem_map.mp this
      rw [← e]; exact (q5 y hy).2
    have hP10' := hP8.grow g10
    have hst10 := hst8.grow g10
    have hh10 := hh8.grow g10
    have hp10 := g10 _ _ hp8
    generalize H9.set D (.list true (gl.map fun x => .ref x.1)) = H10 at hP10 hP10' hst10 hh10 hp10
    clear g10 hgl2 hD g9 hP8 hst8 hh8 hp8
    have mkTp : ∀ HX : AH, Prog HX D B6 → State HX (.tup [.none, .ref f8, .ref t8]) .none (F0 ++ [.tup [.int b, .int q, .tup o, .tup s]]) T f8 t8 → HX 40 = some (.sdict popsKv) → Tp HX D f8 t8 B6 F0 b q o s T w := fun HX a1 a2 a3 =>
      ⟨a1, a2.fr, a2.th, a3, b0, q0, ⟨l, hb, hr⟩, htop, by first | decide | with_reducible first | assumption | exact zm0 (by decide) | exact zm1 (by decide) (by decide) | exact zm3 (by assumption) (by decide) | omega, ho, hs, h5, h6⟩
    have mkSt : ∀ (k : Int) (HX : AH) (fx tx : Nat), (∃ own, HX fx = some (.list own (F0 ++ [outL w k b q o s T]))) → (∃ own, HX tx = some (.dict own (outTT w k s T))) → State HX (.tup [outE w s T, .ref fx, .ref tx]) (outE w s T) (F0 ++ [outL w k b q o s T]) (outTT w k s T) fx tx := fun k HX fx tx a1 a2 => ⟨rfl, out_end _ _ _ _, a1, a2, ⟨by rw [List.length_append, List.length_singleton]; omega, fun y hy => by
      rcases List.mem_append.mp hy with z | z
      · exact (h4.2 y (List.mem_append.mpr (.inl z))).mono out_sub
      · simp at z; rw [z]; exact out_frame b0 q0 ho hs h6⟩, by have := out_len w k s T; omega, out_thing hs h6⟩
    simp only [qx_1, qx_2, qx_3, qx_4, qx_5, qx_6, qx_7, qx_8, qx_9, qx_10, qx_11, qx_13, qx_15, qx_16, qx_17, qx_18, qx_19, qx_20, qx_21, qx_22, qx_23, qx_24, qx_25, qx_26, qt_1, qt_2, qt_3, qt_4, qt_5, qt_6, qt_7, qt_9, qt_10, qt_11, qt_12, qt_13, ql_1, ql_2, qa_1, qa_2, qb_1, qb_2, qo_1, qo_2, qc_1, qc_2, k_n, k_r, k_1, k_2, k_3, k_4, k_5, k_6, k_7, k_8, k_9, qs_1, add_i, sub_i, mul_i, div_i, mod_i, pow_i, eq_i, ne_i, eq_s, ne_s, eq_b, ne_b, lt_i, le_i, gt_i, ge_i, ret_v, ret_n, tru_b, vk_i, vk_s, vk_t, vk_n, vk_b, is_nn, is_in, is_sn, is_tn, is_rn, isn_nn, isn_tn, zn1, zn2, zn3, zn4, zn5, zn6, zn7, zn8, beq_self_eq_true, then_n, then_r, thenR_n, thenR_r, loop_n, loop_r, zl1, zl2, zl3, zl4, rng_1, rng_2, int_b, str_i, max_i, min_i, len_t, list_t, zl7, zl8, List.replicate, zl9, zl10, List.set, zl5, zl6, zo1, zo3, zo2, Nat.reduceSub, zl11, zl12, zn9, if_false, if_true, zn10, zn11, Bool.not_true, Bool.not_false, zn12, zn13, reduceCtorEq, zn15, zn14, zn18, zn16, zn17, forall_const, zb1, zb2, zb3, zb4, zb5, zb6, zb7, decide_true, decide_false, eq_self, s_P_law_5]
    refine stepped_ok hc (mkTp H10 hP10 hh10 hp10) fun k f' t' H11 hk hbh => ?_
    have hst11 := hst10.grow hbh.g
    have hh11 := hh10.grow hbh.g
    have hP11 := hP10.grow hbh.g
    have hP11' := hP10'.grow hbh.g
    have hp11 := hbh.g _ _ hp10
    simp only [qx_1, qx_2, qx_3, qx_4, qx_5, qx_6, qx_7, qx_8, qx_9, qx_10, qx_11, qx_13, qx_15, qx_16, qx_17, qx_18, qx_19, qx_20, qx_21, qx_22, qx_23, qx_24, qx_25, qx_26, qt_1, qt_2, qt_3, qt_4, qt_5, qt_6, qt_7, qt_9, qt_10, qt_11, qt_12, qt_13, ql_1, ql_2, qa_1, qa_2, qb_1, qb_2, qo_1, qo_2, qc_1, qc_2, k_n, k_r, k_1, k_2, k_3, k_4, k_5, k_6, k_7, k_8, k_9, qs_1, add_i, sub_i, mul_i, div_i, mod_i, pow_i, eq_i, ne_i, eq_s, ne_s, eq_b, ne_b, lt_i, le_i, gt_i, ge_i, ret_v, ret_n, tru_b, vk_i, vk_s, vk_t, vk_n, vk_b, is_nn, is_in, is_sn, is_tn, is_rn, isn_nn, isn_tn, zn1, zn2, zn3, zn4, zn5, zn6, zn7, zn8, beq_self_eq_true, then_n, then_r, thenR_n, thenR_r, loop_n, loop_r, zl1, zl2, zl3, zl4, rng_1, rng_2, int_b, str_i, max_i, min_i, len_t, list_t, zl7, zl8, List.replicate, zl9, zl10, List.set, zl5, zl6, zo1, zo3, zo2, Nat.reduceSub, zl11, zl12, zn9, if_false, if_true, zn10, zn11, Bool.not_true, Bool.not_false, zn12, zn13, reduceCtorEq, zn15, zn14, zn18, zn16, zn17, forall_const, zb1, zb2, zb3, zb4, zb5, zb6, zb7, decide_true, decide_false, eq_self, s_P_law_6]
    refine ⟨by simp, fun _ => same_prog hP11 hP11' hR6 ?_, fun z => absurd rfl z⟩
    simp only [qx_1, qx_2, qx_3, qx_4, qx_5, qx_6, qx_7, qx_8, qx_9, qx_10, qx_11, qx_13, qx_15, qx_16, qx_17, qx_18, qx_19, qx_20, qx_21, qx_22, qx_23, qx_24, qx_25, qx_26, qt_1, qt_2, qt_3, qt_4, qt_5, qt_6, qt_7, qt_9, qt_10, qt_11, qt_12, qt_13, ql_1, ql_2, qa_1, qa_2, qb_1, qb_2, qo_1, qo_2, qc_1, qc_2, k_n, k_r, k_1, k_2, k_3, k_4, k_5, k_6, k_7, k_8, k_9, qs_1, add_i, sub_i, mul_i, div_i, mod_i, pow_i, eq_i, ne_i, eq_s, ne_s, eq_b, ne_b, lt_i, le_i, gt_i, ge_i, ret_v, ret_n, tru_b, vk_i, vk_s, vk_t, vk_n, vk_b, is_nn, is_in, is_sn, is_tn, is_rn, isn_nn, isn_tn, zn1, zn2, zn3, zn4, zn5, zn6, zn7, zn8, beq_self_eq_true, then_n, then_r, thenR_n, thenR_r, loop_n, loop_r, zl1, zl2, zl3, zl4, rng_1, rng_2, int_b, str_i, max_i, min_i, len_t, list_t, zl7, zl8, List.replicate, zl9, zl10, List.set, zl5, zl6, zo1, zo3, zo2, Nat.reduceSub, zl11, zl12, zn9, if_false, if_true, zn10, zn11, Bool.not_true, Bool.not_false, zn12, zn13, reduceCtorEq, zn15, zn14, zn18, zn16, zn17, forall_const, zb1, zb2, zb3, zb4, zb5, zb6, zb7, decide_true, decide_false, eq_self]
    refine same_state_ok hc hh11 hst11 ?_
    simp only [qx_1, qx_2, qx_3, qx_4, qx_5, qx_6, qx_7, qx_8, qx_9, qx_10, qx_11, qx_13, qx_15, qx_16, qx_17, qx_18, qx_19, qx_20, qx_21, qx_22, qx_23, qx_24, qx_25, qx_26, qt_1, qt_2, qt_3, qt_4, qt_5, qt_6, qt_7, qt_9, qt_10, qt_11, qt_12, qt_13, ql_1, ql_2, qa_1, qa_2, qb_1, qb_2, qo_1, qo_2, qc_1, qc_2, k_n, k_r, k_1, k_2, k_3, k_4, k_5, k_6, k_7, k_8, k_9, qs_1, add_i, sub_i, mul_i, div_i, mod_i, pow_i, eq_i, ne_i, eq_s, ne_s, eq_b, ne_b, lt_i, le_i, gt_i, ge_i, ret_v, ret_n, tru_b, vk_i, vk_s, vk_t, vk_n, vk_b, is_nn, is_in, is_sn, is_tn, is_rn, isn_nn, isn_tn, zn1, zn2, zn3, zn4, zn5, zn6, zn7, zn8, beq_self_eq_true, then_n, then_r, thenR_n, thenR_r, loop_n, loop_r, zl1, zl2, zl3, zl4, rng_1, rng_2, int_b, str_i, max_i, min_i, len_t, list_t, zl7, zl8, List.replicate, zl9, zl10, List.set, zl5, zl6, zo1, zo3, zo2, Nat.reduceSub, zl11, zl12, zn9, if_false, if_true, zn10, zn11, Bool.not_true, Bool.not_false, zn12, zn13, reduceCtorEq, zn15, zn14, zn18, zn16, zn17, forall_const, zb1, zb2, zb3, zb4, zb5, zb6, zb7, decide_true, decide_false, eq_self, g20, g21, g30, g31, g32, g40, g41, g42, g43, s_P_law_7]
    obtain ⟨ow11, hf11⟩ := hst11.fr
    refine ⟨1, rfl, getM1 hf11 (by first | decide | with_reducible first | assumption | exact zm0 (by decide) | exact zm1 (by decide) (by decide) | exact zm3 (by assumption) (by decide) | omega) ?_⟩
    simp only [qx_1, qx_2, qx_3, qx_4, qx_5, qx_6, qx_7, qx_8, qx_9, qx_10, qx_11, qx_13, qx_15, qx_16, qx_17, qx_18, qx_19, qx_20, qx_21, qx_22, qx_23, qx_24, qx_25, qx_26, qt_1, qt_2, qt_3, qt_4, qt_5, qt_6, qt_7, qt_9, qt_10, qt_11, qt_12, qt_13, ql_1, ql_2, qa_1, qa_2, qb_1, qb_2, qo_1, qo_2, qc_1, qc_2, k_n, k_r, k_1, k_2, k_3, k_4, k_5, k_6, k_7, k_8, k_9, qs_1, add_i, sub_i, mul_i, div_i, mod_i, pow_i, eq_i, ne_i, eq_s, ne_s, eq_b, ne_b, lt_i, le_i, gt_i, ge_i, ret_v, ret_n, tru_b, vk_i, vk_s, vk_t, vk_n, vk_b, is_nn, is_in, is_sn, is_tn, is_rn, isn_nn, isn_tn, zn1, zn2, zn3, zn4, zn5, zn6, zn7, zn8, beq_self_eq_true, then_n, then_r, thenR_n, thenR_r, loop_n, loop_r, zl1, zl2, zl3, zl4, rng_1, rng_2, int_b, str_i, max_i, min_i, len_t, list_t, zl7, zl8, List.replicate, zl9, zl10, List.set, zl5, zl6, zo1, zo3, zo2, Nat.reduceSub, zl11, zl12, zn9, if_false, if_true, zn10, zn11, Bool.not_true, Bool.not_false, zn12, zn13, reduceCtorEq, zn15, zn14, zn18, zn16, zn17, forall_const, zb1, zb2, zb3, zb4, zb5, zb6, zb7, decide_true, decide_false, eq_self, g20, g21, g30, g31, g32, g40, g41, g42, g43, s_P_law_8]
    have hbl : b < B6.length := by have := (List.getElem?_eq_some_iff.mp hb).1; omega
    refine hP11'.get b0 hbl fun rb own l' e1 e2 e3 => ?_
    rw [hb] at e3; cases e3
    refine getL e1 q0 (by first | decide | with_reducible first | assumption | exact zm0 (by decide) | exact zm1 (by decide) (by decide) | exact zm3 (by assumption) (by decide) | omega) hr ?_
    refine due_ok hc htop hst11 hs hK fun k' f12 t12 H12 hk' g12 hf12 hor ht12 hor' => ?_
    cases hk.one hk'
    have s1 := mkSt k H12 f' t' ⟨true, g12 _ _ hbh.hf⟩ ⟨true, g12 _ _ hbh.ht⟩
    have s2 := mkSt k H12 f12 t12 hf12 ht12
    simp only [qx_1, qx_2, qx_3, qx_4, qx_5, qx_6, qx_7, qx_8, qx_9, qx_10, qx_11, qx_13, qx_15, qx_16, qx_17, qx_18, qx_19, qx_20, qx_21, qx_22, qx_23, qx_24, qx_25, qx_26, qt_1, qt_2, qt_3, qt_4, qt_5, qt_6, qt_7, qt_9, qt_10, qt_11, qt_12, qt_13, ql_1, ql_2, qa_1, qa_2, qb_1, qb_2, qo_1, qo_2, qc_1, qc_2, k_n, k_r, k_1, k_2, k_3, k_4, k_5, k_6, k_7, k_8, k_9, qs_1, add_i, sub_i, mul_i, div_i, mod_i, pow_i, eq_i, ne_i, eq_s, ne_s, eq_b, ne_b, lt_i, le_i, gt_i, ge_i, ret_v, ret_n, tru_b, vk_i, vk_s, vk_t, vk_n, vk_b, is_nn, is_in, is_sn, is_tn, is_rn, isn_nn, isn_tn, zn1, zn2, zn3, zn4, zn5, zn6, zn7, zn8, beq_self_eq_true, then_n, then_r, thenR_n, thenR_r, loop_n, loop_r, zl1, zl2, zl3, zl4, rng_1, rng_2, int_b, str_i, max_i, min_i, len_t, list_t, zl7, zl8, List.replicate, zl9, zl10, List.set, zl5, zl6, zo1, zo3, zo2, Nat.reduceSub, zl11, zl12, zn9, if_false, if_true, zn10, zn11, Bool.not_true, Bool.not_false, zn12, zn13, reduceCtorEq, zn15, zn14, zn18, zn16, zn17, forall_const, zb1, zb2, zb3, zb4, zb5, zb6, zb7, decide_true, decide_false, eq_self, g20, g21, g30, g31, g32, g40, g41, g42, g43, s_P_law_9]
    refine same_state_ok hc s1 s2 ?_
    simp only [qx_1, qx_2, qx_3, qx_4, qx_5, qx_6, qx_7, qx_8, qx_9, qx_10, qx_11, qx_13, qx_15, qx_16, qx_17, qx_18, qx_19, qx_20, qx_21, qx_22, qx_23, qx_24, qx_25, qx_26, qt_1, qt_2, qt_3, qt_4, qt_5, qt_6, qt_7, qt_9, qt_10, qt_11, qt_12, qt_13, ql_1, ql_2, qa_1, qa_2, qb_1, qb_2, qo_1, qo_2, qc_1, qc_2, k_n, k_r, k_1, k_2, k_3, k_4, k_5, k_6, k_7, k_8, k_9, qs_1, add_i, sub_i, mul_i, div_i, mod_i, pow_i, eq_i, ne_i, eq_s, ne_s, eq_b, ne_b, lt_i, le_i, gt_i, ge_i, ret_v, ret_n, tru_b, vk_i, vk_s, vk_t, vk_n, vk_b, is_nn, is_in, is_sn, is_tn, is_rn, isn_nn, isn_tn, zn1, zn2, zn3, zn4, zn5, zn6, zn7, zn8, beq_self_eq_true, then_n, then_r, thenR_n, thenR_r, loop_n, loop_r, zl1, zl2, zl3, zl4, rng_1, rng_2, int_b, str_i, max_i, min_i, len_t, list_t, zl7, zl8, List.replicate, zl9, zl10, List.set, zl5, zl6, zo1, zo3, zo2, Nat.reduceSub, zl11, zl12, zn9, if_false, if_true, zn10, zn11, Bool.not_true, Bool.not_false, zn12, zn13, reduceCtorEq, zn15, zn14, zn18, zn16, zn17, forall_const, zb1, zb2, zb3, zb4, zb5, zb6, zb7, decide_true, decide_false, eq_self, g20, g21, g30, g31, g32, g40, g41, g42, g43]
    refine alike_plain hc 0 .none trivial (n + 6) _ ?_
    simp only [qx_1, qx_2, qx_3, qx_4, qx_5, qx_6, qx_7, qx_8, qx_9, qx_10, qx_11, qx_13, qx_15, qx_16, qx_17, qx_18, qx_19, qx_20, qx_21, qx_22, qx_23, qx_24, qx_25, qx_26, qt_1, qt_2, qt_3, qt_4, qt_5, qt_6, qt_7, qt_9, qt_10, qt_11, qt_12, qt_13, ql_1, ql_2, qa_1, qa_2, qb_1, qb_2, qo_1, qo_2, qc_1, qc_2, k_n, k_r, k_1, k_2, k_3, k_4, k_5, k_6, k_7, k_8, k_9, qs_1, add_i, sub_i, mul_i, div_i, mod_i, pow_i, eq_i, ne_i, eq_s, ne_s, eq_b, ne_b, lt_i, le_i, gt_i, ge_i, ret_v, ret_n, tru_b, vk_i, vk_s, vk_t, vk_n, vk_b, is_nn, is_in, is_sn, is_tn, is_rn, isn_nn, isn_tn, zn1, zn2, zn3, zn4, zn5, zn6, zn7, zn8, beq_self_eq_true, then_n, then_r, thenR_n, thenR_r, loop_n, loop_r, zl1, zl2, zl3, zl4, rng_1, rng_2, int_b, str_i, max_i, min_i, len_t, list_t, zl7, zl8, List.replicate, zl9, zl10, List.set, zl5, zl6, zo1, zo3, zo2, Nat.reduceSub, zl11, zl12, zn9, if_false, if_true, zn10, zn11, Bool.not_true, Bool.not_false, zn12, zn13, reduceCtorEq, zn15, zn14, zn18, zn16, zn17, forall_const, zb1, zb2, zb3, zb4, zb5, zb6, zb7, decide_true, decide_false, eq_self, g20, g21, g30, g31, g32, g40, g41, g42, g43, s_P_law_10]
    have hf12' := g12 _ _ hbh.hf
    have ht12' := g12 _ _ hbh.ht
    refine ⟨⟨true, _, hf12'⟩, _, hf12', by rw [List.length_append, List.length_singleton]; omega, ?_⟩
    simp only [qx_1, qx_2, qx_3, qx_4, qx_5, qx_6, qx_7, qx_8, qx_9, qx_10, qx_11, qx_13, qx_15, qx_16, qx_17, qx_18, qx_19, qx_20, qx_21, qx_22, qx_23, qx_24, qx_25, qx_26, qt_1, qt_2, qt_3, qt_4, qt_5, qt_6, qt_7, qt_9, qt_10, qt_11, qt_12, qt_13, ql_1, ql_2, qa_1, qa_2, qb_1, qb_2, qo_1, qo_2, qc_1, qc_2, k_n, k_r, k_1, k_2, k_3, k_4, k_5, k_6, k_7, k_8, k_9, qs_1, add_i, sub_i, mul_i, div_i, mod_i, pow_i, eq_i, ne_i, eq_s, ne_s, eq_b, ne_b, lt_i, le_i, gt_i, ge_i, ret_v, ret_n, tru_b, vk_i, vk_s, vk_t, vk_n, vk_b, is_nn, is_in, is_sn, is_tn, is_rn, isn_nn, isn_tn, zn1, zn2, zn3, zn4, zn5, zn6, zn7, zn8, beq_self_eq_true, then_n, then_r, thenR_n, thenR_r, loop_n, loop_r, zl1, zl2, zl3, zl4, rng_1, rng_2, int_b, str_i, max_i, min_i, len_t, list_t, zl7, zl8, List.replicate, zl9, zl10, List.set, zl5, zl6, zo1, zo3, zo2, Nat.reduceSub, zl11, zl12, zn9, if_false, if_true, zn10, zn11, Bool.not_true, Bool.not_false, zn12, zn13, reduceCtorEq, zn15, zn14, zn18, zn16, zn17, forall_const, zb1, zb2, zb3, zb4, zb5, zb6, zb7, decide_true, decide_false, eq_self, g20, g21, g30, g31, g32, g40, g41, g42, g43, s_P_law_11]
    refine setD (by rw [AH.set_ne _ _ hbh.ne.symm]; exact ht12') (by have := out_len w k s T; omega) ?_
    have keep : ∀ (x : Nat) (ob : AObj), H10 x = some ob → ((H12.set f' (.list true (F0 ++ [outL w k b q o s T] ++ [.int 0]))).set t' (.dict true (storedA (outTT w k s T) (0 - 1) (.int 0)))) x = some ob := fun x ob e => by
      have q1 : x ≠ t' := fun z => by rw [z, hbh.t0] at e; cases e
      have q2 : x ≠ f' := fun z => by rw [z, hbh.f0] at e; cases e
      rw [AH.set_ne _ _ q1, AH.set_ne _ _ q2]; exact g12 _ _ (hbh.g _ _ e)
    have hne12 : f12 ≠ f' ∧ f12 ≠ t' := by
      rcases hor with z | z
      · obtain ⟨ow10, hf10⟩ := hst10.fr
        exact ⟨(fun e => by rw [z] at e; rw [e, hbh.f0] at hf10; cases hf10), (fun e => by rw [z] at e; rw [e, hbh.t0] at hf10; cases hf10)⟩
      · exact ⟨(fun e => by rw [e, hbh.hf] at z; cases z), (fun e => by rw [e, hbh.ht] at z; cases z)⟩
    have hne12' : t12 ≠ f' ∧ t12 ≠ t' := by
      rcases hor' with z | z
      · obtain ⟨ow10, ht10⟩ := hst10.th
        exact ⟨(fun e => by rw [z] at e; rw [e, hbh.f0] at ht10; cases ht10), (fun e => by rw [z] at e; rw [e, hbh.t0] at ht10; cases ht10)⟩
      · exact ⟨(fun e => by rw [e, hbh.hf] at z; cases z), (fun e => by rw [e, hbh.ht] at z; cases z)⟩
    have hf13 : ∃ own, ((H12.set f' (.list true (F0 ++ [outL w k b q o s T] ++ [.int 0]))).set t' (.dict true (storedA (outTT w k s T) (0 - 1) (.int 0)))) f12 = some (.list own (F0 ++ [outL w k b q o s T])) := let ⟨ow, e⟩ := hf12; ⟨ow, by rw [AH.set_ne _ _ hne12.2, AH.set_ne _ _ hne12.1]; exact e⟩
    have ht13 : ∃ own, ((H12.set f' (.list true (F0 ++ [outL w k b q o s T] ++ [.int 0]))).set t' (.dict true (storedA (outTT w k s T) (0 - 1) (.int 0)))) t12 = some (.dict own (outTT w k s T)) := let ⟨ow, e⟩ := ht12; ⟨ow, by rw [AH.set_ne _ _ hne12'.2, AH.set_ne _ _ hne12'.1]; exact e⟩
    have hh13 := hh10.grow keep
    have hst13 := hst10.grow keep
    have hP13 := hP10.grow keep
    have hp13 := keep _ _ hp10
    have s3 := mkSt k _ f12 t12 hf13 ht13
    generalize (H12.set f' (.list true (F0 ++ [outL w k b q o s T] ++ [.int 0]))).set t' (.dict true (storedA (outTT w k s T) (0 - 1) (.int 0))) = H13 at hh13 hst13 hP13 hp13 s3
    simp only [qx_1, qx_2, qx_3, qx_4, qx_5, qx_6, qx_7, qx_8, qx_9, qx_10, qx_11, qx_13, qx_15, qx_16, qx_17, qx_18, qx_19, qx_20, qx_21, qx_22, qx_23, qx_24, qx_25, qx_26, qt_1, qt_2, qt_3, qt_4, qt_5, qt_6, qt_7, qt_9, qt_10, qt_11, qt_12, qt_13, ql_1, ql_2, qa_1, qa_2, qb_1, qb_2, qo_1, qo_2, qc_1, qc_2, k_n, k_r, k_1, k_2, k_3, k_4, k_5, k_6, k_7, k_8, k_9, qs_1, add_i, sub_i, mul_i, div_i, mod_i, pow_i, eq_i, ne_i, eq_s, ne_s, eq_b, ne_b, lt_i, le_i, gt_i, ge_i, ret_v, ret_n, tru_b, vk_i, vk_s, vk_t, vk_n, vk_b, is_nn, is_in, is_sn, is_tn, is_rn, isn_nn, isn_tn, zn1, zn2, zn3, zn4, zn5, zn6, zn7, zn8, beq_self_eq_true, then_n, then_r, thenR_n, thenR_r, loop_n, loop_r, zl1, zl2, zl3, zl4, rng_1, rng_2, int_b, str_i, max_i, min_i, len_t, list_t, zl7, zl8, List.replicate, zl9, zl10, List.set, zl5, zl6, zo1, zo3, zo2, Nat.reduceSub, zl11, zl12, zn9, if_false, if_true, zn10, zn11, Bool.not_true, Bool.not_false, zn12, zn13, reduceCtorEq, zn15, zn14, zn18, zn16, zn17, forall_const, zb1, zb2, zb3, zb4, zb5, zb6, zb7, decide_true, decide_false, eq_self, g20, g21, g30, g31, g32, g40, g41, g42, g43, s_P_law_12]
    refine same_state_ok hc hh13 hst13 ?_
    simp only [qx_1, qx_2, qx_3, qx_4, qx_5, qx_6, qx_7, qx_8, qx_9, qx_10, qx_11, qx_13, qx_15, qx_16, qx_17, qx_18, qx_19, qx_20, qx_21, qx_22, qx_23, qx_24, qx_25, qx_26, qt_1, qt_2, qt_3, qt_4, qt_5, qt_6, qt_7, qt_9, qt_10, qt_11, qt_12, qt_13, ql_1, ql_2, qa_1, qa_2, qb_1, qb_2, qo_1, qo_2, qc_1, qc_2, k_n, k_r, k_1, k_2, k_3, k_4, k_5, k_6, k_7, k_8, k_9, qs_1, add_i, sub_i, mul_i, div_i, mod_i, pow_i, eq_i, ne_i, eq_s, ne_s, eq_b, ne_b, lt_i, le_i, gt_i, ge_i, ret_v, ret_n, tru_b, vk_i, vk_s, vk_t, vk_n, vk_b, is_nn, is_in, is_sn, is_tn, is_rn, isn_nn, isn_tn, zn1, zn2, zn3, zn4, zn5, zn6, zn7, zn8, beq_self_eq_true, then_n, then_r, thenR_n, thenR_r, loop_n, loop_r, zl1, zl2, zl3, zl4, rng_1, rng_2, int_b, str_i, max_i, min_i, len_t, list_t, zl7, zl8, List.replicate, zl9, zl10, List.set, zl5, zl6, zo1, zo3, zo2, Nat.reduceSub, zl11, zl12, zn9, if_false, if_true, zn10, zn11, Bool.not_true, Bool.not_false, zn12, zn13, reduceCtorEq, zn15, zn14, zn18, zn16, zn17, forall_const, zb1, zb2, zb3, zb4, zb5, zb6, zb7, decide_true, decide_false, eq_self, g20, g21, g30, g31, g32, g40, g41, g42, g43]
    refine stepped_ok hc (mkTp H13 hP13 hh13 hp13) fun k' f14 t14 H14 hk' hbh14 => ?_
    cases hk.one hk'
    simp only [qx_1, qx_2, qx_3, qx_4, qx_5, qx_6, qx_7, qx_8, qx_9, qx_10, qx_11, qx_13, qx_15, qx_16, qx_17, qx_18, qx_19, qx_20, qx_21, qx_22, qx_23, qx_24, qx_25, qx_26, qt_1, qt_2, qt_3, qt_4, qt_5, qt_6, qt_7, qt_9, qt_10, qt_11, qt_12, qt_13, ql_1, ql_2, qa_1, qa_2, qb_1, qb_2, qo_1, qo_2, qc_1, qc_2, k_n, k_r, k_1, k_2, k_3, k_4, k_5, k_6, k_7, k_8, k_9, qs_1, add_i, sub_i, mul_i, div_i, mod_i, pow_i, eq_i, ne_i, eq_s, ne_s, eq_b, ne_b, lt_i, le_i, gt_i, ge_i, ret_v, ret_n, tru_b, vk_i, vk_s, vk_t, vk_n, vk_b, is_nn, is_in, is_sn, is_tn, is_rn, isn_nn, isn_tn, zn1, zn2, zn3, zn4, zn5, zn6, zn7, zn8, beq_self_eq_true, then_n, then_r, thenR_n, thenR_r, loop_n, loop_r, zl1, zl2, zl3, zl4, rng_1, rng_2, int_b, str_i, max_i, min_i, len_t, list_t, zl7, zl8, List.replicate, zl9, zl10, List.set, zl5, zl6, zo1, zo3, zo2, Nat.reduceSub, zl11, zl12, zn9, if_false, if_true, zn10, zn11, Bool.not_true, Bool.not_false, zn12, zn13, reduceCtorEq, zn15, zn14, zn18, zn16, zn17, forall_const, zb1, zb2, zb3, zb4, zb5, zb6, zb7, decide_true, decide_false, eq_self, g20, g21, g30, g31, g32, g40, g41, g42, g43]
    exact same_state_ok hc (mkSt k H14 f14 t14 ⟨true, hbh14.hf⟩ ⟨true, hbh14.ht⟩) (s3.grow hbh14.g) (hQ _)
  have k := go _ g3 ⟨true, hW3⟩ ⟨true, hW4⟩
  exact k
end
end Mine

open PySem PySem.W PyProof.Rows
set_option Elab.async false
set_option maxRecDepth 100000
set_option maxHeartbeats 0
namespace Mine
noncomputable def pick (l : List Stmt) (is : List Nat) : List Stmt := is.filterMap (l[·]?)
noncomputable def PP : Program := PySem.Challenge.pw_uf010013_03
noncomputable def QQ : Program := { PP with main := { PP.main with body := pick PP.main.body [1, 2, 4, 5, 6, 7, 8, 9, 10, 11, 12, 13, 14, 15, 16, 17, 18, 19, 20, 21, 22, 24, 25, 26, 27, 28, 29, 30, 31, 32, 33, 34, 35, 36, 37, 38, 39, 40, 41, 42, 43, 44] } }
abbrev LO : List Str := ["MOST_NUMBER", "POPS"]
abbrev LV : List (Str × WData) := [("MOST_NUMBER", .int 1000000000000000000000000000000)]
/-- POPS in the heap: its words and their numbers -/
noncomputable def popsTab : List (Str × Int) := [("num", 0), ("get", 0), ("keep", 1), ("drop", 1), ("add", 2), ("minus", 2), ("times", 2), ("less", 2), ("same", 2), ("box", 1), ("open", 1), ("fill", 2), ("call", 2), ("back", 1), ("say", 1), ("fun", 0), ("jump", 0), ("unless", 1)]
noncomputable def entOk : List DictEntry → List (Str × Int) → Bool
  | [], [] => true
  | e :: es, x :: xs => (match e.key with | .str k _ => k == x.1 | _ => false) && (match e.val with | .int i _ => i == x.2 | _ => false) && entOk es xs
  | _, _ => false
noncomputable def popsObj (o : Obj) : Bool := (match o.cls with | .type t => t == "dict" | _ => false) && o.dict.isNone && o.slots.isEmpty && (match o.data with | .dict es _ => entOk es.toList popsTab | _ => false)
noncomputable def popsAt (s : Shared) : Bool := (match s.heap.nsMap mainGlobals "POPS" with
  | some (.ref a) => a == 40
  | _ => false) && (s.heap.get? 40).any popsObj
noncomputable def hashesOf (o : Option Obj) : List Int := match o with
  | some o => (match o.data with | .dict es _ => es.toList.map (·.hash) | _ => [])
  | none => []
noncomputable abbrev XT (s : Shared) : Bool := xlAt QQ LV s && recOk [] s && popsAt s
noncomputable abbrev YF (s : Shared) : List Int := hashesOf (s.heap.get? 40)
noncomputable abbrev YA (w : World) : List Int := popsTab.map fun x => PyData.keyHash w.params x.1
theorem leftA (w : World) : Option.map (fun s₀ => Option.map (fun s => (openSeen QQ LO (importedModules PP.main.body) XT true s, YF s)) (topFrom treeTable PP (w.withFollow "special-get-raises" false) 3846 s₀)) (fencedOpening treeTable PP w 3846) = some (some (openGood QQ LO, YA (w.withFollow "special-get-raises" false))) := by
  kernel_rfl
theorem leftB (w : World) : Option.map (fun s₀ => Option.map (fun s => (openSeen QQ LO (importedModules PP.main.body) XT true s, YF s)) (topFrom treeTable PP (w.withFollow "special-get-raises" true) 3846 s₀)) (fencedOpening treeTable PP w 3846) = some (some (openGood QQ LO, YA (w.withFollow "special-get-raises" true))) := by
  kernel_rfl
theorem left : LeftO PP QQ LO XT YF YA 3846 := by
  refine LeftO.of_split "special-get-raises" ?_
  intro w
  have a := leftA w
  have b := leftB w
  cases h : fencedOpening treeTable PP w 3846 with
  | none => rw [h] at a; cases a
  | some s₀ =>
    rw [h] at a b
    simp only [Option.map_some, Option.some.injEq] at a b ⊢
    rw [a, b]
theorem tabOk : tab.all (fnOk (recsOf QQ) (tab.map (·.name)) (consts.map (·.1))) = true := by decide +kernel
theorem biOk : ∀ b : BI, globOk (recsOf QQ) ((litsOf QQ).map (·.1)) ((clssOf QQ (looseW QQ LO)).map (·.name)) (looseW QQ LO) b.name = true := by intro b; cases b <;> decide +kernel
theorem tyOk : ∀ b : Ty, globOk (recsOf QQ) ((litsOf QQ).map (·.1)) ((clssOf QQ (looseW QQ LO)).map (·.name)) (looseW QQ LO) b.name = true := by intro b; cases b <;> decide +kernel
theorem isiOk : globOk (recsOf QQ) ((litsOf QQ).map (·.1)) ((clssOf QQ (looseW QQ LO)).map (·.name)) (looseW QQ LO) ("isinstance" : Str) = true := by decide +kernel
theorem impOk : importsNone QQ = true := by decide +kernel
/-- what is known of POPS behind the head -/
noncomputable def XM (mg : Str → Option Value) (h : Heap) : Prop := XL QQ LV mg h ∧ mg "POPS" = some (.ref 40) ∧ ∃ o, h.get? 40 = some o ∧ popsObj o = true
noncomputable def YM (w : World) (h : Heap) : Prop := ∃ o, h.get? 40 = some o ∧ hashesOf (some o) = YA w
theorem xm_of (s : Shared) (e : XT s = true) : XM (s.heap.nsMap mainGlobals) s.heap := by
  obtain ⟨e1, e2⟩ := Bool.and_eq_true_iff.mp e
  obtain ⟨e3, _⟩ := Bool.and_eq_true_iff.mp e1
  obtain ⟨e4, e5⟩ := Bool.and_eq_true_iff.mp (show ((match s.heap.nsMap mainGlobals "POPS" with | some (.ref a) => a == 40 | _ => false) && (s.heap.get? 40).any popsObj) = true from e2)
  refine ⟨xl_of s e3, ?_, ?_⟩
  · split at e4
    · rename_i a h; rw [h, beq_iff_eq.mp e4]
    · cases e4
  · exact Option.any_eq_true _ _ |>.mp e5
theorem xm_keeps (mg : Str → Option Value) (h h' : Heap) (x : XM mg h) (hk : ∀ b o, h.get? b = some o → h'.get? b = some o) : XM mg h' :=
  let ⟨x1, x2, o, x3, x4⟩ := x; ⟨XL.keeps mg h h' x1 hk, x2, o, hk _ _ x3, x4⟩
theorem ym_of (w : World) (s : Shared) (e : YF s = YA w) : YM w s.heap := by
  cases h : s.heap.get? 40 with
  | none =>
    have e' : hashesOf (s.heap.get? 40) = YA w := e
    rw [h] at e'
    exact absurd (congrArg List.length e') (by unfold YA hashesOf; rw [List.length_map]; decide)
  | some o =>
    have e' : hashesOf (s.heap.get? 40) = YA w := e
    rw [h] at e'
    exact ⟨o, h, e'⟩
theorem ym_keeps (w : World) (h h' : Heap) (x : YM w h) (hk : ∀ b o, h.get? b = some o → h'.get? b = some o) : YM w h' := let ⟨o, a, b⟩ := x; ⟨o, hk _ _ a, b⟩
theorem ents_ok {prog : Program} {w : World} {h : Heap} : ∀ (es : List DictEntry) (xs : List (Str × Int)), entOk es xs = true → es.map (·.hash) = xs.map (fun x => PyData.keyHash w.params x.1) →
    (∀ e ∈ es, ∃ k, Value.isStrOf k e.key = true ∧ e.hash = hashStr w k) ∧ ∃ cvs : List (Str × Value), Pairs (strKind prog w) es cvs ∧ cvs.map (·.1) = xs.map (·.1) ∧ VRs h (xs.map fun x => .int x.2) (cvs.map (·.2))
  | [], [], _, _ => ⟨fun e he => absurd he List.not_mem_nil, [], .nil, rfl, .nil⟩
  | [], _ :: _, q, _ => absurd q Bool.false_ne_true
  | _ :: _, [], q, _ => absurd q Bool.false_ne_true
  | e :: es, x :: xs, q, hh => by
    obtain ⟨q1, q3⟩ := Bool.and_eq_true_iff.mp (show (((match e.key with | .str k _ => k == x.1 | _ => false) && (match e.val with | .int i _ => i == x.2 | _ => false)) && entOk es xs) = true from q)
    obtain ⟨q1, q2⟩ := Bool.and_eq_true_iff.mp q1
    simp only [List.map_cons, List.cons.injEq] at hh
    obtain ⟨i1, cvs, i2, i3, i4⟩ := ents_ok es xs q3 hh.2
    have hk : Value.isStrOf x.1 e.key = true := by
      split at q1
      · rename_i k t ek; rw [ek, beq_iff_eq.mp q1]; simp [Value.isStrOf]
      · cases q1
    refine ⟨fun e' he => ?_, (x.1, e.val) :: cvs, .cons hk rfl i2, by simp [i3], ?_⟩
    · rcases List.mem_cons.mp he with z | z
      · rw [z]; exact ⟨x.1, hk, hh.1⟩
      · exact i1 e' z
    · simp only [List.map_cons]
      refine .cons ?_ i4
      split at q2
      · rename_i j t ev; rw [ev, beq_iff_eq.mp q2]; exact .int _ _
      · cases q2
theorem pops_dict {prog : Program} {w : World} {mg : Str → Option Value} {h : Heap} (x : XM mg h) (y : YM w h) : ∃ cvs, h.DictOf (strKind prog w) 40 cvs ∧ KV h popsKv cvs := by
  obtain ⟨_, _, o, x3, x4⟩ := x
  obtain ⟨o', y1, y2⟩ := y
  rw [x3] at y1; cases y1
  obtain ⟨x4, x8⟩ := Bool.and_eq_true_iff.mp (show ((match o.cls with | .type t => t == "dict" | _ => false) && o.dict.isNone && o.slots.isEmpty && (match o.data with | .dict es _ => entOk es.toList popsTab | _ => false)) = true from x4)
  obtain ⟨x4, x7⟩ := Bool.and_eq_true_iff.mp x4
  obtain ⟨x5, x6⟩ := Bool.and_eq_true_iff.mp x4
  have hcls : o.cls = .type "dict" := by
    split at x5
    · rename_i t ht; rw [ht, beq_iff_eq.mp x5]
    · cases x5
  split at x8
  · rename_i es ep hd
    have y3 : es.toList.map (·.hash) = popsTab.map fun x => PyData.keyHash w.params x.1 := by
      have : hashesOf (some o) = es.toList.map (·.hash) := by unfold hashesOf; simp only [hd]
      rw [← this]; exact y2
    obtain ⟨i1, cvs, i2, i3, i4⟩ := ents_ok (prog := prog) (w := w) (h := h) es.toList popsTab x8 y3
    refine ⟨cvs, ⟨o, es, ep, x3, ⟨hcls, Option.isNone_iff_eq_none.mp x6, Array.isEmpty_iff.mp x7⟩, hd, fun e he => i1 e (Array.mem_toList_iff.mpr he), i2, by rw [i3]; decide +kernel⟩, ?_⟩
    exact ⟨by rw [i3]; rfl, i4⟩
  · cases x8
end Mine

open PySem PySem.W PyProof.Rows
set_option Elab.async false
set_option maxRecDepth 100000
set_option maxHeartbeats 0
namespace Mine

theorem well_ints {P : Params} {h : Heap} : ∀ (ns : List Int) (vs : List Value), WellAll P h vs (ns.map .int) → VRs h (ns.map .int) vs
  | [], _, .nil => .nil
  | n :: ns, _, .cons (.int _ t) r => .cons (.int n t) (well_ints ns _ r)
theorem lit_int {h : Heap} {v : Value} {i : Int} {as : List Addr} (r : ReadsLit h v (.int i) as) : ∃ t, v = .int i t := by
  cases r; exact ⟨_, rfl⟩
theorem reads_int {h : Heap} {v : Value} {i : Int} {as : List Addr} (r : Reads h v (.int i) as) : ∃ t, v = .int i t := by
  cases r; exact ⟨_, rfl⟩
theorem frames_val : valOf QQ "MOST_FRAMES" = some (.int 60) := by kernel_rfl
theorem values_val : valOf QQ "MOST_VALUES" = some (.int 60) := by kernel_rfl

theorem bridge {l : OpenLaw} {d : DefRec} {kwd : List (Str × Expr)} (hm : ∀ xs : List WData, l.pre.holds [] { args := [.list xs] } = true → xs.length ≤ 63) (hn : d.name = "law") :
    WalkO QQ LO XM YM l.row.toRowW d kwd fun f vs => PySem.call f vs := by
  intro w s₀ s₁ mg mb G Y fa o pm cd doc dV kV ho hd hcd hD hmg hg args vals as hpre hlay hrd hwl hlo
  obtain ⟨hp1, hp2⟩ := pre_splitW hpre
  obtain ⟨x, r, rfl, hx, hr⟩ := hasAllW_cons hp1
  obtain rfl := hasAllW_nil hr
  obtain ⟨xs, rfl, hi⟩ := hasW_list hx
  obtain ⟨ns, rfl⟩ := items_int hi
  have hlen := hm _ hp2
  rw [List.length_map] at hlen
  cases hwl with
  | cons h1 h2 =>
  cases h2
  cases h1 with
  | @list a vs _ ha hvs =>
  have hcon : ∀ (k : Nat) (x : Str) (v : AV), consts[k]? = some (x, v) → ∃ cv, mg x = some cv ∧ VR s₁.heap v cv := by
    intro k x v h
    unfold consts at h
    match k, h with
    | 0, h =>
      cases h
      obtain ⟨cv, c1, c2⟩ := G.X.1.2.val _ (List.mem_singleton.mpr rfl)
      obtain ⟨t, rfl⟩ := lit_int c2
      exact ⟨_, c1, .int _ _⟩
    | 1, h =>
      cases h
      obtain ⟨cv, c1, c2⟩ := G.T.const _ _ frames_val
      obtain ⟨t, rfl⟩ := reads_int (c2 s₁.heap)
      exact ⟨_, c1, .int _ _⟩
    | 2, h =>
      cases h
      obtain ⟨cv, c1, c2⟩ := G.T.const _ _ values_val
      obtain ⟨t, rfl⟩ := reads_int (c2 s₁.heap)
      exact ⟨_, c1, .int _ _⟩
    | 3, h => cases h; exact ⟨_, G.X.2.1, .ref _⟩
    | k + 4, h => cases h
  obtain ⟨c, e1, e2, e3, e4, e5, e6⟩ := mkCx (prog := l.prog) (w := w) (s0 := s₁) G.T tab consts tabOk impOk hcon biOk tyOk isiOk
  have hc : Tab c := ⟨e5, e6⟩
  have V := well_ints ns vs hvs
  obtain ⟨cvs, hdict, hkv⟩ := pops_dict (prog := c.prog) (w := c.w) G.X (e2 ▸ Y)
  have ha40 : a ≠ 40 := fun q => by
    obtain ⟨_, _, o', x3, x4⟩ := G.X
    obtain ⟨ob, es, ep, ho', hex, _⟩ := hdict
    rw [q] at ha
    rw [ho'] at ha
    cases ha
    exact absurd hex.1 (by simp)
  let H : AH := fun x => if x = a then some (.list false (ns.map .int)) else if x = 40 then some (.sdict popsKv) else none
  have H40 : H 40 = some (.sdict popsKv) := by
    show (if (40 : Nat) = a then some (AObj.list false (ns.map .int)) else if (40 : Nat) = 40 then some (AObj.sdict popsKv) else none) = some (AObj.sdict popsKv)
    rw [if_neg (Ne.symm ha40), if_pos rfl]
  have R : Rel c H s₁ := by
    refine ⟨⟨s₁.heap, s₁.toks, by rw [e3]⟩, fun b o h => by rw [e3] at h; exact h, fun b ob h => ?_⟩
    by_cases hb : b = a
    · subst hb
      simp only [H, if_true, Option.some.injEq] at h
      subst h
      exact ⟨(fun q => nomatch q), vs.toArray, 0, ha, by simpa using V⟩
    · simp only [H, hb, if_false] at h
      by_cases h4 : b = 40
      · rw [if_pos h4] at h
        cases h
        subst h4
        exact ⟨by decide, cvs, hdict, hkv⟩
      · rw [if_neg h4] at h; cases h
  have key := law_ok (n := 11) (Q := fun v _ => v = .bool true) hc (a := a) (S := ns) (H := H) ⟨false, by simp [H], by omega⟩ H40 (fun _ => rfl)
  have rm : Rm 20 callerA := ⟨rfl, by decide, by decide⟩
  have k2 := key "law" fa callerA s₁ [.ref a] (fun e s' => GoodWG l.row.toRowW.claim (classAt s₀.heap) (ExcName.means s₀.heap) [.list (ns.map .int)] s₁ (.error e) s') (by rw [hc.fns]; rfl) (by rw [e4, ← hn]; exact hmg) rm R (.cons (.ref a) .nil)
  rw [show MM c = model l.prog w by unfold MM; rw [e1, e2]] at k2
  refine mono' k2 ?_
  rintro v s' ⟨av, H', R', _, V', rfl⟩
  cases V'
  obtain ⟨h', tk, rfl⟩ := R'.same
  refine GoodW.toG ⟨.inl ⟨.bool true, .bool true, [], rfl, fun cls => rfl, .bool true, by first | kernel_rfl | with_unfolding_all rfl, fun _ => ⟨by simp, by simp⟩⟩, fun b o h => R'.keep b o (by rw [e3]; exact h), ?_, ?_⟩
  · rw [e3]
  · rw [e3]; exact hg
end Mine

open PySem PySem.W PyProof.Rows
set_option Elab.async false
set_option maxRecDepth 100000
set_option maxHeartbeats 0
namespace Mine
theorem most63 : ∀ xs : List WData, PySem.Challenge.rw_uf010013_03.pre.holds [] { args := [.list xs] } = true → xs.length ≤ 63 := by
  intro xs h
  have e : PySem.Challenge.rw_uf010013_03.pre = .and (.not (.lt (.lit (.int (63 : Nat))) (.len (.arg 0)))) (.lit (.bool true)) := rfl
  rw [e] at h
  by_cases q : xs.length ≤ 63
  · exact q
  · exfalso
    have : (63 : Int) < xs.length := by omega
    have e2 : Num.less? (.int 63) (.int (xs.length : Int)) = some true := by simp [Num.less?, this]
    simp [WTm.holds, WTm.value, less?, e2] at h
end Mine
theorem PySem.Challenge.cw_uf010013_03_holds : PySem.Challenge.rw_uf010013_03.Holds := by
  refine holds_law (by decide +kernel) fun said => ?_
  refine holds_open (q := Mine.QQ) (loose := Mine.LO) (Xt := Mine.XT) (XP := Mine.XM) (Yf := Mine.YF) (Ya := Mine.YA) (YP := Mine.YM) (N := 3846) Mine.left Mine.ym_of Mine.ym_keeps
    Mine.xm_of Mine.xm_keeps (by rfl) (by rfl) (by rfl) (fun s e => recFacts_of (Bool.and_eq_true_iff.mp (Bool.and_eq_true_iff.mp e).1).2) (by rfl) said (by decide +kernel) ⟨rfl, rfl, rfl, rfl, rfl, by decide +kernel⟩ ?hw ?hc
  case hw => exact ⟨[.list []], by decide +kernel, by decide +kernel⟩
  case hc => exact Mine.bridge Mine.most63 rfl
