import PyProof.Rows.All
import PyProof.Cells
import PyProof.CompFree
import PyProof.DictKinds
import PyProof.RangeIter
import PyProof.NeKinds
import PyProof.TupleKey
import PyProof.DictRoadsH
import PyProof.Rows.StrRules
import PyProof.Rows.TupSub
import PyProof.Rows.StrTemp
import PyProof.Rows.RuleB_mod
import PyProof.Rows.RuleB_floordiv
import PyProof.Rows.RuleB_mul
import PyProof.Rows.Lst
import PyProof.ListOps
import PyProof.TupleOps
import PyProof.ListMulRoad
import PyProof.ListIndexNeg
import PyProof.SliceMore
import PyProof.SliceStr2
import PyProof.PureInt
import PyProof.DictIter
import PyProof.RangeFor
import PyProof.TupleIter
import PyProof.IsiHeapPairs
import PyProof.IsiPairs
import PyProof.IsiNone
import PyProof.ListCopy
import PyProof.ListRange
import PyProof.Rows.StrJoin2
import PyProof.Rows.Range3
import PyProof.DictWalks
import PyProof.CollectWalk
import PyProof.Rows.SortShell
import PyProof.DictUpdate
import PyProof.ListNew
import PyProof.AttrMissHeap
import PyProof.Rows.SortWalk
import PyProof.Rows.SortStr
import PyProof.MeetsSeq
import PyProof.Conv_int_bool
import PyProof.MakeMany
import PyProof.DictDisplay
import PyProof.Methods
import PyProof.CallRoads
import PyProof.RulesDelMore
import PyProof.RulesAssignMore
import PyProof.RulesMatch
import PyProof.WalksMore
import PyProof.Raises
import PyProof.CompUse
import PyProof.ForAny
import Wide.All
import Open.Line
import PySem.Challenge.RW_uf030022_04
set_option Elab.async false
set_option autoImplicit false
set_option maxRecDepth 100000
set_option maxHeartbeats 8000000
set_option linter.all false
set_option genSizeOf false
section
namespace Tw

/-! Abstract values, heap, syntax, and the weakest precondition over them. -/

inductive V where
  | none
  | bool (b : Bool)
  | int (i : Int)
  | str (s : List Nat)
  | tup (vs : List V)
  | rng (a b c : Int)
  | ref (n : Nat)

noncomputable instance : DecidableEq V := fun _ _ => Classical.propDecidable _

inductive MO where
  | list (vs : List V)
  | frz (vs : List V)
  | dict (es : List (V × V)) (ver : Nat)

abbrev H := List MO
abbrev Rho := Nat → Option V
abbrev SZ : Nat := 16777216

/-- Values seen through the heap: what `==` compares. -/
inductive D where
  | none
  | bool (b : Bool)
  | int (i : Int)
  | str (s : List Nat)
  | tup (vs : List D)
  | list (vs : List D)

noncomputable instance : DecidableEq D := fun _ _ => Classical.propDecidable _

/-- no bool within (True == 1 is not modelled here), and not too deep -/
noncomputable def D.ok : Nat → D → Bool
  | 0, _ => false
  | _ + 1, .bool _ => false
  | n + 1, .tup vs => vs.all (D.ok n)
  | n + 1, .list vs => vs.all (D.ok n)
  | _ + 1, _ => true

mutual
/-- what a value is, seen through the heap -/
inductive Snap (h : H) : V → D → Prop
  | none : Snap h .none .none
  | bool (b : Bool) : Snap h (.bool b) (.bool b)
  | int (i : Int) : Snap h (.int i) (.int i)
  | str (s : List Nat) : Snap h (.str s) (.str s)
  | tup {vs : List V} {ds : List D} : Snaps h vs ds → Snap h (.tup vs) (.tup ds)
  | list {n : Nat} {vs : List V} {ds : List D} : h[n]? = some (.list vs) → Snaps h vs ds → Snap h (.ref n) (.list ds)
inductive Snaps (h : H) : List V → List D → Prop
  | nil : Snaps h [] []
  | cons {v : V} {vs : List V} {d : D} {ds : List D} : Snap h v d → Snaps h vs ds → Snaps h (v :: vs) (d :: ds)
end

noncomputable def V.isAtom : V → Bool
  | .int _ => true
  | .str _ => true
  | _ => false
/-- what may be a dict's key here: an int, a str, a tuple of these -/
noncomputable def V.isKey : V → Bool
  | .int _ => true
  | .str _ => true
  | .tup vs => vs.all V.isAtom
  | _ => false

noncomputable def dget (es : List (V × V)) (k : V) : Option V := (es.find? fun e => decide (e.1 = k)).map (·.2)
noncomputable def dput (es : List (V × V)) (k v : V) : List (V × V) :=
  if (dget es k).isSome then es.map (fun e => if e.1 = k then (e.1, v) else e) else es ++ [(k, v)]
noncomputable def dputs (es : List (V × V)) : List (V × V) → List (V × V)
  | [] => es
  | (k, v) :: r => dputs (dput es k v) r

/-! order of Python for sorting -/
inductive Bop where | add | sub | mul | fdiv | mod
inductive Cmp where | eq | ne | lt | le | gt | ge | isIn | notIn | is | isNot
inductive Bi where | len | range | list | dict | sorted | int | min | max
inductive Ty where | int | bool | list | tuple | str
inductive Mt where | append | reverse | pop | dpop | clear | index | update | get | join | startswith

inductive Tgt where
  | name (i : Nat)
  | tup (is : List Nat)

inductive E where
  | lit (v : V)
  | var (i : Nat)
  | bin (op : Bop) (a b : E)
  | neg (a : E)
  | not (a : E)
  | and (a b : E)
  | or (a b : E)
  | cmp (op : Cmp) (a b : E)
  | cmp2 (op1 op2 : Cmp) (a b c : E)
  | sub (a i : E)
  | slice (a lo hi : E)
  | tup (es : List E)
  | list (es : List E)
  | dict0
  | dict1 (k v : E)
  | comp (elt : E) (tgt : Tgt) (iter : E) (cond : Option E)
  | call (f : Nat) (args : List E)
  | bi (b : Bi) (args : List E)
  | isinst (a : E) (t : Ty)
  | meth (m : Mt) (o : E) (args : List E)

inductive S where
  | assign (t : Tgt) (e : E)
  | store (o i e : E)
  | expr (e : E)
  | ite (t : E) (a b : List S)
  | while (t : E) (b : List S)
  | for (t : Tgt) (it : E) (b : List S)
  | ret (e : Option E)
  | raise

inductive Out where
  | next
  | ret (v : V)

structure Fn where
  arity : Nat
  body : List S

abbrev Ora := Nat → List V → H → (V → H → Prop) → Prop

noncomputable def upd (ρ : Rho) (i : Nat) (v : V) : Rho := fun j => if j = i then some v else ρ j
noncomputable def upds (ρ : Rho) : List Nat → List V → Rho
  | i :: is, v :: vs => upds (upd ρ i v) is vs
  | _, _ => ρ
/-! a value of a known kind -/
noncomputable def asInt (v : V) (k : Int → Prop) : Prop := match v with | .int i => k i | _ => False
noncomputable def asStr (v : V) (k : List Nat → Prop) : Prop := match v with | .str i => k i | _ => False
noncomputable def asTup (v : V) (k : List V → Prop) : Prop := match v with | .tup i => k i | _ => False
noncomputable def asRef (v : V) (k : Nat → Prop) : Prop := match v with | .ref i => k i | _ => False
noncomputable def asBool (v : V) (k : Bool → Prop) : Prop := match v with | .bool i => k i | _ => False
noncomputable def arg0 (vs : List V) (k : Prop) : Prop := match vs with | [] => k | _ => False
noncomputable def arg1 (vs : List V) (k : V → Prop) : Prop := match vs with | [v] => k v | _ => False

theorem asInt.inv {v : V} {k : Int → Prop} (h : asInt v k) : ∃ i, v = .int i ∧ k i := by cases v <;> first | exact ⟨_, rfl, h⟩ | exact h.elim
theorem asInt.mono {v : V} {k k' : Int → Prop} (m : ∀ i, k i → k' i) (h : asInt v k) : asInt v k' := by cases v <;> first | exact m _ h | exact h
theorem asStr.inv {v : V} {k : List Nat → Prop} (h : asStr v k) : ∃ i, v = .str i ∧ k i := by cases v <;> first | exact ⟨_, rfl, h⟩ | exact h.elim
theorem asStr.mono {v : V} {k k' : List Nat → Prop} (m : ∀ i, k i → k' i) (h : asStr v k) : asStr v k' := by cases v <;> first | exact m _ h | exact h
theorem asTup.mono {v : V} {k k' : List V → Prop} (m : ∀ i, k i → k' i) (h : asTup v k) : asTup v k' := by cases v <;> first | exact m _ h | exact h
theorem asRef.inv {v : V} {k : Nat → Prop} (h : asRef v k) : ∃ i, v = .ref i ∧ k i := by cases v <;> first | exact ⟨_, rfl, h⟩ | exact h.elim
theorem asRef.mono {v : V} {k k' : Nat → Prop} (m : ∀ i, k i → k' i) (h : asRef v k) : asRef v k' := by cases v <;> first | exact m _ h | exact h
theorem asBool.inv {v : V} {k : Bool → Prop} (h : asBool v k) : ∃ i, v = .bool i ∧ k i := by cases v <;> first | exact ⟨_, rfl, h⟩ | exact h.elim
theorem asBool.mono {v : V} {k k' : Bool → Prop} (m : ∀ i, k i → k' i) (h : asBool v k) : asBool v k' := by cases v <;> first | exact m _ h | exact h
theorem arg0.inv {vs : List V} {k : Prop} (h : arg0 vs k) : vs = [] ∧ k := by
  cases vs with
  | nil => exact ⟨rfl, h⟩
  | cons _ _ => exact h.elim
theorem arg0.mono {vs : List V} {k k' : Prop} (m : k → k') (h : arg0 vs k) : arg0 vs k' := by
  obtain ⟨rfl, h⟩ := h.inv; exact m h
theorem arg1.inv {vs : List V} {k : V → Prop} (h : arg1 vs k) : ∃ v, vs = [v] ∧ k v := by
  cases vs with
  | nil => exact h.elim
  | cons v r => cases r with
    | nil => exact ⟨v, rfl, h⟩
    | cons _ _ => exact h.elim
theorem arg1.mono {vs : List V} {k k' : V → Prop} (m : ∀ v, k v → k' v) (h : arg1 vs k) : arg1 vs k' := by
  obtain ⟨v, rfl, h⟩ := h.inv; exact m _ h

/-- a value that is there -/
noncomputable def vK (o : Option V) (k : V → Prop) : Prop := match o with | some v => k v | none => False
theorem vK.inv {o : Option V} {k : V → Prop} (h : vK o k) : ∃ v, o = some v ∧ k v := by cases o <;> first | exact ⟨_, rfl, h⟩ | exact h.elim
theorem vK.mono {o : Option V} {k k' : V → Prop} (m : ∀ v, k v → k' v) (h : vK o k) : vK o k' := by cases o <;> first | exact m _ h | exact h

noncomputable def bindT (t : Tgt) (v : V) (ρ : Rho) (Q : Rho → Prop) : Prop :=
  match t with
  | .name i => Q (upd ρ i v)
  | .tup is => asTup v fun vs => is.length = vs.length ∧ Q (upds ρ is vs)

/-! the operators -/
noncomputable def mulOk (a b : Int) : Prop := a.natAbs < 2 ^ 63 ∨ b.natAbs < 2 ^ 63

noncomputable def AddW (a b : V) (h : H) (Q : V → H → Prop) : Prop :=
  match a with
  | .int a => asInt b fun b => Q (.int (a + b)) h
  | .str a => asStr b fun b => a.length + b.length ≤ SZ ∧ Q (.str (a ++ b)) h
  | .ref m => asRef b fun n => ∃ a b, h[m]? = some (.list a) ∧ h[n]? = some (.list b) ∧ a.length + b.length ≤ SZ ∧ Q (.ref h.length) (h ++ [.list (a ++ b)])
  | _ => False
noncomputable def MulW (a b : V) (h : H) (Q : V → H → Prop) : Prop :=
  match a with
  | .int a => asInt b fun b => mulOk a b ∧ Q (.int (a * b)) h
  | _ => False
noncomputable def BinW (op : Bop) (a b : V) (h : H) (Q : V → H → Prop) : Prop :=
  match op with
  | .add => AddW a b h Q
  | .sub => asInt a fun a => asInt b fun b => Q (.int (a - b)) h
  | .mul => MulW a b h Q
  | .fdiv => asInt a fun a => asInt b fun b => b ≠ 0 ∧ b.natAbs < 1073741824 ∧ Q (.int (a.fdiv b)) h
  | .mod => asInt a fun a => asInt b fun b => b ≠ 0 ∧ Q (.int (a.fmod b)) h

noncomputable def truth (v : V) (_ : H) (Q : Bool → Prop) : Prop :=
  match v with
  | .none => Q false
  | .bool b => Q b
  | _ => False

noncomputable def EqG (a b : V) (h : H) (Q : Bool → Prop) : Prop := ∃ d₁ d₂, Snap h a d₁ ∧ Snap h b d₂ ∧ D.ok 9 d₁ = true ∧ D.ok 9 d₂ = true ∧ Q (decide (d₁ = d₂))
noncomputable def EqW (a b : V) (h : H) (Q : Bool → Prop) : Prop :=
  match a with
  | .bool a => asBool b fun b => Q (decide (a = b))
  | a => EqG a b h Q

noncomputable def InW (a b : V) (h : H) (Q : Bool → Prop) : Prop :=
  asRef b fun n => match h[n]? with
    | some (.list vs) => ∃ d ds, Snap h a d ∧ Snaps h vs ds ∧ D.ok 9 d = true ∧ (∀ d ∈ ds, D.ok 9 d = true) ∧ Q (decide (d ∈ ds))
    | some (.dict es _) => a.isKey = true ∧ Q (decide (a ∈ es.map (·.1)))
    | some (.frz _) => False
    | none => False

noncomputable def SameW (a b : V) (Q : Bool → Prop) : Prop :=
  match b with
  | .none => Q (decide (a = .none))
  | .bool c => asBool a fun d => Q (decide (d = c))
  | _ => False

noncomputable def CmpW (op : Cmp) (a b : V) (h : H) (Q : Bool → Prop) : Prop :=
  match op with
  | .eq => EqW a b h Q
  | .ne => EqW a b h (fun r => Q (!r))
  | .lt => asInt a fun a => asInt b fun b => Q (decide (a < b))
  | .le => asInt a fun a => asInt b fun b => Q (decide (a ≤ b))
  | .gt => asInt a fun a => asInt b fun b => Q (decide (b < a))
  | .ge => asInt a fun a => asInt b fun b => Q (decide (b ≤ a))
  | .isIn => InW a b h Q
  | .notIn => InW a b h (fun r => Q (!r))
  | .is => SameW a b Q
  | .isNot => SameW a b (fun r => Q (!r))

noncomputable def SubW (a i : V) (h : H) (Q : V → Prop) : Prop :=
  match a with
  | .tup vs => asInt i fun k => ∃ v, (0 ≤ k ∧ k < 2 ^ 62) ∧ vs[k.toNat]? = some v ∧ Q v
  | .str s => asInt i fun k => ∃ c, (0 ≤ k ∧ k < 2 ^ 62) ∧ s[k.toNat]? = some c ∧ Q (.str [c])
  | .ref n => match h[n]? with
    | some (.list vs) => asInt i fun k => (∃ v, (0 ≤ k ∧ k < 2 ^ 62) ∧ vs[k.toNat]? = some v ∧ Q v) ∨ (∃ v, k = -1 ∧ vs.getLast? = some v ∧ Q v)
    | some (.frz vs) => asInt i fun k => ∃ v, (0 ≤ k ∧ k < 2 ^ 62) ∧ vs[k.toNat]? = some v ∧ Q v
    | some (.dict es _) => i.isKey = true ∧ ∃ v, dget es i = some v ∧ Q v
    | none => False
  | _ => False

noncomputable def loOf : V → Option Nat
  | .none => some 0
  | .int k => if 0 ≤ k ∧ k < 2 ^ 62 then some k.toNat else none
  | _ => none
noncomputable def hiOf (n : Nat) : V → Option Nat
  | .none => some n
  | .int k => if 0 ≤ k ∧ k < 2 ^ 62 then some k.toNat else none
  | _ => none
noncomputable def SliceW (a lo hi : V) (h : H) (Q : V → H → Prop) : Prop :=
  match a with
  | .str s => ∃ i j, loOf lo = some i ∧ hiOf s.length hi = some j ∧ Q (.str ((s.take j).drop i)) h
  | .ref n => ∃ vs i j, (h[n]? = some (.list vs) ∨ h[n]? = some (.frz vs)) ∧ loOf lo = some i ∧ hiOf vs.length hi = some j ∧ Q (.ref h.length) (h ++ [.list ((vs.take j).drop i)])
  | _ => False

noncomputable def intsV (a c : Int) : Nat → List V
  | 0 => []
  | n + 1 => .int a :: intsV (a + c) c n
/-- the intsV of a range with a positive step -/
noncomputable def rangeLen (a b c : Int) : Nat := if a < b then ((b - a - 1) / c + 1).toNat else 0
noncomputable def rangeV (a b c : Int) : List V := intsV a c (rangeLen a b c)
noncomputable def smallI (a : Int) : Prop := -(2 ^ 31) ≤ a ∧ a < 2 ^ 31

noncomputable def LenW (v : V) (h : H) (Q : V → H → Prop) : Prop :=
  match v with
  | .str s => Q (.int s.length) h
  | .tup vs => Q (.int vs.length) h
  | .ref n => match h[n]? with
    | some (.list vs) => Q (.int vs.length) h
    | some (.frz vs) => Q (.int vs.length) h
    | some (.dict _ _) => False
    | none => False
  | _ => False
noncomputable def RangeW (vs : List V) (h : H) (Q : V → H → Prop) : Prop :=
  match vs with
  | [a] => asInt a fun b => smallI b ∧ Q (.rng 0 b 1) h
  | [a, b] => asInt a fun a => asInt b fun b => smallI a ∧ smallI b ∧ Q (.rng a b 1) h
  | [a, b, c] => asInt a fun a => asInt b fun b => asInt c fun c => smallI a ∧ smallI b ∧ smallI c ∧ 0 < c ∧ Q (.rng a b c) h
  | _ => False
noncomputable def ListW (v : V) (h : H) (Q : V → H → Prop) : Prop :=
  match v with
  | .ref n => match h[n]? with
    | some (.list vs) => vs.length ≤ SZ ∧ Q (.ref h.length) (h ++ [.list vs])
    | some (.frz _) => False
    | some (.dict es _) => Q (.ref h.length) (h ++ [.list (es.map (·.1))])
    | none => False
  | .rng a b c => rangeLen a b c ≤ SZ ∧ Q (.ref h.length) (h ++ [.list (rangeV a b c)])
  | _ => False
/-- what sorted goes through: a dict's keys, or a list -/
noncomputable def itemsAt (h : H) (n : Nat) (ks : List V) : Prop := (∃ es ver, h[n]? = some (.dict es ver) ∧ es.map (·.1) = ks) ∨ h[n]? = some (.list ks)
-- sorted(x): ints, strs, or pairs of ints
noncomputable def SortW (v : V) (h : H) (Q : V → H → Prop) : Prop :=
  asRef v fun n => ∃ vs, itemsAt h n vs ∧ vs.length < 64 ∧
    ((∃ ks, vs = List.map V.int ks ∧ ∀ ks' : List Int, ks'.Perm ks → Q (.ref h.length) (h ++ [.list (ks'.map V.int)])) ∨
     (∃ ks, vs = List.map V.str ks ∧ ∀ ks' : List (List Nat), ks'.Perm ks → ks'.Pairwise (fun a b => ¬ b < a) → Q (.ref h.length) (h ++ [.list (ks'.map V.str)])) ∨
     False)
/-- pairs that may be a dict's entries -/
noncomputable def pairsOf : List V → Option (List (V × V))
  | [] => some []
  | .tup [k, v] :: r => if k.isKey = true then (pairsOf r).map ((k, v) :: ·) else none
  | _ :: _ => none
noncomputable def DictW (v : V) (h : H) (Q : V → H → Prop) : Prop :=
  asRef v fun n => (∃ ks v ver, h[n]? = some (.dict [(.tup ks, v)] ver) ∧ ∀ ver, Q (.ref h.length) (h ++ [.dict [(.tup ks, v)] ver])) ∨
    (∃ vs ps, h[n]? = some (.list vs) ∧ pairsOf vs = some ps ∧ ∀ ver, Q (.ref h.length) (h ++ [.dict (dputs [] ps) ver]))
noncomputable def BiW (b : Bi) (vs : List V) (h : H) (Q : V → H → Prop) : Prop :=
  match b with
  | .len => arg1 vs fun v => LenW v h Q
  | .range => RangeW vs h Q
  | .list => arg1 vs fun v => ListW v h Q
  | .dict => arg1 vs fun v => DictW v h Q
  | .sorted => arg1 vs fun v => SortW v h Q
  | .int => arg1 vs fun v => asBool v fun b => Q (.int (if b then 1 else 0)) h
  | .min => False
  | .max => False

noncomputable def tyEq : Ty → Ty → Bool
  | .int, .int => true
  | .bool, .bool => true
  | .list, .list => true
  | .tuple, .tuple => true
  | .str, .str => true
  | _, _ => false
noncomputable def IsW (v : V) (t : Ty) (h : H) (Q : Bool → Prop) : Prop :=
  match v with
  | .none => Q false
  | .bool _ => Q (tyEq t .bool || tyEq t .int)
  | .int _ => Q (tyEq t .int)
  | .str _ => Q (tyEq t .str)
  | .tup _ => Q (tyEq t .tuple)
  | .rng .. => False
  | .ref n => match h[n]? with
    | some (.list _) => Q (tyEq t .list)
    | some (.dict _ _) => Q false
    | some (.frz _) => False
    | none => False

noncomputable def recvOk (m : Mt) (v : V) (h : H) : Prop :=
  match m with
  | .append => asRef v fun n => ∃ vs, h[n]? = some (.list vs)
  | .reverse => asRef v fun n => ∃ vs, h[n]? = some (.list vs)
  | .clear => asRef v fun n => ∃ vs, h[n]? = some (.list vs)
  | .index => asRef v fun n => ∃ vs, h[n]? = some (.list vs)
  | .pop => asRef v fun n => ∃ vs, h[n]? = some (.list vs)
  | .dpop => asRef v fun n => ∃ es ver, h[n]? = some (.dict es ver)
  | .update => asRef v fun n => ∃ es ver, h[n]? = some (.dict es ver)
  | .get => asRef v fun n => ∃ es ver, h[n]? = some (.dict es ver)
  | .join => asStr v fun _ => True
  | .startswith => asStr v fun _ => True

noncomputable def isStrs : List V → Option (List (List Nat))
  | [] => some []
  | .str s :: r => (isStrs r).map (s :: ·)
  | _ :: _ => none

noncomputable def joinS (sep : List Nat) : List (List Nat) → List Nat
  | [] => []
  | [x] => x
  | x :: y :: r => x ++ sep ++ joinS sep (y :: r)

noncomputable def MethW (m : Mt) (o : V) (args : List V) (h : H) (Q : V → H → Prop) : Prop :=
  match m with
  | .append => asRef o fun n => arg1 args fun v => ∃ vs, h[n]? = some (.list vs) ∧ vs.length < SZ ∧ Q .none (h.set n (.list (vs ++ [v])))
  | .reverse => asRef o fun n => arg0 args (∃ vs, h[n]? = some (.list vs) ∧ Q .none (h.set n (.list vs.reverse)))
  | .clear => False
  | .pop => False
  | .join => asStr o fun sep => arg1 args fun v => asRef v fun n => ∃ vs xs, h[n]? = some (.list vs) ∧ isStrs vs = some xs ∧ sep = [] ∧ (xs.map List.length).sum ≤ SZ ∧ Q (.str (joinS sep xs)) h
  | .dpop => False
  | .index => False
  | .update => asRef o fun n => arg1 args fun v => asRef v fun m => ∃ es ver es' ver', n ≠ m ∧ h[n]? = some (.dict es ver) ∧ h[m]? = some (.dict es' ver') ∧ es ≠ [] ∧ es.length + es'.length ≤ SZ ∧ ∀ ver, Q .none (h.set n (.dict (dputs es es') ver))
  | .get => False
  | .startswith => False

noncomputable def StoreW (o i v : V) (h : H) (Q : H → Prop) : Prop :=
  asRef o fun n => match h[n]? with
    | some (.list _) => False
    | some (.dict es _) => i.isKey = true ∧ es.length < SZ ∧ ∀ ver, Q (h.set n (.dict (dput es i v) ver))
    | some (.frz _) => False
    | none => False

/-! iteration -/
inductive It where
  | vals (vs : List V)
  | seq (n i : Nat)
  | keys (n ver len i : Nat)

noncomputable def IterW (v : V) (h : H) (Q : It → Prop) : Prop :=
  match v with
  | .tup vs => Q (.vals vs)
  | .rng a b c => Q (.vals (rangeV a b c))
  | .ref n => match h[n]? with
    | some (.list _) => Q (.seq n 0)
    | some (.frz _) => False
    | some (.dict es ver) => Q (.keys n ver es.length 0)
    | none => False
  | _ => False

/-- one step of an iterator: the end, or an item and the iterator behind it -/
noncomputable def NextW (it : It) (h : H) (stop : Prop) (item : V → It → Prop) : Prop :=
  match it with
  | .vals [] => stop
  | .vals (v :: vs) => item v (.vals vs)
  | .seq n i => match h[n]? with
    | some (.list vs) => match vs[i]? with
      | none => stop
      | some v => item v (.seq n (i + 1))
    | some (.frz _) => False
    | some (.dict _ _) => False
    | none => False
  | .keys n ver len i => match h[n]? with
    | some (.dict es ver') => ver' = ver ∧ es.length = len ∧ match es[i]? with
      | none => stop
      | some e => item e.1 (.keys n ver len (i + 1))
    | some (.frz _) => False
    | some (.list _) => False
    | none => False

noncomputable def forN (body : V → Rho → H → (Out → Rho → H → Prop) → Prop) : Nat → It → Rho → H → (Out → Rho → H → Prop) → Prop
  | 0, _, _, _, _ => False
  | f + 1, it, ρ, h, Q => NextW it h (Q .next ρ h) fun v it' =>
      body v ρ h fun o ρ' h' => match o with
        | .next => forN body f it' ρ' h' Q
        | .ret v => Q (.ret v) ρ' h'

noncomputable def whileN (test : Rho → H → (Bool → H → Prop) → Prop) (body : Rho → H → (Out → Rho → H → Prop) → Prop) : Nat → Rho → H → (Out → Rho → H → Prop) → Prop
  | 0, _, _, _ => False
  | f + 1, ρ, h, Q => test ρ h fun b h' => match b with
      | true => body ρ h' fun o ρ'' h'' => (match o with
        | .next => whileN test body f ρ'' h'' Q
        | .ret v => Q (.ret v) ρ'' h'')
      | false => Q .next ρ h'

/-- a comprehension: elt's values, gathered; `elt v h k`: binds v, tests, and hands on perhaps a value -/
noncomputable def compN (turn : V → H → (Option V → H → Prop) → Prop) : Nat → It → H → List V → (List V → H → Prop) → Prop
  | 0, _, _, _, _ => False
  | f + 1, it, h, out, Q => NextW it h (Q out h) fun v it' =>
      turn v h fun r h' => match r with
        | some x => out.length < SZ ∧ compN turn f it' h' (out ++ [x]) Q
        | none => compN turn f it' h' out Q

mutual
noncomputable def wpE (C : Ora) : E → Rho → H → (V → H → Prop) → Prop
  | .lit v, _, h, Q => Q v h
  | .var i, ρ, h, Q => vK (ρ i) fun v => Q v h
  | .bin op a b, ρ, h, Q => wpE C a ρ h fun va h₁ => wpE C b ρ h₁ fun vb h₂ => BinW op va vb h₂ Q
  | .neg a, ρ, h, Q => wpE C a ρ h fun v h₁ => asInt v fun i => Q (.int (-i)) h₁
  | .not a, ρ, h, Q => wpE C a ρ h fun v h₁ => truth v h₁ fun b => Q (.bool (!b)) h₁
  | .and a b, ρ, h, Q => wpE C a ρ h fun v h₁ => truth v h₁ fun t => match t with | true => wpE C b ρ h₁ Q | false => Q v h₁
  | .or a b, ρ, h, Q => wpE C a ρ h fun v h₁ => truth v h₁ fun t => match t with | true => Q v h₁ | false => wpE C b ρ h₁ Q
  | .cmp op a b, ρ, h, Q => wpE C a ρ h fun va h₁ => wpE C b ρ h₁ fun vb h₂ => CmpW op va vb h₂ fun r => Q (.bool r) h₂
  | .cmp2 op1 op2 a b c, ρ, h, Q => wpE C a ρ h fun va h₁ => wpE C b ρ h₁ fun vb h₂ => CmpW op1 va vb h₂ fun r => match r with
    | true => wpE C c ρ h₂ fun vc h₃ => CmpW op2 vb vc h₃ fun r => Q (.bool r) h₃
    | false => Q (.bool false) h₂
  | .sub a i, ρ, h, Q => wpE C a ρ h fun va h₁ => wpE C i ρ h₁ fun vi h₂ => SubW va vi h₂ fun v => Q v h₂
  | .slice a lo hi, ρ, h, Q => wpE C a ρ h fun va h₁ => wpE C lo ρ h₁ fun vl h₂ => wpE C hi ρ h₂ fun vh h₃ => SliceW va vl vh h₃ Q
  | .tup es, ρ, h, Q => wpEs C es ρ h fun vs h₁ => Q (.tup vs) h₁
  | .list es, ρ, h, Q => wpEs C es ρ h fun vs h₁ => Q (.ref h₁.length) (h₁ ++ [.list vs])
  | .dict0, _, h, Q => ∀ ver, Q (.ref h.length) (h ++ [.dict [] ver])
  | .dict1 k v, ρ, h, Q => wpE C k ρ h fun vk h₁ => wpE C v ρ h₁ fun vv h₂ => vk.isKey = true ∧ ∀ ver, Q (.ref h₂.length) (h₂ ++ [.dict [(vk, vv)] ver])
  | .comp elt tgt iter cond, ρ, h, Q => wpE C iter ρ h fun vi h₁ => IterW vi h₁ fun it => ∃ f,
      compN (fun v h k => bindT tgt v ρ fun ρ' => wpO C cond ρ' h fun b h₂ => match b with
        | true => wpE C elt ρ' h₂ fun x h₃ => k (some x) h₃
        | false => k none h₂) f it h₁ [] fun out h₂ => Q (.ref h₂.length) (h₂ ++ [.list out])
  | .call f args, ρ, h, Q => wpEs C args ρ h fun vs h₁ => C f vs h₁ Q
  | .bi b args, ρ, h, Q => wpEs C args ρ h fun vs h₁ => BiW b vs h₁ Q
  | .isinst a t, ρ, h, Q => wpE C a ρ h fun v h₁ => IsW v t h₁ fun r => Q (.bool r) h₁
  | .meth m o args, ρ, h, Q => wpE C o ρ h fun vo h₁ => recvOk m vo h₁ ∧ wpEs C args ρ h₁ fun vs h₂ => MethW m vo vs h₂ Q

noncomputable def wpEs (C : Ora) : List E → Rho → H → (List V → H → Prop) → Prop
  | [], _, h, Q => Q [] h
  | e :: es, ρ, h, Q => wpE C e ρ h fun v h₁ => wpEs C es ρ h₁ fun vs h₂ => Q (v :: vs) h₂

noncomputable def wpO (C : Ora) : Option E → Rho → H → (Bool → H → Prop) → Prop
  | none, _, h, Q => Q true h
  | some t, ρ, h, Q => wpT C t ρ h Q

noncomputable def wpT (C : Ora) : E → Rho → H → (Bool → H → Prop) → Prop
  | .not a, ρ, h, Q => wpT C a ρ h fun b h₁ => Q (!b) h₁
  | .and a b, ρ, h, Q => wpT C a ρ h fun t h₁ => match t with | true => wpT C b ρ h₁ Q | false => Q false h₁
  | .or a b, ρ, h, Q => wpT C a ρ h fun t h₁ => match t with | true => Q true h₁ | false => wpT C b ρ h₁ Q
  | .cmp op a b, ρ, h, Q => wpE C a ρ h fun va h₁ => wpE C b ρ h₁ fun vb h₂ => CmpW op va vb h₂ fun r => Q r h₂
  | .cmp2 op1 op2 a b c, ρ, h, Q => wpE C a ρ h fun va h₁ => wpE C b ρ h₁ fun vb h₂ => CmpW op1 va vb h₂ fun r => match r with
    | true => wpE C c ρ h₂ fun vc h₃ => CmpW op2 vb vc h₃ fun r => Q r h₃
    | false => Q false h₂
  | .lit v, _, h, Q => truth v h fun b => Q b h
  | .var i, ρ, h, Q => vK (ρ i) fun v => truth v h fun b => Q b h
  | .call f args, ρ, h, Q => wpEs C args ρ h fun vs h₁ => C f vs h₁ fun v h₂ => truth v h₂ fun b => Q b h₂
  | .isinst a t, ρ, h, Q => wpE C a ρ h fun v h₁ => IsW v t h₁ fun r => Q r h₁
  | .meth m o args, ρ, h, Q => wpE C o ρ h fun vo h₁ => recvOk m vo h₁ ∧ wpEs C args ρ h₁ fun vs h₂ => MethW m vo vs h₂ fun v h₃ => truth v h₃ fun b => Q b h₃
  | _, _, _, _ => False
end

mutual
noncomputable def wpS (C : Ora) : S → Rho → H → (Out → Rho → H → Prop) → Prop
  | .assign t e, ρ, h, Q => wpE C e ρ h fun v h₁ => bindT t v ρ fun ρ' => Q .next ρ' h₁
  | .store o i e, ρ, h, Q => wpE C e ρ h fun v h₁ => wpE C o ρ h₁ fun vo h₂ => wpE C i ρ h₂ fun vi h₃ => StoreW vo vi v h₃ fun h₄ => Q .next ρ h₄
  | .expr e, ρ, h, Q => wpE C e ρ h fun _ h₁ => Q .next ρ h₁
  | .ite t a b, ρ, h, Q => wpT C t ρ h fun c h₁ => match c with | true => wpB C a ρ h₁ Q | false => wpB C b ρ h₁ Q
  | .while t b, ρ, h, Q => ∃ f, whileN (fun ρ h k => wpT C t ρ h k) (fun ρ h k => wpB C b ρ h k) f ρ h Q
  | .for t it b, ρ, h, Q => wpE C it ρ h fun v h₁ => IterW v h₁ fun i => ∃ f,
      forN (fun v ρ h k => bindT t v ρ fun ρ' => wpB C b ρ' h k) f i ρ h₁ Q
  | .ret none, ρ, h, Q => Q (.ret .none) ρ h
  | .ret (some e), ρ, h, Q => wpE C e ρ h fun v h₁ => Q (.ret v) ρ h₁
  | .raise, _, _, _ => False

noncomputable def wpB (C : Ora) : List S → Rho → H → (Out → Rho → H → Prop) → Prop
  | [], ρ, h, Q => Q .next ρ h
  | s :: r, ρ, h, Q => wpS C s ρ h fun o ρ' h' => match o with
    | .next => wpB C r ρ' h' Q
    | .ret v => Q (.ret v) ρ' h'
end

noncomputable def argsR (vs : List V) : Rho := fun i => vs[i]?
noncomputable def Out.val : Out → V
  | .next => .none
  | .ret v => v

/-- calls, of depth d at most -/
noncomputable def Calls (Φ : Nat → Option Fn) : Nat → Ora
  | 0 => fun _ _ _ _ => False
  | d + 1 => fun f vs h Q => ∃ fn, Φ f = some fn ∧ fn.arity = vs.length ∧ wpB (Calls Φ d) fn.body (argsR vs) h fun o _ h' => Q o.val h'

end Tw
end

section
namespace Tw
open PySem

theorem SZ_eq : SZ = sizeLine := rfl

/-- the objects that nothing changes: tuples and ranges -/
noncomputable def isImm (o : Obj) : Prop := (o.cls = .type "tuple" ∧ ∃ xs n, o.data = .seq xs n) ∨ (o.cls = .type "range" ∧ ∃ vs, o.data = .fields vs)
noncomputable def Imm (h h' : Heap) : Prop := ∀ b o, h.get? b = some o → isImm o → h'.get? b = some o
theorem Imm.refl (h : Heap) : Imm h h := fun _ _ e _ => e
theorem Imm.trans {h₁ h₂ h₃ : Heap} (x : Imm h₁ h₂) (y : Imm h₂ h₃) : Imm h₁ h₃ := fun b o e c => y b o (x b o e c) c
theorem Imm.of_ext {h h' : Heap} (x : ∀ b o, h.get? b = some o → h'.get? b = some o) : Imm h h' := fun b o e _ => x b o e
theorem Imm.of_but {h h' : Heap} {a : Addr} (x : Heap.ExtBut a h h') (hn : ∀ o, h.get? a = some o → ¬ isImm o) : Imm h h' :=
  fun b o e c => by
    by_cases hb : b = a
    · subst hb; exact absurd c (hn o e)
    · exact x b o hb e
theorem notImm_dict {o : Obj} {es ep} (h : o.data = .dict es ep) : ¬ isImm o := by
  rintro (⟨_, _, _, e⟩ | ⟨_, _, e⟩) <;> rw [h] at e <;> cases e
theorem notImm_cell {o : Obj} {v} (h : o.data = .cell v) : ¬ isImm o := by
  rintro (⟨_, _, _, e⟩ | ⟨_, _, e⟩) <;> rw [h] at e <;> cases e
theorem notImm_list {o : Obj} (h : o.cls = .type "list") : ¬ isImm o := by
  rintro (⟨e, _⟩ | ⟨e, _⟩) <;> rw [h] at e <;> injection e with e <;> exact absurd e (by decide)
theorem notImm_fields {o : Obj} {vs} {T : String} (h : o.data = .fields vs) (hc : o.cls = .type T) (hT : T ≠ "range") : ¬ isImm o := by
  rintro (⟨_, _, _, e⟩ | ⟨e, _⟩)
  · rw [h] at e; cases e
  · rw [hc] at e; injection e with e; exact hT e

mutual
inductive RepV (ι : List Addr) (h : Heap) : Value → V → Prop
  | none : RepV ι h .none .none
  | bool (b : Bool) : RepV ι h (.bool b) (.bool b)
  | int (i : Int) (t : Tok) : RepV ι h (.int i t) (.int i)
  | str (x : Str) (t : Tok) : x.length ≤ SZ → RepV ι h (.str x t) (.str x.cps.toList)
  | tup {a : Addr} {n : Nat} {vals : Array Value} {vs : List V} : h.get? a = some { cls := .type "tuple", data := .seq vals n } → vals.size ≤ SZ →
      RepVs ι h vals.toList vs → RepV ι h (.ref a) (.tup vs)
  | rng {a : Addr} {x y z : Int} {t u v : Tok} : IsRange h a x y z t u v → (smallI x ∧ smallI y ∧ smallI z ∧ 0 < z) → RepV ι h (.ref a) (.rng x y z)
  | ref {a : Addr} {n : Nat} : ι[n]? = some a → RepV ι h (.ref a) (.ref n)
inductive RepVs (ι : List Addr) (h : Heap) : List Value → List V → Prop
  | nil : RepVs ι h [] []
  | cons {x : Value} {xs : List Value} {v : V} {vs : List V} : RepV ι h x v → RepVs ι h xs vs → RepVs ι h (x :: xs) (v :: vs)
end

theorem RepV.mono {ι ι' : List Addr} {h h' : Heap} (hi : ι <+: ι') (hm : Imm h h') {x : Value} {v : V} (r : RepV ι h x v) : RepV ι' h' x v :=
  RepV.rec (motive_1 := fun x v _ => RepV ι' h' x v) (motive_2 := fun xs vs _ => RepVs ι' h' xs vs) .none .bool .int (fun x t z => .str x t z) (fun g z _ ih => .tup (hm _ _ g (.inl ⟨rfl, _, _, rfl⟩)) z ih)
    (fun g z => .rng (hm _ _ g (.inr ⟨rfl, _, rfl⟩)) z) (fun g => .ref (by
      obtain ⟨t, rfl⟩ := hi
      rw [List.getElem?_append_left (List.getElem?_eq_some_iff.mp g).1]; exact g)) .nil (fun _ _ a b => .cons a b) r
theorem RepVs.mono {ι ι' : List Addr} {h h' : Heap} (hi : ι <+: ι') (hm : Imm h h') {xs : List Value} {vs : List V} (r : RepVs ι h xs vs) : RepVs ι' h' xs vs :=
  RepVs.rec (motive_1 := fun _ _ _ => True) (motive_2 := fun xs vs _ => RepVs ι' h' xs vs) trivial (fun _ => trivial) (fun _ _ => trivial) (fun _ _ _ => trivial) (fun _ _ _ _ => trivial) (fun _ _ => trivial) (fun _ => trivial)
    .nil (fun g _ _ ih => .cons (g.mono hi hm) ih) r

section
variable {ι : List Addr} {h : Heap}
theorem RepVs.length {xs : List Value} {vs : List V} (r : RepVs ι h xs vs) : xs.length = vs.length := by
  induction xs generalizing vs with
  | nil => cases r; rfl
  | cons x xs ih => cases r with | cons _ r => simp [ih r]
theorem RepVs.append {xs ys : List Value} {vs ws : List V} (r : RepVs ι h xs vs) (q : RepVs ι h ys ws) : RepVs ι h (xs ++ ys) (vs ++ ws) := by
  induction xs generalizing vs with
  | nil => cases r; exact q
  | cons x xs ih => cases r with | cons g r => exact .cons g (ih r)
theorem RepVs.reverse {xs : List Value} {vs : List V} (r : RepVs ι h xs vs) : RepVs ι h xs.reverse vs.reverse := by
  induction xs generalizing vs with
  | nil => cases r; exact .nil
  | cons x xs ih => cases r with | cons g r => simpa using (ih r).append (.cons g .nil)
theorem RepVs.get {xs : List Value} {vs : List V} (r : RepVs ι h xs vs) {k : Nat} {v : V} (e : vs[k]? = some v) : ∃ x, xs[k]? = some x ∧ RepV ι h x v := by
  induction xs generalizing vs k with
  | nil => cases r; simp at e
  | cons x xs ih =>
    cases r with
    | cons g r =>
      cases k with
      | zero => simp at e; subst e; exact ⟨x, rfl, g⟩
      | succ k => simpa using ih r (by simpa using e)
theorem RepVs.get' {xs : List Value} {vs : List V} (r : RepVs ι h xs vs) {k : Nat} {x : Value} (e : xs[k]? = some x) : ∃ v, vs[k]? = some v ∧ RepV ι h x v := by
  induction xs generalizing vs k with
  | nil => simp at e
  | cons y xs ih =>
    cases r with
    | cons g r =>
      cases k with
      | zero => simp at e; subst e; exact ⟨_, rfl, g⟩
      | succ k => simpa using ih r (by simpa using e)
theorem RepVs.take {xs : List Value} {vs : List V} (r : RepVs ι h xs vs) (k : Nat) : RepVs ι h (xs.take k) (vs.take k) := by
  induction xs generalizing vs k with
  | nil => cases r; simpa using RepVs.nil
  | cons x xs ih =>
    cases r with
    | cons g r =>
      cases k with
      | zero => simpa using RepVs.nil
      | succ k => simpa using RepVs.cons g (ih r k)
theorem RepVs.drop {xs : List Value} {vs : List V} (r : RepVs ι h xs vs) (k : Nat) : RepVs ι h (xs.drop k) (vs.drop k) := by
  induction xs generalizing vs k with
  | nil => cases r; simpa using RepVs.nil
  | cons x xs ih =>
    cases r with
    | cons g r =>
      cases k with
      | zero => simpa using RepVs.cons g r
      | succ k => simpa using ih r k
theorem RepV.strInv {x : Value} {s : List Nat} (r : RepV ι h x (.str s)) : ∃ y t, x = .str y t ∧ y.cps.toList = s ∧ y.length ≤ SZ := by
  cases r with | str y t z => exact ⟨y, t, rfl, rfl, z⟩
theorem RepV.noneI {x : Value} (r : RepV ι h x .none) : x = .none := by cases r; rfl
theorem RepV.boolI {x : Value} {b : Bool} (r : RepV ι h x (.bool b)) : x = .bool b := by cases r; rfl
theorem RepV.intI {x : Value} {i : Int} (r : RepV ι h x (.int i)) : ∃ t, x = .int i t := by cases r; exact ⟨_, rfl⟩
theorem RepV.tupI {x : Value} {vs : List V} (r : RepV ι h x (.tup vs)) : ∃ a n vals, x = .ref a ∧ h.get? a = some { cls := .type "tuple", data := .seq vals n } ∧ vals.size ≤ SZ ∧ RepVs ι h vals.toList vs := by
  cases r with | tup g z r => exact ⟨_, _, _, rfl, g, z, r⟩
theorem RepV.rngI {v : Value} {x y z : Int} (r : RepV ι h v (.rng x y z)) : ∃ a t u w, v = .ref a ∧ IsRange h a x y z t u w ∧ smallI x ∧ smallI y ∧ smallI z ∧ 0 < z := by
  cases r with | rng g z => exact ⟨_, _, _, _, rfl, g, z⟩
theorem RepV.refI {x : Value} {n : Nat} (r : RepV ι h x (.ref n)) : ∃ a, x = .ref a ∧ ι[n]? = some a := by
  cases r with | ref g => exact ⟨_, rfl, g⟩
theorem RepVs.nilI {xs : List Value} (r : RepVs ι h xs []) : xs = [] := by cases r; rfl
theorem RepVs.consI {xs : List Value} {v : V} {vs : List V} (r : RepVs ι h xs (v :: vs)) : ∃ x ys, xs = x :: ys ∧ RepV ι h x v ∧ RepVs ι h ys vs := by
  cases r with | cons g r => exact ⟨_, _, rfl, g, r⟩
theorem RepVs.oneI {xs : List Value} {v : V} (r : RepVs ι h xs [v]) : ∃ x, xs = [x] ∧ RepV ι h x v := by
  obtain ⟨x, ys, rfl, g, r⟩ := r.consI
  exact ⟨x, by rw [r.nilI], g⟩
theorem RepV.strOf {y : Str} {t : Tok} {s : List Nat} (e : y.cps.toList = s) (z : y.length ≤ SZ) : RepV ι h (.str y t) (.str s) := e ▸ .str y t z
end

/-- the model's hash of a key -/
noncomputable def hashA (w : World) : V → Int
  | .int i => hashInt i
  | .str s => hashStr w ⟨s.toArray⟩
  | _ => 0
noncomputable def hashK (w : World) : V → Int
  | .tup vs => reduceHash (Builtin.Tuple.tupleHashOf (vs.map (hashA w)))
  | v => hashA w v

inductive RepEs (w : World) (ι : List Addr) (h : Heap) : List DictEntry → List (V × V) → Prop
  | nil : RepEs w ι h [] []
  | cons {e : DictEntry} {es : List DictEntry} {k v : V} {r : List (V × V)} : e.hash = hashK w k → RepV ι h e.key k → RepV ι h e.val v → k.isKey = true → RepEs w ι h es r → RepEs w ι h (e :: es) ((k, v) :: r)

theorem RepEs.mono {w : World} {ι ι' : List Addr} {h h' : Heap} (hi : ι <+: ι') (hm : Imm h h') {es : List DictEntry} {r : List (V × V)} (x : RepEs w ι h es r) : RepEs w ι' h' es r := by
  induction x with
  | nil => exact .nil
  | cons a b c d _ ih => exact .cons a (b.mono hi hm) (c.mono hi hm) d ih

noncomputable def RepO (w : World) (ι : List Addr) (h : Heap) (a : Addr) : MO → Prop
  | .list vs => ∃ vals n, h.get? a = some { cls := .type "list", data := .seq vals n } ∧ RepVs ι h vals.toList vs ∧ vs.length ≤ SZ
  | .frz vs => ∃ vals, h.IsList a vals ∧ RepVs ι h vals.toList vs ∧ vs.length ≤ SZ
  | .dict es n => ∃ ents, h.get? a = some { cls := .type "dict", data := .dict ents n } ∧ RepEs w ι h ents.toList es ∧ (es.map (·.1)).Nodup ∧ es.length ≤ SZ

theorem RepO.mono {w : World} {ι ι' : List Addr} {h h' : Heap} {a : Addr} {o : MO} (hi : ι <+: ι') (hm : Imm h h') (ha : ∀ o, h.get? a = some o → h'.get? a = some o) (x : RepO w ι h a o) : RepO w ι' h' a o := by
  cases o with
  | list vs => obtain ⟨vals, n, g, r, z⟩ := x; exact ⟨vals, n, ha _ g, r.mono hi hm, z⟩
  | frz vs => obtain ⟨vals, ⟨o, g, c⟩, r, z⟩ := x; exact ⟨vals, ⟨o, ha _ g, c⟩, r.mono hi hm, z⟩
  | dict es n => obtain ⟨ents, g, r, z⟩ := x; exact ⟨ents, ha _ g, r.mono hi hm, z⟩
theorem RepO.get {w : World} {ι : List Addr} {h : Heap} {a : Addr} {o : MO} (x : RepO w ι h a o) : ∃ ob, h.get? a = some ob ∧ ¬ isImm ob := by
  cases o with
  | list vs => obtain ⟨vals, n, g, r, z⟩ := x; exact ⟨_, g, notImm_list rfl⟩
  | frz vs => obtain ⟨vals, ⟨o, g, c, _⟩, r, z⟩ := x; exact ⟨_, g, notImm_list c⟩
  | dict es n => obtain ⟨ents, g, r, z⟩ := x; exact ⟨_, g, notImm_dict rfl⟩

/-- the frame at hand: its environment, its names' slots, what must stay -/
structure Cx where
  w : World
  env : Env
  nm : Str → Option Nat
  st : Str → Bool
  P : Addr → Obj → Prop
  s0 : Shared
  scr : Addr

noncomputable def VarAt (env : Env) (h : Heap) (x : Str) (val : Value) : Prop :=
  (env.kindOf x = some .local ∧ ∃ m, h.Ns env.locals m ∧ m x = some val) ∨
  ((env.kindOf x = some .cell ∨ env.kindOf x = some .free) ∧ ∃ c, env.cells.lookup x = some c ∧ h.IsCell c (some val))

structure CxOk (cx : Cx) : Prop where
  fn : cx.env.scope.kind = .function
  gl : cx.env.globals = mainGlobals
  bl : cx.env.builtins = builtinsNs
  inj : ∀ x y i, cx.nm x = some i → cx.nm y = some i → x = y
  kinds : ∀ x i, cx.nm x = some i → cx.env.kindOf x = some .local ∨ ((cx.env.kindOf x = some .cell ∨ cx.env.kindOf x = some .free) ∧ ∃ c, cx.env.cells.lookup x = some c)
  plain : ∀ x i, cx.nm x = some i → (x == ("__debug__" : Str)) = false ∧ (x == ("__classdict__" : Str)) = false
  cinj : ∀ x y c, cx.env.cells.lookup x = some c → cx.env.cells.lookup y = some c → x = y
  own : ∀ x c o, cx.st x = true → cx.env.kindOf x = some .cell → cx.env.cells.lookup x = some c → ¬ cx.P c o
  loc : ∀ o, ¬ cx.P cx.env.locals o
  base : ∀ a o, cx.s0.heap.get? a = some o → a ≠ cx.scr → cx.P a o
  lowL : sysModules < cx.env.locals

structure St (cx : Cx) (ι : List Addr) (ρ : Rho) (H : H) (s : Shared) : Prop where
  same : ∃ h tk, s = { cx.s0 with heap := h, toks := tk }
  len : ι.length = H.length
  nodup : ι.Nodup
  objs : ∀ (n : Nat) (a : Addr) (o : MO), ι[n]? = some a → H[n]? = some o → RepO cx.w ι s.heap a o
  low : ∀ a ∈ ι, a ≠ sysModules
  scr : ∀ o, cx.s0.heap.get? cx.scr = some o → s.heap.get? cx.scr = some o
  scrI : ∀ (n : Nat), ι[n]? = some cx.scr → ∃ vs, H[n]? = some (.frz vs)
  scrIn : cx.scr ∈ ι
  prot : ∀ a o, cx.P a o → s.heap.get? a = some o
  protI : ∀ a o, cx.P a o → a ∉ ι
  ns : ∃ m, s.heap.Ns cx.env.locals m
  nsI : cx.env.locals ∉ ι
  cells : ∀ x c, cx.env.cells.lookup x = some c → (∃ ov, s.heap.IsCell c ov) ∧ c ∉ ι ∧ c ≠ cx.env.locals
  vars : ∀ x i v, cx.nm x = some i → ρ i = some v → ∃ val, VarAt cx.env s.heap x val ∧ RepV ι s.heap val v

/-- the state went on: abstract refs only grow, tuples stay -/
structure Mono (ι : List Addr) (s : Shared) (ι' : List Addr) (s' : Shared) : Prop where
  pre : ι <+: ι'
  imm : Imm s.heap s'.heap
theorem Mono.refl (ι : List Addr) (s : Shared) : Mono ι s ι s := ⟨List.prefix_refl _, .refl _⟩
theorem Mono.trans {ι ι' ι'' : List Addr} {s s' s'' : Shared} (x : Mono ι s ι' s') (y : Mono ι' s' ι'' s'') : Mono ι s ι'' s'' := ⟨x.pre.trans y.pre, x.imm.trans y.imm⟩
theorem Mono.rep {ι ι' : List Addr} {s s' : Shared} (x : Mono ι s ι' s') {v : Value} {d : V} (r : RepV ι s.heap v d) : RepV ι' s'.heap v d := r.mono x.pre x.imm
theorem Mono.reps {ι ι' : List Addr} {s s' : Shared} (x : Mono ι s ι' s') {v : List Value} {d : List V} (r : RepVs ι s.heap v d) : RepVs ι' s'.heap v d := r.mono x.pre x.imm

section
variable {cx : Cx} {ι : List Addr} {ρ : Rho} {H : H} {s : Shared}

theorem IsCell.obj {h : Heap} {c : Addr} {v : Option Value} (x : h.IsCell c v) : ∃ o, h.get? c = some o := let ⟨o, g, _⟩ := x; ⟨o, g⟩
theorem Ns.obj {h : Heap} {a : Addr} {m} (x : h.Ns a m) : ∃ o, h.get? a = some o := let ⟨o, _, _, g, _⟩ := x; ⟨o, g⟩

theorem VarAt.keeps {env : Env} {h h' : Heap} {x : Str} {val : Value} (v : VarAt env h x val) (hk : ∀ b o, h.get? b = some o → h'.get? b = some o) : VarAt env h' x val := by
  rcases v with ⟨k, m, n, e⟩ | ⟨k, c, l, i⟩
  · exact .inl ⟨k, m, n.keeps hk, e⟩
  · exact .inr ⟨k, c, l, i.keeps hk⟩

/-- only new objects, only new tokens -/
theorem St.ext (S : St cx ι ρ H s) {h' : Heap} (tk : Nat) (hk : ∀ b o, s.heap.get? b = some o → h'.get? b = some o) : St cx ι ρ H { s with heap := h', toks := tk } where
  same := by obtain ⟨h, t, rfl⟩ := S.same; exact ⟨h', tk, rfl⟩
  len := S.len
  nodup := S.nodup
  objs := fun n a o hn ho => (S.objs n a o hn ho).mono (List.prefix_refl _) (.of_ext hk) (hk _)
  low := S.low
  scr := fun o e => hk _ _ (S.scr o e)
  scrI := S.scrI
  scrIn := S.scrIn
  prot := fun a o p => hk _ _ (S.prot a o p)
  protI := S.protI
  ns := let ⟨m, n⟩ := S.ns; ⟨m, n.keeps hk⟩
  nsI := S.nsI
  cells := fun x c l => let ⟨⟨ov, i⟩, r⟩ := S.cells x c l; ⟨⟨ov, i.keeps hk⟩, r⟩
  vars := fun x i v hx hv => let ⟨val, a, r⟩ := S.vars x i v hx hv; ⟨val, a.keeps hk, r.mono (List.prefix_refl _) (.of_ext hk)⟩
theorem St.toks (S : St cx ι ρ H s) (tk : Nat) : St cx ι ρ H { s with toks := tk } := S.ext tk fun _ _ e => e
theorem St.push (S : St cx ι ρ H s) (o : Obj) (tk : Nat) : St cx ι ρ H { s with heap := s.heap.push o, toks := tk } := S.ext tk fun _ _ e => Heap.get?_push_of_some _ e
theorem Mono.ext {ι : List Addr} {s : Shared} {h' : Heap} {tk : Nat} (hk : ∀ b o, s.heap.get? b = some o → h'.get? b = some o) : Mono ι s ι { s with heap := h', toks := tk } := ⟨List.prefix_refl _, .of_ext hk⟩

/-- a new mutable object joins the abstract heap -/
theorem St.alloc (S : St cx ι ρ H s) {a : Addr} {o : MO} (hr : RepO cx.w ι s.heap a o) (ha : a ∉ ι) (hlow : a ≠ sysModules) (hP : ∀ ob, ¬ cx.P a ob) (hL : a ≠ cx.env.locals)
    (hc : ∀ x c, cx.env.cells.lookup x = some c → c ≠ a) : St cx (ι ++ [a]) ρ (H ++ [o]) s where
  same := S.same
  len := by simp [S.len]
  nodup := by
    rw [List.nodup_append]
    refine ⟨S.nodup, by simp, fun x hx y hy => ?_⟩
    simp at hy; subst hy; rintro rfl; exact ha hx
  objs := fun n b ob hn ho => by
    by_cases hlt : n < ι.length
    · rw [List.getElem?_append_left hlt] at hn
      rw [List.getElem?_append_left (S.len ▸ hlt)] at ho
      exact (S.objs n b ob hn ho).mono (List.prefix_append _ _) (.refl _) fun _ e => e
    · have hn' := (List.getElem?_eq_some_iff.mp hn).1
      simp at hn'
      have : n = ι.length := by omega
      subst this
      rw [List.getElem?_append_right (Nat.le_refl _)] at hn
      rw [S.len, List.getElem?_append_right (Nat.le_refl _)] at ho
      simp at hn ho
      subst hn; subst ho
      exact hr.mono (List.prefix_append _ _) (.refl _) fun _ e => e
  low := fun b hb => by
    rcases List.mem_append.mp hb with hb | hb
    · exact S.low b hb
    · simp at hb; subst hb; exact hlow
  scr := S.scr
  scrI := fun n hn => by
    by_cases hlt : n < ι.length
    · rw [List.getElem?_append_left hlt] at hn
      rw [List.getElem?_append_left (S.len ▸ hlt)]
      exact S.scrI n hn
    · exfalso
      rw [List.getElem?_append_right (Nat.le_of_not_lt hlt)] at hn
      have hm := List.mem_of_getElem? hn
      simp at hm
      exact ha (hm ▸ S.scrIn)
  scrIn := List.mem_append_left _ S.scrIn
  prot := S.prot
  protI := fun b ob p hb => by
    rcases List.mem_append.mp hb with hb | hb
    · exact S.protI b ob p hb
    · simp at hb; subst hb; exact hP ob p
  ns := S.ns
  nsI := fun hb => by
    rcases List.mem_append.mp hb with hb | hb
    · exact S.nsI hb
    · simp at hb; exact hL hb.symm
  cells := fun x c l => by
    obtain ⟨i, h1, h2⟩ := S.cells x c l
    refine ⟨i, fun hb => ?_, h2⟩
    rcases List.mem_append.mp hb with hb | hb
    · exact h1 hb
    · simp at hb; exact hc x c l hb
  vars := fun x i v hx hv => let ⟨val, a, r⟩ := S.vars x i v hx hv; ⟨val, a, r.mono (List.prefix_append _ _) (.refl _)⟩

/-- addresses that hold nothing yet are apart from all that is tracked -/
theorem St.fresh (S : St cx ι ρ H s) (ok : CxOk cx) {a : Addr} (ha : s.heap.objs.size ≤ a) : a ∉ ι ∧ a ≠ sysModules ∧ (∀ ob, ¬ cx.P a ob) ∧ a ≠ cx.env.locals ∧ (∀ x c, cx.env.cells.lookup x = some c → c ≠ a) := by
  have none : ∀ o, s.heap.get? a = some o → False := fun o e => absurd (Heap.lt_size e) (Nat.not_lt.mpr ha)
  refine ⟨fun hm => ?_, ?_, fun ob p => none _ (S.prot _ _ p), fun e => ?_, fun x c l e => ?_⟩
  · obtain ⟨n, hn⟩ := List.mem_iff_getElem?.mp hm
    have hlt : n < H.length := S.len ▸ (List.getElem?_eq_some_iff.mp hn).1
    obtain ⟨ob, g, _⟩ := (S.objs n a _ hn (List.getElem?_eq_getElem hlt)).get
    exact none _ g
  · obtain ⟨m, hn⟩ := S.ns
    exact Nat.ne_of_gt (Nat.lt_of_lt_of_le (Nat.lt_trans ok.lowL hn.lt) ha)
  · obtain ⟨m, hn⟩ := S.ns
    obtain ⟨o, g⟩ := Ns.obj hn
    exact none o (e ▸ g)
  · obtain ⟨⟨ov, i⟩, _⟩ := S.cells x c l
    obtain ⟨o, g⟩ := IsCell.obj i
    exact none o (e ▸ g)
end
end Tw
end

section
namespace Tw
open PySem

section
variable {cx : Cx} {ι : List Addr} {ρ : Rho} {H : H} {s : Shared}

theorem St.obj (S : St cx ι ρ H s) {n : Nat} {a : Addr} (ha : ι[n]? = some a) : ∃ o, H[n]? = some o ∧ RepO cx.w ι s.heap a o := by
  have hlt : n < H.length := S.len ▸ (List.getElem?_eq_some_iff.mp ha).1
  exact ⟨_, List.getElem?_eq_getElem hlt, S.objs n a _ ha (List.getElem?_eq_getElem hlt)⟩
theorem St.objOf (S : St cx ι ρ H s) {n : Nat} {a : Addr} {o : MO} (ha : ι[n]? = some a) (ho : H[n]? = some o) : RepO cx.w ι s.heap a o := S.objs n a o ha ho

theorem VarAt.extBut {env : Env} {h h' : Heap} {x : Str} {val : Value} {a : Addr} (v : VarAt env h x val) (hk : Heap.ExtBut a h h') (hL : env.locals ≠ a) (hc : ∀ x c, env.cells.lookup x = some c → c ≠ a) : VarAt env h' x val := by
  rcases v with ⟨k, m, n, e⟩ | ⟨k, c, l, o, g, d⟩
  · exact .inl ⟨k, m, n.extBut hk hL, e⟩
  · exact .inr ⟨k, c, l, o, hk _ _ (hc _ _ l) g, d⟩

/-- a mutable object turns -/
theorem St.set (S : St cx ι ρ H s) {n : Nat} {a : Addr} {o' : MO} {h' : Heap} (tk : Nat) (ha : ι[n]? = some a) (hnf : ∀ vs, H[n]? ≠ some (.frz vs)) (hk : Heap.ExtBut a s.heap h') (hr : RepO cx.w ι h' a o') :
    St cx ι ρ (H.set n o') { s with heap := h', toks := tk } ∧ Mono ι s ι { s with heap := h', toks := tk } := by
  obtain ⟨o, ho, r⟩ := S.obj ha
  obtain ⟨ob, g, c1⟩ := r.get
  have imm : Imm s.heap h' := .of_but hk fun o' e => by rw [g] at e; cases e; exact c1
  have hmem : a ∈ ι := List.mem_of_getElem? ha
  have hscr : cx.scr ≠ a := by
    rintro rfl
    obtain ⟨vs, e⟩ := S.scrI n ha
    exact hnf vs e
  refine ⟨?_, ⟨List.prefix_refl _, imm⟩⟩
  exact {
    same := by obtain ⟨h, t, rfl⟩ := S.same; exact ⟨h', tk, rfl⟩
    len := by simp [S.len]
    scr := fun o e => hk _ _ hscr (S.scr o e)
    scrI := fun k hk' => by
      have hne : n ≠ k := by
        rintro rfl
        rw [ha] at hk'; cases hk'; exact hscr rfl
      rw [List.getElem?_set_ne hne]; exact S.scrI k hk'
    scrIn := S.scrIn
    nodup := S.nodup
    objs := fun k b o₂ hb ho₂ => by
      by_cases hkn : k = n
      · subst hkn
        rw [ha] at hb; cases hb
        have hlt : k < H.length := S.len ▸ (List.getElem?_eq_some_iff.mp ha).1
        rw [List.getElem?_set_self hlt] at ho₂
        cases ho₂; exact hr
      · rw [List.getElem?_set_ne (fun e => hkn e.symm)] at ho₂
        refine (S.objs k b o₂ hb ho₂).mono (List.prefix_refl _) imm fun ob e => hk _ _ (fun e' => ?_) e
        subst e'
        exact hkn ((List.getElem?_inj (List.getElem?_eq_some_iff.mp hb).1 S.nodup).mp (hb.trans ha.symm))
    low := S.low
    prot := fun b ob p => hk _ _ (fun e => S.protI b ob p (e ▸ hmem)) (S.prot b ob p)
    protI := S.protI
    ns := let ⟨m, hn⟩ := S.ns; ⟨m, hn.extBut hk fun e => S.nsI (e ▸ hmem)⟩
    nsI := S.nsI
    cells := fun x c l => by
      obtain ⟨⟨ov, oc, gc, dc⟩, h1, h2⟩ := S.cells x c l
      exact ⟨⟨ov, oc, hk _ _ (fun e => h1 (e ▸ hmem)) gc, dc⟩, h1, h2⟩
    vars := fun x i v hx hv => by
      obtain ⟨val, va, rv⟩ := S.vars x i v hx hv
      exact ⟨val, va.extBut hk (fun e => S.nsI (e ▸ hmem)) fun y c l e => (S.cells y c l).2.1 (e ▸ hmem), rv.mono (List.prefix_refl _) imm⟩ }

theorem Ns.notImm {h : Heap} {a : Addr} {m} (x : h.Ns a m) : ∀ o, h.get? a = some o → ¬ isImm o := fun o g => by
  obtain ⟨o', es, ep, g', d, _⟩ := x
  rw [g] at g'; cases g'; exact notImm_dict d
theorem IsCell.notImm {h : Heap} {c : Addr} {v} (x : h.IsCell c v) : ∀ o, h.get? c = some o → ¬ isImm o := fun o g => by
  obtain ⟨o', g', d⟩ := x
  rw [g] at g'; cases g'; exact notImm_cell d
theorem Ns.uniq {h : Heap} {a : Addr} {m m'} (x : h.Ns a m) (y : h.Ns a m') : m = m' := by
  obtain ⟨o, es, ep, g, d, _, e⟩ := x
  obtain ⟨o', es', ep', g', d', _, e'⟩ := y
  rw [g] at g'; cases g'
  rw [d] at d'; cases d'
  funext z; rw [← e, ← e']

/-- a local name is stored -/
theorem St.local (S : St cx ι ρ H s) (ok : CxOk cx) {x : Str} {i : Nat} {v : V} {val : Value} {h' : Heap} {m : Str → Option Value} (tk : Nat) (hx : cx.nm x = some i) (hl : cx.env.kindOf x = some .local)
    (hm : s.heap.Ns cx.env.locals m) (hn : h'.Ns cx.env.locals (fun y => if y = x then some val else m y)) (hs : Heap.ExtBut cx.env.locals s.heap h') (r : RepV ι s.heap val v) :
    St cx ι (upd ρ i v) H { s with heap := h', toks := tk } ∧ Mono ι s ι { s with heap := h', toks := tk } := by
  have imm : Imm s.heap h' := .of_but hs (Ns.notImm hm)
  refine ⟨?_, ⟨List.prefix_refl _, imm⟩⟩
  exact {
    same := by obtain ⟨h, t, rfl⟩ := S.same; exact ⟨h', tk, rfl⟩
    len := S.len
    nodup := S.nodup
    objs := fun k b o₂ hb ho₂ => (S.objs k b o₂ hb ho₂).mono (List.prefix_refl _) imm fun ob e => hs _ _ (fun e' => S.nsI (e' ▸ List.mem_of_getElem? hb)) e
    low := S.low
    scr := fun o e => hs _ _ (fun e' => S.nsI (e' ▸ S.scrIn)) (S.scr o e)
    scrI := S.scrI
    scrIn := S.scrIn
    prot := fun b ob p => hs _ _ (fun e => ok.loc ob (e ▸ p)) (S.prot b ob p)
    protI := S.protI
    ns := ⟨_, hn⟩
    nsI := S.nsI
    cells := fun y c l => by
      obtain ⟨⟨ov, oc, gc, dc⟩, h1, h2⟩ := S.cells y c l
      exact ⟨⟨ov, oc, hs _ _ h2 gc, dc⟩, h1, h2⟩
    vars := fun y j w hy hw => by
      unfold upd at hw
      by_cases hj : j = i
      · subst hj
        obtain rfl := ok.inj y x j hy hx
        rw [if_pos rfl] at hw; cases hw
        exact ⟨val, .inl ⟨hl, _, hn, by simp⟩, r.mono (List.prefix_refl _) imm⟩
      · rw [if_neg hj] at hw
        obtain ⟨val', va, rv⟩ := S.vars y j w hy hw
        refine ⟨val', ?_, rv.mono (List.prefix_refl _) imm⟩
        have hyx : y ≠ x := fun e => hj (by rw [e, hx] at hy; exact (Option.some.inj hy).symm)
        rcases va with ⟨k, m', n', e⟩ | ⟨k, c, l, o, g, d⟩
        · obtain rfl := Ns.uniq hm n'
          exact .inl ⟨k, _, hn, by simp [hyx, e]⟩
        · exact .inr ⟨k, c, l, o, hs _ _ (S.cells y c l).2.2 g, d⟩ }

/-- a cell is stored -/
theorem St.cell (S : St cx ι ρ H s) (ok : CxOk cx) {x : Str} {i : Nat} {v : V} {val : Value} {h' : Heap} {c : Addr} (tk : Nat) (hx : cx.nm x = some i) (hst : cx.st x = true) (hl : cx.env.kindOf x = some .cell)
    (hc : cx.env.cells.lookup x = some c) (hn : h'.IsCell c (some val)) (hs : Heap.ExtBut c s.heap h') (r : RepV ι s.heap val v) :
    St cx ι (upd ρ i v) H { s with heap := h', toks := tk } ∧ Mono ι s ι { s with heap := h', toks := tk } := by
  obtain ⟨⟨ov, hov⟩, hcI, hcL⟩ := S.cells x c hc
  have imm : Imm s.heap h' := .of_but hs (IsCell.notImm hov)
  refine ⟨?_, ⟨List.prefix_refl _, imm⟩⟩
  exact {
    same := by obtain ⟨h, t, rfl⟩ := S.same; exact ⟨h', tk, rfl⟩
    len := S.len
    nodup := S.nodup
    objs := fun k b o₂ hb ho₂ => (S.objs k b o₂ hb ho₂).mono (List.prefix_refl _) imm fun ob e => hs _ _ (fun e' => hcI (e' ▸ List.mem_of_getElem? hb)) e
    low := S.low
    scr := fun o e => hs _ _ (fun e' => hcI (e' ▸ S.scrIn)) (S.scr o e)
    scrI := S.scrI
    scrIn := S.scrIn
    prot := fun b ob p => hs _ _ (fun e => ok.own x c ob hst hl hc (e ▸ p)) (S.prot b ob p)
    protI := S.protI
    ns := let ⟨m, n⟩ := S.ns; ⟨m, n.extBut hs fun e => hcL e.symm⟩
    nsI := S.nsI
    cells := fun y c' l => by
      obtain ⟨⟨ov', oc, gc, dc⟩, h1, h2⟩ := S.cells y c' l
      by_cases hcc : c' = c
      · subst hcc; exact ⟨⟨_, hn⟩, h1, h2⟩
      · exact ⟨⟨ov', oc, hs _ _ hcc gc, dc⟩, h1, h2⟩
    vars := fun y j w hy hw => by
      unfold upd at hw
      by_cases hj : j = i
      · subst hj
        obtain rfl := ok.inj y x j hy hx
        rw [if_pos rfl] at hw; cases hw
        exact ⟨val, .inr ⟨.inl hl, c, hc, hn⟩, r.mono (List.prefix_refl _) imm⟩
      · rw [if_neg hj] at hw
        obtain ⟨val', va, rv⟩ := S.vars y j w hy hw
        refine ⟨val', ?_, rv.mono (List.prefix_refl _) imm⟩
        have hyx : y ≠ x := fun e => hj (by rw [e, hx] at hy; exact (Option.some.inj hy).symm)
        rcases va with ⟨k, m', n', e⟩ | ⟨k, c', l, o, g, d⟩
        · exact .inl ⟨k, _, n'.extBut hs fun e => hcL e.symm, e⟩
        · exact .inr ⟨k, c', l, o, hs _ _ (fun e => hyx (ok.cinj y x c' l (e ▸ hc))) g, d⟩ }

/-- names forgotten, or none changed -/
theorem St.rho (S : St cx ι ρ H s) {ρ' : Rho} (h : ∀ x i v, cx.nm x = some i → ρ' i = some v → ρ i = some v) : St cx ι ρ' H s :=
  { S with vars := fun x i v hx hv => S.vars x i v hx (h x i v hx hv) }

/-- one more object that must stay -/
noncomputable def Cx.keep (cx : Cx) (a : Addr) (o : Obj) : Cx := { cx with P := fun b ob => cx.P b ob ∨ (b = a ∧ ob = o) }
theorem CxOk.keep (ok : CxOk cx) {a : Addr} {o : Obj} (hL : a ≠ cx.env.locals) (hc : ∀ x c, cx.env.kindOf x = some .cell → cx.env.cells.lookup x = some c → c ≠ a) : CxOk (cx.keep a o) where
  fn := ok.fn
  gl := ok.gl
  bl := ok.bl
  inj := ok.inj
  kinds := ok.kinds
  plain := ok.plain
  cinj := ok.cinj
  own := fun x c ob hs hk l p => p.elim (ok.own x c ob hs hk l) fun e => hc x c hk l e.1
  loc := fun ob p => p.elim (ok.loc ob) fun e => hL e.1.symm
  base := fun b ob e n => .inl (ok.base b ob e n)
  lowL := ok.lowL
theorem St.keep (S : St cx ι ρ H s) {a : Addr} {o : Obj} (g : s.heap.get? a = some o) (ha : a ∉ ι) : St (cx.keep a o) ι ρ H s :=
  { S with
    prot := fun b ob p => p.elim (S.prot b ob) fun e => by rw [e.1, e.2]; exact g
    protI := fun b ob p hm => p.elim (fun p => S.protI b ob p hm) fun e => ha (e.1 ▸ hm) }
theorem St.unkeep {a : Addr} {o : Obj} (S : St (cx.keep a o) ι ρ H s) : St cx ι ρ H s :=
  { S with
    prot := fun b ob p => S.prot b ob (.inl p)
    protI := fun b ob p => S.protI b ob (.inl p) }
end
end Tw
end

section
namespace Tw
open PySem PySem.SeqAt

section
variable {cx : Cx} {ι : List Addr} {ρ : Rho} {H : H} {s : Shared}

theorem str_inj {x y : Str} (h : x.cps.toList = y.cps.toList) : x = y := by
  cases x; cases y; simp only [Str.mk.injEq]; exact Array.toList_inj.mp h

theorem RepV.refV {h : Heap} {a : Addr} {b : V} (r : RepV ι h (.ref a) b) : (∃ n vals vs, b = .tup vs ∧ h.get? a = some { cls := .type "tuple", data := .seq vals n } ∧ RepVs ι h vals.toList vs) ∨
    (∃ x y z t u v, b = .rng x y z ∧ IsRange h a x y z t u v) ∨ ∃ n, b = .ref n ∧ ι[n]? = some a := by
  cases r with
  | tup g _ r => exact .inl ⟨_, _, _, rfl, g, r⟩
  | rng g _ => exact .inr (.inl ⟨_, _, _, _, _, _, rfl, g⟩)
  | ref g => exact .inr (.inr ⟨_, rfl, g⟩)
theorem St.noTup (S : St cx ι ρ H s) {n k : Nat} {a : Addr} {vals : Array Value} (gi : ι[n]? = some a) (g : s.heap.get? a = some { cls := .type "tuple", data := .seq vals k }) : False := by
  obtain ⟨o, _, ro⟩ := S.obj gi
  obtain ⟨ob, gb, nb⟩ := ro.get
  exact nb (Option.some.inj (g.symm.trans gb) ▸ .inl ⟨rfl, _, _, rfl⟩)
theorem St.noRng (S : St cx ι ρ H s) {n : Nat} {a : Addr} {x y z : Int} {t u v : Tok} (gi : ι[n]? = some a) (g : IsRange s.heap a x y z t u v) : False := by
  obtain ⟨o, _, ro⟩ := S.obj gi
  obtain ⟨ob, gb, nb⟩ := ro.get
  exact nb (Option.some.inj (g.symm.trans gb) ▸ .inr ⟨rfl, _, rfl⟩)
theorem tup_rng {h : Heap} {a : Addr} {vals : Array Value} {k : Nat} {x y z : Int} {t u v : Tok} (g : h.get? a = some { cls := .type "tuple", data := .seq vals k }) (g' : IsRange h a x y z t u v) : False := by
  have e := congrArg Obj.data (Option.some.inj (g.symm.trans g'))
  cases e
/-- a value stands for one abstract value -/
theorem RepV.fn (S : St cx ι ρ H s) {u : Value} {a b : V} (r : RepV ι s.heap u a) (q : RepV ι s.heap u b) : a = b := by
  refine RepV.rec (motive_1 := fun u a _ => ∀ b, RepV ι s.heap u b → a = b) (motive_2 := fun us a _ => ∀ b, RepVs ι s.heap us b → a = b) ?_ ?_ ?_ ?_ ?_ ?_ ?_ ?_ ?_ r b q
  · intro b x; cases x; rfl
  · intro _ b x; cases x; rfl
  · intro _ _ b x; cases x; rfl
  · intro _ _ _ b x; cases x; rfl
  · intro a n vals vs g z r ih b x
    obtain ⟨_, _, _, rfl, g', r'⟩ | ⟨_, _, _, _, _, _, rfl, g'⟩ | ⟨_, rfl, g'⟩ := x.refV
    · obtain ⟨e, _⟩ := Data.seq.inj (congrArg Obj.data (Option.some.inj (g.symm.trans g')))
      exact congrArg V.tup (ih _ (e ▸ r'))
    · exact (tup_rng g g').elim
    · exact (S.noTup g' g).elim
  · intro a x y z t u v g _ b x
    obtain ⟨_, _, _, rfl, g', r'⟩ | ⟨_, _, _, _, _, _, rfl, g'⟩ | ⟨_, rfl, g'⟩ := x.refV
    · exact (tup_rng g' g).elim
    · have e := Data.fields.inj (congrArg Obj.data (Option.some.inj (g.symm.trans g')))
      injection e with e
      injection e with e1 e
      injection e with e2 e
      injection e with e3 e
      injection e1 with e1
      injection e2 with e2
      injection e3 with e3
      rw [e1, e2, e3]
    · exact (S.noRng g' g).elim
  · intro a n g b x
    obtain ⟨_, _, _, rfl, g', r'⟩ | ⟨_, _, _, _, _, _, rfl, g'⟩ | ⟨_, rfl, g'⟩ := x.refV
    · exact (S.noTup g g').elim
    · exact (S.noRng g g').elim
    · rw [(List.getElem?_inj (List.getElem?_eq_some_iff.mp g).1 S.nodup).mp (g.trans g'.symm)]
  · intro b x; cases x; rfl
  · intro _ _ _ _ g r i1 i2 b x
    cases x with
    | cons g' r' => rw [i1 _ g', i2 _ r']
theorem RepVs.fn (S : St cx ι ρ H s) {us : List Value} {a b : List V} (r : RepVs ι s.heap us a) (q : RepVs ι s.heap us b) : a = b := by
  refine RepVs.rec (motive_1 := fun _ _ _ => True) (motive_2 := fun us a _ => ∀ b, RepVs ι s.heap us b → a = b) trivial (fun _ => trivial) (fun _ _ => trivial) (fun _ _ _ => trivial) (fun _ _ _ _ => trivial) (fun _ _ => trivial) (fun _ => trivial) ?_ ?_ r b q
  · intro b x; cases x; rfl
  · intro _ _ _ _ g r _ i2 b x
    cases x with
    | cons g' r' => rw [g.fn S g', i2 _ r']

theorem Snap.fn {H : Tw.H} {a : V} {d e : D} (r : Snap H a d) (q : Snap H a e) : d = e := by
  refine Snap.rec (motive_1 := fun a d _ => ∀ e, Snap H a e → d = e) (motive_2 := fun a d _ => ∀ e, Snaps H a e → d = e) ?_ ?_ ?_ ?_ ?_ ?_ ?_ ?_ r e q
  · intro e x; cases x; rfl
  · intro _ e x; cases x; rfl
  · intro _ e x; cases x; rfl
  · intro _ e x; cases x; rfl
  · intro _ _ r ih e x; cases x with | tup r' => rw [ih _ r']
  · intro _ _ _ g r ih e x
    cases x with
    | list g' r' => exact congrArg D.list (ih _ (MO.list.inj (Option.some.inj (g.symm.trans g')) ▸ r'))
  · intro e x; cases x; rfl
  · intro _ _ _ _ g r i1 i2 e x
    cases x with
    | cons g' r' => rw [i1 _ g', i2 _ r']
theorem Snaps.fn {H : Tw.H} {a : List V} {d e : List D} (r : Snaps H a d) (q : Snaps H a e) : d = e := by
  refine Snaps.rec (motive_1 := fun _ _ _ => True) (motive_2 := fun a d _ => ∀ e, Snaps H a e → d = e) trivial (fun _ => trivial) (fun _ => trivial) (fun _ => trivial) (fun _ _ => trivial) (fun _ _ _ => trivial) ?_ ?_ r e q
  · intro e x; cases x; rfl
  · intro _ _ _ _ g r _ i2 e x
    cases x with
    | cons g' r' => rw [g.fn g', i2 _ r']

theorem Snaps.length {H : Tw.H} {vs : List V} {ds : List D} (x : Snaps H vs ds) : vs.length = ds.length := by
  induction vs generalizing ds with
  | nil => cases x; rfl
  | cons v vs ih => cases x with | cons _ r => simp [ih r]
theorem Snaps.get {H : Tw.H} {vs : List V} {ds : List D} (x : Snaps H vs ds) {i : Nat} {v : V} {d : D} (hv : vs[i]? = some v) (hd : ds[i]? = some d) : Snap H v d := by
  induction vs generalizing ds i with
  | nil => simp at hv
  | cons w vs ih =>
    cases x with
    | cons g r =>
      cases i with
      | zero => simp at hv hd; subst hv; subst hd; exact g
      | succ i => exact ih r (by simpa using hv) (by simpa using hd)

structure EqAll (A : Around) (s : Shared) (u v : Value) (k : Bool) : Prop where
  rc : RcAt A s u v k
  eq : EqAt A s u v k
  ne : RcNeAt A s u v (!k)

theorem range_all_eq {ds es : List D} (hl : ds.length = es.length) (e : Nat → Bool) (he : ∀ i d d', ds[i]? = some d → es[i]? = some d' → e i = decide (d = d')) :
    (List.range ds.length).all e = decide (ds = es) := by
  rw [Bool.eq_iff_iff, List.all_eq_true, decide_eq_true_iff]
  constructor
  · intro h
    refine List.ext_getElem? fun i => ?_
    by_cases hi : i < ds.length
    · have hi' : i < es.length := hl ▸ hi
      have := h i (List.mem_range.mpr hi)
      rw [he i ds[i] es[i] (List.getElem?_eq_getElem hi) (List.getElem?_eq_getElem hi'), decide_eq_true_iff] at this
      rw [List.getElem?_eq_getElem hi, List.getElem?_eq_getElem hi', this]
    · rw [List.getElem?_eq_none (by omega), List.getElem?_eq_none (by omega)]
  · rintro rfl i hi
    have hi := List.mem_range.mp hi
    rw [he i ds[i] ds[i] (List.getElem?_eq_getElem hi) (List.getElem?_eq_getElem hi)]
    simp

theorem isTuple_of {h : Heap} {a : Addr} {vals : Array Value} {n : Nat} (g : h.get? a = some { cls := .type "tuple", data := .seq vals n }) : h.IsTuple a vals := ⟨_, g, rfl, n, rfl⟩
theorem isList_of {h : Heap} {a : Addr} {vals : Array Value} {n : Nat} (g : h.get? a = some { cls := .type "list", data := .seq vals n }) : h.IsList a vals := ⟨_, g, rfl, n, rfl⟩

theorem range_min_all {xs ys : List D} (e : Nat → Bool) (he : ∀ i d d', xs[i]? = some d → ys[i]? = some d' → e i = decide (d = d')) :
    ((List.range (min xs.length ys.length)).all e && xs.length == ys.length) = decide (xs = ys) := by
  by_cases hl : xs.length = ys.length
  · rw [hl, Nat.min_self, beq_self_eq_true, Bool.and_true, ← hl]
    exact range_all_eq hl e he
  · have h1 : (xs.length == ys.length) = false := by simpa using hl
    rw [h1, Bool.and_false, decide_eq_false]
    intro e; exact hl (by rw [e])

theorem EqAll.no {A : Around} {u v : Value} {d e : D} (h : d ≠ e) (x : EqAll A s u v false) : EqAll A s u v (decide (d = e)) := by rw [decide_eq_false h]; exact x
theorem EqAll.yes {A : Around} {u v : Value} {d e : D} (h : d = e) (x : EqAll A s u v true) : EqAll A s u v (decide (d = e)) := by rw [decide_eq_true h]; exact x

/-- what a value is that has a snapshot -/
theorem Snap.tupI {H : Tw.H} {a : V} {ds : List D} (x : Snap H a (.tup ds)) : ∃ vs, a = .tup vs ∧ Snaps H vs ds := by cases x; exact ⟨_, rfl, by assumption⟩
theorem Snap.listI {H : Tw.H} {a : V} {ds : List D} (x : Snap H a (.list ds)) : ∃ n vs, a = .ref n ∧ H[n]? = some (.list vs) ∧ Snaps H vs ds := by cases x; exact ⟨_, _, rfl, by assumption, by assumption⟩
theorem Snap.noneI {H : Tw.H} {a : V} (x : Snap H a .none) : a = .none := by cases x; rfl
theorem Snap.intI {H : Tw.H} {a : V} {i : Int} (x : Snap H a (.int i)) : a = .int i := by cases x; rfl
theorem Snap.strI {H : Tw.H} {a : V} {i : List Nat} (x : Snap H a (.str i)) : a = .str i := by cases x; rfl

/-- the kinds of values that are compared -/
inductive Kd (s : Shared) (ι : List Addr) (H : Tw.H) : Value → D → Prop
  | none : Kd s ι H .none .none
  | int (i : Int) (t : Tok) : Kd s ι H (.int i t) (.int i)
  | str (x : Str) (t : Tok) : Kd s ι H (.str x t) (.str x.cps.toList)
  | tup {a : Addr} {vals : Array Value} {n : Nat} {vs : List V} {ds : List D} : s.heap.get? a = some { cls := .type "tuple", data := .seq vals n } → RepVs ι s.heap vals.toList vs → Snaps H vs ds → Kd s ι H (.ref a) (.tup ds)
  | list {a : Addr} {vals : Array Value} {n m : Nat} {vs : List V} {ds : List D} : s.heap.get? a = some { cls := .type "list", data := .seq vals n } → ι[m]? = some a → H[m]? = some (.list vs) → RepVs ι s.heap vals.toList vs → Snaps H vs ds → Kd s ι H (.ref a) (.list ds)
theorem kd_of (S : St cx ι ρ H s) {n : Nat} {u : Value} {a : V} {d : D} (r : RepV ι s.heap u a) (x : Snap H a d) (h : D.ok (n + 1) d = true) : Kd s ι H u d := by
  cases d with
  | bool => cases h
  | none => obtain rfl := x.noneI; obtain rfl := r.noneI; exact .none
  | int => obtain rfl := x.intI; obtain ⟨t, rfl⟩ := r.intI; exact .int _ _
  | str => obtain rfl := x.strI; obtain ⟨y, t, rfl, rfl, _⟩ := r.strInv; exact .str _ _
  | tup ds => obtain ⟨vs, rfl, sn⟩ := x.tupI; obtain ⟨a, n, vals, rfl, g, _, rv⟩ := r.tupI; exact .tup g rv sn
  | list ds =>
    obtain ⟨n, vs, rfl, hH, sn⟩ := x.listI
    obtain ⟨a, rfl, gi⟩ := r.refI
    obtain ⟨vals, m, gl, rl, _⟩ := S.objOf gi hH
    exact .list gl gi hH rl sn

theorem eq_none {A : Around} {v : Value} {e : D} (hu : A.units < cLine) (k : Kd s ι H v e) : EqAll A s .none v (decide (D.none = e)) := by
  cases k with
  | none => exact .yes rfl ⟨RcAt.none_none, EqAt.same _, RcNeAt.none_none⟩
  | int => exact .no nofun ⟨RcAt.none_int _ _, EqAt.none_int _ _, RcNeAt.none_int _ _⟩
  | str => exact .no nofun ⟨RcAt.none_str _ _, EqAt.none_str _ _, RcNeAt.none_str _ _⟩
  | tup g => exact .no nofun ⟨RcAt.none_tuple (isTuple_of g) hu, EqAt.none_tuple (isTuple_of g) hu, RcNeAt.none_tuple (isTuple_of g) hu⟩
  | list g => exact .no nofun ⟨RcAt.none_list (isList_of g) hu, EqAt.none_list (isList_of g) hu, RcNeAt.none_list (isList_of g) hu⟩
theorem eq_int {A : Around} {v : Value} {e : D} (i : Int) (t : Tok) (hu : A.units < cLine) (k : Kd s ι H v e) : EqAll A s (.int i t) v (decide (D.int i = e)) := by
  cases k with
  | none => exact .no nofun ⟨RcAt.int_none _ _, EqAt.int_none _ _, RcNeAt.int_none _ _⟩
  | int j u =>
    have e : decide (D.int i = D.int j) = (i == j) := by by_cases h : i = j <;> simp [h]
    rw [e]
    exact ⟨RcAt.int_int _ _ _ _, EqAt.int_int _ _ _ _, RcNeAt.int_int _ _ _ _⟩
  | str => exact .no nofun ⟨RcAt.int_str _ _ _ _, EqAt.int_str _ _ _ _, RcNeAt.int_str _ _ _ _⟩
  | tup g => exact .no nofun ⟨RcAt.int_tuple _ _ (isTuple_of g) hu, EqAt.int_tuple _ _ (isTuple_of g) hu, RcNeAt.int_tuple _ _ (isTuple_of g) hu⟩
  | list g => exact .no nofun ⟨RcAt.int_list _ _ (isList_of g) hu, EqAt.int_list _ _ (isList_of g) hu, RcNeAt.int_list _ _ (isList_of g) hu⟩
theorem eq_str {A : Around} {v : Value} {e : D} (y : Str) (t : Tok) (hu : A.units < cLine) (k : Kd s ι H v e) : EqAll A s (.str y t) v (decide (D.str y.cps.toList = e)) := by
  cases k with
  | none => exact .no nofun ⟨RcAt.str_none _ _, EqAt.str_none _ _, RcNeAt.str_none _ _⟩
  | int => exact .no nofun ⟨RcAt.str_int _ _ _ _, EqAt.str_int _ _ _ _, RcNeAt.str_int _ _ _ _⟩
  | str y' =>
    have e : decide (D.str y.cps.toList = D.str y'.cps.toList) = (y == y') := by
      by_cases h : y = y'
      · subst h; simp
      · have : ¬ y.cps.toList = y'.cps.toList := fun q => h (str_inj q)
        simp [h, this]
    rw [e]
    exact ⟨RcAt.str_str _ _ _ _, EqAt.str_str _ _ _ _, RcNeAt.str_str _ _ _ _⟩
  | tup g => exact .no nofun ⟨RcAt.str_tuple _ _ (isTuple_of g) hu, EqAt.str_tuple _ _ (isTuple_of g) hu, RcNeAt.str_tuple _ _ (isTuple_of g) hu⟩
  | list g => exact .no nofun ⟨RcAt.str_list _ _ (isList_of g) hu, EqAt.str_list _ _ (isList_of g) hu, RcNeAt.str_list _ _ (isList_of g) hu⟩

/-- item by item -/
noncomputable def itemEq (ds es : List D) (j : Nat) : Bool := match ds[j]?, es[j]? with | some d, some e => decide (d = e) | _, _ => false
theorem itemEq_at {ds es : List D} (i : Nat) (d d' : D) (h1 : ds[i]? = some d) (h2 : es[i]? = some d') : itemEq ds es i = decide (d = d') := by
  unfold itemEq; rw [h1, h2]
noncomputable def Items (A : Around) (s : Shared) (n : Nat) (ι : List Addr) (H : Tw.H) : Prop := ∀ {xs ys : Array Value} {vs ws : List V} {ds es : List D}, RepVs ι s.heap xs.toList vs → RepVs ι s.heap ys.toList ws → Snaps H vs ds → Snaps H ws es → ds.all (D.ok n) = true → es.all (D.ok n) = true →
        ∀ j (h1 : j < xs.size) (h2 : j < ys.size), EqAt A.in1 s xs[j] ys[j] (itemEq ds es j)
theorem eq_tup (S : St cx ι ρ H s) {A : Around} {v : Value} {e : D} {n m : Nat} {la : Addr} {va : Array Value} {vs : List V} {ds : List D} (hu : A.units < cLine) (it : Items A s n ι H) (g : s.heap.get? la = some { cls := .type "tuple", data := .seq va m }) (q : RepVs ι s.heap va.toList vs) (r : Snaps H vs ds)
    (hd : ds.all (D.ok n) = true) (he : D.ok (n + 1) e = true) (k : Kd s ι H v e) : EqAll A s (.ref la) v (decide (D.tup ds = e)) := by
  cases k with
  | none => exact .no nofun ⟨RcAt.tuple_none (isTuple_of g) hu, EqAt.tuple_none (isTuple_of g) hu, RcNeAt.tuple_none (isTuple_of g) hu⟩
  | int => exact .no nofun ⟨RcAt.tuple_int _ _ (isTuple_of g) hu, EqAt.tuple_int _ _ (isTuple_of g) hu, RcNeAt.tuple_int _ _ (isTuple_of g) hu⟩
  | str => exact .no nofun ⟨RcAt.tuple_str _ _ (isTuple_of g) hu, EqAt.tuple_str _ _ (isTuple_of g) hu, RcNeAt.tuple_str _ _ (isTuple_of g) hu⟩
  | list g' => exact .no nofun ⟨RcAt.tuple_list (isTuple_of g) (isList_of g') hu, EqAt.tuple_list (isTuple_of g) (isList_of g') hu, RcNeAt.tuple_list (isTuple_of g) (isList_of g') hu⟩
  | @tup lb vb _ ws es g' q' r' =>
    have hsz1 : va.size = ds.length := by rw [← Array.length_toList, q.length, r.length]
    have hsz2 : vb.size = es.length := by rw [← Array.length_toList, q'.length, r'.length]
    have e0 : decide (D.tup ds = D.tup es) = decide (ds = es) := by by_cases h : ds = es <;> simp [h]
    have it := it q q' r r' hd he
    have e1 := range_min_all (xs := ds) (ys := es) _ itemEq_at
    rw [← hsz1, ← hsz2] at e1
    rw [e0]
    have rc := RcAt.tuples (isTuple_of g) (isTuple_of g') hu it
    have ne := RcNeAt.tuples (isTuple_of g) (isTuple_of g') hu it
    rw [e1] at rc ne
    by_cases hab : la = lb
    · subst hab
      rw [g] at g'; cases g'
      have := RepVs.fn S q q'
      subst this
      have := Snaps.fn r r'
      subst this
      refine ⟨rc, ?_, ne⟩
      rw [decide_eq_true rfl]; exact EqAt.same _
    · exact ⟨rc, .of_refs hab rc, ne⟩
theorem eq_list (S : St cx ι ρ H s) {A : Around} {v : Value} {e : D} {n m na : Nat} {la : Addr} {va : Array Value} {vs : List V} {ds : List D} (hu : A.units < cLine) (it : Items A s n ι H) (g : s.heap.get? la = some { cls := .type "list", data := .seq va m }) (gi : ι[na]? = some la) (ga : H[na]? = some (.list vs)) (q : RepVs ι s.heap va.toList vs) (r : Snaps H vs ds)
    (hd : ds.all (D.ok n) = true) (he : D.ok (n + 1) e = true) (k : Kd s ι H v e) : EqAll A s (.ref la) v (decide (D.list ds = e)) := by
  cases k with
  | none => exact .no nofun ⟨RcAt.list_none (isList_of g) hu, EqAt.list_none (isList_of g) hu, RcNeAt.list_none (isList_of g) hu⟩
  | int => exact .no nofun ⟨RcAt.list_int _ _ (isList_of g) hu, EqAt.list_int _ _ (isList_of g) hu, RcNeAt.list_int _ _ (isList_of g) hu⟩
  | str => exact .no nofun ⟨RcAt.list_str _ _ (isList_of g) hu, EqAt.list_str _ _ (isList_of g) hu, RcNeAt.list_str _ _ (isList_of g) hu⟩
  | tup g' => exact .no nofun ⟨RcAt.list_tuple (isList_of g) (isTuple_of g') hu, EqAt.list_tuple (isList_of g) (isTuple_of g') hu, RcNeAt.list_tuple (isList_of g) (isTuple_of g') hu⟩
  | @list lb vb _ nb ws es g' gi' gb q' r' =>
    have hsz1 : va.size = ds.length := by rw [← Array.length_toList, q.length, r.length]
    have hsz2 : vb.size = es.length := by rw [← Array.length_toList, q'.length, r'.length]
    have e0 : decide (D.list ds = D.list es) = decide (ds = es) := by by_cases h : ds = es <;> simp [h]
    rw [e0]
    have both : RcAt A s (.ref la) (.ref lb) (decide (ds = es)) ∧ RcNeAt A s (.ref la) (.ref lb) (!decide (ds = es)) := by
      by_cases hl : va.size = vb.size
      · have it := it q q' r r' hd he
        have e1 := range_all_eq (ds := ds) (es := es) (by rw [← hsz1, ← hsz2, hl]) _ itemEq_at
        rw [← hsz1] at e1
        have rc := RcAt.lists (isList_of g) (isList_of g') hl hu it
        have ne := RcNeAt.lists (isList_of g) (isList_of g') hl hu it
        rw [e1] at rc ne
        exact ⟨rc, ne⟩
      · have hne : ds ≠ es := fun e => hl (by rw [hsz1, hsz2, e])
        rw [decide_eq_false hne]
        exact ⟨RcAt.lists_lengths (isList_of g) (isList_of g') (by simpa using hl) hu, RcNeAt.lists_lengths (isList_of g) (isList_of g') (by simpa using hl) hu⟩
    by_cases hab : la = lb
    · subst hab
      have := RepV.fn S (.ref gi) (.ref gi')
      cases this
      rw [ga] at gb; cases gb
      have := Snaps.fn r r'
      subst this
      refine ⟨both.1, ?_, both.2⟩
      rw [decide_eq_true rfl]; exact EqAt.same _
    · exact ⟨both.1, .of_refs hab both.1, both.2⟩

theorem eq_snap (S : St cx ι ρ H s) : ∀ (n : Nat) {A : Around} {u v : Value} {a b : V} {d e : D}, A.units + n < cLine → RepV ι s.heap u a → RepV ι s.heap v b → Snap H a d → Snap H b e → D.ok n d = true → D.ok n e = true →
    EqAll A s u v (decide (d = e))
  | 0, _, _, _, _, _, _, _, _, _, _, _, _, hd, _ => nomatch hd
  | n + 1, A, u, v, a, b, d, e, hu, ru, rv, sa, sb, hd, he => by
    have hu0 : A.units < cLine := by omega
    have items : Items A s n ι H := fun {xs ys vs ws ds es} rx ry sx sy okx oky j h1 h2 => by
      have hu1 : A.in1.units + n < cLine := by show A.units + 1 + n < cLine; omega
      have e1 : xs.toList[j]? = some xs[j] := by simp [h1]
      have e2 : ys.toList[j]? = some ys[j] := by simp [h2]
      obtain ⟨vj, hvj, rj⟩ := rx.get' e1
      obtain ⟨wj, hwj, qj⟩ := ry.get' e2
      have l1 : j < ds.length := by rw [← sx.length]; exact (List.getElem?_eq_some_iff.mp hvj).1
      have l2 : j < es.length := by rw [← sy.length]; exact (List.getElem?_eq_some_iff.mp hwj).1
      rw [itemEq_at j _ _ (List.getElem?_eq_getElem l1) (List.getElem?_eq_getElem l2)]
      exact (eq_snap S n hu1 rj qj (sx.get hvj (List.getElem?_eq_getElem l1)) (sy.get hwj (List.getElem?_eq_getElem l2))
        (List.all_eq_true.mp okx _ (List.getElem_mem l1)) (List.all_eq_true.mp oky _ (List.getElem_mem l2))).eq
    have ke := kd_of S rv sb he
    cases kd_of S ru sa hd with
    | none => exact eq_none hu0 ke
    | int => exact eq_int _ _ hu0 ke
    | str => exact eq_str _ _ hu0 ke
    | tup g q r => exact eq_tup S hu0 items g q r hd he ke
    | list g gi ga q r => exact eq_list S hu0 items g gi ga q r hd he ke
end
end Tw
end

section
namespace Tw
open PySem PySem.SeqAt

/-! keys -/
noncomputable def V.toD : V → D
  | .none => .none
  | .bool b => .bool b
  | .int i => .int i
  | .str s => .str s
  | .tup vs => .tup (V.toDs vs)
  | _ => .none
where V.toDs : List V → List D
  | [] => []
  | .int i :: r => .int i :: V.toDs r
  | .str s :: r => .str s :: V.toDs r
  | _ :: r => .none :: V.toDs r

theorem snaps_atoms {H : H} : ∀ {vs : List V}, vs.all V.isAtom = true → Snaps H vs (V.toD.V.toDs vs)
  | [], _ => .nil
  | v :: r, h => by
    simp only [List.all_cons, Bool.and_eq_true] at h
    cases v with
    | int i => exact .cons (.int i) (snaps_atoms h.2)
    | str s => exact .cons (.str s) (snaps_atoms h.2)
    | _ => exact Bool.noConfusion h.1
theorem snap_key {H : H} {k : V} (h : k.isKey = true) : Snap H k k.toD := by
  cases k with
  | int i => exact .int i
  | str s => exact .str s
  | tup vs => exact .tup (snaps_atoms h)
  | _ => exact Bool.noConfusion h
theorem ok_atoms {n : Nat} : ∀ {vs : List V}, vs.all V.isAtom = true → (V.toD.V.toDs vs).all (D.ok (n + 1)) = true
  | [], _ => rfl
  | v :: r, h => by
    simp only [List.all_cons, Bool.and_eq_true] at h
    cases v with
    | int i => simpa [V.toD.V.toDs, D.ok] using ok_atoms h.2
    | str s => simpa [V.toD.V.toDs, D.ok] using ok_atoms h.2
    | _ => exact Bool.noConfusion h.1
theorem ok_key {n : Nat} {k : V} (h : k.isKey = true) : D.ok (n + 2) k.toD = true := by
  cases k with
  | int i => rfl
  | str s => rfl
  | tup vs => exact ok_atoms h
  | _ => exact Bool.noConfusion h
noncomputable def D.atomV : D → V
  | .int i => .int i
  | .str s => .str s
  | _ => .none
noncomputable def D.keyV : D → V
  | .tup ds => .tup (ds.map D.atomV)
  | d => d.atomV
theorem toDs_back : ∀ {vs : List V}, vs.all V.isAtom = true → (V.toD.V.toDs vs).map D.atomV = vs
  | [], _ => rfl
  | v :: r, h => by
    rw [List.all_cons, Bool.and_eq_true] at h
    have ih := toDs_back h.2
    cases v with
    | int i => exact congrArg (V.int i :: ·) ih
    | str s => exact congrArg (V.str s :: ·) ih
    | _ => exact Bool.noConfusion h.1
theorem key_back {k : V} (h : k.isKey = true) : k.toD.keyV = k := by
  cases k with
  | int => rfl
  | str => rfl
  | tup vs => exact congrArg V.tup (toDs_back h)
  | _ => exact Bool.noConfusion h
theorem toD_inj {k k' : V} (h : k.isKey = true) (h' : k'.isKey = true) (e : k.toD = k'.toD) : k = k' := (key_back h).symm.trans ((congrArg D.keyV e).trans (key_back h'))

section
variable {cx : Cx} {ι : List Addr} {ρ : Rho} {H : H} {s : Shared} {A : Around}

theorem eq_key (S : St cx ι ρ H s) {u v : Value} {k k' : V} (hu : A.units + 9 < cLine) (r : RepV ι s.heap u k) (r' : RepV ι s.heap v k') (h : k.isKey = true) (h' : k'.isKey = true) :
    EqAt A s u v (decide (k = k')) := by
  have e := (eq_snap S 9 (A := A) hu r r' (snap_key h) (snap_key h') (ok_key h) (ok_key h')).eq
  have : decide (k.toD = k'.toD) = decide (k = k') := by
    by_cases q : k = k'
    · subst q; simp
    · have : ¬ k.toD = k'.toD := fun q' => q (toD_inj h h' q')
      simp [q, this]
  rw [this] at e; exact e

theorem atoms_byValue {h : Heap} {xs : List Value} {vs : List V} (r : RepVs ι h xs vs) : vs.all V.isAtom = true → ∀ x ∈ xs, carriedByValue x = true := by
  induction xs generalizing vs with
  | nil => exact fun _ x hx => nomatch hx
  | cons y ys ih =>
    cases r with
    | cons g r =>
      intro h x hx
      rw [List.all_cons, Bool.and_eq_true] at h
      rcases List.mem_cons.mp hx with rfl | hx
      · cases g <;> first | rfl | exact Bool.noConfusion h.1
      · exact ih r h.2 x hx

theorem quiet_key {prog : Program} {w : World} {E : Value → Shared → Prop} {u : Value} {k : V} {Q : Bool → Shared → Prop} (r : RepV ι s.heap u k) (h : k.isKey = true) (q : Q true s) : wpAny (model prog w) A (eqIsQuiet 8 u) Q E s := by
  cases r with
  | none => exact Bool.noConfusion h
  | bool => exact Bool.noConfusion h
  | int i t => rw [eqIsQuiet_byValue 8 rfl]; exact wpAny_pure q
  | str x t z => rw [eqIsQuiet_byValue 8 rfl]; exact wpAny_pure q
  | rng => exact Bool.noConfusion h
  | ref => exact Bool.noConfusion h
  | @tup a n vals vs g z r =>
    have hT : s.TypeIs (.ref a) "tuple" := ⟨_, g, rfl⟩
    have hv := atoms_byValue r h
    unfold eqIsQuiet
    refine wpAny_bind (wpAny_specialOf hT F.slot_tuple_eq.lookup ?_)
    show wpAny _ _ (isInstance (.ref a) (.type "tuple") >>= _) _ _ s
    refine wpAny_bind (wpAny_isInstance hT isSubtype_tuple_tuple ?_)
    simp only [Bool.not_true, Bool.false_eq_true, if_false]
    refine wpAny_bind (wpAny_seqItems g rfl ?_)
    refine wpAny_bind ?_
    show wpAny _ _ (forIn vals _ _) _ _ s
    rw [← Array.forIn_toList]
    refine wpAny_forIn_list _ (fun rest r s' => r.1 = none ∧ s' = s ∧ ∀ v ∈ rest, carriedByValue v = true) _ ?_ ?_ _ _ ⟨rfl, rfl, hv⟩
    · rintro v rest r s' ⟨hr, rfl, hall⟩
      rw [eqIsQuiet_byValue _ (hall v List.mem_cons_self)]
      refine wpAny_bind (wpAny_pure ?_)
      simp only [Bool.not_true, Bool.false_eq_true, if_false]
      exact wpAny_pure ⟨rfl, rfl, fun u hu' => hall u (List.mem_cons_of_mem _ hu')⟩
    · rintro ⟨r1, r2⟩ s' ⟨hr, rfl, _⟩
      simp only at hr
      subst hr
      exact wpAny_pure q

theorem tells_key {prog : Program} {w : World} {E : Value → Shared → Prop} {u : Value} {k : V} {stored : List Value} {Q : Bool → Shared → Prop} (r : RepV ι s.heap u k) (h : k.isKey = true)
    (hst : ∀ v ∈ stored, ∃ k', RepV ι s.heap v k' ∧ k'.isKey = true) (q : Q false s) : wpAny (model prog w) A (tableMayTell u stored) Q E s := by
  unfold tableMayTell
  split
  · exact wpAny_pure q
  · refine wpAny_bind (quiet_key r h ?_)
    simp only [Bool.not_true, Bool.false_eq_true, if_false]
    refine wpAny_bind ?_
    refine wpAny_forIn_list _ (fun rest r s' => s' = s ∧ r = (none, ()) ∧ ∀ v ∈ rest, ∃ k', RepV ι s.heap v k' ∧ k'.isKey = true) _ ?_ ?_ _ _ ⟨rfl, rfl, hst⟩
    · rintro x rest r s' ⟨rfl, rfl, hr⟩
      obtain ⟨k', hb, hk'⟩ := hr x List.mem_cons_self
      refine wpAny_bind (quiet_key hb hk' ?_)
      simp only [Bool.not_true, Bool.false_eq_true, if_false]
      exact wpAny_pure ⟨rfl, rfl, fun v hv => hr v (List.mem_cons_of_mem _ hv)⟩
    · rintro r s' ⟨rfl, rfl, _⟩
      exact wpAny_pure q

theorem RepEs.length {w : World} {h : Heap} {es : List DictEntry} {r : List (V × V)} (x : RepEs w ι h es r) : es.length = r.length := by
  induction x with
  | nil => rfl
  | cons _ _ _ _ _ ih => simp [ih]
theorem RepEs.get {w : World} {h : Heap} {es : List DictEntry} {r : List (V × V)} (x : RepEs w ι h es r) {i : Nat} {e : DictEntry} (he : es[i]? = some e) :
    ∃ k v, r[i]? = some (k, v) ∧ e.hash = hashK w k ∧ RepV ι h e.key k ∧ RepV ι h e.val v ∧ k.isKey = true := by
  induction x generalizing i with
  | nil => simp at he
  | cons a b c d _ ih =>
    cases i with
    | zero => simp at he; subst he; exact ⟨_, _, rfl, a, b, c, d⟩
    | succ i => simpa using ih (by simpa using he)
theorem RepEs.get' {w : World} {h : Heap} {es : List DictEntry} {r : List (V × V)} (x : RepEs w ι h es r) {i : Nat} {k v : V} (he : r[i]? = some (k, v)) :
    ∃ e, es[i]? = some e ∧ e.hash = hashK w k ∧ RepV ι h e.key k ∧ RepV ι h e.val v ∧ k.isKey = true := by
  induction x generalizing i with
  | nil => simp at he
  | cons a b c d _ ih =>
    cases i with
    | zero => simp at he; obtain ⟨rfl, rfl⟩ := he; exact ⟨_, rfl, a, b, c, d⟩
    | succ i => simpa using ih (by simpa using he)

theorem keys_idx {es : List (V × V)} (nd : (es.map (·.1)).Nodup) {i j : Nat} {k v v' : V} (h1 : es[i]? = some (k, v)) (h2 : es[j]? = some (k, v')) : i = j := by
  have e1 : (es.map (·.1))[i]? = some k := by simp [h1]
  have e2 : (es.map (·.1))[j]? = some k := by simp [h2]
  exact (List.getElem?_inj (List.getElem?_eq_some_iff.mp e1).1 nd).mp (e1.trans e2.symm)

/-- a loop over the places of one hash -/
theorem find_loop {prog : Program} {w : World} {E : Value → Shared → Prop} {β : Type} {n : Nat} {p : Nat → Bool} {f : Nat → β → Sem (ForInStep β)} {b0 : β} {Q : β → Shared → Prop} (Inv : Nat → β → Prop) (h0 : Inv 0 b0)
    (skip : ∀ i b, p i = false → Inv i b → Inv (i + 1) b) (step : ∀ i b, i < n → p i = true → Inv i b → wpAny (model prog w) A (f i b) (fun r s' => match r with | .yield b' => s' = s ∧ Inv (i + 1) b' | .done b' => Q b' s') E s)
    (fin : ∀ b, Inv n b → Q b s) : wpAny (model prog w) A (forIn ((List.range n).filter p) b0 f) Q E s := by
  have jump : ∀ m i b, (∀ j, i ≤ j → j < i + m → p j = false) → Inv i b → Inv (i + m) b := by
    intro m
    induction m with
    | zero => intro i b _ h; exact h
    | succ m ih => intro i b hp h; exact skip _ _ (hp (i + m) (Nat.le_add_right _ _) (Nat.lt_succ_self _)) (ih i b (fun j a c => hp j a (Nat.lt_succ_of_lt c)) h)
  refine wpAny_forIn_list _ (fun rest b s' => s' = s ∧ ∃ i, i ≤ n ∧ rest = (List.range' i (n - i)).filter p ∧ Inv i b) _ ?_ ?_ _ _ ⟨rfl, 0, Nat.zero_le _, by rw [List.range_eq_range', Nat.sub_zero], h0⟩
  · intro x rest b s' h
    obtain ⟨rfl, i, hi, hr, hI⟩ := h
    obtain ⟨h1, h2, h3, h4, h5⟩ := filter_range'_cons _ _ _ _ _ hr.symm
    have hIx : Inv x b := by
      have := jump (x - i) i b (fun j a c => h4 j a (by omega)) hI
      rw [show i + (x - i) = x from by omega] at this; exact this
    refine wpAny_mono (step x b (by omega) h3 hIx) (fun r s'' hr => ?_) fun _ _ e => e
    cases r with
    | yield b' => exact ⟨hr.1, x + 1, by omega, by rw [h5]; congr 2; omega, hr.2⟩
    | done b' => exact hr
  · intro b s' h
    obtain ⟨rfl, i, hi, hr, hI⟩ := h
    refine fin b ?_
    have := jump (n - i) i b (fun j a c => by
      have := List.filter_eq_nil_iff.mp hr.symm j (List.mem_range'_1.mpr ⟨a, by omega⟩)
      simpa using this) hI
    rw [show i + (n - i) = n from by omega] at this; exact this

/-- what is known of a table and a key that is sought in it -/
structure Fk (A : Around) (s : Shared) (ents : Array DictEntry) (es : List (V × V)) (key : Value) (k : V) (hv : Int) : Prop where
  nd : (es.map (·.1)).Nodup
  get : ∀ i (hi : i < ents.size), ∃ k' v', es[i]? = some (k', v') ∧ (k' = k → ents[i].hash = hv) ∧ EqAt A s ents[i].key key (decide (k' = k))
  sz : ents.size = es.length
noncomputable def hasH (ents : Array DictEntry) (hv : Int) (i : Nat) : Bool := (ents[i]?.map (·.hash)) == some hv
section
variable {ents : Array DictEntry} {es : List (V × V)} {key : Value} {k : V} {hv : Int} (F : Fk A s ents es key k hv)
include F
theorem Fk.skip {i : Nat} (hp : hasH ents hv i = false) (v : V) : es[i]? ≠ some (k, v) := fun he => by
  have hi : i < ents.size := by rw [F.sz]; exact (List.getElem?_eq_some_iff.mp he).1
  obtain ⟨k', v', he', hh, _⟩ := F.get i hi
  rw [he] at he'; cases he'
  rw [hasH, Array.getElem?_eq_getElem hi, Option.map_some, hh rfl] at hp
  simp at hp
theorem Fk.out {v : V} {i : Nat} (hi : ents.size ≤ i) : es[i]? ≠ some (k, v) := fun he => by
  have := (List.getElem?_eq_some_iff.mp he).1
  rw [F.sz] at hi; omega
omit F in
theorem Fk.less {n : Nat} (h : ∀ (j : Nat) v, j < n → es[j]? ≠ some (k, v)) (hn : ∀ v, es[n]? ≠ some (k, v)) : ∀ (j : Nat) v, j < n + 1 → es[j]? ≠ some (k, v) := fun j v hj => by
  rcases Nat.lt_or_ge j n with h' | h'
  · exact h j v h'
  · have : j = n := by omega
    subst this; exact hn v
theorem Fk.none (h : ∀ (j : Nat) v, j < ents.size → es[j]? ≠ some (k, v)) (j : Nat) (v : V) : es[j]? ≠ some (k, v) := by
  rcases Nat.lt_or_ge j ents.size with h' | h'
  · exact h j v h'
  · exact F.out h'
end
theorem hasH_eq {ents : Array DictEntry} {hv : Int} {i : Nat} (hi : i < ents.size) (hp : hasH ents hv i = true) : (ents[i].hash == hv) = true := by
  rw [hasH, Array.getElem?_eq_getElem hi, Option.map_some] at hp
  simpa using hp

section
variable {prog : Program} {w : World} {E : Value → Shared → Prop} {d : Addr} {o : Obj} {ents : Array DictEntry} {ep : Nat} {es : List (V × V)} {key : Value} {k : V} {hv : Int} {Q : Option Nat → Shared → Prop}
/-- the walk over entries that are carried by value -/
theorem find_plain (ho : s.heap.get? d = some o) (hd : o.data = .dict ents ep) (F : Fk A s ents es key k hv) (hnone : (∀ (i : Nat) (v : V), es[i]? ≠ some (k, v)) → Q none s) (hsome : ∀ (i : Nat) (v : V), es[i]? = some (k, v) → Q (some i) s) :
    wpAny (model prog w) A (dictWalkPlain d key hv ents ((List.range ents.size).filter (hasH ents hv))) Q E s := by
  refine wpAny_bind (find_loop (fun i b => b = (none, ()) ∧ ∀ (j : Nat) v, j < i → es[j]? ≠ some (k, v)) ⟨rfl, fun _ _ h => absurd h (Nat.not_lt_zero _)⟩ (fun i b hp h => ⟨h.1, Fk.less h.2 (F.skip hp)⟩) ?_ ?_)
  · intro x b hlt hp h
    obtain ⟨rfl, hno⟩ := h
    obtain ⟨k', v', he, _, eqb⟩ := F.get x hlt
    simp only [Array.getElem?_eq_getElem hlt]
    rw [if_pos (hasH_eq hlt hp)]
    refine wpAny_bind (wpAny_dictEpoch ho hd (wpAny_bind (eqb _ _ _ _ (wpAny_bind (wpAny_dictEpoch ho hd ?_)))))
    rw [if_neg (by simp)]
    by_cases hkk : k' = k
    · rw [decide_eq_true hkk]
      exact wpAny_bind (wpAny_rule (wpAny_pure (wpAny_pure (hsome x v' (hkk ▸ he)))))
    · rw [decide_eq_false hkk]
      exact wpAny_bind (wpAny_rule (wpAny_pure ⟨rfl, rfl, Fk.less hno fun v hv => by rw [he] at hv; cases hv; exact hkk rfl⟩))
  · intro b h
    obtain ⟨rfl, hno⟩ := h
    exact wpAny_pure (hnone (F.none hno))

theorem ite_bind {α : Type} {c : Prop} [Decidable c] {m : Sem Bool} {f : Bool → Sem α} {Q : α → Shared → Prop} (hp : wpAny (model prog w) A (f false) Q E s) (ht : ¬ c → ∀ Q' : Bool → Shared → Prop, Q' false s → wpAny (model prog w) A m Q' E s) :
    wpAny (model prog w) A (if c then f false else m >>= f) Q E s := by
  by_cases h : c
  · rw [if_pos h]; exact hp
  · rw [if_neg h]; exact wpAny_bind (ht h _ hp)
theorem ite_of {α : Type} {c : Prop} [Decidable c] {a b : Sem α} {Q : α → Shared → Prop} (h1 : wpAny (model prog w) A a Q E s) (h2 : wpAny (model prog w) A b Q E s) : wpAny (model prog w) A (if c then a else b) Q E s := by
  by_cases h : c
  · rw [if_pos h]; exact h1
  · rw [if_neg h]; exact h2
theorem ite_or {α : Type} {c : Prop} [Decidable c] {a b : Sem α} {Q : α → Shared → Prop} (h1 : c → wpAny (model prog w) A a Q E s) (h2 : wpAny (model prog w) A b Q E s) : wpAny (model prog w) A (if c then a else b) Q E s := by
  by_cases h : c
  · rw [if_pos h]; exact h1 h
  · rw [if_neg h]; exact h2
theorem ite_no {α : Type} {c : Prop} [Decidable c] {a b : Sem α} {Q : α → Shared → Prop} (h : ¬ c) (h2 : wpAny (model prog w) A b Q E s) : wpAny (model prog w) A (if c then a else b) Q E s := by
  rw [if_neg h]; exact h2
/-- the walk that may ask again -/
theorem find_tail {stored : List Value} (ho : s.heap.get? d = some o) (hd : o.data = .dict ents ep) (F : Fk A s ents es key k hv) (hnone : (∀ (i : Nat) (v : V), es[i]? ≠ some (k, v)) → Q none s) (hsome : ∀ (i : Nat) (v : V), es[i]? = some (k, v) → Q (some i) s)
    (told : ∀ Q' : Bool → Shared → Prop, Q' false s → wpAny (model prog w) A (tableMayTell key stored) Q' E s) :
    wpAny (model prog w) A (do
          let tells ← if stored == [key] then pure false else tableMayTell key stored
          if tells && stored.length ≥ 2 then unsupported "dict.find:order-among-keys-of-one-hash"
          let mut hit : Option Nat := none
          for i in (List.range ents.size).filter (hasH ents hv) do
            if let some e := ents[i]? then
              if e.hash == hv then
                let before ← dictEpoch d (keyPart key)
                let same ← eqBool e.key key
                if (← dictEpoch d (keyPart key)) != before then unsupported "dict.changed-during-lookup"
                if same then
                  if hit.isSome then unsupported "dict.find:order-among-keys-of-one-hash"
                  rule "dict.find.hit"
                  if stored.length < 2 then return some i
                  hit := some i
                else
                  rule "dict.find.same-hash-other-key"
                  if tells && !(0 ≤ hv && hv < 32) then unsupported "dict.find:asked-again-or-not-hangs-on-the-table"
          return hit) Q E s := by
  dsimp only
  refine ite_bind ?_ fun _ => told
  rw [if_neg (by simp)]
  refine wpAny_bind (find_loop (fun i b => ∃ hit, b = (none, hit) ∧ ((hit = none ∧ ∀ (j : Nat) v, j < i → es[j]? ≠ some (k, v)) ∨ ∃ j v, hit = some j ∧ j < i ∧ es[j]? = some (k, v))) ⟨none, rfl, .inl ⟨rfl, fun _ _ h => absurd h (Nat.not_lt_zero _)⟩⟩ ?_ ?_ ?_)
  · intro i b hp h
    obtain ⟨hit, rfl, h⟩ := h
    refine ⟨hit, rfl, ?_⟩
    rcases h with ⟨h0, hno⟩ | ⟨j, v, h1, h2, h3⟩
    · exact .inl ⟨h0, Fk.less hno (F.skip hp)⟩
    · exact .inr ⟨j, v, h1, by omega, h3⟩
  · intro x b hlt hp h
    obtain ⟨hit, rfl, h⟩ := h
    obtain ⟨k', v', he, _, eqb⟩ := F.get x hlt
    simp only [Array.getElem?_eq_getElem hlt]
    rw [if_pos (hasH_eq hlt hp)]
    refine wpAny_bind (wpAny_dictEpoch ho hd (wpAny_bind (eqb _ _ _ _ (wpAny_bind (wpAny_dictEpoch ho hd ?_)))))
    rw [if_neg (by simp)]
    by_cases hkk : k' = k
    · rw [decide_eq_true hkk]
      subst hkk
      rcases h with ⟨rfl, _⟩ | ⟨j, p, _, hjx, hj⟩
      · simp only [Option.isSome_none, Bool.false_eq_true, if_false, if_true]
        refine wpAny_bind (wpAny_rule ?_)
        split
        · exact wpAny_pure (wpAny_pure (hsome x _ he))
        · exact wpAny_pure ⟨rfl, some x, rfl, .inr ⟨x, _, rfl, Nat.lt_succ_self x, he⟩⟩
      · exact absurd (keys_idx F.nd hj he) (by omega)
    · rw [decide_eq_false hkk]
      simp only [Bool.false_eq_true, if_false, Bool.false_and]
      refine wpAny_bind (wpAny_rule (wpAny_pure ⟨rfl, hit, rfl, ?_⟩))
      rcases h with ⟨h0, hno⟩ | ⟨j, v, h1, h2, h3⟩
      · exact .inl ⟨h0, Fk.less hno fun v hv => by rw [he] at hv; cases hv; exact hkk rfl⟩
      · exact .inr ⟨j, v, h1, by omega, h3⟩
  · intro b h
    obtain ⟨hit, rfl, h⟩ := h
    rcases h with ⟨rfl, hno⟩ | ⟨j, p, rfl, _, hj⟩
    · exact wpAny_pure (hnone (F.none hno))
    · exact wpAny_pure (hsome j p hj)

/-- the table whose keys are strs -/
theorem find_str {x : Str} {t : Tok} (ho : s.heap.get? d = some o) (hd : o.data = .dict ents ep) (F : Fk A s ents es (.str x t) k hv) (hstr : ∀ i (hi : i < ents.size) k' v', es[i]? = some (k', v') → ents[i].key.isStr x = decide (k' = k))
    (hnone : (∀ (i : Nat) (v : V), es[i]? ≠ some (k, v)) → Q none s) (hsome : ∀ (i : Nat) (v : V), es[i]? = some (k, v) → Q (some i) s) : wpAny (model prog w) A (foundByValue d (.str x t) ents x) Q E s := by
  unfold foundByValue
  cases hf : ents.findIdx? (fun e => e.key.isStr x) with
  | none =>
    refine wpAny_pure (hnone fun j v hj => ?_)
    have hjl : j < ents.size := by rw [F.sz]; exact (List.getElem?_eq_some_iff.mp hj).1
    have := Array.findIdx?_eq_none_iff.mp hf ents[j] (Array.getElem_mem hjl)
    rw [hstr j hjl _ _ hj] at this
    simp at this
  | some i =>
    obtain ⟨hlt, hi, _⟩ := Array.findIdx?_eq_some_iff_getElem.mp hf
    obtain ⟨k', v', he, _, eqb⟩ := F.get i hlt
    rw [hstr i hlt _ _ he] at hi
    have hkk : k' = k := of_decide_eq_true hi
    subst hkk
    simp only [Array.getElem?_eq_getElem hlt]
    refine wpAny_bind (wpAny_dictEpoch ho hd (wpAny_bind (eqb _ _ _ _ (wpAny_bind (wpAny_dictEpoch ho hd ?_)))))
    rw [if_neg (by simp), decide_eq_true rfl]
    exact wpAny_bind (wpAny_rule (wpAny_pure (hsome i v' he)))
end

theorem kinds {h : Heap} {key : Value} {k : V} (rk : RepV ι h key k) (hk : k.isKey = true) : (∃ i t, key = .int i t) ∨ (∃ x t, key = .str x t) ∨ ∃ a, key = .ref a := by
  cases k with
  | int => obtain ⟨t, rfl⟩ := rk.intI; exact .inl ⟨_, _, rfl⟩
  | str => obtain ⟨x, t, rfl, _⟩ := rk.strInv; exact .inr (.inl ⟨_, _, rfl⟩)
  | tup => obtain ⟨a, _, _, rfl, _⟩ := rk.tupI; exact .inr (.inr ⟨_, rfl⟩)
  | _ => cases hk
theorem find_key {prog : Program} {E : Value → Shared → Prop} (S : St cx ι ρ H s) (hu : A.units + 9 < cLine) {d : Addr} {o : Obj} {ents : Array DictEntry} {ep : Nat} {es : List (V × V)} {key : Value} {k : V}
    {Q : Option Nat → Shared → Prop} (ho : s.heap.get? d = some o) (hd : o.data = .dict ents ep) (re : RepEs cx.w ι s.heap ents.toList es) (nd : (es.map (·.1)).Nodup) (rk : RepV ι s.heap key k) (hk : k.isKey = true)
    (hnone : (∀ (i : Nat) (v : V), es[i]? ≠ some (k, v)) → Q none s) (hsome : ∀ (i : Nat) (v : V), es[i]? = some (k, v) → Q (some i) s) :
    wpAny (model prog cx.w) A (dictFind d key (hashK cx.w k)) Q E s := by
  have F : Fk A s ents es key k (hashK cx.w k) := ⟨nd, fun i hi => by
    obtain ⟨k', v', he, hh, r1, _, h1⟩ := re.get (e := ents[i]) (i := i) (by simp [hi])
    exact ⟨k', v', he, fun e => e ▸ hh, eq_key S hu r1 rk h1 hk⟩, by rw [← Array.length_toList, re.length]⟩
  have plain := find_plain (prog := prog) (w := cx.w) (E := E) ho hd F hnone hsome
  have tail : ∀ {stored : List Value}, (∀ v ∈ stored, ∃ k', RepV ι s.heap v k' ∧ k'.isKey = true) → _ := fun {stored} hst =>
    find_tail (stored := stored) (prog := prog) (w := cx.w) (E := E) ho hd F hnone hsome fun _ q => tells_key rk hk hst q
  have hst : ∀ v ∈ (placesWithHash ents.size (fun i => ents[i]?.map (·.hash)) (hashK cx.w k)).filterMap (fun i => ents[i]?.map (·.key)), ∃ k', RepV ι s.heap v k' ∧ k'.isKey = true := by
    intro v hv
    obtain ⟨i, _, hi⟩ := List.mem_filterMap.mp hv
    obtain ⟨e, hei, rfl⟩ := Option.map_eq_some_iff.mp hi
    obtain ⟨k', _, _, _, r1, _, h1⟩ := re.get (i := i) (e := e) (by simpa using hei)
    exact ⟨k', r1, h1⟩
  have tail := tail hst
  have hany : ¬ (ents.any fun e => e.key == key && e.hash != hashK cx.w k) = true := by
    rw [← Array.any_toList, List.any_eq_true]
    rintro ⟨e, hin, hc⟩
    obtain ⟨i, hi⟩ := List.mem_iff_getElem?.mp hin
    obtain ⟨k', _, _, h1, r1, _, _⟩ := re.get hi
    simp only [Bool.and_eq_true, beq_iff_eq, bne_iff_ne, ne_eq] at hc
    rw [hc.1] at r1
    rw [RepV.fn S r1 rk] at h1
    exact hc.2 h1
  clear nd hst
  have hstr : ∀ {x : Str} {t : Tok}, key = .str x t → (ents.all fun e => isExactStrKey e.key) = true → ∀ i (hi : i < ents.size) k' v', es[i]? = some (k', v') → ents[i].key.isStr x = decide (k' = k) := by
    intro x t e hex i hi k' v' he
    subst e
    obtain ⟨k'', v'', he', _, r1, _, h1⟩ := re.get (e := ents[i]) (i := i) (by simp [hi])
    rw [he] at he'; cases he'
    have hx := Array.all_eq_true.mp hex i hi
    cases hkey : ents[i].key with
    | str y t' =>
      rw [hkey] at r1
      cases r1
      cases rk
      show (y == x) = _
      by_cases q : y = x
      · subst q; simp
      · have : ¬ y.cps.toList = x.cps.toList := fun e => q (str_inj e)
        simp [q, this]
    | _ => rw [hkey] at hx; simp [isExactStrKey] at hx
  clear S re
  refine wpAny_holding (wpAny_bind (wpAny_dictEntries ho hd ?_))
  rcases kinds rk hk with ⟨i, t, rfl⟩ | ⟨x, t, rfl⟩ | ⟨a, rfl⟩
  · exact ite_of plain tail
  · exact ite_or (fun hex => find_str ho hd F (hstr rfl hex) hnone hsome) (ite_of plain tail)
  · exact ite_of plain (ite_no hany tail)
end
end Tw
end

section
namespace Tw
open PySem PySem.SeqAt

noncomputable def atomIs : Int ⊕ Str → Value → Bool
  | .inl i, v => Value.isInt i v
  | .inr x, v => Value.isStrOf x v
theorem atomIs_shape {k : Int ⊕ Str} {v : Value} (h : atomIs k v = true) : (∃ i t, k = .inl i ∧ v = .int i t) ∨ ∃ x t, k = .inr x ∧ v = .str x t := by
  cases k with
  | inl i => obtain ⟨t, rfl⟩ := Value.isInt_shape h; exact .inl ⟨i, t, rfl, rfl⟩
  | inr x => obtain ⟨t, rfl⟩ := Value.isStrOf_shape h; exact .inr ⟨x, t, rfl, rfl⟩

noncomputable def atomKind (prog : Program) (w : World) : KeyKind prog w (Int ⊕ Str) where
  is := atomIs
  hash := fun k => match k with | .inl i => hashInt i | .inr x => hashStr w x
  inj := fun v a b ha hb => by
    rcases atomIs_shape ha with ⟨i, t, rfl, rfl⟩ | ⟨x, t, rfl, rfl⟩ <;> rcases atomIs_shape hb with ⟨j, u, rfl, e⟩ | ⟨y, u, rfl, e⟩ <;> cases e <;> rfl
  byValue := fun k v h => by rcases atomIs_shape h with ⟨i, t, rfl, rfl⟩ | ⟨x, t, rfl, rfl⟩ <;> rfl
  pyHash := fun hv h => by
    rcases atomIs_shape hv with ⟨i, t, rfl, rfl⟩ | ⟨x, t, rfl, rfl⟩
    · exact wpAny_pyHash_int h
    · exact wpAny_pyHash_str h
  eqBool := fun hu hv h => by
    rcases atomIs_shape hu with ⟨i, t, rfl, rfl⟩ | ⟨x, t, rfl, rfl⟩ <;> rcases atomIs_shape hv with ⟨j, u, rfl, rfl⟩ | ⟨y, u, rfl, rfl⟩
    · refine EqAt.int_int _ _ _ _ _ _ _ _ ?_
      rw [show (i == j) = decide ((Sum.inl i : Int ⊕ Str) = Sum.inl j) from by by_cases q : i = j <;> simp [q]]; exact h
    · refine EqAt.int_str _ _ _ _ _ _ _ _ ?_
      simpa using h
    · refine EqAt.str_int _ _ _ _ _ _ _ _ ?_
      simpa using h
    · refine EqAt.str_str _ _ _ _ _ _ _ _ ?_
      rw [show (x == y) = decide ((Sum.inr x : Int ⊕ Str) = Sum.inr y) from by by_cases q : x = y <;> simp [q]]; exact h
  «strs» := fun k x t v h => by
    rcases atomIs_shape h with ⟨i, u, rfl, e⟩ | ⟨y, u, rfl, e⟩
    · cases e
    · cases e
      cases v <;> rfl

section
variable {cx : Cx} {ι : List Addr} {ρ : Rho} {H : H} {s : Shared} {A : Around} {prog : Program} {E : Value → Shared → Prop}

theorem str_of_toList (x : Str) : (⟨x.cps.toList.toArray⟩ : Str) = x := by cases x; simp

theorem atoms_items {h : Heap} {xs : List Value} {vs : List V} (r : RepVs ι h xs vs) : vs.all V.isAtom = true →
    ∃ ks, ItemsAre (atomKind prog cx.w) ks xs ∧ ks.map (atomKind prog cx.w).hash = vs.map (hashA cx.w) := by
  induction xs generalizing vs with
  | nil => cases r; exact fun _ => ⟨[], .nil, rfl⟩
  | cons y ys ih =>
    cases r with
    | cons g r =>
      intro hh
      rw [List.all_cons, Bool.and_eq_true] at hh
      obtain ⟨ks, h1, h2⟩ := ih r hh.2
      cases g with
      | int i t => exact ⟨.inl i :: ks, .cons (by simp [atomKind, atomIs, Value.isInt]) h1, by rw [List.map_cons, List.map_cons, h2]; rfl⟩
      | str x t z => exact ⟨.inr x :: ks, .cons (by simp [atomKind, atomIs, Value.isStrOf]) h1, by rw [List.map_cons, List.map_cons, h2]; show hashStr cx.w x :: _ = hashStr cx.w ⟨x.cps.toList.toArray⟩ :: _; rw [str_of_toList]⟩
      | _ => exact Bool.noConfusion hh.1

theorem hash_key (hu : A.units < cLine) {u : Value} {k : V} {Q : Int → Shared → Prop} (r : RepV ι s.heap u k) (h : k.isKey = true)
    (q : ∀ tk, Q (hashK cx.w k) { s with toks := tk }) : wpAny (model prog cx.w) A (pyHash u) Q E s := by
  cases r with
  | none => exact Bool.noConfusion h
  | bool => exact Bool.noConfusion h
  | rng => exact Bool.noConfusion h
  | ref => exact Bool.noConfusion h
  | int i t => exact wpAny_pyHash_int (q _)
  | str x t z =>
    refine wpAny_pyHash_str ?_
    have := q (s.toks + 1)
    simpa [hashK, hashA] using this
  | @tup a n vals vs g z r =>
    obtain ⟨ks, h1, h2⟩ := atoms_items (prog := prog) (cx := cx) r h
    refine wpAny_pyHash_tuple (knd := atomKind prog cx.w) hu (ks := ks) ⟨_, vals, n, g, rfl, rfl, h1⟩ ?_
    have := q (s.toks + (ks.length + 1))
    rw [tupleKeyHash, h2]; exact this

theorem dget_at {es : List (V × V)} (nd : (es.map (·.1)).Nodup) {i : Nat} {k v : V} (h : es[i]? = some (k, v)) : dget es k = some v := by
  induction es generalizing i with
  | nil => simp at h
  | cons e r ih =>
    simp only [List.map_cons, List.nodup_cons] at nd
    cases i with
    | zero => simp at h; subst h; simp [dget]
    | succ i =>
      simp only [List.getElem?_cons_succ] at h
      have hm : k ∈ r.map (·.1) := List.mem_map.mpr ⟨(k, v), List.mem_of_getElem? h, rfl⟩
      have hne : ¬ e.1 = k := fun q => nd.1 (q ▸ hm)
      have := ih nd.2 h
      simpa [dget, List.find?_cons, hne] using this
theorem dget_none {es : List (V × V)} {k : V} (h : ∀ (i : Nat) (v : V), es[i]? ≠ some (k, v)) : dget es k = none := by
  have : (es.find? fun e => decide (e.1 = k)) = none := by
    rw [List.find?_eq_none]
    intro x hx hk
    obtain ⟨j, hj⟩ := List.mem_iff_getElem?.mp hx
    have hk' : x.1 = k := of_decide_eq_true hk
    exact h j x.2 (by rw [hj, ← hk'])
  simp [dget, this]
theorem dget_iff {es : List (V × V)} {k : V} : (dget es k).isSome = decide (k ∈ es.map (·.1)) := by
  induction es with
  | nil => simp [dget]
  | cons e r ih =>
    by_cases h : e.1 = k
    · simp [dget, h]
    · have h' : ¬ k = e.1 := fun q => h q.symm
      have e1 : dget (e :: r) k = dget r k := by simp [dget, h]
      rw [e1, ih]
      simp [h']

theorem keys_map_dput (es : List (V × V)) (k v : V) : (es.map (fun e => if e.1 = k then (e.1, v) else e)).map (·.1) = es.map (·.1) := by
  induction es with
  | nil => rfl
  | cons e r ih =>
    simp only [List.map_cons, ih]
    by_cases h : e.1 = k <;> simp [h]
theorem dput_nodup {es : List (V × V)} (nd : (es.map (·.1)).Nodup) (k v : V) : ((dput es k v).map (·.1)).Nodup := by
  unfold dput
  split
  · rw [keys_map_dput]; exact nd
  · rename_i h
    rw [List.map_append, List.nodup_append]
    refine ⟨nd, by simp, fun x hx y hy => ?_⟩
    simp at hy; subst hy
    rintro rfl
    rw [dget_iff] at h
    simp only [decide_eq_true_eq] at h
    exact h hx

theorem map_dput_not_mem (es : List (V × V)) (k v : V) (h : k ∉ es.map (·.1)) : es.map (fun e => if e.1 = k then (e.1, v) else e) = es := by
  induction es with
  | nil => rfl
  | cons e r ih =>
    simp only [List.map_cons, List.mem_cons, not_or] at h ⊢
    rw [if_neg (fun q => h.1 q.symm), ih h.2]

theorem RepEs.modify {w : World} {h : Heap} {ents : List DictEntry} {es : List (V × V)} (re : RepEs w ι h ents es) (nd : (es.map (·.1)).Nodup) {i : Nat} {k v₀ v : V} {val : Value} (hi : es[i]? = some (k, v₀)) (rv : RepV ι h val v) :
    RepEs w ι h (ents.modify i fun e => { e with val := val }) (es.map (fun e => if e.1 = k then (e.1, v) else e)) := by
  induction re generalizing i with
  | nil => simp at hi
  | @cons e ents k' v' r a b c d re ih =>
    simp only [List.map_cons, List.nodup_cons] at nd
    cases i with
    | zero =>
      simp at hi
      obtain ⟨rfl, rfl⟩ := hi
      simp only [List.modify_zero_cons, List.map_cons, if_true]
      rw [map_dput_not_mem r k' v nd.1]
      exact .cons a b rv d re
    | succ i =>
      simp only [List.getElem?_cons_succ] at hi
      have hm : k ∈ r.map (·.1) := List.mem_map.mpr ⟨(k, v₀), List.mem_of_getElem? hi, rfl⟩
      have hne : ¬ k' = k := fun q => nd.1 (q ▸ hm)
      simp only [List.modify_succ_cons, List.map_cons, if_neg hne]
      exact .cons a b c d (ih nd.2 hi)
theorem RepEs.push {w : World} {h : Heap} {ents : List DictEntry} {es : List (V × V)} (re : RepEs w ι h ents es) {k v : V} {key val : Value} (rk : RepV ι h key k) (rv : RepV ι h val v) (hk : k.isKey = true) :
    RepEs w ι h (ents ++ [⟨hashK w k, key, val⟩]) (es ++ [(k, v)]) := by
  induction re with
  | nil => exact .cons rfl rk rv hk .nil
  | cons a b c d _ ih => exact .cons a b c d ih

/-- the dict at address d, as the state tells it -/
structure DictAt (cx : Cx) (ι : List Addr) (s : Shared) (d : Addr) (es : List (V × V)) (ents : Array DictEntry) (ep : Nat) : Prop where
  get : s.heap.get? d = some { cls := .type "dict", data := .dict ents ep }
  rep : RepEs cx.w ι s.heap ents.toList es
  nd : (es.map (·.1)).Nodup
  le : es.length ≤ SZ
theorem St.dict (S : St cx ι ρ H s) {n : Nat} {d : Addr} {es : List (V × V)} {ep : Nat} (hi : ι[n]? = some d) (hH : H[n]? = some (.dict es ep)) : ∃ ents, DictAt cx ι s d es ents ep := by
  obtain ⟨ents, g, re, nd, le⟩ := S.objOf hi hH
  exact ⟨ents, g, re, nd, le⟩

theorem dictGet_key (S : St cx ι ρ H s) (hu : A.units + 9 < cLine) {d : Addr} {es : List (V × V)} {ents : Array DictEntry} {ep : Nat} (D : DictAt cx ι s d es ents ep) {key : Value} {k : V} {Q : Option Value → Shared → Prop}
    (rk : RepV ι s.heap key k) (hk : k.isKey = true) (hnone : dget es k = none → ∀ tk, Q none { s with toks := tk }) (hsome : ∀ v val, dget es k = some v → RepV ι s.heap val v → ∀ tk, Q (some val) { s with toks := tk }) :
    wpAny (model prog cx.w) A (dictGet d key) Q E s := by
  unfold dictGet
  refine wpAny_holding (wpAny_bind (hash_key (cx := cx) (by omega) rk hk fun tk => wpAny_bind ?_))
  refine find_key (S.toks tk) hu (s := { s with toks := tk }) D.get rfl D.rep D.nd rk hk (fun h => wpAny_pure (hnone (dget_none h) tk)) fun i v h => ?_
  refine wpAny_bind (wpAny_dictEntries (s := { s with toks := tk }) D.get rfl ?_)
  obtain ⟨e, he, _, _, rv, _⟩ := D.rep.get' h
  have he' : ents[i]? = some e := by simpa using he
  rw [he']
  exact wpAny_pure (hsome v _ (dget_at D.nd h) rv tk)

theorem dictSetH_key (S : St cx ι ρ H s) (hu : A.units + 9 < cLine) {n : Nat} {d : Addr} (hi : ι[n]? = some d) {es : List (V × V)} {ents : Array DictEntry} {ep : Nat} (hH : H[n]? = some (.dict es ep)) (D : DictAt cx ι s d es ents ep) (hlt : es.length < SZ) {key val : Value} {k v : V} {Q : Unit → Shared → Prop}
    (rk : RepV ι s.heap key k) (rv : RepV ι s.heap val v) (hk : k.isKey = true)
    (q : ∀ ver s', St cx ι ρ (H.set n (.dict (dput es k v) ver)) s' → Mono ι s ι s' → Q () s') :
    wpAny (model prog cx.w) A (dictSetHashed d key (hashK cx.w k) val) Q E s := by
  unfold dictSetHashed
  refine wpAny_holding (wpAny_bind ?_)
  have hsz : ents.size = es.length := by rw [← Array.length_toList, D.rep.length]
  have imm : ∀ f, Imm s.heap (s.heap.update d f) := fun f => .of_but (Heap.SameBut.update ..).extBut fun o e => by rw [D.get] at e; cases e; exact notImm_dict rfl
  refine find_key S hu D.get rfl D.rep D.nd rk hk (fun h => ?_) fun i v₀ h => ?_
  · have hn := dget_none h
    refine wpAny_bind (wpAny_rule (wpAny_updateDictKeys (hz := by rw [← SZ_eq]; omega) D.get rfl ?_))
    have e : dput es k v = es ++ [(k, v)] := by simp [dput, hn]
    have R := S.set (h' := s.heap.update d (Obj.mapDictKeys fun x => x.push ⟨hashK cx.w k, key, val⟩)) (o' := .dict (dput es k v) (ep + 1)) s.toks hi (fun vs e => by rw [hH] at e; cases e) (Heap.SameBut.update ..).extBut ?_
    · exact q _ _ R.1 ⟨R.2.pre, R.2.imm⟩
    · refine ⟨ents.push ⟨hashK cx.w k, key, val⟩, ?_, ?_, dput_nodup D.nd k v, ?_⟩
      · exact Heap.get?_update_self _ D.get rfl
      · rw [e]
        simpa using (D.rep.mono (List.prefix_refl _) (imm _)).push (rk.mono (List.prefix_refl _) (imm _)) (rv.mono (List.prefix_refl _) (imm _)) hk
      · rw [e]; simp; omega
  · have hs := dget_at D.nd h
    refine wpAny_bind (wpAny_rule (wpAny_bind (wpAny_updateDict D.get rfl (wpAny_point ?_))))
    have e : dput es k v = es.map (fun e => if e.1 = k then (e.1, v) else e) := by simp [dput, hs]
    have R := S.set (h' := s.heap.update d (Obj.mapDict fun x => x.modify i fun e => { e with val := val })) (o' := .dict (dput es k v) ep) s.toks hi (fun vs e => by rw [hH] at e; cases e) (Heap.SameBut.update ..).extBut ?_
    · exact q _ _ R.1 ⟨R.2.pre, R.2.imm⟩
    · refine ⟨ents.modify i (fun e => { e with val := val }), ?_, ?_, dput_nodup D.nd k v, ?_⟩
      · exact Heap.get?_update_self _ D.get rfl
      · rw [e]
        have := (D.rep.mono (List.prefix_refl _) (imm (Obj.mapDict fun x => x.modify i fun e => { e with val := val }))).modify D.nd h (rv.mono (List.prefix_refl _) (imm _))
        simpa using this
      · rw [e]; simp; omega
theorem dictSet_key (S : St cx ι ρ H s) (hu : A.units + 9 < cLine) {n : Nat} {d : Addr} (hi : ι[n]? = some d) {es : List (V × V)} {ents : Array DictEntry} {ep : Nat} (hH : H[n]? = some (.dict es ep)) (D : DictAt cx ι s d es ents ep) (hlt : es.length < SZ) {key val : Value} {k v : V} {Q : Unit → Shared → Prop}
    (rk : RepV ι s.heap key k) (rv : RepV ι s.heap val v) (hk : k.isKey = true)
    (q : ∀ ver s', St cx ι ρ (H.set n (.dict (dput es k v) ver)) s' → Mono ι s ι s' → Q () s') :
    wpAny (model prog cx.w) A (dictSet d key val) Q E s := by
  unfold dictSet
  refine wpAny_holding (wpAny_bind (hash_key (cx := cx) (by omega) rk hk fun tk => ?_))
  exact dictSetH_key (s := { s with toks := tk }) (S.toks tk) hu hi hH ⟨D.get, D.rep, D.nd, D.le⟩ hlt rk rv hk fun ver s' S' M => q ver s' S' ⟨M.pre, M.imm⟩
end
end Tw
end

section
namespace Tw
open PySem PySem.SeqAt

structure AOk (A : Around) (d : Nat) : Prop where
  hd : A.handled = none
  dp : A.depth + d < recursionLimit
  un : A.units + 4 * d + 100 < cLine
theorem AOk.u {A : Around} {d : Nat} (a : AOk A d) : A.units + 50 < cLine := by have := a.un; omega

/-- the value, the state behind it -/
inductive Post (cx : Cx) (ι : List Addr) (ρ : Rho) (s : Shared) (Q : V → H → Prop) (val : Value) (s' : Shared) : Prop
  | mk (v : V) (ι' : List Addr) (H' : H) (M : Mono ι s ι' s') (S : St cx ι' ρ H' s') (r : RepV ι' s'.heap val v) (q : Q v H')
/-- a test's answer; the heap stays -/
inductive PostB (s : Shared) (Q : Bool → Prop) (val : Value) (s' : Shared) : Prop
  | mk (r : Bool) (tk : Nat) (e : val = .bool r) (e' : s' = { s with toks := tk }) (q : Q r)
/-- a value that is read; the heap stays -/
inductive PostR (ι : List Addr) (s : Shared) (Q : V → Prop) (val : Value) (s' : Shared) : Prop
  | mk (v : V) (tk : Nat) (e : s' = { s with toks := tk }) (r : RepV ι s.heap val v) (q : Q v)

section
variable {cx : Cx} {ι : List Addr} {ρ : Rho} {H : H} {s : Shared} {A : Around} {prog : Program} {E : Value → Shared → Prop}

theorem Mono.tk (tk : Nat) : Mono ι s ι { s with toks := tk } := ⟨List.prefix_refl _, .refl _⟩

theorem Post.tok (S : St cx ι ρ H s) {val : Value} {v : V} {Q : V → Tw.H → Prop} (r : RepV ι s.heap val v) (q : Q v H) (tk : Nat) : Post cx ι ρ s Q val { s with toks := tk } :=
  ⟨v, ι, H, .tk tk, S.toks tk, r, q⟩
theorem Post.here (S : St cx ι ρ H s) {val : Value} {v : V} {Q : V → Tw.H → Prop} (r : RepV ι s.heap val v) (q : Q v H) : Post cx ι ρ s Q val s := ⟨v, ι, H, .refl _ _, S, r, q⟩
theorem PostR.post (S : St cx ι ρ H s) {val : Value} {s' : Shared} {Q : V → Tw.H → Prop} (p : PostR ι s (fun v => Q v H) val s') : Post cx ι ρ s Q val s' := by
  obtain ⟨v, tk, rfl, r, q⟩ := p; exact .tok S r q tk
theorem PostB.post (S : St cx ι ρ H s) {val : Value} {s' : Shared} {Q : V → Tw.H → Prop} (p : PostB s (fun r => Q (.bool r) H) val s') : Post cx ι ρ s Q val s' := by
  obtain ⟨r, tk, rfl, rfl, q⟩ := p; exact .tok S (.bool r) q tk

theorem get?_fresh {h : Heap} {o : Obj} (hf : o.isFreed = false) : (h.push o).get? h.objs.size = some o := Heap.get?_push_size _ hf

/-- a new mutable object at a fresh address -/
theorem St.new (S : St cx ι ρ H s) (ok : CxOk cx) {h' : Heap} {a : Addr} {o : MO} (tk : Nat) (hk : ∀ b ob, s.heap.get? b = some ob → h'.get? b = some ob) (ha : s.heap.objs.size ≤ a) (r : RepO cx.w ι h' a o) :
    St cx (ι ++ [a]) ρ (H ++ [o]) { s with heap := h', toks := tk } ∧ Mono ι s (ι ++ [a]) { s with heap := h', toks := tk } := by
  obtain ⟨f1, f2, f3, f4, f5⟩ := S.fresh ok ha
  exact ⟨(S.ext tk hk).alloc r f1 f2 f3 f4 f5, ⟨List.prefix_append _ _, .of_ext hk⟩⟩
theorem rep_last (S : St cx ι ρ H s) {h : Heap} (a : Addr) : RepV (ι ++ [a]) h (.ref a) (.ref H.length) := .ref (by rw [← S.len]; simp)

theorem Post.list (S : St cx ι ρ H s) (ok : CxOk cx) {vals : Array Value} {n : Nat} {vs : List V} {Q : V → Tw.H → Prop} (r : RepVs ι s.heap vals.toList vs) (hl : vs.length ≤ SZ) (q : Q (.ref H.length) (H ++ [.list vs])) (tk : Nat) :
    Post cx ι ρ s Q (.ref s.heap.objs.size) { s with heap := s.heap.push { cls := .type "list", data := .seq vals n }, toks := tk } := by
  have hk : ∀ b ob, s.heap.get? b = some ob → (s.heap.push { cls := .type "list", data := .seq vals n }).get? b = some ob := fun _ _ e => Heap.get?_push_of_some _ e
  obtain ⟨S', M⟩ := S.new ok (o := .list vs) tk hk (Nat.le_refl _) ⟨vals, n, get?_fresh rfl, r.mono (List.prefix_refl _) (.of_ext hk), hl⟩
  exact ⟨_, _, _, M, S', rep_last S _, q⟩
theorem Post.dict (S : St cx ι ρ H s) (ok : CxOk cx) {Q : V → Tw.H → Prop} (q : Q (.ref H.length) (H ++ [.dict [] 0])) (tk : Nat) :
    Post cx ι ρ s Q (.ref s.heap.objs.size) { s with heap := s.heap.push { cls := .type "dict", data := .dict #[] }, toks := tk } := by
  have hk : ∀ b ob, s.heap.get? b = some ob → (s.heap.push { cls := .type "dict", data := .dict #[] }).get? b = some ob := fun _ _ e => Heap.get?_push_of_some _ e
  obtain ⟨S', M⟩ := S.new ok (o := .dict [] 0) tk hk (Nat.le_refl _) ⟨#[], get?_fresh rfl, .nil, List.nodup_nil, Nat.zero_le _⟩
  exact ⟨_, _, _, M, S', rep_last S _, q⟩
theorem Post.tup (S : St cx ι ρ H s) {vals : Array Value} {n : Nat} {vs : List V} {Q : V → Tw.H → Prop} (r : RepVs ι s.heap vals.toList vs) (hl : vs.length ≤ SZ) (q : Q (.tup vs) H) (tk : Nat) :
    Post cx ι ρ s Q (.ref s.heap.objs.size) { s with heap := s.heap.push { cls := .type "tuple", data := .seq vals n }, toks := tk } := by
  have hk : ∀ b ob, s.heap.get? b = some ob → (s.heap.push { cls := .type "tuple", data := .seq vals n }).get? b = some ob := fun _ _ e => Heap.get?_push_of_some _ e
  exact ⟨.tup vs, ι, H, .ext hk, S.ext tk hk, .tup (get?_fresh rfl) (by rw [← Array.length_toList, r.length]; exact hl) (r.mono (List.prefix_refl _) (.of_ext hk)), q⟩

theorem len_app (x y : Str) : (x ++ y).length = x.length + y.length := by
  show (Str.append x y).length = _
  cases x; cases y; simp [Str.append, Str.length]
theorem toList_app (x y : Str) : (x ++ y).cps.toList = x.cps.toList ++ y.cps.toList := by
  show (Str.append x y).cps.toList = _
  cases x; cases y; simp [Str.append]
theorem len_toList (x : Str) : x.cps.toList.length = x.length := by cases x; simp [Str.length]

theorem bits_of {a : Int} (h : a.natAbs < 2 ^ 63) : Builtin.Int.intBits a ≤ 64 := by
  unfold Builtin.Int.intBits
  split
  · omega
  · rename_i h0
    have h0' : a.natAbs ≠ 0 := by simpa using h0
    have := (Nat.log2_lt h0').mpr h
    omega
theorem mulOk_ok {a b : Int} (h : mulOk a b) : IntMulOk a b := h.elim (fun h => .of_left (bits_of h)) fun h => .of_right (bits_of h)

noncomputable def Bop.py : Bop → Operator
  | .add => .Add | .sub => .Sub | .mul => .Mult | .fdiv => .FloorDiv | .mod => .Mod

theorem add_sound (S : St cx ι ρ H s) (ok : CxOk cx) {x y : Value} {a b : V} {Q : V → Tw.H → Prop} (ra : RepV ι s.heap x a) (rb : RepV ι s.heap y b) (h : AddW a b H Q) :
    wpAny (model prog cx.w) A (binaryOp .Add x y) (Post cx ι ρ s Q) E s := by
  cases a with
  | int i =>
    obtain ⟨j, rfl, h⟩ := asInt.inv h
    obtain ⟨t, rfl⟩ := ra.intI
    obtain ⟨u, rfl⟩ := rb.intI
    exact PySem.P.add_int (.tok S (.int _ _) h _)
  | str v =>
    obtain ⟨w, rfl, h0, h⟩ := asStr.inv h
    obtain ⟨x, t, rfl, rfl, z⟩ := ra.strInv
    obtain ⟨y, u, rfl, rfl, z'⟩ := rb.strInv
    have hz : x.length + y.length ≤ SZ := by rw [len_toList, len_toList] at h0; exact h0
    exact PyProof.Rows.add_str (fun t' tk => .tok S (.strOf (toList_app x y) (by rw [len_app]; exact hz)) h tk) hz
  | ref m =>
    obtain ⟨n, rfl, vs, ws, h1, h2, h3, h4⟩ := asRef.inv h
    obtain ⟨a, rfl, gi⟩ := ra.refI
    obtain ⟨b, rfl, gj⟩ := rb.refI
    obtain ⟨va, na, g, r, _⟩ := S.objOf gi h1
    obtain ⟨vb, nb, g', r', _⟩ := S.objOf gj h2
    have l1 : va.size = vs.length := by rw [← Array.length_toList, r.length]
    have l2 : vb.size = ws.length := by rw [← Array.length_toList, r'.length]
    refine P.add_list g g' ?_ (by rw [l1, l2]; exact h3)
    exact Post.list S ok (vs := vs ++ ws) (by rw [Array.toList_append]; exact r.append r') (by rw [List.length_append]; exact h3) h4 s.toks
  | _ => exact h.elim

theorem mul_sound (S : St cx ι ρ H s) (ok : CxOk cx) {x y : Value} {a b : V} {Q : V → Tw.H → Prop} (ra : RepV ι s.heap x a) (rb : RepV ι s.heap y b) (h : MulW a b H Q) :
    wpAny (model prog cx.w) A (binaryOp .Mult x y) (Post cx ι ρ s Q) E s := by
  cases a with
  | int i =>
    obtain ⟨j, rfl, h⟩ := asInt.inv h
    obtain ⟨t, rfl⟩ := ra.intI
    obtain ⟨u, rfl⟩ := rb.intI
    exact PySem.P.mul_int (.tok S (.int _ _) h.2 _) (mulOk_ok h.1)
  | _ => exact h.elim

theorem bin_sound (S : St cx ι ρ H s) (ok : CxOk cx) {op : Bop} {x y : Value} {a b : V} {Q : V → Tw.H → Prop} (ra : RepV ι s.heap x a) (rb : RepV ι s.heap y b) (h : BinW op a b H Q) :
    wpAny (model prog cx.w) A (binaryOp op.py x y) (Post cx ι ρ s Q) E s := by
  cases op with
  | add => exact add_sound S ok ra rb h
  | mul => exact mul_sound S ok ra rb h
  | sub =>
    obtain ⟨i, rfl, h⟩ := asInt.inv h
    obtain ⟨j, rfl, h⟩ := asInt.inv h
    obtain ⟨t, rfl⟩ := ra.intI
    obtain ⟨u, rfl⟩ := rb.intI
    exact PySem.P.sub_int (.tok S (.int _ _) h _)
  | fdiv =>
    obtain ⟨i, rfl, h⟩ := asInt.inv h
    obtain ⟨j, rfl, h⟩ := asInt.inv h
    obtain ⟨t, rfl⟩ := ra.intI
    obtain ⟨u, rfl⟩ := rb.intI
    exact PyProof.Rows.floordiv_int h.1 (.tok S (.int _ _) h.2.2 _) (Or.inl (PyProof.noPylong_small h.2.1))
  | mod =>
    obtain ⟨i, rfl, h⟩ := asInt.inv h
    obtain ⟨j, rfl, h⟩ := asInt.inv h
    obtain ⟨t, rfl⟩ := ra.intI
    obtain ⟨u, rfl⟩ := rb.intI
    exact PyProof.Rows.mod_int' h.1 (.tok S (.int _ _) h.2 _)
end
end Tw
end

section
namespace Tw
open PySem PySem.SeqAt

section
variable {cx : Cx} {ι : List Addr} {ρ : Rho} {H : H} {s : Shared} {A : Around} {prog : Program} {E : Value → Shared → Prop}

noncomputable def Cmp.py : Cmp → CmpOp
  | .eq => .Eq | .ne => .NotEq | .lt => .Lt | .le => .LtE | .gt => .Gt | .ge => .GtE | .isIn => .In | .notIn => .NotIn | .is => .Is | .isNot => .IsNot

theorem EqW.snap {a b : V} {Q : Bool → Prop} (h : EqW a b H Q) : (∃ p q, a = .bool p ∧ b = .bool q ∧ Q (decide (p = q))) ∨
    ∃ d₁ d₂, Snap H a d₁ ∧ Snap H b d₂ ∧ D.ok 9 d₁ = true ∧ D.ok 9 d₂ = true ∧ Q (decide (d₁ = d₂)) := by
  cases a with
  | bool p => obtain ⟨q, rfl, h⟩ := asBool.inv h; exact .inl ⟨_, _, rfl, rfl, h⟩
  | _ => exact .inr h

theorem eq_sound (S : St cx ι ρ H s) (hu : A.units + 50 < cLine) {x y : Value} {a b : V} {Q : Bool → Prop} (ra : RepV ι s.heap x a) (rb : RepV ι s.heap y b) (h : EqW a b H Q) :
    ∃ k, Q k ∧ EqAll A s x y k := by
  rcases h.snap with ⟨p, q, rfl, rfl, h⟩ | ⟨d₁, d₂, s1, s2, o1, o2, h⟩
  · obtain rfl := ra.boolI
    obtain rfl := rb.boolI
    refine ⟨_, h, ?_⟩
    have e : decide (p = q) = (p == q) := by cases p <;> cases q <;> rfl
    rw [e]
    exact ⟨RcAt.bool_bool _ _, EqAt.bool_bool _ _, RcNeAt.bool_bool _ _⟩
  · exact ⟨_, h, eq_snap S 9 (by omega) ra rb s1 s2 o1 o2⟩

theorem PostB.here {Q : Bool → Prop} {r : Bool} (q : Q r) : PostB s Q (.bool r) s := ⟨r, s.toks, rfl, rfl, q⟩

open Classical in
theorem in_list_sound (S : St cx ι ρ H s) (hu : A.units + 50 < cLine) {x : Value} {a : V} {n : Nat} {l : Addr} {vs : List V} {d : D} {ds : List D} (ra : RepV ι s.heap x a) (gi : ι[n]? = some l) (hH : H[n]? = some (.list vs))
    (sa : Snap H a d) (sv : Snaps H vs ds) (od : D.ok 9 d = true) (ods : ∀ d ∈ ds, D.ok 9 d = true) :
    ∃ (items : Array Value) (e : Value → Bool), s.heap.IsList l items ∧ (∀ y, y ∈ items → EqAt A.in1 s y x (e y)) ∧ items.any e = decide (d ∈ ds) := by
  obtain ⟨vals, m, g, r, _⟩ := S.objOf gi hH
  have one : ∀ (y : Value), y ∈ vals → ∃ v d', RepV ι s.heap y v ∧ Snap H v d' ∧ d' ∈ ds := by
    intro y hy
    obtain ⟨i, hi⟩ := List.mem_iff_getElem?.mp (Array.mem_toList_iff.mpr hy)
    obtain ⟨v, hv, rv⟩ := r.get' hi
    have hl : i < ds.length := by rw [← sv.length]; exact (List.getElem?_eq_some_iff.mp hv).1
    exact ⟨v, ds[i], rv, sv.get hv (List.getElem?_eq_getElem hl), List.getElem_mem hl⟩
  let e : Value → Bool := fun y => decide (∃ v d', RepV ι s.heap y v ∧ Snap H v d' ∧ d' = d)
  have ee : ∀ {y : Value} {v : V} {d' : D}, RepV ι s.heap y v → Snap H v d' → e y = decide (d' = d) := by
    intro y v d' rv sd
    by_cases q : d' = d
    · subst q
      have : e y = true := decide_eq_true ⟨v, d', rv, sd, rfl⟩
      rw [this]; simp
    · have : e y = false := decide_eq_false (by
        rintro ⟨v', d'', rv', sd', rfl⟩
        have := RepV.fn S rv rv'
        subst this
        exact q (Snap.fn sd sd'))
      rw [this]; simp [q]
  refine ⟨vals, e, isList_of g, fun y hy => ?_, ?_⟩
  · obtain ⟨v, d', rv, sd, hm⟩ := one y hy
    rw [ee rv sd]
    have := (eq_snap S 9 (A := A.in1) (by show A.units + 1 + 9 < cLine; omega) rv ra sd sa (ods d' hm) od).eq
    exact this
  · rw [Bool.eq_iff_iff, decide_eq_true_iff, Array.any_eq_true]
    constructor
    · rintro ⟨i, hi, he⟩
      obtain ⟨v, d', rv, sd, hm⟩ := one vals[i] (Array.getElem_mem hi)
      rw [ee rv sd] at he
      have := of_decide_eq_true he
      subst this; exact hm
    · intro hm
      obtain ⟨i, hi⟩ := List.mem_iff_getElem?.mp hm
      have hl : i < vs.length := by rw [sv.length]; exact (List.getElem?_eq_some_iff.mp hi).1
      obtain ⟨y, hy, ry⟩ := r.get (List.getElem?_eq_getElem hl)
      have hy' : vals[i]? = some y := by simpa using hy
      obtain ⟨hlt, rfl⟩ := Array.getElem?_eq_some_iff.mp hy'
      exact ⟨i, hlt, by rw [ee ry (sv.get (List.getElem?_eq_getElem hl) hi)]; simp⟩

theorem St.notMods (S : St cx ι ρ H s) {n : Nat} {d : Addr} (gi : ι[n]? = some d) : (d == sysModules) = false := by
  have h1 := S.low d (List.mem_of_getElem? gi)
  simpa using h1

theorem in_dict_sound (S : St cx ι ρ H s) (hu : A.units + 50 < cLine) {x : Value} {a : V} {n : Nat} {d : Addr} {es : List (V × V)} {ep : Nat} {Q : Bool → Prop} (ra : RepV ι s.heap x a) (gi : ι[n]? = some d) (hH : H[n]? = some (.dict es ep))
    (hk : a.isKey = true) (h : Q (decide (a ∈ es.map (·.1)))) (f : Bool → Bool) (Q' : Bool → Prop) (hf : ∀ r, Q r → Q' (f r)) :
    wpAny (model prog cx.w) A (contains (.ref d) x) (fun r s' => ∃ tk, s' = { s with toks := tk } ∧ Q' (f r)) E s := by
  obtain ⟨ents, D⟩ := S.dict gi hH
  have hT : s.TypeIs (.ref d) "dict" := ⟨_, D.get, rfl⟩
  unfold contains
  refine wpAny_holding ?_
  refine wpAny_bind (wpAny_specialOf hT slot_dict_contains.lookup ?_)
  show wpAny _ _ (if (some (Value.builtin "dict.__contains__") == some Value.none) = true then _ else _) _ E s
  rw [if_neg (by rw [beq_builtin_none]; exact Bool.false_ne_true)]
  refine wpAny_bind (wpAny_callSpecialUnlessNone?_slot (name := Str.ofString "__contains__") hT slot_dict_contains
    (wpAny_call_entry slot_dict_contains hT entry_dict_contains ?_ (args_dict_contains _ _)))
  show wpAny _ _ (dictGet d x >>= _) _ _ s
  refine wpAny_bind (dictGet_key S (by show A.units + 1 + 9 < cLine; omega) D ra hk (fun hn tk => ?_) fun v val hv rv tk => ?_)
  · show wpAny _ _ (Builtin.Dict.pendingKey? d x >>= _) _ _ _
    refine wpAny_bind (wpAny_pendingKey_other (S.notMods gi) (wpAny_pure ⟨_, rfl, wpAny_truthy_bool ⟨tk, rfl, hf _ ?_⟩⟩))
    have := dget_iff (es := es) (k := a)
    rw [hn] at this
    rw [← this] at h; exact h
  · show wpAny _ _ (ret (.bool true)) _ _ _
    refine wpAny_pure ⟨_, rfl, wpAny_truthy_bool ⟨tk, rfl, hf _ ?_⟩⟩
    have := dget_iff (es := es) (k := a)
    rw [hv] at this
    rw [← this] at h; exact h

theorem isSame_none (v : Value) : isSame v .none = pure (v == .none) := by cases v <;> rfl
theorem isSame_bool (b c : Bool) : isSame (.bool b) (.bool c) = pure (b == c) := by cases b <;> cases c <;> rfl
theorem rep_none {x : Value} {a : V} {h : Heap} (r : RepV ι h x a) : (x == .none) = decide (a = .none) := by
  cases r <;> first | (exact (decide_eq_true rfl).symm) | (exact (decide_eq_false nofun).symm)

/-- behind `is`: what is the same -/
theorem same_sound {x y : Value} {a b : V} {Q : Bool → Prop} {f : Bool → Value} {P : Value → Shared → Prop} (ra : RepV ι s.heap x a) (rb : RepV ι s.heap y b) (h : SameW a b Q) (q : ∀ r, Q r → P (f r) s) :
    wpAny (model prog cx.w) A (isSame x y >>= fun r => pure (f r)) P E s := by
  cases b with
  | none =>
    obtain rfl := rb.noneI
    rw [isSame_none, rep_none ra]; exact wpAny_bind (wpAny_pure (wpAny_pure (q _ h)))
  | bool c =>
    obtain ⟨d, rfl, h⟩ := asBool.inv h
    obtain rfl := rb.boolI
    obtain rfl := ra.boolI
    rw [isSame_bool]
    refine wpAny_bind (wpAny_pure (wpAny_pure (q _ ?_)))
    rw [show (d == c) = decide (d = c) from by cases d <;> cases c <;> rfl]; exact h
  | _ => exact h.elim

theorem cmp_sound (S : St cx ι ρ H s) (hu : A.units + 50 < cLine) {op : Cmp} {x y : Value} {a b : V} {Q : Bool → Prop} (ra : RepV ι s.heap x a) (rb : RepV ι s.heap y b) (h : CmpW op a b H Q) :
    wpAny (model prog cx.w) A (compareOp op.py x y) (PostB s Q) E s := by
  have bothI : ∀ {K : Int → Int → Prop}, (asInt a fun a => asInt b fun b => K a b) → ∃ i t j u, x = .int i t ∧ y = .int j u ∧ K i j := fun h0 => by
    obtain ⟨i, e1, h1⟩ := asInt.inv h0
    obtain ⟨j, e2, h2⟩ := asInt.inv h1
    rw [e1] at ra
    rw [e2] at rb
    obtain ⟨t, rfl⟩ := ra.intI
    obtain ⟨u, rfl⟩ := rb.intI
    exact ⟨i, t, j, u, rfl, rfl, h2⟩
  cases op with
  | eq =>
    obtain ⟨k, hq, e⟩ := eq_sound S hu ra rb h
    exact e.rc _ _ _ _ (.here hq)
  | ne =>
    obtain ⟨k, hq, e⟩ := eq_sound (Q := fun r => Q (!r)) S hu ra rb h
    exact e.ne _ _ _ _ (.here hq)
  | lt => obtain ⟨i, t, j, u, rfl, rfl, h⟩ := bothI h; exact PySem.P.lt_int (.here h)
  | le => obtain ⟨i, t, j, u, rfl, rfl, h⟩ := bothI h; exact PySem.P.le_int (.here h)
  | gt => obtain ⟨i, t, j, u, rfl, rfl, h⟩ := bothI h; exact PySem.P.gt_int (.here h)
  | ge => obtain ⟨i, t, j, u, rfl, rfl, h⟩ := bothI h; exact PySem.P.ge_int (.here h)
  | is => exact same_sound ra rb h fun r q => .here q
  | isNot => exact same_sound (Q := fun r => Q (!r)) (f := fun r => .bool (!r)) ra rb h fun r q => .here q
  | isIn =>
    obtain ⟨n, rfl, h1⟩ := asRef.inv h
    clear h
    obtain ⟨l, rfl, gi⟩ := rb.refI
    obtain ⟨o, hH, _⟩ := S.obj gi
    rw [hH] at h1
    have h := h1
    clear h1
    cases o with
    | list vs =>
      obtain ⟨d, ds, sa, sv, od, ods, hq⟩ := h
      obtain ⟨items, e, hl, he, ha⟩ := in_list_sound S hu ra gi hH sa sv od ods
      refine in_listAt e hl he ?_
      rw [ha]; exact .here hq
    | dict es ep => exact wpAny_bind (wpAny_mono (in_dict_sound S hu ra gi hH h.1 h.2 id Q fun _ q => q) (fun r s' h => wpAny_pure ⟨_, h.choose, rfl, h.choose_spec.1, h.choose_spec.2⟩) fun _ _ e => e)
    | frz vs => exact h.elim
  | notIn =>
    obtain ⟨n, rfl, h1⟩ := asRef.inv h
    clear h
    obtain ⟨l, rfl, gi⟩ := rb.refI
    obtain ⟨o, hH, _⟩ := S.obj gi
    rw [hH] at h1
    have h := h1
    clear h1
    cases o with
    | list vs =>
      obtain ⟨d, ds, sa, sv, od, ods, hq⟩ := h
      obtain ⟨items, e, hl, he, ha⟩ := in_list_sound S hu ra gi hH sa sv od ods
      refine notIn_listAt e hl he ?_
      rw [ha]; exact .here hq
    | dict es ep => exact wpAny_bind (wpAny_mono (in_dict_sound S hu ra gi hH (Q := fun r => Q (!r)) h.1 h.2 (fun r => !r) Q fun _ q => q) (fun r s' h => wpAny_pure ⟨_, h.choose, rfl, h.choose_spec.1, h.choose_spec.2⟩) fun _ _ e => e)
    | frz vs => exact h.elim

theorem not_slice {i : Expr} (hns : ∀ a b c p, i ≠ .Slice a b c p) (o iv : Value) : subscripted i false o iv = operate [o, iv] (getItem o iv) := by
  cases i <;> first | rfl | exact absurd rfl (hns _ _ _ _)

theorem seqIndex_nat {k : Int} {n : Nat} (h0 : 0 ≤ k) (h1 : k.toNat < n) : seqIndex? k n = some k.toNat := seqIndex_of h0 (by omega)

theorem sub_dict (S : St cx ι ρ H s) (hu : A.units + 50 < cLine) {l : Addr} {n ep : Nat} {es : List (V × V)} {y : Value} {i v : V} {Q : V → Prop} (gi : ι[n]? = some l) (hH : H[n]? = some (.dict es ep)) (ri : RepV ι s.heap y i) (hk : i.isKey = true) (hv : dget es i = some v) (hq : Q v) :
    wpAny (model prog cx.w) A (getItem (.ref l) y) (PostR ι s Q) E s := by
  obtain ⟨ents, D⟩ := S.dict gi hH
  have hT : s.TypeIs (.ref l) "dict" := ⟨_, D.get, rfl⟩
  refine wpAny_holding (wpAny_bind (wpAny_sequenceKey hT (by decide) ?_))
  refine wpAny_bind (wpAny_callSpecial?_slot (name := Str.ofString "__getitem__") hT slot_dict_getitem
    (wpAny_call_entry slot_dict_getitem hT entry_dict_getitem ?_ (args_dict_getitem _ _)))
  show wpAny _ _ (dictGet l y >>= _) _ _ s
  refine wpAny_bind (dictGet_key S (by show A.units + 1 + 9 < cLine; omega) D ri hk (fun hn tk => ?_) fun v' val hv' rv tk => ?_)
  · rw [hv] at hn; cases hn
  · rw [hv] at hv'; cases hv'
    exact wpAny_pure ⟨val, rfl, wpAny_pure ⟨v, tk, rfl, rv, hq⟩⟩
theorem sub_sound (S : St cx ι ρ H s) (hu : A.units + 50 < cLine) {value slice : Expr} (hns : ∀ a b c p, slice ≠ .Slice a b c p) {x y : Value} {a i : V} {Q : V → Prop} (ra : RepV ι s.heap x a) (ri : RepV ι s.heap y i) (h : SubW a i H Q) :
    wpAny (model prog cx.w) A (PyProof.Rows.subscriptTail value slice x y) (PostR ι s Q) E s := by
  cases a with
  | str w =>
    obtain ⟨k, rfl, c, h0, hc, hq⟩ := asInt.inv h
    obtain ⟨u, rfl⟩ := ri.intI
    obtain ⟨x, t, rfl, rfl, z⟩ := ra.strInv
    have hlt : k.toNat < x.length := by rw [← len_toList]; exact (List.getElem?_eq_some_iff.mp hc).1
    refine PyProof.Rows.tail_any (typeIs_str s x t) F.slot_str_getitem.lookup (PyProof.Rows.getItem_str (c := c) ?_ ?_ ?_) (not_slice hns _ _)
    · simp; omega
    · rw [seqIndex_nat h0.1 hlt]
      simpa using hc
    · exact ⟨.str [c], _, rfl, .strOf rfl (by show 1 ≤ SZ; decide), hq⟩
  | tup vs =>
    obtain ⟨k, rfl, v, h0, hv, hq⟩ := asInt.inv h
    obtain ⟨u, rfl⟩ := ri.intI
    obtain ⟨a, n, vals, rfl, g, z, r⟩ := ra.tupI
    obtain ⟨y, hy, ry⟩ := r.get hv
    have hlt : k.toNat < vals.size := by
      have := (List.getElem?_eq_some_iff.mp hy).1
      simpa using this
    exact PyProof.Rows.tail_any ⟨_, g, rfl⟩ F.slot_tuple_getitem.lookup (PySem.P.getItem_tuple g (by omega) (by omega) (seqIndex_nat h0.1 hlt) (by simpa using hy) ⟨v, s.toks, rfl, ry, hq⟩) (not_slice hns _ _)
  | ref n =>
    obtain ⟨l, rfl, gi⟩ := ra.refI
    obtain ⟨o, hH, _⟩ := S.obj gi
    unfold SubW at h
    dsimp only at h
    rw [hH] at h
    cases o with
    | list vs =>
      obtain ⟨k, rfl, h⟩ := asInt.inv h
      obtain ⟨u, rfl⟩ := ri.intI
      obtain ⟨vals, m, g, r, _⟩ := S.objOf gi hH
      rcases h with ⟨v, ⟨h0, h1⟩, hv, hq⟩ | ⟨v, rfl, hv, hq⟩
      · obtain ⟨y, hy, ry⟩ := r.get hv
        exact PyProof.Rows.tail_any ⟨_, g, rfl⟩ slot_list_getitem.lookup (wpAny_getItem_list (isList_of g) h0 (by omega) (by simpa using hy) ⟨v, s.toks, rfl, ry, hq⟩) (not_slice hns _ _)
      · have hl1 : vals.size = vs.length := by rw [← Array.length_toList, r.length]
        have hv' : vs[vs.length - 1]? = some v := by rw [← List.getLast?_eq_getElem?]; exact hv
        have hpos := (List.getElem?_eq_some_iff.mp hv').1
        obtain ⟨y, hy, ry⟩ := r.get hv'
        refine PyProof.Rows.tail_any ⟨_, g, rfl⟩ slot_list_getitem.lookup (wpAny_getItem_list_neg (isList_of g) (by decide) (by omega) (by decide) ?_ ⟨v, s.toks, rfl, ry, hq⟩) (not_slice hns _ _)
        rw [show ((-1 : Int) + vals.size).toNat = vs.length - 1 from by omega]
        simpa using hy
    | frz vs =>
      obtain ⟨k, rfl, v, ⟨h0, h1⟩, hv, hq⟩ := asInt.inv h
      obtain ⟨u, rfl⟩ := ri.intI
      obtain ⟨vals, g, r, _⟩ := S.objOf gi hH
      obtain ⟨y, hy, ry⟩ := r.get hv
      exact PyProof.Rows.tail_any g.typeIs slot_list_getitem.lookup (wpAny_getItem_list g h0 (by omega) (by simpa using hy) ⟨v, s.toks, rfl, ry, hq⟩) (not_slice hns _ _)
    | dict es ep =>
      obtain ⟨hk, v, hv, hq⟩ := h
      obtain ⟨ents, D⟩ := S.dict gi hH
      exact PyProof.Rows.tail_any ⟨_, D.get, rfl⟩ slot_dict_getitem.lookup (sub_dict S hu gi hH ri hk hv hq) (not_slice hns _ _)
  | _ => exact h.elim
end
end Tw
end

section
namespace Tw
open PySem PySem.SeqAt

/-! going through a dict's keys, whatever they are -/
section
variable {s : Shared} {A : Around} {prog : Program} {w : World} {E : Value → Shared → Prop}

theorem iter_raw {d : Addr} {ents : Array DictEntry} {ep : Nat} {Q : Value → Shared → Prop} (lo : (d == sysModules) = false) (g : s.heap.get? d = some { cls := .type "dict", data := .dict ents ep })
    (q : Q (.ref s.heap.objs.size) { s with heap := s.heap.push { cls := .type "dict_keyiterator", data := .fields #[.ref d, .int 0 0, .int ents.size 0, .int ep 0] } }) : wpAny (model prog w) A (pyIter (.ref d)) Q E s := by
  have hT : s.TypeIs (.ref d) "dict" := ⟨_, g, rfl⟩
  refine wpAny_pyIter_slot hT F.slot_dict_iter (wpAny_call_entry F.slot_dict_iter hT F.entry_dict_iter ?_ (F.args_dict_iter_1 _))
  unfold Builtin.«dict.__iter__» Builtin.Dict.dictSlotNone
  refine wpAny_bind (wpAny_bind (wpAny_notOrdered_dict hT (wpAny_pure ?_)))
  show wpAny _ _ (Builtin.Dict.showsAll d >>= _) _ _ s
  unfold Builtin.Dict.showsAll
  rw [if_neg (by rw [lo]; exact Bool.false_ne_true)]
  refine wpAny_bind (wpAny_pure (wpAny_bind (wpAny_dictEntries g rfl (wpAny_bind (wpAny_dictEpoch g rfl ?_)))))
  exact wpAny_bind (wpAny_newObj_type (wpAny_pure ⟨_, rfl, "dict_keyiterator", _, ⟨_, Heap.get?_push_size _ rfl, rfl⟩, F.slot_dict_keyiterator_next.lookup, q⟩))

/-- what next does up to the entry at hand -/
theorem next_raw {it d : Addr} {i ep : Nat} {ents : Array DictEntry} {Q : Option Value → Shared → Prop} (hh : A.handled = none) (hit : s.heap.IsKeyIter it d i ents.size ep) (g : s.heap.get? d = some { cls := .type "dict", data := .dict ents ep })
    (hi : ∀ e, ents[i]? = some e → ∀ h', h'.IsKeyIter it d (i + 1) ents.size ep → Heap.SameBut it s.heap h' → Q (some e.key) { s with heap := h' })
    (hn : ents[i]? = none → ∀ h', Heap.ExtBut it s.heap h' → Q none { s with heap := h' }) : wpAny (model prog w) A (pyNext (.ref it)) Q E s := by
  obtain ⟨o, ho, hc, hd⟩ := id hit
  unfold pyNext
  refine wpAny_bind (wpAny_attempt (wpAny_callSpecial?_slot (name := Str.ofString "__next__") hit.typeIs F.slot_dict_keyiterator_next
    (wpAny_call_entry F.slot_dict_keyiterator_next hit.typeIs F.entry_dict_keyiterator_next ?_ (F.args_dict_keyiterator_next_1 _))))
  refine wpAny_bind (wpAny_pure (wpAny_bind (wpAny_bind ?_)))
  first | refine wpAny_bind (wpAny_typeNameOfWhole_keyiter hit.typeIs (wpAny_pure ?_)) | refine wpAny_bind (wpAny_typeNameOf_keyiter hit.typeIs (wpAny_pure ?_))
  refine wpAny_bind (wpAny_fieldsOf ho hd ?_)
  have hown : Builtin.Dict_items.ownsTuple "dict_keyiterator" = false := by decide
  rw [hown, if_neg Bool.false_ne_true]
  show wpAny _ _ (if (Value.ref d == Value.none) = true then _ else _) _ _ s
  rw [if_neg (show ¬ ((Value.ref d == Value.none) = true) from Bool.false_ne_true)]
  refine wpAny_bind (wpAny_pure (wpAny_bind (wpAny_dictEntries g rfl ?_)))
  rw [if_neg (by simp)]
  refine wpAny_bind (wpAny_pure (wpAny_bind (wpAny_dictEpoch g rfl ?_)))
  rw [if_neg (by simp)]
  refine wpAny_pure ?_
  dsimp only
  rw [if_neg (show ¬ ((i : Int) < 0) from by omega), Int.toNat_natCast]
  cases hx : ents[i]? with
  | some e =>
    refine wpAny_bind ?_
    first | refine wpAny_bind (wpAny_typeNameOfWhole_keyiter hit.typeIs (wpAny_pure ?_)) | refine wpAny_bind (wpAny_typeNameOf_keyiter hit.typeIs (wpAny_pure ?_))
    refine wpAny_bind (wpAny_isOneOf_keyiter hit.typeIs ?_)
    show wpAny _ _ (setField (.ref it) 1 (rawInt ((i : Int) + 1)) >>= _) _ _ s
    refine wpAny_bind (wpAny_setField ho hd (by simp) ?_)
    have hit' : (s.heap.update it (Obj.mapFields (·.setIfInBounds 1 (rawInt ((i : Int) + 1))))).IsKeyIter it d (i + 1) ents.size ep :=
      ⟨_, Heap.get?_update_self _ ho (Obj.isFreed_of_fields (Obj.data_mapFields hd _)), (Obj.cls_mapFields ..).trans hc, by rw [Obj.data_mapFields hd]; simp [rawInt]⟩
    refine wpAny_bind (wpAny_holding ?_)
    refine wpAny_bind (wpAny_isOneOf_keyiter (s := { s with heap := s.heap.update it (Obj.mapFields (·.setIfInBounds 1 (rawInt ((i : Int) + 1)))) }) hit'.typeIs ?_)
    show wpAny _ _ (pure e.key) _ _ _
    exact wpAny_pure (wpAny_pure ⟨_, rfl, wpAny_pure (hi e hx _ hit' (Heap.SameBut.update ..))⟩)
  | none =>
    refine wpAny_bind ?_
    first | refine wpAny_bind (wpAny_typeNameOfWhole_keyiter hit.typeIs (wpAny_pure ?_)) | refine wpAny_bind (wpAny_typeNameOf_keyiter hit.typeIs (wpAny_pure ?_))
    show wpAny _ _ (setField (.ref it) 0 .none >>= _) _ _ s
    refine wpAny_bind (wpAny_setField ho hd (by simp) ?_)
    show wpAny _ _ (newExc (.type "StopIteration") [] >>= _) _ _ _
    refine wpAny_bind ?_
    simp only [newExc, newTuple]
    refine wpAny_bind (wpAny_newObj_type ?_ (by size_fits))
    refine wpAny_bind (m := firstArgMember _ _) (wpAny_of_eq (a := Value.none) (by first | rfl | (simp only [firstArgMember]; rfl)) ?_)
    refine wpAny_newObj_type ?_ (by size_fits)
    unfold raiseNew
    refine wpAny_bind (wpAny_handled ?_)
    rw [show A.in1.handled = none from hh]
    refine wpAny_bind (wpAny_pure (wpAny_throw ?_))
    refine wpAny_bind (wpAny_isInstance (T := "StopIteration") (b := true) ⟨_, Heap.get?_push_size _ rfl, rfl⟩ isSubtype_stop ?_)
    exact wpAny_pure (hn hx _ (((Heap.SameBut.update ..).extBut.push _).push _))
end
end Tw
end

section
namespace Tw
open PySem PySem.SeqAt

section
variable {cx : Cx} {ι : List Addr} {ρ : Rho} {H : H} {s : Shared} {A : Around} {prog : Program} {E : Value → Shared → Prop}

/-! an address of our own, aside of all that the frame sees -/
structure Aside (cx : Cx) (a : Addr) : Prop where
  np : ∀ ob, ¬ cx.P a ob
  nl : a ≠ cx.env.locals
  nc : ∀ x c, cx.env.cells.lookup x = some c → c ≠ a
theorem St.aside (S : St cx ι ρ H s) (ok : CxOk cx) {a : Addr} (ha : s.heap.objs.size ≤ a) : Aside cx a ∧ a ∉ ι := by
  obtain ⟨f1, f2, f3, f4, f5⟩ := S.fresh ok ha
  exact ⟨⟨f3, f4, f5⟩, f1⟩
theorem CxOk.keepA (ok : CxOk cx) {a : Addr} (as : Aside cx a) (o : Obj) : CxOk (cx.keep a o) := ok.keep as.nl fun x c _ l => as.nc x c l

/-- something aside turned, or came, or went -/
theorem St.but (S : St cx ι ρ H s) {a : Addr} (as : Aside cx a) (hI : a ∉ ι) {h' : Heap} (tk : Nat) (hs : Heap.ExtBut a s.heap h') (hno : ∀ o, s.heap.get? a = some o → ¬ isImm o) :
    St cx ι ρ H { s with heap := h', toks := tk } ∧ Mono ι s ι { s with heap := h', toks := tk } := by
  have imm : Imm s.heap h' := .of_but hs hno
  refine ⟨?_, ⟨List.prefix_refl _, imm⟩⟩
  exact {
    same := by obtain ⟨h, t, rfl⟩ := S.same; exact ⟨h', tk, rfl⟩
    len := S.len
    nodup := S.nodup
    objs := fun k b o₂ hb ho₂ => (S.objs k b o₂ hb ho₂).mono (List.prefix_refl _) imm fun ob e => hs _ _ (fun e' => hI (e' ▸ List.mem_of_getElem? hb)) e
    low := S.low
    scr := fun o e => hs _ _ (fun e' => hI (e' ▸ S.scrIn)) (S.scr o e)
    scrI := S.scrI
    scrIn := S.scrIn
    prot := fun b ob p => hs _ _ (fun e => as.np ob (e ▸ p)) (S.prot b ob p)
    protI := S.protI
    ns := let ⟨m, n⟩ := S.ns; ⟨m, n.extBut hs fun e => as.nl e.symm⟩
    nsI := S.nsI
    cells := fun y c l => by
      obtain ⟨⟨ov, oc, gc, dc⟩, h1, h2⟩ := S.cells y c l
      exact ⟨⟨ov, oc, hs _ _ (as.nc y c l) gc, dc⟩, h1, h2⟩
    vars := fun x i v hx hv => by
      obtain ⟨val, va, rv⟩ := S.vars x i v hx hv
      exact ⟨val, va.extBut hs (fun e => as.nl e.symm) as.nc, rv.mono (List.prefix_refl _) imm⟩ }
theorem St.kept {a : Addr} {o : Obj} (S : St (cx.keep a o) ι ρ H s) : s.heap.get? a = some o := S.prot a o (.inr ⟨rfl, rfl⟩)
theorem St.keptI {a : Addr} {o : Obj} (S : St (cx.keep a o) ι ρ H s) : a ∉ ι := S.protI a o (.inr ⟨rfl, rfl⟩)

/-! iterators -/
noncomputable def ItRep (ι : List Addr) (h : Heap) (o : Obj) : It → Prop
  | .seq n i => ∃ l, ι[n]? = some l ∧ o.cls = .type "list_iterator" ∧ o.data = .fields #[.ref l, .int i 0]
  | .vals vs => (∃ (t : Addr) (i : Nat) (items : Array Value) (n : Nat), o.cls = .type "tuple_iterator" ∧ o.data = .fields #[.ref t, .int i 0] ∧ h.get? t = some { cls := .type "tuple", data := .seq items n } ∧ i ≤ items.size ∧ RepVs ι h (items.toList.drop i) vs) ∨
      (∃ (x left step : Int), o = { cls := .type "range_iterator", data := .fields #[rawInt x, rawInt left, rawInt step] } ∧ 0 ≤ left ∧ vs = intsV x step left.toNat)
  | .keys n ver len i => ∃ d, ι[n]? = some d ∧ (d == sysModules) = false ∧ o.cls = .type "dict_keyiterator" ∧ o.data = .fields #[.ref d, .int i 0, .int len 0, .int ver 0]

theorem ItRep.mono {ι ι' : List Addr} {h h' : Heap} {o : Obj} {i : It} (hi : ι <+: ι') (hm : Imm h h') (r : ItRep ι h o i) : ItRep ι' h' o i := by
  cases i with
  | keys n ver len i =>
    obtain ⟨l, g, z, c, d⟩ := r
    refine ⟨l, ?_, z, c, d⟩
    obtain ⟨t, rfl⟩ := hi
    rw [List.getElem?_append_left (List.getElem?_eq_some_iff.mp g).1]; exact g
  | seq n i =>
    obtain ⟨l, g, c, d⟩ := r
    refine ⟨l, ?_, c, d⟩
    obtain ⟨t, rfl⟩ := hi
    rw [List.getElem?_append_left (List.getElem?_eq_some_iff.mp g).1]; exact g
  | vals vs =>
    rcases r with ⟨t, i, items, n, c, d, g, le, rv⟩ | q
    · exact .inl ⟨t, i, items, n, c, d, hm _ _ g (.inl ⟨rfl, _, _, rfl⟩), le, rv.mono hi hm⟩
    · exact .inr q
theorem ItRep.notImm {ι : List Addr} {h : Heap} {o : Obj} {i : It} (r : ItRep ι h o i) : ¬ isImm o := by
  cases i with
  | keys n ver len i => obtain ⟨l, g, _, c, d⟩ := r; exact notImm_fields d c (by decide)
  | seq n i => obtain ⟨l, g, c, d⟩ := r; exact notImm_fields d c (by decide)
  | vals vs =>
    rcases r with ⟨t, i, items, n, c, d, _⟩ | ⟨x, l, st, rfl, _⟩
    · exact notImm_fields d c (by decide)
    · exact notImm_fields rfl rfl (by decide)

theorem fits_small {a : Int} (h : smallI a) : Builtin.Range.rangeFitsLong a = true := by
  unfold smallI at h
  unfold Builtin.Range.rangeFitsLong
  simp only [Bool.and_eq_true, decide_eq_true_eq]
  omega
theorem rangeSize_eq {a b c : Int} (hc : 0 < c) : Builtin.Range.rangeSize a b c = (rangeLen a b c : Int) := by
  unfold Builtin.Range.rangeSize rangeLen
  rw [if_pos hc]
  split
  · have : 0 ≤ (b - a - 1) / c := Int.ediv_nonneg (by omega) (by omega)
    omega
  · rfl
theorem rangeLen_le {a b c : Int} (hc : 0 < c) (h : a < b) : (rangeLen a b c : Int) ≤ b - a := by
  unfold rangeLen
  rw [if_pos h]
  have h0 : 0 ≤ (b - a - 1) / c := Int.ediv_nonneg (by omega) (by omega)
  have h1 : (b - a - 1) / c ≤ b - a - 1 := Int.ediv_le_self _ (by omega)
  omega
theorem small_range {a b c : Int} (h : smallI a ∧ smallI b ∧ smallI c ∧ 0 < c) : Builtin.Range.small a b c = true := by
  obtain ⟨ha, hb, hc, h0⟩ := h
  unfold Builtin.Range.small
  rw [rangeSize_eq h0, fits_small ha, fits_small hb, fits_small hc, if_pos h0]
  have e1 : Builtin.Range.rangeFitsLong (rangeLen a b c : Int) = true := by
    unfold Builtin.Range.rangeFitsLong
    simp only [Bool.and_eq_true, decide_eq_true_eq]
    unfold smallI at ha hb
    by_cases h : a < b
    · have := rangeLen_le h0 h; omega
    · simp [rangeLen, h]
  have e2 : Builtin.Range.rangeFitsLong (b + (c - 1)) = true := by
    unfold smallI at hb hc
    unfold Builtin.Range.rangeFitsLong
    simp only [Bool.and_eq_true, decide_eq_true_eq]
    omega
  rw [e1, e2]; simp

inductive PostI (cx : Cx) (ι : List Addr) (ρ : Rho) (H : Tw.H) (s : Shared) (Q : It → Prop) (it : Value) (s' : Shared) : Prop
  | mk (a : Addr) (o : Obj) (i : It) (e : it = .ref a) (as : Aside cx a) (S : St (cx.keep a o) ι ρ H s') (M : Mono ι s ι s') (r : ItRep ι s'.heap o i) (q : Q i)
inductive PostX (cx : Cx) (ι : List Addr) (ρ : Rho) (H : Tw.H) (s : Shared) (it : Addr) (item : V → It → Prop) (x : Value) (s' : Shared) : Prop
  | mk (v : V) (i' : It) (o' : Obj) (q : item v i') (S : St (cx.keep it o') ι ρ H s') (M : Mono ι s ι s') (r : RepV ι s'.heap x v) (ri : ItRep ι s'.heap o' i')
/-- iter(x) -/
theorem iter_sound (S : St cx ι ρ H s) (ok : CxOk cx) {x : Value} {v : V} {Q : It → Prop} (r : RepV ι s.heap x v) (h : IterW v H Q) :
    wpAny (model prog cx.w) A (pyIter x) (PostI cx ι ρ H s Q) E s := by
  have fin : ∀ (o : Obj) (i : It), o.isFreed = false → (∀ h', (∀ b ob, s.heap.get? b = some ob → h'.get? b = some ob) → ItRep ι h' o i) → Q i →
      PostI cx ι ρ H s Q (Value.ref s.heap.objs.size) { s with heap := s.heap.push o } := by
    intro o i hf hr hq
    have hk : ∀ b ob, s.heap.get? b = some ob → (s.heap.push o).get? b = some ob := fun _ _ e => Heap.get?_push_of_some _ e
    obtain ⟨as, hI⟩ := S.aside ok (Nat.le_refl _)
    exact ⟨_, o, i, rfl, as, (S.ext s.toks hk).keep (get?_fresh hf) hI, .ext (tk := s.toks) hk, hr _ hk, hq⟩
  cases v with
  | tup vs =>
    obtain ⟨a, n, vals, rfl, g, z, rv⟩ := r.tupI
    refine wpAny_pyIter_tuple (isTuple_of g) ?_
    exact fin _ (.vals vs) rfl (fun h' hk => .inl ⟨a, 0, vals, n, rfl, rfl, hk _ _ g, Nat.zero_le _, by simpa using rv.mono (List.prefix_refl _) (.of_ext hk)⟩) h
  | rng x y z =>
    obtain ⟨a, t, u, v, rfl, g, hs⟩ := r.rngI
    refine wpAny_pyIter_range g (small_range hs) ?_
    refine fin _ (.vals (rangeV x y z)) rfl (fun h' hk => .inr ⟨x, _, z, rfl, by rw [rangeSize_eq hs.2.2.2]; omega, ?_⟩) h
    rw [rangeSize_eq hs.2.2.2]; simp [rangeV]
  | ref n =>
    obtain ⟨a, rfl, gi⟩ := r.refI
    obtain ⟨o, hH, _⟩ := S.obj gi
    unfold IterW at h
    dsimp only at h
    rw [hH] at h
    cases o with
    | list vs =>
      obtain ⟨vals, m, g, rv, _⟩ := S.objOf gi hH
      refine wpAny_pyIter_list (isList_of g) ?_
      exact fin _ (.seq n 0) rfl (fun h' hk => ⟨a, gi, rfl, rfl⟩) h
    | dict es ep =>
      obtain ⟨ents, D⟩ := S.dict gi hH
      have lo := S.notMods gi
      refine iter_raw lo D.get ?_
      have e : ents.size = es.length := by rw [← Array.length_toList, D.rep.length]
      rw [e]
      exact fin _ (.keys n ep es.length 0) rfl (fun h' hk => ⟨a, gi, lo, rfl, rfl⟩) h
    | frz vs => exact h.elim
  | _ => exact h.elim

/-- next(it) -/
theorem next_sound {it : Addr} {o : Obj} (S : St (cx.keep it o) ι ρ H s) (as : Aside cx it) (hh : A.handled = none) {i : It} {stop : Prop} {item : V → It → Prop} (r : ItRep ι s.heap o i) (h : NextW i H stop item) :
    wpAny (model prog cx.w) A (pyNext (.ref it)) (fun v s' => match v with
      | none => stop ∧ St cx ι ρ H s' ∧ Mono ι s ι s'
      | some x => PostX cx ι ρ H s it item x s') E s := by
  have g := S.kept
  have hI := S.keptI
  have hno : ∀ ob, s.heap.get? it = some ob → ¬ isImm ob := fun ob e => by rw [g] at e; cases e; exact r.notImm
  have done : stop → ∀ h', Heap.ExtBut it s.heap h' → stop ∧ St cx ι ρ H { s with heap := h' } ∧ Mono ι s ι { s with heap := h' } := fun hs h' hk =>
    ⟨hs, S.unkeep.but as hI s.toks hk hno⟩
  have more : ∀ {x : Value} {v : V} {i' : It} {o' : Obj} {h' : Heap} (tk : Nat), item v i' → Heap.ExtBut it s.heap h' → h'.get? it = some o' → (Imm s.heap h' → RepV ι h' x v ∧ ItRep ι h' o' i') →
      PostX cx ι ρ H s it item x { s with heap := h', toks := tk } := by
    intro x v i' o' h' tk hq hk g' hr
    obtain ⟨S', M⟩ := S.unkeep.but as hI tk hk hno
    exact ⟨v, i', o', hq, S'.keep g' hI, M, (hr M.imm).1, (hr M.imm).2⟩
  cases i with
  | keys n ver len i =>
    obtain ⟨l, gi, lo, c, d⟩ := r
    obtain ⟨ob, hH, _⟩ := S.obj gi
    unfold NextW at h
    dsimp only at h
    rw [hH] at h
    cases ob with
    | list vs => exact h.elim
    | frz vs => exact h.elim
    | dict es ep =>
      obtain ⟨rfl, rfl, h⟩ := h
      obtain ⟨ents, D⟩ := S.dict gi hH
      have e : ents.size = es.length := by rw [← Array.length_toList, D.rep.length]
      have hit : s.heap.IsKeyIter it l i ents.size ep := ⟨o, g, c, by rw [d, e]⟩
      refine next_raw hh hit D.get (fun en hx h' hit' hs' => ?_) fun hx h' hk => ?_
      · have hx' : ents.toList[i]? = some en := by simpa using hx
        have hil : i < es.length := by rw [← e]; exact (Array.getElem?_eq_some_iff.mp hx).1
        rw [List.getElem?_eq_getElem hil] at h
        obtain ⟨en', he', _, rk, _, _⟩ := D.rep.get' (List.getElem?_eq_getElem hil)
        rw [hx'] at he'; cases he'
        obtain ⟨o', g', c', d'⟩ := hit'
        exact more s.toks h hs'.extBut g' fun imm => ⟨rk.mono (List.prefix_refl _) imm, l, gi, lo, c', by rw [d', e]⟩
      · have hil : es.length ≤ i := by rw [← e]; exact Array.getElem?_eq_none_iff.mp hx
        rw [List.getElem?_eq_none hil] at h
        exact done h h' hk
  | seq n i =>
    obtain ⟨l, gi, c, d⟩ := r
    obtain ⟨ob, hH, _⟩ := S.obj gi
    unfold NextW at h
    dsimp only at h
    rw [hH] at h
    cases ob with
    | dict es ep => exact h.elim
    | frz vs => exact h.elim
    | list vs =>
      dsimp only at h
      obtain ⟨vals, m, gl, rv, _⟩ := S.objOf gi hH
      have hit : s.heap.IsListIter it l i := ⟨o, g, c, d⟩
      cases hv : vs[i]? with
      | none =>
        rw [hv] at h
        refine wpAny_pyNext_list_end hh hit (isList_of gl) ?_ (done h)
        have : vals.size = vs.length := by rw [← Array.length_toList, rv.length]
        have := List.getElem?_eq_none_iff.mp hv
        exact Array.getElem?_eq_none (by omega)
      | some v =>
        rw [hv] at h
        obtain ⟨x, hx, rx⟩ := rv.get hv
        refine wpAny_pyNext_list_item hit (isList_of gl) (by simpa using hx) fun h' hit' hs' => ?_
        obtain ⟨o', g', c', d'⟩ := hit'
        exact more s.toks h hs'.extBut g' fun imm => ⟨rx.mono (List.prefix_refl _) imm, l, gi, c', d'⟩
  | vals vs =>
    rcases r with ⟨t, i, items, n, c, d, gt, le, rv⟩ | ⟨x, left, step, rfl, h0, rfl⟩
    · have hit : s.heap.IsTupleIter it t i := ⟨o, g, c, d⟩
      cases vs with
      | nil =>
        have hlen := rv.length
        simp at hlen
        refine wpAny_pyNext_tuple_end hh hit (isTuple_of gt) (Array.getElem?_eq_none (by omega)) (done h)
      | cons v vs =>
        have hlt : i < items.size := by have := rv.length; simp at this; omega
        have ed : items.toList.drop i = items[i] :: items.toList.drop (i + 1) := by
          rw [List.drop_eq_getElem_cons (by simpa using hlt)]; simp
        rw [ed] at rv
        cases rv with
        | cons rx rvs =>
          refine wpAny_pyNext_tuple_item hit (isTuple_of gt) (Array.getElem?_eq_getElem hlt) fun h' hit' hs' => ?_
          obtain ⟨o', g', c', d'⟩ := hit'
          exact more s.toks h hs'.extBut g' fun imm => ⟨rx.mono (List.prefix_refl _) imm, .inl ⟨t, i + 1, items, n, c', d', imm _ _ gt (.inl ⟨rfl, _, _, rfl⟩), hlt, rvs.mono (List.prefix_refl _) imm⟩⟩
    · by_cases hl : 0 < left
      · have e : left.toNat = (left - 1).toNat + 1 := by omega
        rw [e] at h
        refine wpAny_pyNext_range_item g hl fun h' hit' hs' => ?_
        exact more (s.toks + 1) h hs'.extBut hit' fun imm => ⟨.int _ _, .inr ⟨x + step, left - 1, step, rfl, by omega, rfl⟩⟩
      · have e : left.toNat = 0 := by omega
        rw [e] at h
        exact wpAny_pyNext_range_end hh g (by omega) (done h)

theorem owned_go {it : Addr} {o : Obj} {i : It} (S : St (cx.keep it o) ι ρ H s) (r : ItRep ι s.heap o i) {target : Expr} {v : Value} {Q : Unit → Shared → Prop} (q : Q () s) :
    wpAny (model prog cx.w) A (letOwnedTupleGo target (.ref it) v) Q E s := by
  have g := S.kept
  have key : ∀ {T : String} {vs : Array Value}, o.cls = .type T → o.data = .fields vs → (["enumerate", "zip", "dict_itemiterator", "dict_reverseitemiterator", "odict_iterator", "itertools.zip_longest", "itertools.pairwise"].contains T) = false →
      ∀ a : Addr, wpAny (model prog cx.w) A (do
        let o ← load it
        match o.cls, o.data with
        | .type n, .fields vs =>
          if ["enumerate", "zip", "dict_itemiterator", "dict_reverseitemiterator", "odict_iterator", "itertools.zip_longest", "itertools.pairwise"].contains n && vs[0]? == some (rawInt a) then
            rule "for.unpacks-the-owned-tuple"
            updateField it 0 .none
        | _, _ => pure ()) Q E s := by
    intro T vs c d hT a
    refine wpAny_bind (wpAny_load g ?_)
    rw [c, d]
    dsimp only
    rw [hT, Bool.false_and]
    exact wpAny_pure q
  have key' : ∀ a : Addr, wpAny (model prog cx.w) A (do
        let o ← load it
        match o.cls, o.data with
        | .type n, .fields vs =>
          if ["enumerate", "zip", "dict_itemiterator", "dict_reverseitemiterator", "odict_iterator", "itertools.zip_longest", "itertools.pairwise"].contains n && vs[0]? == some (rawInt a) then
            rule "for.unpacks-the-owned-tuple"
            updateField it 0 .none
        | _, _ => pure ()) Q E s := by
    cases i with
    | keys n ver len i => obtain ⟨l, gi, _, c, d⟩ := r; exact key c d (by decide)
    | seq n i => obtain ⟨l, gi, c, d⟩ := r; exact key c d (by decide)
    | vals vs =>
      rcases r with ⟨t, i, items, n, c, d, _⟩ | ⟨x, l, st, rfl, _⟩
      · exact key c d (by decide)
      · exact key rfl rfl (by decide)
  unfold letOwnedTupleGo
  split
  · cases v with
    | ref a => exact key' a
    | _ => exact wpAny_pure q
  · cases v with
    | ref a => exact key' a
    | _ => exact wpAny_pure q
  · exact wpAny_pure q
end
end Tw
end

section
namespace Tw
open PySem PySem.SeqAt

/-! a list made of a dict's keys -/
section
variable {s : Shared} {A : Around} {prog : Program} {w : World} {E : Value → Shared → Prop}

theorem rawKeys (hh : A.handled = none) (I d : Addr) (hne : d ≠ I) (ents : Array DictEntry) (ep : Nat) :
    Walks prog w A I [I, d] [I] ents.size (fun i v => ∃ e, ents[i]? = some e ∧ v = e.key) (fun i h => h.IsKeyIter I d i ents.size ep ∧ h.get? d = some { cls := .type "dict", data := .dict ents ep }) where
  sub := fun b hb => by simp at hb; simp [hb]
  frame := fun _ _ _ st hk => ⟨st.1.at fun o e => hk I (by simp) o e, hk d (by simp) _ st.2⟩
  item := fun i s Q E hi st hQ => next_raw hh st.1 st.2 (fun e hx h' hit' hs' => hQ e.key h' s.toks ⟨e, hx, rfl⟩ ⟨hit', hs'.extBut d _ hne st.2⟩ fun b o hb e => hs'.extBut b o (fun h => hb (by simp [h])) e)
    fun hx => absurd (Array.getElem?_eq_none_iff.mp hx) (Nat.not_le.mpr hi)
  done := fun s Q E st hQ => next_raw hh st.1 st.2 (fun e hx => absurd (Array.getElem?_eq_some_iff.mp hx).1 (Nat.lt_irrefl _)) fun hx h' he' => hQ h' s.toks fun b o hb e => he' b o (fun h => hb (by simp [h])) e
  self := fun _ _ _ _ st hQ => wpAny_pyIter_keyiter st.1 hQ

theorem room_dict {d : Addr} {Q : Bool → Shared → Prop} (hT : s.TypeIs (.ref d) "dict") (q : Q false s) : wpAny (model prog w) A (Builtin.List.listLengthHint (.ref d)) Q E s := by
  unfold Builtin.List.listLengthHint
  refine wpAny_bind (wpAny_specialOf hT F.slot_dict_len.lookup ?_)
  obtain ⟨id, hid⟩ : ∃ id : String, id = "dict.__len__" := ⟨_, rfl⟩
  have hsp : splitId id = some ("dict", "__len__") := by rw [hid]; decide +kernel
  rw [← hid]
  dsimp only
  rw [hsp]
  dsimp only
  refine wpAny_bind (wpAny_isInstance (T := "dict") (b := true) hT (by rw [isSubtype_type]; kernel_rfl) ?_)
  rw [if_neg (show ¬ ((!true) = true) by decide)]
  refine wpAny_ite_split (fun _ => wpAny_bind (wpAny_typeOf hT (wpAny_pure q))) fun hab => ?_
  subst hid
  exact absurd (by decide +kernel) hab

theorem extend_keys {R : Result → Shared → Prop} {d S : Addr} {res : Value} {ents : Array DictEntry} {ep c₀ : Nat} (hh : A.handled = none) (lo : (d == sysModules) = false) (g : s.heap.get? d = some { cls := .type "dict", data := .dict ents ep }) (hn : ents.size ≤ sizeLine)
    (hS : s.heap.get? S = some { cls := .type "list", data := .seq #[] c₀ })
    (q : ∀ (h' : Heap) (tk c' : Nat), (∀ b o, b ≠ S → s.heap.get? b = some o → h'.get? b = some o) → h'.get? S = some { cls := .type "list", data := .seq (ents.map (·.key)) c' } → R (.ok (.ret res)) { s with heap := h', toks := tk }) :
    wpAny (model prog w) A.in1 (Builtin.List.listExtendWith (.ref S) (.ref d) res)
      (fun fin s' => match fin with | .done f => R (.ok f) s' | .again c' => c'.quiet = true ∧ codeAny (model prog w) A c' R s') (fun e s' => R (.error e) s') s := by
  have hdS : d ≠ S := fun e => by rw [e, hS] at g; simp at g
  have hT : s.TypeIs (.ref d) "dict" := ⟨_, g, rfl⟩
  unfold Builtin.List.listExtendWith
  refine wpAny_bind (wpAny_typeOf hT ?_)
  rw [if_neg (by
    have : Builtin.List.listSameRef (.ref S) (.ref d) = false := by simp [Builtin.List.listSameRef, Ne.symm hdS]
    rw [this]; decide)]
  refine wpAny_bind (iter_raw lo g ?_)
  generalize hI : s.heap.objs.size = I at *
  have hSI : S ≠ I := by rw [← hI]; exact Nat.ne_of_lt (Heap.lt_size hS)
  have hdI : d ≠ I := by rw [← hI]; exact Nat.ne_of_lt (Heap.lt_size g)
  have st2 : (s.heap.push { cls := .type "dict_keyiterator", data := .fields #[.ref d, .int 0 0, .int ents.size 0, .int ep 0] }).IsKeyIter I d 0 ents.size ep := ⟨_, by rw [← hI]; exact Heap.get?_push_size _ rfl, rfl, rfl⟩
  have k2 : ∀ b o, s.heap.get? b = some o → (s.heap.push { cls := .type "dict_keyiterator", data := .fields #[.ref d, .int 0 0, .int ents.size 0, .int ep 0] }).get? b = some o := fun b o e => Heap.get?_push_of_some _ e
  have oldI : ∀ b o, s.heap.get? b = some o → b ≠ I := fun b o e => by rw [← hI]; exact Nat.ne_of_lt (Heap.lt_size e)
  generalize s.heap.push { cls := .type "dict_keyiterator", data := .fields #[.ref d, .int 0 0, .int ents.size 0, .int ep 0] } = h2 at *
  have W := (rawKeys (prog := prog) (w := w) (A := A.in1) hh I d hdI ents ep).toS
  have hSf : S ∉ [I, d] := by
    intro hmem
    rcases List.mem_cons.mp hmem with e | hmem
    · exact hSI e
    · exact hdS (List.mem_singleton.mp hmem).symm
  have loop : ∀ (h3 : Heap) (c : Nat), h3.get? S = some { cls := .type "list", data := .seq #[] c } → (∀ b o, b ≠ S → h2.get? b = some o → h3.get? b = some o) →
      codeAny (model prog w) A (.builtin "list.extend.loop" ⟨[.ref S, .ref I, res], []⟩) R { s with heap := h3 } := by
    intro h3 c g3 k3
    refine codeAny_extend_loopS W hn S hSf res ents.size 0 _ #[] c rfl (Nat.zero_le _) ⟨st2.at fun o e => k3 I o (Ne.symm hSI) e, k3 d _ hdS (k2 _ _ g)⟩ g3 (ItemsOf.nil _) fun s' acc' c' hmv g' hacc => ?_
    have e : acc' = ents.map (·.key) := by
      apply Array.ext
      · rw [hacc.1, Array.size_map]
      · intro i h1 h2
        obtain ⟨e, he, hv⟩ := hacc.2 i acc'[i] (Array.getElem?_eq_getElem h1)
        rw [hv]
        obtain ⟨h4, h5⟩ := Array.getElem?_eq_some_iff.mp he
        rw [Array.getElem_map, h5]
    subst e
    rw [Moved.eq_with hmv]
    refine q s'.heap s'.toks c' (fun b o hb e => hmv.heap b o (fun hm => ?_) (k3 b o hb (k2 b o e))) g'
    rcases List.mem_cons.mp hm with e' | hm
    · exact hb e'
    · exact oldI b o e (List.mem_singleton.mp hm)
  refine wpAny_bind (wpAny_holding (room_dict (s := { s with heap := h2 }) ⟨_, k2 _ _ g, rfl⟩ ?_))
  have g2 := k2 _ _ hS
  refine wpAny_ite_split (fun _ => ?_) fun _ => wpAny_pure ⟨plainId_quiet F.plain_extend_loop _, loop _ _ g2 fun b o _ e => e⟩
  refine wpAny_bind (wpAny_rule (wpAny_bind ?_))
  show wpAny _ _ (updateSeq S (·.push .none) >>= fun _ => updateSeq S (·.pop)) _ _ _
  refine wpAny_bind (wpAny_updateSeq g2 rfl ?_)
  have g3 := Heap.get?_update_self (Obj.mapSeq (·.push Value.none)) g2 rfl
  refine wpAny_updateSeq (hz := by seq_fits) g3 rfl ?_
  have g4 := Heap.get?_update_self (Obj.mapSeq (·.pop)) g3 rfl
  exact wpAny_pure ⟨plainId_quiet F.plain_extend_loop _, loop _ _ g4 fun b o hb e => (Heap.get?_update_other _ _ (Ne.symm hb)).trans ((Heap.get?_update_other _ _ (Ne.symm hb)).trans e)⟩

/-- the items of what sorted goes through -/
theorem collect_raw {d : Addr} {ents : Array DictEntry} {ep : Nat} {R : List Value → Shared → Prop} (hh : A.handled = none) (lo : (d == sysModules) = false) (g : s.heap.get? d = some { cls := .type "dict", data := .dict ents ep }) (hn : ents.size ≤ sizeLine)
    (q : ∀ (h' : Heap) (tk : Nat), (∀ b o, s.heap.get? b = some o → h'.get? b = some o) → s.heap.objs.size < h'.objs.size → R (ents.toList.map (·.key)) { s with heap := h', toks := tk }) : wpAny (model prog w) A (collect (.ref d)) R E s := by
  unfold collect
  refine wpAny_bind (wpAny_runValue (codeAny_builtin F.entry_proto_collect ?_))
  rw [Around.under_plainId F.plain_proto_collect _]
  show wpAny _ A.in1 (newList [] >>= fun l => again (.builtin "list.__iadd__" ⟨[l, .ref d], []⟩)) _ _ s
  refine wpAny_bind (wpAny_newObj_type (wpAny_pure ⟨plainId_quiet F.plain_list_iadd _, codeAny_builtin F.entry_list_iadd ?_⟩))
  rw [Around.under_plainId F.plain_list_iadd _]
  have g1 : (s.heap.push { cls := .type "list", data := .seq ([] : List Value).toArray }).get? s.heap.objs.size = some { cls := .type "list", data := .seq #[] } := Heap.get?_push_size _ rfl
  show wpAny _ A.in1 (Builtin.List.listExtendWith (.ref s.heap.objs.size) (.ref d) (.ref s.heap.objs.size)) _ _ { s with heap := s.heap.push { cls := .type "list", data := .seq ([] : List Value).toArray } }
  refine extend_keys (s := { s with heap := s.heap.push { cls := .type "list", data := .seq ([] : List Value).toArray } }) (R := fun r s' => match r with
    | .ok (.ret v) => wpAny (model prog w) A (match v with
      | .ref a => do
        let o ← load a
        match o.data with
        | .seq xs _ => pure xs.toList
        | _ => unsupported "internal:collect"
      | _ => unsupported "internal:collect") R E s'
    | .ok _ => False
    | .error e => E e s') hh lo (Heap.get?_push_of_some _ g) hn g1 fun h' tk c' hk g' => ?_
  show wpAny _ A (load s.heap.objs.size >>= _) _ _ _
  refine wpAny_bind (wpAny_load g' (wpAny_pure ?_))
  have := q h' tk (fun b o e => hk b o (Nat.ne_of_lt (Heap.lt_size e)) (Heap.get?_push_of_some _ e)) (Heap.lt_size g')
  simpa using this

theorem call_list_dict {Q : Value → Shared → Prop} {d : Addr} {ents : Array DictEntry} {ep : Nat} (hh : A.handled = none) (lo : (d == sysModules) = false) (g : s.heap.get? d = some { cls := .type "dict", data := .dict ents ep }) (hn : ents.size ≤ sizeLine)
    (q : ∀ h' tk c', (∀ b o, s.heap.get? b = some o → h'.get? b = some o) → h'.get? s.heap.objs.size = some { cls := .type "list", data := .seq (ents.map (·.key)) c' } → Q (.ref s.heap.objs.size) { s with heap := h', toks := tk }) :
    wpAny (model prog w) A (call (.type "list") [.ref d]) Q E s := by
  refine callType_codes (Q₁ := fun obj s₁ => obj = .ref s.heap.objs.size ∧ s₁ = { s with heap := s.heap.push { cls := .type "list", data := .seq #[] } }) F.called_list (F.typeCall_list_1 _) F.entry_list_init
    (code_list_new _ ⟨rfl, rfl⟩) fun obj s₁ h₁ => ?_
  obtain ⟨rfl, rfl⟩ := h₁
  have hS : (s.heap.push { cls := .type "list", data := .seq #[] }).get? s.heap.objs.size = some { cls := .type "list", data := .seq #[] } := Heap.get?_push_size _ rfl
  refine ⟨⟨_, hS, rfl⟩, F.args_list_init_2 _ _, ?_⟩
  have g1 := Heap.get?_push_of_some { cls := .type "list", data := .seq #[] } g
  have old : ∀ b o, s.heap.get? b = some o → b ≠ s.heap.objs.size := fun b o e => Nat.ne_of_lt (Heap.lt_size e)
  have k1 : ∀ b o, s.heap.get? b = some o → (s.heap.push { cls := .type "list", data := .seq #[] }).get? b = some o := fun b o e => Heap.get?_push_of_some _ e
  have hdS := old _ _ g
  generalize s.heap.push { cls := .type "list", data := .seq #[] } = h1 at *
  generalize s.heap.objs.size = S at *
  show wpAny _ A.in1.in1 (do let old ← Builtin.List.listItems (.ref S); Builtin.List.listUpdate (.ref S) (fun _ => #[]); letGo old.toList.reverse; Builtin.List.listExtendWith (.ref S) (.ref d) .none) _ _ _
  refine wpAny_bind ?_
  unfold Builtin.List.listItems
  refine wpAny_bind (wpAny_seqItems hS rfl (wpAny_pure ?_))
  show wpAny _ _ (updateSeq S (fun _ => #[]) >>= fun _ => letGo (#[] : Array Value).toList.reverse >>= fun _ => Builtin.List.listExtendWith (.ref S) (.ref d) .none) _ _ _
  refine wpAny_bind (wpAny_updateSeq hS rfl (wpAny_bind (wpAny_letGo ?_)))
  have hS₂ := Heap.get?_update_self (Obj.mapSeq (fun _ => (#[] : Array Value))) hS rfl
  have oth : ∀ b o, b ≠ S → h1.get? b = some o → (h1.update S (Obj.mapSeq (fun _ => (#[] : Array Value)))).get? b = some o := fun b o hb e => (Heap.get?_update_other _ _ (Ne.symm hb)).trans e
  refine extend_keys (A := A.in1) hh lo (oth d _ hdS g1) hn hS₂ fun h' tk c' hk g' => ⟨rfl, q h' tk c' (fun b o e => hk b o (old b o e) (oth b o (old b o e) (k1 b o e))) g'⟩
theorem keys_reps {ι : List Addr} {h : Heap} {ents : List DictEntry} {es : List (V × V)} (r : RepEs w ι h ents es) : RepVs ι h (ents.map (·.key)) (es.map (·.1)) := by
  induction r with
  | nil => exact .nil
  | cons _ rk _ _ _ ih => exact .cons rk ih
end
end Tw
end

section
namespace Tw
open PySem PySem.SeqAt

/-! one dict put into another -/
theorem dputs_app (es a b : List (V × V)) : dputs es (a ++ b) = dputs (dputs es a) b := by
  induction a generalizing es with
  | nil => rfl
  | cons p r ih => obtain ⟨k, v⟩ := p; exact ih _
theorem dput_lenM (es : List (V × V)) (k v : V) : (dput es k v).length ≤ es.length + 1 := by
  unfold dput
  split
  · rw [List.length_map]; omega
  · rw [List.length_append]; exact Nat.le_refl _
theorem dputs_len (es a : List (V × V)) : (dputs es a).length ≤ es.length + a.length := by
  induction a generalizing es with
  | nil => exact Nat.le_refl _
  | cons p r ih =>
    obtain ⟨k, v⟩ := p
    have h1 := ih (dput es k v)
    have h2 := dput_lenM es k v
    rw [List.length_cons]
    exact Nat.le_trans h1 (by omega)
theorem dputs_take {es a : List (V × V)} {i : Nat} {k v : V} (h : a[i]? = some (k, v)) : dputs es (a.take (i + 1)) = dput (dputs es (a.take i)) k v := by
  rw [List.take_add_one, h, dputs_app]; rfl

section
variable {cx : Cx} {ι : List Addr} {ρ : Rho} {H : H} {s : Shared} {A : Around} {prog : Program} {E : Value → Shared → Prop}

theorem merge_sound (S : St cx ι ρ H s) (hu : A.units + 9 < cLine) {n m : Nat} {d o : Addr} {es es' : List (V × V)} {ver ver' : Nat} {nm : String} {Q : Unit → Shared → Prop} (gn : ι[n]? = some d) (gm : ι[m]? = some o) (hnm : n ≠ m) (hn : H[n]? = some (.dict es ver)) (hm : H[m]? = some (.dict es' ver')) (hne : es ≠ []) (hl : es.length + es'.length ≤ SZ)
    (q : ∀ ver s', St cx ι ρ (H.set n (.dict (dputs es es') ver)) s' → Mono ι s ι s' → Q () s') : wpAny (model prog cx.w) A (Builtin.Dict.mergeDict nm d o) Q E s := by
  have hdo : d ≠ o := fun e => hnm ((List.getElem?_inj (List.getElem?_eq_some_iff.mp gn).1 S.nodup).mp (gn.trans ((congrArg some e).trans gm.symm)))
  obtain ⟨eso, Do⟩ := S.dict gm hm
  obtain ⟨esd, Dd⟩ := S.dict gn hn
  have hlen : eso.size = es'.length := by rw [← Array.length_toList, Do.rep.length]
  have hld : esd.size = es.length := by rw [← Array.length_toList, Dd.rep.length]
  unfold Builtin.Dict.mergeDict
  rw [if_neg (by simpa using hdo)]
  unfold Builtin.Dict.showsAll
  rw [if_neg (by rw [S.notMods gm]; exact Bool.false_ne_true)]
  refine wpAny_bind (wpAny_pure (wpAny_bind (wpAny_dictEntries Do.get rfl ?_)))
  have loop : wpAny (model prog cx.w) A (do
      let epoch ← dictEpoch o
      let l ← dictEntries o
      forIn [:l.size] PUnit.unit fun i (_ : PUnit) => (do
          let l' ← dictEntries o
          match l'[i]? with
            | some e => do
              holding [e.key, e.val] (dictSetHashed d e.key e.hash e.val)
              let ep' ← dictEpoch o
              if (ep' != epoch) = true then do
                  (unsupported (toString nm ++ toString ":source-changed-during-callback") : Sem PUnit)
                  pure (ForInStep.yield PUnit.unit)
                else pure (ForInStep.yield PUnit.unit)
            | _ => do
              (unsupported "internal:dict-merge" : Sem PUnit)
              pure (ForInStep.yield PUnit.unit) : Sem (ForInStep PUnit))
      pure ()) Q E s := by
    refine wpAny_bind (wpAny_dictEpoch Do.get rfl (wpAny_bind (wpAny_dictEntries Do.get rfl (wpAny_bind ?_))))
    rw [Std.Legacy.Range.forIn_eq_forIn_range', hlen]
    simp only [Std.Legacy.Range.size, Nat.sub_zero, Nat.add_sub_cancel, Nat.div_one]
    refine wpAny_forIn_list _ (fun rest _ s' => ∃ i ver, rest = List.range' i (es'.length - i) ∧ i ≤ es'.length ∧ St cx ι ρ (H.set n (.dict (dputs es (es'.take i)) ver)) s' ∧ Mono ι s ι s') _ ?_ ?_ _ _ ⟨0, ver, by simp, Nat.zero_le _, ?_, .refl _ _⟩
    · rintro x rest b s' ⟨i, ver, hr, hi, S', M'⟩
      have hlt : i < es'.length := by
        rcases Nat.lt_or_ge i es'.length with h | h
        · exact h
        · rw [Nat.sub_eq_zero_of_le h] at hr; simp at hr
      obtain ⟨rfl, hrest⟩ : x = i ∧ rest = List.range' (i + 1) (es'.length - (i + 1)) := by
        have e : es'.length - i = (es'.length - (i + 1)) + 1 := by omega
        rw [e, List.range'_succ] at hr
        injection hr with h1 h2
        exact ⟨h1, h2⟩
      have hm' : (H.set n (.dict (dputs es (es'.take x)) ver))[m]? = some (.dict es' ver') := by rw [List.getElem?_set_ne hnm]; exact hm
      have hn' : (H.set n (.dict (dputs es (es'.take x)) ver))[n]? = some (.dict (dputs es (es'.take x)) ver) := List.getElem?_set_self (List.getElem?_eq_some_iff.mp hn).1
      obtain ⟨eo, D'⟩ := S'.dict gm hm'
      obtain ⟨ed, D''⟩ := S'.dict gn hn'
      have hl' : eo.size = es'.length := by rw [← Array.length_toList, D'.rep.length]
      refine wpAny_bind (wpAny_dictEntries D'.get rfl ?_)
      rw [Array.getElem?_eq_getElem (by omega)]
      obtain ⟨k, v, he, hh, rk, rv, hk⟩ := D'.rep.get (e := eo[x]'(by omega)) (i := x) (by simp [hl', hlt])
      show wpAny _ _ (holding [(eo[x]'(by omega)).key, (eo[x]'(by omega)).val] (dictSetHashed d (eo[x]'(by omega)).key (eo[x]'(by omega)).hash (eo[x]'(by omega)).val) >>= _) _ _ _
      rw [hh]
      have hle := dputs_len es (es'.take x)
      rw [List.length_take] at hle
      refine wpAny_bind (wpAny_holding (dictSetH_key S' hu gn hn' D'' (by omega) rk rv hk fun ver2 s2 S2 M2 => ?_))
      rw [List.set_set, ← dputs_take he] at S2
      obtain ⟨eo2, D2⟩ := S2.dict gm (by rw [List.getElem?_set_ne hnm]; exact hm)
      refine wpAny_bind (wpAny_dictEpoch D2.get rfl ?_)
      rw [if_neg (by simp)]
      exact wpAny_pure ⟨x + 1, ver2, hrest, hlt, S2, M'.trans M2⟩
    · rintro b s' ⟨i, ver, hr, hi, S', M'⟩
      have hin : i = es'.length := by
        rcases Nat.lt_or_ge i es'.length with h | h
        · have e : es'.length - i = (es'.length - (i + 1)) + 1 := by omega
          rw [e, List.range'_succ] at hr; exact nomatch hr
        · exact Nat.le_antisymm hi h
      rw [hin, List.take_length] at S'
      exact wpAny_pure (q ver s' S' M')
    · have : H.set n (.dict (dputs es (es'.take 0)) ver) = H := by
        obtain ⟨h1, h2⟩ := List.getElem?_eq_some_iff.mp hn
        rw [List.take_zero]
        show H.set n (.dict es ver) = H
        rw [← h2]; exact List.set_getElem_self h1
      rw [this]; exact S
  dsimp only
  have hemp : ¬ esd.isEmpty = true := fun h => by
    have : esd = #[] := Array.isEmpty_iff.mp h
    rw [this] at hld
    exact hne (List.length_eq_zero_iff.mp hld.symm)
  refine wpAny_ite_split (fun _ => wpAny_bind (wpAny_dictEntries Dd.get rfl ?_)) fun _ => loop
  rw [if_neg hemp]
  exact loop

theorem update_sound (S : St cx ι ρ H s) (hu : A.units + 50 < cLine) {n m : Nat} {d o : Addr} {es es' : List (V × V)} {ver ver' : Nat} {Q : V → Tw.H → Prop} (gn : ι[n]? = some d) (gm : ι[m]? = some o) (hnm : n ≠ m) (hn : H[n]? = some (.dict es ver)) (hm : H[m]? = some (.dict es' ver')) (hne : es ≠ []) (hl : es.length + es'.length ≤ SZ)
    (q : ∀ ver, Q .none (H.set n (.dict (dputs es es') ver))) : wpAny (model prog cx.w) A (call (.builtin "dict.update") [.ref d, .ref o]) (Post cx ι ρ s Q) E s := by
  obtain ⟨eso, Do⟩ := S.dict gm hm
  obtain ⟨esd, Dd⟩ := S.dict gn hn
  have hT : s.TypeIs (.ref d) "dict" := ⟨_, Dd.get, rfl⟩
  have hTo : s.TypeIs (.ref o) "dict" := ⟨_, Do.get, rfl⟩
  refine wpAny_call_entry F.slot_dict_update hT F.entry_dict_update ?_ (F.args_dict_update_2 _ _)
  unfold Builtin.«dict.update»
  refine wpAny_bind ?_
  unfold Builtin.Dict.selfAndRest
  refine wpAny_bind (wpAny_notOrdered_dict hT ?_)
  show wpAny _ _ (pure (d, [Value.ref o])) _ _ s
  refine wpAny_pure ?_
  show wpAny _ _ (Builtin.Dict.updateFrom "dict.update" d (.ref o) [] .none) _ _ s
  unfold Builtin.Dict.updateFrom
  refine wpAny_bind (wpAny_typeOf hTo ?_)
  rw [if_neg (by decide)]
  refine wpAny_bind ?_
  unfold Builtin.Dict.merge Builtin.Dict.readDirectly
  refine wpAny_bind (wpAny_bind (wpAny_isInstance hTo isSubtype_dict_dict ?_))
  rw [if_neg (show ¬ ((!true) = true) by decide)]
  refine wpAny_bind (wpAny_specialOf hTo F.slot_dict_iter.lookup (wpAny_pure ?_))
  rw [if_pos (show ((some (Value.builtin "dict.__iter__") : Option Value) == some (Value.builtin "dict.__iter__")) = true from beq_self_eq_true _)]
  refine wpAny_bind (wpAny_pure ?_)
  refine merge_sound S (by show A.units + 1 + 9 < cLine; omega) gn gm hnm hn hm hne hl fun ver2 s2 S2 M2 => ?_
  show wpAny _ _ (Builtin.Dict.addKeywords d [] >>= _) _ _ _
  exact wpAny_bind (wpAny_pure (wpAny_pure ⟨.none, rfl, ⟨_, _, _, M2, S2, .none, q ver2⟩⟩))
end
end Tw
end

section
namespace Tw
open PySem PySem.SeqAt
theorem mro_dict : mroOf (.type "dict") = pure [.type "dict", .type "object"] := by rw [mroOf_type]; kernel_rfl
theorem lookup_dict_new : typeLookup (.type "dict") "__new__" = pure (some (.builtin "dict.__new__")) := by rw [typeLookup_type, builtinLookup_eq_fast]; kernel_rfl
theorem sub_dict_self : isSubtype (.type "dict") (.type "dict") = pure true := by rw [isSubtype_type]; kernel_rfl
theorem called_dict : TypeCalled "dict" "dict.__new__" "dict.__init__" :=
  ⟨by decide +kernel, by decide +kernel, ⟨_, _, mro_dict⟩, madeBy_type mro_dict lookup_dict_new (by decide +kernel), by decide +kernel, sub_dict_self, F.slot_dict_init⟩
theorem typeCall_dict_1 (a : Value) : checkTypeCall "dict" ⟨[a], []⟩ = pure () := by kernel_rfl
theorem newCall_dict_1 (a : Value) : checkBuiltinCall "dict.__new__" ⟨[.type "dict", a], []⟩ = pure () := by kernel_rfl
theorem entry_dict_new : entryFor table "dict.__new__" = some Builtin.«dict.__new__» := entryFor_of_tree (by kernel_rfl)
theorem plain_dict_new : plainId "dict.__new__" = true := by decide +kernel
theorem entry_dict_loop : entryFor table "dict.update.loop" = some Builtin.«dict.update.loop» := entryFor_of_tree (by kernel_rfl)
theorem plain_dict_loop : plainId "dict.update.loop" = true := by decide +kernel
section
variable {prog : Program} {w : World} {A : Around} {E : Value → Shared → Prop} {s : Shared}
theorem code_dict_new (a : Value) {Q₁ : Value → Shared → Prop}
    (h : Q₁ (.ref s.heap.objs.size) { s with heap := s.heap.push { cls := .type "dict", data := .dict #[] } }) :
    codeAny (model prog w) A (.call (.builtin "dict.__new__") ⟨[.type "dict", a], []⟩) (wants Q₁ E) s := by
  refine codeAny_of_tree ?_
  show wpAny _ A.in1 (do checkBuiltinCall "dict.__new__" ⟨[.type "dict", a], []⟩; again (.builtin "dict.__new__" ⟨[.type "dict", a], []⟩)) _ _ s
  refine wpAny_bind (wpAny_of_eq (newCall_dict_1 a) (wpAny_pure ⟨plainId_quiet plain_dict_new _, codeAny_builtin entry_dict_new ?_⟩))
  rw [Around.under_plainId plain_dict_new _]
  have hsub := sub_dict_self
  have hmro := mro_dict
  obtain ⟨hp, g, d, tk, os⟩ := s
  unfold Builtin.«dict.__new__»
  repeat (any_goals (first | assumption | wp_step))
end

theorem lk_list_keys : typeLookup (.type "list") "keys" = pure none := by rw [typeLookup_type, builtinLookup_eq_fast]; kernel_rfl
theorem keys_none {prog : Program} {w : World} {A : Around} {E : Value → Shared → Prop} {s : Shared} {a : Addr} {xs : Array Value} {k : Nat} {Q : Option Value → Shared → Prop}
    (hx : s.heap.get? a = some { cls := .type "list", data := .seq xs k }) (hA : A.handled = none)
    (h : ∀ h' tk, (∀ b o, s.heap.get? b = some o → h'.get? b = some o) → Q none { s with heap := h', toks := tk }) : wpAny (model prog w) A (getAttr? (.ref a) "keys") Q E s := by
  obtain ⟨hp, g, d, tk, os⟩ := s
  have hT : ∀ tk', (⟨hp, g, d, tk', os⟩ : Shared).TypeIs (.ref a) "list" := fun _ => ⟨_, hx, rfl⟩
  have f1 := sub_AttributeError
  have f3 := F.slot_list_getattribute.lookup
  have f4 := F.slot_list_getattribute.bind (.ref a)
  have f5 := am_list_getattr_none
  unfold getAttr? getAttrBy? getAttrBy
  repeat (any_goals (first | assumption | exact hT _ | ((with_reducible show wpAny _ _ (call (Value.builtin "list.__getattribute__") _ _) _ _ _); refine call_meets F.slot_list_getattribute (hT _) am_entry_list_getattribute (F.args_list_getattribute_2 _ _) (meets_getattribute_miss_list a xs k #[] "keys" _ lk_list_keys (by decide)) ⟨hx, hA, fun h' tk' e hx' => ?_⟩) | wp_step))
  obtain ⟨t', u', he⟩ := hx'.there
  show wpAny _ _ (getattributeRaised _ _ _ _ _ _ _) _ _ _
  unfold getattributeRaised
  repeat (any_goals (first | assumption | wp_step))
  exact h h' tk' hx'.keeps

section
variable {cx : Cx} {ι : List Addr} {ρ : Rho} {H : H} {s : Shared} {A : Around} {prog : Program} {E : Value → Shared → Prop}

/-- a new dict, and then what dict.__init__ does to it -/
theorem dict_call {x : Value} {Q : Value → Shared → Prop}
    (h : wpAny (model prog cx.w) A.in1.in1 (Builtin.Dict.updateFrom "dict.__init__" s.heap.objs.size x [] .none)
        (fun fin s' => match fin with | .done f => wants (fun r s₂ => r = .none ∧ Q (.ref s.heap.objs.size) s₂) E (.ok f) s' | .again c' => c'.quiet = true ∧ codeAny (model prog cx.w) A.in1 c' (wants (fun r s₂ => r = .none ∧ Q (.ref s.heap.objs.size) s₂) E) s')
        (fun e s' => wants (fun r s₂ => r = .none ∧ Q (.ref s.heap.objs.size) s₂) E (.error e) s') { s with heap := s.heap.push { cls := .type "dict", data := .dict #[] } }) :
    wpAny (model prog cx.w) A (call (.type "dict") [x]) Q E s := by
  refine callType_codes (Q₁ := fun obj s₁ => obj = .ref s.heap.objs.size ∧ s₁ = { s with heap := s.heap.push { cls := .type "dict", data := .dict #[] } }) called_dict (typeCall_dict_1 _) F.entry_dict_init (code_dict_new _ ⟨rfl, rfl⟩) fun obj s₁ h₁ => ?_
  obtain ⟨rfl, rfl⟩ := h₁
  have hT : ({ s with heap := s.heap.push { cls := .type "dict", data := .dict #[] } } : Shared).TypeIs (.ref s.heap.objs.size) "dict" := ⟨_, Heap.get?_push_size _ rfl, rfl⟩
  refine ⟨hT, F.args_dict_init_2 _ _, ?_⟩
  unfold Builtin.«dict.__init__»
  refine wpAny_bind ?_
  unfold Builtin.Dict.selfAndRest
  refine wpAny_bind (wpAny_notOrdered_dict hT ?_)
  show wpAny _ _ (pure (s.heap.objs.size, [x])) _ _ _
  exact wpAny_pure h

/-- a dict of one key, a tuple, anew -/
theorem dict_one (S : St cx ι ρ H s) (ok : CxOk cx) {m : Nat} {o : Addr} {ks : List V} {v : V} {ver : Nat} {Q : V → Tw.H → Prop} (gm : ι[m]? = some o) (hm : H[m]? = some (.dict [(.tup ks, v)] ver)) (q : ∀ ver, Q (.ref H.length) (H ++ [.dict [(.tup ks, v)] ver])) :
    wpAny (model prog cx.w) A (call (.type "dict") [.ref o]) (Post cx ι ρ s Q) E s := by
  obtain ⟨eso, Do⟩ := S.dict gm hm
  obtain ⟨e, rfl⟩ : ∃ e, eso = #[e] := by
    have h1 : eso.toList.length = 1 := by rw [Do.rep.length]; rfl
    obtain ⟨e, he⟩ := List.length_eq_one_iff.mp h1
    exact ⟨e, Array.toList_inj.mp he⟩
  obtain ⟨k', v', he, hh, rk, rv, hk⟩ := Do.rep.get (e := e) (i := 0) rfl
  cases he
  obtain ⟨t, n, vals, ek, gt, zt, rt⟩ := rk.tupI
  refine dict_call ?_
  have hD : (s.heap.push { cls := .type "dict", data := .dict #[] }).get? s.heap.objs.size = some { cls := .type "dict", data := .dict #[] } := Heap.get?_push_size _ rfl
  have hk1 : ∀ b ob, s.heap.get? b = some ob → (s.heap.push { cls := .type "dict", data := .dict #[] }).get? b = some ob := fun b ob e => Heap.get?_push_of_some _ e
  have old : ∀ b ob, s.heap.get? b = some ob → s.heap.objs.size ≠ b := fun b ob e => (Nat.ne_of_lt (Heap.lt_size e)).symm
  have go := hk1 _ _ Do.get
  have gt := hk1 _ _ gt
  have hTo : ({ s with heap := s.heap.push { cls := .type "dict", data := .dict #[] } } : Shared).TypeIs (.ref o) "dict" := ⟨_, go, rfl⟩
  have hTt : ({ s with heap := s.heap.push { cls := .type "dict", data := .dict #[] } } : Shared).TypeIs (.ref t) "tuple" := ⟨_, gt, rfl⟩
  have hdo := old _ _ Do.get
  unfold Builtin.Dict.updateFrom
  refine wpAny_bind (wpAny_typeOf hTo ?_)
  rw [if_neg (by decide)]
  refine wpAny_bind ?_
  unfold Builtin.Dict.merge Builtin.Dict.readDirectly
  refine wpAny_bind (wpAny_bind (wpAny_isInstance hTo isSubtype_dict_dict ?_))
  rw [if_neg (show ¬ ((!true) = true) by decide)]
  refine wpAny_bind (wpAny_specialOf hTo F.slot_dict_iter.lookup (wpAny_pure ?_))
  rw [if_pos (show ((some (Value.builtin "dict.__iter__") : Option Value) == some (Value.builtin "dict.__iter__")) = true from beq_self_eq_true _)]
  refine wpAny_bind (wpAny_pure ?_)
  unfold Builtin.Dict.mergeDict
  rw [if_neg (by simpa using hdo)]
  unfold Builtin.Dict.showsAll
  rw [if_neg (by rw [S.notMods gm]; exact Bool.false_ne_true)]
  refine wpAny_bind (wpAny_pure (wpAny_bind (wpAny_dictEntries go rfl ?_)))
  dsimp only
  rw [if_pos (by simp [ek, keyPart])]
  refine wpAny_bind (wpAny_dictEntries hD rfl ?_)
  rw [if_pos (show (#[] : Array DictEntry).isEmpty = true from rfl)]
  refine wpAny_bind ?_
  unfold Builtin.Dict.entriesForEmpty
  refine wpAny_bind (wpAny_dictEntries go rfl (wpAny_bind ?_))
  rw [← Array.forIn_toList]
  show wpAny _ _ (forIn [e] _ _) _ _ _
  rw [List.forIn_cons]
  refine wpAny_bind (wpAny_bind ?_)
  rw [ek]
  unfold Builtin.Dict.quietEq
  refine wpAny_bind (wpAny_specialOf hTt F.slot_tuple_eq.lookup (wpAny_pure ?_))
  rw [if_pos (by decide)]
  rw [if_neg (by simp)]
  refine wpAny_pure ?_
  show wpAny _ _ (forIn [] _ _) _ _ _
  rw [List.forIn_nil]
  refine wpAny_pure (wpAny_pure ?_)
  rw [if_pos (show (!(#[e] : Array DictEntry).isEmpty) = true from rfl)]
  refine wpAny_bind (wpAny_updateDictKeysTo hD rfl (wpAny_pure ?_) (show 1 ≤ sizeLine + 1 by omega))
  show wpAny _ _ (Builtin.Dict.addKeywords s.heap.objs.size [] >>= _) _ _ _
  refine wpAny_bind (wpAny_pure (wpAny_pure ⟨rfl, ?_⟩))
  have hk2 : ∀ b ob, s.heap.get? b = some ob → ((s.heap.push { cls := .type "dict", data := .dict #[] }).update s.heap.objs.size (Obj.mapDictKeys fun _ => #[e])).get? b = some ob := fun b ob e => by
    rw [Heap.get?_update_other _ _ (old b ob e)]; exact hk1 b ob e
  obtain ⟨S', M⟩ := S.new ok (o := .dict [(.tup ks, v)] 1) s.toks hk2 (Nat.le_refl _) ⟨#[e], Heap.get?_update_self _ hD rfl, Do.rep.mono (List.prefix_refl _) (.of_ext hk2), Do.nd, Do.le⟩
  exact ⟨_, _, _, M, S', rep_last S _, q 1⟩

/-! a dict of a list of pairs -/
theorem pairs_cons {x : V} {r : List V} {ps : List (V × V)} (hp : pairsOf (x :: r) = some ps) : ∃ k w qs, x = .tup [k, w] ∧ k.isKey = true ∧ pairsOf r = some qs ∧ ps = (k, w) :: qs := by
  unfold pairsOf at hp
  split at hp
  · rename_i heq; exact nomatch heq
  · rename_i k w r' e
    injection e with e1 e2
    subst e1; subst e2
    split at hp
    · rename_i hk
      obtain ⟨qs, hq, rfl⟩ := Option.map_eq_some_iff.mp hp
      exact ⟨k, w, qs, rfl, hk, hq, rfl⟩
    · cases hp
  · cases hp
theorem pairs_at {vs : List V} {ps : List (V × V)} {i : Nat} {v : V} (hp : pairsOf vs = some ps) (h : vs[i]? = some v) : ∃ k w, v = .tup [k, w] ∧ k.isKey = true ∧ ps[i]? = some (k, w) := by
  induction vs generalizing ps i with
  | nil => exact nomatch h
  | cons x r ih =>
    obtain ⟨k, w, qs, rfl, hk, hq, rfl⟩ := pairs_cons hp
    cases i with
    | zero => cases h; exact ⟨k, w, rfl, hk, rfl⟩
    | succ i => have := ih hq h; exact this
theorem pairs_len {vs : List V} {ps : List (V × V)} (hp : pairsOf vs = some ps) : vs.length = ps.length := by
  induction vs generalizing ps with
  | nil => cases hp; rfl
  | cons x r ih =>
    obtain ⟨k, w, qs, rfl, hk, hq, rfl⟩ := pairs_cons hp
    exact congrArg (· + 1) (ih hq)
theorem pairs_loop {n m : Nat} {D it : Addr} {vs : List V} {ps : List (V × V)} {R : Result → Shared → Prop} (hu : A.units + 20 < cLine) (hh : A.handled = none) (as : Aside cx it) (gn : ι[n]? = some D) (hnm : n ≠ m) (hn : n < H.length) (hm : H[m]? = some (.list vs)) (hp : pairsOf vs = some ps) (hl : ps.length ≤ SZ) {s₀ : Shared}
    (fin : ∀ ver s', St cx ι ρ (H.set n (.dict (dputs [] ps) ver)) s' → Mono ι s₀ ι s' → R (.ok (.ret .none)) s') :
    ∀ (f i : Nat) (k : Int) (ver : Nat) (o : Obj) (s : Shared), ps.length - i = f → i ≤ ps.length → Mono ι s₀ ι s → St (cx.keep it o) ι ρ (H.set n (.dict (dputs [] (ps.take i)) ver)) s → ItRep ι s.heap o (.seq m i) → codeAny (model prog cx.w) A (.builtin "dict.update.loop" ⟨[.ref D, .ref it, rawInt k, .none], []⟩) R s := by
  intro f
  induction f with
  | zero =>
    intro i k ver o s hf hi M S ri
    refine codeAny_builtin entry_dict_loop ?_
    rw [Around.under_plainId plain_dict_loop _]
    have hm' : (H.set n (.dict (dputs [] (ps.take i)) ver))[m]? = some (.list vs) := by rw [List.getElem?_set_ne hnm]; exact hm
    have hv : vs[i]? = none := List.getElem?_eq_none (by rw [pairs_len hp]; omega)
    show wpAny _ _ (pyNext (.ref it) >>= _) _ _ s
    refine wpAny_bind (wpAny_mono (next_sound (A := A.in1) (stop := True) (item := fun _ _ => False) S as hh ri (by unfold NextW; dsimp only; rw [hm']; dsimp only; rw [hv]; trivial)) (fun v s₁ h => ?_) fun _ _ e => e)
    cases v with
    | some x => obtain ⟨_, _, _, q⟩ := h; exact q.elim
    | none =>
      obtain ⟨_, S₁, M₁⟩ := h
      show wpAny _ _ (Builtin.Dict.addKeywords D [] >>= _) _ _ _
      have e : ps.take i = ps := List.take_of_length_le (by omega)
      rw [e] at S₁
      exact wpAny_bind (wpAny_pure (wpAny_pure (fin ver s₁ S₁ (M.trans M₁))))
  | succ f ih =>
    intro i k ver o s hf hi M S ri
    refine codeAny_builtin entry_dict_loop ?_
    rw [Around.under_plainId plain_dict_loop _]
    have hm' : (H.set n (.dict (dputs [] (ps.take i)) ver))[m]? = some (.list vs) := by rw [List.getElem?_set_ne hnm]; exact hm
    obtain ⟨v, hv⟩ : ∃ v, vs[i]? = some v := ⟨_, List.getElem?_eq_getElem (by rw [pairs_len hp]; omega)⟩
    obtain ⟨kk, w, rfl, hk, hpi⟩ := pairs_at hp hv
    show wpAny _ _ (pyNext (.ref it) >>= _) _ _ s
    refine wpAny_bind (wpAny_mono (next_sound (A := A.in1) (stop := False) (item := fun v j => v = .tup [kk, w] ∧ j = .seq m (i + 1)) S as hh ri (by unfold NextW; dsimp only; rw [hm']; dsimp only; rw [hv]; exact ⟨rfl, rfl⟩)) (fun v s₁ h => ?_) fun _ _ e => e)
    cases v with
    | none => exact h.1.elim
    | some x =>
      obtain ⟨v, j, o', ⟨rfl, rfl⟩, S₁, M₁, rx, ri'⟩ := h
      obtain ⟨t, tn, vals, rfl, gt, zt, rt⟩ := rx.tupI
      obtain ⟨xk, ys, ev, gk, r'⟩ := RepVs.consI rt
      obtain ⟨xw, rfl, gw⟩ := r'.oneI
      have hTt : s₁.TypeIs (.ref t) "tuple" := ⟨_, gt, rfl⟩
      have hn' : (H.set n (.dict (dputs [] (ps.take i)) ver))[n]? = some (.dict (dputs [] (ps.take i)) ver) := List.getElem?_set_self hn
      obtain ⟨ed, D''⟩ := S₁.dict gn hn'
      refine wpAny_bind (wpAny_holding (wpAny_bind (wpAny_tryCatch ?_)))
      unfold Builtin.Dict.pairItems
      refine wpAny_bind (wpAny_typeOf hTt ?_)
      rw [if_pos (by decide)]
      refine wpAny_bind (wpAny_seqItems gt rfl (wpAny_pure ?_))
      show wpAny _ _ (match vals.toList with | [k, v] => holding [k, v] (dictSet D k v) | l => _) _ _ _
      rw [ev]
      have hle := dputs_len [] (ps.take i)
      rw [List.length_take, List.length_nil] at hle
      refine wpAny_holding (dictSet_key S₁ (by show A.units + 1 + 9 < cLine; omega) gn hn' D'' (by omega) gk gw hk fun ver2 s2 S2 M2 => ?_)
      rw [List.set_set, ← dputs_take hpi] at S2
      exact wpAny_pure ⟨plainId_quiet plain_dict_loop _, ih (i + 1) (k + 1) ver2 o' s2 (by omega) (by omega) ((M.trans M₁).trans M2) S2 ri'⟩
theorem dict_pairs (S : St cx ι ρ H s) (ok : CxOk cx) (hu : A.units + 50 < cLine) (hh : A.handled = none) {m : Nat} {l : Addr} {vs : List V} {ps : List (V × V)} {Q : V → Tw.H → Prop} (gm : ι[m]? = some l) (hm : H[m]? = some (.list vs)) (hp : pairsOf vs = some ps) (q : ∀ ver, Q (.ref H.length) (H ++ [.dict (dputs [] ps) ver])) :
    wpAny (model prog cx.w) A (call (.type "dict") [.ref l]) (Post cx ι ρ s Q) E s := by
  obtain ⟨vals, k, gl, rl, zl⟩ := S.objOf gm hm
  refine dict_call ?_
  have hD : (s.heap.push { cls := .type "dict", data := .dict #[] }).get? s.heap.objs.size = some { cls := .type "dict", data := .dict #[] } := Heap.get?_push_size _ rfl
  have hk1 : ∀ b ob, s.heap.get? b = some ob → (s.heap.push { cls := .type "dict", data := .dict #[] }).get? b = some ob := fun b ob e => Heap.get?_push_of_some _ e
  obtain ⟨S1, M1⟩ := S.new ok (o := .dict [] 0) s.toks hk1 (Nat.le_refl _) ⟨#[], hD, .nil, List.nodup_nil, Nat.zero_le _⟩
  have gl1 := hk1 _ _ gl
  have gm1 : (ι ++ [s.heap.objs.size])[m]? = some l := by rw [List.getElem?_append_left (List.getElem?_eq_some_iff.mp gm).1]; exact gm
  have hm1 : (H ++ [MO.dict [] 0])[m]? = some (.list vs) := by rw [List.getElem?_append_left (List.getElem?_eq_some_iff.mp hm).1]; exact hm
  have hlt := (List.getElem?_eq_some_iff.mp hm).1
  have gn1 : (ι ++ [s.heap.objs.size])[H.length]? = some s.heap.objs.size := by rw [← S.len]; simp
  unfold Builtin.Dict.updateFrom
  refine wpAny_bind (wpAny_typeOf ⟨_, gl1, rfl⟩ ?_)
  rw [if_pos (by decide)]
  refine wpAny_bind (keys_none gl1 hh fun h' tk hk => ?_)
  rw [if_pos (show (none : Option Value).isNone = true from rfl)]
  refine wpAny_bind (wpAny_rule ?_)
  have S2 := S1.ext tk hk
  have M2 : Mono (ι ++ [s.heap.objs.size]) { s with heap := s.heap.push { cls := .type "dict", data := .dict #[] } } (ι ++ [s.heap.objs.size]) { s with heap := h', toks := tk } := .ext hk
  refine wpAny_bind (wpAny_mono (iter_sound S2 ok (.ref gm1) (Q := fun i => i = .seq m 0) (by unfold IterW; dsimp only; rw [hm1])) (fun x s3 h3 => ?_) fun _ _ e => e)
  obtain ⟨it, o, i, rfl, as, S3, M3, ri, rfl⟩ := h3
  refine wpAny_pure ⟨plainId_quiet plain_dict_loop _, ?_⟩
  refine pairs_loop (A := A.in1) (ρ := ρ) (ps := ps) (s₀ := s3) (by show A.units + 1 + 20 < cLine; omega) hh as gn1 (by omega) (by simp) hm1 hp (by rw [← pairs_len hp]; exact zl) (fun ver s4 S4 M4 => ⟨rfl, ?_⟩) _ 0 0 0 o s3 rfl (Nat.zero_le _) (.refl _ _) ?_ ri
  · have : (H ++ [MO.dict [] 0]).set H.length (.dict (dputs [] (ps.take 0)) 0) = H ++ [MO.dict [] 0] := by
      rw [List.set_append_right _ _ (Nat.le_refl _), Nat.sub_self, List.take_zero]; rfl
    rw [this]; exact S3
  · rw [List.set_append_right _ _ (Nat.le_refl _), Nat.sub_self] at S4
    exact ⟨_, _, _, M1.trans (M2.trans (M3.trans M4)), S4, rep_last S _, q ver⟩
end
end Tw
end

section
namespace Tw
open PySem PySem.SeqAt

/-! sorted(x), where x is a dict or a list -/
section
variable {cx : Cx} {ι : List Addr} {ρ : Rho} {H : H} {s : Shared} {A : Around} {prog : Program} {w : World} {E : Value → Shared → Prop}
theorem collect_items (S : St cx ι ρ H s) (hh : A.handled = none) {n : Nat} {d : Addr} {vs : List V} {R : List Value → Shared → Prop} (gi : ι[n]? = some d) (hi : itemsAt H n vs)
    (q : ∀ (h' : Heap) (tk : Nat) (xs : List Value), (∀ b o, s.heap.get? b = some o → h'.get? b = some o) → s.heap.objs.size < h'.objs.size → RepVs ι s.heap xs vs → vs.length ≤ SZ → R xs { s with heap := h', toks := tk }) : wpAny (model prog cx.w) A (collect (.ref d)) R E s := by
  have hz : sizeLine = SZ := rfl
  rcases hi with ⟨es, ver, hH, rfl⟩ | hH
  · obtain ⟨ents, D⟩ := S.dict gi hH
    have e : ents.size = es.length := by rw [← Array.length_toList, D.rep.length]
    exact collect_raw hh (S.notMods gi) D.get (by rw [e, hz]; exact D.le) fun h' tk hk hs => q h' tk _ hk hs (keys_reps D.rep) (by rw [List.length_map]; exact D.le)
  · obtain ⟨vals, m, g, rv, z⟩ := S.objOf gi hH
    refine PyProof.Rows.collect_list (vs := vals.toList) (isList_of g) (q _ s.toks vals.toList (fun b o e => ?_) ?_ rv z) (by rw [rv.length, hz]; exact z)
    · rw [Heap.get?_update_other _ _ (fun e' => Nat.lt_irrefl _ (by rw [← e'] at e; exact Heap.lt_size e))]
      exact Heap.get?_push_of_some _ e
    · rw [Heap.size_update, PyProof.Rows.size_push']; exact Nat.lt_succ_self _
theorem ints_are {h : Heap} : ∀ {xs : List Value} {ks : List Int}, RepVs ι h xs (ks.map V.int) → PyProof.Rows.IntsAre xs ks
  | _, [], r => by rw [r.nilI]; exact .nil
  | _, k :: ks, r => by
    obtain ⟨x, ys, rfl, g, r'⟩ := RepVs.consI (show RepVs ι h _ (V.int k :: ks.map V.int) from r)
    obtain ⟨t, rfl⟩ := g.intI
    exact .cons k t (ints_are r')
theorem strs_are' {h : Heap} : ∀ {xs : List Value} {ks : List (List Nat)}, RepVs ι h xs (ks.map V.str) → ∃ ss : List Str, PyProof.Rows.StrsAre xs ss ∧ ks = ss.map (·.cps.toList) ∧ ∀ k ∈ ss, k.length ≤ SZ
  | _, [], r => ⟨[], by rw [r.nilI]; exact .nil, rfl, fun _ h => nomatch h⟩
  | _, k :: ks, r => by
    obtain ⟨x, ys, rfl, g, r'⟩ := RepVs.consI (show RepVs ι h _ (V.str k :: ks.map V.str) from r)
    obtain ⟨y, t, rfl, e, z⟩ := g.strInv
    obtain ⟨ss, h1, h2, h3⟩ := strs_are' r'
    exact ⟨y :: ss, .cons y t h1, by rw [List.map_cons, h2, e], fun k hk => (List.mem_cons.mp hk).elim (fun e => e ▸ z) (h3 k)⟩
theorem reps_of_ints {h : Heap} : ∀ {vs : List Value} {ks : List Int}, PyProof.Rows.IntsAre vs ks → RepVs ι h vs (ks.map V.int)
  | _, _, .nil => .nil
  | _, _, .cons k t r => .cons (.int k t) (reps_of_ints r)
theorem reps_of_strs {h : Heap} : ∀ {vs : List Value} {ks : List Str}, PyProof.Rows.StrsAre vs ks → (∀ k ∈ ks, k.length ≤ SZ) → RepVs ι h vs ((ks.map (·.cps.toList)).map V.str)
  | _, _, .nil, _ => .nil
  | _, _, .cons k t r, hz => .cons (.str k t (hz k (by simp))) (reps_of_strs r fun k hk => hz k (by simp [hk]))
theorem str_out {vs : List Value} {ss : List Str} (hS : PyProof.Rows.StrsAre vs ss) {xs : Array PyProof.Rows.Keyed} (hp : xs.Perm (PyProof.Rows.pairsOf vs)) (hs : PyProof.Rows.SortedToK PyProof.Rows.strKind xs (PyProof.Rows.pairsOf vs).size) :
    ∃ ss', PyProof.Rows.StrsAre (xs.map (·.2)).toList ss' ∧ ss'.Perm ss ∧ ss'.Pairwise (fun a b => ¬ b.cps.toList < a.cps.toList) := by
  obtain ⟨ss', h1, h2, h3⟩ := PyProof.Rows.sorted_out_str hS hp hs
  refine ⟨ss', h1, h2, ?_⟩
  -- what is sorted step by step is sorted
  have rise : ∀ (l : List Str) (p : Str), PyProof.Rows.risingS p l = true → (p :: l).Pairwise (fun a b => ¬ b.cps.toList < a.cps.toList) := by
    intro l
    induction l with
    | nil => intro p _; simp
    | cons x r ih =>
      intro p h
      have h' : (!PySem.Spec.ltCps x.cps.toList p.cps.toList && PyProof.Rows.risingS x r) = true := h
      rw [Bool.and_eq_true, Bool.not_eq_true', PyProof.Rows.ltCps_eq] at h'
      have hxp : ¬ x.cps.toList < p.cps.toList := of_decide_eq_false h'.1
      have ihx := ih x h'.2
      refine List.pairwise_cons.mpr ⟨fun y hy => ?_, ihx⟩
      rcases List.mem_cons.mp hy with rfl | hy
      · exact hxp
      · have hyx := List.rel_of_pairwise_cons ihx hy
        exact fun hyp => hxp (Std.lt_of_le_of_lt (Std.not_lt.mp hyx) hyp)
  cases ss' with
  | nil => simp
  | cons x r => exact rise r x h3
/-- the list that list.sort leaves -/
theorem sort_end (S : St cx ι ρ H s) (ok : CxOk cx) {h₁ : Heap} {tk : Nat} {xs : List Value} {out : Array Value} {ws : List V} {Q : V → Tw.H → Prop} (k1 : ∀ b o, s.heap.get? b = some o → h₁.get? b = some o) (hsz : s.heap.objs.size < h₁.objs.size)
    (r : ∀ h, RepVs ι h out.toList ws) (hl : ws.length ≤ SZ) (q : Q (.ref H.length) (H ++ [.list ws])) :
    Post cx ι ρ s Q (.ref h₁.objs.size) { s with heap := PyProof.Rows.sortedHeap (h₁.push (PyProof.Rows.seqObj "list" xs.toArray 0)) h₁.objs.size xs out, toks := tk } := by
  have gD : (h₁.push (PyProof.Rows.seqObj "list" xs.toArray 0)).get? h₁.objs.size = some (PyProof.Rows.seqObj "list" xs.toArray 0) := Heap.get?_push_size _ rfl
  have k2 : ∀ b o, s.heap.get? b = some o → (h₁.push (PyProof.Rows.seqObj "list" xs.toArray 0)).get? b = some o := fun b o e => Heap.get?_push_of_some _ (k1 b o e)
  obtain ⟨e, gE⟩ := PyProof.Rows.sortedHeap_at (out := out) gD
  have k3 : ∀ b o, s.heap.get? b = some o → (PyProof.Rows.sortedHeap (h₁.push (PyProof.Rows.seqObj "list" xs.toArray 0)) h₁.objs.size xs out).get? b = some o := fun b o e => by
    have hb := Heap.lt_size (k1 b o e)
    rw [PyProof.Rows.sortedHeap_old (Nat.ne_of_lt hb) (Heap.lt_size (k2 b o e))]
    exact k2 b o e
  obtain ⟨S', M⟩ := S.new ok (o := .list ws) tk k3 (Nat.le_of_lt hsz) ⟨out, e, gE, r _, hl⟩
  exact ⟨_, _, _, M, S', rep_last S _, q⟩
theorem sort_sound (S : St cx ι ρ H s) (ok : CxOk cx) (hh : A.handled = none) {x : Value} {v : V} {Q : V → Tw.H → Prop} (r : RepV ι s.heap x v) (h : SortW v H Q) : wpAny (model prog cx.w) A (call (.builtin "sorted") [x]) (Post cx ι ρ s Q) E s := by
  obtain ⟨n, rfl, vs, hi, h64, h1⟩ := asRef.inv h
  obtain ⟨d, rfl, gi⟩ := r.refI
  have hz : sizeLine = 16777216 := rfl
  have hz' : SZ = 16777216 := rfl
  refine Calls.call_function_entry PyProof.Rows.kind_sorted PyProof.Rows.plain_sorted PyProof.Rows.entry_sorted (PyProof.Rows.args_sorted1 _) ?_
  unfold Builtin.«sorted»
  refine wpAny_bind (m := checkCount "sorted" 1 1 _) (wpAny_pure ?_)
  refine wpAny_bind (collect_items (A := A.in1) S hh gi hi fun h₁ tk xs k1 hsz rx hle => ?_)
  have hl : xs.length < 64 := by rw [rx.length]; exact h64
  refine wpAny_bind (wpAny_newList ?_ (by omega))
  have gD : (h₁.push (PyProof.Rows.seqObj "list" xs.toArray 0)).get? h₁.objs.size = some (PyProof.Rows.seqObj "list" xs.toArray 0) := Heap.get?_push_size _ rfl
  show wpAny _ _ _ _ _ { s with heap := h₁.push (PyProof.Rows.seqObj "list" xs.toArray 0), toks := tk }
  rcases h1 with ⟨ks, rfl, q⟩ | ⟨ks, rfl, q⟩ | h1
  · have hI := ints_are rx
    refine wpAny_bind (wpAny_holding (wpAny_call_entry PyProof.Rows.slot_list_sort ⟨_, gD, rfl⟩ PyProof.Rows.entry_list_sort (PyProof.Rows.list_sort_tree gD hI hl fun out ns' a1 a2 a3 => ⟨_, rfl, ?_⟩) (PyProof.Rows.args_list_sort _)))
    refine wpAny_pure ⟨_, rfl, sort_end S ok k1 hsz (fun _ => reps_of_ints a1) ?_ (q ns' a2)⟩
    rw [List.length_map] at hle ⊢
    rw [a2.length_eq]; exact hle
  · obtain ⟨ss, hI, rfl, hss⟩ := strs_are' rx
    refine wpAny_bind (wpAny_holding (wpAny_call_entry PyProof.Rows.slot_list_sort ⟨_, gD, rfl⟩ PyProof.Rows.entry_list_sort (PyProof.Rows.list_sort_treeK PyProof.Rows.strKind_oneLt gD hI.keysOf (fun v₁ v₂ rest e => PyProof.Rows.keyKind_strs (by rw [← e]; exact hI)) hl fun st' b1 b2 => ⟨_, rfl, ?_⟩) (PyProof.Rows.args_list_sort _)))
    obtain ⟨ns', a1, a2, a3⟩ := str_out hI b1 b2
    refine wpAny_pure ⟨_, rfl, sort_end S ok k1 hsz (fun _ => reps_of_strs a1 fun k hk => hss k (a2.mem_iff.mp hk)) ?_ (q _ (a2.map _) (List.pairwise_map.mpr a3))⟩
    rw [List.length_map, List.length_map] at hle ⊢
    rw [a2.length_eq]; exact hle
  · exact h1.elim
end
end Tw
end

section
namespace Tw
open PySem PySem.SeqAt

section
variable {cx : Cx} {ι : List Addr} {ρ : Rho} {H : H} {s : Shared} {A : Around} {prog : Program} {E : Value → Shared → Prop}

noncomputable def Bi.py : Bi → Value
  | .len => .builtin "len" | .range => .type "range" | .list => .type "list" | .dict => .type "dict" | .sorted => .builtin "sorted" | .int => .type "int" | .min => .builtin "min" | .max => .builtin "max"

theorem Post.listE (S : St cx ι ρ H s) (ok : CxOk cx) {h' : Heap} {vals : Array Value} {n : Nat} {vs : List V} {Q : V → Tw.H → Prop} (tk : Nat) (hk : ∀ b ob, s.heap.get? b = some ob → h'.get? b = some ob)
    (g : h'.get? s.heap.objs.size = some { cls := .type "list", data := .seq vals n }) (r : RepVs ι s.heap vals.toList vs) (hl : vs.length ≤ SZ) (q : Q (.ref H.length) (H ++ [.list vs])) :
    Post cx ι ρ s Q (.ref s.heap.objs.size) { s with heap := h', toks := tk } := by
  obtain ⟨S', M⟩ := S.new ok (o := .list vs) tk hk (Nat.le_refl _) ⟨vals, n, g, r.mono (List.prefix_refl _) (.of_ext hk), hl⟩
  exact ⟨_, _, _, M, S', rep_last S _, q⟩

theorem reps_ints {h : Heap} : ∀ (n : Nat) (a c : Int) (vals : List Value), vals.length = n → (∀ (i : Nat) v, vals[i]? = some v → ∃ t, v = .int (a + i * c) t) → RepVs ι h vals (intsV a c n)
  | 0, a, c, vals, hl, _ => by
    have : vals = [] := List.length_eq_zero_iff.mp hl
    subst this; exact .nil
  | n + 1, a, c, [], hl, _ => by simp at hl
  | n + 1, a, c, v :: vals, hl, hv => by
    obtain ⟨t, rfl⟩ := hv 0 v rfl
    have e : a + ((0 : Nat) : Int) * c = a := by simp
    rw [e]
    refine .cons (.int a t) (reps_ints n (a + c) c vals (by simpa using hl) fun i v h => ?_)
    obtain ⟨t, rfl⟩ := hv (i + 1) v (by simpa using h)
    refine ⟨t, ?_⟩
    have : a + c + (i : Int) * c = a + ((i + 1 : Nat) : Int) * c := by rw [Int.natCast_add, Int.add_mul]; simp; omega
    rw [this]

theorem rep_range {h : Heap} {a : Addr} {x y z : Int} {t u v : Tok} (g : h.get? a = some { cls := .type "range", data := .fields #[.int x t, .int y u, .int z v] }) (hs : smallI x ∧ smallI y ∧ smallI z ∧ 0 < z) : RepV ι h (.ref a) (.rng x y z) := .rng g hs

theorem len_sound (S : St cx ι ρ H s) {x : Value} {v : V} {Q : V → Tw.H → Prop} (r : RepV ι s.heap x v) (h : LenW v H Q) : wpAny (model prog cx.w) A (call (.builtin "len") [x]) (Post cx ι ρ s Q) E s := by
  have hz : SZ = 16777216 := rfl
  cases v with
  | str w =>
    obtain ⟨y, t, rfl, rfl, z⟩ := r.strInv
    refine PyProof.Rows.len_str (by omega) (.tok S ?_ h _)
    rw [← len_toList]; exact .int _ _
  | tup vs =>
    obtain ⟨a, n, vals, rfl, g, z, rv⟩ := r.tupI
    have hl : vals.size = vs.length := by rw [← Array.length_toList, rv.length]
    refine PySem.P.len_tuple g (by omega) (.tok S ?_ h _)
    rw [hl]; exact .int _ _
  | ref n =>
    obtain ⟨a, rfl, gi⟩ := r.refI
    obtain ⟨o, hH, _⟩ := S.obj gi
    unfold LenW at h
    dsimp only at h
    rw [hH] at h
    cases o with
    | list vs =>
      obtain ⟨vals, m, g, rv, z⟩ := S.objOf gi hH
      have hl : vals.size = vs.length := by rw [← Array.length_toList, rv.length]
      refine PyProof.Rows.len_list (isList_of g) (by omega) (.tok S ?_ h _)
      rw [hl]; exact .int _ _
    | frz vs =>
      obtain ⟨vals, g, rv, z⟩ := S.objOf gi hH
      have hl : vals.size = vs.length := by rw [← Array.length_toList, rv.length]
      refine PyProof.Rows.len_list g (by omega) (.tok S ?_ h _)
      rw [hl]; exact .int _ _
    | dict es ep => exact h.elim
  | _ => exact h.elim

theorem Post.rng (S : St cx ι ρ H s) {Q : V → Tw.H → Prop} {x y z : Int} {t u v : Tok} (tk : Nat) (hs : smallI x ∧ smallI y ∧ smallI z ∧ 0 < z) (q : Q (.rng x y z) H) :
    Post cx ι ρ s Q (.ref s.heap.objs.size) { s with heap := s.heap.push { cls := .type "range", data := .fields #[.int x t, .int y u, .int z v] }, toks := tk } := by
  have hk : ∀ b ob, s.heap.get? b = some ob → (s.heap.push { cls := .type "range", data := .fields #[.int x t, .int y u, .int z v] }).get? b = some ob := fun _ _ e => Heap.get?_push_of_some _ e
  exact ⟨_, ι, H, .ext hk, S.ext tk hk, rep_range (get?_fresh rfl) hs, q⟩
theorem range_sound (S : St cx ι ρ H s) {vals : List Value} {vs : List V} {Q : V → Tw.H → Prop} (r : RepVs ι s.heap vals vs) (h : RangeW vs H Q) : wpAny (model prog cx.w) A (call (.type "range") vals) (Post cx ι ρ s Q) E s := by
  have s1 : smallI 1 := by unfold smallI; decide
  have s0 : smallI 0 := by unfold smallI; decide
  match vs, r, h with
  | [a], r, h =>
    obtain ⟨x, rfl, g⟩ := r.oneI
    obtain ⟨i, rfl, h1⟩ := asInt.inv h
    obtain ⟨t, rfl⟩ := g.intI
    exact call_range_1 (.rng S _ ⟨s0, h1.1, s1, by decide⟩ h1.2)
  | [a, b], r, h =>
    obtain ⟨x, ys, rfl, g, r⟩ := r.consI
    obtain ⟨y, rfl, g'⟩ := r.oneI
    obtain ⟨i, rfl, h1⟩ := asInt.inv h
    obtain ⟨j, rfl, h2⟩ := asInt.inv h1
    obtain ⟨t, rfl⟩ := g.intI
    obtain ⟨u, rfl⟩ := g'.intI
    exact call_range_2 (.rng S _ ⟨h2.1, h2.2.1, s1, by decide⟩ h2.2.2)
  | [a, b, c], r, h =>
    obtain ⟨x, ys, rfl, g, r⟩ := r.consI
    obtain ⟨y, zs, rfl, g', r⟩ := r.consI
    obtain ⟨z, rfl, g''⟩ := r.oneI
    obtain ⟨i, rfl, h1⟩ := asInt.inv h
    obtain ⟨j, rfl, h2⟩ := asInt.inv h1
    obtain ⟨k, rfl, h3⟩ := asInt.inv h2
    obtain ⟨t, rfl⟩ := g.intI
    obtain ⟨u, rfl⟩ := g'.intI
    obtain ⟨v, rfl⟩ := g''.intI
    obtain ⟨q1, q2, q3, q4, q5⟩ := h3
    exact call_range_3 (by omega) (.rng S _ ⟨q1, q2, q3, q4⟩ q5) (Or.inl (PyProof.noPylong_of_log2 (by
      unfold smallI at q3
      have h0 : k.natAbs ≠ 0 := by omega
      have : k.natAbs < 2 ^ 31 := by omega
      have := (Nat.log2_lt h0).mpr this
      omega)))

theorem ints_length {a c : Int} {n : Nat} : (intsV a c n).length = n := by
  induction n generalizing a with
  | zero => rfl
  | succ n ih => simp [intsV, ih]
theorem list_sound (S : St cx ι ρ H s) (ok : CxOk cx) (hh : A.handled = none) {x : Value} {v : V} {Q : V → Tw.H → Prop} (r : RepV ι s.heap x v) (h : ListW v H Q) : wpAny (model prog cx.w) A (call (.type "list") [x]) (Post cx ι ρ s Q) E s := by
  cases v with
  | rng x y z =>
    obtain ⟨a, t, u, v, rfl, g, hs⟩ := r.rngI
    obtain ⟨h1, h2⟩ := h
    refine call_list_range hh g (small_range hs) (rangeSize_eq hs.2.2.2) h1 fun h' tk acc' c' hk g' hacc => ?_
    refine Post.listE S ok (vs := rangeV x y z) tk hk g' ?_ (by rw [rangeV, ints_length]; exact h1) h2
    exact reps_ints _ _ _ _ (by rw [Array.length_toList]; exact hacc.1) fun i v hv => hacc.2 i v (by simpa using hv)
  | ref n =>
    obtain ⟨a, rfl, gi⟩ := r.refI
    obtain ⟨o, hH, _⟩ := S.obj gi
    unfold ListW at h
    dsimp only at h
    rw [hH] at h
    cases o with
    | list vs =>
      obtain ⟨vals, m, g, rv, z⟩ := S.objOf gi hH
      have hl : vals.size = vs.length := by rw [← Array.length_toList, rv.length]
      refine call_list_seq a (.inl rfl) g rfl rfl (fun h' c' hk g' => ?_) (by rw [hl]; exact h.1)
      exact Post.listE S ok s.toks hk g' rv h.1 h.2
    | frz vs => exact h.elim
    | dict es ep =>
      obtain ⟨ents, D⟩ := S.dict gi hH
      have e : ents.size = es.length := by rw [← Array.length_toList, D.rep.length]
      refine call_list_dict hh (S.notMods gi) D.get (by rw [e]; exact D.le) fun h' tk c' hk g' => ?_
      exact Post.listE S ok tk hk g' (by rw [Array.toList_map]; exact keys_reps D.rep) (by rw [List.length_map]; exact D.le) h
  | _ => exact h.elim

theorem bi_sound (S : St cx ι ρ H s) (ok : CxOk cx) (hh : A.handled = none) (hu : A.units + 50 < cLine) {b : Bi} {vals : List Value} {vs : List V} {Q : V → Tw.H → Prop} (r : RepVs ι s.heap vals vs) (h : BiW b vs H Q) :
    wpAny (model prog cx.w) A (call b.py vals) (Post cx ι ρ s Q) E s := by
  cases b with
  | len =>
    obtain ⟨v, rfl, h1⟩ := arg1.inv h
    obtain ⟨x, rfl, g⟩ := r.oneI
    exact len_sound S g h1
  | range => exact range_sound S r h
  | list =>
    obtain ⟨v, rfl, h1⟩ := arg1.inv h
    obtain ⟨x, rfl, g⟩ := r.oneI
    exact list_sound S ok hh g h1
  | dict =>
    obtain ⟨v, rfl, h1⟩ := arg1.inv h
    obtain ⟨x, rfl, g⟩ := r.oneI
    obtain ⟨n, rfl, h2⟩ := asRef.inv h1
    obtain ⟨a, rfl, gi⟩ := g.refI
    rcases h2 with ⟨ks, v, ver, hH, q⟩ | ⟨vs, ps, hH, hp, q⟩
    · exact dict_one S ok gi hH q
    · exact dict_pairs S ok hu hh gi hH hp q
  | int =>
    obtain ⟨v, rfl, h1⟩ := arg1.inv h
    obtain ⟨x, rfl, g⟩ := r.oneI
    obtain ⟨b, rfl, h2⟩ := asBool.inv h1
    obtain rfl := g.boolI
    exact call_int_bool (.tok S (.int _ _) h2 _)
  | sorted =>
    obtain ⟨v, rfl, h1⟩ := arg1.inv h
    obtain ⟨x, rfl, g⟩ := r.oneI
    exact sort_sound S ok hh g h1
  | _ => exact h.elim

noncomputable def Ty.py : Ty → Value
  | .int => .type "int" | .bool => .type "bool" | .list => .type "list" | .tuple => .type "tuple" | .str => .type "str"

theorem is_sound (S : St cx ι ρ H s) {x : Value} {v : V} {t : Ty} {Q : Bool → Prop} (r : RepV ι s.heap x v) (h : IsW v t H Q) :
    wpAny (model prog cx.w) A (call (.builtin "isinstance") [x, t.py]) (PostB s Q) E s := by
  have yes : Q true → PostB s Q (.bool true) s := fun q => .here q
  have no : Q false → PostB s Q (.bool false) { s with toks := s.toks + 1 } := fun q => ⟨false, _, rfl, rfl, q⟩
  cases v with
  | rng => exact h.elim
  | none =>
    obtain rfl := r.noneI
    cases t with
    | int => exact IsiPair.NoneType_int (no h)
    | bool => exact IsiPair.NoneType_bool (no h)
    | list => exact IsiPair.NoneType_list (no h)
    | tuple => exact IsiPair.NoneType_tuple (no h)
    | str => exact IsiPair.NoneType_str (no h)
  | bool b =>
    obtain rfl := r.boolI
    cases t with
    | int => exact IsiPair.bool_int (yes h)
    | bool => exact IsiPair.bool_bool (yes h)
    | list => exact IsiPair.bool_list (no h)
    | tuple => exact IsiPair.bool_tuple (no h)
    | str => exact IsiPair.bool_str (no h)
  | int i =>
    obtain ⟨u, rfl⟩ := r.intI
    cases t with
    | int => exact IsiPair.int_int (yes h)
    | bool => exact IsiPair.int_bool (no h)
    | list => exact IsiPair.int_list (no h)
    | tuple => exact IsiPair.int_tuple (no h)
    | str => exact IsiPair.int_str (no h)
  | str y =>
    obtain ⟨y, u, rfl, rfl, z⟩ := r.strInv
    cases t with
    | int => exact IsiPair.str_int (no h)
    | bool => exact IsiPair.str_bool (no h)
    | list => exact IsiPair.str_list (no h)
    | tuple => exact IsiPair.str_tuple (no h)
    | str => exact IsiPair.str_str (yes h)
  | tup vs =>
    obtain ⟨a, n, vals, rfl, g, z, rv⟩ := r.tupI
    cases t with
    | int => exact IsiPair.tuple_int g rfl (no h)
    | bool => exact IsiPair.tuple_bool g rfl (no h)
    | list => exact IsiPair.tuple_list g rfl (no h)
    | tuple => exact IsiPair.tuple_tuple g rfl (yes h)
    | str => exact IsiPair.tuple_str g rfl (no h)
  | ref n =>
    obtain ⟨a, rfl, gi⟩ := r.refI
    obtain ⟨o, hH, _⟩ := S.obj gi
    unfold IsW at h
    dsimp only at h
    rw [hH] at h
    cases o with
    | list vs =>
      obtain ⟨vals, m, g, rv, z⟩ := S.objOf gi hH
      cases t with
      | int => exact IsiPair.list_int g rfl (no h)
      | bool => exact IsiPair.list_bool g rfl (no h)
      | list => exact IsiPair.list_list g rfl (yes h)
      | tuple => exact IsiPair.list_tuple g rfl (no h)
      | str => exact IsiPair.list_str g rfl (no h)
    | frz vs => exact h.elim
    | dict es ep =>
      obtain ⟨ents, D⟩ := S.dict gi hH
      cases t with
      | int => exact IsiPair.dict_int D.get rfl (no h)
      | bool => exact IsiPair.dict_bool D.get rfl (no h)
      | list => exact IsiPair.dict_list D.get rfl (no h)
      | tuple => exact IsiPair.dict_tuple D.get rfl (no h)
      | str => exact IsiPair.dict_str D.get rfl (no h)

/-! methods -/
noncomputable def Mt.nm : Mt → Str
  | .append => "append" | .reverse => "reverse" | .pop => "pop" | .dpop => "pop" | .clear => "clear" | .index => "index" | .update => "update" | .get => "get" | .join => "join" | .startswith => "startswith"
noncomputable def Mt.id : Mt → String
  | .append => "list.append" | .reverse => "list.reverse" | .pop => "list.pop" | .dpop => "dict.pop" | .clear => "list.clear" | .index => "list.index" | .update => "dict.update" | .get => "dict.get" | .join => "str.join" | .startswith => "str.startswith"

theorem gm_any {x : Value} {T : String} {name : Str} {id : String} {pl : Sem Bool} {Q : Value × List Value → Shared → Prop} (hT : s.TypeIs x T) (pa : PlainAttrs T) (sl : Slot T name id) (ty : typeOf (.builtin id) = pure (.type "method_descriptor"))
    (hd : ∀ a, x = .ref a → ∃ o, s.heap.get? a = some o ∧ o.dict = none) (q : Q (.builtin id, [x]) s) : wpAny (model prog cx.w) A (getMethod x name pl) Q E s := by
  refine getMethod_builtin (T := T) (id := id) ?a ?b ?c ?d ?e ?f
  case a => exact hT
  case b => exact pa
  case c => exact sl
  case d => exact ty
  case e => exact hd
  case f => exact q

structure MtFacts (T : String) (name : Str) (id : String) : Prop where
  sl : Slot T name id
  ty : typeOf (.builtin id) = pure (.type "method_descriptor")
theorem mt_append : MtFacts "list" (Mt.nm .append) (Mt.id .append) := ⟨F.slot_list_append, F.type_list_append⟩
theorem mt_reverse : MtFacts "list" (Mt.nm .reverse) (Mt.id .reverse) := ⟨F.slot_list_reverse, F.type_list_reverse⟩
theorem mt_clear : MtFacts "list" (Mt.nm .clear) (Mt.id .clear) := ⟨F.slot_list_clear, F.type_list_clear⟩
theorem mt_index : MtFacts "list" (Mt.nm .index) (Mt.id .index) := ⟨F.slot_list_index, F.type_list_index⟩
theorem mt_pop : MtFacts "list" (Mt.nm .pop) (Mt.id .pop) := ⟨F.slot_list_pop, F.type_list_pop⟩
theorem mt_update : MtFacts "dict" (Mt.nm .update) (Mt.id .update) := ⟨F.slot_dict_update, F.type_dict_update⟩
theorem mt_get : MtFacts "dict" (Mt.nm .get) (Mt.id .get) := ⟨F.slot_dict_get, F.type_dict_get⟩
theorem mt_join : MtFacts "str" (Mt.nm .join) (Mt.id .join) := ⟨F.slot_str_join, F.type_str_join⟩
theorem mt_startswith : MtFacts "str" (Mt.nm .startswith) (Mt.id .startswith) := ⟨F.slot_str_startswith, F.type_str_startswith⟩
theorem mt_dpop : MtFacts "dict" (Mt.nm .dpop) (Mt.id .dpop) := ⟨F.slot_dict_pop, F.type_dict_pop⟩

theorem gm_list (S : St cx ι ρ H s) {x : Value} {v : V} {nm : Str} {id : String} (r : RepV ι s.heap x v) (h : asRef v fun n => ∃ vs, H[n]? = some (.list vs)) (f : MtFacts "list" nm id) : ∃ T, s.TypeIs x T ∧ PlainAttrs T ∧ MtFacts T nm id ∧ ∀ a, x = .ref a → ∃ o, s.heap.get? a = some o ∧ o.dict = none := by
  obtain ⟨n, rfl, vs, hH⟩ := asRef.inv h
  obtain ⟨a, rfl, gi⟩ := r.refI
  obtain ⟨vals, m, g, rv, z⟩ := S.objOf gi hH
  exact ⟨_, ⟨_, g, rfl⟩, F.plainAttrs_list, f, fun b e => by cases e; exact ⟨_, g, rfl⟩⟩
theorem gm_dict (S : St cx ι ρ H s) {x : Value} {v : V} {nm : Str} {id : String} (r : RepV ι s.heap x v) (h : asRef v fun n => ∃ es ver, H[n]? = some (.dict es ver)) (f : MtFacts "dict" nm id) : ∃ T, s.TypeIs x T ∧ PlainAttrs T ∧ MtFacts T nm id ∧ ∀ a, x = .ref a → ∃ o, s.heap.get? a = some o ∧ o.dict = none := by
  obtain ⟨n, rfl, es, ep, hH⟩ := asRef.inv h
  obtain ⟨a, rfl, gi⟩ := r.refI
  obtain ⟨ents, D⟩ := S.dict gi hH
  exact ⟨_, ⟨_, D.get, rfl⟩, F.plainAttrs_dict, f, fun b e => by cases e; exact ⟨_, D.get, rfl⟩⟩
theorem gm_str {x : Value} {v : V} {nm : Str} {id : String} (r : RepV ι s.heap x v) (h : asStr v fun _ => True) (f : MtFacts "str" nm id) : ∃ T, s.TypeIs x T ∧ PlainAttrs T ∧ MtFacts T nm id ∧ ∀ a, x = .ref a → ∃ o, s.heap.get? a = some o ∧ o.dict = none := by
  obtain ⟨w, rfl, _⟩ := asStr.inv h
  obtain ⟨y, t, rfl, _, _⟩ := r.strInv
  exact ⟨_, typeIs_str s y t, F.plainAttrs_str, f, fun b e => nomatch e⟩
theorem gm_fact (S : St cx ι ρ H s) {m : Mt} {x : Value} {v : V} (r : RepV ι s.heap x v) (h : recvOk m v H) :
    ∃ T, s.TypeIs x T ∧ PlainAttrs T ∧ MtFacts T m.nm m.id ∧ ∀ a, x = .ref a → ∃ o, s.heap.get? a = some o ∧ o.dict = none := by
  cases m with
  | append => exact gm_list S r h mt_append
  | reverse => exact gm_list S r h mt_reverse
  | clear => exact gm_list S r h mt_clear
  | index => exact gm_list S r h mt_index
  | pop => exact gm_list S r h mt_pop
  | dpop => exact gm_dict S r h mt_dpop
  | update => exact gm_dict S r h mt_update
  | get => exact gm_dict S r h mt_get
  | join => exact gm_str r h mt_join
  | startswith => exact gm_str r h mt_startswith
theorem getMethod_sound (S : St cx ι ρ H s) {m : Mt} {x : Value} {v : V} {pl : Sem Bool} {Q : Value × List Value → Shared → Prop} (r : RepV ι s.heap x v) (h : recvOk m v H) (q : Q (.builtin m.id, [x]) s) :
    wpAny (model prog cx.w) A (getMethod x m.nm pl) Q E s := by
  obtain ⟨T, hT, pa, f, hd⟩ := gm_fact S r h
  exact gm_any (cx := cx) hT pa f.sl f.ty hd q

theorem set_list (S : St cx ι ρ H s) {n : Nat} {a : Addr} {vals : Array Value} {m : Nat} {ws vs : List V} {v : V} {val : Value} {f : Array Value → Array Value} {Q : V → Tw.H → Prop} (gi : ι[n]? = some a) (hH : H[n]? = some (.list ws))
    (g : s.heap.get? a = some { cls := .type "list", data := .seq vals m }) (rf : ∀ h', Imm s.heap h' → RepVs ι h' (f vals).toList vs ∧ RepV ι h' val v) (hl : vs.length ≤ SZ) (q : Q v (H.set n (.list vs))) (tk : Nat) :
    Post cx ι ρ s Q val { s with heap := s.heap.update a (Obj.mapSeq f), toks := tk } := by
  have imm : Imm s.heap (s.heap.update a (Obj.mapSeq f)) := .of_but (Heap.SameBut.update ..).extBut fun o e => by rw [g] at e; cases e; exact notImm_list rfl
  obtain ⟨r1, r2⟩ := rf _ imm
  obtain ⟨S', M⟩ := S.set (o' := .list vs) tk gi (fun vs e => by rw [hH] at e; cases e) (Heap.SameBut.update s.heap a (Obj.mapSeq f)).extBut ⟨f vals, _, Heap.get?_update_self _ g rfl, r1, hl⟩
  exact ⟨v, ι, _, M, S', r2, q⟩

theorem strs_are {h : Heap} : ∀ {xs : List Value} {vs : List V} {ys : List (List Nat)}, RepVs ι h xs vs → isStrs vs = some ys → ∃ zs : List Str, PyProof.Rows.StrsAre xs zs ∧ zs.map (·.cps.toList) = ys
  | _, _, _, .nil, e => by simp [isStrs] at e; subst e; exact ⟨[], .nil, rfl⟩
  | _, _, ys, .cons g r, e => by
    cases g <;> simp [isStrs] at e
    rename_i x t z
    obtain ⟨ys', e', rfl⟩ := e
    obtain ⟨zs, h1, h2⟩ := strs_are r e'
    exact ⟨x :: zs, .cons x t h1, by simp [h2]⟩

theorem join_toList : ∀ (zs : List Str), (Str.join (⟨#[]⟩ : Str) zs).cps.toList = joinS [] (zs.map (·.cps.toList))
  | [] => rfl
  | [x] => rfl
  | x :: y :: r => by
    show ((x ++ (⟨#[]⟩ : Str)) ++ Str.join ⟨#[]⟩ (y :: r)).cps.toList = _
    rw [toList_app, toList_app, join_toList (y :: r)]
    simp [joinS]
theorem joinS_nil : ∀ (xs : List (List Nat)), joinS [] xs = xs.flatten
  | [] => rfl
  | [x] => by simp [joinS]
  | x :: y :: r => by simp [joinS, joinS_nil (y :: r)]
theorem sum_lens : ∀ (zs : List Str), (zs.map (·.length)).sum = ((zs.map (·.cps.toList)).map List.length).sum
  | [] => rfl
  | z :: r => by simp only [List.map_cons, List.sum_cons, sum_lens r, len_toList]

theorem meth_sound (S : St cx ι ρ H s) (hu : A.units + 50 < cLine) {m : Mt} {x : Value} {vals : List Value} {o : V} {vs : List V} {Q : V → Tw.H → Prop} (rx : RepV ι s.heap x o) (rv : RepVs ι s.heap vals vs) (h : MethW m o vs H Q) :
    wpAny (model prog cx.w) A (call (.builtin m.id) (x :: vals)) (Post cx ι ρ s Q) E s := by
  cases m with
  | append =>
    obtain ⟨n, rfl, h1⟩ := asRef.inv h
    obtain ⟨v, rfl, ws, hH, hl, q⟩ := arg1.inv h1
    obtain ⟨a, rfl, gi⟩ := rx.refI
    obtain ⟨y, rfl, g⟩ := rv.oneI
    obtain ⟨va, k, gl, rl, z⟩ := S.objOf gi hH
    have e : va.size = ws.length := by rw [← Array.length_toList, rl.length]
    refine call_meets F.slot_list_append ⟨_, gl, rfl⟩ F.entry_list_append (F.args_list_append_2 _ _) (PySem.list_append a va k _ (by rw [e]; exact z)) ⟨gl, ?_⟩
    exact set_list S gi hH gl (fun h' imm => ⟨by rw [Array.toList_push]; exact (rl.mono (List.prefix_refl _) imm).append (.cons (g.mono (List.prefix_refl _) imm) .nil), .none⟩) (by rw [List.length_append]; exact hl) q s.toks
  | reverse =>
    obtain ⟨n, rfl, h1⟩ := asRef.inv h
    obtain ⟨rfl, ws, hH, q⟩ := arg0.inv h1
    obtain ⟨a, rfl, gi⟩ := rx.refI
    obtain rfl := rv.nilI
    obtain ⟨va, k, gl, rl, z⟩ := S.objOf gi hH
    have e : va.size = ws.length := by rw [← Array.length_toList, rl.length]
    refine call_meets F.slot_list_reverse ⟨_, gl, rfl⟩ F.entry_list_reverse (F.args_list_reverse_1 _) (AutoSeq1.list_reverse_list_0 a va k (by rw [e]; exact z)) ⟨gl, ?_⟩
    exact set_list S gi hH gl (fun h' imm => ⟨by rw [Array.toList_reverse]; exact (rl.mono (List.prefix_refl _) imm).reverse, .none⟩) (by rw [List.length_reverse]; exact z) q s.toks
  | join =>
    obtain ⟨sep, rfl, h1⟩ := asStr.inv h
    obtain ⟨v, rfl, h2⟩ := arg1.inv h1
    obtain ⟨n, rfl, ws, xs, hH, hs, hsep, hsum, q⟩ := asRef.inv h2
    obtain ⟨y, t, rfl, ey, zy⟩ := rx.strInv
    obtain ⟨x, rfl, g⟩ := rv.oneI
    obtain ⟨a, rfl, gi⟩ := g.refI
    obtain ⟨va, k, gl, rl, z⟩ := S.objOf gi hH
    obtain ⟨zs, hzs, rfl⟩ := strs_are rl hs
    obtain rfl : y = ⟨#[]⟩ := str_inj (by rw [ey, hsep])
    subst hsep
    refine PyProof.Rows.join_list (isList_of gl) hzs (by rw [sum_lens]; simpa [Str.length] using hsum) fun t' tk => ?_
    rw [show Txt.join (⟨#[]⟩ : Str) zs = Str.join ⟨#[]⟩ zs from StrLaws.glued_eq_join _ _]
    refine Post.tok (val := .str (Str.join ⟨#[]⟩ zs) t') S (.strOf (join_toList zs) ?_) q tk
    rw [← len_toList, join_toList, joinS_nil, List.length_flatten]
    exact hsum
  | update =>
    obtain ⟨n, rfl, h1⟩ := asRef.inv h
    obtain ⟨v, rfl, h2⟩ := arg1.inv h1
    obtain ⟨m, rfl, es, ver, es', ver', hnm, hn, hm, hne, hl, q⟩ := asRef.inv h2
    obtain ⟨a, rfl, gi⟩ := rx.refI
    obtain ⟨y, rfl, g⟩ := rv.oneI
    obtain ⟨b, rfl, gj⟩ := g.refI
    exact update_sound S hu gi gj hnm hn hm hne hl q
  | _ => exact h.elim
end
end Tw
end

section
namespace Tw
open PySem PySem.SeqAt

section
variable {cx : Cx} {ι : List Addr} {ρ : Rho} {H : H} {s : Shared} {A : Around} {prog : Program} {E : Value → Shared → Prop}

theorem take_drop {α : Type} (l : List α) (i j : Nat) : (l.drop (min i l.length)).take (min j l.length - min i l.length) = (l.take j).drop i := by
  rw [List.drop_take]
  by_cases hi : i ≤ l.length
  · rw [Nat.min_eq_left hi]
    by_cases hj : j ≤ l.length
    · rw [Nat.min_eq_left hj]
    · rw [Nat.min_eq_right (show l.length ≤ j by omega)]
      rw [List.take_of_length_le (by simp), List.take_of_length_le (by simp; omega)]
  · rw [Nat.min_eq_right (show l.length ≤ i by omega), List.drop_length, List.drop_of_length_le (show l.length ≤ i by omega)]
    simp

theorem part_lo {y : Value} {lo : V} {h : Heap} {i : Nat} (r : RepV ι h y lo) (e : loOf lo = some i) : ∃ p : Option (Int × Tok), y = partValue p ∧ IsPart y (p.map (·.1)) ∧ ((p = none ∧ i = 0) ∨ ∃ t, p = some ((i : Int), t)) := by
  cases r with
  | none => simp [loOf] at e; subst e; exact ⟨none, rfl, .none, .inl ⟨rfl, rfl⟩⟩
  | int k t =>
    simp only [loOf] at e
    by_cases hk : 0 ≤ k ∧ k < 2 ^ 62
    · rw [if_pos hk] at e
      injection e with e
      subst e
      exact ⟨some (k, t), rfl, .int k t, .inr ⟨t, by rw [Int.toNat_of_nonneg hk.1]⟩⟩
    · rw [if_neg hk] at e; cases e
  | _ => simp [loOf] at e
theorem part_hi {y : Value} {hi : V} {h : Heap} {n j : Nat} (r : RepV ι h y hi) (e : hiOf n hi = some j) : ∃ p : Option (Int × Tok), y = partValue p ∧ IsPart y (p.map (·.1)) ∧ ((p = none ∧ j = n) ∨ ∃ t, p = some ((j : Int), t)) := by
  cases r with
  | none => simp [hiOf] at e; subst e; exact ⟨none, rfl, .none, .inl ⟨rfl, rfl⟩⟩
  | int k t =>
    simp only [hiOf] at e
    by_cases hk : 0 ≤ k ∧ k < 2 ^ 62
    · rw [if_pos hk] at e
      injection e with e
      subst e
      exact ⟨some (k, t), rfl, .int k t, .inr ⟨t, by rw [Int.toNat_of_nonneg hk.1]⟩⟩
    · rw [if_neg hk] at e; cases e
  | _ => simp [hiOf] at e

theorem clip_lo {p : Option (Int × Tok)} {i n : Nat} (h : (p = none ∧ i = 0) ∨ ∃ t, p = some ((i : Int), t)) : (p.map (·.1)).elim 0 (clipAt n) = min i n := by
  rcases h with ⟨rfl, rfl⟩ | ⟨t, rfl⟩
  · simp
  · exact clipAt_nat n i
theorem clip_hi {p : Option (Int × Tok)} {j n : Nat} (h : (p = none ∧ j = n) ∨ ∃ t, p = some ((j : Int), t)) : (p.map (·.1)).elim n (clipAt n) = min j n := by
  rcases h with ⟨rfl, rfl⟩ | ⟨t, rfl⟩
  · simp
  · exact clipAt_nat n j

theorem str_bounds (lo hi : Option Int) (n : Nat) : Builtin.Str.strSliceIndices lo hi 1 n = sliceRange ((lo.elim 0 (clipAt n) : Nat) : Int) ((hi.elim n (clipAt n) : Nat) : Int) 1 := by
  cases lo <;> cases hi <;> simp [Builtin.Str.strSliceIndices, clipAt_cast]

theorem slice_sound (S : St cx ι ρ H s) (ok : CxOk cx) {value : Expr} {l u : Option Expr} {p : Pos} {x yl yh : Value} {a lo hi : V} {sl : Addr} {Q : V → Tw.H → Prop} (ra : RepV ι s.heap x a) (rl : RepV ι s.heap yl lo) (rh : RepV ι s.heap yh hi)
    (hs : s.heap.get? sl = some { cls := .type "slice", data := .fields #[yl, yh, .none] }) (h : SliceW a lo hi H Q) :
    wpAny (model prog cx.w) A (PyProof.Rows.subscriptTail value (.Slice l u none p) x (.ref sl)) (Post cx ι ρ s Q) E s := by
  cases a with
  | str w =>
    obtain ⟨y, t, rfl, rfl, z⟩ := ra.strInv
    obtain ⟨i, j, e1, e2, q⟩ := h
    obtain ⟨pl, rfl, _, hl⟩ := part_lo rl e1
    obtain ⟨pu, rfl, _, hu⟩ := part_hi rh e2
    have picked : ((slicePicked y pl pu none).filterMap (y.cps[·]?)) = (y.cps.toList.take j).drop i := by
      unfold slicePicked
      rw [Option.map_none, Option.getD_none, str_bounds, clip_lo hl]
      have hu' : (pu = none ∧ j = y.length) ∨ ∃ t, pu = some ((j : Int), t) := by rw [← len_toList]; exact hu
      rw [clip_hi hu', sliceRange_one, pick_run]
      have := take_drop y.cps.toList i j
      rw [len_toList] at this
      exact this
    have le : ((y.cps.toList.take j).drop i).length ≤ SZ := by
      rw [List.length_drop, List.length_take, len_toList]
      have : min j y.length ≤ y.length := Nat.min_le_right _ _
      omega
    have hT := typeIs_str s y t
    generalize hx : Value.str y t = x at hT
    refine PyProof.Rows.tail_any hT F.slot_str_getitem.lookup ?_ rfl
    subst hx
    refine wpAny_getItem_str_slice (l := pl) (u := pu) (st := none) ⟨_, hs, rfl, rfl⟩ rfl ?_
    have pl' : (slicePicked y pl pu none).length = ((slicePicked y pl pu none).filterMap (y.cps[·]?)).length := by
      unfold slicePicked
      rw [Option.map_none, Option.getD_none, str_bounds, clip_lo hl]
      have hu' : (pu = none ∧ j = y.length) ∨ ∃ t, pu = some ((j : Int), t) := by rw [← len_toList]; exact hu
      rw [clip_hi hu', sliceRange_one, pick_run]
      simp
      have e3 : y.cps.size = y.length := rfl
      rw [e3]
      omega
    unfold sliceMade
    split
    · rename_i hc
      simp only [Bool.and_eq_true, beq_iff_eq] at hc
      have sub : ((y.cps.toList.take j).drop i).Sublist y.cps.toList := (List.drop_sublist _ _).trans (List.take_sublist _ _)
      have whole : (y.cps.toList.take j).drop i = y.cps.toList := sub.eq_of_length (by rw [← picked, ← pl', hc.2, len_toList])
      rw [whole] at q
      exact .here S (.str y t z) q
    · refine ⟨?_, ?_⟩
      · show ((slicePicked y pl pu none).filterMap (y.cps[·]?)).toArray.size ≤ sizeLine
        rw [picked, List.size_toArray]; exact le
      · refine .tok S (.strOf (s := (y.cps.toList.take j).drop i) ?_ ?_) q _
        · show ((slicePicked y pl pu none).filterMap (y.cps[·]?)).toArray.toList = _
          rw [picked]
        · show ((slicePicked y pl pu none).filterMap (y.cps[·]?)).toArray.size ≤ SZ
          rw [picked, List.size_toArray]; exact le
  | ref n =>
    obtain ⟨b, rfl, gi⟩ := ra.refI
    obtain ⟨vs, i, j, hH, e1, e2, q⟩ := h
    obtain ⟨pl, rfl, il, hl⟩ := part_lo rl e1
    obtain ⟨pu, rfl, iu, hu⟩ := part_hi rh e2
    have go : ∀ vals : Array Value, s.heap.IsList b vals → RepVs ι s.heap vals.toList vs → vs.length ≤ SZ → wpAny (model prog cx.w) A (PyProof.Rows.subscriptTail value (.Slice l u none p) (.ref b) (.ref sl)) (Post cx ι ρ s Q) E s := by
      intro vals g rv z
      have hn : vals.size = vs.length := by rw [← Array.length_toList, rv.length]
      refine PyProof.Rows.tail_any g.typeIs slot_list_getitem.lookup ?_ rfl
      refine wpAny_getItem_list_slice g ⟨_, hs, rfl, rfl⟩ il iu .none (by simp) ?_ (by rw [hn]; exact z)
      rw [slicePick_plain, hn, clip_lo hl, clip_hi hu]
      have e : (vals.toList.drop (min i vs.length)).take (min j vs.length - min i vs.length) = (vals.toList.take j).drop i := by
        have := take_drop vals.toList i j
        rw [rv.length] at this; exact this
      refine Post.list S ok (vs := (vs.take j).drop i) ?_ ?_ q s.toks
      · show RepVs ι s.heap ((vals.toList.drop (min i vs.length)).take (min j vs.length - min i vs.length)).toArray.toList _
        rw [e]
        exact (rv.take j).drop i
      · rw [List.length_drop, List.length_take]
        have : min j vs.length ≤ vs.length := Nat.min_le_right _ _
        omega
    rcases hH with hH | hH
    · obtain ⟨vals, m, g, rv, z⟩ := S.objOf gi hH
      exact go vals (isList_of g) rv z
    · obtain ⟨vals, g, rv, z⟩ := S.objOf gi hH
      exact go vals g rv z
  | _ => exact h.elim

theorem store_dict (S : St cx ι ρ H s) (hu : A.units + 50 < cLine) {a : Addr} {n ep : Nat} {es : List (V × V)} {y z : Value} {i v : V} {Q : Tw.H → Prop} (gi : ι[n]? = some a) (hH : H[n]? = some (.dict es ep)) (ri : RepV ι s.heap y i) (rv : RepV ι s.heap z v) (hk : i.isKey = true) (hl : es.length < SZ)
    (q : ∀ ver, Q (H.set n (.dict (dput es i v) ver))) : wpAny (model prog cx.w) A (setItem (.ref a) y z) (fun _ s' => ∃ H', Mono ι s ι s' ∧ St cx ι ρ H' s' ∧ Q H') E s := by
  obtain ⟨ents, D⟩ := S.dict gi hH
  have hT : s.TypeIs (.ref a) "dict" := ⟨_, D.get, rfl⟩
  refine wpAny_holding (wpAny_bind (wpAny_sequenceKey hT (by decide) ?_))
  refine wpAny_bind (wpAny_callSpecial?_slot (name := Str.ofString "__setitem__") hT slot_dict_setitem
    (wpAny_call_entry slot_dict_setitem hT entry_dict_setitem ?_ (args_dict_setitem _ _ _)))
  show wpAny _ _ (Builtin.Dict.notOrdered "__setitem__" ⟨[.ref a, y, z], []⟩ >>= _) _ _ s
  refine wpAny_bind (wpAny_notOrdered_dict hT ?_)
  show wpAny _ _ (dictSet a y z >>= _) _ _ s
  refine wpAny_bind (dictSet_key S (by show A.units + 1 + 9 < cLine; omega) gi hH D hl ri rv hk fun ver s' S' M => ?_)
  exact wpAny_pure ⟨.none, rfl, wpAny_pure ⟨_, M, S', q ver⟩⟩
theorem store_sound (S : St cx ι ρ H s) (hu : A.units + 50 < cLine) {x y z : Value} {o i v : V} {Q : Tw.H → Prop} (ro : RepV ι s.heap x o) (ri : RepV ι s.heap y i) (rv : RepV ι s.heap z v) (h : StoreW o i v H Q) :
    wpAny (model prog cx.w) A (setItem x y z) (fun _ s' => ∃ H', Mono ι s ι s' ∧ St cx ι ρ H' s' ∧ Q H') E s := by
  obtain ⟨n, rfl, h1⟩ := asRef.inv h
  clear h
  obtain ⟨a, rfl, gi⟩ := ro.refI
  obtain ⟨ob, hH, _⟩ := S.obj gi
  rw [hH] at h1
  cases ob with
  | frz vs => exact h1.elim
  | list vs => exact h1.elim
  | dict es ep => exact store_dict S hu gi hH ri rv h1.1 h1.2.1 h1.2.2
end
end Tw
end

section
namespace Tw
open PySem PySem.SeqAt

/-! the state without a frame, and the frames that are kept aside -/
structure Wd (w : World) (P : Addr → Obj → Prop) (s0 : Shared) (sc : Addr) (ι : List Addr) (H : H) (s : Shared) : Prop where
  same : ∃ h tk, s = { s0 with heap := h, toks := tk }
  len : ι.length = H.length
  nodup : ι.Nodup
  objs : ∀ (n : Nat) (a : Addr) (o : MO), ι[n]? = some a → H[n]? = some o → RepO w ι s.heap a o
  low : ∀ a ∈ ι, a ≠ sysModules
  scr : ∀ o, s0.heap.get? sc = some o → s.heap.get? sc = some o
  scrI : ∀ (n : Nat), ι[n]? = some sc → ∃ vs, H[n]? = some (.frz vs)
  scrIn : sc ∈ ι
  prot : ∀ a o, P a o → s.heap.get? a = some o
  protI : ∀ a o, P a o → a ∉ ι

inductive PostW (w : World) (P : Addr → Obj → Prop) (s0 : Shared) (scr : Addr) (ι : List Addr) (s : Shared) (Q : V → H → Prop) (val : Value) (s' : Shared) : Prop
  | mk (v : V) (ι' : List Addr) (H' : H) (M : Mono ι s ι' s') (W : Wd w P s0 scr ι' H' s') (r : RepV ι' s'.heap val v) (q : Q v H')

/-- the frame's own objects, as they are now -/
noncomputable def frameP (cx : Cx) (h : Heap) : Addr → Obj → Prop := fun a o => cx.P a o ∨ (h.get? a = some o ∧ (a = cx.env.locals ∨ ∃ x, cx.env.cells.lookup x = some a))

section
variable {cx : Cx} {ι ι' : List Addr} {ρ : Rho} {H H' : Tw.H} {s s' : Shared}
theorem St.wd (S : St cx ι ρ H s) : Wd cx.w cx.P cx.s0 cx.scr ι H s := ⟨S.same, S.len, S.nodup, S.objs, S.low, S.scr, S.scrI, S.scrIn, S.prot, S.protI⟩
theorem St.wdF (S : St cx ι ρ H s) : Wd cx.w (frameP cx s.heap) cx.s0 cx.scr ι H s :=
  ⟨S.same, S.len, S.nodup, S.objs, S.low, S.scr, S.scrI, S.scrIn, fun a o p => p.elim (S.prot a o) fun q => q.1,
    fun a o p => p.elim (S.protI a o) fun q => q.2.elim (fun e => e ▸ S.nsI) fun ⟨x, l⟩ => (S.cells x a l).2.1⟩
theorem VarAt.at {env : Env} {h h' : Heap} {x : Str} {val : Value} (v : VarAt env h x val) (hl : ∀ o, h.get? env.locals = some o → h'.get? env.locals = some o)
    (hc : ∀ x c o, env.cells.lookup x = some c → h.get? c = some o → h'.get? c = some o) : VarAt env h' x val := by
  rcases v with ⟨k, m, n, e⟩ | ⟨k, c, l, o, g, i⟩
  · exact .inl ⟨k, m, n.at' hl, e⟩
  · exact .inr ⟨k, c, l, o, hc x c o l g, i⟩
/-- another went on where the frame's own objects stayed -/
theorem St.back (S : St cx ι ρ H s) (W : Wd cx.w (frameP cx s.heap) cx.s0 cx.scr ι' H' s') (M : Mono ι s ι' s') : St cx ι' ρ H' s' where
  same := W.same
  len := W.len
  nodup := W.nodup
  objs := W.objs
  low := W.low
  scr := W.scr
  scrI := W.scrI
  scrIn := W.scrIn
  prot := fun a o p => W.prot a o (.inl p)
  protI := fun a o p => W.protI a o (.inl p)
  ns := let ⟨m, n⟩ := S.ns; ⟨m, n.at' fun o e => W.prot _ o (.inr ⟨e, .inl rfl⟩)⟩
  nsI := by
    obtain ⟨m, n⟩ := S.ns
    obtain ⟨o, g⟩ := Ns.obj n
    exact W.protI _ o (.inr ⟨g, .inl rfl⟩)
  cells := fun x c l => by
    obtain ⟨⟨ov, o, g, i⟩, _, h2⟩ := S.cells x c l
    exact ⟨⟨ov, o, W.prot c o (.inr ⟨g, .inr ⟨x, l⟩⟩), i⟩, W.protI c o (.inr ⟨g, .inr ⟨x, l⟩⟩), h2⟩
  vars := fun x i v hx hv => by
    obtain ⟨val, va, r⟩ := S.vars x i v hx hv
    exact ⟨val, va.at (fun o e => W.prot _ o (.inr ⟨e, .inl rfl⟩)) fun x c o l e => W.prot c o (.inr ⟨e, .inr ⟨x, l⟩⟩), M.rep r⟩
end

/-! what the program's text says of names -/
structure Sc where
  nm : Str → Option Nat
  gk : Str → Bool
  ck : Str → Bool
  st : Str → Bool
  lim : Nat

inductive Gl where
  | fn (k : Nat)
  | bi (b : Bi)
  | isinst
  | ty (t : Ty)
  | const (i : Int)

structure FnRec where
  name : Str
  params : Arguments
  body : List Stmt
  scope : Scope

abbrev Names := Str → Option Gl
abbrev Tab := Nat → Option FnRec

inductive FnAt (h : Heap) (a : Addr) (f : FnRec) : Prop
  | mk (o : Obj) (pm code doc : Value) (g : h.get? a = some o) (d : o.data = .func (Calls.docDef f.name f.params f.body f.scope pm code doc)) (c : h.CodeRec code f.name)
/-- what a global name is -/
noncomputable def IsGl (T : Tab) (h : Heap) (mg mb : Str → Option Value) (x : Str) : Gl → Prop
  | .fn k => ∃ a f, mg x = some (.ref a) ∧ T k = some f ∧ FnAt h a f
  | .bi b => mg x = none ∧ mb x = some b.py
  | .isinst => mg x = none ∧ mb x = some (.builtin "isinstance")
  | .ty t => mg x = none ∧ mb x = some t.py
  | .const i => ∃ t, mg x = some (.int i t)

structure Gd (G : Names) (T : Tab) (s0 : Shared) (scr : Addr) : Prop where
  ns : ∃ mg mb, s0.heap.Ns mainGlobals mg ∧ s0.heap.Ns builtinsNs mb ∧ ∀ x g, G x = some g → IsGl T s0.heap mg mb x g
  scrG : mainGlobals ≠ scr
  scrB : builtinsNs ≠ scr
  fns : ∀ k f, T k = some f → ∃ a, FnAt s0.heap a f
  notScr : ∀ a f, FnAt s0.heap a f → a ≠ scr
  lim : s0.heap.NoLimit
  code : ∀ c n, s0.heap.CodeRec c n → ∀ h' : Heap, (∀ b o, s0.heap.get? b = some o → b ≠ scr → h'.get? b = some o) → h'.CodeRec c n
  lim' : ∀ h' : Heap, (∀ b o, s0.heap.get? b = some o → b ≠ scr → h'.get? b = some o) → h'.NoLimit
  low : ∃ o, s0.heap.get? sysModules = some o ∧ sysModules ≠ scr

structure Fit (sc : Sc) (cx : Cx) : Prop where
  nm : ∀ x, cx.nm x = sc.nm x
  st : ∀ x, cx.st x = sc.st x
  gk : ∀ x, sc.gk x = true → cx.env.kindOf x = some .globalImplicit ∧ (x == ("__debug__" : Str)) = false
  ck : ∀ x, sc.ck x = true → (cx.env.kindOf x = some .cell ∨ cx.env.kindOf x = some .free) ∧ ∃ c, cx.env.cells.lookup x = some c
  stk : ∀ x, sc.st x = true → cx.env.kindOf x = some .local ∨ cx.env.kindOf x = some .cell
  lim : ∀ x i, sc.nm x = some i → i < sc.lim

noncomputable def Bnd (n : Nat) (ρ : Rho) : Prop := ∀ i, n ≤ i → ρ i = none

/-- calls answer as the oracle says -/
noncomputable def CallOk (prog : Program) (G : Names) (T : Tab) (C : Ora) (d : Nat) : Prop :=
  ∀ {w : World} {P : Addr → Obj → Prop} {s0 : Shared} {scr : Addr} {ι : List Addr} {H : H} {s : Shared} {A : Around} {k : Nat} {f : FnRec} {a : Addr} {vals : List Value} {vs : List V} {Q : V → Tw.H → Prop} {E : Value → Shared → Prop},
    Gd G T s0 scr → (∀ a o, s0.heap.get? a = some o → a ≠ scr → P a o) → Wd w P s0 scr ι H s → AOk A d → T k = some f → FnAt s0.heap a f → RepVs ι s.heap vals vs → C k vs H Q →
    wpAny (model prog w) A (call (.ref a) vals) (PostW w P s0 scr ι s Q) E s

structure Pg where
  prog : Program
  G : Names
  T : Tab

structure At (p : Pg) (sc : Sc) (C : Ora) (d : Nat) (cx : Cx) (A : Around) : Prop where
  call : CallOk p.prog p.G p.T C d
  ok : CxOk cx
  fit : Fit sc cx
  gd : Gd p.G p.T cx.s0 cx.scr
  ao : AOk A d

noncomputable def SndE (p : Pg) (sc : Sc) (e : Expr) (e' : E) : Prop :=
  ∀ {C : Ora} {d : Nat} {cx : Cx} {A : Around} {ι : List Addr} {ρ : Rho} {H : H} {s : Shared} {Q : V → Tw.H → Prop} {E : Value → Shared → Prop},
    At p sc C d cx A → St cx ι ρ H s → Bnd sc.lim ρ → wpE C e' ρ H Q → wpAny (model p.prog cx.w) A (eval e cx.env) (Post cx ι ρ s Q) E s

inductive PostT (cx : Cx) (ι : List Addr) (ρ : Rho) (s : Shared) (Q : Bool → H → Prop) (b : Bool) (s' : Shared) : Prop
  | mk (ι' : List Addr) (H' : H) (M : Mono ι s ι' s') (S : St cx ι' ρ H' s') (q : Q b H')

noncomputable def SndT (p : Pg) (sc : Sc) (e : Expr) (e' : E) : Prop :=
  ∀ {C : Ora} {d : Nat} {cx : Cx} {A : Around} {ι : List Addr} {ρ : Rho} {H : H} {s : Shared} {Q : Bool → Tw.H → Prop} {E : Value → Shared → Prop},
    At p sc C d cx A → St cx ι ρ H s → Bnd sc.lim ρ → wpT C e' ρ H Q → wpAny (model p.prog cx.w) A (isTrue e cx.env (eval e cx.env)) (PostT cx ι ρ s Q) E s

inductive PostL (cx : Cx) (ι : List Addr) (ρ : Rho) (s : Shared) (Q : List V → H → Prop) (vals : List Value) (s' : Shared) : Prop
  | mk (vs : List V) (ι' : List Addr) (H' : H) (M : Mono ι s ι' s') (S : St cx ι' ρ H' s') (r : RepVs ι' s'.heap vals vs) (q : Q vs H')

noncomputable def SndEs (p : Pg) (sc : Sc) (es : List Expr) (es' : List E) : Prop :=
  es.length = es'.length ∧ (∀ env, (starEach es env).any (·.1) = false) ∧
  ∀ {C : Ora} {d : Nat} {cx : Cx} {A : Around} {ι : List Addr} {ρ : Rho} {H : H} {s : Shared} {Q : List V → Tw.H → Prop} {E : Value → Shared → Prop} (pos : Pos),
    At p sc C d cx A → St cx ι ρ H s → Bnd sc.lim ρ → wpEs C es' ρ H Q → wpAny (model p.prog cx.w) A (spliced (backTo pos (starEach es cx.env))) (fun vals s' => vals.length = es.length ∧ PostL cx ι ρ s Q vals s') E s

noncomputable def FlowIs (ι : List Addr) (h : Heap) (o : Out) (f : Flow) : Prop := match o with
  | .next => (match f with | .next => True | _ => False)
  | .ret v => (match f with | .ret val => RepV ι h val v | _ => False)
inductive PostS (sc : Sc) (cx : Cx) (ι : List Addr) (s : Shared) (Q : Out → Rho → H → Prop) (f : Flow) (s' : Shared) : Prop
  | mk (o : Out) (ρ' : Rho) (ι' : List Addr) (H' : H) (M : Mono ι s ι' s') (S : St cx ι' ρ' H' s') (b : Bnd sc.lim ρ') (fl : FlowIs ι' s'.heap o f) (q : Q o ρ' H')

noncomputable def SndS (p : Pg) (sc : Sc) (e : Stmt) (e' : S) : Prop :=
  ∀ {C : Ora} {d : Nat} {cx : Cx} {A : Around} {ι : List Addr} {ρ : Rho} {H : H} {s : Shared} {Q : Out → Rho → Tw.H → Prop} {E : Value → Shared → Prop},
    At p sc C d cx A → St cx ι ρ H s → Bnd sc.lim ρ → wpS C e' ρ H Q → wpAny (model p.prog cx.w) A (exec e cx.env) (PostS sc cx ι s Q) E s
noncomputable def SndB (p : Pg) (sc : Sc) (e : List Stmt) (e' : List S) : Prop :=
  ∀ {C : Ora} {d : Nat} {cx : Cx} {A : Around} {ι : List Addr} {ρ : Rho} {H : H} {s : Shared} {Q : Out → Rho → Tw.H → Prop} {E : Value → Shared → Prop},
    At p sc C d cx A → St cx ι ρ H s → Bnd sc.lim ρ → wpB C e' ρ H Q → wpAny (model p.prog cx.w) A (execs e cx.env) (PostS sc cx ι s Q) E s

/-! small things shared by the rules -/
section
variable {cx : Cx} {ι ι' : List Addr} {ρ : Rho} {H H' : Tw.H} {s s' : Shared}
theorem Post.after {Q : V → Tw.H → Prop} (M : Mono ι s ι' s') {val : Value} {s'' : Shared} (p : Post cx ι' ρ s' Q val s'') : Post cx ι ρ s Q val s'' := by
  obtain ⟨v, ι₂, H₂, M₂, S₂, r, q⟩ := p; exact ⟨v, ι₂, H₂, M.trans M₂, S₂, r, q⟩
theorem PostT.after {Q : Bool → Tw.H → Prop} (M : Mono ι s ι' s') {val : Bool} {s'' : Shared} (p : PostT cx ι' ρ s' Q val s'') : PostT cx ι ρ s Q val s'' := by
  obtain ⟨ι₂, H₂, M₂, S₂, q⟩ := p; exact ⟨ι₂, H₂, M.trans M₂, S₂, q⟩
theorem PostS.after {sc : Sc} {Q : Out → Rho → Tw.H → Prop} (M : Mono ι s ι' s') {val : Flow} {s'' : Shared} (p : PostS sc cx ι' s' Q val s'') : PostS sc cx ι s Q val s'' := by
  obtain ⟨v, ρ₂, ι₂, H₂, M₂, S₂, b, r, q⟩ := p; exact ⟨v, ρ₂, ι₂, H₂, M.trans M₂, S₂, b, r, q⟩
theorem At.keep {p : Pg} {sc : Sc} {C : Ora} {d : Nat} {A : Around} (a : At p sc C d cx A) {b : Addr} (as : Aside cx b) (o : Obj) : At p sc C d (cx.keep b o) A :=
  ⟨a.call, a.ok.keepA as o, ⟨a.fit.nm, a.fit.st, a.fit.gk, a.fit.ck, a.fit.stk, a.fit.lim⟩, a.gd, a.ao⟩
end
end Tw
end

section
namespace Tw
open PySem PySem.SeqAt

theorem mono' {α : Type} {M : Model} {A : Around} {m : Sem α} {Q Q' : α → Shared → Prop} {E : Value → Shared → Prop} {s : Shared} (h : wpAny M A m Q E s) (f : ∀ a s', Q a s' → Q' a s') : wpAny M A m Q' E s :=
  wpAny_mono h f fun _ _ e => e

section
variable {p : Pg} {sc : Sc}

/-! constants -/
theorem snd_none {k : Nat} {pos : Pos} : SndE p sc (.Constant .none k pos) (.lit .none) := fun _ S _ h => wpAny_Constant_none (.here S .none h)
theorem snd_bool {b : Bool} {k : Nat} {pos : Pos} : SndE p sc (.Constant (.bool b) k pos) (.lit (.bool b)) := fun _ S _ h => wpAny_Constant_bool (.here S (.bool b) h)
theorem snd_int {i : Int} {k : Nat} {pos : Pos} : SndE p sc (.Constant (.int i) k pos) (.lit (.int i)) := fun _ S _ h => wpAny_Constant_int (.tok S (.int i _) h _)
theorem snd_str {x : Str} {k : Nat} {pos : Pos} (hx : x.length ≤ SZ) : SndE p sc (.Constant (.str x) k pos) (.lit (.str x.cps.toList)) := fun _ S _ h => wpAny_Constant_str (.tok S (.str x _ hx) h _)

/-! names -/
theorem load_var {cx : Cx} {A : Around} {prog : Program} {s : Shared} {x : Str} {val : Value} {Q : Value → Shared → Prop} {E : Value → Shared → Prop} (ok : CxOk cx) {i : Nat} (hx : cx.nm x = some i) (v : VarAt cx.env s.heap x val) (q : Q val s) :
    wpAny (model prog cx.w) A (loadName cx.env x) Q E s := by
  rcases v with ⟨k, m, n, e⟩ | ⟨k | k, c, l, i⟩
  · exact wpAny_loadName_local ok.fn k n e q
  · exact wpAny_loadName_cell ok.fn k l i q
  · exact wpAny_loadName_free ok.fn k l i q (ok.plain x _ hx).2
theorem snd_var {x : Str} {i : Nat} {pos : Pos} (hx : sc.nm x = some i) : SndE p sc (.Name x pos) (.var i) := fun {C d cx A ι ρ H s Q E} a S _ h => by
  obtain ⟨v, hv, q⟩ := vK.inv h
  have hx' : cx.nm x = some i := (a.fit.nm x).trans hx
  obtain ⟨val, va, r⟩ := S.vars x i v hx' hv
  exact wpAny_Name (load_var a.ok hx' va (.here S r q)) (a.ok.plain x i hx').1

theorem St.globals {cx : Cx} {ι : List Addr} {ρ : Rho} {H : H} {s : Shared} {G : Names} {T : Tab} (S : St cx ι ρ H s) (ok : CxOk cx) (g : Gd G T cx.s0 cx.scr) :
    ∃ mg mb, s.heap.Ns mainGlobals mg ∧ s.heap.Ns builtinsNs mb ∧ ∀ x g, G x = some g → IsGl T cx.s0.heap mg mb x g := by
  obtain ⟨mg, mb, h1, h2, h3⟩ := g.ns
  exact ⟨mg, mb, h1.at' fun o e => S.prot _ o (ok.base _ o e g.scrG), h2.at' fun o e => S.prot _ o (ok.base _ o e g.scrB), h3⟩

theorem load_global {cx : Cx} {A : Around} {d : Nat} {C : Ora} {ι : List Addr} {ρ : Rho} {H : H} {s : Shared} {x : Str} {pos : Pos} {g : Gl} {Q : Value → Shared → Prop} {E : Value → Shared → Prop} (a : At p sc C d cx A) (S : St cx ι ρ H s)
    (hk : sc.gk x = true) (hg : p.G x = some g)
    (q : ∀ v, (match g with | .fn k => ∃ b f, v = .ref b ∧ p.T k = some f ∧ FnAt cx.s0.heap b f | .bi b => v = b.py | .isinst => v = .builtin "isinstance" | .ty t => v = t.py | .const i => ∃ t, v = .int i t) → Q v s) :
    wpAny (model p.prog cx.w) A (eval (.Name x pos) cx.env) Q E s := by
  obtain ⟨mg, mb, n1, n2, h3⟩ := S.globals a.ok a.gd
  obtain ⟨k1, k2⟩ := a.fit.gk x hk
  have h := h3 x g hg
  rw [← a.ok.gl] at n1
  rw [← a.ok.bl] at n2
  refine Calls.Name_function_global a.ok.fn k1 ?_ k2
  cases g with
  | fn k => obtain ⟨b, f, e, t, at'⟩ := h; exact Calls.loadGlobal_global n1 e (q _ ⟨b, f, rfl, t, at'⟩)
  | bi b => exact Calls.loadGlobal_builtin n1 h.1 n2 h.2 (q _ rfl)
  | isinst => exact Calls.loadGlobal_builtin n1 h.1 n2 h.2 (q _ rfl)
  | ty t => exact Calls.loadGlobal_builtin n1 h.1 n2 h.2 (q _ rfl)
  | const i => obtain ⟨t, e⟩ := h; exact Calls.loadGlobal_global n1 e (q _ ⟨t, rfl⟩)
theorem snd_const {x : Str} {i : Int} {pos : Pos} (hk : sc.gk x = true) (hg : p.G x = some (.const i)) : SndE p sc (.Name x pos) (.lit (.int i)) := fun a S _ h =>
  load_global a S hk hg fun v e => by obtain ⟨t, rfl⟩ := e; exact .here S (.int i t) h

/-! operators -/
theorem snd_bin {l r : Expr} {pos : Pos} {op : Bop} {a b : E} (h1 : SndE p sc l a) (h2 : SndE p sc r b) : SndE p sc (.BinOp l op.py r pos) (.bin op a b) := fun at' S hb h => by
  refine wpAny_BinOp (mono' (h1 at' S hb h) fun x s₁ ⟨va, ι₁, H₁, M₁, S₁, r₁, q₁⟩ => mono' (h2 at' S₁ hb q₁) fun y s₂ ⟨vb, ι₂, H₂, M₂, S₂, r₂, q₂⟩ => ?_)
  exact mono' (bin_sound S₂ at'.ok (M₂.rep r₁) r₂ q₂) fun _ _ P => (P.after M₂).after M₁
theorem snd_neg {l : Expr} {pos : Pos} {a : E} (h1 : SndE p sc l a) : SndE p sc (.UnaryOp .USub l pos) (.neg a) := fun at' S hb h => by
  refine wpAny_UnaryOp (mono' (h1 at' S hb h) fun x s₁ ⟨va, ι₁, H₁, M₁, S₁, r₁, q₁⟩ => ?_)
  cases r₁ with
  | int i t => exact P.neg_int (Post.after M₁ (.tok S₁ (.int _ _) q₁ _))
  | _ => exact q₁.elim

theorem truth_sound {M : Model} {A : Around} {ι : List Addr} {H : H} {s : Shared} {x : Value} {v : V} {Q : Bool → Prop} {E : Value → Shared → Prop} (r : RepV ι s.heap x v) (h : truth v H Q) : wpAny M A (truthy x) (fun b s' => s' = s ∧ Q b) E s := by
  cases r with
  | none => exact fun _ _ _ => ⟨rfl, h⟩
  | bool b => exact fun _ _ _ => ⟨rfl, h⟩
  | _ => exact h.elim
theorem snd_not {l : Expr} {pos : Pos} {a : E} (h1 : SndE p sc l a) : SndE p sc (.UnaryOp .Not l pos) (.not a) := fun at' S hb h => by
  refine wpAny_UnaryOp (mono' (h1 at' S hb h) fun x s₁ ⟨va, ι₁, H₁, M₁, S₁, r₁, q₁⟩ => ?_)
  refine not_value (mono' (truth_sound r₁ q₁) fun b s₂ ⟨e, q₂⟩ => ?_)
  subst e; exact Post.after M₁ (.here S₁ (.bool _) q₂)

/-- tests by value -/
theorem sndT_value {e : Expr} {e' : E} (h1 : SndE p sc e e') (he : ∀ env whole, isTrue e env whole = (do let v ← whole; standAt e.pos; holding [v] (truthy v)))
    (hw : ∀ C ρ H Q, wpT C e' ρ H Q → wpE C e' ρ H fun v h => truth v h fun b => Q b h) : SndT p sc e e' := fun at' S hb h => by
  refine wpAny_isTrue_value (mono' (h1 at' S hb (hw _ _ _ _ h)) fun x s₁ ⟨va, ι₁, H₁, M₁, S₁, r₁, q₁⟩ => ?_) (he _ _)
  exact mono' (truth_sound r₁ q₁) fun b s₂ ⟨e, q₂⟩ => by subst e; exact ⟨ι₁, H₁, M₁, S₁, q₂⟩
theorem sndT_never {e : Expr} {e' : E} (hw : ∀ C ρ H Q, wpT C e' ρ H Q → False) : SndT p sc e e' := fun _ _ _ h => (hw _ _ _ _ h).elim
theorem sndT_not {l : Expr} {pos : Pos} {a : E} (h1 : SndT p sc l a) : SndT p sc (.UnaryOp .Not l pos) (.not a) := fun at' S hb h =>
  wpAny_isTrue_Not (mono' (h1 at' S hb h) fun _ _ ⟨ι₁, H₁, M₁, S₁, q₁⟩ => ⟨ι₁, H₁, M₁, S₁, q₁⟩)

/-! and, or -/
/-- e' is what a list of operands, from the left, is -/
inductive Chain (p : Pg) (sc : Sc) (and : Bool) : List Expr → E → Prop
  | one {e : Expr} {e' : E} : SndE p sc e e' → SndT p sc e e' → Chain p sc and [e] e'
  | more {e e₂ : Expr} {r : List Expr} {e' r' : E} : SndE p sc e e' → SndT p sc e e' → Chain p sc and (e₂ :: r) r' → Chain p sc and (e :: e₂ :: r) (if and then .and e' r' else .or e' r')

theorem boolOp_step {M : Model} {A : Around} {env : Env} {pos : Pos} {op : BoolOp} {x y : Expr} {r : List Expr} {s : Shared} {Q : Value → Shared → Prop} {E : Value → Shared → Prop}
    (h : wpAny M A (eval x env) (fun v s₁ => wpAny M A (truthy v) (fun t s₂ => if (t == (op == .And)) then wpAny M A (boolOp pos op (evalEach (y :: r) env)) Q E s₂ else Q v s₂) E s₁) E s) :
    wpAny M A (boolOp pos op (evalEach (x :: y :: r) env)) Q E s := by
  show wpAny M A (do
    let v ← eval x env
    standAt pos
    let t ← holding [v] (truthy v)
    match op, t with
    | .And, false | .Or, true => pure v
    | _, _ => boolOp pos op (evalEach (y :: r) env)) Q E s
  refine wpAny_bind (mono' h fun v s₁ h₁ => wpAny_bind (wpAny_standAt (wpAny_bind (wpAny_holding (mono' h₁ fun t s₂ h₂ => ?_)))))
  cases op <;> cases t <;> first | exact wpAny_pure h₂ | exact h₂

theorem chainE {and : Bool} {es : List Expr} {e' : E} (c : Chain p sc and es e') : ∀ {C : Ora} {d : Nat} {cx : Cx} {A : Around} {ι : List Addr} {ρ : Rho} {H : H} {s : Shared} {Q : V → Tw.H → Prop} {E : Value → Shared → Prop} {pos : Pos},
    At p sc C d cx A → St cx ι ρ H s → Bnd sc.lim ρ → wpE C e' ρ H Q → wpAny (model p.prog cx.w) A (boolOp pos (if and then .And else .Or) (evalEach es cx.env)) (Post cx ι ρ s Q) E s := by
  induction c with
  | one h1 _ => intro C d cx A ι ρ H s Q E pos at' S hb h; exact h1 at' S hb h
  | more h1 _ _ ih =>
    intro C d cx A ι ρ H s Q E pos at' S hb h
    refine boolOp_step ?_
    cases and with
    | true =>
      refine mono' (h1 at' S hb h) fun x s₁ ⟨va, ι₁, H₁, M₁, S₁, r₁, q₁⟩ => mono' (truth_sound r₁ q₁) fun t s₂ ⟨e, q₂⟩ => ?_
      subst e
      cases t with
      | true => exact mono' (ih (pos := pos) at' S₁ hb q₂) fun _ _ P => P.after M₁
      | false => exact Post.after M₁ (.here S₁ r₁ q₂)
    | false =>
      refine mono' (h1 at' S hb h) fun x s₁ ⟨va, ι₁, H₁, M₁, S₁, r₁, q₁⟩ => mono' (truth_sound r₁ q₁) fun t s₂ ⟨e, q₂⟩ => ?_
      subst e
      cases t with
      | false => exact mono' (ih (pos := pos) at' S₁ hb q₂) fun _ _ P => P.after M₁
      | true => exact Post.after M₁ (.here S₁ r₁ q₂)
theorem chainT {and : Bool} {es : List Expr} {e' : E} (c : Chain p sc and es e') : ∀ {C : Ora} {d : Nat} {cx : Cx} {A : Around} {ι : List Addr} {ρ : Rho} {H : H} {s : Shared} {Q : Bool → Tw.H → Prop} {E : Value → Shared → Prop},
    At p sc C d cx A → St cx ι ρ H s → Bnd sc.lim ρ → wpT C e' ρ H Q → wpAny (model p.prog cx.w) A (allTrue (if and then .And else .Or) es cx.env) (PostT cx ι ρ s Q) E s := by
  induction c with
  | one _ h1 =>
    intro C d cx A ι ρ H s Q E at' S hb h
    cases and with
    | true =>
      refine wpAny_allTrue_And_cons (mono' (h1 at' S hb h) fun b s₁ P => ?_)
      cases b with
      | true => exact wpAny_allTrue_And_nil P
      | false => exact P
    | false =>
      refine wpAny_allTrue_Or_cons (mono' (h1 at' S hb h) fun b s₁ P => ?_)
      cases b with
      | true => exact P
      | false => exact wpAny_allTrue_Or_nil P
  | more _ h1 _ ih =>
    intro C d cx A ι ρ H s Q E at' S hb h
    cases and with
    | true =>
      refine wpAny_allTrue_And_cons (mono' (h1 at' S hb h) fun b s₁ ⟨ι₁, H₁, M₁, S₁, q₁⟩ => ?_)
      cases b with
      | true => exact mono' (ih at' S₁ hb q₁) fun _ _ P => P.after M₁
      | false => exact ⟨ι₁, H₁, M₁, S₁, q₁⟩
    | false =>
      refine wpAny_allTrue_Or_cons (mono' (h1 at' S hb h) fun b s₁ ⟨ι₁, H₁, M₁, S₁, q₁⟩ => ?_)
      cases b with
      | false => exact mono' (ih at' S₁ hb q₁) fun _ _ P => P.after M₁
      | true => exact ⟨ι₁, H₁, M₁, S₁, q₁⟩
theorem snd_chain {and : Bool} {es : List Expr} {e' : E} {pos : Pos} (c : Chain p sc and es e') : SndE p sc (.BoolOp (if and then .And else .Or) es pos) e' := fun at' S hb h => chainE c at' S hb h
theorem sndT_chain {and : Bool} {es : List Expr} {e' : E} {pos : Pos} (c : Chain p sc and es e') : SndT p sc (.BoolOp (if and then .And else .Or) es pos) e' := fun at' S hb h => wpAny_isTrue_BoolOp (chainT c at' S hb h)

/-! comparisons -/
theorem snd_cmp {l r : Expr} {pos : Pos} {op : Cmp} {a b : E} (h1 : SndE p sc l a) (h2 : SndE p sc r b) (hm : behindInMarks op.py r = false) : SndE p sc (.Compare l [op.py] [r] pos) (.cmp op a b) := fun at' S hb h => by
  refine wpAny_Compare1 (mono' (h1 at' S hb h) fun x s₁ ⟨va, ι₁, H₁, M₁, S₁, r₁, q₁⟩ => mono' (h2 at' S₁ hb q₁) fun y s₂ ⟨vb, ι₂, H₂, M₂, S₂, r₂, q₂⟩ => ?_) hm
  exact mono' (cmp_sound S₂ at'.ao.u (M₂.rep r₁) r₂ q₂) fun _ _ P => ((P.post S₂).after M₂).after M₁
theorem sndT_cmp {l r : Expr} {pos : Pos} {op : Cmp} {a b : E} (h1 : SndE p sc l a) (h2 : SndE p sc r b) (hm : behindInMarks op.py r = false) : SndT p sc (.Compare l [op.py] [r] pos) (.cmp op a b) := fun at' S hb h => by
  refine wpAny_isTrue_Compare1 (mono' (h1 at' S hb h) fun x s₁ ⟨va, ι₁, H₁, M₁, S₁, r₁, q₁⟩ => mono' (h2 at' S₁ hb q₁) fun y s₂ ⟨vb, ι₂, H₂, M₂, S₂, r₂, q₂⟩ => ?_) hm
  refine mono' (cmp_sound S₂ at'.ao.u (M₂.rep r₁) r₂ q₂) fun c s₃ ⟨b, tk, e, e', q⟩ => ?_
  subst e; subst e'
  exact wpAny_truthy_bool ⟨ι₂, H₂, M₁.trans (M₂.trans (.tk tk)), S₂.toks tk, q⟩

section
variable {M : Model} {A : Around} {env : Env} {s : Shared} {E : Value → Shared → Prop}
theorem compare2 {l r r₂ : Expr} {o o₂ : CmpOp} {pos : Pos} {Q : Value → Shared → Prop} (hm : behindInMarks o₂ r₂ = false)
    (h : wpAny M A (eval l env) (fun a s₁ => wpAny M A (eval r env) (fun b s₂ => wpAny M A (compareOp o a b) (fun c s₃ => wpAny M A (truthy c) (fun t s₄ =>
      if t then wpAny M A (eval r₂ env) (fun d s₅ => wpAny M A (compareOp o₂ b d) Q E s₅) E s₄ else Q c s₄) E s₃) E s₂) E s₁) E s) : wpAny M A (eval (.Compare l [o, o₂] [r, r₂] pos) env) Q E s := by
  rw [arm_eval_Compare]
  refine wpAny_bind (mono' h fun a s₁ h₁ => ?_)
  show wpAny M A (do
    let rv ← holding [a] (eval r env)
    standAt pos
    let c ← holding [a, rv] (compareOp o a rv)
    release [a, rv] [c]
    if ← holding [c, rv] (truthy c) then compareChain pos rv [o₂] [markedBehindIn o₂ r₂ (eval r₂ env)] else pure c) Q E s₁
  refine wpAny_bind (wpAny_holding (mono' h₁ fun b s₂ h₂ => wpAny_bind (wpAny_standAt (wpAny_bind (wpAny_holding (mono' h₂ fun c s₃ h₃ => ?_))))))
  refine wpAny_bind (wpAny_release (wpAny_bind (wpAny_holding (mono' h₃ fun t s₄ h₄ => ?_))))
  cases t with
  | false => exact wpAny_pure h₄
  | true =>
    rw [if_pos rfl] at h₄ ⊢
    rw [markedBehindIn_of_false hm]
    show wpAny M A (do
      let rv ← holding [b] (eval r₂ env)
      standAt pos
      operate [b, rv] (compareOp o₂ b rv)) Q E s₄
    exact wpAny_bind (wpAny_holding (mono' h₄ fun d s₅ h₅ => wpAny_bind (wpAny_standAt (wpAny_operateT h₅))))
theorem test2 {l r r₂ : Expr} {o o₂ : CmpOp} {pos : Pos} {whole : Sem Value} {Q : Bool → Shared → Prop} (hm : behindInMarks o₂ r₂ = false)
    (h : wpAny M A (eval l env) (fun a s₁ => wpAny M A (eval r env) (fun b s₂ => wpAny M A (compareOp o a b) (fun c s₃ => wpAny M A (truthy c) (fun t s₄ =>
      if t then wpAny M A (eval r₂ env) (fun d s₅ => wpAny M A (compareOp o₂ b d) (fun c s₆ => wpAny M A (truthy c) Q E s₆) E s₅) E s₄ else Q false s₄) E s₃) E s₂) E s₁) E s) :
    wpAny M A (isTrue (.Compare l [o, o₂] [r, r₂] pos) env whole) Q E s := by
  show wpAny M A (do testChain pos (← eval l env) [o, o₂] (markedEach [o, o₂] [r, r₂] (evalEach [r, r₂] env))) Q E s
  refine wpAny_bind (mono' h fun a s₁ h₁ => ?_)
  show wpAny M A (do
    let rv ← holding [a] (eval r env)
    standAt pos
    let c ← holding [a, rv] (compareOp o a rv)
    release [a, rv] [c]
    if ← holding [c, rv] (truthy c) then testChain pos rv [o₂] [markedBehindIn o₂ r₂ (eval r₂ env)] else pure false) Q E s₁
  refine wpAny_bind (wpAny_holding (mono' h₁ fun b s₂ h₂ => wpAny_bind (wpAny_standAt (wpAny_bind (wpAny_holding (mono' h₂ fun c s₃ h₃ => ?_))))))
  refine wpAny_bind (wpAny_release (wpAny_bind (wpAny_holding (mono' h₃ fun t s₄ h₄ => ?_))))
  cases t with
  | false => exact wpAny_pure h₄
  | true =>
    rw [if_pos rfl] at h₄ ⊢
    rw [markedBehindIn_of_false hm]
    show wpAny M A (do
      let rv ← holding [b] (eval r₂ env)
      standAt pos
      let c ← operate [b, rv] (compareOp o₂ b rv)
      holding [c] (truthy c)) Q E s₄
    exact wpAny_bind (wpAny_holding (mono' h₄ fun d s₅ h₅ => wpAny_bind (wpAny_standAt (wpAny_bind (wpAny_operateT (mono' h₅ fun _ _ h₆ => wpAny_holding h₆))))))
end

theorem snd_cmp2 {l r r₂ : Expr} {pos : Pos} {op op₂ : Cmp} {a b c : E} (h1 : SndE p sc l a) (h2 : SndE p sc r b) (h3 : SndE p sc r₂ c) (hm : behindInMarks op₂.py r₂ = false) :
    SndE p sc (.Compare l [op.py, op₂.py] [r, r₂] pos) (.cmp2 op op₂ a b c) := fun at' S hb h => by
  refine compare2 hm (mono' (h1 at' S hb h) fun x s₁ ⟨va, ι₁, H₁, M₁, S₁, r₁, q₁⟩ => mono' (h2 at' S₁ hb q₁) fun y s₂ ⟨vb, ι₂, H₂, M₂, S₂, r₂, q₂⟩ => ?_)
  refine mono' (cmp_sound S₂ at'.ao.u (M₂.rep r₁) r₂ q₂) fun c s₃ ⟨b, tk, e, e', q⟩ => ?_
  subst e; subst e'
  have M₃ := M₁.trans (M₂.trans (.tk tk))
  cases b with
  | false => exact wpAny_truthy_bool (Post.after M₃ (.here (S₂.toks tk) (.bool _) q))
  | true =>
    refine wpAny_truthy_bool (mono' (h3 at' (S₂.toks tk) hb q) fun z s₃ ⟨vc, ι₃, H₃, M₄, S₃, r₃, q₃⟩ => ?_)
    exact mono' (cmp_sound S₃ at'.ao.u (M₄.rep r₂) r₃ q₃) fun _ _ P => ((P.post S₃).after M₄).after M₃
theorem sndT_cmp2 {l r r₂ : Expr} {pos : Pos} {op op₂ : Cmp} {a b c : E} (h1 : SndE p sc l a) (h2 : SndE p sc r b) (h3 : SndE p sc r₂ c) (hm : behindInMarks op₂.py r₂ = false) :
    SndT p sc (.Compare l [op.py, op₂.py] [r, r₂] pos) (.cmp2 op op₂ a b c) := fun at' S hb h => by
  refine test2 hm (mono' (h1 at' S hb h) fun x s₁ ⟨va, ι₁, H₁, M₁, S₁, r₁, q₁⟩ => mono' (h2 at' S₁ hb q₁) fun y s₂ ⟨vb, ι₂, H₂, M₂, S₂, r₂, q₂⟩ => ?_)
  refine mono' (cmp_sound S₂ at'.ao.u (M₂.rep r₁) r₂ q₂) fun c s₃ ⟨b, tk, e, e', q⟩ => ?_
  subst e; subst e'
  have M₃ := M₁.trans (M₂.trans (.tk tk))
  cases b with
  | false => exact wpAny_truthy_bool ⟨ι₂, H₂, M₃, S₂.toks tk, q⟩
  | true =>
    refine wpAny_truthy_bool (mono' (h3 at' (S₂.toks tk) hb q) fun z s₃ ⟨vc, ι₃, H₃, M₄, S₃, r₃, q₃⟩ => ?_)
    refine mono' (cmp_sound S₃ at'.ao.u (M₄.rep r₂) r₃ q₃) fun c s₃ ⟨b, tk, e, e', q⟩ => ?_
    subst e; subst e'
    exact wpAny_truthy_bool ⟨ι₃, H₃, M₃.trans (M₄.trans (.tk tk)), S₃.toks tk, q⟩

/-! subscripts -/
theorem snd_sub {l r : Expr} {pos : Pos} {a b : E} (h1 : SndE p sc l a) (h2 : SndE p sc r b) (hns : ∀ a b c p, r ≠ .Slice a b c p) : SndE p sc (.Subscript l r pos) (.sub a b) := fun at' S hb h => by
  refine PyProof.Rows.Subscript_ (mono' (h1 at' S hb h) fun x s₁ ⟨va, ι₁, H₁, M₁, S₁, r₁, q₁⟩ => mono' (h2 at' S₁ hb q₁) fun y s₂ ⟨vb, ι₂, H₂, M₂, S₂, r₂, q₂⟩ => ?_)
  exact mono' (sub_sound S₂ at'.ao.u hns (M₂.rep r₁) r₂ q₂) fun _ _ P => ((PostR.post S₂ P).after M₂).after M₁
/-- a slice's bound: an expression, or none -/
noncomputable def SndO (p : Pg) (sc : Sc) (e : Option Expr) (e' : E) : Prop :=
  ∀ {C : Ora} {d : Nat} {cx : Cx} {A : Around} {ι : List Addr} {ρ : Rho} {H : H} {s : Shared} {Q : V → Tw.H → Prop} {E : Value → Shared → Prop},
    At p sc C d cx A → St cx ι ρ H s → Bnd sc.lim ρ → wpE C e' ρ H Q → wpAny (model p.prog cx.w) A (valueOrNone (evalOpt e cx.env)) (Post cx ι ρ s Q) E s
theorem sndO_some {e : Expr} {e' : E} (h : SndE p sc e e') : SndO p sc (some e) e' := h
theorem sndO_none : SndO p sc none (.lit .none) := fun _ S _ h => wpAny_pure (.here S .none h)
theorem snd_slice {l : Expr} {lo hi : Option Expr} {pos pos' : Pos} {a b c : E} (h1 : SndE p sc l a) (h2 : SndO p sc lo b) (h3 : SndO p sc hi c) : SndE p sc (.Subscript l (.Slice lo hi none pos') pos) (.slice a b c) := fun at' S hb h => by
  refine PyProof.Rows.Subscript_ (mono' (h1 at' S hb h) fun x s₁ ⟨va, ι₁, H₁, M₁, S₁, r₁, q₁⟩ => ?_)
  show wpAny _ _ (do
    let l ← valueOrNone (evalOpt lo _)
    let u ← holding [l] (valueOrNone (evalOpt hi _))
    let s ← holding [l, u] (valueOrNone (evalOpt none _))
    newFields "slice" [l, u, s]) _ _ s₁
  refine wpAny_bind (mono' (h2 at' S₁ hb q₁) fun y s₂ ⟨vb, ι₂, H₂, M₂, S₂, r₂, q₂⟩ => wpAny_bind (wpAny_holding (mono' (h3 at' S₂ hb q₂) fun z s₃ ⟨vc, ι₃, H₃, M₃, S₃, r₃, q₃⟩ => ?_)))
  refine wpAny_bind (wpAny_holding (wpAny_pure ?_))
  have hk : ∀ b ob, s₃.heap.get? b = some ob → (s₃.heap.push { cls := .type "slice", data := .fields #[y, z, .none] }).get? b = some ob := fun _ _ e => Heap.get?_push_of_some _ e
  refine wpAny_newObj_type ?_
  refine mono' (slice_sound (S₃.push _ s₃.toks) at'.ok (((M₂.trans M₃).rep r₁).mono (List.prefix_refl _) (.of_ext hk)) ((M₃.rep r₂).mono (List.prefix_refl _) (.of_ext hk)) (r₃.mono (List.prefix_refl _) (.of_ext hk)) (get?_fresh rfl) q₃) fun _ _ P => ?_
  exact ((((P.after (.ext hk)).after M₃).after M₂).after M₁)
end
end Tw
end

section
namespace Tw
open PySem PySem.SeqAt

section
variable {p : Pg} {sc : Sc}

/-! rows of expressions -/
theorem sndEs_nil : SndEs p sc [] [] := ⟨rfl, fun _ => rfl, fun _ _ S _ h => wpAny_items_nil ⟨rfl, [], _, _, .refl _ _, S, .nil, h⟩⟩
theorem sndEs_cons {e : Expr} {es : List Expr} {e' : E} {es' : List E} (he : ∀ env, starEach (e :: es) env = (false, eval e env) :: starEach es env) (h1 : SndE p sc e e') (h2 : SndEs p sc es es') : SndEs p sc (e :: es) (e' :: es') := by
  refine ⟨by simp [h2.1], fun env => by rw [he]; simpa using h2.2.1 env, fun pos at' S hb h => ?_⟩
  refine wpAny_items_cons (mono' (h1 at' S hb h) fun x s₁ ⟨va, ι₁, H₁, M₁, S₁, r₁, q₁⟩ => mono' (h2.2.2 pos at' S₁ hb q₁) fun xs s₂ ⟨hl, vs, ι₂, H₂, M₂, S₂, r₂, q₂⟩ => ?_) (he _)
  exact ⟨by simp [hl], va :: vs, ι₂, H₂, M₁.trans M₂, S₂, .cons (M₂.rep r₁) r₂, q₂⟩

theorem snd_tup {es : List Expr} {es' : List E} {k : Nat} {pos : Pos} (h1 : SndEs p sc es es') (hn : es.length ≤ 1000) : SndE p sc (.Tuple es k pos) (.tup es') := fun at' S hb h => by
  have hz : (1000 : Nat) ≤ SZ := by decide
  refine wpAny_Tuple (mono' (h1.2.2 pos at' S hb h) fun xs s₁ ⟨hl, vs, ι₁, H₁, M₁, S₁, r₁, q₁⟩ => ⟨Nat.le_trans (hl ▸ hn) hz, ?_⟩)
  exact Post.after M₁ (Post.tup (vals := xs.toArray) (n := 0) S₁ (by simpa using r₁) (by rw [← r₁.length, hl]; omega) q₁ s₁.toks)
theorem snd_list {es : List Expr} {es' : List E} {pos : Pos} (h1 : SndEs p sc es es') (hn : es.length ≤ 1000) : SndE p sc (.List es pos) (.list es') := fun at' S hb h => by
  have hz : (1000 : Nat) ≤ SZ := by decide
  refine wpAny_List (mono' (h1.2.2 pos at' S hb h) fun xs s₁ ⟨hl, vs, ι₁, H₁, M₁, S₁, r₁, q₁⟩ => ⟨Nat.le_trans (hl ▸ hn) hz, ?_⟩)
  exact Post.after M₁ (Post.list (vals := xs.toArray) (n := 0) S₁ at'.ok (by simpa using r₁) (by rw [← r₁.length, hl]; omega) q₁ s₁.toks)

/-! calls -/
theorem args_of {M : Model} {A : Around} {f : Value} {es : List Expr} {env : Env} {pos : Pos} {s : Shared} {E : Value → Shared → Prop} {Q : Args → Shared → Prop} (hs : (starEach es env).any (·.1) = false)
    (h : wpAny M A (spliced (backTo pos (starEach es env))) (fun vs s' => Q ⟨vs, []⟩ s') E s) : wpAny M A (evalArgs f true (backTo pos (starEach es env)) []) Q E s := by
  cases hb : backTo pos (starEach es env) with
  | nil =>
    rw [hb] at h
    unfold evalArgs
    show wpAny M A (spliced [] >>= _) Q E s
    refine wpAny_bind (mono' h fun vs s' h' => ?_)
    refine wpAny_bind (wpAny_pure ?_)
    refine wpAny_holding ?_
    exact wpAny_bind (wpAny_pure (wpAny_bind (wpAny_pure (wpAny_pure h'))))
  | cons x r =>
    obtain ⟨b, t⟩ := x
    have : b = false := by
      cases hse : starEach es env with
      | nil => rw [hse] at hb; simp [backTo] at hb
      | cons y r' =>
        rw [hse] at hb hs
        simp [backTo] at hb
        simp at hs
        rw [← hb.1.1]; exact hs.1
    subst this
    rw [hb] at h
    exact Calls.evalArgs_plain h
theorem back_any {es : List Expr} {env : Env} {pos : Pos} (hs : (starEach es env).any (·.1) = false) : (backTo pos (starEach es env)).any (·.1) = false := by
  unfold backTo
  rw [List.any_map]
  simpa [Function.comp_def] using hs

theorem snd_call {x : Str} {np pos : Pos} {es : List Expr} {es' : List E} {k : Nat} (hk : sc.gk x = true) (hg : p.G x = some (.fn k)) (h1 : SndEs p sc es es') : SndE p sc (.Call (.Name x np) es [] pos) (.call k es') := fun {C d cx A ι ρ H s Q E} at' S hb h => by
  refine wpAny_Call_ofName (load_global at' S hk hg fun v e => ?_)
  obtain ⟨b, f, rfl, ht, hf⟩ := e
  obtain ⟨o, pm, code, doc, go, do', hcode⟩ := hf
  refine Calls.callWith_function (o := o) (args_of (h1.2.1 _) (mono' (h1.2.2 pos at' S hb h) fun xs s₁ ⟨_, vs, ι₁, H₁, M₁, S₁, r₁, q₁⟩ => ⟨⟨S₁.prot _ _ (at'.ok.base _ _ go (at'.gd.notScr _ f ⟨o, pm, code, doc, go, do', hcode⟩)), do'⟩, ?_⟩))
  refine mono' (at'.call at'.gd (fun a o e h => Or.inl (at'.ok.base a o e h)) S₁.wdF at'.ao ht ⟨o, pm, code, doc, go, do', hcode⟩ r₁ q₁) fun val s₂ ⟨v, ι₂, H₂, M₂, W₂, r₂, q₂⟩ => ?_
  exact ⟨v, ι₂, H₂, M₁.trans M₂, S₁.back W₂ M₂, r₂, q₂⟩
theorem Bi.form (b : Bi) : (∃ id, b.py = .builtin id) ∨ (∃ T, b.py = .type T) := by
  cases b <;> first | exact .inl ⟨_, rfl⟩ | exact .inr ⟨_, rfl⟩
theorem snd_bi {x : Str} {np pos : Pos} {es : List Expr} {es' : List E} {b : Bi} (hk : sc.gk x = true) (hg : p.G x = some (.bi b)) (h1 : SndEs p sc es es') : SndE p sc (.Call (.Name x np) es [] pos) (.bi b es') := fun {C d cx A ι ρ H s Q E} at' S hb h => by
  refine wpAny_Call_ofName (load_global at' S hk hg fun v e => ?_)
  subst e
  have key : wpAny (model p.prog cx.w) A (evalArgs b.py true (backTo pos (starEach es cx.env)) []) (fun a s₁ => wpAny (model p.prog cx.w) A (call b.py ([] ++ a.pos) a.kw) (Post cx ι ρ s Q) E s₁) E s :=
    args_of (h1.2.1 _) (mono' (h1.2.2 pos at' S hb h) fun xs s₁ ⟨_, vs, ι₁, H₁, M₁, S₁, r₁, q₁⟩ => mono' (bi_sound S₁ at'.ok at'.ao.hd at'.ao.u r₁ q₁) fun _ _ P => P.after M₁)
  rcases b.form with ⟨id, e⟩ | ⟨T, e⟩ <;> rw [e] at key ⊢
  · exact Calls.callWith_builtin (back_any (h1.2.1 _)) key
  · exact callWith_excType (back_any (h1.2.1 _)) key
noncomputable def tyOf : Gl → Option Ty
  | .ty t => some t
  | .bi .list => some .list
  | .bi .int => some .int
  | _ => none
theorem snd_isinst {x y : Str} {np ny pos : Pos} {e : Expr} {e' : E} {t : Ty} {g : Gl} (hk : sc.gk x = true) (hg : p.G x = some .isinst) (hk' : sc.gk y = true) (hg' : p.G y = some g) (hty : tyOf g = some t) (he : ∀ env, starEach [e, .Name y ny] env = (false, eval e env) :: starEach [.Name y ny] env)
    (h1 : SndE p sc e e') : SndE p sc (.Call (.Name x np) [e, .Name y ny] [] pos) (.isinst e' t) := fun {C d cx A ι ρ H s Q E} at' S hb h => by
  refine wpAny_Call_ofName (load_global at' S hk hg fun v e => ?_)
  subst e
  have hs : (starEach [e, .Name y ny] cx.env).any (·.1) = false := by rw [he]; rfl
  refine Calls.callWith_builtin (back_any hs) (args_of hs ?_)
  refine wpAny_items_cons (mono' (h1 at' S hb h) fun x s₁ ⟨va, ι₁, H₁, M₁, S₁, r₁, q₁⟩ => ?_) (he _)
  refine wpAny_items_cons (load_global at' S₁ hk' hg' fun v e => ?_)
  have e : v = t.py := by
    cases g with
    | ty t' => cases hty; exact e
    | bi b => cases b <;> cases hty <;> exact e
    | _ => cases hty
  subst e
  refine wpAny_items_nil ?_
  exact mono' (is_sound S₁ r₁ q₁) fun _ _ P => (P.post S₁).after M₁

theorem snd_meth {o : Expr} {apos pos : Pos} {es : List Expr} {o' : E} {es' : List E} {m : Mt} (hbase : ∀ env, attributeBase o m.nm env (eval o env) = eval o env) (hline : (apos.endLine == pos.line) = true) (hn : es.length < 29)
    (h0 : SndE p sc o o') (h1 : SndEs p sc es es') : SndE p sc (.Call (.Attribute o m.nm apos) es [] pos) (.meth m o' es') := fun {C d cx A ι ρ H s Q E} at' S hb h => by
  rw [arm_eval_Call, hbase]
  refine wpAny_bind (mono' (h0 at' S hb h) fun x s₁ ⟨vo, ι₁, H₁, M₁, S₁, r₁, hr, q₁⟩ => wpAny_bind (wpAny_standAt ?_))
  have hform : methodCallForm (es.length + ([] : List Keyword).length) (backTo pos (starEach es cx.env)) (backToKw pos (keywordEach [] cx.env)) = true := by
    have := back_any (pos := pos) (h1.2.1 cx.env)
    unfold methodCallForm
    simp only [List.any_eq_false] at this
    rw [show backToKw pos (keywordEach [] cx.env) = [] from rfl]
    simp
    refine ⟨fun a hm => by simpa using this _ hm, by omega⟩
  have hpos : methodCallPos true o cx.env apos pos = pure pos := by unfold methodCallPos; simp [hline]
  unfold methodCall
  rw [hform]
  refine wpAny_bind (wpAny_holding (getMethod_sound S₁ r₁ hr ?_))
  refine wpAny_bind (wpAny_of_eq hpos ?_)
  refine Calls.callWith_builtin (back_any (h1.2.1 _)) (args_of (h1.2.1 _) (mono' (h1.2.2 pos at' S₁ hb q₁) fun xs s₂ ⟨_, vs, ι₂, H₂, M₂, S₂, r₂, q₂⟩ => ?_))
  exact mono' (meth_sound S₂ at'.ao.u (M₂.rep r₁) r₂ q₂) fun _ _ P => (P.after M₂).after M₁
end
end Tw
end

section
namespace Tw
open PySem PySem.SeqAt

/-! targets -/
noncomputable def Tgt.slots : Tgt → List Nat
  | .name i => [i]
  | .tup is => is

theorem upds_out : ∀ (is : List Nat) (vs : List V) (ρ : Rho) (i : Nat), i ∉ is → upds ρ is vs i = ρ i
  | [], _, _, _, _ => by simp [upds]
  | j :: is, [], _, _, _ => by simp [upds]
  | j :: is, v :: vs, ρ, i, h => by
    simp at h
    rw [upds, upds_out is vs _ i h.2]
    simp [upd, h.1]
theorem bindT_ext {t : Tgt} {v : V} {ρ : Rho} {K : Rho → Prop} (h : bindT t v ρ K) : bindT t v ρ fun ρ' => (∀ i, i ∉ t.slots → ρ' i = ρ i) ∧ K ρ' := by
  cases t with
  | name j => exact ⟨fun i hi => by simp [Tgt.slots] at hi; simp [upd, hi], h⟩
  | tup is =>
    cases v with
    | tup vs => exact ⟨h.1, fun i hi => upds_out is vs ρ i hi, h.2⟩
    | _ => exact h.elim

inductive PostG (sc : Sc) (cx : Cx) (ι : List Addr) (H : H) (s : Shared) (K : Rho → Prop) (s' : Shared) : Prop
  | mk (ρ' : Rho) (M : Mono ι s ι s') (S : St cx ι ρ' H s') (b : Bnd sc.lim ρ') (q : K ρ')
noncomputable def SndG (p : Pg) (sc : Sc) (t : Expr) (t' : Tgt) : Prop :=
  ∀ {C : Ora} {d : Nat} {cx : Cx} {A : Around} {ι : List Addr} {ρ : Rho} {H : H} {s : Shared} {val : Value} {v : V} {K : Rho → Prop} {E : Value → Shared → Prop},
    At p sc C d cx A → St cx ι ρ H s → Bnd sc.lim ρ → RepV ι s.heap val v → bindT t' v ρ K → wpAny (model p.prog cx.w) A (assign t cx.env val) (fun _ s' => PostG sc cx ι H s K s') E s

section
variable {p : Pg} {sc : Sc}

theorem Bnd.upd {n i : Nat} {ρ : Rho} {v : V} (h : Bnd n ρ) (hi : i < n) : Bnd n (upd ρ i v) := fun j hj => by
  have : j ≠ i := by omega
  simp [Tw.upd, this, h j hj]

theorem store_name {C : Ora} {d : Nat} {cx : Cx} {A : Around} {ι : List Addr} {ρ : Rho} {H : H} {s : Shared} {val : Value} {v : V} {E : Value → Shared → Prop} {x : Str} {i : Nat} (hx : sc.nm x = some i) (hs : sc.st x = true)
    (at' : At p sc C d cx A) (S : St cx ι ρ H s) (hb : Bnd sc.lim ρ) (r : RepV ι s.heap val v) {Q : Unit → Shared → Prop} (q : ∀ s', Mono ι s ι s' → St cx ι (upd ρ i v) H s' → Bnd sc.lim (upd ρ i v) → Q () s') :
    wpAny (model p.prog cx.w) A (storeName cx.env x val) Q E s := by
  have hx' : cx.nm x = some i := (at'.fit.nm x).trans hx
  have hb' : Bnd sc.lim (upd ρ i v) := hb.upd (at'.fit.lim x i hx)
  rcases at'.fit.stk x hs with k | k
  · obtain ⟨m, hm⟩ := S.ns
    refine wpAny_storeName_local k hm (fun h' hn hsb => ?_) (by rw [at'.ok.fn]; rfl)
    obtain ⟨S', M'⟩ := S.local at'.ok (s.toks + 1) hx' k hm hn hsb.extBut r
    exact q _ M' S' hb'
  · rcases at'.ok.kinds x i hx' with k' | ⟨_, c, l⟩
    · rw [k] at k'; cases k'
    · obtain ⟨⟨ov, ic⟩, _⟩ := S.cells x c l
      refine wpAny_storeName_cell at'.ok.fn k l ic fun h' hn hsb => ?_
      obtain ⟨S', M'⟩ := S.cell at'.ok s.toks hx' ((at'.fit.st x).trans hs) k l hn hsb.extBut r
      exact q _ M' S' hb'

theorem sndG_name {x : Str} {i : Nat} {pos : Pos} (hx : sc.nm x = some i) (hs : sc.st x = true) : SndG p sc (.Name x pos) (.name i) := fun at' S hb r h =>
  wpAny_assign_Name (store_name hx hs at' S hb r fun _ M' S' hb' => ⟨_, M', S', hb', h⟩)

/-- plain names, and their slots -/
inductive NamesAre (sc : Sc) : List Expr → List Nat → Prop
  | nil : NamesAre sc [] []
  | cons {x : Str} {i : Nat} {pos : Pos} {es : List Expr} {is : List Nat} : sc.nm x = some i → sc.st x = true → NamesAre sc es is → NamesAre sc (.Name x pos :: es) (i :: is)
theorem NamesAre.each {es : List Expr} {is : List Nat} (n : NamesAre sc es is) (env : Env) : (assignEach es env).length = is.length ∧ (assignEach es env).findIdx? (·.1) = none := by
  induction n with
  | nil => exact ⟨rfl, rfl⟩
  | cons _ _ _ ih =>
    refine ⟨congrArg (· + 1) ih.1, ?_⟩
    refine (List.findIdx?_cons ..).trans ?_
    show Option.map _ ((assignEach _ env).findIdx? (·.1)) = none
    rw [ih.2]; rfl
theorem NamesAre.go {es : List Expr} {is : List Nat} (n : NamesAre sc es is) : ∀ {C : Ora} {d : Nat} {cx : Cx} {A : Around} {ι : List Addr} {ρ : Rho} {H : H} {s : Shared} {vals : List Value} {vs : List V} {E : Value → Shared → Prop} {Q : Unit → Shared → Prop},
    At p sc C d cx A → St cx ι ρ H s → Bnd sc.lim ρ → RepVs ι s.heap vals vs → is.length = vs.length → (∀ s', Mono ι s ι s' → St cx ι (upds ρ is vs) H s' → Bnd sc.lim (upds ρ is vs) → Q () s') →
    wpAny (model p.prog cx.w) A (assignInOrder ((assignEach es cx.env).map (·.2)) vals) Q E s := by
  induction n with
  | nil =>
    intro C d cx A ι ρ H s vals vs E Q at' S hb r hl q
    cases r with
    | nil => exact wpAny_assignInOrder_none (q s (.refl _ _) S hb)
    | cons _ _ => simp at hl
  | cons hx hs _ ih =>
    intro C d cx A ι ρ H s vals vs E Q at' S hb r hl q
    cases r with
    | nil => simp at hl
    | cons r₁ r₂ =>
      refine wpAny_assignInOrder_more (wpAny_assign_Name (store_name hx hs at' S hb r₁ fun s' M' S' hb' => ?_))
      exact ih at' S' hb' (M'.reps r₂) (by simpa using hl) fun s'' M'' S'' hb'' => q s'' (M'.trans M'') S'' hb''
theorem sndG_tup {es : List Expr} {is : List Nat} {k : Nat} {pos : Pos} (n : NamesAre sc es is) : SndG p sc (.Tuple es k pos) (.tup is) := fun {C d cx A ι ρ H s val v K E} at' S hb r h => by
  cases r with
  | tup g z rs =>
    rename_i a n' vals vs
    obtain ⟨hl, hk⟩ := h
    obtain ⟨e1, e2⟩ := n.each cx.env
    have hsz : (assignEach es cx.env).length = vals.size := by rw [e1, hl, ← rs.length]; simp
    obtain ⟨as, hI⟩ := S.aside at'.ok (Nat.le_refl _)
    refine wpAny_assign_Tuple at'.ao.hd ⟨_, g, rfl, n', rfl⟩ hsz e2 fun h' he => ?_
    obtain ⟨S', M'⟩ := S.but as hI s.toks he fun o e => absurd (Heap.lt_size e) (Nat.lt_irrefl _)
    exact n.go at' S' hb (M'.reps rs) hl fun s'' M'' S'' hb'' => ⟨_, M'.trans M'', S'', hb'', hk⟩
  | _ => exact h.elim

/-! dicts -/
theorem snd_dict0 {pos : Pos} : SndE p sc (.Dict [] [] pos) .dict0 := fun at' S _ h => wpAny_Dict_empty (Post.dict S at'.ok (h 0) _)
end
end Tw
end

section
namespace Tw
open PySem PySem.SeqAt

section
variable {p : Pg} {sc : Sc}
theorem snd_dict1 {k v : Expr} {pos : Pos} {k' v' : E} (h1 : SndE p sc k k') (h2 : SndE p sc v v') : SndE p sc (.Dict [some k] [v] pos) (.dict1 k' v') := fun {C d cx A ι ρ H s Q E} at' S hb h => by
  rw [arm_eval_Dict]
  have hshape : (evalEachOpt [some k] cx.env).zip ((evalEach [v] cx.env).map fun v => do let x ← v; standAt pos; pure x) = [(eval k cx.env, do let x ← eval v cx.env; standAt pos; pure x)].map fun p => (some p.1, p.2) := rfl
  rw [hshape, dictDisplay_pairs _ (by simp) (by simp)]
  refine wpAny_bind (wpAny_standAt (wpAny_bind ?_))
  unfold subDict
  refine wpAny_bind (wpAny_alloc ?_)
  refine wpAny_bind (wpAny_holding ?_)
  rw [if_pos (by simp)]
  obtain ⟨f1, f2, f3, f4, f5⟩ := S.fresh at'.ok (Nat.le_refl _)
  have as : Aside cx s.heap.objs.size := ⟨f3, f4, f5⟩
  generalize hD : s.heap.objs.size = D at *
  have hk : ∀ b ob, s.heap.get? b = some ob → (s.heap.push { cls := .type "dict", data := .dict #[] }).get? b = some ob := fun _ _ e => Heap.get?_push_of_some _ e
  have S₁ := (S.push { cls := .type "dict", data := .dict #[] } s.toks).keep (a := D) (o := { cls := .type "dict", data := .dict #[] }) (by rw [← hD]; exact get?_fresh rfl) f1
  have at₁ := at'.keep as { cls := .type "dict", data := .dict #[] }
  have M₁ : Mono ι s ι { s with heap := s.heap.push { cls := .type "dict", data := .dict #[] } } := .ext hk
  refine wpAny_bind (evalPairs_cons (mono' (h1 (cx := cx.keep D _) at₁ S₁ hb h) fun x s₂ ⟨vk, ι₂, H₂, M₂, S₂, r₂, q₂⟩ => wpAny_bind (mono' (h2 (cx := cx.keep D _) at₁ S₂ hb q₂) fun y s₃ ⟨vv, ι₃, H₃, M₃, S₃, r₃, hkey, q₃⟩ => wpAny_bind (wpAny_standAt (wpAny_pure (evalPairs_nil ?_))))))
  refine wpAny_holding ?_
  simp only [List.forIn_cons, List.forIn_nil]
  have g := S₃.kept
  have hI := S₃.keptI
  have S₄ := S₃.unkeep.alloc (o := .dict [] 0) ⟨#[], g, .nil, List.nodup_nil, Nat.zero_le _⟩ hI f2 f3 f4 f5
  have M₄ : Mono ι₃ s₃ (ι₃ ++ [D]) s₃ := ⟨List.prefix_append _ _, .refl _⟩
  have hi : (ι₃ ++ [D])[H₃.length]? = some D := by rw [← S₃.len]; simp
  have hH : (H₃ ++ [MO.dict [] 0])[H₃.length]? = some (.dict [] 0) := by simp
  obtain ⟨ents, DA⟩ := S₄.dict hi hH
  refine wpAny_bind (wpAny_bind (wpAny_bind (dictSet_key (A := A) S₄ (by have := at'.ao.u; omega) hi hH DA (by show 0 < SZ; decide) (M₄.rep (M₃.rep r₂)) (M₄.rep r₃) hkey fun ver s₅ S₅ M₅ => wpAny_pure (wpAny_pure (wpAny_pure (wpAny_pure (wpAny_pure ?_)))))))
  have e : (H₃ ++ [MO.dict [] 0]).set H₃.length (.dict (dput [] vk vv) ver) = H₃ ++ [.dict [(vk, vv)] ver] := by simp [dput, dget]
  rw [e] at S₅
  exact ⟨.ref H₃.length, ι₃ ++ [D], _, (M₁.trans (M₂.trans (M₃.trans M₄))).trans M₅, S₅, .ref hi, q₃ ver⟩
end
end Tw
end

section
namespace Tw
open PySem PySem.SeqAt

abbrev Nms := List (Str × NameKind)
/-- a name's slot, by its place in the scope's table -/
noncomputable def slotOf (outer : Str → Option Nat) : Nat → Nms → Str → Option Nat
  | _, [], _ => none
  | base, (n, k) :: r, x => if x == n then (match k with | .local => some base | .cell => some base | .free => outer x | _ => none) else slotOf outer (base + 1) r x

theorem slotOf_spec {outer : Str → Option Nat} : ∀ {names : Nms} {base : Nat} {x : Str} {i : Nat}, slotOf outer base names x = some i →
    ∃ k, names.lookup x = some k ∧ (((k = .local ∨ k = .cell) ∧ base ≤ i ∧ i < base + names.length) ∨ (k = .free ∧ outer x = some i))
  | [], _, _, _, h => by simp [slotOf] at h
  | (n, k) :: r, base, x, i, h => by
    unfold slotOf at h
    cases hx : x == n with
    | true =>
      rw [hx] at h
      simp only [if_true] at h
      refine ⟨k, by simp [List.lookup_cons, hx], ?_⟩
      cases k <;> simp at h
      · subst h; exact .inl ⟨.inl rfl, by omega, by simp⟩
      · subst h; exact .inl ⟨.inr rfl, by omega, by simp⟩
      · exact .inr ⟨rfl, h⟩
    | false =>
      rw [hx] at h
      simp only [Bool.false_eq_true, if_false] at h
      obtain ⟨k', h1, h2⟩ := slotOf_spec h
      refine ⟨k', by simp [List.lookup_cons, hx, h1], h2.imp (fun ⟨a, b, c⟩ => ⟨a, by omega, by simp; omega⟩) id⟩

theorem slotOf_inj {outer : Str → Option Nat} {b0 : Nat} (oi : ∀ x y i, outer x = some i → outer y = some i → x = y) (ol : ∀ x i, outer x = some i → i < b0) :
    ∀ {names : Nms} {base : Nat} {x y : Str} {i : Nat}, b0 ≤ base → slotOf outer base names x = some i → slotOf outer base names y = some i → x = y
  | [], _, _, _, _, _, h, _ => by simp [slotOf] at h
  | (n, k) :: r, base, x, y, i, hb, h, h' => by
    unfold slotOf at h h'
    cases hx : x == n with
    | true =>
      cases hy : y == n with
      | true => rw [beq_iff_eq.mp hx, beq_iff_eq.mp hy]
      | false =>
        rw [hx] at h; rw [hy] at h'
        simp only [if_true, Bool.false_eq_true, if_false] at h h'
        obtain ⟨k', h1, h2⟩ := slotOf_spec h'
        cases k <;> simp at h
        · subst h; rcases h2 with h2 | h2
          · omega
          · have := ol _ _ h2.2; omega
        · subst h; rcases h2 with h2 | h2
          · omega
          · have := ol _ _ h2.2; omega
        · rcases h2 with h2 | h2
          · have := ol _ _ h; omega
          · exact oi _ _ _ h h2.2
    | false =>
      cases hy : y == n with
      | true =>
        rw [hx] at h; rw [hy] at h'
        simp only [if_true, Bool.false_eq_true, if_false] at h h'
        obtain ⟨k', h1, h2⟩ := slotOf_spec h
        cases k <;> simp at h'
        · subst h'; rcases h2 with h2 | h2
          · omega
          · have := ol _ _ h2.2; omega
        · subst h'; rcases h2 with h2 | h2
          · omega
          · have := ol _ _ h2.2; omega
        · rcases h2 with h2 | h2
          · have := ol _ _ h'; omega
          · exact oi _ _ _ h2.2 h'
      | false =>
        rw [hx] at h; rw [hy] at h'
        simp only [Bool.false_eq_true, if_false] at h h'
        exact slotOf_inj oi ol (by omega) h h'

/-! the cells of a block -/
theorem cellsFrom_app : ∀ (names : Nms) (n : Nat) (acc : List (Str × Addr)), cellsFrom n names acc = cellsFrom n names [] ++ acc
  | [], _, _ => rfl
  | (x, k) :: r, n, acc => by
    unfold cellsFrom
    split
    · rw [cellsFrom_app r (n + 1) ((x, n) :: acc), cellsFrom_app r (n + 1) [(x, n)]]; simp
    · exact cellsFrom_app r n acc
theorem cellsFrom_of : ∀ (names : Nms) (n : Nat) (x : Str) (c : Addr), (x, c) ∈ cellsFrom n names [] → (x, NameKind.cell) ∈ names ∧ n ≤ c
  | [], _, _, _, h => by simp [cellsFrom] at h
  | (y, k) :: r, n, x, c, h => by
    unfold cellsFrom at h
    split at h
    · rename_i hk
      rw [cellsFrom_app] at h
      rcases List.mem_append.mp h with h | h
      · obtain ⟨a, b⟩ := cellsFrom_of r (n + 1) x c h; exact ⟨List.mem_cons_of_mem _ a, by omega⟩
      · simp at h; obtain ⟨rfl, rfl⟩ := h
        have : k = .cell := by simpa using hk
        subst this; exact ⟨List.mem_cons_self, Nat.le_refl _⟩
    · obtain ⟨a, b⟩ := cellsFrom_of r n x c h; exact ⟨List.mem_cons_of_mem _ a, b⟩
theorem cellsFrom_has : ∀ (names : Nms) (n : Nat) (x : Str), (x, NameKind.cell) ∈ names → ∃ c, (x, c) ∈ cellsFrom n names []
  | [], _, _, h => by simp at h
  | (y, k) :: r, n, x, h => by
    unfold cellsFrom
    split
    · rw [cellsFrom_app]
      rcases List.mem_cons.mp h with h | h
      · cases h; exact ⟨n, by simp⟩
      · obtain ⟨c, hc⟩ := cellsFrom_has r (n + 1) x h; exact ⟨c, List.mem_append_left _ hc⟩
    · rename_i hk
      rcases List.mem_cons.mp h with h | h
      · cases h; simp at hk
      · exact cellsFrom_has r n x h
theorem lookup_of_mem {α : Type} : ∀ {l : List (Str × α)} {x : Str} {c : α}, (x, c) ∈ l → ∃ c', l.lookup x = some c'
  | (y, d) :: r, x, c, h => by
    cases hx : x == y with
    | true => exact ⟨d, by simp [List.lookup_cons, hx]⟩
    | false =>
      rcases List.mem_cons.mp h with h | h
      · cases h; simp at hx
      · obtain ⟨c', h'⟩ := lookup_of_mem h; exact ⟨c', by simp [List.lookup_cons, hx, h']⟩

/-! the closure -/
noncomputable def clFrom (env : Env) : Nms → List (Str × Addr) → List (Str × Addr)
  | [], acc => acc
  | (x, k) :: r, acc => if k == .free then clFrom env r ((x, ((env.cells.lookup x).getD 0)) :: acc) else clFrom env r acc
theorem closure_go (env : Env) (f : Str × NameKind → List (Str × Addr) → Sem (ForInStep (List (Str × Addr))))
    (hf : ∀ x k acc, f (x, k) acc = if k == .free then (do let a ← cellOf env x; pure (.yield ((x, a) :: acc))) else pure (.yield acc)) :
    ∀ (names : Nms) (acc : List (Str × Addr)), (∀ x, (x, NameKind.free) ∈ names → ∃ c, env.cells.lookup x = some c) → forIn names acc f = (pure (clFrom env names acc) : Sem (List (Str × Addr)))
  | [], acc, _ => by rw [List.forIn_nil]; rfl
  | (x, k) :: r, acc, h => by
    have ih := fun acc => closure_go env f hf r acc fun x hx => h x (List.mem_cons_of_mem _ hx)
    rw [List.forIn_cons, hf]
    unfold clFrom
    cases hk : k == NameKind.free with
    | true =>
      simp only [if_true]
      have : k = .free := by simpa using hk
      subst this
      obtain ⟨c, hc⟩ := h x List.mem_cons_self
      unfold cellOf
      rw [hc]
      simp only [pure_bind]
      exact ih _
    | false =>
      simp only [Bool.false_eq_true, if_false, pure_bind]
      exact ih _
theorem closure_is {scope : Scope} {env : Env} (h : ∀ x, (x, NameKind.free) ∈ scope.names → ∃ c, env.cells.lookup x = some c) : closureFor scope env = pure (clFrom env scope.names []) := by
  unfold closureFor
  dsimp only
  rw [closure_go env _ (fun x k acc => by cases hk : k == NameKind.free <;> simp [hk]) scope.names [] h]
  rfl
theorem clFrom_of (env : Env) : ∀ (names : Nms) (acc : List (Str × Addr)), (∀ x, (x, NameKind.free) ∈ names → ∃ c, env.cells.lookup x = some c) → ∀ x c, (x, c) ∈ clFrom env names acc → (x, c) ∈ acc ∨ (env.cells.lookup x = some c ∧ (x, NameKind.free) ∈ names)
  | [], _, _, _, _, h => .inl h
  | (y, k) :: r, acc, hf, x, c, h => by
    unfold clFrom at h
    split at h
    · rename_i hk
      have hk : k = .free := by simpa using hk
      subst hk
      rcases clFrom_of env r _ (fun x hx => hf x (List.mem_cons_of_mem _ hx)) x c h with h | h
      · rcases List.mem_cons.mp h with h | h
        · obtain ⟨c', hc'⟩ := hf y List.mem_cons_self
          cases h
          refine .inr ⟨by rw [hc']; rfl, List.mem_cons_self⟩
        · exact .inl h
      · exact .inr ⟨h.1, List.mem_cons_of_mem _ h.2⟩
    · rcases clFrom_of env r _ (fun x hx => hf x (List.mem_cons_of_mem _ hx)) x c h with h | h
      · exact .inl h
      · exact .inr ⟨h.1, List.mem_cons_of_mem _ h.2⟩
theorem clFrom_keeps (env : Env) : ∀ (names : Nms) (acc : List (Str × Addr)) (e : Str × Addr), e ∈ acc → e ∈ clFrom env names acc
  | [], _, _, h => h
  | (y, k) :: r, acc, e, h => by
    unfold clFrom
    split
    · exact clFrom_keeps env r _ e (List.mem_cons_of_mem _ h)
    · exact clFrom_keeps env r _ e h
theorem clFrom_has (env : Env) : ∀ (names : Nms) (acc : List (Str × Addr)) (x : Str), (x, NameKind.free) ∈ names → ∃ c, (x, c) ∈ clFrom env names acc
  | [], _, _, h => by simp at h
  | (y, k) :: r, acc, x, h => by
    unfold clFrom
    split
    · rcases List.mem_cons.mp h with h | h
      · cases h; exact ⟨_, clFrom_keeps env r _ _ List.mem_cons_self⟩
      · exact clFrom_has env r _ x h
    · rename_i hk
      rcases List.mem_cons.mp h with h | h
      · cases h; simp at hk
      · exact clFrom_has env r _ x h

theorem relabel_lookup {env : Env} (he : env.scope.kind = .function) : ∀ {names : Nms} {x : Str} {k : NameKind}, names.lookup x = some k →
    (names.map fun (n, k) => if (k == NameKind.free && env.scope.kind == .function && env.kindOf n == some .cell) then (n, NameKind.cell) else (n, k)).lookup x = some (if k = .free ∧ env.kindOf x = some .cell then .cell else k)
  | [], _, _, h => by simp at h
  | (n, k') :: r, x, k, h => by
    have ih := @relabel_lookup env he r x k
    cases hx : x == n with
    | true =>
      have hn := beq_iff_eq.mp hx
      subst hn
      have h : k' = k := by simpa [List.lookup_cons] using h
      subst h
      by_cases hc : k' = .free ∧ env.kindOf x = some .cell
      · simp [List.lookup_cons, hc.1, hc.2, he]
      · rw [if_neg hc]
        have : (k' == NameKind.free && env.scope.kind == .function && env.kindOf x == some .cell) = false := by
          simp only [he, beq_self_eq_true, Bool.and_true]
          rw [Bool.and_eq_false_iff]
          by_cases h1 : k' = .free
          · right; simp; exact fun h2 => hc ⟨h1, h2⟩
          · left; simpa using h1
        rw [List.map_cons]
        show List.lookup x ((if (k' == NameKind.free && env.scope.kind == .function && env.kindOf x == some .cell) = true then (x, NameKind.cell) else (x, k')) :: _) = _
        rw [this]; simp
    | false =>
      simp only [List.lookup_cons, hx] at h
      have ih := ih h
      rw [List.map_cons]
      show List.lookup x ((if (k' == NameKind.free && env.scope.kind == .function && env.kindOf n == some .cell) = true then (n, NameKind.cell) else (n, k')) :: _) = _
      by_cases hc : (k' == NameKind.free && env.scope.kind == .function && env.kindOf n == some .cell) = true
      · rw [if_pos hc]; simp only [List.lookup_cons, hx]; exact ih
      · rw [if_neg hc]; simp only [List.lookup_cons, hx]; exact ih
end Tw
end

section
namespace Tw
open PySem PySem.SeqAt

noncomputable def plainName (x : Str) : Bool := !(x == ("__debug__" : Str)) && !(x == ("__classdict__" : Str))

/-- the names that a comprehension sees -/
noncomputable def compSc (sc : Sc) (names : Nms) : Sc where
  nm := slotOf sc.nm sc.lim names
  gk := fun x => names.lookup x == some .globalImplicit && plainName x
  ck := fun x => names.lookup x == some .cell || names.lookup x == some .free
  st := fun x => names.lookup x == some .local || names.lookup x == some .cell
  lim := sc.lim + names.length

structure CompOk (sc : Sc) (scope : Scope) : Prop where
  kind : scope.kind = .function
  each : ∀ x k, (x, k) ∈ scope.names → scope.names.lookup x = some k
  plain : ∀ x k, (x, k) ∈ scope.names → plainName x = true
  free : ∀ x, (x, NameKind.free) ∈ scope.names → sc.ck x = true

theorem St.reP {cx : Cx} {ι : List Addr} {ρ : Rho} {H : H} {s : Shared} {P' : Addr → Obj → Prop} (S : St cx ι ρ H s) (h : ∀ a o, P' a o → cx.P a o) : St { cx with P := P' } ι ρ H s :=
  ⟨S.same, S.len, S.nodup, S.objs, S.low, S.scr, S.scrI, S.scrIn, fun a o q => S.prot a o (h a o q), fun a o q => S.protI a o (h a o q), S.ns, S.nsI, S.cells, S.vars⟩
theorem Aside.keep {cx : Cx} {a b : Addr} (as : Aside cx a) (h : a ≠ b) (o : Obj) : Aside (cx.keep b o) a := ⟨fun ob q => q.elim (as.np ob) fun e => h e.1, as.nl, as.nc⟩

theorem iter_self {prog : Program} {cx : Cx} {A : Around} {ι : List Addr} {ρ : Rho} {H : H} {s : Shared} {E : Value → Shared → Prop} {it : Addr} {o : Obj} {i : It} {Q : Value → Shared → Prop} (S : St (cx.keep it o) ι ρ H s) (r : ItRep ι s.heap o i) (q : Q (.ref it) s) :
    wpAny (model prog cx.w) A (pyIter (.ref it)) Q E s := by
  have g := S.kept
  cases i with
  | keys n ver len i => obtain ⟨l, _, _, c, d⟩ := r; exact wpAny_pyIter_keyiter ⟨o, g, c, d⟩ q
  | seq n i => obtain ⟨l, _, c, d⟩ := r; exact wpAny_pyIter_listiter ⟨o, g, c, d⟩ q
  | vals vs =>
    rcases r with ⟨t, i, items, n, c, d, _⟩ | ⟨x, left, step, e, _⟩
    · exact wpAny_pyIter_tupleiter ⟨o, g, c, d⟩ q
    · subst e; exact wpAny_pyIter_rangeiter g q

theorem new_comp_env {M : Model} {A : Around} {s : Shared} {E : Value → Shared → Prop} {scope : Scope} {globals : Addr} {cl : List (Str × Addr)} {qual : Str} {env : Env} {Q : Env → Shared → Prop}
    (q : Q (newEnv scope s.heap.objs.size globals (cellsFrom (s.heap.objs.size + 1) scope.names cl) qual none .none (some env) builtinsNs) { s with heap := pushCells (s.heap.push { cls := .type "dict", data := .dict #[] }) scope.names }) :
    wpAny M A (newFunctionEnv scope globals cl [] qual none .none (some env)) Q E s := by
  simp only [newFunctionEnv, Option.isSome_some, if_true]
  refine wpAny_bind (wpAny_alloc ?_)
  refine wpAny_bind (wpAny_layCells _ (fun name kind cells => by cases hkc : kind == NameKind.cell <;> simp [hkc]) _ _ _ _ ?_)
  rw [show ({ s with heap := s.heap.push { cls := .type "dict", data := .dict #[] } } : Shared).heap.objs.size = s.heap.objs.size + 1 from Heap.size_push ..]
  simp only [List.forIn_nil]
  exact wpAny_bind (wpAny_pure (wpAny_pure q))

/-- the frame of a comprehension -/
noncomputable def compCx (cx : Cx) (sc : Sc) (scope : Scope) (h : Heap) (C : Addr) : Cx where
  w := cx.w
  env := { newEnv scope C cx.env.globals (cellsFrom (C + 1) scope.names (clFrom cx.env scope.names [])) cx.env.qual none .none (some cx.env) builtinsNs with scope := relabel scope cx.env }
  nm := (compSc sc scope.names).nm
  st := (compSc sc scope.names).st
  P := frameP cx h
  s0 := cx.s0
  scr := cx.scr

section
variable {p : Pg} {sc : Sc} {C : Ora} {d : Nat} {cx : Cx} {A : Around} {ι : List Addr} {ρ : Rho} {H : H} {s : Shared} {scope : Scope}

theorem comp_kind (at' : At p sc C d cx A) {x : Str} {k : NameKind} (h : scope.names.lookup x = some k) (L : Addr) (hp : Heap) : (compCx cx sc scope hp L).env.kindOf x = some (if k = .free ∧ cx.env.kindOf x = some .cell then .cell else k) :=
  relabel_lookup at'.ok.fn h

theorem comp_cells (ok : CompOk sc scope) (at' : At p sc C d cx A) {L : Addr} {hp : Heap} {x : Str} {c : Addr} (l : (compCx cx sc scope hp L).env.cells.lookup x = some c) :
    ((x, c) ∈ cellsFrom (L + 1) scope.names [] ∧ (x, NameKind.cell) ∈ scope.names ∧ L + 1 ≤ c) ∨ (cx.env.cells.lookup x = some c ∧ (x, NameKind.free) ∈ scope.names) := by
  have l' : (cellsFrom (L + 1) scope.names (clFrom cx.env scope.names [])).lookup x = some c := l
  rw [cellsFrom_app] at l'
  rcases List.mem_append.mp (mem_of_lookup l') with h | h
  · exact .inl ⟨h, cellsFrom_of _ _ _ _ h⟩
  · rcases clFrom_of cx.env scope.names [] (fun x hx => (at'.fit.ck x (ok.free x hx)).2) x c h with h | h
    · simp at h
    · exact .inr h
theorem comp_has (at' : At p sc C d cx A) {L : Addr} {hp : Heap} {x : Str} (h : (x, NameKind.cell) ∈ scope.names ∨ (x, NameKind.free) ∈ scope.names) : ∃ c, (compCx cx sc scope hp L).env.cells.lookup x = some c := by
  show ∃ c, (cellsFrom (L + 1) scope.names (clFrom cx.env scope.names [])).lookup x = some c
  rw [cellsFrom_app]
  rcases h with h | h
  · obtain ⟨c, hc⟩ := cellsFrom_has scope.names (L + 1) x h
    exact lookup_of_mem (List.mem_append_left _ hc)
  · obtain ⟨c, hc⟩ := clFrom_has cx.env scope.names [] x h
    exact lookup_of_mem (List.mem_append_right _ hc)

theorem comp_own {x : Str} {c c' : Addr} {L : Addr} (h : Heap) (hL : h.objs.size = L) (m : (x, c) ∈ cellsFrom (L + 1) scope.names []) : (pushCells (h.push { cls := .type "dict", data := .dict #[] }) scope.names).IsCell c none := by
  have ok := cellsFrom_ok scope.names (h.push { cls := .type "dict", data := .dict #[] }) (L + 1) [] ⟨fun _ _ hm => (nomatch hm), List.Pairwise.nil⟩ (by rw [Heap.size_push, hL]; exact Nat.le_refl _)
  rw [Heap.size_push, hL] at ok
  exact (ok.empty x c m).1
theorem comp_apart {L : Addr} (h : Heap) (hL : h.objs.size = L) : (cellsFrom (L + 1) scope.names []).Pairwise fun x y => x.2 ≠ y.2 := by
  have ok := cellsFrom_ok scope.names (h.push { cls := .type "dict", data := .dict #[] }) (L + 1) [] ⟨fun _ _ hm => (nomatch hm), List.Pairwise.nil⟩ (by rw [Heap.size_push, hL]; exact Nat.le_refl _)
  rw [Heap.size_push, hL] at ok
  exact ok.apart

theorem comp_cxok (ok : CompOk sc scope) (at' : At p sc C d cx A) (S : St cx ι ρ H s) : CxOk (compCx cx sc scope s.heap s.heap.objs.size) where
  fn := ok.kind
  gl := at'.ok.gl
  bl := at'.ok.bl
  inj := fun x y i hx hy => slotOf_inj (fun x y i hx hy => at'.ok.inj x y i ((at'.fit.nm x).trans hx) ((at'.fit.nm y).trans hy)) at'.fit.lim (Nat.le_refl _) hx hy
  kinds := fun x i hx => by
    obtain ⟨k, l, h⟩ := slotOf_spec hx
    rcases h with ⟨rfl | rfl, _⟩ | ⟨rfl, ho⟩
    · left; rw [comp_kind at' l]; simp
    · right; rw [comp_kind at' l]; exact ⟨.inl (by simp), comp_has at' (.inl (mem_of_lookup l))⟩
    · right; rw [comp_kind at' l]
      refine ⟨?_, comp_has at' (.inr (mem_of_lookup l))⟩
      by_cases hc : cx.env.kindOf x = some .cell <;> simp [hc]
  plain := fun x i hx => by
    obtain ⟨k, l, h⟩ := slotOf_spec hx
    have := ok.plain x k (mem_of_lookup l)
    simpa [plainName] using this
  cinj := fun x y c hx hy => by
    have sz : ∀ (c : Addr), s.heap.objs.size + 1 ≤ c → ∀ (x : Str), cx.env.cells.lookup x = some c → False := fun c hlt x l => by
      obtain ⟨⟨ov, ic⟩, _⟩ := S.cells x c l
      exact absurd ic.lt (Nat.not_lt.mpr (Nat.le_of_succ_le hlt))
    rcases comp_cells ok at' hx with ⟨h1, _, h3⟩ | ⟨h1, _⟩ <;> rcases comp_cells ok at' hy with ⟨k1, _, k3⟩ | ⟨k1, _⟩
    · exact name_of_addr (comp_apart s.heap rfl) h1 k1
    · exact (sz c h3 y k1).elim
    · exact (sz c k3 x h1).elim
    · exact at'.ok.cinj x y c h1 k1
  own := fun x c o hs hk l q => by
    rcases comp_cells ok at' l with ⟨h1, _, h3⟩ | ⟨h1, h2⟩
    · have hg := S.wdF.prot c o q
      exact absurd (Heap.lt_size hg) (Nat.not_lt.mpr (Nat.le_of_succ_le h3))
    · have := ok.each x _ h2
      simp [compCx, compSc, this] at hs
  loc := fun o q => by
    have hg := S.wdF.prot _ o q
    exact Nat.lt_irrefl _ (Heap.lt_size hg)
  base := fun a o g h => .inl (at'.ok.base a o g h)
  lowL := by
    obtain ⟨m, hn⟩ := S.ns
    exact Nat.lt_trans at'.ok.lowL hn.lt
theorem comp_fit (ok : CompOk sc scope) (at' : At p sc C d cx A) (L : Addr) (h : Heap) : Fit (compSc sc scope.names) (compCx cx sc scope h L) where
  nm := fun _ => rfl
  st := fun _ => rfl
  gk := fun x hx => by
    simp [compSc, plainName] at hx
    exact ⟨by rw [comp_kind at' hx.1]; simp, by simpa using hx.2.1⟩
  ck := fun x hx => by
    simp [compSc] at hx
    rcases hx with hx | hx
    · exact ⟨.inl (by rw [comp_kind at' hx]; simp), comp_has at' (.inl (mem_of_lookup hx))⟩
    · refine ⟨?_, comp_has at' (.inr (mem_of_lookup hx))⟩
      rw [comp_kind at' hx]
      by_cases hc : cx.env.kindOf x = some .cell <;> simp [hc]
  stk := fun x hx => by
    simp [compSc] at hx
    rcases hx with hx | hx
    · left; rw [comp_kind at' hx]; simp
    · right; rw [comp_kind at' hx]; simp
  lim := fun x i hx => by
    obtain ⟨k, l, h⟩ := slotOf_spec hx
    rcases h with h | h
    · exact h.2.2
    · have := at'.fit.lim x i h.2; simp [compSc]; omega
theorem comp_at (ok : CompOk sc scope) (at' : At p sc C d cx A) (S : St cx ι ρ H s) : At p (compSc sc scope.names) C d (compCx cx sc scope s.heap s.heap.objs.size) A :=
  ⟨at'.call, comp_cxok ok at' S, comp_fit ok at' _ _, at'.gd, at'.ao⟩

theorem comp_st (ok : CompOk sc scope) (at' : At p sc C d cx A) (S : St cx ι ρ H s) (hb : Bnd sc.lim ρ) :
    St (compCx cx sc scope s.heap s.heap.objs.size) ι ρ H { s with heap := pushCells (s.heap.push { cls := .type "dict", data := .dict #[] }) scope.names } := by
  have hk : ∀ b o, s.heap.get? b = some o → (pushCells (s.heap.push { cls := .type "dict", data := .dict #[] }) scope.names).get? b = some o := fun b o e => pushCells_keeps _ _ b o (Heap.get?_push_of_some _ e)
  have S' := S.ext s.toks hk
  have fr := fun (c : Addr) (h : s.heap.objs.size ≤ c) => (S.fresh at'.ok h).1
  exact {
    same := S'.same
    len := S.len
    nodup := S.nodup
    objs := S'.objs
    low := S.low
    scr := S'.scr
    scrI := S.scrI
    scrIn := S.scrIn
    prot := fun a o q => hk _ _ (S.wdF.prot a o q)
    protI := fun a o q => S.wdF.protI a o q
    ns := ⟨_, (Heap.Ns.new s.heap (.type "dict")).keeps (pushCells_keeps _ _)⟩
    nsI := fr _ (Nat.le_refl _)
    cells := fun x c l => by
      rcases comp_cells ok at' l with ⟨h1, _, h3⟩ | ⟨h1, _⟩
      · exact ⟨⟨none, comp_own (c' := 0) s.heap rfl h1⟩, fr c (Nat.le_of_succ_le h3), Nat.ne_of_gt h3⟩
      · obtain ⟨⟨ov, ic⟩, i2, i3⟩ := S.cells x c h1
        refine ⟨⟨ov, ic.keeps hk⟩, i2, ?_⟩
        exact Nat.ne_of_lt ic.lt
    vars := fun x i v hx hv => by
      obtain ⟨k, l, h⟩ := slotOf_spec hx
      rcases h with h | ⟨rfl, ho⟩
      · have := hb i h.2.1
        rw [this] at hv; cases hv
      · obtain ⟨val, va, r⟩ := S.vars x i v ((at'.fit.nm x).trans ho) hv
        refine ⟨val, ?_, r.mono (List.prefix_refl _) (.of_ext hk)⟩
        have hck := at'.fit.ck x (ok.free x (mem_of_lookup l))
        rcases va with ⟨kl, _⟩ | ⟨_, c, lc, ic⟩
        · rcases hck.1 with e | e <;> rw [kl] at e <;> cases e
        · obtain ⟨c', lc'⟩ := comp_has (L := s.heap.objs.size) (hp := s.heap) (sc := sc) at' (.inr (mem_of_lookup l))
          refine .inr ⟨?_, c', lc', ?_⟩
          · rw [comp_kind at' l]; by_cases hc : cx.env.kindOf x = some .cell <;> simp [hc]
          · rcases comp_cells ok at' lc' with ⟨_, h2, _⟩ | ⟨h1, _⟩
            · have e1 := ok.each x _ h2; rw [l] at e1; cases e1
            · rw [lc] at h1; cases h1; exact ic.keeps hk }
end
end Tw
end

section
namespace Tw
open PySem PySem.SeqAt

abbrev lstO (vals : Array Value) (n : Nat) : Obj := { cls := .type "list", data := .seq vals n }

/-- a comprehension's turn, with what the model lets go -/
theorem comp_loop {prog : Program} {w : World} {A : Around} {R : Result → Shared → Prop} {s : Shared} {elt target iter : Expr} {ifs : List Expr} {scope : Scope} {pos : Pos} {it acc : Value} {env : Env} (I : Nat → Shared → Prop)
    (turn : ∀ n s, I n s → wpAny (model prog w) A (pyNext it) (fun r s₁ => match r with
      | none => R (.ok .next) s₁
      | some v => wpAny (model prog w) A (letOwnedTupleGo target it v) (fun _ s₁' => wpAny (model prog w) A (assign target env v) (fun _ s₂ =>
          wpAny (model prog w) A (forIn ifs true fun c r => if r = true then do let ok ← isTrue c env (eval c env); pure (ForInStep.yield ok) else pure (ForInStep.yield r)) (fun ok s₃ =>
            if ok = true then wpAny (model prog w) A (eval elt env) (fun x s₄ =>
              wpAny (model prog w) A (call (.builtin "list.append") [acc, x]) (fun _ s₅ => ∃ m, m < n ∧ I m s₅) (notedBy (model prog w) A env fun e s' => R (.error e) s') s₄) (notedBy (model prog w) A env fun e s' => R (.error e) s') s₃
            else ∃ m, m < n ∧ I m s₃) (notedBy (model prog w) A env fun e s' => R (.error e) s') s₂) (notedBy (model prog w) A env fun e s' => R (.error e) s') s₁') (notedBy (model prog w) A env fun e s' => R (.error e) s') s₁) (notedBy (model prog w) A env fun e s' => R (.error e) s') s)
    (n : Nat) (h : I n s) : codeAny (model prog w) A (.compLoop (.ListComp elt [⟨target, iter, ifs, 0⟩] scope pos) 0 it acc env) R s := by
  refine codeAny_loop rfl I (fun n s hI => ?_) n h
  show wpAny _ A ((compTurn (.ListComp elt [⟨target, iter, ifs, 0⟩] scope pos) 0 it acc env).onRaise (fun x => do noteFrame x env; theTreesLotGoes x)) _ _ s
  refine wpAny_noted ?_
  rw [compTurn_list]
  refine wpAny_bind (wpAny_standAt (wpAny_bind (wpAny_mono (turn n s hI) (fun r s₁ h₁ => ?_) fun _ _ h' => h')))
  cases r with
  | none => exact wpAny_pure h₁
  | some v =>
    refine wpAny_bind (wpAny_mono h₁ (fun _ s₁' h₁' => ?_) fun _ _ h' => h')
    refine wpAny_bind (wpAny_mono h₁' (fun _ s₂ h₂ => wpAny_bind (wpAny_mono h₂ (fun ok s₃ h₃ => ?_) fun _ _ h' => h')) fun _ _ h' => h')
    cases ok with
    | false => exact wpAny_pure ⟨rfl, h₃⟩
    | true =>
      exact wpAny_bind (wpAny_bind (wpAny_mono h₃ (fun x s₄ h₄ => wpAny_bind (wpAny_mono h₄ (fun _ s₅ h₅ => wpAny_pure (wpAny_pure ⟨rfl, h₅⟩)) fun _ _ h' => h')) fun _ _ h' => h'))

/-- the tests of a comprehension -/
inductive SndC (p : Pg) (sc : Sc) : List Expr → Option E → Prop
  | none : SndC p sc [] none
  | one {c : Expr} {c' : E} : SndT p sc c c' → SndC p sc [c] (some c')

section
variable {p : Pg} {sc : Sc}
theorem SndC.go {ifs : List Expr} {cond : Option E} (h : SndC p sc ifs cond) {C : Ora} {d : Nat} {cx : Cx} {A : Around} {ι : List Addr} {ρ : Rho} {H : H} {s : Shared} {Q : Bool → Tw.H → Prop} {E : Value → Shared → Prop}
    (at' : At p sc C d cx A) (S : St cx ι ρ H s) (hb : Bnd sc.lim ρ) (hw : wpO C cond ρ H Q) :
    wpAny (model p.prog cx.w) A (forIn ifs true fun c r => if r = true then do let ok ← isTrue c cx.env (eval c cx.env); pure (ForInStep.yield ok) else pure (ForInStep.yield r)) (PostT cx ι ρ s Q) E s := by
  cases h with
  | none => exact wpAny_tests_nil ⟨ι, H, .refl _ _, S, hw⟩
  | one h => exact wpAny_tests_one (h at' S hb hw)

/-- one more value, in a list that stands aside -/
theorem append_aside {C : Ora} {cx : Cx} {A : Around} {prog : Program} {ι : List Addr} {ρ : Rho} {H : H} {s : Shared} {E : Value → Shared → Prop} {D : Addr} {vals : Array Value} {n : Nat} {out : List V} {x : Value} {v : V} {Q : Value → Shared → Prop} (as : Aside cx D)
    (S : St (cx.keep D (lstO vals n)) ι ρ H s) (r : RepVs ι s.heap vals.toList out) (rx : RepV ι s.heap x v) (hl : out.length < SZ)
    (q : ∀ vals' n' s', St (cx.keep D (lstO vals' n')) ι ρ H s' → Mono ι s ι s' → RepVs ι s'.heap vals'.toList (out ++ [v]) → Q .none s') :
    wpAny (model prog cx.w) A (call (.builtin "list.append") [.ref D, x]) Q E s := by
  have g := S.kept
  have hI := S.keptI
  have e : vals.size = out.length := by rw [← Array.length_toList, r.length]
  refine call_meets F.slot_list_append ⟨_, g, rfl⟩ F.entry_list_append (F.args_list_append_2 _ _) (PySem.list_append D vals n _ (by rw [e, ← SZ_eq]; omega)) ⟨g, ?_⟩
  obtain ⟨S', M'⟩ := S.unkeep.but as hI s.toks (h' := s.heap.update D (Obj.mapSeq fun x_1 => x_1.push x)) (Heap.SameBut.update ..).extBut fun o e => by rw [g] at e; cases e; exact notImm_list rfl
  have g' : (s.heap.update D (Obj.mapSeq fun x_1 => x_1.push x)).get? D = some _ := Heap.get?_update_self _ g rfl
  exact q (vals.push x) _ _ (S'.keep g' hI) M' (by simpa using (M'.reps r).append (.cons (M'.rep rx) .nil))

noncomputable def compTurnW (C : Ora) (ρ : Rho) (tgt : Tgt) (cond : Option E) (elt : E) (v : V) (h : H) (k : Option V → H → Prop) : Prop :=
  bindT tgt v ρ fun ρ' => wpO C cond ρ' h fun b h₂ => match b with
    | true => wpE C elt ρ' h₂ fun x h₃ => k (some x) h₃
    | false => k none h₂

theorem comp_run {elt target iter : Expr} {ifs : List Expr} {scope : Scope} {pos : Pos} {elt' : E} {tgt : Tgt} {cond : Option E} {C : Ora} {d : Nat} {cx : Cx} {A : Around} {it D : Addr} {R : Result → Shared → Prop} {lim : Nat} {ρ : Rho}
    (hg : SndG p sc target tgt) (hc : SndC p sc ifs cond) (he : SndE p sc elt elt') (at' : At p sc C d cx A) (hb : Bnd lim ρ) (hlim : lim ≤ sc.lim) (hsl : ∀ i ∈ tgt.slots, lim ≤ i) (aD : Aside cx D) (aI : Aside cx it) (hne : D ≠ it)
    {ι₀ : List Addr} {s₀ : Shared} {K : List V → H → Prop}
    (fin : ∀ ι H s vals n out, Mono ι₀ s₀ ι s → St (cx.keep D (lstO vals n)) ι ρ H s → RepVs ι s.heap vals.toList out → out.length ≤ SZ → K out H → R (.ok .next) s) :
    ∀ {f : Nat} {o : Obj} {i : It} {ι : List Addr} {H : H} {s : Shared} {vals : Array Value} {n : Nat} {out : List V}, Mono ι₀ s₀ ι s → St ((cx.keep D (lstO vals n)).keep it o) ι ρ H s → ItRep ι s.heap o i → RepVs ι s.heap vals.toList out → out.length ≤ SZ →
      compN (compTurnW C ρ tgt cond elt') f i H out K →
      codeAny (model p.prog cx.w) A (.compLoop (.ListComp elt [⟨target, iter, ifs, 0⟩] scope pos) 0 (.ref it) (.ref D) cx.env) R s := by
  intro f o i ι H s vals n out M S ri ro hl h
  refine comp_loop (fun f s => ∃ (o : Obj) (i : It) (ι : List Addr) (H : Tw.H) (vals : Array Value) (n : Nat) (out : List V), Mono ι₀ s₀ ι s ∧ St ((cx.keep D (lstO vals n)).keep it o) ι ρ H s ∧ ItRep ι s.heap o i ∧ RepVs ι s.heap vals.toList out ∧ out.length ≤ SZ ∧
    compN (compTurnW C ρ tgt cond elt') f i H out K) (fun f s hI => ?_) f ⟨o, i, ι, H, vals, n, out, M, S, ri, ro, hl, h⟩
  obtain ⟨o, i, ι, H, vals, n, out, M, S, ri, ro, hl, h⟩ := hI
  cases f with
  | zero => exact h.elim
  | succ f =>
    have aI' : Aside (cx.keep D (lstO vals n)) it := aI.keep (Ne.symm hne) _
    refine mono' (next_sound (cx := cx.keep D (lstO vals n)) S aI' at'.ao.hd ri h) fun r s₁ h₁ => ?_
    cases r with
    | none =>
      obtain ⟨hk, S₁, M₁⟩ := h₁
      exact fin ι H s₁ vals n out (M.trans M₁) S₁ (M₁.reps ro) hl hk
    | some x =>
      obtain ⟨v, i', o', ht, S₁, M₁, rx, ri'⟩ := h₁
      refine owned_go (cx := cx.keep D (lstO vals n)) S₁ ri' ?_
      have at₁ := (at'.keep aD (lstO vals n)).keep aI' o'
      have hbs : Bnd sc.lim ρ := fun i hi => hb i (Nat.le_trans hlim hi)
      refine mono' (hg (cx := (cx.keep D (lstO vals n)).keep it o') at₁ S₁ hbs rx (bindT_ext ht)) fun _ s₂ ⟨ρ', M₂, S₂, hb', hout, hw⟩ => ?_
      have back : ∀ {ι' : List Addr} {H' : Tw.H} {s' : Shared} {cx' : Cx}, cx'.nm = cx'.nm → St cx' ι' ρ' H' s' → St cx' ι' ρ H' s' := fun _ S => S.rho fun x i v _ hv => by
        by_cases hm : i ∈ tgt.slots
        · have := hb i (hsl i hm); rw [this] at hv; cases hv
        · rw [hout i hm]; exact hv
      refine mono' (hc.go (cx := (cx.keep D (lstO vals n)).keep it o') at₁ S₂ hb' hw) fun b s₃ ⟨ι₃, H₃, M₃, S₃, q₃⟩ => ?_
      have M₁₃ := M₁.trans (M₂.trans M₃)
      cases b with
      | false =>
        rw [if_neg (by decide)]
        exact ⟨f, Nat.lt_succ_self _, o', i', ι₃, H₃, vals, n, out, M.trans M₁₃, back rfl S₃, ri'.mono (M₂.trans M₃).pre (M₂.trans M₃).imm, M₁₃.reps ro, hl, q₃⟩
      | true =>
        rw [if_pos rfl]
        refine mono' (he (cx := (cx.keep D (lstO vals n)).keep it o') at₁ S₃ hb' q₃) fun y s₄ ⟨vy, ι₄, H₄, M₄, S₄, ry, hlt, q₄⟩ => ?_
        have S₅ : St ((cx.keep it o').keep D (lstO vals n)) ι₄ ρ' H₄ s₄ := S₄.reP fun a ob q => by
          rcases q with (q | q) | q
          · exact .inl (.inl q)
          · exact .inr q
          · exact .inl (.inr q)
        have M₁₄ := M₁₃.trans M₄
        refine append_aside (C := C) (cx := cx.keep it o') (aD.keep hne _) S₅ (M₁₄.reps ro) ry hlt fun vals' n' s₆ S₆ M₆ r₆ => ?_
        refine ⟨f, Nat.lt_succ_self _, o', i', ι₄, H₄, vals', n', out ++ [vy], (M.trans M₁₄).trans M₆, back rfl (S₆.reP fun a ob q => ?_), ri'.mono ((M₂.trans M₃).trans (M₄.trans M₆)).pre ((M₂.trans M₃).trans (M₄.trans M₆)).imm, r₆, by simp; omega, q₄⟩
        rcases q with (q | q) | q
        · exact .inl (.inl q)
        · exact .inr q
        · exact .inl (.inr q)
end
end Tw
end

section
namespace Tw
open PySem PySem.SeqAt

section
variable {p : Pg} {sc : Sc}

theorem aside_comp {C : Ora} {d : Nat} {cx : Cx} {A : Around} {scope : Scope} (ok : CompOk sc scope) (at' : At p sc C d cx A) {h : Heap} {L b : Addr} (a : Aside cx b) (hlt : b < L) : Aside (compCx cx sc scope h L) b where
  np := fun ob q => by
    rcases q with q | ⟨_, q | ⟨x, l⟩⟩
    · exact a.np ob q
    · exact a.nl q
    · exact a.nc x b l rfl
  nl := Nat.ne_of_lt hlt
  nc := fun x c l => by
    rcases comp_cells ok at' l with ⟨_, _, h3⟩ | ⟨h1, _⟩
    · exact Nat.ne_of_gt (Nat.lt_trans hlt h3)
    · exact a.nc x c h1

theorem comp_sound {elt target iter : Expr} {ifs : List Expr} {scope : Scope} {pos pos' : Pos} {elt' iter' : E} {tgt : Tgt} {cond : Option E} {use : Option (Value → Sem Unit)}
    (hi : SndE p sc iter iter') (ok : CompOk sc scope) (hg : SndG p (compSc sc scope.names) target tgt) (hc : SndC p (compSc sc scope.names) ifs cond) (he : SndE p (compSc sc scope.names) elt elt') (hsl : ∀ i ∈ tgt.slots, sc.lim ≤ i)
    (hset : ∀ env x, foldedSetIterable iter env x = pure x)
    {C : Ora} {d : Nat} {cx : Cx} {A : Around} {ι : List Addr} {ρ : Rho} {H : H} {s : Shared} {Q : V → Tw.H → Prop} {E : Value → Shared → Prop} {R : Value → Shared → Prop}
    (at' : At p sc C d cx A) (S : St cx ι ρ H s) (hb : Bnd sc.lim ρ) (h : wpE C (.comp elt' tgt iter' cond) ρ H Q)
    (fin : use = none → ∀ val s', Post cx ι ρ s Q val s' → R val s')
    (fin' : ∀ u, use = some u → ∀ L oL ι' H' s' val v, Aside cx L → Mono ι s ι' s' → St (cx.keep L oL) ι' ρ H' s' → RepV ι' s'.heap val v → Q v H' →
      wpAny (model p.prog cx.w) A (u val) (fun _ s'' => ∃ ι'' ρ'' H'', Mono ι' s' ι'' s'' ∧ St (cx.keep L oL) ι'' ρ'' H'' s'' ∧ ∀ s₃, Mono ι'' s'' ι'' s₃ → St cx ι'' ρ'' H'' s₃ → R .none s₃) E s') :
    wpAny (model p.prog cx.w) A (comprehension (.ListComp elt [⟨target, iter, ifs, 0⟩] scope pos) scope cx.env pos' (newList []) false (eval iter cx.env) use) R E s := by
  refine wpAny_comprehension_free (use := use) rfl (hset _) (closure_is fun x hx => (at'.fit.ck x (ok.free x hx)).2) ok.kind (fun x hx e => ok.each x.1 _ (by rw [← e]; exact hx))
    (mono' (hi at' S hb h) fun x s₁ ⟨vi, ι₁, H₁, M₁, S₁, r₁, q₁⟩ => mono' (iter_sound S₁ at'.ok r₁ q₁) fun itv s₂ ⟨it, o, i, e, aI, S₂, M₂, ri, f, q₂⟩ => ?_)
  subst e
  refine wpAny_newObj_type ?_
  refine new_comp_env ?_
  have gI := S₂.kept
  have hI := S₂.keptI
  have S₂' := S₂.unkeep
  obtain ⟨f1, f2, f3, f4, f5⟩ := S₂'.fresh at'.ok (Nat.le_refl _)
  have aD : Aside cx s₂.heap.objs.size := ⟨f3, f4, f5⟩
  have hk : ∀ b ob, s₂.heap.get? b = some ob → (s₂.heap.push (lstO #[] 0)).get? b = some ob := fun _ _ e => Heap.get?_push_of_some _ e
  have gD : (s₂.heap.push (lstO #[] 0)).get? s₂.heap.objs.size = some (lstO #[] 0) := get?_fresh rfl
  have hlt : it < s₂.heap.objs.size := Heap.lt_size gI
  have hsz : (s₂.heap.push (lstO #[] 0)).objs.size = s₂.heap.objs.size + 1 := Heap.size_push ..
  have S₃ := S₂'.push (lstO #[] 0) s₂.toks
  have M₃ : Mono ι₁ s₂ ι₁ { s₂ with heap := s₂.heap.push (lstO #[] 0), toks := s₂.toks } := .ext hk
  show codeAny _ A (.compStart (.ListComp elt [⟨target, iter, ifs, 0⟩] scope pos) 0 (.ref it) (.ref s₂.heap.objs.size) (compCx cx sc scope (s₂.heap.push (lstO #[] 0)) (s₂.heap.push (lstO #[] 0)).objs.size).env)
    (compPost _ A E use R (.ref s₂.heap.objs.size) (s₂.heap.push (lstO #[] 0)).objs.size) { s₂ with heap := pushCells ((s₂.heap.push (lstO #[] 0)).push { cls := .type "dict", data := .dict #[] }) scope.names }
  generalize hD : s₂.heap.objs.size = D at *
  generalize hH3 : s₂.heap.push (lstO #[] 0) = h₃ at *
  have S₄ := comp_st ok at' S₃ hb
  have at₄ := comp_at ok at' S₃
  have hk₄ : ∀ b ob, h₃.get? b = some ob → (pushCells (h₃.push { cls := .type "dict", data := .dict #[] }) scope.names).get? b = some ob := fun b ob e => pushCells_keeps _ _ b ob (Heap.get?_push_of_some _ e)
  have M₄ : Mono ι₁ { s₂ with heap := h₃, toks := s₂.toks } ι₁ { s₂ with heap := pushCells (h₃.push { cls := .type "dict", data := .dict #[] }) scope.names, toks := s₂.toks } := .ext hk₄
  dsimp only at S₄ at₄
  have hDL : D < h₃.objs.size := by rw [hsz]; exact Nat.lt_succ_self _
  have hIL : it < h₃.objs.size := Nat.lt_trans hlt hDL
  have aI₄ : Aside (compCx cx sc scope h₃ h₃.objs.size) it := aside_comp ok at' aI hIL
  have aD₄ : Aside (compCx cx sc scope h₃ h₃.objs.size) D := aside_comp ok at' aD hDL
  have hne : D ≠ it := Nat.ne_of_gt hlt
  have S₅ := (S₄.keep (hk₄ _ _ gD) f1).keep (hk₄ _ _ (hk _ _ gI)) hI
  obtain ⟨_, hlow, hP, hL, hc5⟩ := S₃.fresh at'.ok (a := h₃.objs.size) (Nat.le_refl _)
  have aL : Aside cx h₃.objs.size := ⟨hP, hL, hc5⟩
  have run := comp_run (R := compPost (model p.prog cx.w) A E use R (.ref D) h₃.objs.size) (iter := iter) (scope := scope) (pos := pos) hg hc he at₄ hb (Nat.le_add_right _ _) hsl aD₄ aI₄ hne
    (ι₀ := ι₁) (s₀ := { s₂ with heap := h₃, toks := s₂.toks }) (K := fun out h₂ => Q (.ref h₂.length) (h₂ ++ [MO.list out])) (fun ι₆ H₆ s₆ vals n out M₆ S₆ ro hl hq => ?_)
    (f := f) M₄ S₅ (ri.mono (M₃.trans M₄).pre (M₃.trans M₄).imm) (vals := #[]) (n := 0) (out := []) .nil (Nat.zero_le _) q₂
  · exact codeAny_compStart_list run (iter_self (cx := (compCx cx sc scope h₃ h₃.objs.size).keep D _) S₅ (ri.mono (M₃.trans M₄).pre (M₃.trans M₄).imm) run)
  · have gD₆ := S₆.kept
    have hI₆ := S₆.keptI
    have S₇ := S₃.back S₆.unkeep.wd M₆
    have S₈ := S₇.alloc (o := .list out) ⟨vals, n, gD₆, ro, hl⟩ hI₆ f2 f3 f4 f5
    have M₈ : Mono ι₆ s₆ (ι₆ ++ [D]) s₆ := ⟨List.prefix_append _ _, .refl _⟩
    have Mall := M₁.trans (M₂.trans (M₃.trans (M₆.trans M₈)))
    have rD : RepV (ι₆ ++ [D]) s₆.heap (.ref D) (.ref H₆.length) := .ref (by rw [← S₇.len]; simp)
    obtain ⟨m, hn⟩ := S₆.ns
    have hnI : h₃.objs.size ∉ ι₆ ++ [D] := fun hm => by
      rcases List.mem_append.mp hm with hm | hm
      · exact S₆.nsI hm
      · simp at hm; exact absurd hm (Nat.ne_of_gt hDL)
    have hni : ∀ ob, s₆.heap.get? h₃.objs.size = some ob → ¬ isImm ob := Ns.notImm hn
    cases use with
    | none =>
      refine ⟨m, hn, fun h' hsb => ?_⟩
      obtain ⟨S₉, M₉⟩ := S₈.but aL hnI s₆.toks hsb.extBut hni
      exact fin rfl _ _ ⟨.ref H₆.length, _, _, Mall.trans M₉, S₉, M₉.rep rD, hq⟩
    | some u =>
      obtain ⟨oL, gL⟩ := Ns.obj hn
      refine mono' (fin' u rfl h₃.objs.size oL _ _ s₆ (.ref D) (.ref H₆.length) aL Mall (S₈.keep gL hnI) rD hq) fun _ s₇ ⟨ι₇, ρ₇, H₇, M₇, S₉, hR⟩ => ?_
      have gL₇ := S₉.kept
      have hn₇ : s₇.heap.Ns h₃.objs.size m := hn.at' fun o e => by rw [gL] at e; cases e; exact gL₇
      refine ⟨m, hn₇, fun h' hsb => ?_⟩
      obtain ⟨S₁₀, M₁₀⟩ := S₉.unkeep.but aL S₉.keptI s₇.toks hsb.extBut (Ns.notImm hn₇)
      exact hR _ M₁₀ S₁₀

theorem snd_comp {elt target iter : Expr} {ifs : List Expr} {scope : Scope} {pos : Pos} {elt' iter' : E} {tgt : Tgt} {cond : Option E}
    (hi : SndE p sc iter iter') (ok : CompOk sc scope) (hg : SndG p (compSc sc scope.names) target tgt) (hc : SndC p (compSc sc scope.names) ifs cond) (he : SndE p (compSc sc scope.names) elt elt') (hsl : ∀ i ∈ tgt.slots, sc.lim ≤ i)
    (hset : ∀ env x, foldedSetIterable iter env x = pure x) : SndE p sc (.ListComp elt [⟨target, iter, ifs, 0⟩] scope pos) (.comp elt' tgt iter' cond) := fun at' S hb h =>
  comp_sound (use := none) hi ok hg hc he hsl hset at' S hb h (fun _ _ _ P => P) fun u e => nomatch e
end
end Tw
end

section
namespace Tw
open PySem PySem.SeqAt

section
variable {p : Pg} {sc : Sc}

theorem sndB_nil : SndB p sc [] [] := fun at' S hb h => wpAny_execs_nil ⟨.next, _, _, _, .refl _ _, S, hb, trivial, h⟩
theorem sndB_cons {e : Stmt} {es : List Stmt} {e' : S} {es' : List S} (h1 : SndS p sc e e') (h2 : SndB p sc es es') : SndB p sc (e :: es) (e' :: es') := fun at' S hb h => by
  refine wpAny_execs_cons (mono' (h1 at' S hb h) fun f s₁ ⟨o, ρ₁, ι₁, H₁, M₁, S₁, hb₁, ho, q₁⟩ => ?_)
  cases o with
  | next =>
    cases f with
    | next => exact mono' (h2 at' S₁ hb₁ q₁) fun _ _ P => P.after M₁
    | _ => exact ho.elim
  | ret v =>
    cases f with
    | ret val => exact ⟨.ret v, ρ₁, ι₁, H₁, M₁, S₁, hb₁, ho, q₁⟩
    | _ => exact ho.elim

theorem snd_ret {e : Expr} {e' : E} {pos : Pos} (h1 : SndE p sc e e') : SndS p sc (.Return (some e) pos) (.ret (some e')) := fun at' S hb h =>
  wpAny_Return_some (mono' (h1 at' S hb h) fun val s₁ ⟨v, ι₁, H₁, M₁, S₁, r, q⟩ => ⟨.ret v, _, ι₁, H₁, M₁, S₁, hb, r, q⟩)
theorem snd_ret0 {pos : Pos} : SndS p sc (.Return none pos) (.ret none) := fun at' S hb h => wpAny_Return_none ⟨.ret .none, _, _, _, .refl _ _, S, hb, .none, h⟩
theorem snd_raise {e : Stmt} : SndS p sc e .raise := fun _ _ _ h => h.elim

theorem snd_expr {e : Expr} {e' : E} {pos : Pos} (h1 : SndE p sc e e') (hs : ∀ env l, swapsWith e none l env = pure false) : SndS p sc (.Expr e pos) (.expr e') := fun {C d cx A ι ρ H s Q E} at' S hb h => by
  have hi : interactive cx.env = false := by unfold interactive; rw [at'.ok.fn]; rfl
  rw [exec_Expr cx.env e pos hi (hs _ _)]
  exact wpAny_bind (wpAny_standAt (wpAny_bind (mono' (h1 at' S hb h) fun val s₁ ⟨v, ι₁, H₁, M₁, S₁, r, q⟩ => wpAny_dropValue ⟨.next, _, ι₁, H₁, M₁, S₁, hb, trivial, q⟩)))

theorem snd_ite {t : Expr} {a b : List Stmt} {pos : Pos} {t' : E} {a' b' : List S} (h1 : SndT p sc t t') (h2 : SndB p sc a a') (h3 : SndB p sc b b') : SndS p sc (.If t a b pos) (.ite t' a' b') := fun at' S hb h => by
  refine wpAny_If (mono' (h1 at' S hb h) fun c s₁ ⟨ι₁, H₁, M₁, S₁, q₁⟩ => ?_)
  cases c with
  | true => exact mono' (h2 at' S₁ hb q₁) fun _ _ P => P.after M₁
  | false => exact mono' (h3 at' S₁ hb q₁) fun _ _ P => P.after M₁

/-! assignments -/
theorem snd_store {o i e : Expr} {pos pos' : Pos} {o' i' e' : E} (h1 : SndE p sc e e') (h2 : SndE p sc o o') (h3 : SndE p sc i i') (hs : ∀ env l t, swapsWith e (some t) l env = pure false) :
    SndS p sc (.Assign [.Subscript o i pos'] e pos) (.store o' i' e') := fun at' S hb h => by
  refine wpAny_Assign_Subscript (mono' (h1 at' S hb h) fun x s₁ ⟨v, ι₁, H₁, M₁, S₁, r₁, q₁⟩ => mono' (h2 at' S₁ hb q₁) fun y s₂ ⟨vo, ι₂, H₂, M₂, S₂, r₂, q₂⟩ => mono' (h3 at' S₂ hb q₂) fun z s₃ ⟨vi, ι₃, H₃, M₃, S₃, r₃, q₃⟩ => ?_) (hs _ _ _)
  exact mono' (store_sound S₃ at'.ao.u (M₃.rep r₂) r₃ ((M₂.trans M₃).rep r₁) q₃) fun _ s₄ ⟨H₄, M₄, S₄, q₄⟩ => ⟨.next, _, ι₃, H₄, M₁.trans (M₂.trans (M₃.trans M₄)), S₄, hb, trivial, q₄⟩
theorem snd_assign_tup {es : List Expr} {k : Nat} {tp pos : Pos} {e : Expr} {e' : E} {tgt : Tgt} (h1 : SndE p sc e e') (h2 : SndG p sc (.Tuple es k tp) tgt) (hs : ∀ env l t, swapsWith e (some t) l env = pure false) (hw : ∀ env, swappedStores [.Tuple es k tp] e env = pure none) :
    SndS p sc (.Assign [.Tuple es k tp] e pos) (.assign tgt e') := fun {C d cx A ι ρ H s Q E} at' S hb h => by
  refine wpAny_Assign_stores (mono' (h1 at' S hb h) fun x s₁ ⟨v, ι₁, H₁, M₁, S₁, r₁, q₁⟩ => ?_) (hs cx.env pos.line (.Tuple es k tp)) (hw _)
  show wpAny _ _ (assign (.Tuple es k tp) _ x) _ _ _
  exact mono' (h2 at' S₁ hb r₁ q₁) fun _ s₂ ⟨ρ', M₂, S₂, hb', q₂⟩ => ⟨.next, ρ', ι₁, H₁, M₁.trans M₂, S₂, hb', trivial, q₂⟩
theorem snd_assign {x : Str} {i : Nat} {xp pos : Pos} {e : Expr} {e' : E} (h1 : SndE p sc e e') (hx : sc.nm x = some i) (hst : sc.st x = true) (hs : ∀ env l t, swapsWith e (some t) l env = pure false) :
    SndS p sc (.Assign [.Name x xp] e pos) (.assign (.name i) e') := fun at' S hb h => by
  refine wpAny_Assign_Name (mono' (h1 at' S hb h) fun val s₁ ⟨v, ι₁, H₁, M₁, S₁, r₁, q₁⟩ => ?_) (hs _ _ _)
  exact store_name hx hst at' S₁ hb r₁ fun s₂ M₂ S₂ hb₂ => ⟨.next, _, ι₁, H₁, M₁.trans M₂, S₂, hb₂, trivial, q₁⟩
theorem snd_assign_comp {x : Str} {i : Nat} {xp ap : Pos} {elt target iter : Expr} {ifs : List Expr} {scope : Scope} {pos : Pos} {elt' iter' : E} {tgt : Tgt} {cond : Option E} (hx : sc.nm x = some i) (hst : sc.st x = true)
    (hi : SndE p sc iter iter') (ok : CompOk sc scope) (hg : SndG p (compSc sc scope.names) target tgt) (hc : SndC p (compSc sc scope.names) ifs cond) (he : SndE p (compSc sc scope.names) elt elt') (hsl : ∀ i ∈ tgt.slots, sc.lim ≤ i)
    (hset : ∀ env x, foldedSetIterable iter env x = pure x) : SndS p sc (.Assign [.Name x xp] (.ListComp elt [⟨target, iter, ifs, 0⟩] scope pos) ap) (.assign (.name i) (.comp elt' tgt iter' cond)) := fun {C d cx A ι ρ H s Q E} at' S hb h => by
  have h : wpE C (.comp elt' tgt iter' cond) ρ H (fun v h₁ => Q .next (upd ρ i v) h₁) := h
  have hsw : ∃ b, swapsWith (.ListComp elt [⟨target, iter, ifs, 0⟩] scope pos) (some (.Name x xp)) ap.line cx.env = pure b := ⟨_, rfl⟩
  obtain ⟨b, hsw⟩ := hsw
  cases b with
  | false =>
    refine wpAny_Assign_Name (mono' (snd_comp hi ok hg hc he hsl hset at' S hb h) fun val s₁ ⟨v, ι₁, H₁, M₁, S₁, r₁, q₁⟩ => ?_) hsw
    exact store_name hx hst at' S₁ hb r₁ fun s₂ M₂ S₂ hb₂ => ⟨.next, _, ι₁, H₁, M₁.trans M₂, S₂, hb₂, trivial, q₁⟩
  | true =>
    rw [exec_Assign_Name_used _ _ _ _ hsw]
    refine wpAny_bind (wpAny_standAt (wpAny_bind ?_))
    show wpAny _ A (do let _ ← comprehension (.ListComp elt [⟨target, iter, ifs, 0⟩] scope pos) scope cx.env _ (newList []) false (eval iter cx.env) (some (assign (.Name x xp) cx.env))) _ _ s
    refine wpAny_bind (mono' (comp_sound (use := some (assign (.Name x xp) cx.env)) (R := fun _ s' => PostS sc cx ι s Q .next s') hi ok hg hc he hsl hset at' S hb h (fun e => nomatch e) fun u eu L oL ι' H' s' val v aL M' S' r' q' => ?_) fun _ s' hq => wpAny_pure (wpAny_pure hq))
    cases eu
    refine wpAny_assign_Name (store_name (cx := cx.keep L oL) hx hst (at'.keep aL oL) S' hb r' fun s₂ M₂ S₂ hb₂ => ?_)
    exact ⟨ι', _, H', M₂, S₂, fun s₃ M₃ S₃ => ⟨.next, _, ι', H', (M'.trans M₂).trans M₃, S₃, hb₂, trivial, q'⟩⟩

/-! loops -/
theorem snd_while {t : Expr} {b : List Stmt} {pos : Pos} {t' : E} {b' : List S} (h1 : SndT p sc t t') (h2 : SndB p sc b b') : SndS p sc (.While t b [] pos) (.while t' b') := fun {C d cx A ι ρ H s Q E} at' S hb h => by
  obtain ⟨f, h⟩ := h
  refine wpAny_While (codeAny_whileLoop (fun f s' => ∃ ι' ρ' H', Mono ι s ι' s' ∧ St cx ι' ρ' H' s' ∧ Bnd sc.lim ρ' ∧ whileN (fun ρ h k => wpT C t' ρ h k) (fun ρ h k => wpB C b' ρ h k) f ρ' H' Q) (fun f s₁ hI => ?_) f ⟨ι, ρ, H, .refl _ _, S, hb, h⟩)
  obtain ⟨ι₁, ρ₁, H₁, M₁, S₁, hb₁, h⟩ := hI
  cases f with
  | zero => exact h.elim
  | succ f =>
    refine mono' (h1 at' S₁ hb₁ h) fun c s₂ ⟨ι₂, H₂, M₂, S₂, q₂⟩ => ?_
    cases c with
    | false =>
      rw [if_neg (by decide)]
      exact wpAny_execs_nil ⟨.next, ρ₁, ι₂, H₂, M₁.trans M₂, S₂, hb₁, trivial, q₂⟩
    | true =>
      rw [if_pos rfl]
      refine mono' (h2 at' S₂ hb₁ q₂) fun fl s₃ ⟨o, ρ₃, ι₃, H₃, M₃, S₃, hb₃, ho, q₃⟩ => ?_
      have M₄ := M₁.trans (M₂.trans M₃)
      cases o with
      | next =>
        cases fl with
        | next => exact ⟨f, Nat.lt_succ_self _, ι₃, ρ₃, H₃, M₄, S₃, hb₃, q₃⟩
        | _ => exact ho.elim
      | ret v =>
        cases fl with
        | ret val => exact ⟨.ret v, ρ₃, ι₃, H₃, M₄, S₃, hb₃, ho, q₃⟩
        | _ => exact ho.elim

theorem snd_for {t it : Expr} {b : List Stmt} {pos : Pos} {tgt : Tgt} {it' : E} {b' : List S} (h1 : SndE p sc it it') (hg : SndG p sc t tgt) (h2 : SndB p sc b b') (hset : ∀ env x, foldedSetIterable it env x = pure x) :
    SndS p sc (.For t it b [] pos) (.for tgt it' b') := fun {C d cx A ι ρ H s Q E} at' S hb h => by
  refine wpAny_For (mono' (h1 at' S hb h) fun x s₁ ⟨vi, ι₁, H₁, M₁, S₁, r₁, q₁⟩ => mono' (iter_sound S₁ at'.ok r₁ q₁) fun itv s₂ ⟨I, o, i, e, aI, S₂, M₂, ri, f, q₂⟩ => ?_) (hset _)
  subst e
  refine codeAny_forLoop_any (fun f s' => ∃ o i ι' ρ' H', Mono ι s ι' s' ∧ St (cx.keep I o) ι' ρ' H' s' ∧ Bnd sc.lim ρ' ∧ ItRep ι' s'.heap o i ∧ forN (fun v ρ h k => bindT tgt v ρ fun ρ' => wpB C b' ρ' h k) f i ρ' H' Q) (fun f s₁ hI => ?_) f
    ⟨o, i, ι₁, ρ, H₁, M₁.trans M₂, S₂, hb, ri, q₂⟩
  obtain ⟨o, i, ι₁, ρ₁, H₁, M₁, S₁, hb₁, ri, h⟩ := hI
  cases f with
  | zero => exact h.elim
  | succ f =>
    refine mono' (next_sound S₁ aI at'.ao.hd ri h) fun r s₂ h₂ => ?_
    cases r with
    | none =>
      obtain ⟨hq, S₂, M₂⟩ := h₂
      exact wpAny_execs_nil ⟨.next, ρ₁, ι₁, H₁, M₁.trans M₂, S₂, hb₁, trivial, hq⟩
    | some x =>
      obtain ⟨v, i', o', ht, S₂, M₂, rx, ri'⟩ := h₂
      refine owned_go S₂ ri' ?_
      have at₁ := at'.keep aI o'
      refine mono' (hg (cx := cx.keep I o') at₁ S₂ hb₁ rx ht) fun _ s₃ ⟨ρ₃, M₃, S₃, hb₃, hw⟩ => ?_
      refine mono' (h2 (cx := cx.keep I o') at₁ S₃ hb₃ hw) fun fl s₄ ⟨o₄, ρ₄, ι₄, H₄, M₄, S₄, hb₄, ho, q₄⟩ => ?_
      have M₅ := M₁.trans (M₂.trans (M₃.trans M₄))
      cases o₄ with
      | next =>
        cases fl with
        | next => exact ⟨f, Nat.lt_succ_self _, o', i', ι₄, ρ₄, H₄, M₅, S₄, hb₄, ri'.mono (M₃.trans M₄).pre (M₃.trans M₄).imm, q₄⟩
        | _ => exact ho.elim
      | ret v =>
        cases fl with
        | ret val => exact ⟨.ret v, ρ₄, ι₄, H₄, M₅, S₄.unkeep, hb₄, ho, q₄⟩
        | _ => exact ho.elim
end
end Tw
end

section
namespace Tw
open PySem PySem.SeqAt

noncomputable def sc0 : Sc := ⟨fun _ => none, fun _ => false, fun _ => false, fun _ => false, 0⟩
/-- the names that a function sees -/
noncomputable def fnSc (names : Nms) : Sc := compSc sc0 names

structure FnOk (p : Pg) (f : FnRec) (fn : Fn) : Prop where
  params : ∃ args, f.params = ⟨[], args, none, [], [], none, []⟩ ∧ (args.map (·.arg)).Nodup ∧ fn.arity = args.length ∧ (∀ (i : Nat) x, (args.map (·.arg))[i]? = some x → (fnSc f.scope.names).nm x = some i)
  kind : f.scope.kind = .function
  co : f.scope.isCoroutine = false
  gen : f.scope.isGenerator = false
  each : ∀ x k, (x, k) ∈ f.scope.names → f.scope.names.lookup x = some k
  plain : ∀ x k, (x, k) ∈ f.scope.names → plainName x = true
  free : ∀ x, (x, NameKind.free) ∉ f.scope.names
  body : SndB p (fnSc f.scope.names) f.body fn.body

theorem zip_lookup : ∀ {names : List Str} {vals : List Value}, names.Nodup → names.length = vals.length → ∀ x ∈ names, ((names.zip vals).lookup x).isSome = true
  | [], _, _, _, x, h => by simp at h
  | n :: r, [], _, hl, _, _ => by simp at hl
  | n :: r, v :: vs, hn, hl, x, h => by
    simp only [List.zip_cons_cons, List.lookup_cons]
    cases hx : x == n with
    | true => rfl
    | false =>
      rcases List.mem_cons.mp h with e | h
      · subst e; simp at hx
      · exact zip_lookup (List.nodup_cons.mp hn).2 (by simpa using hl) x h
theorem filterMap_eq {α β : Type} {f g : α → Option β} : ∀ {l : List α}, (∀ x ∈ l, f x = g x) → l.filterMap f = l.filterMap g
  | [], _ => rfl
  | a :: r, h => by rw [List.filterMap_cons, List.filterMap_cons, h a List.mem_cons_self, filterMap_eq fun x hx => h x (List.mem_cons_of_mem _ hx)]
theorem filter_zip : ∀ {names : List Str} {vals : List Value}, names.Nodup → names.length = vals.length → names.filterMap (fun n => ((names.zip vals).lookup n).map (n, ·)) = names.zip vals
  | [], _, _, _ => by simp
  | n :: r, [], _, hl => by simp at hl
  | n :: r, v :: vs, hn, hl => by
    obtain ⟨h1, h2⟩ := List.nodup_cons.mp hn
    have ih := filter_zip h2 (vals := vs) (by simpa using hl)
    rw [List.zip_cons_cons, List.filterMap_cons]
    simp only [List.lookup_cons, beq_self_eq_true, Option.map_some]
    congr 1
    refine Eq.trans ?_ ih
    exact filterMap_eq fun x hx => by
      have : (x == n) = false := beq_eq_false_iff_ne.mpr fun (e : x = n) => h1 (e ▸ hx)
      rw [this]

theorem bind_rfl {α β : Type} {m : Sem α} {a : α} {f : α → Sem β} (h : m = pure a) : (m >>= f) = f a := by rw [h, pure_bind]
theorem bind_plain {name : Str} {args : List Arg} {body : List Stmt} {scope : Scope} {pm code doc : Value} {vals : List Value} (hn : (args.map (·.arg)).Nodup) (hl : args.length = vals.length) :
    bindArgs (Calls.docDef name ⟨[], args, none, [], [], none, []⟩ body scope pm code doc) ⟨vals, []⟩ = pure ((args.map (·.arg)).zip vals) := by
  have hl' : (args.map (·.arg)).length = vals.length := by simpa using hl
  have hmiss : List.filter (fun n => (List.lookup n ((args.map (·.arg)).zip vals)).isNone) ((args.map (·.arg)).take (args.map (·.arg)).length) = [] := by
    rw [List.take_length, List.filter_eq_nil_iff]
    intro x hx
    have := zip_lookup hn hl' x hx
    simpa using Option.isSome_iff_ne_none.mp this
  have h1 : (decide (vals.length > (args.map (·.arg)).length) && (none : Option Arg).isNone) = false := by simp [hl']
  have hd : ((args.map (·.arg)).drop (args.map (·.arg)).length).zip ([] : List Value) = [] := by rw [List.drop_length]; rfl
  have hf := filter_zip hn hl'
  unfold bindArgs
  refine (bind_rfl rfl).trans ?_
  refine (bind_rfl rfl).trans ?_
  refine (if_neg (show ¬ (decide (vals.length > (args.map (·.arg)).length) && (none : Option Arg).isNone) = true by rw [h1]; exact Bool.false_ne_true)).trans ?_
  refine (if_neg ?a).trans ?_
  case a =>
    show ¬ (!(List.filter (fun n => (List.lookup n ((args.map (·.arg)).zip vals)).isNone) ((args.map (·.arg)).take ((args.map (·.arg)).length - (List.drop (0 - (args.map (·.arg)).length) ([] : List Value)).length))).isEmpty) = true
    rw [List.drop_nil, List.length_nil, Nat.sub_zero, hmiss]; exact Bool.false_ne_true
  refine (bind_rfl (a := (args.map (·.arg)).zip vals) ?a).trans ?_
  case a =>
    show forIn (((args.map (·.arg)).drop ((args.map (·.arg)).length - (List.drop (0 - (args.map (·.arg)).length) ([] : List Value)).length)).zip (List.drop (0 - (args.map (·.arg)).length) ([] : List Value))) _ _ = _
    rw [List.drop_nil, List.length_nil, Nat.sub_zero, hd]; rfl
  refine (bind_rfl rfl).trans ?_
  refine congrArg pure ?_
  show List.filterMap (fun n => Option.map (fun x => (n, x)) (List.lookup n ((args.map (·.arg)).zip vals))) (args.map (·.arg) ++ []) = _
  rw [List.append_nil]; exact hf

theorem bindL_out {kindOf : Str → Option NameKind} : ∀ {binds : List (Str × Value)} {m : Str → Option Value} {x : Str}, x ∉ binds.map (·.1) → bindL kindOf binds m x = m x ∧ bindC kindOf binds m x = m x
  | [], _, _, _ => ⟨rfl, rfl⟩
  | (n, v) :: r, m, x, h => by
    simp at h
    have hx : ∀ z, (x, z) ∉ r := by simpa using h.2
    have ih := fun m => bindL_out (kindOf := kindOf) (binds := r) (m := m) (x := x) (by simpa using h.2)
    unfold bindL bindC
    refine ⟨(ih _).1.trans ?_, (ih _).2.trans ?_⟩ <;> split <;> simp [h.1]
theorem bind_at {kindOf : Str → Option NameKind} : ∀ {binds : List (Str × Value)} {m : Str → Option Value} {x : Str} {v : Value}, (binds.map (·.1)).Nodup → (x, v) ∈ binds →
    (kindOf x = some .local → bindL kindOf binds m x = some v) ∧ (kindOf x ≠ some .local → bindC kindOf binds m x = some v)
  | [], _, _, _, _, h => by simp at h
  | (n, w) :: r, m, x, v, hn, h => by
    simp only [List.map_cons, List.nodup_cons] at hn
    unfold bindL bindC
    rcases List.mem_cons.mp h with e | h
    · cases e
      refine ⟨fun hk => ?_, fun hk => ?_⟩
      · rw [(bindL_out hn.1).1, if_pos hk]; simp
      · rw [(bindL_out hn.1).2, if_neg hk]; simp
    · exact ⟨(bind_at hn.2 h).1, (bind_at hn.2 h).2⟩

section
variable {p : Pg} {w : World} {P : Addr → Obj → Prop} {s0 : Shared} {scr : Addr} {ι : List Addr} {H : H} {s : Shared} {f : FnRec} {fn : Fn}

noncomputable def callCx (w : World) (P : Addr → Obj → Prop) (s0 : Shared) (scr : Addr) (fd : FuncData) (L a : Addr) : Cx where
  w := w
  env := callEnvC fd L a
  nm := (fnSc fd.scope.names).nm
  st := (fnSc fd.scope.names).st
  P := P
  s0 := s0
  scr := scr

theorem fn_slot {names : Nms} {x : Str} {i : Nat} (h : (fnSc names).nm x = some i) : ∃ k, names.lookup x = some k ∧ (k = .local ∨ k = .cell) ∧ i < names.length := by
  obtain ⟨k, l, h⟩ := slotOf_spec h
  rcases h with ⟨h, _, h3⟩ | ⟨_, h⟩
  · exact ⟨k, l, h, by simpa [sc0] using h3⟩
  · cases h
theorem call_has {fd : FuncData} {L a : Addr} {x : Str} (h : (x, NameKind.cell) ∈ fd.scope.names) : ∃ c, (callEnvC fd L a).cells.lookup x = some c := by
  obtain ⟨c, hc⟩ := cellsFrom_has fd.scope.names (L + 1) x h
  exact lookup_of_mem hc

theorem call_cxok (ok : FnOk p f fn) (G : Gd p.G p.T s0 scr) (hP : ∀ a o, s0.heap.get? a = some o → a ≠ scr → P a o) (W : Wd w P s0 scr ι H s) {pm code doc : Value} {a : Addr}
    (hap : (cellsFrom (s.heap.objs.size + 1) f.scope.names []).Pairwise fun x y => x.2 ≠ y.2) : CxOk (callCx w P s0 scr (Calls.docDef f.name f.params f.body f.scope pm code doc) s.heap.objs.size a) where
  fn := ok.kind
  gl := rfl
  bl := rfl
  inj := fun x y i hx hy => slotOf_inj (b0 := 0) (fun x y i h => by simp [sc0] at h) (fun x i h => by simp [sc0] at h) (Nat.le_refl _) hx hy
  kinds := fun x i hx => by
    obtain ⟨k, l, h, _⟩ := fn_slot hx
    rcases h with rfl | rfl
    · exact .inl l
    · exact .inr ⟨.inl l, call_has (mem_of_lookup l)⟩
  plain := fun x i hx => by
    obtain ⟨k, l, h, _⟩ := fn_slot hx
    have := ok.plain x k (mem_of_lookup l)
    simpa [plainName] using this
  cinj := fun x y c hx hy => name_of_addr hap (mem_of_lookup hx) (mem_of_lookup hy)
  own := fun x c o _ _ l q => by
    have h3 := (cellsFrom_of _ _ _ _ (mem_of_lookup l)).2
    exact absurd (Heap.lt_size (W.prot c o q)) (Nat.not_lt.mpr (Nat.le_of_succ_le h3))
  loc := fun o q => Nat.lt_irrefl _ (Heap.lt_size (W.prot _ o q))
  base := hP
  lowL := by
    obtain ⟨o, g, hne⟩ := G.low
    exact Heap.lt_size (W.prot _ o (hP _ o g hne))
theorem call_fit (w : World) (P : Addr → Obj → Prop) (s0 : Shared) (scr : Addr) (fd : FuncData) (L a : Addr) (hf : ∀ x, (x, NameKind.free) ∉ fd.scope.names) : Fit (fnSc fd.scope.names) (callCx w P s0 scr fd L a) where
  nm := fun _ => rfl
  st := fun _ => rfl
  gk := fun x hx => by
    simp [fnSc, compSc, plainName] at hx
    exact ⟨hx.1, by simpa using hx.2.1⟩
  ck := fun x hx => by
    simp [fnSc, compSc] at hx
    rcases hx with hx | hx
    · exact ⟨.inl hx, call_has (mem_of_lookup hx)⟩
    · exact absurd (mem_of_lookup hx) (hf x)
  stk := fun x hx => by
    simp [fnSc, compSc] at hx
    exact hx
  lim := fun x i hx => by
    obtain ⟨k, l, h, h2⟩ := fn_slot hx
    simpa [fnSc, compSc, sc0] using h2

theorem call_st (ok : FnOk p f fn) (G : Gd p.G p.T s0 scr) (hP : ∀ a o, s0.heap.get? a = some o → a ≠ scr → P a o) (W : Wd w P s0 scr ι H s) {pm code doc : Value} {a : Addr} {names : List Str} {vals : List Value} {vs : List V} {s₁ : Shared}
    (hn : names.Nodup) (hl : names.length = vals.length) (hsl : ∀ (i : Nat) x, names[i]? = some x → (fnSc f.scope.names).nm x = some i) (r : RepVs ι s.heap vals vs) {fd : FuncData} (hfd : fd = Calls.docDef f.name f.params f.body f.scope pm code doc)
    (I : InCallC s (callEnvC fd s.heap.objs.size a).locals (bindL (callEnvC fd s.heap.objs.size a).kindOf (names.zip vals) fun _ => none) (callEnvC fd s.heap.objs.size a).cells (bindC (callEnvC fd s.heap.objs.size a).kindOf (names.zip vals) fun _ => none) s₁) :
    St (callCx w P s0 scr fd s.heap.objs.size a) ι (argsR vs) H s₁ ∧ Mono ι s ι s₁ := by
  have hk := I.toInCall.keep
  have hsc : fd.scope = f.scope := by rw [hfd]; rfl
  have fr : ∀ c, s.heap.objs.size ≤ c → c ∉ ι := fun c hc hm => by
    obtain ⟨n, hn⟩ := List.mem_iff_getElem?.mp hm
    have hlt : n < H.length := W.len ▸ (List.getElem?_eq_some_iff.mp hn).1
    obtain ⟨ob, g, _⟩ := (W.objs n c _ hn (List.getElem?_eq_getElem hlt)).get
    exact absurd (Heap.lt_size g) (Nat.not_lt.mpr hc)
  have hmap : (names.zip vals).map (·.1) = names := by rw [List.map_fst_zip]; omega
  refine ⟨?_, ⟨List.prefix_refl _, .of_ext hk⟩⟩
  exact {
    same := by
      obtain ⟨h, tk, e⟩ := I.toInCall.same
      obtain ⟨h', tk', e'⟩ := W.same
      exact ⟨h, tk, by rw [e]; subst e'; rfl⟩
    len := W.len
    nodup := W.nodup
    objs := fun n b o hb ho => (W.objs n b o hb ho).mono (List.prefix_refl _) (.of_ext hk) (hk _)
    low := W.low
    scr := fun o e => hk _ _ (W.scr o e)
    scrI := W.scrI
    scrIn := W.scrIn
    prot := fun b o q => hk _ _ (W.prot b o q)
    protI := W.protI
    ns := ⟨_, I.toInCall.ns⟩
    nsI := fr _ (Nat.le_refl _)
    cells := fun x c l => by
      have h3 := I.above x c (mem_of_lookup l)
      exact ⟨⟨_, I.cell x c l⟩, fr c (Nat.le_of_lt h3), Nat.ne_of_gt h3⟩
    vars := fun x i v hx hv => by
      have hx' : (fnSc f.scope.names).nm x = some i := by rw [← hsc]; exact hx
      obtain ⟨k, l, hk2, _⟩ := fn_slot hx'
      have hv' : vs[i]? = some v := hv
      obtain ⟨val, hval, rv⟩ := r.get hv'
      have hi : i < names.length := by rw [hl]; exact (List.getElem?_eq_some_iff.mp hval).1
      have e1 := hsl i names[i] (List.getElem?_eq_getElem hi)
      have e2 : names[i] = x := slotOf_inj (b0 := 0) (fun x y i h => by simp [sc0] at h) (fun x i h => by simp [sc0] at h) (Nat.le_refl _) e1 hx'
      have hm : (x, val) ∈ names.zip vals := by
        refine List.mem_iff_getElem?.mpr ⟨i, ?_⟩
        rw [List.getElem?_zip_eq_some]
        exact ⟨by rw [List.getElem?_eq_getElem hi, e2], hval⟩
      have hb := bind_at (kindOf := (callEnvC fd s.heap.objs.size a).kindOf) (m := fun _ => none) (by rw [hmap]; exact hn) hm
      have hko : (callEnvC fd s.heap.objs.size a).kindOf x = some k := by show fd.scope.names.lookup x = some k; rw [hsc]; exact l
      refine ⟨val, ?_, rv.mono (List.prefix_refl _) (.of_ext hk)⟩
      rcases hk2 with rfl | rfl
      · exact .inl ⟨hko, _, I.toInCall.ns, hb.1 hko⟩
      · obtain ⟨c, lc⟩ := call_has (L := s.heap.objs.size) (a := a) (fd := fd) (x := x) (by rw [hsc]; exact mem_of_lookup l)
        have hc := I.cell x c lc
        rw [hb.2 (by rw [hko]; decide)] at hc
        exact .inr ⟨.inl hko, c, lc, hc⟩ }
end

/-- all functions of the table -/
noncomputable def TabOk (p : Pg) (Φ : Nat → Option Fn) : Prop := ∀ k f fn, p.T k = some f → Φ k = some fn → FnOk p f fn

theorem calls_ok {p : Pg} {Φ : Nat → Option Fn} (ok : TabOk p Φ) (d : Nat) : CallOk p.prog p.G p.T (Calls Φ d) d := by
  induction d with
  | zero => intro w P s0 scr ι H s A k f a vals vs Q E G hP W ao ht hf r h; exact h.elim
  | succ d ih =>
    intro w P s0 scr ι H s A k f a vals vs Q E G hP W ao ht hf r h
    obtain ⟨fn, hΦ, har, hw⟩ := h
    have fo := ok k f fn ht hΦ
    obtain ⟨args, hpar, hnd, hlen, hsl⟩ := fo.params
    have hfa := hf
    obtain ⟨o, pm, code, doc, go, do', hcode⟩ := hf
    have keep : ∀ b o, s0.heap.get? b = some o → b ≠ scr → s.heap.get? b = some o := fun b o e hne => W.prot _ _ (hP _ _ e hne)
    have hl : args.length = vals.length := by rw [r.length, ← har, hlen]
    have hl' : (args.map (·.arg)).length = vals.length := by simpa using hl
    have hap : (cellsFrom (s.heap.objs.size + 1) f.scope.names []).Pairwise fun x y => x.2 ≠ y.2 := comp_apart (scope := f.scope) s.heap rfl
    refine wpAny_call (codeAny_call_cells (binds := (args.map (·.arg)).zip vals) (by have := ao.dp; omega) (keep _ _ go (G.notScr _ f hfa)) do' (G.lim' _ keep) (G.code _ _ hcode _ keep) rfl (by rw [hpar]; exact bind_plain hnd hl) rfl (fun x hx => ?_) (fun s₁ I => ?_) fo.co fo.gen fo.kind)
    · have hx1 : x.1 ∈ args.map (·.arg) := (List.of_mem_zip (a := x.1) (b := x.2) hx).1
      obtain ⟨i, hi⟩ := List.mem_iff_getElem?.mp hx1
      obtain ⟨k, l, hk2, _⟩ := fn_slot (hsl i x.1 hi)
      rcases hk2 with rfl | rfl
      · exact .inl l
      · refine .inr ⟨l, ?_⟩
        obtain ⟨c, hc⟩ := cellsFrom_has f.scope.names (s.heap.objs.size + 1) x.1 (mem_of_lookup l)
        obtain ⟨c', hc'⟩ := lookup_of_mem hc
        show ((cellsFrom (s.heap.objs.size + 1) f.scope.names []).lookup x.1).isSome = true
        rw [hc']; rfl
    · obtain ⟨S₁, M₁⟩ := call_st fo G hP W hnd hl' hsl r rfl I
      have cok := call_cxok (a := a) (pm := pm) (code := code) (doc := doc) fo G hP W hap
      have at₁ : At p (fnSc f.scope.names) (Calls Φ d) d (callCx w P s0 scr (Calls.docDef f.name f.params f.body f.scope pm code doc) s.heap.objs.size a) (A.deeper (callEnvC (Calls.docDef f.name f.params f.body f.scope pm code doc) s.heap.objs.size a)) :=
        ⟨ih, cok, call_fit w P s0 scr (Calls.docDef f.name f.params f.body f.scope pm code doc) s.heap.objs.size a fo.free, G, ⟨ao.hd, by have := ao.dp; show A.depth + 1 + d < _; omega, by have := ao.un; show A.units + 3 + 4 * d + 100 < _; omega⟩⟩
      have hb : Bnd (fnSc f.scope.names).lim (argsR vs) := fun i hi => by
        show vs[i]? = none
        rw [List.getElem?_eq_none_iff]
        refine Nat.le_of_not_lt fun hlt => ?_
        have hi' : i < (args.map (·.arg)).length := by rw [hl', r.length]; exact hlt
        obtain ⟨k, l, hk2, h4⟩ := fn_slot (hsl i _ (List.getElem?_eq_getElem hi'))
        simp [fnSc, compSc, sc0] at hi
        omega
      refine mono' (fo.body at₁ S₁ hb hw) fun fl s₂ ⟨o₂, ρ₂, ι₂, H₂, M₂, S₂, _, ho, q₂⟩ => ?_
      have W₂ := S₂.wd
      cases o₂ with
      | next =>
        cases fl with
        | next => exact ⟨.none, ι₂, H₂, M₁.trans M₂, W₂, .none, q₂⟩
        | _ => exact ho.elim
      | ret v =>
        cases fl with
        | ret val => exact ⟨v, ι₂, H₂, M₁.trans M₂, W₂, ho, q₂⟩
        | _ => exact ho.elim
end Tw
end

section
namespace Tw
open PySem PySem.SeqAt

/-! from the program's text to ours, with the proof -/
noncomputable def notSlice : Expr → Bool
  | .Slice .. => false
  | _ => true
theorem nosl_of {e : Expr} (h : notSlice e = true) : ∀ a b c q, e ≠ .Slice a b c q := fun a b c q x => by rw [x] at h; cases h
structure XP (p : Pg) (sc : Sc) (e : Expr) (e' : E) : Prop where
  sE : SndE p sc e e'
  sT : SndT p sc e e'
  star : ∀ es env, starEach (e :: es) env = (false, eval e env) :: starEach es env
  nosl : notSlice e = true
  set : ∀ env x, foldedSetIterable e env x = pure x
  marks : ∀ op, behindInMarks op e = false

abbrev RE (p : Pg) (sc : Sc) (e : Expr) := Option { e' : E // XP p sc e e' }
abbrev REs (p : Pg) (sc : Sc) (es : List Expr) := Option { es' : List E // SndEs p sc es es' }

noncomputable def bopOf : (op : Operator) → Option { b : Bop // b.py = op }
  | .Add => some ⟨.add, rfl⟩ | .Sub => some ⟨.sub, rfl⟩ | .Mult => some ⟨.mul, rfl⟩ | .FloorDiv => some ⟨.fdiv, rfl⟩ | .Mod => some ⟨.mod, rfl⟩ | _ => none
noncomputable def cmpOf : (op : CmpOp) → { c : Cmp // c.py = op }
  | .Eq => ⟨.eq, rfl⟩ | .NotEq => ⟨.ne, rfl⟩ | .Lt => ⟨.lt, rfl⟩ | .LtE => ⟨.le, rfl⟩ | .Gt => ⟨.gt, rfl⟩ | .GtE => ⟨.ge, rfl⟩ | .Is => ⟨.is, rfl⟩ | .IsNot => ⟨.isNot, rfl⟩ | .In => ⟨.isIn, rfl⟩ | .NotIn => ⟨.notIn, rfl⟩
noncomputable def mtOf (x : Str) (args : Nat) : Option { m : Mt // m.nm = x } :=
  if h : Mt.nm .append = x then some ⟨.append, h⟩
  else if h : Mt.nm .reverse = x then some ⟨.reverse, h⟩
  else if h : Mt.nm .clear = x then some ⟨.clear, h⟩
  else if h : Mt.nm .join = x then some ⟨.join, h⟩
  else if h : Mt.nm .pop = x then (if args = 0 then some ⟨.pop, h⟩ else some ⟨.dpop, h⟩)
  else if h : Mt.nm .index = x then some ⟨.index, h⟩
  else if h : Mt.nm .update = x then some ⟨.update, h⟩
  else if h : Mt.nm .get = x then some ⟨.get, h⟩
  else if h : Mt.nm .startswith = x then some ⟨.startswith, h⟩
  else none

section
variable {p : Pg} {sc : Sc}
noncomputable def trEs (tr : (e : Expr) → RE p sc e) : (es : List Expr) → REs p sc es
  | [] => some ⟨[], sndEs_nil⟩
  | e :: es => match tr e with
    | none => none
    | some x => match trEs tr es with
      | none => none
      | some xs => some ⟨x.1 :: xs.1, sndEs_cons (x.2.star es) x.2.sE xs.2⟩
noncomputable def trChain (and : Bool) (tr : (e : Expr) → RE p sc e) : (es : List Expr) → Option { e' : E // Chain p sc and es e' }
  | [] => none
  | e :: es => match es with
    | [] => match tr e with
      | none => none
      | some x => some ⟨x.1, .one x.2.sE x.2.sT⟩
    | e₂ :: r => match tr e with
      | none => none
      | some x => match trChain and tr (e₂ :: r) with
        | none => none
        | some y => some ⟨if and then .and x.1 y.1 else .or x.1 y.1, .more x.2.sE x.2.sT y.2⟩
noncomputable def trO (tr : (e : Expr) → RE p sc e) : (e : Option Expr) → Option { e' : E // SndO p sc e e' }
  | none => some ⟨.lit .none, sndO_none⟩
  | some e => match tr e with
    | none => none
    | some x => some ⟨x.1, sndO_some x.2.sE⟩
noncomputable def attrOk : (o : Expr) → Option (PLift (∀ nm env, attributeBase o nm env (eval o env) = eval o env))
  | .Name .. => some ⟨fun _ _ => rfl⟩
  | .Subscript .. => some ⟨fun _ _ => rfl⟩
  | .Constant .. => some ⟨fun _ _ => rfl⟩
  | _ => none
noncomputable def compOkB (sc : Sc) (scope : Scope) : Bool := scope.kind == .function && scope.names.all fun n => scope.names.lookup n.1 == some n.2 && plainName n.1 && (n.2 != .free || sc.ck n.1)
theorem compOk_of {scope : Scope} (h : compOkB sc scope = true) : CompOk sc scope := by
  simp only [compOkB, Bool.and_eq_true, beq_iff_eq, List.all_eq_true] at h
  obtain ⟨h1, h2⟩ := h
  refine ⟨h1, fun x k hm => (h2 _ hm).1.1, fun x k hm => (h2 _ hm).1.2, fun x hm => ?_⟩
  have := (h2 _ hm).2
  simpa using this
end

noncomputable def trNames (sc : Sc) : (es : List Expr) → Option { is : List Nat // NamesAre sc es is }
  | [] => some ⟨[], .nil⟩
  | .Name x pos :: es => match h : sc.nm x with
    | none => none
    | some i => if hs : sc.st x = true then (match trNames sc es with
      | none => none
      | some is => some ⟨i :: is.1, .cons h hs is.2⟩) else none
  | _ => none
noncomputable def trG (p : Pg) (sc : Sc) : (t : Expr) → Option { t' : Tgt // SndG p sc t t' }
  | .Name x pos => match h : sc.nm x with
    | none => none
    | some i => if hs : sc.st x = true then some ⟨.name i, sndG_name h hs⟩ else none
  | .Tuple es k pos => match trNames sc es with
    | none => none
    | some is => some ⟨.tup is.1, sndG_tup is.2⟩
  | _ => none

noncomputable def trC {p : Pg} {sc : Sc} (tr : (e : Expr) → RE p sc e) : (ifs : List Expr) → Option { c : Option E // SndC p sc ifs c }
  | [] => some ⟨none, .none⟩
  | [c] => match tr c with
    | none => none
    | some x => some ⟨some x.1, .one x.2.sT⟩
  | _ => none


section
variable {p : Pg} {sc : Sc} {pos : Pos} {k : Nat}
theorem xp_none : XP p sc (.Constant .none k pos) (.lit .none) := ⟨snd_none, sndT_value (e' := .lit .none) snd_none (fun _ _ => rfl) fun _ _ _ _ h => h, fun _ _ => rfl, rfl, fun _ _ => rfl, fun _ => rfl⟩
theorem xp_bool {b : Bool} : XP p sc (.Constant (.bool b) k pos) (.lit (.bool b)) := ⟨snd_bool, sndT_value (e' := .lit (.bool b)) snd_bool (fun _ _ => rfl) fun _ _ _ _ h => h, fun _ _ => rfl, rfl, fun _ _ => rfl, fun _ => rfl⟩
theorem xp_int {i : Int} : XP p sc (.Constant (.int i) k pos) (.lit (.int i)) := ⟨snd_int, sndT_value (e' := .lit (.int i)) snd_int (fun _ _ => rfl) fun _ _ _ _ h => h, fun _ _ => rfl, rfl, fun _ _ => rfl, fun _ => rfl⟩
theorem xp_str {x : Str} (h : x.length ≤ SZ) : XP p sc (.Constant (.str x) k pos) (.lit (.str x.cps.toList)) := ⟨snd_str h, sndT_value (e' := .lit (.str x.cps.toList)) (snd_str h) (fun _ _ => rfl) fun _ _ _ _ h => h, fun _ _ => rfl, rfl, fun _ _ => rfl, fun _ => rfl⟩
theorem xp_var {x : Str} {i : Nat} (h : sc.nm x = some i) : XP p sc (.Name x pos) (.var i) := ⟨snd_var h, sndT_value (e' := .var i) (snd_var h) (fun _ _ => rfl) fun _ _ _ _ h => h, fun _ _ => rfl, rfl, fun _ _ => rfl, fun _ => rfl⟩
theorem xp_const {x : Str} {i : Int} (hk : sc.gk x = true) (hg : p.G x = some (.const i)) : XP p sc (.Name x pos) (.lit (.int i)) := ⟨snd_const hk hg, sndT_value (e' := .lit (.int i)) (snd_const hk hg) (fun _ _ => rfl) fun _ _ _ _ h => h, fun _ _ => rfl, rfl, fun _ _ => rfl, fun _ => rfl⟩
theorem xp_bin {l r : Expr} {op : Operator} {o : Bop} {a b : E} (ho : o.py = op) (h1 : XP p sc l a) (h2 : XP p sc r b) : XP p sc (.BinOp l op r pos) (.bin o a b) := by
  subst ho; exact ⟨snd_bin h1.sE h2.sE, sndT_never (e' := .bin o a b) fun _ _ _ _ h => h, fun _ _ => rfl, rfl, fun _ _ => rfl, fun _ => rfl⟩
theorem xp_neg {l : Expr} {a : E} (h1 : XP p sc l a) : XP p sc (.UnaryOp .USub l pos) (.neg a) := ⟨snd_neg h1.sE, sndT_never (e' := .neg a) fun _ _ _ _ h => h, fun _ _ => rfl, rfl, fun _ _ => rfl, fun _ => rfl⟩
theorem xp_not {l : Expr} {a : E} (h1 : XP p sc l a) : XP p sc (.UnaryOp .Not l pos) (.not a) := ⟨snd_not h1.sE, sndT_not h1.sT, fun _ _ => rfl, rfl, fun _ _ => rfl, fun _ => rfl⟩
theorem xp_chain {and : Bool} {op : BoolOp} {es : List Expr} {e' : E} (ho : (if and then BoolOp.And else BoolOp.Or) = op) (c : Chain p sc and es e') : XP p sc (.BoolOp op es pos) e' := by
  subst ho; exact ⟨snd_chain c, sndT_chain c, fun _ _ => rfl, rfl, fun _ _ => rfl, fun _ => rfl⟩
theorem xp_cmp {l r : Expr} {op : CmpOp} {o : Cmp} {a b : E} (ho : o.py = op) (h1 : XP p sc l a) (h2 : XP p sc r b) : XP p sc (.Compare l [op] [r] pos) (.cmp o a b) := by
  subst ho; exact ⟨snd_cmp h1.sE h2.sE (h2.marks _), sndT_cmp h1.sE h2.sE (h2.marks _), fun _ _ => rfl, rfl, fun _ _ => rfl, fun _ => rfl⟩
theorem xp_cmp2 {l r r₂ : Expr} {op op₂ : CmpOp} {o o₂ : Cmp} {a b c : E} (ho : o.py = op) (ho₂ : o₂.py = op₂) (h1 : XP p sc l a) (h2 : XP p sc r b) (h3 : XP p sc r₂ c) : XP p sc (.Compare l [op, op₂] [r, r₂] pos) (.cmp2 o o₂ a b c) := by
  subst ho; subst ho₂; exact ⟨snd_cmp2 h1.sE h2.sE h3.sE (h3.marks _), sndT_cmp2 h1.sE h2.sE h3.sE (h3.marks _), fun _ _ => rfl, rfl, fun _ _ => rfl, fun _ => rfl⟩
theorem xp_slice {l : Expr} {lo hi : Option Expr} {q : Pos} {a b c : E} (h1 : XP p sc l a) (h2 : SndO p sc lo b) (h3 : SndO p sc hi c) : XP p sc (.Subscript l (.Slice lo hi none q) pos) (.slice a b c) :=
  ⟨snd_slice h1.sE h2 h3, sndT_never (e' := .slice a b c) fun _ _ _ _ h => h, fun _ _ => rfl, rfl, fun _ _ => rfl, fun _ => rfl⟩
theorem xp_sub {l r : Expr} {a b : E} (h1 : XP p sc l a) (h2 : XP p sc r b) : XP p sc (.Subscript l r pos) (.sub a b) :=
  ⟨snd_sub h1.sE h2.sE (nosl_of h2.nosl), sndT_never (e' := .sub a b) fun _ _ _ _ h => h, fun _ _ => rfl, rfl, fun _ _ => rfl, fun _ => rfl⟩
theorem xp_tup {es : List Expr} {es' : List E} (h1 : SndEs p sc es es') (hn : es.length ≤ 1000) : XP p sc (.Tuple es k pos) (.tup es') := ⟨snd_tup h1 hn, sndT_never (e' := .tup es') fun _ _ _ _ h => h, fun _ _ => rfl, rfl, fun _ _ => rfl, fun _ => rfl⟩
theorem xp_list {es : List Expr} {es' : List E} (h1 : SndEs p sc es es') (hn : es.length ≤ 1000) : XP p sc (.List es pos) (.list es') := ⟨snd_list h1 hn, sndT_never (e' := .list es') fun _ _ _ _ h => h, fun _ _ => rfl, rfl, fun _ _ => rfl, fun _ => rfl⟩
theorem xp_dict0 : XP p sc (.Dict [] [] pos) .dict0 := ⟨snd_dict0, sndT_never (e' := .dict0) fun _ _ _ _ h => h, fun _ _ => rfl, rfl, fun _ _ => rfl, fun _ => rfl⟩
theorem xp_dict1 {x y : Expr} {a b : E} (h1 : XP p sc x a) (h2 : XP p sc y b) : XP p sc (.Dict [some x] [y] pos) (.dict1 a b) := ⟨snd_dict1 h1.sE h2.sE, sndT_never (e' := .dict1 a b) fun _ _ _ _ h => h, fun _ _ => rfl, rfl, fun _ _ => rfl, fun _ => rfl⟩
theorem xp_comp {elt target iter : Expr} {ifs : List Expr} {scope : Scope} {elt' iter' : E} {tgt : Tgt} {cond : Option E} {z : Int} (hz : z = 0) (hi : XP p sc iter iter') (ok : compOkB sc scope = true) (hg : SndG p (compSc sc scope.names) target tgt) (hc : SndC p (compSc sc scope.names) ifs cond)
    (he : XP p (compSc sc scope.names) elt elt') (hsl : tgt.slots.all (fun i => decide (sc.lim ≤ i)) = true) : XP p sc (.ListComp elt [⟨target, iter, ifs, z⟩] scope pos) (.comp elt' tgt iter' cond) := by
  subst hz
  exact ⟨snd_comp hi.sE (compOk_of ok) hg hc he.sE (by simpa using hsl) hi.set, sndT_never (e' := .comp elt' tgt iter' cond) fun _ _ _ _ h => h, fun _ _ => rfl, rfl, fun _ _ => rfl, fun _ => rfl⟩
theorem xp_isinst {x y : Str} {np ny : Pos} {e : Expr} {a : E} {t : Ty} {g : Gl} (hk : sc.gk x = true) (hg : p.G x = some .isinst) (hk' : sc.gk y = true) (hg' : p.G y = some g) (hty : tyOf g = some t) (h1 : XP p sc e a) : XP p sc (.Call (.Name x np) [e, .Name y ny] [] pos) (.isinst a t) :=
  ⟨snd_isinst hk hg hk' hg' hty (h1.star _) h1.sE, sndT_value (e' := .isinst a t) (snd_isinst hk hg hk' hg' hty (h1.star _) h1.sE) (fun _ _ => rfl) fun _ _ _ _ h => h, fun _ _ => rfl, rfl, fun _ _ => rfl, fun _ => rfl⟩
theorem xp_call {x : Str} {np : Pos} {es : List Expr} {es' : List E} {j : Nat} (hk : sc.gk x = true) (hg : p.G x = some (.fn j)) (h1 : SndEs p sc es es') : XP p sc (.Call (.Name x np) es [] pos) (.call j es') :=
  ⟨snd_call hk hg h1, sndT_value (e' := .call j es') (snd_call hk hg h1) (fun _ _ => rfl) fun _ _ _ _ h => h, fun _ _ => rfl, rfl, fun _ _ => rfl, fun _ => rfl⟩
theorem xp_bi {x : Str} {np : Pos} {es : List Expr} {es' : List E} {b : Bi} (hk : sc.gk x = true) (hg : p.G x = some (.bi b)) (h1 : SndEs p sc es es') : XP p sc (.Call (.Name x np) es [] pos) (.bi b es') :=
  ⟨snd_bi hk hg h1, sndT_never (e' := .bi b es') fun _ _ _ _ h => h, fun _ _ => rfl, rfl, fun _ _ => rfl, fun _ => rfl⟩
theorem xp_meth {o : Expr} {x : Str} {apos : Pos} {es : List Expr} {m : Mt} {a : E} {es' : List E} (hm : m.nm = x) (ho : ∀ nm env, attributeBase o nm env (eval o env) = eval o env) (hl : (apos.endLine == pos.line) = true) (hn : es.length < 29) (h0 : XP p sc o a) (h1 : SndEs p sc es es') :
    XP p sc (.Call (.Attribute o x apos) es [] pos) (.meth m a es') := by
  subst hm
  exact ⟨snd_meth (ho _) hl hn h0.sE h1, sndT_value (e' := .meth m a es') (snd_meth (ho _) hl hn h0.sE h1) (fun _ _ => rfl) fun _ _ _ _ h => h, fun _ _ => rfl, rfl, fun _ _ => rfl, fun _ => rfl⟩
end

noncomputable def trE (p : Pg) : (n : Nat) → (sc : Sc) → (e : Expr) → RE p sc e
  | 0, _, _ => none
  | n + 1, sc, e => match e with
    | .Constant .none k pos => some ⟨.lit .none, xp_none⟩
    | .Constant (.bool b) k pos => some ⟨.lit (.bool b), xp_bool⟩
    | .Constant (.int i) k pos => some ⟨.lit (.int i), xp_int⟩
    | .Constant (.str x) k pos => if h : x.length ≤ SZ then some ⟨.lit (.str x.cps.toList), xp_str h⟩ else none
    | .Name x pos => match h : sc.nm x with
      | some i => some ⟨.var i, xp_var h⟩
      | none => if hk : sc.gk x = true then (match hg : p.G x with
        | some (.const i) => some ⟨.lit (.int i), xp_const hk hg⟩
        | _ => none) else none
    | .BinOp l op r pos => match bopOf op, trE p n sc l, trE p n sc r with
      | some o, some a, some b => some ⟨.bin o.1 a.1 b.1, xp_bin o.2 a.2 b.2⟩
      | _, _, _ => none
    | .UnaryOp .USub l pos => match trE p n sc l with
      | some a => some ⟨.neg a.1, xp_neg a.2⟩
      | _ => none
    | .UnaryOp .Not l pos => match trE p n sc l with
      | some a => some ⟨.not a.1, xp_not a.2⟩
      | _ => none
    | .BoolOp .And es pos => match trChain true (trE p n sc) es with
      | some c => some ⟨c.1, xp_chain rfl c.2⟩
      | none => none
    | .BoolOp .Or es pos => match trChain false (trE p n sc) es with
      | some c => some ⟨c.1, xp_chain rfl c.2⟩
      | none => none
    | .Compare l [op] [r] pos => match trE p n sc l, trE p n sc r with
      | some a, some b => some ⟨.cmp (cmpOf op).1 a.1 b.1, xp_cmp (cmpOf op).2 a.2 b.2⟩
      | _, _ => none
    | .Compare l [op, op₂] [r, r₂] pos => match trE p n sc l, trE p n sc r, trE p n sc r₂ with
      | some a, some b, some c => some ⟨.cmp2 (cmpOf op).1 (cmpOf op₂).1 a.1 b.1 c.1, xp_cmp2 (cmpOf op).2 (cmpOf op₂).2 a.2 b.2 c.2⟩
      | _, _, _ => none
    | .Subscript l (.Slice lo hi none q) pos => match trE p n sc l, trO (trE p n sc) lo, trO (trE p n sc) hi with
      | some a, some b, some c => some ⟨.slice a.1 b.1 c.1, xp_slice a.2 b.2 c.2⟩
      | _, _, _ => none
    | .Subscript l r pos => match trE p n sc l, trE p n sc r with
      | some a, some b => some ⟨.sub a.1 b.1, xp_sub a.2 b.2⟩
      | _, _ => none
    | .Tuple es k pos => match trEs (trE p n sc) es with
      | some xs => if h : es.length ≤ 1000 then some ⟨.tup xs.1, xp_tup xs.2 h⟩ else none
      | _ => none
    | .List es pos => match trEs (trE p n sc) es with
      | some xs => if h : es.length ≤ 1000 then some ⟨.list xs.1, xp_list xs.2 h⟩ else none
      | _ => none
    | .Dict [] [] pos => some ⟨.dict0, xp_dict0⟩
    | .Dict [some k] [v] pos => match trE p n sc k, trE p n sc v with
      | some a, some b => some ⟨.dict1 a.1 b.1, xp_dict1 a.2 b.2⟩
      | _, _ => none
    | .ListComp elt [⟨target, iter, ifs, z⟩] scope pos => match trE p n sc iter, trG p (compSc sc scope.names) target, trC (trE p n (compSc sc scope.names)) ifs, trE p n (compSc sc scope.names) elt with
      | some i, some t, some c, some e => if hz : z = 0 then (if h : compOkB sc scope = true then (if hs : t.1.slots.all (fun i => decide (sc.lim ≤ i)) = true then
          some ⟨.comp e.1 t.1 i.1 c.1, xp_comp hz i.2 h t.2 c.2 e.2 hs⟩ else none) else none) else none
      | _, _, _, _ => none
    | .Call (.Name x np) es [] pos => if hk : sc.gk x = true then (match hg : p.G x with
        | some .isinst => (match es with
          | [e, .Name y ny] => if hk' : sc.gk y = true then (match hg' : p.G y, trE p n sc e with
            | some g, some a => (match hty : tyOf g with
              | some t => some ⟨.isinst a.1 t, xp_isinst hk hg hk' hg' hty a.2⟩
              | none => none)
            | _, _ => none) else none
          | _ => none)
        | some (.fn k) => (match trEs (trE p n sc) es with
          | some xs => some ⟨.call k xs.1, xp_call hk hg xs.2⟩
          | none => none)
        | some (.bi b) => (match trEs (trE p n sc) es with
          | some xs => some ⟨.bi b xs.1, xp_bi hk hg xs.2⟩
          | none => none)
        | _ => none) else none
    | .Call (.Attribute o x apos) es [] pos => match trE p n sc o, trEs (trE p n sc) es, mtOf x es.length, attrOk o with
      | some a, some xs, some m, some ⟨ao⟩ => if hl : (apos.endLine == pos.line) = true then (if hn : es.length < 29 then
          some ⟨.meth m.1 a.1 xs.1, xp_meth m.2 ao hl hn a.2 xs.2⟩ else none) else none
      | _, _, _, _ => none
    | _ => none
end Tw
end

section
namespace Tw
open PySem PySem.SeqAt

noncomputable def swapOk : (e : Expr) → Option (PLift (∀ env l t, swapsWith e t l env = pure false))
  | .Constant .. => some ⟨fun _ _ _ => rfl⟩
  | .Name .. => some ⟨fun _ _ _ => rfl⟩
  | .BinOp .. => some ⟨fun _ _ _ => rfl⟩
  | .UnaryOp .. => some ⟨fun _ _ _ => rfl⟩
  | .BoolOp .. => some ⟨fun _ _ _ => rfl⟩
  | .Compare .. => some ⟨fun _ _ _ => rfl⟩
  | .Subscript .. => some ⟨fun _ _ _ => rfl⟩
  | .Tuple .. => some ⟨fun _ _ _ => rfl⟩
  | .List .. => some ⟨fun _ _ _ => rfl⟩
  | .Dict .. => some ⟨fun _ _ _ => rfl⟩
  | .Call .. => some ⟨fun _ _ _ => rfl⟩
  | _ => none
noncomputable def storesOk (t : List Expr) (k : Nat) (q : Pos) : (e : Expr) → Option (PLift (∀ env, swappedStores [.Tuple t k q] e env = pure none))
  | .Name .. => some ⟨fun _ => rfl⟩
  | .Subscript .. => some ⟨fun _ => rfl⟩
  | .Call .. => some ⟨fun _ => rfl⟩
  | _ => none

section
variable {p : Pg} {sc : Sc}
noncomputable def trB (tr : (s : Stmt) → Option { s' : S // SndS p sc s s' }) : (ss : List Stmt) → Option { ss' : List S // SndB p sc ss ss' }
  | [] => some ⟨[], sndB_nil⟩
  | s :: ss => match tr s with
    | none => none
    | some x => match trB tr ss with
      | none => none
      | some xs => some ⟨x.1 :: xs.1, sndB_cons x.2 xs.2⟩
theorem xs_comp {x : Str} {i : Nat} {xp ap pos : Pos} {elt target iter : Expr} {ifs : List Expr} {scope : Scope} {elt' iter' : E} {tgt : Tgt} {cond : Option E} {z : Int} (hz : z = 0) (hx : sc.nm x = some i) (hst : sc.st x = true) (hi : XP p sc iter iter') (ok : compOkB sc scope = true)
    (hg : SndG p (compSc sc scope.names) target tgt) (hc : SndC p (compSc sc scope.names) ifs cond) (he : XP p (compSc sc scope.names) elt elt') (hsl : tgt.slots.all (fun i => decide (sc.lim ≤ i)) = true) :
    SndS p sc (.Assign [.Name x xp] (.ListComp elt [⟨target, iter, ifs, z⟩] scope pos) ap) (.assign (.name i) (.comp elt' tgt iter' cond)) := by
  subst hz
  exact snd_assign_comp hx hst hi.sE (compOk_of ok) hg hc he.sE (by simpa using hsl) hi.set
theorem xs_expr {e : Expr} {e' : E} {pos : Pos} (h1 : XP p sc e e') (hs : ∀ env l t, swapsWith e t l env = pure false) : SndS p sc (.Expr e pos) (.expr e') := snd_expr h1.sE fun env l => hs env l none
theorem xs_assign {x : Str} {i : Nat} {xp pos : Pos} {e : Expr} {e' : E} (hx : sc.nm x = some i) (hst : sc.st x = true) (h1 : XP p sc e e') (hs : ∀ env l t, swapsWith e t l env = pure false) : SndS p sc (.Assign [.Name x xp] e pos) (.assign (.name i) e') :=
  snd_assign h1.sE hx hst fun env l t => hs env l (some t)
theorem xs_tup {es : List Expr} {k : Nat} {tp pos : Pos} {e : Expr} {e' : E} {tgt : Tgt} (h1 : XP p sc e e') (h2 : SndG p sc (.Tuple es k tp) tgt) (hs : ∀ env l t, swapsWith e t l env = pure false) (hw : ∀ env, swappedStores [.Tuple es k tp] e env = pure none) :
    SndS p sc (.Assign [.Tuple es k tp] e pos) (.assign tgt e') := snd_assign_tup h1.sE h2 (fun env l t => hs env l (some t)) hw
theorem xs_store {o i e : Expr} {pos pos' : Pos} {o' i' e' : E} (h1 : XP p sc e e') (h2 : XP p sc o o') (h3 : XP p sc i i') (hs : ∀ env l t, swapsWith e t l env = pure false) : SndS p sc (.Assign [.Subscript o i pos'] e pos) (.store o' i' e') :=
  snd_store h1.sE h2.sE h3.sE fun env l t => hs env l (some t)
theorem xs_ite {t : Expr} {a b : List Stmt} {pos : Pos} {t' : E} {a' b' : List S} (h1 : XP p sc t t') (h2 : SndB p sc a a') (h3 : SndB p sc b b') : SndS p sc (.If t a b pos) (.ite t' a' b') := snd_ite h1.sT h2 h3
theorem xs_while {t : Expr} {b : List Stmt} {pos : Pos} {t' : E} {b' : List S} (h1 : XP p sc t t') (h2 : SndB p sc b b') : SndS p sc (.While t b [] pos) (.while t' b') := snd_while h1.sT h2
theorem xs_for {t it : Expr} {b : List Stmt} {pos : Pos} {tgt : Tgt} {it' : E} {b' : List S} (h1 : XP p sc it it') (hg : SndG p sc t tgt) (h2 : SndB p sc b b') : SndS p sc (.For t it b [] pos) (.for tgt it' b') := snd_for h1.sE hg h2 h1.set
theorem xs_ret {e : Expr} {e' : E} {pos : Pos} (h1 : XP p sc e e') : SndS p sc (.Return (some e) pos) (.ret (some e')) := snd_ret h1.sE

noncomputable def trAssignComp (p : Pg) (n : Nat) (sc : Sc) (x : Str) (xp ap : Pos) (elt target iter : Expr) (ifs : List Expr) (z : Int) (scope : Scope) (pos : Pos) : Option { s' : S // SndS p sc (.Assign [.Name x xp] (.ListComp elt [⟨target, iter, ifs, z⟩] scope pos) ap) s' } :=
  match hx : sc.nm x with
  | none => none
  | some i => if hst : sc.st x = true then (match trE p n sc iter, trG p (compSc sc scope.names) target, trC (trE p n (compSc sc scope.names)) ifs, trE p n (compSc sc scope.names) elt with
      | some it, some t, some c, some e => if hz : z = 0 then (if h : compOkB sc scope = true then (if hs : t.1.slots.all (fun i => decide (sc.lim ≤ i)) = true then
          some ⟨.assign (.name i) (.comp e.1 t.1 it.1 c.1), xs_comp hz hx hst it.2 h t.2 c.2 e.2 hs⟩ else none) else none) else none
      | _, _, _, _ => none) else none
end

noncomputable def trS (p : Pg) : (n : Nat) → (sc : Sc) → (s : Stmt) → Option { s' : S // SndS p sc s s' }
  | 0, _, _ => none
  | n + 1, sc, s => match s with
    | .Return none pos => some ⟨.ret none, snd_ret0⟩
    | .Return (some e) pos => match trE p n sc e with
      | some a => some ⟨.ret (some a.1), xs_ret a.2⟩
      | none => none
    | .Raise e c pos => some ⟨.raise, snd_raise⟩
    | .Expr e pos => match trE p n sc e, swapOk e with
      | some a, some ⟨h⟩ => some ⟨.expr a.1, xs_expr a.2 h⟩
      | _, _ => none
    | .If t a b pos => match trE p n sc t, trB (trS p n sc) a, trB (trS p n sc) b with
      | some t, some a, some b => some ⟨.ite t.1 a.1 b.1, xs_ite t.2 a.2 b.2⟩
      | _, _, _ => none
    | .While t b [] pos => match trE p n sc t, trB (trS p n sc) b with
      | some t, some b => some ⟨.while t.1 b.1, xs_while t.2 b.2⟩
      | _, _ => none
    | .For t it b [] pos => match trG p sc t, trE p n sc it, trB (trS p n sc) b with
      | some t, some it, some b => some ⟨.for t.1 it.1 b.1, xs_for it.2 t.2 b.2⟩
      | _, _, _ => none
    | .Assign [.Name x xp] e ap => match e with
      | .ListComp elt [⟨target, iter, ifs, z⟩] scope pos => trAssignComp p n sc x xp ap elt target iter ifs z scope pos
      | e => match hx : sc.nm x with
        | none => none
        | some i => if hst : sc.st x = true then (match trE p n sc e, swapOk e with
          | some a, some ⟨h⟩ => some ⟨.assign (.name i) a.1, xs_assign hx hst a.2 h⟩
          | _, _ => none) else none
    | .Assign [.Tuple es k tp] e ap => match trG p sc (.Tuple es k tp), trE p n sc e, swapOk e, storesOk es k tp e with
      | some t, some a, some ⟨h⟩, some ⟨h'⟩ => some ⟨.assign t.1 a.1, xs_tup a.2 t.2 h h'⟩
      | _, _, _, _ => none
    | .Assign [.Subscript o i pos'] e ap => match trE p n sc o, trE p n sc i, trE p n sc e, swapOk e with
      | some o, some i, some e, some ⟨h⟩ => some ⟨.store o.1 i.1 e.1, xs_store e.2 o.2 i.2 h⟩
      | _, _, _, _ => none
    | _ => none

noncomputable def fnOkB (f : FnRec) : Bool :=
  f.scope.kind == .function && !f.scope.isCoroutine && !f.scope.isGenerator && f.scope.names.all (fun n => f.scope.names.lookup n.1 == some n.2 && plainName n.1 && n.2 != .free)
/-- names at their own slots, from k on -/
noncomputable def slotsOk (nm : Str → Option Nat) : Nat → List Arg → Bool
  | _, [] => true
  | k, a :: r => nm a.arg == some k && slotsOk nm (k + 1) r
theorem slotsOk_at {nm : Str → Option Nat} : ∀ {args : List Arg} {k : Nat}, slotsOk nm k args = true → ∀ (i : Nat) x, (args.map (·.arg))[i]? = some x → nm x = some (k + i)
  | [], _, _, _, _, h => by simp at h
  | a :: r, k, h, i, x, hx => by
    simp only [slotsOk, Bool.and_eq_true, beq_iff_eq] at h
    cases i with
    | zero => simp at hx; subst hx; exact h.1
    | succ i => have := slotsOk_at h.2 i x (by simpa using hx); rw [this]; congr 1; omega
theorem slotsOk_nodup {nm : Str → Option Nat} : ∀ {args : List Arg} {k : Nat}, slotsOk nm k args = true → (args.map (·.arg)).Nodup
  | [], _, _ => by simp
  | a :: r, k, h => by
    have h0 := h
    simp only [slotsOk, Bool.and_eq_true, beq_iff_eq] at h
    rw [List.map_cons, List.nodup_cons]
    refine ⟨fun hm => ?_, slotsOk_nodup h.2⟩
    obtain ⟨i, hi⟩ := List.mem_iff_getElem?.mp hm
    have := slotsOk_at h.2 i _ hi
    rw [h.1] at this
    injection this with this
    omega
theorem fnOk_of {p : Pg} {f : FnRec} {args : List Arg} {b : List S} (hb : SndB p (fnSc f.scope.names) f.body b) (h : fnOkB f = true) (hp : f.params = ⟨[], args, none, [], [], none, []⟩) (hs : slotsOk (fnSc f.scope.names).nm 0 args = true) : FnOk p f ⟨args.length, b⟩ := by
  simp only [fnOkB, Bool.and_eq_true, beq_iff_eq, List.all_eq_true, Bool.not_eq_true'] at h
  obtain ⟨⟨⟨h1, h2⟩, h3⟩, h4⟩ := h
  refine ⟨⟨args, hp, slotsOk_nodup hs, rfl, fun i x hx => by simpa using slotsOk_at hs i x hx⟩, h1, h2, h3, fun x k hm => (h4 _ hm).1.1, fun x k hm => (h4 _ hm).1.2, fun x hm => ?_, hb⟩
  have := (h4 _ hm).2
  simp at this

noncomputable def trF (p : Pg) (n : Nat) (f : FnRec) : Option { fn : Fn // FnOk p f fn } :=
  match trB (trS p n (fnSc f.scope.names)) f.body with
  | none => none
  | some b => if h : fnOkB f = true then (match hp : f.params with
    | ⟨[], args, none, [], [], none, []⟩ => if hs : slotsOk (fnSc f.scope.names).nm 0 args = true then some ⟨⟨args.length, b.1⟩, fnOk_of b.2 h hp hs⟩ else none
    | _ => none) else none
end Tw
end

section
namespace Tw
open PySem PySem.W PyProof.Rows

noncomputable def tabOf (q : Program) (names : List Str) : Tab := fun k => match names[k]? with
  | none => none
  | some x => ((recsOf q).find? (fun d => d.name == x)).map fun d => ⟨d.name, d.params, d.body, d.scope⟩

noncomputable def biTab : List (Str × Gl) := [("len", .bi .len), ("range", .bi .range), ("list", .bi .list), ("dict", .bi .dict), ("sorted", .bi .sorted), ("int", .bi .int), ("min", .bi .min), ("max", .bi .max), ("isinstance", .isinst), ("bool", .ty .bool), ("tuple", .ty .tuple), ("str", .ty .str)]
noncomputable def glV : Gl → Value
  | .bi b => b.py
  | .ty t => t.py
  | _ => .builtin "isinstance"
noncomputable def glOf (T : Tab) (names : List Str) : Names := fun x => match biTab.lookup x with
  | some g => some g
  | none => match names.findIdx? (· == x) with
    | some k => if (T k).isSome then some (.fn k) else none
    | none => if x == "MOST_STATES" then some (.const 100) else if x == "MOST_MOVES" then some (.const 1000) else none

theorem bi_boot : biTab.all (fun e => decide (bootBuiltins e.1 = some (glV e.2))) = true := by decide +kernel
theorem bi_none : biTab.all (fun e => match e.2 with | .bi _ => true | .isinst => true | .ty _ => true | _ => false) = true := by decide +kernel

noncomputable def freeB (q : Program) (loose : List Str) : Bool := biTab.all fun e =>
  !(startupNames.contains e.1) && !(loose.contains e.1) && !(((recsOf q).map (·.name)).contains e.1) && !(((litsOf q).map (·.1)).contains e.1) && !(((clssOf q loose).map (·.name)).contains e.1) && e.1 != "__name__"

theorem names_gl {q : Program} {loose : List Str} {mean : ExcName → Option Value} {mg mb : Str → Option Value} {h : Heap} {names : List Str} (T : Top q loose mean mg mb h) (hf : freeB q loose = true)
    (c1 : valOf q "MOST_STATES" = some (.int 100)) (c2 : valOf q "MOST_MOVES" = some (.int 1000)) :
    ∀ x g, glOf (tabOf q names) names x = some g → IsGl (tabOf q names) h mg mb x g := by
  intro x g hg
  unfold glOf at hg
  split at hg
  · rename_i g' hl
    cases hg
    have hm := mem_of_lookup hl
    have h1 := List.all_eq_true.mp hf _ hm
    have h2 := of_decide_eq_true (List.all_eq_true.mp bi_boot _ hm)
    have h3 := List.all_eq_true.mp bi_none _ hm
    simp only [Bool.and_eq_true, Bool.not_eq_true', List.contains_eq_mem, decide_eq_false_iff_not, bne_iff_ne] at h1
    obtain ⟨⟨⟨⟨⟨a1, a2⟩, a3⟩, a4⟩, a5⟩, a6⟩ := h1
    have n1 := T.free x a1 a2 a3 a4 a5
    have n2 : mb x = some (glV g) := (T.builtins x a6).trans h2
    cases g with
    | bi b => exact ⟨n1, n2⟩
    | ty t => exact ⟨n1, n2⟩
    | isinst => exact ⟨n1, n2⟩
    | fn k => cases h3
    | const i => cases h3
  · split at hg
    · rename_i k hk
      split at hg
      · rename_i hs
        cases hg
        obtain ⟨f, hf'⟩ := Option.isSome_iff_exists.mp hs
        have hf0 := hf'
        unfold tabOf at hf'
        split at hf'
        · cases hf'
        · rename_i y hy
          obtain ⟨d, hd, e⟩ := Option.map_eq_some_iff.mp hf'
          have hdm := List.mem_of_find?_eq_some hd
          have hdn : d.name = y := beq_iff_eq.mp (List.find?_some (p := fun d : DefRec => d.name == y) hd)
          obtain ⟨hlt, hxy, _⟩ := List.findIdx?_eq_some_iff_getElem.mp hk
          have hxy : names[k] = x := beq_iff_eq.mp hxy
          rw [List.getElem?_eq_getElem hlt] at hy
          have hyx : y = x := by injection hy with hy; rw [← hy, hxy]
          obtain ⟨a, o, pm, code, doc, m1, m2, m3, m4⟩ := T.fn d hdm
          refine ⟨a, f, by rw [← hyx, ← hdn]; exact m1, hf0, o, pm, code, doc, m2, ?_, ?_⟩
          · rw [← e]; exact m3
          · rw [← e]; exact m4
      · cases hg
    · split at hg
      · rename_i he
        cases hg
        obtain ⟨v, m1, m2⟩ := T.const _ _ c1
        rw [beq_iff_eq.mp he]
        have := m2 h
        cases this with
        | int i t => exact ⟨t, m1⟩
      · split at hg
        · rename_i he
          cases hg
          obtain ⟨v, m1, m2⟩ := T.const _ _ c2
          rw [beq_iff_eq.mp he]
          have := m2 h
          cases this with
          | int i t => exact ⟨t, m1⟩
        · cases hg

theorem data_ne {h : Heap} {a b : Addr} {o o' : Obj} (ga : h.get? a = some o) (gb : h.get? b = some o') (hd : o.data ≠ o'.data) : a ≠ b := by
  rintro rfl
  rw [ga] at gb; cases gb; exact hd rfl

theorem gd_of {q : Program} {loose : List Str} {mean : ExcName → Option Value} {mg mb : Str → Option Value} {s : Shared} {names : List Str} (T : Top q loose mean mg mb s.heap) (hf : freeB q loose = true)
    (c1 : valOf q "MOST_STATES" = some (.int 100)) (c2 : valOf q "MOST_MOVES" = some (.int 1000)) (him : importsNone q = true) {scr : Addr} {os : Obj} {vs : Array Value} {n : Nat} (gs : s.heap.get? scr = some os) (ds : os.data = .seq vs n) :
    Gd (glOf (tabOf q names) names) (tabOf q names) s scr := by
  have nsne : ∀ {a m}, s.heap.Ns a m → a ≠ scr := fun hn => by
    obtain ⟨o, es, ep, g, d, _⟩ := hn
    exact data_ne g gs (by rw [d, ds]; intro h; cases h)
  have nsk : ∀ {a m}, s.heap.Ns a m → ∀ h' : Heap, (∀ b o, s.heap.get? b = some o → b ≠ scr → h'.get? b = some o) → h'.Ns a m := fun hn h' hk => by
    have hne := nsne hn
    exact hn.at' fun o e => hk _ o e hne
  refine ⟨⟨mg, mb, T.g, T.b, names_gl T hf c1 c2⟩, nsne T.g, nsne T.b, fun k f hk => ?_, fun a f hfa => ?_, T.nolimit, fun c nm hc h' hk => ?_, fun h' hk => ?_, ?_⟩
  · unfold tabOf at hk
    split at hk
    · cases hk
    · obtain ⟨d, hd, e⟩ := Option.map_eq_some_iff.mp hk
      obtain ⟨a, o, pm, code, doc, m1, m2, m3, m4⟩ := T.fn d (List.mem_of_find?_eq_some hd)
      exact ⟨a, o, pm, code, doc, m2, by rw [← e]; exact m3, by rw [← e]; exact m4⟩
  · obtain ⟨o, pm, code, doc, g, d, _⟩ := hfa
    exact data_ne g gs (by rw [d, ds]; intro h; cases h)
  · obtain ⟨b, o, fs, t, e, g, d, r⟩ := hc
    exact ⟨b, o, fs, t, e, hk _ _ g (data_ne g gs (by rw [d, ds]; intro h; cases h)), d, r⟩
  · obtain ⟨mc, hn, r⟩ := T.nolimit
    exact ⟨mc, nsk hn h' hk, r⟩
  · obtain ⟨mm, hn, _⟩ := (T.seer him).mods
    obtain ⟨o, g⟩ := Ns.obj hn
    exact ⟨o, g, nsne hn⟩
end Tw
end

section
namespace Tw
open PySem PySem.W PyProof.Rows

theorem ints_of {R : WRecords} : ∀ {ds : List WData}, WShape.hasItems R ds .int = true → ∃ xs : List Int, ds = xs.map WData.int
  | [], _ => ⟨[], rfl⟩
  | d :: r, h => by
    simp only [WShape.hasItems, Bool.and_eq_true] at h
    obtain ⟨xs, e⟩ := ints_of h.2
    obtain ⟨i, e'⟩ := hasW_int h.1
    exact ⟨i :: xs, by rw [e, e']; rfl⟩

theorem args_law {l : OpenLaw} {n : Nat} (hm : l.most = some n) (hb : l.bound = none) {args : List WData} (h : l.row.toRowW.claim.pre args = true) : ∃ xs : List Int, args = [.list (xs.map WData.int)] ∧ xs.length ≤ n := by
  obtain ⟨h1, h2⟩ := pre_splitW h
  obtain ⟨d, r, rfl, h3, h4⟩ := hasAllW_cons h1
  obtain rfl := hasAllW_nil h4
  obtain ⟨ds, rfl, h5⟩ := hasW_list h3
  obtain ⟨xs, rfl⟩ := ints_of h5
  refine ⟨xs, rfl, ?_⟩
  have h2 : l.pre.holds l.row.toRowW.records { args := [.list (xs.map WData.int)] } = true := h2
  unfold OpenLaw.pre at h2
  rw [hm, hb] at h2
  simp [WTm.holds, WTm.value, less?, Num.less?] at h2
  by_cases hlt : n < xs.length
  · rw [decide_eq_true hlt] at h2; cases h2
  · omega

theorem reps_ints_of {R : WRecords} {cl : Str → Option Addr} {h : Heap} {ι : List Addr} : ∀ {xs : List Int} {vs : List Value} {as : List Addr}, ReadsAllW R cl h vs (xs.map WData.int) as → RepVs ι h vs (xs.map V.int)
  | [], vs, as, r => by cases r; exact .nil
  | x :: xs, vs, as, r => by
    cases r with
    | cons h1 h2 => cases h1; exact .cons (.int _ _) (reps_ints_of h2)

theorem post_law {l : OpenLaw} {args : List WData} : l.row.toRowW.claim.post args (.bool true) args = true := by
  show WTm.holds _ (.eq .res (.lit (.bool true))) _ = true
  simp [WTm.holds, WTm.value, same]

theorem walk_law {q : Program} {l : OpenLaw} {n D kl : Nat} {Φ : Nat → Option Fn} {names : List Str} {d : DefRec} {XP : (Str → Option Value) → Heap → Prop} {YP : World → Heap → Prop} (hm : l.most = some n) (hb : l.bound = none) (hn : n ≤ 1000)
    (hf : freeB q (looseW q []) = true) (c1 : valOf q "MOST_STATES" = some (.int 100)) (c2 : valOf q "MOST_MOVES" = some (.int 1000)) (him : importsNone q = true)
    (ok : TabOk ⟨l.prog, glOf (tabOf q names) names, tabOf q names⟩ Φ) (hd : d ∈ recsOf q) (hk : tabOf q names kl = some ⟨d.name, d.params, d.body, d.scope⟩) (hD : D ≤ 100)
    (law : ∀ xs : List Int, xs.length ≤ n → Calls Φ D kl [.ref 0] [.frz (xs.map V.int)] fun v _ => v = .bool true) :
    WalkO q [] XP YP l.row.toRowW d [] fun f vs => PySem.call f vs := by
  intro w s₀ s₁ mg mb G Y a o pm cd doc dV kV ga da hcd hdf hmg hgens args vals as hpre hlay hrd hwell hlow
  obtain ⟨xs, rfl, hlen⟩ := args_law hm hb hpre
  cases hrd with
  | cons h1 h2 =>
    cases h2
    cases h1 with
    | @list scr os vs m _ as' gs cs ds rs =>
      have hGd := gd_of (names := names) G.T hf c1 c2 him gs ds
      obtain ⟨a', o', pm', code', doc', m1, m2, m3, m4⟩ := G.T.fn d hd
      have ea : a = a' := by rw [hmg] at m1; injection m1 with m1; injection m1
      subst ea
      have W : Wd w (fun b ob => s₁.heap.get? b = some ob ∧ b ≠ scr) s₁ scr [scr] [.frz (xs.map V.int)] s₁ := {
        same := ⟨_, _, rfl⟩
        len := rfl
        nodup := by simp
        objs := fun k b ob hb ho => by
          cases k with
          | zero =>
            simp at hb ho; subst hb; subst ho
            exact ⟨vs, ⟨os, gs, cs, m, ds⟩, reps_ints_of rs, by simp; exact Nat.le_trans hlen (Nat.le_trans hn (by decide))⟩
          | succ k => simp at hb
        low := fun b hb => by
          simp at hb; subst hb
          have := hlow b (by simp)
          simpa using this
        scr := fun _ e => e
        scrI := fun k hk => by
          cases k with
          | zero => exact ⟨_, rfl⟩
          | succ k => simp at hk
        scrIn := by simp
        prot := fun b ob p => p.1
        protI := fun b ob p hb => by simp at hb; exact p.2 hb }
      have ao : AOk callerA D := ⟨rfl, by show 301 + D < 1000; omega, by show 4 + 4 * D + 100 < 9900; omega⟩
      refine mono' (calls_ok ok D hGd (fun b ob e hne => ⟨e, hne⟩) W ao hk ⟨o', pm', code', doc', m2, m3, m4⟩ (vals := [.ref scr]) (vs := [.ref 0]) (.cons (.ref rfl) .nil) (law xs hlen)) fun v s' ⟨v', ι', H', M', W', rv, hq⟩ => ?_
      subst hq
      cases rv
      refine ⟨.inl ⟨_, .bool true, [], rfl, fun _ => rfl, .bool true, post_law, fun _ => ⟨List.nodup_nil, fun _ hm => nomatch hm⟩⟩, .of_keep fun b ob e => ?_, ?_, ?_⟩
      · by_cases hb : b = scr
        · subst hb; exact W'.scr _ e
        · exact W'.prot _ _ ⟨e, hb⟩
      · obtain ⟨h', tk, e⟩ := W'.same; rw [e]
      · obtain ⟨h', tk, e⟩ := W'.same; rw [e]; exact .of_eq hgens

theorem tab_of {p : Pg} {Φ : Nat → Option Fn} (h : ∀ k fn, Φ k = some fn → ((p.T k).bind fun f => (trF p 60 f).map (·.1)) = some fn) : TabOk p Φ := by
  intro k f fn hT hΦ
  have := h k fn hΦ
  rw [hT] at this
  simp only [Option.bind_some] at this
  obtain ⟨x, _, rfl⟩ := Option.map_eq_some_iff.mp this
  exact x.2

theorem law_holds {q : Program} {l : OpenLaw} {n D kl : Nat} {Φ : Nat → Option Fn} {names : List Str} {d : DefRec} {XP : (Str → Option Value) → Heap → Prop} {YP : World → Heap → Prop} {x : Str} (hm : l.most = some n) (hb : l.bound = none) (hn : n ≤ 1000)
    (hf : freeB q (looseW q []) = true) (c1 : valOf q "MOST_STATES" = some (.int 100)) (c2 : valOf q "MOST_MOVES" = some (.int 1000)) (him : importsNone q = true)
    (ok : ∀ k fn, Φ k = some fn → ((tabOf q names k).bind fun f => (trF ⟨l.prog, glOf (tabOf q names) names, tabOf q names⟩ 60 f).map (·.1)) = some fn)
    (hx : names[kl]? = some x) (hd : (recsOf q).find? (fun d => d.name == x) = some d) (hD : D ≤ 100)
    (law : ∀ xs : List Int, xs.length ≤ n → Calls Φ D kl [.ref 0] [.frz (xs.map V.int)] fun v _ => v = .bool true) :
    WalkO q [] XP YP l.row.toRowW d [] fun f vs => PySem.call f vs :=
  walk_law (Φ := Φ) (names := names) (kl := kl) hm hb hn hf c1 c2 him (tab_of ok) (List.mem_of_find?_eq_some hd) (by unfold tabOf; rw [hx]; simp only; rw [hd]; rfl) hD law
/-- a law's functions, as a list -/
noncomputable def tabFn (l : List (Nat × Fn)) (k : Nat) : Option Fn := match l with
  | [] => none
  | (j, f) :: r => if k = j then some f else tabFn r k
theorem tab_all {P : Nat → Fn → Prop} : ∀ {l : List (Nat × Fn)}, (∀ x ∈ l, P x.1 x.2) → ∀ k fn, tabFn l k = some fn → P k fn
  | [], _, _, _, e => nomatch e
  | (j, f) :: r, h, k, fn, e => by
    unfold tabFn at e
    by_cases hk : k = j
    · rw [if_pos hk] at e; injection e with e; subst e; subst hk; exact h _ List.mem_cons_self
    · rw [if_neg hk] at e; exact tab_all (fun x hx => h x (List.mem_cons_of_mem _ hx)) k fn e
theorem all_nil {P : Nat × Fn → Prop} : ∀ x ∈ ([] : List (Nat × Fn)), P x := fun _ h => nomatch h
theorem all_cons {P : Nat × Fn → Prop} {y : Nat × Fn} {l : List (Nat × Fn)} (h1 : P y) (h2 : ∀ x ∈ l, P x) : ∀ x ∈ y :: l, P x := fun x h => by
  rcases List.mem_cons.mp h with rfl | h
  · exact h1
  · exact h2 x h
end Tw
end

section
namespace Tw
open PySem
/-- the functions' numbers -/
noncomputable def fnNames : List Str := (["need", "checked", "leaving", "gone_on", "told_back", "way", "reads", "writings", "turned", "joined", "nearer", "between", "steps", "led_from", "rests", "written", "lag", "path_to", "path_on", "shown", "gone_through", "unlike", "twofold", "ahead",
  "law", "_law_cell", "_law_signs", "_law_machine", "_law_whole", "_law_text", "_law_moves", "_law_steps", "_law_walk", "_law_is_plain", "_law_together", "_law_texts", "_law_ringed", "_law_is_way", "_law_is_refused", "_law_all", "_law_walked", "_law_turned", "_law_road", "_law_rests", "_law_refused", "_law_reader", "_law_plain", "_law_pairs", "_law_on", "_law_least", "_law_leads", "_law_layer", "_law_is_row", "_law_ends_so", "_law_due", "_law_alike"] : List String).map Str.ofString
end Tw
end

section
namespace Tw

/-! what holds after, may be weakened -/
noncomputable def MonoC (C : Ora) : Prop := ∀ f vs h (Q Q' : V → H → Prop), (∀ v h, Q v h → Q' v h) → C f vs h Q → C f vs h Q'

theorem BinW.mono {op : Bop} {a b : V} {h : H} {Q Q' : V → H → Prop} (m : ∀ v h, Q v h → Q' v h) (x : BinW op a b h Q) : BinW op a b h Q' := by
  cases op with
  | add =>
    cases a with
    | int => exact asInt.mono (fun _ x => m _ _ x) x
    | str => exact asStr.mono (fun _ x => ⟨x.1, m _ _ x.2⟩) x
    | ref => exact asRef.mono (fun _ ⟨a, b, h1, h2, h3, h4⟩ => ⟨a, b, h1, h2, h3, m _ _ h4⟩) x
    | _ => exact x
  | sub => exact asInt.mono (fun _ x => asInt.mono (fun _ x => m _ _ x) x) x
  | mul =>
    cases a with
    | int => exact asInt.mono (fun _ x => ⟨x.1, m _ _ x.2⟩) x
    | _ => exact x
  | fdiv => exact asInt.mono (fun _ x => asInt.mono (fun _ x => ⟨x.1, x.2.1, m _ _ x.2.2⟩) x) x
  | mod => exact asInt.mono (fun _ x => asInt.mono (fun _ x => ⟨x.1, m _ _ x.2⟩) x) x
theorem truth.mono {v : V} {h : H} {Q Q' : Bool → Prop} (m : ∀ b, Q b → Q' b) (x : truth v h Q) : truth v h Q' := by
  cases v with
  | none => exact m _ x
  | bool => exact m _ x
  | _ => exact x
theorem EqG.mono {a b : V} {h : H} {Q Q' : Bool → Prop} (m : ∀ b, Q b → Q' b) (x : EqG a b h Q) : EqG a b h Q' := by
  obtain ⟨d₁, d₂, h1, h2, h3, h4, h5⟩ := x; exact ⟨d₁, d₂, h1, h2, h3, h4, m _ h5⟩
theorem EqW.mono {a b : V} {h : H} {Q Q' : Bool → Prop} (m : ∀ b, Q b → Q' b) (x : EqW a b h Q) : EqW a b h Q' := by
  cases a with
  | bool => exact asBool.mono (fun _ x => m _ x) x
  | _ => exact EqG.mono m x
theorem InW.mono {a b : V} {h : H} {Q Q' : Bool → Prop} (m : ∀ b, Q b → Q' b) (x : InW a b h Q) : InW a b h Q' :=
  asRef.mono (fun n x => by
    revert x
    generalize h[n]? = o
    intro x
    match o, x with
    | some (.list _), ⟨d, ds, h1, h2, h3, h4, h5⟩ => exact ⟨d, ds, h1, h2, h3, h4, m _ h5⟩
    | some (.dict _ _), x => exact ⟨x.1, m _ x.2⟩) x
theorem SameW.mono {a b : V} {Q Q' : Bool → Prop} (m : ∀ b, Q b → Q' b) (x : SameW a b Q) : SameW a b Q' := by
  cases b with
  | none => exact m _ x
  | bool => exact asBool.mono (fun _ x => m _ x) x
  | _ => exact x
theorem CmpW.mono {op : Cmp} {a b : V} {h : H} {Q Q' : Bool → Prop} (m : ∀ b, Q b → Q' b) (x : CmpW op a b h Q) : CmpW op a b h Q' := by
  cases op with
  | eq => exact EqW.mono m x
  | ne => exact EqW.mono (fun b q => m _ q) x
  | isIn => exact InW.mono m x
  | notIn => exact InW.mono (fun b q => m _ q) x
  | is => exact SameW.mono m x
  | isNot => exact SameW.mono (fun b q => m _ q) x
  | _ => exact asInt.mono (fun _ x => asInt.mono (fun _ x => m _ x) x) x
theorem SubW.mono {a i : V} {h : H} {Q Q' : V → Prop} (m : ∀ b, Q b → Q' b) (x : SubW a i h Q) : SubW a i h Q' := by
  cases a with
  | tup => exact asInt.mono (fun _ ⟨v, h1, h2, h3⟩ => ⟨v, h1, h2, m _ h3⟩) x
  | str => exact asInt.mono (fun _ ⟨v, h1, h2, h3⟩ => ⟨v, h1, h2, m _ h3⟩) x
  | ref n =>
    revert x
    show (match h[n]? with | some (.list vs) => _ | some (.frz vs) => _ | some (.dict es _) => _ | none => _) → (match h[n]? with | some (.list vs) => _ | some (.frz vs) => _ | some (.dict es _) => _ | none => _)
    generalize h[n]? = o
    intro x
    match o, x with
    | some (.list _), x => exact asInt.mono (fun _ x => x.imp (fun ⟨v, h1, h2, h3⟩ => ⟨v, h1, h2, m _ h3⟩) fun ⟨v, h1, h2, h3⟩ => ⟨v, h1, h2, m _ h3⟩) x
    | some (.frz _), x => exact asInt.mono (fun _ ⟨v, h1, h2, h3⟩ => ⟨v, h1, h2, m _ h3⟩) x
    | some (.dict _ _), ⟨h1, v, h2, h3⟩ => exact ⟨h1, v, h2, m _ h3⟩
  | _ => exact x
theorem SliceW.mono {a lo hi : V} {h : H} {Q Q' : V → H → Prop} (m : ∀ v h, Q v h → Q' v h) (x : SliceW a lo hi h Q) : SliceW a lo hi h Q' := by
  cases a with
  | str => obtain ⟨i, j, h1, h2, h3⟩ := x; exact ⟨i, j, h1, h2, m _ _ h3⟩
  | ref => obtain ⟨vs, i, j, h1, h2, h3, h4⟩ := x; exact ⟨vs, i, j, h1, h2, h3, m _ _ h4⟩
  | _ => exact x
theorem LenW.mono {v : V} {h : H} {Q Q' : V → H → Prop} (m : ∀ v h, Q v h → Q' v h) (x : LenW v h Q) : LenW v h Q' := by
  cases v with
  | str => exact m _ _ x
  | tup => exact m _ _ x
  | ref n =>
    revert x
    unfold LenW
    dsimp only
    generalize h[n]? = o
    intro x
    match o, x with
    | some (.list _), x => exact m _ _ x
    | some (.frz _), x => exact m _ _ x
  | _ => exact x
theorem ListW.mono {v : V} {h : H} {Q Q' : V → H → Prop} (m : ∀ v h, Q v h → Q' v h) (x : ListW v h Q) : ListW v h Q' := by
  cases v with
  | rng => exact ⟨x.1, m _ _ x.2⟩
  | ref n =>
    revert x
    unfold ListW
    dsimp only
    generalize h[n]? = o
    intro x
    match o, x with
    | some (.list _), x => exact ⟨x.1, m _ _ x.2⟩
    | some (.dict _ _), x => exact m _ _ x
  | _ => exact x
theorem RangeW.mono {vs : List V} {h : H} {Q Q' : V → H → Prop} (m : ∀ v h, Q v h → Q' v h) (x : RangeW vs h Q) : RangeW vs h Q' := by
  match vs, x with
  | [a], x => exact asInt.mono (fun _ x => ⟨x.1, m _ _ x.2⟩) x
  | [a, b], x => exact asInt.mono (fun _ x => asInt.mono (fun _ x => ⟨x.1, x.2.1, m _ _ x.2.2⟩) x) x
  | [a, b, c], x => exact asInt.mono (fun _ x => asInt.mono (fun _ x => asInt.mono (fun _ x => ⟨x.1, x.2.1, x.2.2.1, x.2.2.2.1, m _ _ x.2.2.2.2⟩) x) x) x
theorem SortW.mono {v : V} {h : H} {Q Q' : V → H → Prop} (m : ∀ v h, Q v h → Q' v h) (x : SortW v h Q) : SortW v h Q' :=
  asRef.mono (fun _ ⟨vs, h1, h2, h3⟩ => ⟨vs, h1, h2, h3.imp (fun ⟨ks, h4, h5⟩ => ⟨ks, h4, fun ks' p => m _ _ (h5 ks' p)⟩) fun h3 => h3.imp (fun ⟨ks, h4, h5⟩ => ⟨ks, h4, fun ks' p o => m _ _ (h5 ks' p o)⟩) fun h3 =>
    h3⟩) x
theorem DictW.mono {v : V} {h : H} {Q Q' : V → H → Prop} (m : ∀ v h, Q v h → Q' v h) (x : DictW v h Q) : DictW v h Q' :=
  asRef.mono (fun _ x => x.imp (fun ⟨ks, v, ver, h1, h2⟩ => ⟨ks, v, ver, h1, fun ver => m _ _ (h2 ver)⟩) fun ⟨vs, ps, h1, h2, h3⟩ => ⟨vs, ps, h1, h2, fun ver => m _ _ (h3 ver)⟩) x
theorem BiW.mono {b : Bi} {vs : List V} {h : H} {Q Q' : V → H → Prop} (m : ∀ v h, Q v h → Q' v h) (x : BiW b vs h Q) : BiW b vs h Q' := by
  cases b with
  | len => exact arg1.mono (fun _ x => LenW.mono m x) x
  | range => exact RangeW.mono m x
  | list => exact arg1.mono (fun _ x => ListW.mono m x) x
  | sorted => exact arg1.mono (fun _ x => SortW.mono m x) x
  | dict => exact arg1.mono (fun _ x => DictW.mono m x) x
  | int => exact arg1.mono (fun _ x => asBool.mono (fun _ x => m _ _ x) x) x
  | min => exact x
  | max => exact x
theorem IsW.mono {v : V} {t : Ty} {h : H} {Q Q' : Bool → Prop} (m : ∀ b, Q b → Q' b) (x : IsW v t h Q) : IsW v t h Q' := by
  cases v with
  | rng => exact x
  | ref n =>
    revert x
    unfold IsW
    dsimp only
    generalize h[n]? = o
    intro x
    match o, x with
    | some (.list _), x => exact m _ x
    | some (.dict _ _), x => exact m _ x
  | _ => exact m _ x
theorem MethW.mono {mt : Mt} {o : V} {as : List V} {h : H} {Q Q' : V → H → Prop} (m : ∀ v h, Q v h → Q' v h) (x : MethW mt o as h Q) : MethW mt o as h Q' := by
  cases mt with
  | append => exact asRef.mono (fun _ x => arg1.mono (fun _ ⟨vs, h1, h2, h3⟩ => ⟨vs, h1, h2, m _ _ h3⟩) x) x
  | reverse => exact asRef.mono (fun _ x => arg0.mono (fun ⟨vs, h1, h2⟩ => ⟨vs, h1, m _ _ h2⟩) x) x
  | join => exact asStr.mono (fun _ x => arg1.mono (fun _ x => asRef.mono (fun _ ⟨vs, xs, h1, h2, h3, h4, h5⟩ => ⟨vs, xs, h1, h2, h3, h4, m _ _ h5⟩) x) x) x
  | update => exact asRef.mono (fun _ x => arg1.mono (fun _ x => asRef.mono (fun _ ⟨es, ver, es', ver', h1, h2, h3, h4, h5, h6⟩ => ⟨es, ver, es', ver', h1, h2, h3, h4, h5, fun ver => m _ _ (h6 ver)⟩) x) x) x
  | _ => exact x
theorem StoreW.mono {o i v : V} {h : H} {Q Q' : H → Prop} (m : ∀ h, Q h → Q' h) (x : StoreW o i v h Q) : StoreW o i v h Q' :=
  asRef.mono (fun n x => by
    revert x
    generalize h[n]? = o
    intro x
    match o, x with
    | some (.dict _ _), x => exact ⟨x.1, x.2.1, fun ver => m _ (x.2.2 ver)⟩) x
theorem IterW.mono {v : V} {h : H} {Q Q' : It → Prop} (m : ∀ i, Q i → Q' i) (x : IterW v h Q) : IterW v h Q' := by
  cases v with
  | tup => exact m _ x
  | rng => exact m _ x
  | ref n =>
    revert x
    unfold IterW
    dsimp only
    generalize h[n]? = o
    intro x
    match o, x with
    | some (.list _), x => exact m _ x
    | some (.dict _ _), x => exact m _ x
  | _ => exact x
theorem NextW.mono {it : It} {h : H} {p p' : Prop} {Q Q' : V → It → Prop} (m : p → p') (m' : ∀ v i, Q v i → Q' v i) (x : NextW it h p Q) : NextW it h p' Q' := by
  cases it with
  | vals vs =>
    cases vs with
    | nil => exact m x
    | cons => exact m' _ _ x
  | seq n i =>
    revert x
    unfold NextW
    dsimp only
    generalize h[n]? = o
    intro x
    match o, x with
    | some (.list vs), x =>
      revert x
      dsimp only
      generalize vs[i]? = w
      intro x
      match w, x with
      | none, x => exact m x
      | some _, x => exact m' _ _ x
  | keys n ver len i =>
    revert x
    unfold NextW
    dsimp only
    generalize h[n]? = o
    intro x
    match o, x with
    | some (.dict es ver), ⟨x1, x2, x⟩ =>
      refine ⟨x1, x2, ?_⟩
      revert x
      generalize es[i]? = w
      intro x
      match w, x with
      | none, x => exact m x
      | some _, x => exact m' _ _ x
theorem bindT.mono {t : Tgt} {v : V} {ρ : Rho} {Q Q' : Rho → Prop} (m : ∀ r, Q r → Q' r) (x : bindT t v ρ Q) : bindT t v ρ Q' := by
  cases t with
  | name => exact m _ x
  | tup is => exact asTup.mono (fun _ x => ⟨x.1, m _ x.2⟩) x

noncomputable def MonoB (body : V → Rho → H → (Out → Rho → H → Prop) → Prop) : Prop := ∀ v ρ h Q Q', (∀ o r h, Q o r h → Q' o r h) → body v ρ h Q → body v ρ h Q'
noncomputable def MonoT (test : Rho → H → (Bool → H → Prop) → Prop) : Prop := ∀ ρ h Q Q', (∀ b h, Q b h → Q' b h) → test ρ h Q → test ρ h Q'
noncomputable def MonoS (body : Rho → H → (Out → Rho → H → Prop) → Prop) : Prop := ∀ ρ h Q Q', (∀ o r h, Q o r h → Q' o r h) → body ρ h Q → body ρ h Q'
noncomputable def MonoK (turn : V → H → (Option V → H → Prop) → Prop) : Prop := ∀ v h Q Q', (∀ o h, Q o h → Q' o h) → turn v h Q → turn v h Q'

theorem forN_mono {body : V → Rho → H → (Out → Rho → H → Prop) → Prop} (hb : MonoB body) {Q Q' : Out → Rho → H → Prop} (m : ∀ o r h, Q o r h → Q' o r h) : ∀ f it ρ h, forN body f it ρ h Q → forN body f it ρ h Q'
  | 0, _, _, _, x => x
  | f + 1, it, ρ, h, x => NextW.mono (m _ _ _) (fun v i y => hb _ _ _ _ _ (fun o r h z => by cases o with | next => exact forN_mono hb m f _ _ _ z | ret v => exact m _ _ _ z) y) x
theorem whileN_mono {test : Rho → H → (Bool → H → Prop) → Prop} {body : Rho → H → (Out → Rho → H → Prop) → Prop} (ht : MonoT test) (hb : MonoS body) {Q Q' : Out → Rho → H → Prop} (m : ∀ o r h, Q o r h → Q' o r h) : ∀ f ρ h, whileN test body f ρ h Q → whileN test body f ρ h Q'
  | 0, _, _, x => x
  | f + 1, ρ, h, x => ht _ _ _ _ (fun b h y => by
      cases b with
      | true => exact hb _ _ _ _ (fun o r h z => by cases o with | next => exact whileN_mono ht hb m f _ _ z | ret v => exact m _ _ _ z) y
      | false => exact m _ _ _ y) x
theorem compN_mono {turn : V → H → (Option V → H → Prop) → Prop} (ht : MonoK turn) {Q Q' : List V → H → Prop} (m : ∀ o h, Q o h → Q' o h) : ∀ f it h out, compN turn f it h out Q → compN turn f it h out Q'
  | 0, _, _, _, x => x
  | f + 1, it, h, out, x => NextW.mono (m _ _) (fun v i y => ht _ _ _ _ (fun o h z => by
      cases o with
      | some w => exact ⟨z.1, compN_mono ht m f _ _ _ z.2⟩
      | none => exact compN_mono ht m f _ _ _ z) y) x

section
variable {C : Ora}
mutual
theorem wpE_mono (hC : MonoC C) : ∀ (e : E) {ρ : Rho} {h : H} {Q Q' : V → H → Prop}, (∀ v h, Q v h → Q' v h) → wpE C e ρ h Q → wpE C e ρ h Q'
  | .lit v, ρ, h, Q, Q', m, x => m _ _ x
  | .var i, ρ, h, Q, Q', m, x => vK.mono (fun _ y => m _ _ y) x
  | .bin op a b, ρ, h, Q, Q', m, x => wpE_mono hC a (fun v h y => wpE_mono hC b (fun v h z => BinW.mono m z) y) x
  | .neg a, ρ, h, Q, Q', m, x => wpE_mono hC a (fun v h y => asInt.mono (fun _ x => m _ _ x) y) x
  | .not a, ρ, h, Q, Q', m, x => wpE_mono hC a (fun v h y => truth.mono (fun b z => m _ _ z) y) x
  | .and a b, ρ, h, Q, Q', m, x => wpE_mono hC a (fun v h y => truth.mono (fun t z => by cases t with | true => exact wpE_mono hC b m z | false => exact m _ _ z) y) x
  | .or a b, ρ, h, Q, Q', m, x => wpE_mono hC a (fun v h y => truth.mono (fun t z => by cases t with | true => exact m _ _ z | false => exact wpE_mono hC b m z) y) x
  | .cmp op a b, ρ, h, Q, Q', m, x => wpE_mono hC a (fun v h y => wpE_mono hC b (fun v h z => CmpW.mono (fun r w => m _ _ w) z) y) x
  | .cmp2 op1 op2 a b c, ρ, h, Q, Q', m, x => wpE_mono hC a (fun v h y => wpE_mono hC b (fun v h z => CmpW.mono (fun r w => by
      cases r with
      | true => exact wpE_mono hC c (fun v h u => CmpW.mono (fun r w => m _ _ w) u) w
      | false => exact m _ _ w) z) y) x
  | .sub a i, ρ, h, Q, Q', m, x => wpE_mono hC a (fun v h y => wpE_mono hC i (fun v h z => SubW.mono (fun v w => m _ _ w) z) y) x
  | .slice a lo hi, ρ, h, Q, Q', m, x => wpE_mono hC a (fun v h y => wpE_mono hC lo (fun v h z => wpE_mono hC hi (fun v h w => SliceW.mono m w) z) y) x
  | .tup es, ρ, h, Q, Q', m, x => wpEs_mono hC es (fun vs h y => m _ _ y) x
  | .list es, ρ, h, Q, Q', m, x => wpEs_mono hC es (fun vs h y => m _ _ y) x
  | .dict0, ρ, h, Q, Q', m, x => fun ver => m _ _ (x ver)
  | .dict1 k v, ρ, h, Q, Q', m, x => wpE_mono hC k (fun _ h y => wpE_mono hC v (fun _ h z => ⟨z.1, fun ver => m _ _ (z.2 ver)⟩) y) x
  | .comp elt tgt iter cond, ρ, h, Q, Q', m, x => wpE_mono hC iter (fun v h y => IterW.mono (fun i z => by
      obtain ⟨f, z⟩ := z
      refine ⟨f, compN_mono ?_ ?_ _ _ _ _ z⟩
      · intro v h K K' mk w
        refine bindT.mono (fun r u => ?_) w
        refine wpO_mono hC cond (fun b h t => ?_) u
        cases b with
        | true => exact wpE_mono hC elt (fun v h q => mk _ _ q) t
        | false => exact mk _ _ t
      · intro o h w; exact m _ _ w) y) x
  | .call f args, ρ, h, Q, Q', m, x => wpEs_mono hC args (fun vs h y => hC _ _ _ _ _ m y) x
  | .bi b args, ρ, h, Q, Q', m, x => wpEs_mono hC args (fun vs h y => BiW.mono m y) x
  | .isinst a t, ρ, h, Q, Q', m, x => wpE_mono hC a (fun v h y => IsW.mono (fun r z => m _ _ z) y) x
  | .meth mt o args, ρ, h, Q, Q', m, x => wpE_mono hC o (fun v h y => ⟨y.1, wpEs_mono hC args (fun vs h z => MethW.mono m z) y.2⟩) x
theorem wpEs_mono (hC : MonoC C) : ∀ (es : List E) {ρ : Rho} {h : H} {Q Q' : List V → H → Prop}, (∀ v h, Q v h → Q' v h) → wpEs C es ρ h Q → wpEs C es ρ h Q'
  | [], ρ, h, Q, Q', m, x => m _ _ x
  | e :: es, ρ, h, Q, Q', m, x => wpE_mono hC e (fun v h y => wpEs_mono hC es (fun vs h z => m _ _ z) y) x
theorem wpO_mono (hC : MonoC C) : ∀ (e : Option E) {ρ : Rho} {h : H} {Q Q' : Bool → H → Prop}, (∀ v h, Q v h → Q' v h) → wpO C e ρ h Q → wpO C e ρ h Q'
  | none, ρ, h, Q, Q', m, x => m _ _ x
  | some e, ρ, h, Q, Q', m, x => wpT_mono hC e m x
theorem wpT_mono (hC : MonoC C) : ∀ (e : E) {ρ : Rho} {h : H} {Q Q' : Bool → H → Prop}, (∀ v h, Q v h → Q' v h) → wpT C e ρ h Q → wpT C e ρ h Q'
  | .not a, ρ, h, Q, Q', m, x => wpT_mono hC a (fun b h y => m _ _ y) x
  | .and a b, ρ, h, Q, Q', m, x => wpT_mono hC a (fun t h y => by cases t with | true => exact wpT_mono hC b m y | false => exact m _ _ y) x
  | .or a b, ρ, h, Q, Q', m, x => wpT_mono hC a (fun t h y => by cases t with | true => exact m _ _ y | false => exact wpT_mono hC b m y) x
  | .cmp op a b, ρ, h, Q, Q', m, x => wpE_mono hC a (fun v h y => wpE_mono hC b (fun v h z => CmpW.mono (fun r w => m _ _ w) z) y) x
  | .cmp2 op1 op2 a b c, ρ, h, Q, Q', m, x => wpE_mono hC a (fun v h y => wpE_mono hC b (fun v h z => CmpW.mono (fun r w => by
      cases r with
      | true => exact wpE_mono hC c (fun v h u => CmpW.mono (fun r w => m _ _ w) u) w
      | false => exact m _ _ w) z) y) x
  | .lit v, ρ, h, Q, Q', m, x => truth.mono (fun b y => m _ _ y) x
  | .var i, ρ, h, Q, Q', m, x => vK.mono (fun _ y => truth.mono (fun b y => m _ _ y) y) x
  | .call f args, ρ, h, Q, Q', m, x => wpEs_mono hC args (fun vs h y => hC _ _ _ _ _ (fun v h z => truth.mono (fun b w => m _ _ w) z) y) x
  | .isinst a t, ρ, h, Q, Q', m, x => wpE_mono hC a (fun v h y => IsW.mono (fun r z => m _ _ z) y) x
  | .meth mt o args, ρ, h, Q, Q', m, x => wpE_mono hC o (fun v h y => ⟨y.1, wpEs_mono hC args (fun vs h z => MethW.mono (fun v h w => truth.mono (fun b u => m _ _ u) w) z) y.2⟩) x
  | .bin .., _, _, _, _, _, x => x
  | .neg .., _, _, _, _, _, x => x
  | .sub .., _, _, _, _, _, x => x
  | .slice .., _, _, _, _, _, x => x
  | .tup .., _, _, _, _, _, x => x
  | .list .., _, _, _, _, _, x => x
  | .dict0, _, _, _, _, _, x => x
  | .dict1 .., _, _, _, _, _, x => x
  | .comp .., _, _, _, _, _, x => x
  | .bi .., _, _, _, _, _, x => x
end
mutual
theorem wpS_mono (hC : MonoC C) : ∀ (e : S) {ρ : Rho} {h : H} {Q Q' : Out → Rho → H → Prop}, (∀ o r h, Q o r h → Q' o r h) → wpS C e ρ h Q → wpS C e ρ h Q'
  | .assign t e, ρ, h, Q, Q', m, x => wpE_mono hC e (fun v h y => bindT.mono (fun r z => m _ _ _ z) y) x
  | .store o i e, ρ, h, Q, Q', m, x => wpE_mono hC e (fun v h y => wpE_mono hC o (fun v h z => wpE_mono hC i (fun v h w => StoreW.mono (fun h u => m _ _ _ u) w) z) y) x
  | .expr e, ρ, h, Q, Q', m, x => wpE_mono hC e (fun v h y => m _ _ _ y) x
  | .ite t a b, ρ, h, Q, Q', m, x => wpT_mono hC t (fun c h y => by cases c with | true => exact wpB_mono hC a m y | false => exact wpB_mono hC b m y) x
  | .while t b, ρ, h, Q, Q', m, x => by
      obtain ⟨f, x⟩ := x
      refine ⟨f, whileN_mono ?_ ?_ m _ _ _ x⟩
      · intro ρ h Q Q' m x; exact wpT_mono hC t m x
      · intro ρ h Q Q' m x; exact wpB_mono hC b m x
  | .for t it b, ρ, h, Q, Q', m, x => wpE_mono hC it (fun v h y => IterW.mono (fun i z => by
      obtain ⟨f, z⟩ := z
      refine ⟨f, forN_mono ?_ m _ _ _ _ z⟩
      intro v ρ h Q Q' m x
      refine bindT.mono (fun r y => ?_) x
      exact wpB_mono hC b m y) y) x
  | .ret none, ρ, h, Q, Q', m, x => m _ _ _ x
  | .ret (some e), ρ, h, Q, Q', m, x => wpE_mono hC e (fun v h y => m _ _ _ y) x
  | .raise, ρ, h, Q, Q', m, x => x
theorem wpB_mono (hC : MonoC C) : ∀ (e : List S) {ρ : Rho} {h : H} {Q Q' : Out → Rho → H → Prop}, (∀ o r h, Q o r h → Q' o r h) → wpB C e ρ h Q → wpB C e ρ h Q'
  | [], ρ, h, Q, Q', m, x => m _ _ _ x
  | s :: r, ρ, h, Q, Q', m, x => wpS_mono hC s (fun o ρ h y => by cases o with | next => exact wpB_mono hC r m y | ret v => exact m _ _ _ y) x
end
end

theorem calls_mono {Φ : Nat → Option Fn} : ∀ d, MonoC (Calls Φ d)
  | 0 => fun _ _ _ _ _ _ x => x
  | d + 1 => fun f vs h Q Q' m x => by
    obtain ⟨fn, h1, h2, h3⟩ := x
    exact ⟨fn, h1, h2, wpB_mono (calls_mono d) _ (fun o r h y => m _ _ y) h3⟩

/-! loops with an invariant -/
/-- an iterator that goes through a list, as long as K holds of the heap -/
noncomputable def Goes (it : Nat → It) (vs : List V) (K : H → Prop) : Prop := ∀ i h (stop : Prop) (item : V → It → Prop), K h → (match vs[i]? with | none => stop | some v => item v (it (i + 1))) → NextW (it i) h stop item
theorem goes_vals (vs : List V) : Goes (fun i => .vals (vs.drop i)) vs fun _ => True := by
  intro i h stop item _ x
  dsimp only at x ⊢
  by_cases hi : i < vs.length
  · rw [List.getElem?_eq_getElem hi] at x; rw [List.drop_eq_getElem_cons hi]; exact x
  · rw [List.getElem?_eq_none (by omega)] at x; rw [List.drop_of_length_le (show vs.length ≤ i by omega)]; exact x
theorem goes_seq (n : Nat) (vs : List V) : Goes (fun i => .seq n i) vs fun h => h[n]? = some (.list vs) := by
  intro i h stop item hk x
  unfold NextW
  dsimp only
  rw [hk]
  exact x
theorem goes_keys (n ver : Nat) (es : List (V × V)) : Goes (fun i => .keys n ver es.length i) (es.map (·.1)) fun h => h[n]? = some (.dict es ver) := by
  intro i h stop item hk x
  unfold NextW
  dsimp only
  rw [hk]
  refine ⟨rfl, rfl, ?_⟩
  rw [List.getElem?_map] at x
  cases hv : es[i]? with
  | none => rw [hv] at x; exact x
  | some e => rw [hv] at x; exact x
theorem forN_it {body : V → Rho → H → (Out → Rho → H → Prop) → Prop} (hb : MonoB body) {Q : Out → Rho → H → Prop} {it : Nat → It} {vs : List V} {K : H → Prop} (g : Goes it vs K) (I : Nat → Rho → H → Prop)
    (hl : ∀ i ρ h, I i ρ h → K h) (step : ∀ i v ρ h, vs[i]? = some v → I i ρ h → body v ρ h fun o ρ' h' => match o with | .next => I (i + 1) ρ' h' | .ret w => Q (.ret w) ρ' h')
    (fin : ∀ ρ h, I vs.length ρ h → Q .next ρ h) : ∀ (f i : Nat) ρ h, i ≤ vs.length → vs.length < f + i → I i ρ h → forN body f (it i) ρ h Q
  | 0, i, _, _, h1, h2, _ => by omega
  | f + 1, i, ρ, h, h1, h2, hI => by
    refine g i h _ _ (hl i ρ h hI) ?_
    by_cases hi : i < vs.length
    · rw [List.getElem?_eq_getElem hi]
      refine hb _ _ _ _ _ (fun o ρ' h' y => ?_) (step i vs[i] ρ h (List.getElem?_eq_getElem hi) hI)
      cases o with
      | ret w => exact y
      | next => exact forN_it hb g I hl step fin f (i + 1) ρ' h' (by omega) (by omega) y
    · have : i = vs.length := by omega
      subst this
      rw [List.getElem?_eq_none (Nat.le_refl _)]
      exact fin ρ h hI
theorem for_it {body : V → Rho → H → (Out → Rho → H → Prop) → Prop} (hb : MonoB body) {Q : Out → Rho → H → Prop} {it : Nat → It} {vs : List V} {K : H → Prop} (g : Goes it vs K) {ρ : Rho} {h : H} (I : Nat → Rho → H → Prop) (h0 : I 0 ρ h)
    (hl : ∀ i ρ h, I i ρ h → K h) (step : ∀ i v ρ h, vs[i]? = some v → I i ρ h → body v ρ h fun o ρ' h' => match o with | .next => I (i + 1) ρ' h' | .ret w => Q (.ret w) ρ' h')
    (fin : ∀ ρ h, I vs.length ρ h → Q .next ρ h) : ∃ f, forN body f (it 0) ρ h Q := ⟨vs.length + 1, forN_it hb g I hl step fin _ 0 ρ h (Nat.zero_le _) (by omega) h0⟩

theorem while_inv {test : Rho → H → (Bool → H → Prop) → Prop} {body : Rho → H → (Out → Rho → H → Prop) → Prop} (ht : MonoT test) (hb : MonoS body) {Q : Out → Rho → H → Prop} (I : Nat → Rho → H → Prop)
    (step : ∀ n ρ h, I n ρ h → test ρ h fun b h' => match b with
      | true => body ρ h' fun o ρ'' h'' => match o with | .next => ∃ m, m < n ∧ I m ρ'' h'' | .ret w => Q (.ret w) ρ'' h''
      | false => Q .next ρ h') : ∀ (n : Nat) ρ h, I n ρ h → ∃ f, whileN test body f ρ h Q := by
  have key : ∀ (n f : Nat) ρ h, n < f → I n ρ h → whileN test body f ρ h Q := by
    intro n
    induction n using Nat.strongRecOn with
    | ind n ih =>
      intro f ρ h hf hI
      cases f with
      | zero => omega
      | succ f =>
        refine ht _ _ _ _ (fun b h' y => ?_) (step n ρ h hI)
        cases b with
        | false => exact y
        | true =>
          refine hb _ _ _ _ (fun o ρ'' h'' z => ?_) y
          cases o with
          | ret w => exact z
          | next => obtain ⟨m, hm, hI'⟩ := z; exact ih m hm f ρ'' h'' (by omega) hI'
  exact fun n ρ h hI => ⟨n + 1, key n (n + 1) ρ h (by omega) hI⟩

theorem compN_it {turn : V → H → (Option V → H → Prop) → Prop} (ht : MonoK turn) {Q : List V → H → Prop} {it : Nat → It} {vs : List V} {K : H → Prop} (g : Goes it vs K) (I : Nat → List V → H → Prop) (hl : ∀ i out h, I i out h → K h)
    (step : ∀ i v out h, vs[i]? = some v → I i out h → turn v h fun o h' => match o with | some x => out.length < SZ ∧ I (i + 1) (out ++ [x]) h' | none => I (i + 1) out h')
    (fin : ∀ out h, I vs.length out h → Q out h) : ∀ (f i : Nat) out h, i ≤ vs.length → vs.length < f + i → I i out h → compN turn f (it i) h out Q
  | 0, i, _, _, h1, h2, _ => by omega
  | f + 1, i, out, h, h1, h2, hI => by
    refine g i h _ _ (hl i out h hI) ?_
    by_cases hi : i < vs.length
    · rw [List.getElem?_eq_getElem hi]
      refine ht _ _ _ _ (fun o h' y => ?_) (step i vs[i] out h (List.getElem?_eq_getElem hi) hI)
      cases o with
      | some x => exact ⟨y.1, compN_it ht g I hl step fin f (i + 1) _ h' (by omega) (by omega) y.2⟩
      | none => exact compN_it ht g I hl step fin f (i + 1) _ h' (by omega) (by omega) y
    · have : i = vs.length := by omega
      subst this
      rw [List.getElem?_eq_none (Nat.le_refl _)]
      exact fin out h hI
theorem comp_it {turn : V → H → (Option V → H → Prop) → Prop} (ht : MonoK turn) {Q : List V → H → Prop} {it : Nat → It} {vs : List V} {K : H → Prop} (g : Goes it vs K) {h : H} (I : Nat → List V → H → Prop) (h0 : I 0 [] h) (hl : ∀ i out h, I i out h → K h)
    (step : ∀ i v out h, vs[i]? = some v → I i out h → turn v h fun o h' => match o with | some x => out.length < SZ ∧ I (i + 1) (out ++ [x]) h' | none => I (i + 1) out h') (fin : ∀ out h, I vs.length out h → Q out h) : ∃ f, compN turn f (it 0) h [] Q :=
  ⟨vs.length + 1, compN_it ht g I hl step fin _ 0 [] h (Nat.zero_le _) (by omega) h0⟩
end Tw
end

section
namespace Tw

theorem iter_list {n : Nat} {vs : List V} {h : H} {Q : It → Prop} (x : h[n]? = some (.list vs)) (q : Q (.seq n 0)) : IterW (.ref n) h Q := by
  unfold IterW; dsimp only; rw [x]; exact q
theorem iter_dict {n : Nat} {es : List (V × V)} {ver : Nat} {h : H} {Q : It → Prop} (x : h[n]? = some (.dict es ver)) (q : Q (.keys n ver es.length 0)) : IterW (.ref n) h Q := by
  unfold IterW; dsimp only; rw [x]; exact q

/-! rules, statement by statement -/
section
variable {C : Ora} {ρ : Rho} {h : H} {Q : Out → Rho → H → Prop} {r : List S}
theorem B_nil (x : Q .next ρ h) : wpB C [] ρ h Q := x
theorem B_assign {t : Tgt} {e : E} (x : wpE C e ρ h fun v h₁ => bindT t v ρ fun ρ' => wpB C r ρ' h₁ Q) : wpB C (.assign t e :: r) ρ h Q := x
theorem B_name {i : Nat} {e : E} (x : wpE C e ρ h fun v h₁ => wpB C r (upd ρ i v) h₁ Q) : wpB C (.assign (.name i) e :: r) ρ h Q := x
theorem B_expr {e : E} (x : wpE C e ρ h fun _ h₁ => wpB C r ρ h₁ Q) : wpB C (.expr e :: r) ρ h Q := x
theorem B_store {o i e : E} (x : wpE C e ρ h fun v h₁ => wpE C o ρ h₁ fun vo h₂ => wpE C i ρ h₂ fun vi h₃ => StoreW vo vi v h₃ fun h₄ => wpB C r ρ h₄ Q) : wpB C (.store o i e :: r) ρ h Q := x
theorem B_ret {e : E} (x : wpE C e ρ h fun v h₁ => Q (.ret v) ρ h₁) : wpB C (.ret (some e) :: r) ρ h Q := x
/-- what comes behind a block -/
noncomputable def thenB (C : Ora) (r : List S) (Q : Out → Rho → H → Prop) : Out → Rho → H → Prop := fun o ρ h => match o with
  | .next => wpB C r ρ h Q
  | .ret v => Q (.ret v) ρ h
theorem B_ite {t : E} {a b : List S} (x : wpT C t ρ h fun c h₁ => match c with | true => wpB C a ρ h₁ (thenB C r Q) | false => wpB C b ρ h₁ (thenB C r Q)) : wpB C (.ite t a b :: r) ρ h Q := x

variable (hC : MonoC C)
include hC
theorem B_if {t : E} {a b : List S} (c : Bool) {h' : H} (ht : wpT C t ρ h fun c' h₁ => c' = c ∧ h₁ = h') (h1 : c = true → wpB C a ρ h' (thenB C r Q)) (h2 : c = false → wpB C b ρ h' (thenB C r Q)) : wpB C (.ite t a b :: r) ρ h Q :=
  B_ite (wpT_mono hC t (fun c' h₁ ⟨e, e'⟩ => by
    subst e; subst e'
    cases c' with
    | true => exact h1 rfl
    | false => exact h2 rfl) ht)
theorem B_for_it {t : Tgt} {e : E} {b : List S} {it : Nat → It} {vs : List V} {K : H → Prop} (g : Goes it vs K) (I : Nat → Rho → H → Prop) (hit : wpE C e ρ h fun v h₁ => (∀ Q : It → Prop, Q (it 0) → IterW v h₁ Q) ∧ I 0 ρ h₁) (hl : ∀ i ρ h, I i ρ h → K h)
    (step : ∀ i v ρ h, vs[i]? = some v → I i ρ h → bindT t v ρ fun ρ' => wpB C b ρ' h fun o ρ' h' => match o with | .next => I (i + 1) ρ' h' | .ret w => Q (.ret w) ρ' h') (fin : ∀ ρ h, I vs.length ρ h → wpB C r ρ h Q) : wpB C (.for t e b :: r) ρ h Q := by
  refine wpE_mono hC e (fun v h₁ ⟨hv, hI⟩ => hv _ ?_) hit
  have mb : MonoB (fun v ρ h k => bindT t v ρ fun ρ' => wpB C b ρ' h k) := by intro v ρ h Q Q' m x; exact bindT.mono (fun r y => wpB_mono hC b m y) x
  have : ∃ f, forN (fun v ρ h k => bindT t v ρ fun ρ' => wpB C b ρ' h k) f (it 0) ρ h₁ (thenB C r Q) := by
    refine for_it mb g I hI hl ?_ fin
    intro i v ρ h hv hI
    refine bindT.mono (fun r y => ?_) (step i v ρ h hv hI)
    exact wpB_mono hC b (fun o _ _ z => by cases o <;> exact z) y
  exact this
theorem B_for_seq {t : Tgt} {it : E} {b : List S} {n : Nat} {vs : List V} (I : Nat → Rho → H → Prop) (hit : wpE C it ρ h fun v h₁ => v = .ref n ∧ I 0 ρ h₁) (hl : ∀ i ρ h, I i ρ h → h[n]? = some (.list vs))
    (step : ∀ i v ρ h, vs[i]? = some v → I i ρ h → bindT t v ρ fun ρ' => wpB C b ρ' h fun o ρ' h' => match o with | .next => I (i + 1) ρ' h' | .ret w => Q (.ret w) ρ' h') (fin : ∀ ρ h, I vs.length ρ h → wpB C r ρ h Q) : wpB C (.for t it b :: r) ρ h Q :=
  B_for_it hC (goes_seq n vs) I (wpE_mono hC it (fun v h₁ ⟨e, hI⟩ => ⟨fun _ q => by rw [e]; exact iter_list (hl _ _ _ hI) q, hI⟩) hit) hl step fin
theorem B_for_rng {t : Tgt} {it : E} {b : List S} {x y z : Int} (I : Nat → Rho → H → Prop) (hit : wpE C it ρ h fun v h₁ => v = .rng x y z ∧ I 0 ρ h₁)
    (step : ∀ i v ρ h, (rangeV x y z)[i]? = some v → I i ρ h → bindT t v ρ fun ρ' => wpB C b ρ' h fun o ρ' h' => match o with | .next => I (i + 1) ρ' h' | .ret w => Q (.ret w) ρ' h') (fin : ∀ ρ h, I (rangeV x y z).length ρ h → wpB C r ρ h Q) : wpB C (.for t it b :: r) ρ h Q :=
  B_for_it hC (goes_vals _) I (wpE_mono hC it (fun v h₁ ⟨e, hI⟩ => ⟨fun _ q => by rw [e]; exact q, hI⟩) hit) (fun _ _ _ _ => trivial) step fin
theorem B_while {t : E} {b : List S} (I : Nat → Rho → H → Prop) (n : Nat) (h0 : I n ρ h)
    (step : ∀ n ρ h, I n ρ h → wpT C t ρ h fun c h₁ => match c with
      | true => wpB C b ρ h₁ fun o ρ' h' => match o with | .next => ∃ m, m < n ∧ I m ρ' h' | .ret w => Q (.ret w) ρ' h'
      | false => wpB C r ρ h₁ Q) : wpB C (.while t b :: r) ρ h Q := by
  have : ∃ f, whileN (fun ρ h k => wpT C t ρ h k) (fun ρ h k => wpB C b ρ h k) f ρ h (thenB C r Q) := by
    have mt : MonoT (fun ρ h k => wpT C t ρ h k) := by intro ρ h Q Q' m x; exact wpT_mono hC t m x
    have mb : MonoS (fun ρ h k => wpB C b ρ h k) := by intro ρ h Q Q' m x; exact wpB_mono hC b m x
    refine while_inv mt mb I (fun n ρ h hI => ?_) n ρ h h0
    refine wpT_mono hC t (fun c h₁ y => ?_) (step n ρ h hI)
    cases c with
    | true => exact wpB_mono hC b (fun o _ _ z => by cases o <;> exact z) y
    | false => exact y
  exact this
end

section
variable {C : Ora} {ρ : Rho} {h : H} {Q : V → H → Prop} (hC : MonoC C)
include hC
theorem turn_mono {elt : E} {tgt : Tgt} {cond : Option E} : MonoK (fun v h k => bindT tgt v ρ fun ρ' => wpO C cond ρ' h fun b h₂ => match b with
        | true => wpE C elt ρ' h₂ fun x h₃ => k (some x) h₃
        | false => k none h₂) := fun v h K K' mk w => bindT.mono (fun r u => wpO_mono hC cond (fun b h t => by
        cases b with
        | true => exact wpE_mono hC elt (fun v h q => mk _ _ q) t
        | false => exact mk _ _ t) u) w
theorem E_comp_it {elt e : E} {tgt : Tgt} {cond : Option E} {it : Nat → It} {vs : List V} {K : H → Prop} (g : Goes it vs K) (I : Nat → List V → H → Prop) (hit : wpE C e ρ h fun v h₁ => (∀ Q : It → Prop, Q (it 0) → IterW v h₁ Q) ∧ I 0 [] h₁) (hl : ∀ i out h, I i out h → K h)
    (step : ∀ i v out h, vs[i]? = some v → I i out h → bindT tgt v ρ fun ρ' => wpO C cond ρ' h fun b h₂ => match b with | true => wpE C elt ρ' h₂ fun x h₃ => out.length < SZ ∧ I (i + 1) (out ++ [x]) h₃ | false => I (i + 1) out h₂)
    (fin : ∀ out h, I vs.length out h → Q (.ref h.length) (h ++ [.list out])) : wpE C (.comp elt tgt e cond) ρ h Q := by
  refine wpE_mono hC e (fun v h₁ ⟨hv, hI⟩ => hv _ ?_) hit
  exact comp_it (turn_mono hC) g I hI hl (fun i v out h hv hI => bindT.mono (fun r u => wpO_mono hC cond (fun b h t => by cases b <;> exact t) u) (step i v out h hv hI)) fin
theorem E_comp_rng {elt it : E} {tgt : Tgt} {cond : Option E} {x y z : Int} (I : Nat → List V → H → Prop) (hit : wpE C it ρ h fun v h₁ => v = .rng x y z ∧ I 0 [] h₁)
    (step : ∀ i v out h, (rangeV x y z)[i]? = some v → I i out h → bindT tgt v ρ fun ρ' => wpO C cond ρ' h fun b h₂ => match b with | true => wpE C elt ρ' h₂ fun x h₃ => out.length < SZ ∧ I (i + 1) (out ++ [x]) h₃ | false => I (i + 1) out h₂)
    (fin : ∀ out h, I (rangeV x y z).length out h → Q (.ref h.length) (h ++ [.list out])) : wpE C (.comp elt tgt it cond) ρ h Q :=
  E_comp_it hC (goes_vals _) I (wpE_mono hC it (fun v h₁ ⟨e, hI⟩ => ⟨fun _ q => by rw [e]; exact q, hI⟩) hit) (fun _ _ _ _ => trivial) step fin
end

/-! ranges -/
theorem ints_get : ∀ (n : Nat) (a c : Int) (i : Nat), (intsV a c n)[i]? = if i < n then some (.int (a + i * c)) else none
  | 0, a, c, i => by simp [intsV]
  | n + 1, a, c, 0 => by simp [intsV]
  | n + 1, a, c, i + 1 => by
    rw [intsV, List.getElem?_cons_succ, ints_get n]
    by_cases h : i < n
    · simp [h]; grind
    · simp [h]
theorem ints_len : ∀ (n : Nat) (a c : Int), (intsV a c n).length = n
  | 0, _, _ => rfl
  | n + 1, a, c => by simp [intsV, ints_len n]
theorem rangeV_nat (n : Nat) : rangeV 0 n 1 = intsV 0 1 n := by
  unfold rangeV rangeLen
  by_cases h : (0 : Int) < n
  · rw [if_pos h]; congr 1; omega
  · rw [if_neg h]; congr 1; omega
theorem rangeV_len (n : Nat) : (rangeV 0 n 1).length = n := by rw [rangeV_nat, ints_len]
theorem rangeV_get {n i : Nat} {v : V} (h : (rangeV 0 n 1)[i]? = some v) : i < n ∧ v = .int i := by
  rw [rangeV_nat, ints_get] at h
  by_cases hi : i < n
  · simp [hi] at h; exact ⟨hi, h.symm⟩
  · simp [hi] at h
end Tw
end

section
namespace Tw

/-! each operator at values of a known kind -/
section
variable {h : H} {Q : V → H → Prop} {P : Bool → Prop} {R : V → Prop} {n : Nat} {vs : List V}
theorem x_addi {a b : Int} : BinW .add (.int a) (.int b) h Q = Q (.int (a + b)) h := rfl
theorem x_adds {a b : List Nat} : BinW .add (.str a) (.str b) h Q = (a.length + b.length ≤ SZ ∧ Q (.str (a ++ b)) h) := rfl
theorem x_subi {a b : Int} : BinW .sub (.int a) (.int b) h Q = Q (.int (a - b)) h := rfl
theorem x_muli {a b : Int} : BinW .mul (.int a) (.int b) h Q = (mulOk a b ∧ Q (.int (a * b)) h) := rfl
theorem x_fdiv {a b : Int} : BinW .fdiv (.int a) (.int b) h Q = (b ≠ 0 ∧ b.natAbs < 1073741824 ∧ Q (.int (a.fdiv b)) h) := rfl
theorem x_mod {a b : Int} : BinW .mod (.int a) (.int b) h Q = (b ≠ 0 ∧ Q (.int (a.fmod b)) h) := rfl
theorem x_tb {b : Bool} : truth (.bool b) h P = P b := rfl
theorem x_tn : truth .none h P = P false := rfl
theorem x_eqG {a b : V} {d₁ d₂ : D} {p : Prop} [Decidable p] (h1 : Snap h a d₁) (h2 : Snap h b d₂) (u1 : ∀ d, Snap h a d → d = d₁) (u2 : ∀ d, Snap h b d → d = d₂) (o1 : D.ok 9 d₁ = true) (o2 : D.ok 9 d₂ = true) (hp : (d₁ = d₂) ↔ p) : EqG a b h P = P (decide p) :=
  have e : decide (d₁ = d₂) = decide p := decide_eq_decide.mpr hp
  propext ⟨fun ⟨x, y, s1, s2, _, _, q⟩ => by rw [u1 x s1, u2 y s2, e] at q; exact q, fun q => ⟨d₁, d₂, h1, h2, o1, o2, by rw [e]; exact q⟩⟩
theorem sn_int {a : Int} {d : D} (x : Snap h (.int a) d) : d = .int a := by cases x; rfl
theorem sn_str {a : List Nat} {d : D} (x : Snap h (.str a) d) : d = .str a := by cases x; rfl
theorem D_int {a b : Int} : (D.int a = D.int b) ↔ a = b := ⟨fun h => D.int.inj h, fun h => h ▸ rfl⟩
theorem D_str {a b : List Nat} : (D.str a = D.str b) ↔ a = b := ⟨fun h => D.str.inj h, fun h => h ▸ rfl⟩
theorem x_eqi {a b : Int} : CmpW .eq (.int a) (.int b) h P = P (decide (a = b)) := x_eqG (.int _) (.int _) (fun _ => sn_int) (fun _ => sn_int) rfl rfl D_int
theorem x_eqs {a b : List Nat} : CmpW .eq (.str a) (.str b) h P = P (decide (a = b)) := x_eqG (.str _) (.str _) (fun _ => sn_str) (fun _ => sn_str) rfl rfl D_str
theorem x_eqb {a b : Bool} : CmpW .eq (.bool a) (.bool b) h P = P (decide (a = b)) := rfl
theorem x_nei {a b : Int} : CmpW .ne (.int a) (.int b) h P = P (!decide (a = b)) := x_eqi (P := fun r => P (!r))
theorem x_nes {a b : List Nat} : CmpW .ne (.str a) (.str b) h P = P (!decide (a = b)) := x_eqs (P := fun r => P (!r))
theorem x_lt {a b : Int} : CmpW .lt (.int a) (.int b) h P = P (decide (a < b)) := rfl
theorem x_le {a b : Int} : CmpW .le (.int a) (.int b) h P = P (decide (a ≤ b)) := rfl
theorem x_gt {a b : Int} : CmpW .gt (.int a) (.int b) h P = P (decide (b < a)) := rfl
theorem x_ge {a b : Int} : CmpW .ge (.int a) (.int b) h P = P (decide (b ≤ a)) := rfl
theorem x_isn {a : V} : CmpW .is a .none h P = P (decide (a = .none)) := rfl
theorem x_isnn {a : V} : CmpW .isNot a .none h P = P (!decide (a = .none)) := rfl
theorem x_isb {a b : Bool} : CmpW .is (.bool a) (.bool b) h P = P (decide (a = b)) := rfl
theorem x_isnb {a b : Bool} : CmpW .isNot (.bool a) (.bool b) h P = P (!decide (a = b)) := rfl
theorem x_eqd {a b : V} {d₁ d₂ : D} (h1 : Snap h a d₁) (h2 : Snap h b d₂) (h3 : D.ok 9 d₁ = true) (h4 : D.ok 9 d₂ = true) (x : P (decide (d₁ = d₂))) : EqW a b h P := by
  cases a with
  | bool => cases h1; cases h3
  | _ => exact ⟨d₁, d₂, h1, h2, h3, h4, x⟩
theorem x_in (P : Bool → Prop) {a : V} : InW a (.ref n) h P = (match h[n]? with
    | some (.list vs) => ∃ d ds, Snap h a d ∧ Snaps h vs ds ∧ D.ok 9 d = true ∧ (∀ d ∈ ds, D.ok 9 d = true) ∧ P (decide (d ∈ ds))
    | some (.dict es _) => a.isKey = true ∧ P (decide (a ∈ es.map (·.1)))
    | some (.frz _) => False
    | none => False) := rfl
theorem x_ind {a : V} {es : List (V × V)} {ver : Nat} (h1 : h[n]? = some (.dict es ver)) : CmpW .isIn a (.ref n) h P = (a.isKey = true ∧ P (decide (a ∈ es.map (·.1)))) := by
  show InW _ _ _ _ = _
  rw [x_in, h1]
theorem x_nid {a : V} {es : List (V × V)} {ver : Nat} (h1 : h[n]? = some (.dict es ver)) : CmpW .notIn a (.ref n) h P = (a.isKey = true ∧ P (!decide (a ∈ es.map (·.1)))) := by
  show InW a (.ref n) h (fun r => P (!r)) = _
  rw [x_in, h1]
theorem x_inl {a : V} (h1 : h[n]? = some (.list vs)) : CmpW .isIn a (.ref n) h P = ∃ d ds, Snap h a d ∧ Snaps h vs ds ∧ D.ok 9 d = true ∧ (∀ d ∈ ds, D.ok 9 d = true) ∧ P (decide (d ∈ ds)) := by
  show InW _ _ _ _ = _
  rw [x_in, h1]
theorem st_ex {k : Int} {v : V} (h0 : 0 ≤ k ∧ k < 2 ^ 62) (h1 : vs[k.toNat]? = some v) : SubW (.tup vs) (.int k) h R = R v := propext ⟨fun ⟨w, _, e, q⟩ => by rw [h1] at e; cases e; exact q, fun q => ⟨v, h0, h1, q⟩⟩
theorem x_st0 {a : V} {l : List V} : SubW (.tup (a :: l)) (.int 0) h R = R a := st_ex (by decide) rfl
theorem x_st1 {a b : V} {l : List V} : SubW (.tup (a :: b :: l)) (.int 1) h R = R b := st_ex (by decide) rfl
theorem x_st2 {a b c : V} {l : List V} : SubW (.tup (a :: b :: c :: l)) (.int 2) h R = R c := st_ex (by decide) rfl
theorem x_st3 {a b c d : V} {l : List V} : SubW (.tup (a :: b :: c :: d :: l)) (.int 3) h R = R d := st_ex (by decide) rfl
theorem x_ss {s : List Nat} {k : Int} : SubW (.str s) (.int k) h R = ∃ c, (0 ≤ k ∧ k < 2 ^ 62) ∧ s[k.toNat]? = some c ∧ R (.str [c]) := rfl
theorem x_sub {i : V} : SubW (.ref n) i h R = (match h[n]? with
    | some (.list vs) => asInt i fun k => (∃ v, (0 ≤ k ∧ k < 2 ^ 62) ∧ vs[k.toNat]? = some v ∧ R v) ∨ (∃ v, k = -1 ∧ vs.getLast? = some v ∧ R v)
    | some (.frz vs) => asInt i fun k => ∃ v, (0 ≤ k ∧ k < 2 ^ 62) ∧ vs[k.toNat]? = some v ∧ R v
    | some (.dict es _) => i.isKey = true ∧ ∃ v, dget es i = some v ∧ R v
    | none => False) := rfl
theorem x_sl {k : Int} {v : V} (h1 : h[n]? = some (.list vs)) (h0 : 0 ≤ k) (h2 : k < 2 ^ 62) (h3 : vs[k.toNat]? = some v) (x : R v) : SubW (.ref n) (.int k) h R := by
  rw [x_sub, h1]; exact .inl ⟨v, ⟨h0, h2⟩, h3, x⟩
theorem x_sln {k : Nat} {v : V} (h1 : h[n]? = some (.list vs)) (h2 : k < 2 ^ 62) (h3 : vs[k]? = some v) (x : R v) : SubW (.ref n) (.int k) h R := x_sl h1 (by omega) (by omega) (by simpa using h3) x
theorem x_sf {k : Int} (h1 : h[n]? = some (.frz vs)) : SubW (.ref n) (.int k) h R = ∃ v, (0 ≤ k ∧ k < 2 ^ 62) ∧ vs[k.toNat]? = some v ∧ R v := by rw [x_sub, h1]; rfl
theorem x_sd {i : V} {es : List (V × V)} {ver : Nat} (h1 : h[n]? = some (.dict es ver)) : SubW (.ref n) i h R = (i.isKey = true ∧ ∃ v, dget es i = some v ∧ R v) := by rw [x_sub, h1]
theorem x_lens {s : List Nat} : BiW .len [.str s] h Q = Q (.int s.length) h := rfl
theorem x_lent : BiW .len [.tup vs] h Q = Q (.int vs.length) h := rfl
theorem x_len : BiW .len [.ref n] h Q = (match h[n]? with
    | some (.list vs) => Q (.int vs.length) h
    | some (.frz vs) => Q (.int vs.length) h
    | some (.dict _ _) => False
    | none => False) := rfl
theorem x_lenl (h1 : h[n]? = some (.list vs)) : BiW .len [.ref n] h Q = Q (.int vs.length) h := by rw [x_len, h1]
theorem x_lenf (h1 : h[n]? = some (.frz vs)) : BiW .len [.ref n] h Q = Q (.int vs.length) h := by rw [x_len, h1]
theorem x_r1 {b : Int} : BiW .range [.int b] h Q = (smallI b ∧ Q (.rng 0 b 1) h) := rfl
theorem x_r2 {a b : Int} : BiW .range [.int a, .int b] h Q = (smallI a ∧ smallI b ∧ Q (.rng a b 1) h) := rfl
theorem x_r3 {a b c : Int} : BiW .range [.int a, .int b, .int c] h Q = (smallI a ∧ smallI b ∧ smallI c ∧ 0 < c ∧ Q (.rng a b c) h) := rfl
theorem x_li : BiW .list [.ref n] h Q = (match h[n]? with
    | some (.list vs) => vs.length ≤ SZ ∧ Q (.ref h.length) (h ++ [.list vs])
    | some (.frz _) => False
    | some (.dict es _) => Q (.ref h.length) (h ++ [.list (es.map (·.1))])
    | none => False) := rfl
theorem x_ld {es : List (V × V)} {ver : Nat} (h1 : h[n]? = some (.dict es ver)) : BiW .list [.ref n] h Q = Q (.ref h.length) (h ++ [.list (es.map (·.1))]) := by rw [x_li, h1]
theorem x_dd {ks : List V} {v : V} {ver : Nat} (h1 : h[n]? = some (.dict [(.tup ks, v)] ver)) (q : ∀ ver, Q (.ref h.length) (h ++ [.dict [(.tup ks, v)] ver])) : BiW .dict [.ref n] h Q := .inl ⟨ks, v, ver, h1, q⟩
theorem x_dl {ps : List (V × V)} (h1 : h[n]? = some (.list vs)) (h2 : pairsOf vs = some ps) (q : ∀ ver, Q (.ref h.length) (h ++ [.dict (dputs [] ps) ver])) : BiW .dict [.ref n] h Q := .inr ⟨vs, ps, h1, h2, q⟩
theorem x_ll (h1 : h[n]? = some (.list vs)) : BiW .list [.ref n] h Q = (vs.length ≤ SZ ∧ Q (.ref h.length) (h ++ [.list vs])) := by rw [x_li, h1]
theorem x_lr {a b c : Int} : BiW .list [.rng a b c] h Q = (rangeLen a b c ≤ SZ ∧ Q (.ref h.length) (h ++ [.list (rangeV a b c)])) := rfl
theorem x_get {T : List V → Prop} (h1 : h[n]? = some (.list vs)) : (∃ ws, h[n]? = some (.list ws) ∧ T ws) = T vs :=
  propext ⟨fun ⟨w, g, t⟩ => by rw [h1] at g; cases g; exact t, fun t => ⟨vs, h1, t⟩⟩
theorem x_app {v : V} (h1 : h[n]? = some (.list vs)) : MethW .append (.ref n) [v] h Q = (vs.length < SZ ∧ Q .none (h.set n (.list (vs ++ [v])))) := x_get (T := fun vs => vs.length < SZ ∧ Q .none (h.set n (.list (vs ++ [v])))) h1
theorem x_rev (h1 : h[n]? = some (.list vs)) : MethW .reverse (.ref n) [] h Q = Q .none (h.set n (.list vs.reverse)) := x_get (T := fun vs => Q .none (h.set n (.list vs.reverse))) h1
theorem x_join {xs : List (List Nat)} (h1 : h[n]? = some (.list vs)) (h2 : isStrs vs = some xs) : MethW .join (.str []) [.ref n] h Q = ((xs.map List.length).sum ≤ SZ ∧ Q (.str (joinS [] xs)) h) :=
  propext ⟨fun ⟨ws, ys, g1, g2, _, g⟩ => by rw [h1] at g1; cases g1; rw [h2] at g2; cases g2; exact g, fun g => ⟨vs, xs, h1, h2, rfl, g⟩⟩
theorem x_upd {m : Nat} {es es' : List (V × V)} {ver ver' : Nat} (hne : n ≠ m) (h1 : h[n]? = some (.dict es ver)) (h2 : h[m]? = some (.dict es' ver')) (he : es ≠ []) (hl : es.length + es'.length ≤ SZ) (q : ∀ ver, Q .none (h.set n (.dict (dputs es es') ver))) : MethW .update (.ref n) [.ref m] h Q := ⟨es, ver, es', ver', hne, h1, h2, he, hl, q⟩
theorem x_ru {es : List (V × V)} {ver : Nat} (h1 : h[n]? = some (.dict es ver)) : recvOk .update (.ref n) h := ⟨es, ver, h1⟩
theorem x_ra (h1 : h[n]? = some (.list vs)) : recvOk .append (.ref n) h = True := propext ⟨fun _ => trivial, fun _ => ⟨vs, h1⟩⟩
theorem x_rr (h1 : h[n]? = some (.list vs)) : recvOk .reverse (.ref n) h = True := propext ⟨fun _ => trivial, fun _ => ⟨vs, h1⟩⟩
theorem x_rj {s : List Nat} : recvOk .join (.str s) h = True := rfl
theorem x_sto {S : H → Prop} {i v : V} : StoreW (.ref n) i v h S = (match h[n]? with
    | some (.list _) => False
    | some (.dict es _) => i.isKey = true ∧ es.length < SZ ∧ ∀ ver, S (h.set n (.dict (dput es i v) ver))
    | some (.frz _) => False
    | none => False) := rfl
theorem x_std {S : H → Prop} {i v : V} {es : List (V × V)} {ver : Nat} (h1 : h[n]? = some (.dict es ver)) : StoreW (.ref n) i v h S = (i.isKey = true ∧ es.length < SZ ∧ ∀ ver, S (h.set n (.dict (dput es i v) ver))) := by rw [x_sto, h1]
theorem x_bn {v : V} {i : Nat} {ρ : Rho} {K : Rho → Prop} : bindT (.name i) v ρ K = K (upd ρ i v) := rfl
theorem x_bt {is : List Nat} {ρ : Rho} {K : Rho → Prop} : bindT (.tup is) (.tup vs) ρ K = (is.length = vs.length ∧ K (upds ρ is vs)) := rfl
theorem x_iil {a : Int} : IsW (.int a) .int h P = P true := rfl
theorem x_iib {a : Int} : IsW (.int a) .bool h P = P false := rfl
theorem x_iss {a : List Nat} : IsW (.str a) .str h P = P true := rfl
theorem x_itt : IsW (.tup vs) .tuple h P = P true := rfl
theorem x_is {t : Ty} : IsW (.ref n) t h P = (match h[n]? with
    | some (.list _) => P (tyEq t .list)
    | some (.dict _ _) => P false
    | some (.frz _) => False
    | none => False) := rfl
theorem x_inn : IsW .none .list h P = P false := rfl
end

section
variable {C : Ora} {ρ : Rho} {h : H} {Q : V → H → Prop}
theorem e_lit {v : V} : wpE C (.lit v) ρ h Q = Q v h := rfl
theorem e_vk {i : Nat} : wpE C (.var i) ρ h Q = vK (ρ i) fun v => Q v h := rfl
theorem vk_some {v : V} {k : V → Prop} : vK (some v) k = k v := rfl
theorem e_v {i : Nat} {v : V} (r : ρ i = some v) : wpE C (.var i) ρ h Q = Q v h := by rw [e_vk, r, vk_some]
theorem e_vu {i : Nat} {v : V} : wpE C (.var i) (upd ρ i v) h Q = Q v h := e_v (by simp [upd])
theorem e_vn {i j : Nat} {v : V} (n : i ≠ j) : wpE C (.var i) (upd ρ j v) h Q = wpE C (.var i) ρ h Q := by rw [e_vk, e_vk, show upd ρ j v i = ρ i by simp [upd, n]]
theorem e_a0 {a : V} {l : List V} : wpE C (.var 0) (argsR (a :: l)) h Q = Q a h := e_v rfl
theorem e_a1 {a b : V} {l : List V} : wpE C (.var 1) (argsR (a :: b :: l)) h Q = Q b h := e_v rfl
theorem e_a2 {a b c : V} {l : List V} : wpE C (.var 2) (argsR (a :: b :: c :: l)) h Q = Q c h := e_v rfl
theorem e_a3 {a b c d : V} {l : List V} : wpE C (.var 3) (argsR (a :: b :: c :: d :: l)) h Q = Q d h := e_v rfl
theorem e_var {i : Nat} : wpE C (.var i) ρ h Q = ∃ v, ρ i = some v ∧ Q v h := propext ⟨vK.inv, fun ⟨v, e, q⟩ => by rw [e_vk, e]; exact q⟩
theorem e_bin {op : Bop} {a b : E} : wpE C (.bin op a b) ρ h Q = wpE C a ρ h fun va h₁ => wpE C b ρ h₁ fun vb h₂ => BinW op va vb h₂ Q := rfl
theorem e_neg {i : Int} : wpE C (.neg (.lit (.int i))) ρ h Q = Q (.int (-i)) h := rfl
theorem e_not {a : E} : wpE C (.not a) ρ h Q = wpE C a ρ h fun v h₁ => truth v h₁ fun b => Q (.bool (!b)) h₁ := rfl
theorem e_and {a b : E} : wpE C (.and a b) ρ h Q = wpE C a ρ h fun v h₁ => truth v h₁ fun t => match t with | true => wpE C b ρ h₁ Q | false => Q v h₁ := rfl
theorem e_or {a b : E} : wpE C (.or a b) ρ h Q = wpE C a ρ h fun v h₁ => truth v h₁ fun t => match t with | true => Q v h₁ | false => wpE C b ρ h₁ Q := rfl
theorem e_cmp {op : Cmp} {a b : E} : wpE C (.cmp op a b) ρ h Q = wpE C a ρ h fun va h₁ => wpE C b ρ h₁ fun vb h₂ => CmpW op va vb h₂ fun r => Q (.bool r) h₂ := rfl
theorem e_cmp2 {op1 op2 : Cmp} {a b c : E} : wpE C (.cmp2 op1 op2 a b c) ρ h Q = wpE C a ρ h fun va h₁ => wpE C b ρ h₁ fun vb h₂ => CmpW op1 va vb h₂ fun r => match r with
    | true => wpE C c ρ h₂ fun vc h₃ => CmpW op2 vb vc h₃ fun r => Q (.bool r) h₃
    | false => Q (.bool false) h₂ := rfl
theorem e_sub {a i : E} : wpE C (.sub a i) ρ h Q = wpE C a ρ h fun va h₁ => wpE C i ρ h₁ fun vi h₂ => SubW va vi h₂ fun v => Q v h₂ := rfl
theorem e_slice {a lo hi : E} : wpE C (.slice a lo hi) ρ h Q = wpE C a ρ h fun va h₁ => wpE C lo ρ h₁ fun vl h₂ => wpE C hi ρ h₂ fun vh h₃ => SliceW va vl vh h₃ Q := rfl
theorem e_tup {es : List E} : wpE C (.tup es) ρ h Q = wpEs C es ρ h fun vs h₁ => Q (.tup vs) h₁ := rfl
theorem e_list {es : List E} : wpE C (.list es) ρ h Q = wpEs C es ρ h fun vs h₁ => Q (.ref h₁.length) (h₁ ++ [.list vs]) := rfl
theorem e_dict0 : wpE C .dict0 ρ h Q = ∀ ver, Q (.ref h.length) (h ++ [.dict [] ver]) := rfl
theorem e_dict1 {k v : E} : wpE C (.dict1 k v) ρ h Q = wpE C k ρ h fun vk h₁ => wpE C v ρ h₁ fun vv h₂ => vk.isKey = true ∧ ∀ ver, Q (.ref h₂.length) (h₂ ++ [.dict [(vk, vv)] ver]) := rfl
theorem e_call {f : Nat} {args : List E} : wpE C (.call f args) ρ h Q = wpEs C args ρ h fun vs h₁ => C f vs h₁ Q := rfl
theorem e_bi {b : Bi} {args : List E} : wpE C (.bi b args) ρ h Q = wpEs C args ρ h fun vs h₁ => BiW b vs h₁ Q := rfl
theorem e_isinst {a : E} {t : Ty} : wpE C (.isinst a t) ρ h Q = wpE C a ρ h fun v h₁ => IsW v t h₁ fun r => Q (.bool r) h₁ := rfl
theorem e_meth {m : Mt} {o : E} {args : List E} : wpE C (.meth m o args) ρ h Q = wpE C o ρ h fun vo h₁ => recvOk m vo h₁ ∧ wpEs C args ρ h₁ fun vs h₂ => MethW m vo vs h₂ Q := rfl
end
theorem x_eq {h : H} {P : Bool → Prop} {a b : V} : CmpW .eq a b h P = EqW a b h P := rfl
theorem x_ne {h : H} {P : Bool → Prop} {a b : V} : CmpW .ne a b h P = EqW a b h (fun r => P (!r)) := rfl

theorem upd_eq {ρ : Rho} {i : Nat} {v : V} : upd ρ i v i = some v := by simp [upd]
theorem upd_ne {ρ : Rho} {i j : Nat} {v : V} (h : j ≠ i) : upd ρ i v j = ρ j := by simp [upd, h]

section
variable {C : Ora} {ρ : Rho} {h : H} {Q : Bool → H → Prop}
theorem es_nil {Q : List V → H → Prop} : wpEs C [] ρ h Q = Q [] h := rfl
theorem es_cons {e : E} {es : List E} {Q : List V → H → Prop} : wpEs C (e :: es) ρ h Q = wpE C e ρ h fun v h₁ => wpEs C es ρ h₁ fun vs h₂ => Q (v :: vs) h₂ := rfl
theorem o_none : wpO C none ρ h Q = Q true h := rfl
theorem o_some {t : E} : wpO C (some t) ρ h Q = wpT C t ρ h Q := rfl
theorem t_not {a : E} : wpT C (.not a) ρ h Q = wpT C a ρ h fun b h₁ => Q (!b) h₁ := rfl
theorem t_and {a b : E} : wpT C (.and a b) ρ h Q = wpT C a ρ h fun t h₁ => match t with | true => wpT C b ρ h₁ Q | false => Q false h₁ := rfl
theorem t_or {a b : E} : wpT C (.or a b) ρ h Q = wpT C a ρ h fun t h₁ => match t with | true => Q true h₁ | false => wpT C b ρ h₁ Q := rfl
theorem t_cmp {op : Cmp} {a b : E} : wpT C (.cmp op a b) ρ h Q = wpE C a ρ h fun va h₁ => wpE C b ρ h₁ fun vb h₂ => CmpW op va vb h₂ fun r => Q r h₂ := rfl
theorem t_cmp2 {op1 op2 : Cmp} {a b c : E} : wpT C (.cmp2 op1 op2 a b c) ρ h Q = wpE C a ρ h fun va h₁ => wpE C b ρ h₁ fun vb h₂ => CmpW op1 va vb h₂ fun r => match r with
    | true => wpE C c ρ h₂ fun vc h₃ => CmpW op2 vb vc h₃ fun r => Q r h₃
    | false => Q false h₂ := rfl
theorem t_lit {v : V} : wpT C (.lit v) ρ h Q = truth v h fun b => Q b h := rfl
theorem t_vk {i : Nat} : wpT C (.var i) ρ h Q = vK (ρ i) fun v => truth v h fun b => Q b h := rfl
theorem t_call {f : Nat} {args : List E} : wpT C (.call f args) ρ h Q = wpEs C args ρ h fun vs h₁ => C f vs h₁ fun v h₂ => truth v h₂ fun b => Q b h₂ := rfl
theorem t_isinst {a : E} {t : Ty} : wpT C (.isinst a t) ρ h Q = wpE C a ρ h fun v h₁ => IsW v t h₁ fun r => Q r h₁ := rfl
theorem t_meth {m : Mt} {o : E} {args : List E} : wpT C (.meth m o args) ρ h Q = wpE C o ρ h fun vo h₁ => recvOk m vo h₁ ∧ wpEs C args ρ h₁ fun vs h₂ => MethW m vo vs h₂ fun v h₃ => truth v h₃ fun b => Q b h₃ := rfl
end
theorem u_nil {ρ : Rho} {vs : List V} : upds ρ [] vs = ρ := rfl
theorem u_cons {ρ : Rho} {i : Nat} {is : List Nat} {v : V} {vs : List V} : upds ρ (i :: is) (v :: vs) = upds (upd ρ i v) is vs := rfl
section
variable {C : Ora} {ρ : Rho} {h : H} {Q : Out → Rho → H → Prop} {r : List S}
theorem b_nil : wpB C [] ρ h Q = Q .next ρ h := rfl
theorem b_ret {e : E} : wpB C (.ret (some e) :: r) ρ h Q = wpE C e ρ h fun v h₁ => Q (.ret v) ρ h₁ := rfl
theorem b_ite {t : E} {a b : List S} : wpB C (.ite t a b :: r) ρ h Q = wpT C t ρ h fun c h₁ => match c with | true => wpB C a ρ h₁ (thenB C r Q) | false => wpB C b ρ h₁ (thenB C r Q) := rfl
theorem th_next : thenB C r Q .next ρ h = wpB C r ρ h Q := rfl
theorem th_ret {v : V} : thenB C r Q (.ret v) ρ h = Q (.ret v) ρ h := rfl
theorem ov_ret {v : V} : Out.val (.ret v) = v := rfl
theorem ov_next : Out.val .next = V.none := rfl
end
end Tw
end

section
namespace Tw
/-! short steps -/
section
variable {ρ : Rho} {h : H} {R : V → Prop} {C : Ora} {Q : V → H → Prop} {P : Bool → Prop}
end
end Tw
end

section
namespace Tw

/-! loops that only gather -/
section
variable {C : Ora} {ρ : Rho} {H : Tw.H} {α : Type} {l : List α} {f : α → V} {g : α → Option V} (hC : MonoC C)
theorem fm_take {i : Nat} {a : α} (h : l[i]? = some a) : (l.take (i + 1)).filterMap g = (l.take i).filterMap g ++ (g a).toList := by
  rw [List.take_add_one, h, List.filterMap_append]
  cases hg : g a <;> simp [hg]
theorem fm_len (i : Nat) (h : i ≤ l.length) : ((l.take i).filterMap g).length ≤ i := Nat.le_trans (List.length_filterMap_le _ _) (by rw [List.length_take]; omega)
theorem map_at {i : Nat} {v : V} (h : (l.map f)[i]? = some v) : ∃ a, l[i]? = some a ∧ f a = v ∧ i < l.length := by
  rw [List.getElem?_map] at h
  obtain ⟨a, h1, h2⟩ := Option.map_eq_some_iff.mp h
  exact ⟨a, h1, h2, (List.getElem?_eq_some_iff.mp h1).1⟩
include hC
/-- a comprehension that changes no heap -/
theorem E_comp_pure {elt e : E} {tgt : Tgt} {cond : Option E} {it : Nat → It} {K : Tw.H → Prop} {Q : V → Tw.H → Prop} (go : Goes it (l.map f) K) (hit : wpE C e ρ H fun v h₁ => (∀ Q : It → Prop, Q (it 0) → IterW v H Q) ∧ h₁ = H) (hK : K H) (hl : l.length ≤ SZ)
    (step : ∀ a ∈ l, bindT tgt (f a) ρ fun ρ' => wpO C cond ρ' H fun b h₂ => h₂ = H ∧ b = (g a).isSome ∧ ∀ w, g a = some w → wpE C elt ρ' H fun x h₃ => x = w ∧ h₃ = H)
    (q : Q (.ref H.length) (H ++ [.list (l.filterMap g)])) : wpE C (.comp elt tgt e cond) ρ H Q := by
  refine E_comp_it hC go (fun i out h => h = H ∧ out = (l.take i).filterMap g) (wpE_mono hC e (fun v h₁ ⟨a, b⟩ => ⟨by rw [b]; exact a, b, by simp⟩) hit) (fun i out h ⟨a, _⟩ => by rw [a]; exact hK) ?_ ?_
  · rintro i v out h hv ⟨rfl, rfl⟩
    obtain ⟨a, ha, rfl, hil⟩ := map_at hv
    have hlen := fm_len (l := l) (g := g) i (by omega)
    rw [fm_take ha]
    refine bindT.mono (fun ρ' x => wpO_mono hC cond (fun b h₂ y => ?_) x) (step a (List.mem_of_getElem? ha))
    obtain ⟨rfl, rfl, y⟩ := y
    cases hg : g a with
    | none => exact ⟨rfl, by simp⟩
    | some w => exact wpE_mono hC elt (fun x h₃ ⟨a, b⟩ => ⟨by omega, b, by rw [a]; rfl⟩) (y w hg)
  · rintro out h ⟨rfl, rfl⟩
    rw [List.length_map, List.take_length]; exact q
omit hC in
end
/-- a text's slice -/
theorem x_slice {h : H} {Q : V → H → Prop} {s : List Nat} {i k : Nat} (hk : i + k < 2 ^ 62) (q : Q (.str ((s.take (i + k)).drop i)) h) : SliceW (.str s) (.int i) (.int ((i : Int) + k)) h Q := by
  refine ⟨i, i + k, ?_, ?_, q⟩
  · unfold loOf; dsimp only; rw [if_pos (by omega)]; simp
  · unfold hiOf; dsimp only; rw [if_pos (by omega)]; congr 1
end Tw
end

section
namespace Tw

/-! plain expressions, by evaluation. An environment is a list of what is known, the newest first. -/
abbrev Env := List (Nat × V)
noncomputable def lk : Env → Nat → Option V
  | [], _ => none
  | (j, v) :: r, i => match Nat.beq i j with
    | true => some v
    | false => lk r i
noncomputable def Ag (L : Env) (ρ : Rho) : Prop := ∀ i v, lk L i = some v → ρ i = some v
theorem Ag.push {L : Env} {ρ : Rho} {i : Nat} {v : V} (r : Ag L ρ) : Ag ((i, v) :: L) (upd ρ i v) := fun j w e => by
  unfold lk at e
  cases hb : Nat.beq j i with
  | true => rw [hb] at e; cases e; rw [Nat.eq_of_beq_eq_true hb]; exact upd_eq
  | false => rw [hb] at e; rw [upd_ne (Nat.ne_of_beq_eq_false hb)]; exact r j w e
noncomputable def pushs (L : Env) : List Nat → List V → Env
  | i :: is, v :: vs => pushs ((i, v) :: L) is vs
  | _, _ => L
theorem Ag.pushs : ∀ {L : Env} {ρ : Rho} (is : List Nat) (vs : List V), Ag L ρ → Ag (pushs L is vs) (upds ρ is vs)
  | _, _, [], _, r => r
  | _, _, _ :: _, [], r => r
  | _, _, _ :: is, _ :: vs, r => Ag.pushs is vs r.push
noncomputable def argsL (k : Nat) : List V → Env
  | [] => []
  | v :: vs => (k, v) :: argsL (k + 1) vs
theorem lk_args : ∀ (vs : List V) (k i : Nat) (v : V), lk (argsL k vs) i = some v → ∃ j, i = k + j ∧ vs[j]? = some v
  | [], _, _, _, e => nomatch e
  | w :: vs, k, i, v, e => by
    unfold argsL lk at e
    cases hb : Nat.beq i k with
    | true => rw [hb] at e; cases e; exact ⟨0, Nat.eq_of_beq_eq_true hb, rfl⟩
    | false => rw [hb] at e; obtain ⟨j, h1, h2⟩ := lk_args vs (k + 1) i v e; exact ⟨j + 1, by omega, h2⟩
theorem ag_args (vs : List V) : Ag (argsL 0 vs) (argsR vs) := fun i v e => by
  obtain ⟨j, h1, h2⟩ := lk_args vs 0 i v e
  rw [h1, Nat.zero_add]; exact h2
noncomputable def AllIn : Env → Env → Prop
  | [], _ => True
  | (i, v) :: r, L => lk L i = some v ∧ AllIn r L
theorem AllIn.ag {L : Env} {ρ : Rho} (a : Ag L ρ) : ∀ {L' : Env}, AllIn L' L → Ag L' ρ
  | [], _ => fun _ _ e => nomatch e
  | (j, w) :: r, h => fun i v e => by
    unfold lk at e
    cases hb : Nat.beq i j with
    | true => rw [hb] at e; cases e; rw [Nat.eq_of_beq_eq_true hb]; exact a j _ h.1
    | false => rw [hb] at e; exact AllIn.ag a h.2 i v e

noncomputable def AllP : List Prop → Prop
  | [] => True
  | p :: r => p ∧ AllP r
theorem allP_app {a b : List Prop} (h : AllP (a ++ b)) : AllP a ∧ AllP b := by
  induction a with
  | nil => exact ⟨trivial, h⟩
  | cons p a ih => exact ⟨⟨h.1, (ih h.2).1⟩, (ih h.2).2⟩

/-! evaluation: what the heap is asked is answered from a list, and stands among the conditions -/
noncomputable abbrev M (α : Type) := List V → Option (α × List Prop × List V)
section
variable {α β : Type}
noncomputable def M.ret (a : α) : M α := fun g => some (a, [], g)
noncomputable def M.fail : M α := fun _ => none
noncomputable def M.of (o : Option α) : M α := fun g => match o with
  | some a => some (a, [], g)
  | none => none
noncomputable def M.need (p : Prop) (a : α) : M α := fun g => some (a, [p], g)
noncomputable def next2 (c : List Prop) : Option (β × List Prop × List V) → Option (β × List Prop × List V)
  | some (b, c', g) => some (b, c ++ c', g)
  | none => none
noncomputable def M.bind (m : M α) (f : α → M β) : M β := fun g => match m g with
  | some (a, c, g) => next2 c (f a g)
  | none => none
noncomputable def M.ask (k : V → M α) : M α := fun g => match g with
  | v :: r => k v r
  | [] => none
noncomputable def evI (v : V) (k : Int → M α) : M α := match v with
  | .int i => k i
  | _ => M.fail
noncomputable def evS (v : V) (k : List Nat → M α) : M α := match v with
  | .str i => k i
  | _ => M.fail
noncomputable def evB (v : V) (k : Bool → M α) : M α := match v with
  | .bool i => k i
  | _ => M.fail
/-- sound: what comes out may be what goes on -/
noncomputable def Snd (m : M α) (W : (α → Prop) → Prop) : Prop := ∀ g a c g', m g = some (a, c, g') → AllP c → ∀ K : α → Prop, K a → W K
theorem Snd.fail {W : (α → Prop) → Prop} : Snd (M.fail : M α) W := fun _ _ _ _ e => nomatch e
theorem Snd.ret {a : α} {W : (α → Prop) → Prop} (h : ∀ K : α → Prop, K a → W K) : Snd (M.ret a) W := fun g b c g' e _ K q => by cases e; exact h K q
theorem Snd.need {p : Prop} {a : α} {W : (α → Prop) → Prop} (h : p → ∀ K : α → Prop, K a → W K) : Snd (M.need p a) W := fun g b c g' e hc K q => by cases e; exact h hc.1 K q
theorem Snd.of {o : Option α} {W : (α → Prop) → Prop} (h : ∀ a, o = some a → ∀ K : α → Prop, K a → W K) : Snd (M.of o) W := by
  cases o with
  | none => exact fun _ _ _ _ e => nomatch e
  | some x => exact fun g b c g' e _ K q => by cases e; exact h _ rfl K q
theorem Snd.bind {m : M α} {f : α → M β} {W1 : (α → Prop) → Prop} {W2 : α → (β → Prop) → Prop} (h1 : Snd m W1) (h2 : ∀ a, Snd (f a) (W2 a)) : Snd (M.bind m f) (fun K => W1 fun a => W2 a K) := fun g b c g' e hc K q => by
  unfold M.bind at e
  cases hm : m g with
  | none => rw [hm] at e; cases e
  | some x =>
    obtain ⟨a, c1, g1⟩ := x
    rw [hm] at e
    cases hf : f a g1 with
    | none => simp only [hf] at e; cases e
    | some y =>
      obtain ⟨b', c2, g2⟩ := y
      simp only [hf] at e
      cases e
      obtain ⟨p1, p2⟩ := allP_app hc
      exact h1 _ _ _ _ hm p1 _ (h2 a _ _ _ _ hf p2 K q)
theorem Snd.ask {k : V → M α} {W : (α → Prop) → Prop} (h : ∀ v, Snd (k v) W) : Snd (M.ask k) W := fun g b c g' e hc K q => by
  cases g with
  | nil => cases e
  | cons v r => exact h v _ _ _ _ e hc K q
theorem Snd.evI {v : V} {k : Int → M α} {W : (α → Prop) → Prop} (h : ∀ i, v = .int i → Snd (k i) W) : Snd (Tw.evI v k) W := by
  cases v with
  | int i => exact h i rfl
  | _ => exact Snd.fail
theorem Snd.evS {v : V} {k : List Nat → M α} {W : (α → Prop) → Prop} (h : ∀ i, v = .str i → Snd (k i) W) : Snd (Tw.evS v k) W := by
  cases v with
  | str i => exact h i rfl
  | _ => exact Snd.fail
theorem Snd.evB {v : V} {k : Bool → M α} {W : (α → Prop) → Prop} (h : ∀ i, v = .bool i → Snd (k i) W) : Snd (Tw.evB v k) W := by
  cases v with
  | bool i => exact h i rfl
  | _ => exact Snd.fail
theorem Snd.mono {m : M α} {W W' : (α → Prop) → Prop} (x : Snd m W) (h : ∀ K, W K → W' K) : Snd m W' := fun g a c g' e hc K q => h K (x g a c g' e hc K q)
end

/-! what the heap is asked -/
noncomputable def RdW (h : H) (a i v : V) : Prop := ∀ R : V → Prop, R v → SubW a i h R
noncomputable def LnW (h : H) (a v : V) : Prop := ∀ Q : V → H → Prop, Q v h → BiW .len [a] h Q
noncomputable def SlW (h : H) (a i j v : V) : Prop := ∀ Q : V → H → Prop, Q v h → SliceW a i j h Q
noncomputable def CmW (h : H) (op : Cmp) (a b : V) (r : Bool) : Prop := ∀ P : Bool → Prop, P r → CmpW op a b h P

/-! the operators -/
noncomputable def nthV : List V → Nat → Option V
  | [], _ => none
  | v :: r, k => match k with
    | 0 => some v
    | k + 1 => nthV r k
theorem nthV_get : ∀ (l : List V) (k : Nat), nthV l k = l[k]?
  | [], k => by simp [nthV]
  | v :: r, 0 => rfl
  | v :: r, k + 1 => by rw [nthV, nthV_get r k]; simp
noncomputable def isNoneB : V → Bool
  | .none => true
  | _ => false
theorem isNoneB_eq (v : V) : decide (v = .none) = isNoneB v := by
  cases v with
  | none => exact decide_eq_true rfl
  | _ => exact decide_eq_false (fun x => nomatch x)
noncomputable def mBin (op : Bop) (a b : V) : M V :=
  match op with
  | .add => match a with
    | .str a => evS b fun b => M.need (a.length + b.length ≤ SZ) (.str (a ++ b))
    | a => evI a fun a => evI b fun b => M.ret (.int (a + b))
  | .sub => evI a fun a => evI b fun b => M.ret (.int (a - b))
  | .mul => evI a fun a => evI b fun b => M.need (mulOk a b) (.int (a * b))
  | .fdiv => evI a fun a => evI b fun b => M.need (b ≠ 0 ∧ b.natAbs < 1073741824) (.int (a.fdiv b))
  | .mod => evI a fun a => evI b fun b => M.need (b ≠ 0) (.int (a.fmod b))
noncomputable def mSub (h : H) (a i : V) : M V :=
  match a with
  | .tup vs => evI i fun k => match k with
    | .ofNat k => match Nat.ble k 1000 with
      | true => M.of (nthV vs k)
      | false => M.fail
    | _ => M.fail
  | a => M.ask fun v => M.need (RdW h a i v) v
noncomputable def mEq (h : H) (op : Cmp) (f : Bool → Bool) (a b : V) : M Bool := match a with
  | .int a => evI b fun b => M.ret (f (decide (a = b)))
  | .str a => evS b fun b => M.ret (f (decide (a = b)))
  | .bool a => evB b fun b => M.ret (f (decide (a = b)))
  | a => M.ask fun r => evB r fun r => M.need (CmW h op a b r) r
noncomputable def mCmp (h : H) (op : Cmp) (a b : V) : M Bool :=
  match op with
  | .eq => mEq h .eq (fun r => r) a b
  | .ne => mEq h .ne (fun r => !r) a b
  | .lt => evI a fun a => evI b fun b => M.ret (decide (a < b))
  | .le => evI a fun a => evI b fun b => M.ret (decide (a ≤ b))
  | .gt => evI a fun a => evI b fun b => M.ret (decide (b < a))
  | .ge => evI a fun a => evI b fun b => M.ret (decide (b ≤ a))
  | .is => match b with
    | .none => M.ret (isNoneB a)
    | _ => M.fail
  | .isNot => match b with
    | .none => M.ret (!isNoneB a)
    | _ => M.fail
  | op => M.ask fun r => evB r fun r => M.need (CmW h op a b r) r
noncomputable def mLen (h : H) (v : V) : M V := match v with
  | .str s => M.ret (.int s.length)
  | .tup vs => M.ret (.int vs.length)
  | v => M.ask fun n => M.need (LnW h v n) n
noncomputable def mIs (v : V) (t : Ty) : M Bool := match v with
  | .none => M.ret false
  | .int _ => M.ret (tyEq t .int)
  | .str _ => M.ret (tyEq t .str)
  | .tup _ => M.ret (tyEq t .tuple)
  | _ => M.fail
noncomputable def guard (b : Bool) : List Prop → List Prop
  | [] => []
  | c => [b = true → AllP c]
theorem guard_ok {b : Bool} {c : List Prop} (h : AllP (guard b c)) (hb : b = true) : AllP c := by
  cases c with
  | nil => trivial
  | cons p r => exact h.1 hb
/-- the second only where the first says x -/
noncomputable def lazy2 (x : Bool) (f : Bool → Bool) (c : List Prop) : Option (Bool × List Prop × List V) → Option (Bool × List Prop × List V)
  | some (y, c', g) => some (f y, c ++ guard x c', g)
  | none => none
noncomputable def M.lazy (x : Bool) (f : Bool → Bool) (m : M Bool) : M Bool := fun g => lazy2 x f [] (m g)
theorem Snd.lazy {x : Bool} {f : Bool → Bool} {m : M Bool} {W W' : (Bool → Prop) → Prop} (h : Snd m W) (h1 : x = true → ∀ K, W (fun y => K (f y)) → W' K) (h2 : x = false → ∀ y K, K (f y) → W' K) : Snd (M.lazy x f m) W' := fun g a c g' e hc K q => by
  unfold M.lazy at e
  cases hm : m g with
  | none => rw [hm] at e; cases e
  | some z =>
    obtain ⟨y, c1, g1⟩ := z
    rw [hm] at e
    cases e
    cases hx : x with
    | true => exact h1 hx K (h _ _ _ _ hm (guard_ok hc hx) (fun y => K (f y)) q)
    | false => exact h2 hx y K q
noncomputable def mOne (vs : List V) (k : V → M V) : M V := match vs with
  | [v] => k v
  | _ => M.fail
theorem Snd.one {vs : List V} {k : V → M V} {W : (V → Prop) → Prop} (h : ∀ v, vs = [v] → Snd (k v) W) : Snd (mOne vs k) W := by
  match vs, h with
  | [], _ => exact Snd.fail
  | [v], h => exact h v rfl
  | _ :: _ :: _, _ => exact Snd.fail
mutual
noncomputable def ev (L : Env) (h : H) : E → M V
  | .lit v => M.ret v
  | .var i => M.of (lk L i)
  | .bin op a b => (ev L h a).bind fun x => (ev L h b).bind fun y => mBin op x y
  | .neg a => (ev L h a).bind fun x => evI x fun i => M.ret (.int (-i))
  | .sub a i => (ev L h a).bind fun x => (ev L h i).bind fun y => mSub h x y
  | .tup es => (evs L h es).bind fun vs => M.ret (.tup vs)
  | .bi b as => match b with
    | .len => (evs L h as).bind fun vs => mOne vs (mLen h)
    | .range => (evs L h as).bind fun vs => mOne vs fun v => evI v fun b => M.need (smallI b) (.rng 0 b 1)
    | .int => (evs L h as).bind fun vs => mOne vs fun v => evB v fun b => M.ret (.int (if b then 1 else 0))
    | _ => M.fail
  | .slice a lo hi => (ev L h a).bind fun x => (ev L h lo).bind fun y => (ev L h hi).bind fun z => M.ask fun w => M.need (SlW h x y z w) w
  | .not a => (ev L h a).bind fun x => evB x fun x => M.ret (.bool (!x))
  | .cmp op a b => (ev L h a).bind fun x => (ev L h b).bind fun y => (mCmp h op x y).bind fun r => M.ret (.bool r)
  | .isinst a t => (ev L h a).bind fun x => (mIs x t).bind fun r => M.ret (.bool r)
  | .and a b => (ev L h a).bind fun x => evB x fun x => (M.lazy x (fun y => x && y) ((ev L h b).bind fun y => evB y M.ret)).bind fun r => M.ret (.bool r)
  | .cmp2 o1 o2 a b c => (ev L h a).bind fun x => (ev L h b).bind fun y => (mCmp h o1 x y).bind fun r => (M.lazy r (fun z => r && z) ((ev L h c).bind fun z => mCmp h o2 y z)).bind fun r => M.ret (.bool r)
  | _ => M.fail
noncomputable def evs (L : Env) (h : H) : List E → M (List V)
  | [] => M.ret []
  | e :: es => (ev L h e).bind fun v => (evs L h es).bind fun vs => M.ret (v :: vs)
end
noncomputable def evT (L : Env) (h : H) : E → M Bool
  | .not a => (evT L h a).bind fun x => M.ret (!x)
  | .and a b => (evT L h a).bind fun x => M.lazy x (fun y => x && y) (evT L h b)
  | .or a b => (evT L h a).bind fun x => M.lazy (!x) (fun y => x || y) (evT L h b)
  | .cmp op a b => (ev L h a).bind fun x => (ev L h b).bind fun y => mCmp h op x y
  | .cmp2 o1 o2 a b c => (ev L h a).bind fun x => (ev L h b).bind fun y => (mCmp h o1 x y).bind fun r => M.lazy r (fun z => r && z) ((ev L h c).bind fun z => mCmp h o2 y z)
  | .lit v => evB v fun b => M.ret b
  | .var i => (M.of (lk L i)).bind fun v => match isNoneB v with
    | true => M.ret false
    | false => evB v fun b => M.ret b
  | .isinst a t => (ev L h a).bind fun x => mIs x t
  | _ => M.fail

/-! each is sound -/
section
variable {C : Ora} {ρ : Rho} {h : H}
noncomputable def WE (C : Ora) (ρ : Rho) (h : H) (e : E) (K : V → Prop) : Prop := ∀ Q : V → H → Prop, (∀ v, K v → Q v h) → wpE C e ρ h Q
noncomputable def WEs (C : Ora) (ρ : Rho) (h : H) (e : List E) (K : List V → Prop) : Prop := ∀ Q : List V → H → Prop, (∀ v, K v → Q v h) → wpEs C e ρ h Q
noncomputable def WT (C : Ora) (ρ : Rho) (h : H) (e : E) (K : Bool → Prop) : Prop := ∀ Q : Bool → H → Prop, (∀ v, K v → Q v h) → wpT C e ρ h Q
theorem mBin_ok (op : Bop) (a b : V) : Snd (mBin op a b) (fun K => ∀ Q : V → H → Prop, (∀ v, K v → Q v h) → BinW op a b h Q) := by
  cases op with
  | add =>
    cases a with
    | str a => exact .evS fun b e => .need fun p K k Q q => by subst e; exact ⟨p, q _ k⟩
    | int a => exact Snd.evI (v := b) fun b e' => .ret fun K k Q q => by subst e'; exact q _ k
    | _ => exact Snd.fail
  | sub => exact .evI fun a e => .evI fun b e' => .ret fun K k Q q => by subst e; subst e'; exact q _ k
  | mul => exact .evI fun a e => .evI fun b e' => .need fun p K k Q q => by subst e; subst e'; exact ⟨p, q _ k⟩
  | fdiv => exact .evI fun a e => .evI fun b e' => .need fun p K k Q q => by subst e; subst e'; exact ⟨p.1, p.2, q _ k⟩
  | mod => exact .evI fun a e => .evI fun b e' => .need fun p K k Q q => by subst e; subst e'; exact ⟨p, q _ k⟩
theorem mSub_ok (a i : V) : Snd (mSub h a i) (fun K => ∀ R : V → Prop, (∀ v, K v → R v) → SubW a i h R) := by
  have gen : Snd (M.ask fun v => M.need (RdW h a i v) v) (fun K => ∀ R : V → Prop, (∀ v, K v → R v) → SubW a i h R) := .ask fun v => .need fun p K k R q => p R (q v k)
  cases a with
  | tup vs =>
    refine .evI fun k e => ?_
    subst e
    cases k with
    | negSucc => exact Snd.fail
    | ofNat k =>
      show Snd (match Nat.ble k 1000 with | true => M.of (nthV vs k) | false => M.fail) _
      cases hb : Nat.ble k 1000 with
      | false => exact Snd.fail
      | true =>
        have hk := Nat.le_of_ble_eq_true hb
        exact .of fun v hv K kv R q => ⟨v, ⟨Int.natCast_nonneg k, by show (k : Int) < 4611686018427387904; omega⟩, (nthV_get vs k).symm.trans hv, q v kv⟩
  | _ => exact gen
theorem mEq_ok (op : Cmp) (f : Bool → Bool) (a b : V) (hf : ∀ P : Bool → Prop, EqW a b h (fun r => P (f r)) → CmpW op a b h P) : Snd (mEq h op f a b) (fun K => ∀ P : Bool → Prop, (∀ v, K v → P v) → CmpW op a b h P) := by
  have gen : Snd (M.ask fun r => Tw.evB r fun r => M.need (CmW h op a b r) r) (fun K => ∀ P : Bool → Prop, (∀ v, K v → P v) → CmpW op a b h P) := .ask fun v => .evB fun r e => .need fun p K k P q => p P (q r k)
  cases a with
  | int a => exact .evI fun b e => .ret fun K k P q => by subst e; exact hf P (by rw [← x_eq, x_eqi]; exact q _ k)
  | str a => exact .evS fun b e => .ret fun K k P q => by subst e; exact hf P (by rw [← x_eq, x_eqs]; exact q _ k)
  | bool a => exact .evB fun b e => .ret fun K k P q => by subst e; exact hf P (q _ k)
  | _ => exact gen
theorem mCmp_ok (op : Cmp) (a b : V) : Snd (mCmp h op a b) (fun K => ∀ P : Bool → Prop, (∀ v, K v → P v) → CmpW op a b h P) := by
  have gen : Snd (M.ask fun r => Tw.evB r fun r => M.need (CmW h op a b r) r) (fun K => ∀ P : Bool → Prop, (∀ v, K v → P v) → CmpW op a b h P) := .ask fun v => .evB fun r e => .need fun p K k P q => p P (q r k)
  cases op with
  | eq => exact mEq_ok .eq (fun r => r) a b fun P x => x
  | ne => exact mEq_ok .ne (fun r => !r) a b fun P x => x
  | lt => exact .evI fun a e => .evI fun b e' => .ret fun K k Q q => by subst e; subst e'; exact q _ k
  | le => exact .evI fun a e => .evI fun b e' => .ret fun K k Q q => by subst e; subst e'; exact q _ k
  | gt => exact .evI fun a e => .evI fun b e' => .ret fun K k Q q => by subst e; subst e'; exact q _ k
  | ge => exact .evI fun a e => .evI fun b e' => .ret fun K k Q q => by subst e; subst e'; exact q _ k
  | is =>
    cases b with
    | none => exact .ret fun K k P q => by rw [x_isn, isNoneB_eq]; exact q _ k
    | _ => exact Snd.fail
  | isNot =>
    cases b with
    | none => exact .ret fun K k P q => by rw [x_isnn, isNoneB_eq]; exact q _ k
    | _ => exact Snd.fail
  | isIn => exact gen
  | notIn => exact gen
theorem mLen_ok (v : V) : Snd (mLen h v) (fun K => ∀ Q : V → H → Prop, (∀ v, K v → Q v h) → BiW .len [v] h Q) := by
  have gen : Snd (M.ask fun n => M.need (LnW h v n) n) (fun K => ∀ Q : V → H → Prop, (∀ v, K v → Q v h) → BiW .len [v] h Q) := .ask fun n => .need fun p K k Q q => p Q (q n k)
  cases v with
  | str s => exact .ret fun K k Q q => q _ k
  | tup s => exact .ret fun K k Q q => q _ k
  | _ => exact gen
theorem mIs_ok (v : V) (t : Ty) : Snd (mIs v t) (fun K => ∀ P : Bool → Prop, (∀ v, K v → P v) → IsW v t h P) := by
  cases v with
  | bool => exact Snd.fail
  | rng => exact Snd.fail
  | ref => exact Snd.fail
  | _ => exact .ret fun K k Q q => q _ k
variable {L : Env} (ag : Ag L ρ)
include ag
mutual
theorem ev_snd : ∀ (e : E), Snd (ev L h e) (WE C ρ h e)
  | .lit v => .ret fun K k Q q => q _ k
  | .var i => .of fun v e K k Q q => by rw [e_vk, ag i v e]; exact q v k
  | .bin op a b => .mono (.bind (ev_snd a) fun x => .bind (ev_snd b) fun y => mBin_ok op x y) fun K w Q q => w _ fun x w => w _ fun y w => w Q q
  | .neg a => .mono (.bind (W2 := fun x K => ∀ Q : V → H → Prop, (∀ v, K v → Q v h) → asInt x fun i => Q (.int (-i)) h) (ev_snd a) fun x => .evI fun i e => .ret fun K k Q q => by subst e; exact q _ k) fun K w Q q => w _ fun x w => w Q q
  | .sub a b => .mono (.bind (ev_snd a) fun x => .bind (ev_snd b) fun y => mSub_ok x y) fun K w Q q => w _ fun x w => w _ fun y w => w _ q
  | .tup es => .mono (.bind (W2 := fun vs K => K (.tup vs)) (evs_snd es) fun vs => .ret fun K k => k) fun K w Q q => w _ fun vs k => q _ k
  | .bi b as => by
    cases b with
    | len =>
      exact .mono (.bind (W2 := fun vs K => ∀ Q : V → H → Prop, (∀ v, K v → Q v h) → BiW .len vs h Q) (evs_snd as) fun vs => .one fun v e => by subst e; exact mLen_ok v) fun K w Q q => w _ fun vs w => w Q q
    | range =>
      exact .mono (.bind (W2 := fun vs K => ∀ Q : V → H → Prop, (∀ v, K v → Q v h) → BiW .range vs h Q) (evs_snd as) fun vs => .one fun v e => .evI fun b e' => .need fun p K k Q q => by subst e; subst e'; exact ⟨p, q _ k⟩) fun K w Q q => w _ fun vs w => w Q q
    | int =>
      exact .mono (.bind (W2 := fun vs K => ∀ Q : V → H → Prop, (∀ v, K v → Q v h) → BiW .int vs h Q) (evs_snd as) fun vs => .one fun v e => .evB fun b e' => .ret fun K k Q q => by subst e; subst e'; exact q _ k) fun K w Q q => w _ fun vs w => w Q q
    | _ => exact Snd.fail
  | .not a => .mono (.bind (W2 := fun x K => ∀ Q : V → H → Prop, (∀ v, K v → Q v h) → truth x h fun b => Q (.bool (!b)) h) (ev_snd a) fun x => .evB fun i e => .ret fun K k Q q => by subst e; exact q _ k) fun K w Q q => w _ fun x w => w Q q
  | .cmp op a b => .mono (.bind (ev_snd a) fun x => .bind (ev_snd b) fun y => .bind (W2 := fun r K => K (.bool r)) (mCmp_ok op x y) fun r => .ret fun K k => k) fun K w Q q => w _ fun x w => w _ fun y w => w _ fun r k => q _ k
  | .isinst a t => .mono (.bind (ev_snd a) fun x => .bind (W2 := fun r K => K (.bool r)) (mIs_ok x t) fun r => .ret fun K k => k) fun K w Q q => w _ fun x w => w _ fun r k => q _ k
  | .and a b => .mono (.bind (W2 := fun x K => ∀ Q : V → H → Prop, (∀ v, K v → Q v h) → truth x h fun t => match t with | true => wpE C b ρ h Q | false => Q x h) (ev_snd a) fun x => .evB fun i e => by
      subst e
      refine .mono (.bind (W2 := fun r K => K (.bool r)) (.lazy (W := fun K => ∀ Q : V → H → Prop, (∀ r, K r → Q (.bool r) h) → wpE C b ρ h Q) (W' := fun K => ∀ Q : V → H → Prop, (∀ r, K r → Q (.bool r) h) → match i with | true => wpE C b ρ h Q | false => Q (.bool false) h) (.mono (.bind (W2 := fun y K => ∀ Q : V → H → Prop, (∀ r, K r → Q (.bool r) h) → Q y h) (ev_snd b) fun y => .evB fun j e => .ret fun K k Q q => by subst e; exact q _ k) fun K w Q q => w _ fun y w => w Q q) (fun e K w Q q => by subst e; exact w Q fun r k => q _ k) fun e y K k Q q => by subst e; exact q _ k) fun r => .ret fun K k => k) fun K w Q q => ?_
      cases i with
      | true => exact w Q fun r k => q _ k
      | false => exact w Q fun r k => q _ k) fun K w Q q => w _ fun x w => w Q q
  | .cmp2 o1 o2 a b c => .mono (.bind (ev_snd a) fun x => .bind (ev_snd b) fun y => .bind (W2 := fun r K => ∀ Q : V → H → Prop, (∀ v, K v → Q v h) → match r with | true => wpE C c ρ h fun vc h₃ => CmpW o2 y vc h₃ fun r => Q (.bool r) h₃ | false => Q (.bool false) h) (mCmp_ok o1 x y) fun r => .mono (.bind (W2 := fun r K => K (.bool r)) (.lazy (W := fun K => ∀ Q : V → H → Prop, (∀ r, K r → Q (.bool r) h) → wpE C c ρ h fun vc h₃ => CmpW o2 y vc h₃ fun r => Q (.bool r) h₃) (W' := fun K => ∀ Q : V → H → Prop, (∀ r, K r → Q (.bool r) h) → match r with | true => wpE C c ρ h fun vc h₃ => CmpW o2 y vc h₃ fun r => Q (.bool r) h₃ | false => Q (.bool false) h) (.mono (.bind (ev_snd c) fun z => mCmp_ok o2 y z) fun K w Q q => w _ fun z w => w _ q) (fun e K w Q q => by subst e; exact w Q fun v k => q _ k) fun e y K k Q q => by subst e; exact q _ k) fun r => .ret fun K k => k) fun K w Q q => w Q fun r k => q _ k) fun K w Q q => w _ fun x w => w _ fun y w => w _ fun r w => w Q q
  | .or .. => Snd.fail
  | .slice a lo hi => .mono (.bind (ev_snd a) fun x => .bind (ev_snd lo) fun y => .bind (W2 := fun z K => ∀ Q : V → H → Prop, (∀ v, K v → Q v h) → SliceW x y z h Q) (ev_snd hi) fun z => .ask fun w => .need fun p K k Q q => p Q (q w k)) fun K w Q q => w _ fun x w => w _ fun y w => w _ fun z w => w Q q
  | .list .. => Snd.fail
  | .dict0 => Snd.fail
  | .dict1 .. => Snd.fail
  | .comp .. => Snd.fail
  | .call .. => Snd.fail
  | .meth .. => Snd.fail
theorem evs_snd : ∀ (es : List E), Snd (evs L h es) (WEs C ρ h es)
  | [] => .ret fun K k Q q => q _ k
  | e :: es => .mono (.bind (ev_snd e) fun v => .bind (W2 := fun vs K => K (v :: vs)) (evs_snd es) fun vs => .ret fun K k => k) fun K w Q q => w _ fun v w => w _ fun vs k => q _ k
end
theorem evT_snd : ∀ (e : E), Snd (evT L h e) (WT C ρ h e)
  | .not a => .mono (.bind (W2 := fun x K => K (!x)) (evT_snd a) fun x => .ret fun K k => k) fun K w Q q => w _ fun x k => q _ k
  | .and a b => .mono (.bind (W2 := fun x K => ∀ Q : Bool → H → Prop, (∀ v, K v → Q v h) → match x with | true => wpT C b ρ h Q | false => Q false h) (evT_snd a) fun x => .lazy (evT_snd b) (fun e K w Q q => by subst e; exact w Q fun v k => q _ k) fun e y K k Q q => by subst e; exact q _ k) fun K w Q q => w _ fun x w => w Q q
  | .or a b => .mono (.bind (W2 := fun x K => ∀ Q : Bool → H → Prop, (∀ v, K v → Q v h) → match x with | true => Q true h | false => wpT C b ρ h Q) (evT_snd a) fun x => by
      cases x with
      | true => exact .lazy (evT_snd b) (fun e => nomatch e) fun e y K k Q q => q _ k
      | false => exact .lazy (evT_snd b) (fun e K w Q q => w Q fun v k => q _ k) fun e => nomatch e) fun K w Q q => w _ fun x w => w Q q
  | .cmp op a b => .mono (.bind (ev_snd ag a) fun x => .bind (ev_snd ag b) fun y => mCmp_ok op x y) fun K w Q q => w _ fun x w => w _ fun y w => w _ q
  | .cmp2 o1 o2 a b c => .mono (.bind (ev_snd ag a) fun x => .bind (ev_snd ag b) fun y => .bind (W2 := fun r K => ∀ Q : Bool → H → Prop, (∀ v, K v → Q v h) → match r with | true => wpE C c ρ h fun vc h₃ => CmpW o2 y vc h₃ fun r => Q r h₃ | false => Q false h) (mCmp_ok o1 x y) fun r => .lazy (W := fun K => ∀ Q : Bool → H → Prop, (∀ v, K v → Q v h) → wpE C c ρ h fun vc h₃ => CmpW o2 y vc h₃ fun r => Q r h₃) (.mono (.bind (ev_snd ag c) fun z => mCmp_ok o2 y z) fun K w Q q => w _ fun z w => w _ q) (fun e K w Q q => by subst e; exact w Q fun v k => q _ k) fun e y K k Q q => by subst e; exact q _ k) fun K w Q q => w _ fun x w => w _ fun y w => w _ fun r w => w Q q
  | .lit v => .evB fun i e => .ret fun K k Q q => by subst e; exact q _ k
  | .var i => .mono (.bind (W1 := fun K => ∃ v, lk L i = some v ∧ K v) (W2 := fun v K => ∀ Q : Bool → H → Prop, (∀ v, K v → Q v h) → truth v h fun b => Q b h) (.of fun v e K k => ⟨v, e, k⟩) fun v => by
      cases v with
      | none => exact .ret fun K k Q q => q _ k
      | bool => exact .ret fun K k Q q => q _ k
      | _ => exact Snd.fail) fun K ⟨v, e, w⟩ Q q => by rw [t_vk, ag i v e]; exact w Q q
  | .isinst a t => .mono (.bind (ev_snd ag a) fun x => mIs_ok x t) fun K w Q q => w _ fun x w => w _ q
  | .bin .. => Snd.fail
  | .neg .. => Snd.fail
  | .sub .. => Snd.fail
  | .slice .. => Snd.fail
  | .tup .. => Snd.fail
  | .list .. => Snd.fail
  | .dict0 => Snd.fail
  | .dict1 .. => Snd.fail
  | .comp .. => Snd.fail
  | .call .. => Snd.fail
  | .bi .. => Snd.fail
  | .meth .. => Snd.fail
end
end Tw
end

section
namespace Tw

noncomputable def natV (n : Nat) : V := .int n

/-! rules over known environments -/
noncomputable def AE (C : Ora) (L : Env) (h : H) (e : E) (Q : V → H → Prop) : Prop := ∀ ρ, Ag L ρ → wpE C e ρ h Q
noncomputable def AB (C : Ora) (L : Env) (h : H) (r : List S) (Q : Out → Rho → H → Prop) : Prop := ∀ ρ, Ag L ρ → wpB C r ρ h Q
noncomputable def bindA (t : Tgt) (v : V) (L : Env) (K : Env → Prop) : Prop := match t with
  | .name i => K ((i, v) :: L)
  | .tup is => asTup v fun vs => is.length = vs.length ∧ K (pushs L is vs)
theorem bindA_ok {t : Tgt} {v : V} {L : Env} {K : Env → Prop} {ρ : Rho} {Q : Rho → Prop} (a : Ag L ρ) (x : bindA t v L K) (q : ∀ L' ρ', Ag L' ρ' → K L' → Q ρ') : bindT t v ρ Q := by
  cases t with
  | name i => exact q _ _ a.push x
  | tup is => exact asTup.mono (fun vs y => ⟨y.1, q _ _ (Ag.pushs is vs a) y.2⟩) x

section
variable {C : Ora} {L : Env} {h : H} {r : List S} {Q : Out → Rho → H → Prop} {e : E} {g g' : List V} {c : List Prop} {v : V}
theorem A_fn {vs : List V} (x : AB C (argsL 0 vs) h r Q) : wpB C r (argsR vs) h Q := x _ (ag_args vs)
theorem A_ev {Q : V → H → Prop} (x : ev L h e g = some (v, c, g')) (hc : AllP c) (q : Q v h) : AE C L h e Q := fun ρ ag => ev_snd ag e g v c g' x hc (fun w => w = v) rfl Q fun w e => e ▸ q
theorem A_set {i : Nat} (x : ev L h e g = some (v, c, g')) (hc : AllP c) (q : AB C ((i, v) :: L) h r Q) : AB C L h (.assign (.name i) e :: r) Q := fun ρ ag => A_ev (C := C) (Q := fun w h₁ => bindT (.name i) w ρ fun ρ' => wpB C r ρ' h₁ Q) x hc (q _ ag.push) ρ ag
theorem A_sets {is : List Nat} {vs : List V} (x : ev L h e g = some (.tup vs, c, g')) (hc : AllP c) (hl : is.length = vs.length) (q : AB C (pushs L is vs) h r Q) : AB C L h (.assign (.tup is) e :: r) Q := fun ρ ag => A_ev (C := C) (Q := fun w h₁ => bindT (.tup is) w ρ fun ρ' => wpB C r ρ' h₁ Q) x hc ⟨hl, q _ (Ag.pushs is vs ag)⟩ ρ ag
theorem A_ret (x : ev L h e g = some (v, c, g')) (hc : AllP c) (q : ∀ ρ, Q (.ret v) ρ h) : AB C L h (.ret (some e) :: r) Q := fun ρ ag => A_ev (C := C) (Q := fun w h₁ => Q (.ret w) ρ h₁) x hc (q ρ) ρ ag
theorem A_then (q : AB C L h r Q) : AB C L h [] (thenB C r Q) := q
theorem A_if {t : E} {a b : List S} {x : Bool} (he : evT L h t g = some (x, c, g')) (hc : AllP c) (h1 : x = true → AB C L h a (thenB C r Q)) (h2 : x = false → AB C L h b (thenB C r Q)) : AB C L h (.ite t a b :: r) Q := fun ρ ag =>
  B_ite (evT_snd ag t g x c g' he hc (fun y => y = x) rfl _ fun y e => by
    subst e
    cases y with
    | true => exact h1 rfl ρ ag
    | false => exact h2 rfl ρ ag)
theorem A_list0 {i : Nat} (q : AB C ((i, .ref h.length) :: L) (h ++ [.list []]) r Q) : AB C L h (.assign (.name i) (.list []) :: r) Q := fun ρ ag => q _ ag.push
theorem A_dict0 {i : Nat} (q : ∀ ver, AB C ((i, .ref h.length) :: L) (h ++ [.dict [] ver]) r Q) : AB C L h (.assign (.name i) .dict0 :: r) Q := fun ρ ag ver => q ver _ ag.push
theorem A_app {i n : Nat} {vs : List V} (hi : lk L i = some (.ref n)) (hn : h[n]? = some (.list vs)) (hl : vs.length < SZ) (x : ev L h e g = some (v, c, g')) (hc : AllP c) (q : AB C L (h.set n (.list (vs ++ [v]))) r Q) : AB C L h (.expr (.meth .append (.var i) [e]) :: r) Q := fun ρ ag => by
  refine B_expr ?_
  rw [e_meth, e_vk, ag i _ hi]
  refine ⟨⟨vs, hn⟩, ?_⟩
  rw [es_cons]
  refine A_ev (C := C) (Q := fun v h₁ => wpEs C [] ρ h₁ fun vs h₂ => MethW .append (.ref n) (v :: vs) h₂ fun _ h₁ => wpB C r ρ h₁ Q) x hc ?_ ρ ag
  rw [es_nil, x_app hn]
  exact ⟨hl, q ρ ag⟩
theorem A_callE {f : Nat} {as : List E} {vs : List V} {Q : V → H → Prop} (x : evs L h as g = some (vs, c, g')) (hc : AllP c) (q : C f vs h Q) : AE C L h (.call f as) Q := fun ρ ag => evs_snd ag as g vs c g' x hc (fun w => w = vs) rfl _ fun w e => by rw [e]; exact q
variable (hC : MonoC C)
include hC
theorem A_name {i : Nat} (x : AE C L h e fun v h₁ => AB C ((i, v) :: L) h₁ r Q) : AB C L h (.assign (.name i) e :: r) Q := fun ρ ag => wpE_mono hC e (fun v h₁ y => y _ ag.push) (x ρ ag)
theorem A_tup {is : List Nat} (x : AE C L h e fun v h₁ => ∃ vs, v = .tup vs ∧ is.length = vs.length ∧ AB C (pushs L is vs) h₁ r Q) : AB C L h (.assign (.tup is) e :: r) Q := fun ρ ag => wpE_mono hC e (fun v h₁ ⟨vs, e, hl, y⟩ => by rw [e]; exact ⟨hl, y _ (Ag.pushs is vs ag)⟩) (x ρ ag)
theorem A_call {i f : Nat} {as : List E} {vs : List V} (x : evs L h as g = some (vs, c, g')) (hc : AllP c) (q : C f vs h fun v h₁ => AB C ((i, v) :: L) h₁ r Q) : AB C L h (.assign (.name i) (.call f as) :: r) Q := A_name hC (A_callE x hc q)
theorem A_calls {is : List Nat} {f : Nat} {as : List E} {vs : List V} (x : evs L h as g = some (vs, c, g')) (hc : AllP c) (q : C f vs h fun v h₁ => ∃ vs, v = .tup vs ∧ is.length = vs.length ∧ AB C (pushs L is vs) h₁ r Q) : AB C L h (.assign (.tup is) (.call f as) :: r) Q := A_tup hC (A_callE x hc q)
theorem A_callX {f : Nat} {as : List E} {vs : List V} (x : evs L h as g = some (vs, c, g')) (hc : AllP c) (q : C f vs h fun v h₁ => AB C L h₁ r Q) : AB C L h (.expr (.call f as) :: r) Q := fun ρ ag => B_expr (wpE_mono hC _ (fun v h₁ y => y ρ ag) (A_callE (Q := fun v h₁ => AB C L h₁ r Q) x hc q ρ ag))
theorem A_callR {f : Nat} {as : List E} {vs : List V} (x : evs L h as g = some (vs, c, g')) (hc : AllP c) (q : C f vs h fun v h₁ => ∀ ρ, Q (.ret v) ρ h₁) : AB C L h (.ret (some (.call f as)) :: r) Q := fun ρ ag => B_ret (wpE_mono hC _ (fun v h₁ y => y ρ) (A_callE (Q := fun v h₁ => ∀ ρ, Q (.ret v) ρ h₁) x hc q ρ ag))

/-- a loop: at its head the environment is L₀ of some state -/
theorem A_for {σ : Type} {t : Tgt} {b : List S} {it : Nat → It} {vs : List V} {K : H → Prop} (go : Goes it vs K) (L₀ : σ → Env) (I : Nat → σ → H → Prop) (s₀ : σ) (hin : AllIn (L₀ s₀) L) (x : AE C L h e fun v h₁ => (∀ Q : It → Prop, Q (it 0) → IterW v h₁ Q) ∧ I 0 s₀ h₁) (hl : ∀ i s h, I i s h → K h)
    (step : ∀ i v s h, vs[i]? = some v → I i s h → bindA t v (L₀ s) fun L' => AB C L' h b fun o ρ' h' => match o with | .next => ∃ s', Ag (L₀ s') ρ' ∧ I (i + 1) s' h' | .ret w => Q (.ret w) ρ' h') (fin : ∀ s h, I vs.length s h → AB C (L₀ s) h r Q) : AB C L h (.for t e b :: r) Q := fun ρ ag => by
  refine B_for_it hC go (fun i ρ' h' => ∃ s, Ag (L₀ s) ρ' ∧ I i s h') (wpE_mono hC e (fun v h₁ y => ⟨y.1, s₀, AllIn.ag ag hin, y.2⟩) (x ρ ag)) (fun i ρ' h' ⟨s, _, y⟩ => hl i s h' y) ?_ fun ρ' h' ⟨s, a, y⟩ => fin s h' y ρ' a
  rintro i v ρ' h' hv ⟨s, a, y⟩
  exact bindA_ok a (step i v s h' hv y) fun L' ρ'' a' z => z ρ'' a'
theorem A_while {σ : Type} {t : E} {b : List S} (L₀ : σ → Env) (I : Nat → σ → H → Prop) (n : Nat) (s₀ : σ) (hin : AllIn (L₀ s₀) L) (h0 : I n s₀ h)
    (step : ∀ n s h, I n s h → ∀ ρ, Ag (L₀ s) ρ → wpT C t ρ h fun c h₁ => match c with
      | true => AB C (L₀ s) h₁ b fun o ρ' h' => match o with | .next => ∃ m s', m < n ∧ Ag (L₀ s') ρ' ∧ I m s' h' | .ret w => Q (.ret w) ρ' h'
      | false => AB C (L₀ s) h₁ r Q) : AB C L h (.while t b :: r) Q := fun ρ ag => by
  refine B_while hC (fun n ρ' h' => ∃ s, Ag (L₀ s) ρ' ∧ I n s h') n ⟨s₀, AllIn.ag ag hin, h0⟩ ?_
  rintro n ρ' h' ⟨s, a, y⟩
  refine wpT_mono hC t (fun c h₁ z => ?_) (step n s h' y ρ' a)
  cases c with
  | true =>
    refine wpB_mono hC b (fun o ρ'' h'' w => ?_) (z ρ' a)
    cases o with
    | next => obtain ⟨m, s', hm, a', w⟩ := w; exact ⟨m, hm, s', a', w⟩
    | ret => exact w
  | false => exact z ρ' a
omit hC in
theorem A_next {σ : Type} {L₀ : σ → Env} {P : σ → H → Prop} {R : V → Rho → H → Prop} (s : σ) (hin : AllIn (L₀ s) L) (x : P s h) : AB C L h [] (fun o ρ' h' => match o with | .next => ∃ s', Ag (L₀ s') ρ' ∧ P s' h' | .ret w => R w ρ' h') := fun ρ ag => ⟨s, AllIn.ag ag hin, x⟩
omit hC in
theorem A_again {σ : Type} {L₀ : σ → Env} {P : Nat → σ → H → Prop} {R : V → Rho → H → Prop} {n : Nat} (m : Nat) (s : σ) (hm : m < n) (hin : AllIn (L₀ s) L) (x : P m s h) : AB C L h [] (fun o ρ' h' => match o with | .next => ∃ m s', m < n ∧ Ag (L₀ s') ρ' ∧ P m s' h' | .ret w => R w ρ' h') := fun ρ ag => ⟨m, s, hm, AllIn.ag ag hin, x⟩

end
section
variable {C : Ora} {L : Env} {h : H} {r : List S} {Q : Out → Rho → H → Prop} {e : E} {g g' : List V} {c : List Prop} {v : V}
theorem A_bi {b : Bi} {as : List E} {vs : List V} {Q : V → H → Prop} (x : evs L h as g = some (vs, c, g')) (hc : AllP c) (q : BiW b vs h Q) : AE C L h (.bi b as) Q := fun ρ ag => evs_snd ag as g vs c g' x hc (fun w => w = vs) rfl _ fun w e => by rw [e]; exact q
theorem A_dict1 {i : Nat} {k : E} {vk : V} {g₂ g₂' : List V} {c₂ : List Prop} (x : ev L h k g₂ = some (vk, c₂, g₂')) (hc₂ : AllP c₂) (y : ev L h e g = some (v, c, g')) (hc : AllP c) (hk : vk.isKey = true) (q : ∀ ver, AB C ((i, .ref h.length) :: L) (h ++ [.dict [(vk, v)] ver]) r Q) : AB C L h (.assign (.name i) (.dict1 k e) :: r) Q := fun ρ ag => by
  refine B_name ?_
  rw [e_dict1]
  refine ev_snd ag k _ _ _ _ x hc₂ (fun w => w = vk) rfl _ fun w e1 => ?_
  refine ev_snd ag e _ _ _ _ y hc (fun w => w = v) rfl _ fun w e2 => ?_
  rw [e1, e2]
  exact ⟨hk, fun ver => q ver _ ag.push⟩
theorem A_list {i : Nat} {es : List E} {vs : List V} (x : evs L h es g = some (vs, c, g')) (hc : AllP c) (q : AB C ((i, .ref h.length) :: L) (h ++ [.list vs]) r Q) : AB C L h (.assign (.name i) (.list es) :: r) Q := fun ρ ag => evs_snd ag es g vs c g' x hc (fun w => w = vs) rfl _ fun w e => by rw [e]; exact q _ ag.push
theorem A_put {o n ver : Nat} {es : List (V × V)} {k : E} {vk : V} {g₂ g₂' : List V} {c₂ : List Prop} (ho : lk L o = some (.ref n)) (hn : h[n]? = some (.dict es ver)) (x : ev L h k g₂ = some (vk, c₂, g₂')) (hc₂ : AllP c₂) (y : ev L h e g = some (v, c, g')) (hc : AllP c) (hk : vk.isKey = true) (hl : es.length < SZ) (q : ∀ ver, AB C L (h.set n (.dict (dput es vk v) ver)) r Q) : AB C L h (.store (.var o) k e :: r) Q := fun ρ ag => by
  refine B_store (A_ev (C := C) (Q := fun v h₁ => wpE C (.var o) ρ h₁ fun vo h₂ => wpE C k ρ h₂ fun vi h₃ => StoreW vo vi v h₃ fun h₄ => wpB C r ρ h₄ Q) y hc ?_ ρ ag)
  rw [e_vk, ag o _ ho]
  refine A_ev (C := C) (Q := fun vi h₃ => StoreW (.ref n) vi v h₃ fun h₄ => wpB C r ρ h₄ Q) x hc₂ ?_ ρ ag
  rw [x_std hn]
  exact ⟨hk, hl, fun ver => q ver ρ ag⟩
variable (hC : MonoC C)
include hC
theorem A_retE (x : AE C L h e fun v h₁ => ∀ ρ, Q (.ret v) ρ h₁) : AB C L h (.ret (some e) :: r) Q := fun ρ ag => B_ret (wpE_mono hC e (fun v h₁ y => y ρ) (x ρ ag))
theorem A_forE {t : Tgt} {b : List S} (x : AE C L h e fun v h₁ => AB C L h₁ (.for t (.lit v) b :: r) Q) : AB C L h (.for t e b :: r) Q := fun ρ ag => wpE_mono hC e (fun v h₁ y => y ρ ag) (x ρ ag)
theorem A_whileT {σ : Type} {t : E} {b : List S} (L₀ : σ → Env) (I : Nat → σ → H → Prop) (n : Nat) (s₀ : σ) (hin : AllIn (L₀ s₀) L) (h0 : I n s₀ h)
    (step : ∀ n s h, I n s h → ∃ g x c g', evT (L₀ s) h t g = some (x, c, g') ∧ AllP c ∧ (x = true → AB C (L₀ s) h b fun o ρ' h' => match o with | .next => ∃ m s', m < n ∧ Ag (L₀ s') ρ' ∧ I m s' h' | .ret w => Q (.ret w) ρ' h') ∧ (x = false → AB C (L₀ s) h r Q)) : AB C L h (.while t b :: r) Q :=
  A_while hC L₀ I n s₀ hin h0 fun n s h hi ρ ag => by
    obtain ⟨g, x, c, g', h1, h2, h3, h4⟩ := step n s h hi
    refine evT_snd ag t _ _ _ _ h1 h2 (fun y => y = x) rfl _ fun y e => ?_
    subst e
    cases y with
    | true => exact h3 rfl
    | false => exact h4 rfl
theorem A_comp {α : Type} {l : List α} {f : α → V} {w : α → V} {elt : E} {tgt : Tgt} {it : Nat → It} {K : H → Prop} {Q : V → H → Prop} (go : Goes it (l.map f) K) (he : ev L h e g = some (v, c, g')) (hc : AllP c) (hv : ∀ Q : It → Prop, Q (it 0) → IterW v h Q) (hK : K h) (hl : l.length ≤ SZ)
    (step : ∀ a ∈ l, bindA tgt (f a) L fun L' => ∃ g₀ cs g₁, ev L' h elt g₀ = some (w a, cs, g₁) ∧ AllP cs) (q : Q (.ref h.length) (h ++ [.list (l.map w)])) : AE C L h (.comp elt tgt e none) Q := fun ρ ag => by
  refine E_comp_pure hC (g := fun a => some (w a)) go (A_ev (C := C) (Q := fun u h₁ => (∀ Q : It → Prop, Q (it 0) → IterW u h Q) ∧ h₁ = h) he hc ⟨hv, rfl⟩ ρ ag) hK hl (fun a ha => ?_) (by rw [List.filterMap_eq_map']; exact q)
  refine bindA_ok ag (step a ha) fun L' ρ' a' ⟨g₀, cs, g₁, h1, h2⟩ => ⟨rfl, rfl, fun u hu => ?_⟩
  cases hu
  exact ev_snd a' elt _ _ _ _ h1 h2 (fun y => y = w a) rfl _ fun y e => ⟨e, rfl⟩
theorem A_compIf {α : Type} {l : List α} {f : α → V} {ga : α → Option V} {elt t : E} {tgt : Tgt} {it : Nat → It} {K : H → Prop} {Q : V → H → Prop} (go : Goes it (l.map f) K) (he : ev L h e g = some (v, c, g')) (hc : AllP c) (hv : ∀ Q : It → Prop, Q (it 0) → IterW v h Q) (hK : K h) (hl : l.length ≤ SZ)
    (step : ∀ a ∈ l, bindA tgt (f a) L fun L' => ∃ g₀ b cs g₁, evT L' h t g₀ = some (b, cs, g₁) ∧ AllP cs ∧ b = (ga a).isSome ∧ ∀ w, ga a = some w → ∃ g₀ cs g₁, ev L' h elt g₀ = some (w, cs, g₁) ∧ AllP cs) (q : Q (.ref h.length) (h ++ [.list (l.filterMap ga)])) : AE C L h (.comp elt tgt e (some t)) Q := fun ρ ag => by
  refine E_comp_pure hC (g := ga) go (A_ev (C := C) (Q := fun u h₁ => (∀ Q : It → Prop, Q (it 0) → IterW u h Q) ∧ h₁ = h) he hc ⟨hv, rfl⟩ ρ ag) hK hl (fun a ha => ?_) q
  refine bindA_ok ag (step a ha) fun L' ρ' a' ⟨g₀, b, cs, g₁, h1, h2, h3, h4⟩ => ?_
  refine evT_snd a' t _ _ _ _ h1 h2 (fun y => y = b) rfl _ fun y e => ⟨rfl, e.trans h3, fun w hw => ?_⟩
  obtain ⟨g₀, cs, g₁, h5, h6⟩ := h4 w hw
  exact ev_snd a' elt _ _ _ _ h5 h6 (fun y => y = w) rfl _ fun y e => ⟨e, rfl⟩
end
theorem AB_heap {C : Ora} {L : Env} {h h' : H} {r : List S} {Q : Out → Rho → H → Prop} (e : h' = h) (x : AB C L h r Q) : AB C L h' r Q := e ▸ x
theorem no_b {p : Prop} (h : false = true) : p := nomatch h
theorem isS_if {α : Type} {p : Prop} [Decidable p] {x : α} {b : Bool} (h : b = decide p) : b = (if p then some x else none).isSome := by
  rw [h]; by_cases hp : p <;> simp [hp]
theorem some_if {α : Type} {p : Prop} [Decidable p] {x w : α} (h : (if p then some x else none) = some w) : p ∧ x = w := by
  by_cases hp : p
  · rw [if_pos hp] at h; exact ⟨hp, Option.some.inj h⟩
  · rw [if_neg hp] at h; cases h
theorem fm_filter {α β : Type} {p : α → Prop} [DecidablePred p] {f : α → β} (l : List α) : l.filterMap (fun a => if p a then some (f a) else none) = (l.filter fun a => decide (p a)).map f := by
  induction l with
  | nil => rfl
  | cons a r ih => by_cases hp : p a <;> simp [hp, ih]
/-! what the heap answers -/
theorem ln_map {α : Type} {f : α → V} {l : List α} {h : H} {n : Nat} (x : h[n]? = some (.list (l.map f))) : LnW h (.ref n) (.int l.length) := fun Q q => by rw [x_lenl x, List.length_map]; exact q
theorem rd_list {h : H} {n k : Nat} {vs : List V} {v : V} (x : h[n]? = some (.list vs)) (hk : k < 2 ^ 62) (y : vs[k]? = some v) : RdW h (.ref n) (.int k) v := fun R q => x_sln x hk y q
theorem cm_in {h : H} {n ver : Nat} {es : List (V × V)} {a : V} {p : Prop} [Decidable p] (x : h[n]? = some (.dict es ver)) (hk : a.isKey = true) (hp : a ∈ es.map (·.1) ↔ p) : CmW h .isIn a (.ref n) (decide p) := fun P q => by rw [x_ind x]; exact ⟨hk, by rw [decide_eq_decide.mpr hp]; exact q⟩
theorem cm_nin {h : H} {n ver : Nat} {es : List (V × V)} {a : V} {p : Prop} [Decidable p] (x : h[n]? = some (.dict es ver)) (hk : a.isKey = true) (hp : a ∈ es.map (·.1) ↔ p) : CmW h .notIn a (.ref n) (!decide p) := fun P q => by rw [x_nid x]; exact ⟨hk, by rw [decide_eq_decide.mpr hp]; exact q⟩
theorem it_list {h : H} {n : Nat} {vs : List V} (x : h[n]? = some (.list vs)) : ∀ Q : It → Prop, Q (.seq n 0) → IterW (.ref n) h Q := fun Q q => iter_list x q
theorem range_map (n : Nat) : rangeV 0 n 1 = (List.range n).map natV := by
  rw [rangeV_nat]
  apply List.ext_getElem?
  intro i
  rw [ints_get, List.getElem?_map]
  by_cases h : i < n
  · rw [if_pos h, List.getElem?_range h]; simp [natV]
  · rw [if_neg h, List.getElem?_eq_none (by simpa using h)]; rfl
theorem goes_range (n : Nat) : Goes (fun i => .vals ((rangeV 0 n 1).drop i)) ((List.range n).map natV) fun _ => True := range_map n ▸ goes_vals (rangeV 0 n 1)
end Tw
end

section
namespace Tw

noncomputable def sgA : List Nat := [32, 33, 34, 35, 36, 38, 39, 40, 41, 42, 43, 44, 45, 46, 47, 48, 49, 50, 51, 52, 53, 54, 55, 56, 57, 58, 59, 60, 61, 62, 63, 64, 65, 66, 67, 68, 69, 70, 71, 72, 73, 74, 75, 76, 77, 78, 79, 80, 81, 82, 83, 84, 85, 86, 87, 88, 89, 90, 91, 92, 93, 94, 95, 96]
noncomputable def sgB : List Nat := [97, 98, 99, 100, 101, 102, 103, 104, 105, 106, 107, 108, 109, 110, 111, 112, 113, 114, 115, 116, 117, 118, 119, 120, 121, 122, 123, 124, 125, 126]

noncomputable def fn_need : Fn := ⟨1, [
  .ite (.not (.var 0)) [
    .raise] []]⟩
noncomputable def fn_checked : Fn := ⟨1, [
  .assign (.tup [1, 2, 3, 4]) (.var 0),
  .expr (.call 0 [(.and (.cmp2 .le .le (.lit (.int 1)) (.var 1) (.lit (.int 100))) (.and (.cmp2 .le .lt (.lit (.int 0)) (.var 2) (.var 1)) (.cmp .le (.bi .len [(.var 4)]) (.lit (.int 1000)))))]),
  .assign (.name 5) .dict0,
  .for (.name 6) (.var 3) [
    .expr (.call 0 [(.cmp2 .le .lt (.lit (.int 0)) (.var 6) (.var 1))]),
    .store (.var 5) (.var 6) (.lit (.bool true))],
  .for (.tup [7, 8, 9, 10]) (.var 4) [
    .expr (.call 0 [(.and (.cmp2 .le .lt (.lit (.int 0)) (.var 7) (.var 1)) (.and (.cmp2 .le .lt (.lit (.int 0)) (.var 10) (.var 1)) (.and (.cmp .le (.bi .len [(.var 8)]) (.lit (.int 1))) (.cmp .le (.bi .len [(.var 9)]) (.lit (.int 1))))))])],
  .ret (some (.tup [(.var 1), (.var 2), (.var 5), (.bi .list [(.var 4)])]))]⟩
noncomputable def fn_leaving : Fn := ⟨2, [
  .assign (.name 2) (.comp (.list []) (.name 7) (.bi .range [(.var 0)]) none),
  .for (.name 3) (.bi .range [(.bi .len [(.var 1)])]) [
    .expr (.meth .append (.sub (.var 2) (.sub (.sub (.var 1) (.var 3)) (.lit (.int 0)))) [(.var 3)])],
  .ret (some (.var 2))]⟩
noncomputable def fn_gone_on : Fn := ⟨3, [
  .ite (.cmp .eq (.var 2) (.lit (.str []))) [
    .ret (some (.var 1))] [],
  .ite (.and (.cmp .lt (.var 1) (.bi .len [(.var 0)])) (.cmp .eq (.sub (.var 0) (.var 1)) (.var 2))) [
    .ret (some (.bin .add (.var 1) (.lit (.int 1))))] [],
  .ret (some (.lit .none))]⟩
noncomputable def fn_told_back : Fn := ⟨2, [
  .assign (.name 2) (.list []),
  .while (.cmp .isNot (.sub (.var 0) (.var 1)) (.lit .none)) [
    .assign (.tup [1, 3]) (.sub (.var 0) (.var 1)),
    .expr (.meth .append (.var 2) [(.var 3)])],
  .expr (.meth .reverse (.var 2) []),
  .ret (some (.var 2))]⟩
noncomputable def fn_way : Fn := ⟨3, [
  .assign (.tup [3, 4, 5, 6]) (.call 1 [(.var 0)]),
  .assign (.name 7) (.call 2 [(.var 3), (.var 6)]),
  .assign (.name 8) (.dict1 (.tup [(.var 4), (.lit (.int 0)), (.lit (.int 0))]) (.lit .none)),
  .assign (.name 9) (.list [(.tup [(.var 4), (.lit (.int 0)), (.lit (.int 0))])]),
  .assign (.name 10) (.lit (.int 0)),
  .while (.cmp .lt (.var 10) (.bi .len [(.var 9)])) [
    .assign (.name 11) (.sub (.var 9) (.var 10)),
    .assign (.name 10) (.bin .add (.var 10) (.lit (.int 1))),
    .ite (.and (.cmp .isIn (.sub (.var 11) (.lit (.int 0))) (.var 5)) (.and (.cmp .eq (.sub (.var 11) (.lit (.int 1))) (.bi .len [(.var 1)])) (.cmp .eq (.sub (.var 11) (.lit (.int 2))) (.bi .len [(.var 2)])))) [
      .ret (some (.call 4 [(.var 8), (.var 11)]))] [],
    .for (.name 12) (.sub (.var 7) (.sub (.var 11) (.lit (.int 0)))) [
      .assign (.tup [13, 14, 15, 16]) (.sub (.var 6) (.var 12)),
      .assign (.name 17) (.call 3 [(.var 1), (.sub (.var 11) (.lit (.int 1))), (.var 14)]),
      .assign (.name 18) (.call 3 [(.var 2), (.sub (.var 11) (.lit (.int 2))), (.var 15)]),
      .ite (.and (.cmp .isNot (.var 17) (.lit .none)) (.and (.cmp .isNot (.var 18) (.lit .none)) (.cmp .notIn (.tup [(.var 16), (.var 17), (.var 18)]) (.var 8)))) [
        .store (.var 8) (.tup [(.var 16), (.var 17), (.var 18)]) (.tup [(.var 11), (.var 12)]),
        .expr (.meth .append (.var 9) [(.tup [(.var 16), (.var 17), (.var 18)])])] []]],
  .ret (some (.lit .none))]⟩
noncomputable def fn_reads : Fn := ⟨2, [
  .assign (.tup [2, 3, 4, 5]) (.call 1 [(.var 0)]),
  .assign (.name 6) (.call 2 [(.var 2), (.var 5)]),
  .assign (.name 7) (.dict1 (.tup [(.var 3), (.lit (.int 0))]) (.lit (.bool true))),
  .assign (.name 8) (.list [(.tup [(.var 3), (.lit (.int 0))])]),
  .assign (.name 9) (.lit (.int 0)),
  .while (.cmp .lt (.var 9) (.bi .len [(.var 8)])) [
    .assign (.name 10) (.sub (.var 8) (.var 9)),
    .assign (.name 9) (.bin .add (.var 9) (.lit (.int 1))),
    .ite (.and (.cmp .isIn (.sub (.var 10) (.lit (.int 0))) (.var 4)) (.cmp .eq (.sub (.var 10) (.lit (.int 1))) (.bi .len [(.var 1)]))) [
      .ret (some (.lit (.bool true)))] [],
    .for (.name 11) (.sub (.var 6) (.sub (.var 10) (.lit (.int 0)))) [
      .assign (.name 12) (.call 3 [(.var 1), (.sub (.var 10) (.lit (.int 1))), (.sub (.sub (.var 5) (.var 11)) (.lit (.int 1)))]),
      .ite (.and (.cmp .isNot (.var 12) (.lit .none)) (.cmp .notIn (.tup [(.sub (.sub (.var 5) (.var 11)) (.lit (.int 3))), (.var 12)]) (.var 7))) [
        .store (.var 7) (.tup [(.sub (.sub (.var 5) (.var 11)) (.lit (.int 3))), (.var 12)]) (.lit (.bool true)),
        .expr (.meth .append (.var 8) [(.tup [(.sub (.sub (.var 5) (.var 11)) (.lit (.int 3))), (.var 12)])])] []]],
  .ret (some (.lit (.bool false)))]⟩
noncomputable def fn__law_cell : Fn := ⟨2, [
  .ite (.cmp .lt (.var 1) (.bi .len [(.var 0)])) [
    .ret (some (.sub (.var 0) (.var 1)))] [],
  .ret (some (.lit (.int 0)))]⟩
noncomputable def fn__law_signs : Fn := ⟨1, [
  .assign (.name 1) (.lit (.str sgA)),
  .assign (.name 1) (.bin .add (.var 1) (.lit (.str sgB))),
  .assign (.name 2) (.bin .mod (.bin .add (.bin .add (.var 0) (.lit (.int 1))) (.bin .mod (.bin .fdiv (.var 0) (.lit (.int 94))) (.lit (.int 46)))) (.lit (.int 94))),
  .assign (.name 3) (.bin .mod (.bin .add (.bin .add (.var 0) (.lit (.int 47))) (.bin .mod (.bin .fdiv (.var 0) (.lit (.int 4324))) (.lit (.int 46)))) (.lit (.int 94))),
  .ret (some (.list [(.lit (.str [])), (.sub (.var 1) (.bin .mod (.var 0) (.lit (.int 94)))), (.sub (.var 1) (.var 2)), (.sub (.var 1) (.var 3))]))]⟩
noncomputable def fnMach (a b : Int) : Fn := ⟨3, [
  .assign (.name 3) (.bin .add (.lit (.int 1)) (.bin .mod (.var 0) (.lit (.int a)))),
  .assign (.name 4) (.list []),
  .assign (.name 5) (.bin .fdiv (.bin .mod (.bin .mul (.var 0) (.lit (.int 48271))) (.lit (.int 2147483647))) (.lit (.int b))),
  .for (.name 6) (.bi .range [(.var 3)]) [
    .ite (.or (.cmp .eq (.bin .mod (.var 5) (.lit (.int 3))) (.lit (.int 0))) (.and (.cmp .eq (.bin .add (.var 6) (.lit (.int 1))) (.var 3)) (.cmp .eq (.var 4) (.list [])))) [
      .expr (.meth .append (.var 4) [(.var 6)])] [],
    .assign (.name 5) (.bin .fdiv (.var 5) (.lit (.int 3)))],
  .assign (.name 7) (.list []),
  .for (.name 8) (.var 1) [
    .assign (.name 8) (.bin .mod (.bin .mul (.var 8) (.lit (.int 48271))) (.lit (.int 2147483647))),
    .assign (.name 9) (.sub (.var 2) (.bin .mod (.var 8) (.lit (.int 4)))),
    .assign (.name 10) (.sub (.var 2) (.bin .mod (.bin .fdiv (.var 8) (.lit (.int 4))) (.lit (.int 4)))),
    .expr (.meth .append (.var 7) [(.tup [(.bin .mod (.bin .fdiv (.var 8) (.lit (.int 16))) (.var 3)), (.var 9), (.var 10), (.bin .mod (.bin .fdiv (.bin .fdiv (.var 8) (.lit (.int 16))) (.var 3)) (.var 3))])])],
  .ret (some (.tup [(.var 3), (.bin .mod (.bin .fdiv (.var 0) (.lit (.int a))) (.var 3)), (.var 4), (.var 7)]))]⟩
end Tw
end

section
namespace Tw

/-! machines, plain -/
structure Mv where
  s : Nat
  t : List Nat
  g : List Nat
  q : Nat
structure Ma where
  n : Nat
  b : Nat
  ends : List Nat
  moves : List Mv
noncomputable def Mv.v (m : Mv) : V := .tup [.int m.s, .str m.t, .str m.g, .int m.q]
structure Ma.ok (M : Ma) : Prop where
  n1 : 1 ≤ M.n
  n2 : M.n ≤ 100
  b1 : M.b < M.n
  l1 : M.moves.length ≤ 1000
  l2 : M.ends.length ≤ 1000
  e1 : ∀ e ∈ M.ends, e < M.n
  m1 : ∀ m ∈ M.moves, m.s < M.n ∧ m.q < M.n ∧ m.t.length ≤ 1 ∧ m.g.length ≤ 1
noncomputable def IsMa (h : H) (v : V) (M : Ma) : Prop := ∃ e m : Nat, v = .tup [.int M.n, .int M.b, .ref e, .ref m] ∧ h[e]? = some (.list (M.ends.map natV)) ∧ h[m]? = some (.list (M.moves.map Mv.v))

theorem IsMa.app {h : H} {v : V} {M : Ma} (x : IsMa h v M) (t : H) : IsMa (h ++ t) v M := by
  obtain ⟨e, m, h1, h2, h3⟩ := x
  refine ⟨e, m, h1, ?_, ?_⟩
  · rw [List.getElem?_append_left (List.getElem?_eq_some_iff.mp h2).1]; exact h2
  · rw [List.getElem?_append_left (List.getElem?_eq_some_iff.mp h3).1]; exact h3
theorem get_last (h : H) (o : MO) : (h ++ [o])[h.length]? = some o := by simp
theorem get_app {h t : H} {n : Nat} {o : MO} (x : h[n]? = some o) : (h ++ t)[n]? = some o := by
  rw [List.getElem?_append_left (List.getElem?_eq_some_iff.mp x).1]; exact x

section
variable {Φ : Nat → Option Fn} {d : Nat} {h : H} {Q : V → H → Prop}

theorem SZ_val : SZ = 16777216 := rfl
theorem need_ok (hΦ : Φ 0 = some fn_need) (q : Q .none h) : Calls Φ (d + 1) 0 [.bool true] h Q := by
  refine ⟨fn_need, hΦ, rfl, ?_⟩
  simpa [fn_need, b_nil, b_ret, b_ite, th_next, th_ret, ov_ret, ov_next, e_lit, e_vk, vk_some, e_bin, e_neg, e_not, e_and, e_or, e_cmp, e_cmp2, e_sub, e_slice, e_tup, e_list, e_dict0, e_dict1, e_call, e_bi, e_isinst, e_meth, es_nil, es_cons, o_none, o_some, t_not, t_and, t_or, t_cmp, t_cmp2, t_lit, t_vk, t_call, t_isinst, t_meth, x_bn, x_bt, u_nil, u_cons, upd_eq, upd_ne, argsR, x_addi, x_adds, x_subi, x_muli, x_fdiv, x_mod, x_tb, x_tn, x_eqi, x_eqs, x_eqb, x_nei, x_nes, x_lt, x_le, x_gt, x_ge, x_isn, x_isnn, x_isb, x_isnb, x_st0, x_st1, x_st2, x_st3, x_ss, x_lens, x_lent, x_r1, x_r2, x_r3, x_lr, x_rj, x_iil, x_iib, x_iss, x_itt, x_inn] using q

theorem cell_ok {n k : Nat} {xs : List Int} (hΦ : Φ 25 = some fn__law_cell) (hn : h[n]? = some (.frz (xs.map V.int))) (hk : k < 1000) (q : Q (.int (xs.getD k 0)) h) :
    Calls Φ (d + 1) 25 [.ref n, .int k] h Q := by
  refine ⟨fn__law_cell, hΦ, rfl, ?_⟩
  simp [fn__law_cell, b_nil, b_ret, b_ite, th_next, th_ret, ov_ret, ov_next, e_lit, e_vk, vk_some, e_bin, e_neg, e_not, e_and, e_or, e_cmp, e_cmp2, e_sub, e_slice, e_tup, e_list, e_dict0, e_dict1, e_call, e_bi, e_isinst, e_meth, es_nil, es_cons, o_none, o_some, t_not, t_and, t_or, t_cmp, t_cmp2, t_lit, t_vk, t_call, t_isinst, t_meth, x_bn, x_bt, u_nil, u_cons, upd_eq, upd_ne, argsR, x_addi, x_adds, x_subi, x_muli, x_fdiv, x_mod, x_tb, x_tn, x_eqi, x_eqs, x_eqb, x_nei, x_nes, x_lt, x_le, x_gt, x_ge, x_isn, x_isnn, x_isb, x_isnb, x_st0, x_st1, x_st2, x_st3, x_ss, x_lens, x_lent, x_r1, x_r2, x_r3, x_lr, x_rj, x_iil, x_iib, x_iss, x_itt, x_inn, x_lenf hn, x_sf hn]
  by_cases hlt : k < xs.length
  · simp only [decide_eq_true hlt]
    refine ⟨by omega, _, ⟨xs[k], by simp [hlt], rfl⟩, ?_⟩
    simpa [List.getD, hlt] using q
  · simp only [decide_eq_false hlt]
    simpa [List.getD, hlt] using q

/-- where one stands in a text behind a sign or none -/
noncomputable def gone (text : List Nat) (at' : Nat) (sign : List Nat) : Option Nat :=
  if sign = [] then some at' else if (text[at']?.map fun c => [c]) = some sign then some (at' + 1) else none
noncomputable def optV : Option Nat → V
  | none => .none
  | some k => .int k
theorem gone_ok {text sign : List Nat} {k : Nat} (hΦ : Φ 3 = some fn_gone_on) (hk : k < 2 ^ 62) (q : Q (optV (gone text k sign)) h) : Calls Φ (d + 1) 3 [.str text, .int k, .str sign] h Q := by
  refine ⟨fn_gone_on, hΦ, rfl, ?_⟩
  simp [fn_gone_on, b_nil, b_ret, b_ite, th_next, th_ret, ov_ret, ov_next, e_lit, e_vk, vk_some, e_bin, e_neg, e_not, e_and, e_or, e_cmp, e_cmp2, e_sub, e_slice, e_tup, e_list, e_dict0, e_dict1, e_call, e_bi, e_isinst, e_meth, es_nil, es_cons, o_none, o_some, t_not, t_and, t_or, t_cmp, t_cmp2, t_lit, t_vk, t_call, t_isinst, t_meth, x_bn, x_bt, u_nil, u_cons, upd_eq, upd_ne, argsR, x_addi, x_adds, x_subi, x_muli, x_fdiv, x_mod, x_tb, x_tn, x_eqi, x_eqs, x_eqb, x_nei, x_nes, x_lt, x_le, x_gt, x_ge, x_isn, x_isnn, x_isb, x_isnb, x_st0, x_st1, x_st2, x_st3, x_ss, x_lens, x_lent, x_r1, x_r2, x_r3, x_lr, x_rj, x_iil, x_iib, x_iss, x_itt, x_inn]
  by_cases hs : sign = []
  · simp only [decide_eq_true hs]
    simpa [gone, hs, optV] using q
  · simp only [decide_eq_false hs]
    by_cases hlt : k < text.length
    · simp only [decide_eq_true hlt]
      refine ⟨by omega, ⟨text[k], by simp [hlt], ?_⟩⟩
      by_cases he : [text[k]] = sign
      · simp only [decide_eq_true he]
        simpa [gone, hs, optV, hlt, he] using q
      · simp only [decide_eq_false he]
        simpa [gone, hs, optV, hlt, he] using q
    · simp only [decide_eq_false hlt]
      simpa [gone, hs, optV, hlt] using q

/-- the ends as a dict -/
noncomputable def finD (es : List Nat) : List (V × V) := es.foldl (fun a e => dput a (natV e) (.bool true)) []
theorem dput_len (es : List (V × V)) (k v : V) : (dput es k v).length ≤ es.length + 1 := by
  unfold dput; split <;> simp
theorem finD_take {es : List Nat} {i e : Nat} (h : es[i]? = some e) : finD (es.take (i + 1)) = dput (finD (es.take i)) (natV e) (.bool true) := by
  unfold finD; rw [List.take_add_one, h]; simp
theorem finD_len (es : List Nat) : (finD es).length ≤ es.length := by
  have : ∀ (es : List Nat) a, (es.foldl (fun a e => dput a (natV e) (V.bool true)) a).length ≤ a.length + es.length := by
    intro es
    induction es with
    | nil => intro a; simp
    | cons e r ih => intro a; have := ih (dput a (natV e) (.bool true)); have := dput_len a (natV e) (.bool true); simp; omega
  exact Nat.le_trans (this es []) (by simp)

theorem len2 (h : H) (a b : MO) : (h ++ [a, b])[h.length + 1]? = some b := by
  rw [List.getElem?_append_right (by omega)]; simp
theorem checked_ok {v : V} {M : Ma} (h0 : Φ 0 = some fn_need) (h1 : Φ 1 = some fn_checked) (hm : IsMa h v M) (ok : M.ok)
    (q : ∀ ver, Q (.tup [.int M.n, .int M.b, .ref h.length, .ref (h.length + 1)]) (h ++ [.dict (finD M.ends) ver, .list (M.moves.map Mv.v)])) : Calls Φ (d + 2) 1 [v] h Q := by
  obtain ⟨e, m, rfl, he, hmv⟩ := hm
  refine ⟨fn_checked, h1, rfl, A_fn ?_⟩
  have mC := calls_mono (Φ := Φ) (d + 1)
  have hz := SZ_val
  have n1 := ok.n1
  have n2 := ok.n2
  have b1 := ok.b1
  have l1 := ok.l1
  have l2 := ok.l2
  have need : ∀ {b : Bool} {h : H} {Q : V → H → Prop}, b = true → Q .none h → Calls Φ (d + 1) 0 [.bool b] h Q := fun e q => by subst e; exact need_ok h0 q
  refine A_sets (g := []) (vs := [.int M.n, .int M.b, .ref e, .ref m]) rfl trivial rfl (A_callX mC (g := [.int M.moves.length]) rfl ⟨fun _ => ⟨fun _ => ⟨ln_map hmv, trivial⟩, trivial⟩, trivial⟩ (need (by simp; omega) (A_dict0 fun ver => ?_)))
  refine A_for mC (goes_seq e (M.ends.map natV)) (fun _ : Unit => [(1, .int M.n), (2, .int M.b), (4, .ref m), (5, .ref h.length)]) (fun i _ H => ∃ ver, H = h ++ [.dict (finD (M.ends.take i)) ver]) () (by repeat (first | exact trivial | refine ⟨rfl, ?_⟩)) (A_ev (g := []) rfl trivial ⟨it_list (get_app he), ver, rfl⟩) (fun i _ H ⟨ver, x⟩ => by rw [x]; exact get_app he) ?_ ?_
  · rintro i v _ H hv ⟨ver, rfl⟩
    obtain ⟨x, hx, rfl, hil⟩ := map_at hv
    have hxn := ok.e1 x (List.mem_of_getElem? hx)
    refine A_callX mC (g := []) rfl trivial (need (by simp; omega) (A_put (g := []) (g₂ := []) rfl (get_last _ _) rfl trivial rfl trivial rfl ?_ fun ver => ?_))
    · have h5 := finD_len (M.ends.take i); rw [List.length_take] at h5; omega
    · exact A_next () (by repeat (first | exact trivial | refine ⟨rfl, ?_⟩)) ⟨ver, by rw [finD_take hx, List.set_append_right _ _ (Nat.le_refl _)]; simp⟩
  · rintro _ H ⟨ver, rfl⟩
    rw [List.length_map, List.take_length]
    have hmv' := get_app (t := [.dict (finD M.ends) ver]) hmv
    refine A_for mC (goes_seq m (M.moves.map Mv.v)) (fun _ : Unit => [(1, .int M.n), (2, .int M.b), (4, .ref m), (5, .ref h.length)]) (fun i _ H => H = h ++ [.dict (finD M.ends) ver]) () (by repeat (first | exact trivial | refine ⟨rfl, ?_⟩)) (A_ev (g := []) rfl trivial ⟨it_list hmv', rfl⟩) (fun i _ H x => by rw [x]; exact hmv') ?_ ?_
    · rintro i v _ H hv rfl
      obtain ⟨x, hx, rfl, hil⟩ := map_at hv
      obtain ⟨m1, m2, m3, m4⟩ := ok.m1 x (List.mem_of_getElem? hx)
      exact ⟨rfl, A_callX mC (g := []) rfl trivial (need (by simp; omega) (A_next () (by repeat (first | exact trivial | refine ⟨rfl, ?_⟩)) rfl))⟩
    · rintro _ H rfl
      refine fun ρ ag => B_ret ?_
      simp [e_lit, e_vk, vk_some, e_bin, e_neg, e_not, e_and, e_or, e_cmp, e_cmp2, e_sub, e_slice, e_tup, e_list, e_dict0, e_dict1, e_call, e_bi, e_isinst, e_meth, es_nil, es_cons, o_none, o_some, t_not, t_and, t_or, t_cmp, t_cmp2, t_lit, t_vk, t_call, t_isinst, t_meth, x_bn, x_bt, u_nil, u_cons, upd_eq, upd_ne, argsR, x_addi, x_adds, x_subi, x_muli, x_fdiv, x_mod, x_tb, x_tn, x_eqi, x_eqs, x_eqb, x_nei, x_nes, x_lt, x_le, x_gt, x_ge, x_isn, x_isnn, x_isb, x_isnb, x_st0, x_st1, x_st2, x_st3, x_ss, x_lens, x_lent, x_r1, x_r2, x_r3, x_lr, x_rj, x_iil, x_iib, x_iss, x_itt, x_inn, ag 1 _ rfl, ag 2 _ rfl, ag 4 _ rfl, ag 5 _ rfl, x_ll hmv']
      exact ⟨by omega, q ver⟩
end
end Tw
end

section
namespace Tw

section
variable {Φ : Nat → Option Fn} {d : Nat} {h : H} {Q : V → H → Prop}

theorem fmod_nat (a : Int) {b : Int} (hb : 0 < b) : ∃ k : Nat, a.fmod b = k ∧ (k : Int) < b := by
  have h1 := Int.fmod_nonneg_of_pos a hb
  have h2 := Int.fmod_lt_of_pos a hb
  exact ⟨(a.fmod b).toNat, by omega, by omega⟩

theorem sign_at {s : List Nat} {k : Nat} (hk : k < s.length) : ∃ c, s[k]? = some c := ⟨s[k], List.getElem?_eq_getElem hk⟩

theorem sg_a : sgA.length = 64 := rfl
theorem sg_b : sgB.length = 30 := rfl
theorem signs_ok {c : Int} (hΦ : Φ 26 = some fn__law_signs) (q : ∀ a b e : Nat, Q (.ref h.length) (h ++ [.list [.str [], .str [a], .str [b], .str [e]]])) : Calls Φ (d + 1) 26 [.int c] h Q := by
  refine ⟨fn__law_signs, hΦ, rfl, ?_⟩
  have hS := SZ_val
  simp only [fn__law_signs]
  refine B_name ?_
  rw [e_lit]
  refine B_name ?_
  simp only [e_bin, e_var, e_lit, upd_eq, Option.some.injEq, exists_eq_left', x_adds]
  refine ⟨by rw [hS, sg_a, sg_b]; decide, ?_⟩
  have hl : (sgA ++ sgB).length = 94 := by rw [List.length_append, sg_a, sg_b]
  generalize sgA ++ sgB = sg at hl ⊢
  refine B_name ?_
  simp [e_lit, e_vk, vk_some, e_bin, e_neg, e_not, e_and, e_or, e_cmp, e_cmp2, e_sub, e_slice, e_tup, e_list, e_dict0, e_dict1, e_call, e_bi, e_isinst, e_meth, es_nil, es_cons, o_none, o_some, t_not, t_and, t_or, t_cmp, t_cmp2, t_lit, t_vk, t_call, t_isinst, t_meth, x_bn, x_bt, u_nil, u_cons, upd_eq, upd_ne, argsR, x_addi, x_adds, x_subi, x_muli, x_fdiv, x_mod, x_tb, x_tn, x_eqi, x_eqs, x_eqb, x_nei, x_nes, x_lt, x_le, x_gt, x_ge, x_isn, x_isnn, x_isb, x_isnb, x_st0, x_st1, x_st2, x_st3, x_ss, x_lens, x_lent, x_r1, x_r2, x_r3, x_lr, x_rj, x_iil, x_iib, x_iss, x_itt, x_inn]
  refine B_name ?_
  simp [e_lit, e_vk, vk_some, e_bin, e_neg, e_not, e_and, e_or, e_cmp, e_cmp2, e_sub, e_slice, e_tup, e_list, e_dict0, e_dict1, e_call, e_bi, e_isinst, e_meth, es_nil, es_cons, o_none, o_some, t_not, t_and, t_or, t_cmp, t_cmp2, t_lit, t_vk, t_call, t_isinst, t_meth, x_bn, x_bt, u_nil, u_cons, upd_eq, upd_ne, argsR, x_addi, x_adds, x_subi, x_muli, x_fdiv, x_mod, x_tb, x_tn, x_eqi, x_eqs, x_eqb, x_nei, x_nes, x_lt, x_le, x_gt, x_ge, x_isn, x_isnn, x_isb, x_isnb, x_st0, x_st1, x_st2, x_st3, x_ss, x_lens, x_lent, x_r1, x_r2, x_r3, x_lr, x_rj, x_iil, x_iib, x_iss, x_itt, x_inn]
  refine B_ret ?_
  obtain ⟨k1, e1, l1⟩ := fmod_nat c (b := 94) (by decide)
  obtain ⟨k2, e2, l2⟩ := fmod_nat (c + 1 + (c.fdiv 94).fmod 46) (b := 94) (by decide)
  obtain ⟨k3, e3, l3⟩ := fmod_nat (c + 47 + (c.fdiv 4324).fmod 46) (b := 94) (by decide)
  obtain ⟨x1, g1⟩ := sign_at (s := sg) (k := k1) (by omega)
  obtain ⟨x2, g2⟩ := sign_at (s := sg) (k := k2) (by omega)
  obtain ⟨x3, g3⟩ := sign_at (s := sg) (k := k3) (by omega)
  rw [e2, e3]
  generalize hρ : upd (upd _ 2 _) 3 _ = ρ
  have r0 : ρ 0 = some (.int c) := congrFun hρ.symm 0
  have r1 : ρ 1 = some (.str sg) := congrFun hρ.symm 1
  have r2 : ρ 2 = some (.int k2) := congrFun hρ.symm 2
  have r3 : ρ 3 = some (.int k3) := congrFun hρ.symm 3
  clear hρ e2 e3
  simp [e_lit, e_vk, vk_some, e_bin, e_neg, e_not, e_and, e_or, e_cmp, e_cmp2, e_sub, e_slice, e_tup, e_list, e_dict0, e_dict1, e_call, e_bi, e_isinst, e_meth, es_nil, es_cons, o_none, o_some, t_not, t_and, t_or, t_cmp, t_cmp2, t_lit, t_vk, t_call, t_isinst, t_meth, x_bn, x_bt, u_nil, u_cons, upd_eq, upd_ne, argsR, x_addi, x_adds, x_subi, x_muli, x_fdiv, x_mod, x_tb, x_tn, x_eqi, x_eqs, x_eqb, x_nei, x_nes, x_lt, x_le, x_gt, x_ge, x_isn, x_isnn, x_isb, x_isnb, x_st0, x_st1, x_st2, x_st3, x_ss, x_lens, x_lent, x_r1, x_r2, x_r3, x_lr, x_rj, x_iil, x_iib, x_iss, x_itt, x_inn, r0, r1, r2, r3, e1, g1, g2, g3]
  exact ⟨by omega, by omega, by omega, q x1 x2 x3⟩

/-! one move, out of a cell -/
theorem mulOk_r (a : Int) {b : Int} (hb : b.natAbs < 2 ^ 63) : mulOk a b := .inr hb
theorem four3 {a b e : Nat} {k : Nat} (hk : (k : Int) < 4) : ∃ s : List Nat, ([V.str [], V.str [a], V.str [b], V.str [e]] : List V)[k]? = some (.str s) ∧ s.length ≤ 1 ∧ ∀ c ∈ s, c ∈ [a, b, e] := by
  have : k = 0 ∨ k = 1 ∨ k = 2 ∨ k = 3 := by omega
  rcases this with rfl | rfl | rfl | rfl
  · exact ⟨[], rfl, by simp⟩
  · exact ⟨[a], rfl, by simp⟩
  · exact ⟨[b], rfl, by simp⟩
  · exact ⟨[e], rfl, by simp⟩
theorem four {a b e : Nat} {k : Nat} (hk : (k : Int) < 4) : ∃ s : List Nat, ([V.str [], V.str [a], V.str [b], V.str [e]] : List V)[k]? = some (.str s) ∧ s.length ≤ 1 := by
  obtain ⟨s, h1, h2, _⟩ := four3 (a := a) (b := b) (e := e) hk
  exact ⟨s, h1, h2⟩

/-- where the signs lie -/
noncomputable def SignsAt (h : H) (v : V) : Prop := ∃ n a b e : Nat, v = .ref n ∧ h[n]? = some (.list [.str [], .str [a], .str [b], .str [e]])
/-- the same, with the signs told -/
noncomputable def SgAt (h : H) (v : V) (cs : List Nat) : Prop := ∃ n a b e : Nat, v = .ref n ∧ cs = [a, b, e] ∧ h[n]? = some (.list [.str [], .str [a], .str [b], .str [e]])
theorem SgAt.pre {h h' : H} {v : V} {cs : List Nat} (x : SgAt h v cs) (p : h <+: h') : SgAt h' v cs := by
  obtain ⟨n, a, b, e, rfl, rfl, g⟩ := x
  obtain ⟨t, rfl⟩ := p
  exact ⟨n, a, b, e, rfl, rfl, get_app g⟩
theorem SgAt.at {h : H} {v : V} {cs : List Nat} (x : SgAt h v cs) : SignsAt h v := by
  obtain ⟨n, a, b, e, rfl, rfl, g⟩ := x
  exact ⟨n, a, b, e, rfl, g⟩
noncomputable def Mv.over (m : Mv) (cs : List Nat) : Prop := (∀ c ∈ m.t, c ∈ cs) ∧ ∀ c ∈ m.g, c ∈ cs
noncomputable def okMv (n : Nat) (m : Mv) : Prop := m.s < n ∧ m.q < n ∧ m.t.length ≤ 1 ∧ m.g.length ≤ 1

/-- the loop that makes moves of cells: slots of the cell, of read and write, of the list, of the signs and of the states -/
theorem moves_turn3 {C : Ora} {cs : List Nat} {ρ : Rho} {H : Tw.H} {c : Int} {n L : Nat} {sv : V} {ms : List Mv} {Q : Out → Rho → Tw.H → Prop} {ic ir iw il is in' : Nat}
    (hc : ρ ic = some (.int c)) (hl : ρ il = some (.ref L)) (hs : ρ is = some sv) (hn : ρ in' = some (.int n)) (hn1 : 1 ≤ n) (hn2 : n ≤ 100) (hS : SgAt H sv cs) (hL : H[L]? = some (.list (ms.map Mv.v))) (hlen : ms.length < 100000)
    (d1 : ir ≠ ic) (d2 : iw ≠ ic) (d3 : iw ≠ ir) (d4 : il ≠ ic) (d5 : il ≠ ir) (d6 : il ≠ iw) (d7 : is ≠ ic) (d8 : is ≠ ir) (d9 : is ≠ iw) (d10 : in' ≠ ic) (d11 : in' ≠ ir) (d12 : in' ≠ iw)
    (q : ∀ m : Mv, okMv n m → m.over cs → ∀ ρ', (∀ i, i ≠ ic → i ≠ ir → i ≠ iw → ρ' i = ρ i) → Q .next ρ' (H.set L (.list ((ms ++ [m]).map Mv.v)))) :
    wpB C [
    .assign (.name ic) (.bin .mod (.bin .mul (.var ic) (.lit (.int 48271))) (.lit (.int 2147483647))),
    .assign (.name ir) (.sub (.var is) (.bin .mod (.var ic) (.lit (.int 4)))),
    .assign (.name iw) (.sub (.var is) (.bin .mod (.bin .fdiv (.var ic) (.lit (.int 4))) (.lit (.int 4)))),
    .expr (.meth .append (.var il) [(.tup [(.bin .mod (.bin .fdiv (.var ic) (.lit (.int 16))) (.var in')), (.var ir), (.var iw), (.bin .mod (.bin .fdiv (.bin .fdiv (.var ic) (.lit (.int 16))) (.var in')) (.var in'))])])] ρ H Q := by
  obtain ⟨sn, a, b, e, rfl, rfl, hsg⟩ := hS
  have hz := SZ_val
  refine B_name ?_
  simp [e_lit, e_vk, vk_some, e_bin, e_neg, e_not, e_and, e_or, e_cmp, e_cmp2, e_sub, e_slice, e_tup, e_list, e_dict0, e_dict1, e_call, e_bi, e_isinst, e_meth, es_nil, es_cons, o_none, o_some, t_not, t_and, t_or, t_cmp, t_cmp2, t_lit, t_vk, t_call, t_isinst, t_meth, x_bn, x_bt, u_nil, u_cons, upd_eq, upd_ne, argsR, x_addi, x_adds, x_subi, x_muli, x_fdiv, x_mod, x_tb, x_tn, x_eqi, x_eqs, x_eqb, x_nei, x_nes, x_lt, x_le, x_gt, x_ge, x_isn, x_isnn, x_isb, x_isnb, x_st0, x_st1, x_st2, x_st3, x_ss, x_lens, x_lent, x_r1, x_r2, x_r3, x_lr, x_rj, x_iil, x_iib, x_iss, x_itt, x_inn, hc]
  refine ⟨mulOk_r _ (by decide), ?_⟩
  generalize (c * 48271).fmod 2147483647 = x
  obtain ⟨k1, e1, l1⟩ := fmod_nat x (b := 4) (by decide)
  obtain ⟨k2, e2, l2⟩ := fmod_nat (x.fdiv 4) (b := 4) (by decide)
  obtain ⟨k3, e3, l3⟩ := fmod_nat (x.fdiv 16) (b := n) (by omega)
  obtain ⟨k4, e4, l4⟩ := fmod_nat ((x.fdiv 16).fdiv n) (b := n) (by omega)
  obtain ⟨s1, g1, z1, y1⟩ := four3 (a := a) (b := b) (e := e) l1
  obtain ⟨s2, g2, z2, y2⟩ := four3 (a := a) (b := b) (e := e) l2
  refine B_name ?_
  simp [e_lit, e_vk, vk_some, e_bin, e_neg, e_not, e_and, e_or, e_cmp, e_cmp2, e_sub, e_slice, e_tup, e_list, e_dict0, e_dict1, e_call, e_bi, e_isinst, e_meth, es_nil, es_cons, o_none, o_some, t_not, t_and, t_or, t_cmp, t_cmp2, t_lit, t_vk, t_call, t_isinst, t_meth, x_bn, x_bt, u_nil, u_cons, upd_eq, upd_ne, argsR, x_addi, x_adds, x_subi, x_muli, x_fdiv, x_mod, x_tb, x_tn, x_eqi, x_eqs, x_eqb, x_nei, x_nes, x_lt, x_le, x_gt, x_ge, x_isn, x_isnn, x_isb, x_isnb, x_st0, x_st1, x_st2, x_st3, x_ss, x_lens, x_lent, x_r1, x_r2, x_r3, x_lr, x_rj, x_iil, x_iib, x_iss, x_itt, x_inn, hs, d7, e1]
  refine x_sln hsg (by omega) g1 ?_
  refine B_name ?_
  simp [e_lit, e_vk, vk_some, e_bin, e_neg, e_not, e_and, e_or, e_cmp, e_cmp2, e_sub, e_slice, e_tup, e_list, e_dict0, e_dict1, e_call, e_bi, e_isinst, e_meth, es_nil, es_cons, o_none, o_some, t_not, t_and, t_or, t_cmp, t_cmp2, t_lit, t_vk, t_call, t_isinst, t_meth, x_bn, x_bt, u_nil, u_cons, upd_eq, upd_ne, argsR, x_addi, x_adds, x_subi, x_muli, x_fdiv, x_mod, x_tb, x_tn, x_eqi, x_eqs, x_eqb, x_nei, x_nes, x_lt, x_le, x_gt, x_ge, x_isn, x_isnn, x_isb, x_isnb, x_st0, x_st1, x_st2, x_st3, x_ss, x_lens, x_lent, x_r1, x_r2, x_r3, x_lr, x_rj, x_iil, x_iib, x_iss, x_itt, x_inn, hs, d7, d8, e2, d1.symm]
  refine x_sln hsg (by omega) g2 ?_
  refine B_expr ?_
  have n0 : (n : Int) ≠ 0 := by omega
  have n3 : (n : Int).natAbs < 1073741824 := by omega
  simp [e_lit, e_vk, vk_some, e_bin, e_neg, e_not, e_and, e_or, e_cmp, e_cmp2, e_sub, e_slice, e_tup, e_list, e_dict0, e_dict1, e_call, e_bi, e_isinst, e_meth, es_nil, es_cons, o_none, o_some, t_not, t_and, t_or, t_cmp, t_cmp2, t_lit, t_vk, t_call, t_isinst, t_meth, x_bn, x_bt, u_nil, u_cons, upd_eq, upd_ne, argsR, x_addi, x_adds, x_subi, x_muli, x_fdiv, x_mod, x_tb, x_tn, x_eqi, x_eqs, x_eqb, x_nei, x_nes, x_lt, x_le, x_gt, x_ge, x_isn, x_isnn, x_isb, x_isnb, x_st0, x_st1, x_st2, x_st3, x_ss, x_lens, x_lent, x_r1, x_r2, x_r3, x_lr, x_rj, x_iil, x_iib, x_iss, x_itt, x_inn, hl, hn, d1.symm, d2.symm, d3.symm, d4, d5, d6, d10, d11, d12, x_ra hL, e3, e4, n0, n3, x_app hL]
  refine ⟨by omega, by omega, by omega, by omega, ?_⟩
  have := q ⟨k3, s1, s2, k4⟩ ⟨by simp; omega, by simp; omega, z1, z2⟩ ⟨y1, y2⟩
  refine B_nil ?_
  have := this (upd (upd (upd ρ ic (.int x)) ir (.str s1)) iw (.str s2)) (fun i h1 h2 h3 => by rw [upd_ne h3, upd_ne h2, upd_ne h1])
  simpa [Mv.v] using this

theorem pre_get {h h' : H} (p : h <+: h') {n : Nat} {o : MO} (x : h[n]? = some o) : h'[n]? = some o := by obtain ⟨t, rfl⟩ := p; exact get_app x
theorem IsMa.pre {h h' : H} (p : h <+: h') {v : V} {M : Ma} (x : IsMa h v M) : IsMa h' v M := by obtain ⟨t, rfl⟩ := p; exact x.app t
theorem set_last (h : H) (a b : MO) : (h ++ [a]).set h.length b = h ++ [b] := by simp

/-! is it whole -/
/-! machines seen through the heap -/
noncomputable def natD (n : Nat) : D := .int n
theorem snaps_map {α : Type} {f : α → V} {g : α → D} (hf : ∀ x, Snap h (f x) (g x)) : ∀ (l : List α), Snaps h (l.map f) (l.map g)
  | [] => .nil
  | x :: r => .cons (hf x) (snaps_map hf r)
theorem okD_nat (n : Nat) : ∀ (l : List Nat), (l.map natD).all (D.ok (n + 1)) = true
  | [] => rfl
  | x :: r => by simp [natD, D.ok]
end
end Tw
end

section
namespace Tw

/-! breadth first search, plain -/
theorem nodup_le {α : Type} [DecidableEq α] : ∀ (l m : List α), l.Nodup → (∀ x ∈ l, x ∈ m) → l.length ≤ m.length
  | [], m, _, _ => Nat.zero_le _
  | a :: l, m, h, s => by
    have ha := s a (by simp)
    have := nodup_le l (m.erase a) (List.nodup_cons.mp h).2 fun x hx => by
      have hne : x ≠ a := fun e => (List.nodup_cons.mp h).1 (e ▸ hx)
      exact (List.mem_erase_of_ne hne).mpr (s x (by simp [hx]))
    have h2 := List.length_erase_of_mem ha
    have h3 := List.length_pos_of_mem ha
    simp; omega

structure Sys (N : Type) where
  b : N
  out : N → List Nat
  nx : N → Nat → Option N
  fin : N → Prop

inductive Run {N : Type} (s : Sys N) : List Nat → N → Prop
  | nil : Run s [] s.b
  | snoc {p : List Nat} {x y : N} {k : Nat} : Run s p x → k ∈ s.out x → s.nx x k = some y → Run s (p ++ [k]) y

/-- what was met: the node, a way to it, what the program noted -/
structure Ent (N : Type) where
  x : N
  p : List Nat
  w : V

structure Met {N : Type} (s : Sys N) (T : List (Ent N)) (a : Nat) : Prop where
  head : ∃ w, T[0]? = some ⟨s.b, [], w⟩
  runs : ∀ e ∈ T, Run s e.p e.x
  nodup : (T.map (·.x)).Nodup
  mono : T.Pairwise fun e f => e.p.length ≤ f.p.length
  idx : ∀ (i : Nat) (e : Ent N), T[i]? = some e → e.p.length ≤ i
  proc : ∀ (i : Nat) (e : Ent N), i < a → T[i]? = some e → ¬ s.fin e.x ∧ ∀ k ∈ s.out e.x, ∀ z, s.nx e.x k = some z → ∃ f ∈ T, f.x = z ∧ f.p.length ≤ e.p.length + 1

/-- the outer loop -/
structure MetO {N : Type} (s : Sys N) (T : List (Ent N)) (a : Nat) : Prop extends Met s T a where
  le : a ≤ T.length
  top : ∀ c : Ent N, T[a]? = some c → ∀ e ∈ T, e.p.length ≤ c.p.length + 1

/-- the inner loop: at c, i of its moves are done -/
structure MetI {N : Type} (s : Sys N) (T : List (Ent N)) (a : Nat) (c : Ent N) (i : Nat) : Prop extends Met s T a where
  here : T[a]? = some c
  top : ∀ e ∈ T, e.p.length ≤ c.p.length + 1
  part : ∀ j k, j < i → (s.out c.x)[j]? = some k → ∀ z, s.nx c.x k = some z → ∃ f ∈ T, f.x = z ∧ f.p.length ≤ c.p.length + 1

section
variable {N : Type} {s : Sys N} {T : List (Ent N)} {a i : Nat} {c : Ent N}
theorem MetO.start (w : V) : MetO s [⟨s.b, [], w⟩] 0 := {
  head := ⟨w, rfl⟩
  runs := fun e he => by simp at he; subst he; exact .nil
  nodup := by simp
  mono := by simp
  idx := fun i e h => by
    cases i with
    | zero => simp at h; subst h; simp
    | succ i => simp at h
  proc := fun i e h => absurd h (Nat.not_lt_zero _)
  le := by simp
  top := fun c _ e he => by simp at he; subst he; simp }
theorem MetO.enter (m : MetO s T a) (h : T[a]? = some c) : MetI s T a c 0 := { m.toMet with
  here := h
  top := m.top c h
  part := fun j k h => absurd h (Nat.not_lt_zero _) }
theorem MetI.leave (m : MetI s T a c i) (hf : ¬ s.fin c.x) (hi : (s.out c.x).length ≤ i) : MetO s T (a + 1) := { m.toMet with
  proc := fun j e hj h => by
    by_cases hja : j < a
    · exact m.proc j e hja h
    · have : j = a := by omega
      subst this
      rw [m.here] at h; injection h with h; subst h
      refine ⟨hf, fun k hk z hz => ?_⟩
      obtain ⟨j, hj, e⟩ := List.mem_iff_getElem.mp hk
      exact m.part j k (by omega) (by rw [← e]; exact List.getElem?_eq_getElem hj) z hz
  le := (List.getElem?_eq_some_iff.mp m.here).1
  top := fun c' h e he => by
    have h1 := m.top e he
    obtain ⟨l1, e1⟩ := List.getElem?_eq_some_iff.mp m.here
    obtain ⟨l2, e2⟩ := List.getElem?_eq_some_iff.mp h
    have := List.pairwise_iff_getElem.mp m.mono a (a + 1) l1 l2 (by omega)
    rw [e1, e2] at this
    omega }
theorem MetI.skip (m : MetI s T a c i) {k : Nat} (hk : (s.out c.x)[i]? = some k) (h : ∀ z, s.nx c.x k = some z → z ∈ T.map (·.x)) : MetI s T a c (i + 1) := { m with
  part := fun j k' hj hk' z hz => by
    by_cases hji : j < i
    · exact m.part j k' hji hk' z hz
    · have : j = i := by omega
      subst this
      rw [hk] at hk'; injection hk' with hk'; subst hk'
      obtain ⟨f, hf, e⟩ := List.mem_map.mp (h z hz)
      exact ⟨f, hf, e, m.top f hf⟩ }
theorem MetI.push (m : MetI s T a c i) {k : Nat} {z : N} (w : V) (hk : (s.out c.x)[i]? = some k) (hz : s.nx c.x k = some z) (hn : z ∉ T.map (·.x)) : MetI s (T ++ [⟨z, c.p ++ [k], w⟩]) a c (i + 1) := by
  have hl := (List.getElem?_eq_some_iff.mp m.here).1
  have get : ∀ {j : Nat} {e : Ent N}, (T ++ [⟨z, c.p ++ [k], w⟩])[j]? = some e → T[j]? = some e ∨ (j = T.length ∧ e = ⟨z, c.p ++ [k], w⟩) := by
    intro j e h
    by_cases hj : j < T.length
    · rw [List.getElem?_append_left hj] at h; exact .inl h
    · rw [List.getElem?_append_right (by omega)] at h
      by_cases hj2 : j = T.length
      · subst hj2; simp at h; exact .inr ⟨rfl, h.symm⟩
      · have : j - T.length = (j - T.length - 1) + 1 := by omega
        rw [this] at h; simp at h
  exact {
    head := by
      obtain ⟨w', h⟩ := m.head
      exact ⟨w', by rw [List.getElem?_append_left (by omega)]; exact h⟩
    runs := fun e he => by
      rcases List.mem_append.mp he with he | he
      · exact m.runs e he
      · simp at he; subst he
        exact .snoc (m.runs c (List.mem_of_getElem? m.here)) (List.mem_of_getElem? hk) hz
    nodup := by
      rw [List.map_append, List.nodup_append]
      refine ⟨m.nodup, by simp, fun x hx y hy e => ?_⟩
      simp at hy; subst hy; subst e; exact hn hx
    mono := by
      rw [List.pairwise_append]
      refine ⟨m.mono, by simp, fun x hx y hy => ?_⟩
      simp at hy; subst hy
      have := m.top x hx
      simpa using this
    idx := fun j e h => by
      rcases get h with h | ⟨rfl, rfl⟩
      · exact m.idx j e h
      · have := m.idx a c m.here
        simp; omega
    proc := fun j e hj h => by
      rcases get h with h | ⟨rfl, rfl⟩
      · refine ⟨(m.proc j e hj h).1, fun k hk z hz => ?_⟩
        obtain ⟨f, hf, r⟩ := (m.proc j e hj h).2 k hk z hz
        exact ⟨f, List.mem_append_left _ hf, r⟩
      · omega
    here := by rw [List.getElem?_append_left hl]; exact m.here
    top := fun e he => by
      rcases List.mem_append.mp he with he | he
      · exact m.top e he
      · simp at he; subst he; simp
    part := fun j k' hj hk' z' hz' => by
      by_cases hji : j < i
      · obtain ⟨f, hf, r⟩ := m.part j k' hji hk' z' hz'
        exact ⟨f, List.mem_append_left _ hf, r⟩
      · have : j = i := by omega
        subst this
        rw [hk] at hk'; injection hk' with hk'; subst hk'
        rw [hz] at hz'; injection hz' with hz'; subst hz'
        exact ⟨⟨z, c.p ++ [k], w⟩, List.mem_append_right _ (by simp), rfl, by simp⟩ }

/-- a way to a node leads over what was met -/
theorem Met.cover (m : Met s T a) {n : Nat} {p : List Nat} {x : N} (r : Run s p x) (hp : p.length ≤ n) (h : ∀ (i : Nat) (e : Ent N), T[i]? = some e → e.p.length ≤ n → i < a ∨ e.p.length = n) : ∃ e ∈ T, e.x = x ∧ e.p.length ≤ p.length := by
  induction r with
  | nil =>
    obtain ⟨w, h⟩ := m.head
    exact ⟨_, List.mem_of_getElem? h, rfl, by simp⟩
  | @snoc p x y k r hk hy ih =>
    simp at hp
    obtain ⟨e, he, rfl, hl⟩ := ih (by omega)
    obtain ⟨j, hj, hj2⟩ := List.mem_iff_getElem.mp he
    have hg : T[j]? = some e := by rw [← hj2]; exact List.getElem?_eq_getElem hj
    have hja : j < a := by
      rcases h j e hg (by omega) with h | h
      · exact h
      · omega
    obtain ⟨f, hf, e1, e2⟩ := (m.proc j e hja hg).2 k hk y hy
    exact ⟨f, hf, e1, by simp; omega⟩
/-- all is done and no end was met: there is no way -/
theorem MetO.none (m : MetO s T a) (h : T.length ≤ a) {p : List Nat} {x : N} (r : Run s p x) : ¬ s.fin x := by
  obtain ⟨e, he, rfl, _⟩ := m.cover (n := p.length) r (Nat.le_refl _) fun i e hi _ => .inl (by have := (List.getElem?_eq_some_iff.mp hi).1; omega)
  obtain ⟨j, hj, rfl⟩ := List.mem_iff_getElem.mp he
  exact (m.proc j _ (by omega) (List.getElem?_eq_getElem hj)).1
/-- the first end met is a nearest one -/
theorem MetO.least (m : MetO s T a) (h : T[a]? = some c) {p : List Nat} {x : N} (r : Run s p x) (hx : s.fin x) : c.p.length ≤ p.length := by
  refine Nat.le_of_not_lt fun hlt => ?_
  obtain ⟨hl, hc⟩ := List.getElem?_eq_some_iff.mp h
  have low : ∀ (i : Nat) (e : Ent N), T[i]? = some e → e.p.length < c.p.length → i < a := by
    intro i e hi he
    obtain ⟨hl', hc'⟩ := List.getElem?_eq_some_iff.mp hi
    refine Nat.lt_of_not_le fun hai => ?_
    rcases Nat.lt_or_eq_of_le hai with hai | hai
    · have := List.pairwise_iff_getElem.mp m.mono a i hl hl' hai
      rw [hc, hc'] at this; omega
    · subst hai; rw [h] at hi; injection hi with hi; subst hi; omega
  obtain ⟨e, he, rfl, h2⟩ := m.cover (n := p.length) r (Nat.le_refl _) fun i e hi h2 => .inl (low i e hi (by omega))
  obtain ⟨j, hj, e1⟩ := List.mem_iff_getElem.mp he
  have hg : T[j]? = some e := by rw [← e1]; exact List.getElem?_eq_getElem hj
  exact (m.proc j e (low j e hg (by omega)) hg).1 hx
theorem Met.bound [DecidableEq N] (m : Met s T a) (U : List N) (hU : ∀ p x, Run s p x → x ∈ U) : T.length ≤ U.length := by
  have := nodup_le (T.map (·.x)) U m.nodup fun x hx => by
    obtain ⟨e, he, rfl⟩ := List.mem_map.mp hx
    exact hU _ _ (m.runs e he)
  simpa using this
end
end Tw
end

section
--down
namespace Tw

section
variable {Φ : Nat → Option Fn} {d : Nat} {h : H} {Q : V → H → Prop}

theorem small_nat {n : Nat} (h : n < 2147483648) : smallI n := by unfold smallI; omega
theorem pre_set {h h' : H} (p : h <+: h') {k : Nat} (hk : h.length ≤ k) (o : MO) : h <+: h'.set k o := by
  obtain ⟨t, rfl⟩ := p
  exact ⟨t.set (k - h.length) o, by rw [List.set_append_right _ _ hk]⟩

/-! the moves that leave a state -/
noncomputable def outK (ms : List Mv) (i s : Nat) : List Nat := (List.range i).filter fun p => decide ((ms[p]?.map Mv.s) = some s)
noncomputable def outs (ms : List Mv) (s : Nat) : List Nat := outK ms ms.length s
theorem outK_len (ms : List Mv) (i s : Nat) : (outK ms i s).length ≤ i := by
  have := List.length_filter_le (fun p => decide ((ms[p]?.map Mv.s) = some s)) (List.range i)
  rw [List.length_range] at this; exact this
theorem mem_outs {ms : List Mv} {s k : Nat} : k ∈ outs ms s ↔ ∃ m, ms[k]? = some m ∧ m.s = s := by
  unfold outs outK
  rw [List.mem_filter, List.mem_range]
  constructor
  · intro ⟨h1, h2⟩
    simp at h2; exact h2
  · intro ⟨m, h1, h2⟩
    exact ⟨(List.getElem?_eq_some_iff.mp h1).1, by simp [h1, h2]⟩
theorem outK_succ {ms : List Mv} {i : Nat} {m : Mv} (hm : ms[i]? = some m) (s : Nat) : outK ms (i + 1) s = if m.s = s then outK ms i s ++ [i] else outK ms i s := by
  unfold outK
  rw [List.range_succ, List.filter_append]
  by_cases h : m.s = s <;> simp [hm, h]
noncomputable def OutAt (h : H) (v : V) (M : Ma) : Prop := ∃ L r : Nat, v = .ref L ∧ h[L]? = some (.list ((List.range M.n).map fun s => V.ref (r + s))) ∧ ∀ s, s < M.n → h[r + s]? = some (.list ((outs M.moves s).map natV))
theorem leaving_ok {m : Nat} {M : Ma} (h2 : Φ 2 = some fn_leaving) (hm : h[m]? = some (.list (M.moves.map Mv.v))) (ok : M.ok) (q : ∀ v h', h <+: h' → OutAt h' v M → Q v h') : Calls Φ (d + 1) 2 [.int M.n, .ref m] h Q := by
  refine ⟨fn_leaving, h2, rfl, ?_⟩
  have mC := calls_mono (Φ := Φ) d
  have hz := SZ_val
  have n2 := ok.n2
  have l1 := ok.l1
  simp only [fn_leaving]
  refine B_name ?_
  refine E_comp_rng mC (x := 0) (y := (M.n : Int)) (z := 1) (I := fun i out H => H = h ++ List.replicate i (.list []) ∧ out = (List.range i).map fun s => V.ref (h.length + s)) ?_ ?_ ?_
  · simp [↓e_lit, ↓e_bin, ↓e_neg, ↓e_not, ↓e_and, ↓e_or, ↓e_cmp, ↓e_cmp2, ↓e_sub, ↓e_slice, ↓e_tup, ↓e_list, ↓e_dict0, ↓e_dict1, ↓e_call, ↓e_bi, ↓e_isinst, ↓e_meth, ↓es_nil, ↓es_cons, ↓o_none, ↓o_some, ↓t_not, ↓t_and, ↓t_or, ↓t_cmp, ↓t_cmp2, ↓t_lit, ↓t_call, ↓t_isinst, ↓t_meth, ↓x_bn, ↓x_bt, ↓u_nil, ↓u_cons, ↓x_addi, ↓x_adds, ↓x_subi, ↓x_muli, ↓x_fdiv, ↓x_mod, ↓x_tb, ↓x_tn, ↓x_eqi, ↓x_eqs, ↓x_eqb, ↓x_nei, ↓x_nes, ↓x_lt, ↓x_le, ↓x_gt, ↓x_ge, ↓x_isn, ↓x_isnn, ↓x_isb, ↓x_isnb, ↓x_st0, ↓x_st1, ↓x_st2, ↓x_st3, ↓x_ss, ↓x_lens, ↓x_lent, ↓x_r1, ↓x_r2, ↓x_r3, ↓x_lr, ↓x_rj, ↓x_iil, ↓x_iib, ↓x_iss, ↓x_itt, ↓x_inn, ↓e_vu, ↓e_vn, ↓e_a0, ↓e_a1, ↓e_a2, ↓e_a3, e_vk, vk_some, t_vk, upd_eq, upd_ne, argsR]
    exact small_nat (by omega)
  · rintro i v out H hv ⟨rfl, rfl⟩
    obtain ⟨hi, rfl⟩ := rangeV_get hv
    simp [↓e_lit, ↓e_bin, ↓e_neg, ↓e_not, ↓e_and, ↓e_or, ↓e_cmp, ↓e_cmp2, ↓e_sub, ↓e_slice, ↓e_tup, ↓e_list, ↓e_dict0, ↓e_dict1, ↓e_call, ↓e_bi, ↓e_isinst, ↓e_meth, ↓es_nil, ↓es_cons, ↓o_none, ↓o_some, ↓t_not, ↓t_and, ↓t_or, ↓t_cmp, ↓t_cmp2, ↓t_lit, ↓t_call, ↓t_isinst, ↓t_meth, ↓x_bn, ↓x_bt, ↓u_nil, ↓u_cons, ↓x_addi, ↓x_adds, ↓x_subi, ↓x_muli, ↓x_fdiv, ↓x_mod, ↓x_tb, ↓x_tn, ↓x_eqi, ↓x_eqs, ↓x_eqb, ↓x_nei, ↓x_nes, ↓x_lt, ↓x_le, ↓x_gt, ↓x_ge, ↓x_isn, ↓x_isnn, ↓x_isb, ↓x_isnb, ↓x_st0, ↓x_st1, ↓x_st2, ↓x_st3, ↓x_ss, ↓x_lens, ↓x_lent, ↓x_r1, ↓x_r2, ↓x_r3, ↓x_lr, ↓x_rj, ↓x_iil, ↓x_iib, ↓x_iss, ↓x_itt, ↓x_inn, ↓e_vu, ↓e_vn, ↓e_a0, ↓e_a1, ↓e_a2, ↓e_a3, e_vk, vk_some, t_vk, upd_eq, upd_ne, argsR]
    refine ⟨by omega, by rw [List.replicate_succ'], by rw [List.range_succ]; simp⟩
  · rintro out H ⟨rfl, rfl⟩
    rw [rangeV_len]
    obtain ⟨I, hI⟩ : ∃ I : Nat → Rho → Tw.H → Prop, ∀ i ρ H, I i ρ H ↔ (h <+: H ∧ H[h.length + M.n]? = some (.list ((List.range M.n).map fun s => V.ref (h.length + s))) ∧ (∀ s, s < M.n → H[h.length + s]? = some (.list ((outK M.moves i s).map natV))) ∧
      ρ 1 = some (.ref m) ∧ ρ 2 = some (.ref (h.length + M.n))) := ⟨_, fun _ _ _ => Iff.rfl⟩
    have hpre : h <+: h ++ List.replicate M.n (MO.list []) ++ [MO.list ((List.range M.n).map fun s => V.ref (h.length + s))] := by rw [List.append_assoc]; exact List.prefix_append _ _
    have q1 : (h ++ List.replicate M.n (MO.list []) ++ [MO.list ((List.range M.n).map fun s => V.ref (h.length + s))])[h.length + M.n]? = some (.list ((List.range M.n).map fun s => V.ref (h.length + s))) := by
      rw [List.getElem?_append_right (by simp)]; simp
    have q2 : ∀ s, s < M.n → (h ++ List.replicate M.n (MO.list []) ++ [MO.list ((List.range M.n).map fun s => V.ref (h.length + s))])[h.length + s]? = some (.list ((outK M.moves 0 s).map natV)) := by
      intro s hs
      rw [List.append_assoc, List.getElem?_append_right (by omega), List.getElem?_append_left (by simp; omega)]
      simp [outK, hs]
    have q3 : (h ++ List.replicate M.n (MO.list [])).length = h.length + M.n := by simp
    rw [q3]
    generalize h ++ List.replicate M.n (MO.list []) ++ [MO.list ((List.range M.n).map fun s => V.ref (h.length + s))] = B at hpre q1 q2 ⊢
    refine B_for_rng mC (x := 0) (y := (M.moves.length : Int)) (z := 1) (I := I) ?_ ?_ ?_
    · simp [↓e_lit, ↓e_bin, ↓e_neg, ↓e_not, ↓e_and, ↓e_or, ↓e_cmp, ↓e_cmp2, ↓e_sub, ↓e_slice, ↓e_tup, ↓e_list, ↓e_dict0, ↓e_dict1, ↓e_call, ↓e_bi, ↓e_isinst, ↓e_meth, ↓es_nil, ↓es_cons, ↓o_none, ↓o_some, ↓t_not, ↓t_and, ↓t_or, ↓t_cmp, ↓t_cmp2, ↓t_lit, ↓t_call, ↓t_isinst, ↓t_meth, ↓x_bn, ↓x_bt, ↓u_nil, ↓u_cons, ↓x_addi, ↓x_adds, ↓x_subi, ↓x_muli, ↓x_fdiv, ↓x_mod, ↓x_tb, ↓x_tn, ↓x_eqi, ↓x_eqs, ↓x_eqb, ↓x_nei, ↓x_nes, ↓x_lt, ↓x_le, ↓x_gt, ↓x_ge, ↓x_isn, ↓x_isnn, ↓x_isb, ↓x_isnb, ↓x_st0, ↓x_st1, ↓x_st2, ↓x_st3, ↓x_ss, ↓x_lens, ↓x_lent, ↓x_r1, ↓x_r2, ↓x_r3, ↓x_lr, ↓x_rj, ↓x_iil, ↓x_iib, ↓x_iss, ↓x_itt, ↓x_inn, ↓e_vu, ↓e_vn, ↓e_a0, ↓e_a1, ↓e_a2, ↓e_a3, e_vk, vk_some, t_vk, upd_eq, upd_ne, argsR, ↓x_lenl (pre_get hpre hm)]
      exact ⟨small_nat (by omega), (hI ..).mpr ⟨hpre, q1, q2, by simp [↓e_lit, ↓e_bin, ↓e_neg, ↓e_not, ↓e_and, ↓e_or, ↓e_cmp, ↓e_cmp2, ↓e_sub, ↓e_slice, ↓e_tup, ↓e_list, ↓e_dict0, ↓e_dict1, ↓e_call, ↓e_bi, ↓e_isinst, ↓e_meth, ↓es_nil, ↓es_cons, ↓o_none, ↓o_some, ↓t_not, ↓t_and, ↓t_or, ↓t_cmp, ↓t_cmp2, ↓t_lit, ↓t_call, ↓t_isinst, ↓t_meth, ↓x_bn, ↓x_bt, ↓u_nil, ↓u_cons, ↓x_addi, ↓x_adds, ↓x_subi, ↓x_muli, ↓x_fdiv, ↓x_mod, ↓x_tb, ↓x_tn, ↓x_eqi, ↓x_eqs, ↓x_eqb, ↓x_nei, ↓x_nes, ↓x_lt, ↓x_le, ↓x_gt, ↓x_ge, ↓x_isn, ↓x_isnn, ↓x_isb, ↓x_isnb, ↓x_st0, ↓x_st1, ↓x_st2, ↓x_st3, ↓x_ss, ↓x_lens, ↓x_lent, ↓x_r1, ↓x_r2, ↓x_r3, ↓x_lr, ↓x_rj, ↓x_iil, ↓x_iib, ↓x_iss, ↓x_itt, ↓x_inn, ↓e_vu, ↓e_vn, ↓e_a0, ↓e_a1, ↓e_a2, ↓e_a3, e_vk, vk_some, t_vk, upd_eq, upd_ne, argsR], by simp [↓e_lit, ↓e_bin, ↓e_neg, ↓e_not, ↓e_and, ↓e_or, ↓e_cmp, ↓e_cmp2, ↓e_sub, ↓e_slice, ↓e_tup, ↓e_list, ↓e_dict0, ↓e_dict1, ↓e_call, ↓e_bi, ↓e_isinst, ↓e_meth, ↓es_nil, ↓es_cons, ↓o_none, ↓o_some, ↓t_not, ↓t_and, ↓t_or, ↓t_cmp, ↓t_cmp2, ↓t_lit, ↓t_call, ↓t_isinst, ↓t_meth, ↓x_bn, ↓x_bt, ↓u_nil, ↓u_cons, ↓x_addi, ↓x_adds, ↓x_subi, ↓x_muli, ↓x_fdiv, ↓x_mod, ↓x_tb, ↓x_tn, ↓x_eqi, ↓x_eqs, ↓x_eqb, ↓x_nei, ↓x_nes, ↓x_lt, ↓x_le, ↓x_gt, ↓x_ge, ↓x_isn, ↓x_isnn, ↓x_isb, ↓x_isnb, ↓x_st0, ↓x_st1, ↓x_st2, ↓x_st3, ↓x_ss, ↓x_lens, ↓x_lent, ↓x_r1, ↓x_r2, ↓x_r3, ↓x_lr, ↓x_rj, ↓x_iil, ↓x_iib, ↓x_iss, ↓x_itt, ↓x_inn, ↓e_vu, ↓e_vn, ↓e_a0, ↓e_a1, ↓e_a2, ↓e_a3, e_vk, vk_some, t_vk, upd_eq, upd_ne, argsR]⟩⟩
    · intro i v ρ H hv hi
      obtain ⟨hi2, rfl⟩ := rangeV_get hv
      obtain ⟨p, g1, g2, r1, r2⟩ := (hI ..).mp hi
      obtain ⟨x, hx⟩ : ∃ x, M.moves[i]? = some x := ⟨_, List.getElem?_eq_getElem hi2⟩
      have hxs := (ok.m1 x (List.mem_of_getElem? hx)).1
      have g3 := g2 x.s hxs
      rw [x_bn]
      refine B_expr ?_
      simp [↓e_lit, ↓e_bin, ↓e_neg, ↓e_not, ↓e_and, ↓e_or, ↓e_cmp, ↓e_cmp2, ↓e_sub, ↓e_slice, ↓e_tup, ↓e_list, ↓e_dict0, ↓e_dict1, ↓e_call, ↓e_bi, ↓e_isinst, ↓e_meth, ↓es_nil, ↓es_cons, ↓o_none, ↓o_some, ↓t_not, ↓t_and, ↓t_or, ↓t_cmp, ↓t_cmp2, ↓t_lit, ↓t_call, ↓t_isinst, ↓t_meth, ↓x_bn, ↓x_bt, ↓u_nil, ↓u_cons, ↓x_addi, ↓x_adds, ↓x_subi, ↓x_muli, ↓x_fdiv, ↓x_mod, ↓x_tb, ↓x_tn, ↓x_eqi, ↓x_eqs, ↓x_eqb, ↓x_nei, ↓x_nes, ↓x_lt, ↓x_le, ↓x_gt, ↓x_ge, ↓x_isn, ↓x_isnn, ↓x_isb, ↓x_isnb, ↓x_st0, ↓x_st1, ↓x_st2, ↓x_st3, ↓x_ss, ↓x_lens, ↓x_lent, ↓x_r1, ↓x_r2, ↓x_r3, ↓x_lr, ↓x_rj, ↓x_iil, ↓x_iib, ↓x_iss, ↓x_itt, ↓x_inn, ↓e_vu, ↓e_vn, ↓e_a0, ↓e_a1, ↓e_a2, ↓e_a3, e_vk, vk_some, t_vk, upd_eq, upd_ne, argsR, ↓e_v r1, r1, ↓e_v r2, r2]
      refine x_sln (pre_get p hm) (by omega) (v := x.v) (by simp [hx]) ?_
      simp [Mv.v, e_lit, e_vk, vk_some, e_bin, e_neg, e_not, e_and, e_or, e_cmp, e_cmp2, e_sub, e_slice, e_tup, e_list, e_dict0, e_dict1, e_call, e_bi, e_isinst, e_meth, es_nil, es_cons, o_none, o_some, t_not, t_and, t_or, t_cmp, t_cmp2, t_lit, t_vk, t_call, t_isinst, t_meth, x_bn, x_bt, u_nil, u_cons, upd_eq, upd_ne, argsR, x_addi, x_adds, x_subi, x_muli, x_fdiv, x_mod, x_tb, x_tn, x_eqi, x_eqs, x_eqb, x_nei, x_nes, x_lt, x_le, x_gt, x_ge, x_isn, x_isnn, x_isb, x_isnb, x_st0, x_st1, x_st2, x_st3, x_ss, x_lens, x_lent, x_r1, x_r2, x_r3, x_lr, x_rj, x_iil, x_iib, x_iss, x_itt, x_inn]
      refine x_sln g1 (by omega) (v := .ref (h.length + x.s)) (by simp [hxs]) ?_
      simp [↓e_lit, ↓e_bin, ↓e_neg, ↓e_not, ↓e_and, ↓e_or, ↓e_cmp, ↓e_cmp2, ↓e_sub, ↓e_slice, ↓e_tup, ↓e_list, ↓e_dict0, ↓e_dict1, ↓e_call, ↓e_bi, ↓e_isinst, ↓e_meth, ↓es_nil, ↓es_cons, ↓o_none, ↓o_some, ↓t_not, ↓t_and, ↓t_or, ↓t_cmp, ↓t_cmp2, ↓t_lit, ↓t_call, ↓t_isinst, ↓t_meth, ↓x_bn, ↓x_bt, ↓u_nil, ↓u_cons, ↓x_addi, ↓x_adds, ↓x_subi, ↓x_muli, ↓x_fdiv, ↓x_mod, ↓x_tb, ↓x_tn, ↓x_eqi, ↓x_eqs, ↓x_eqb, ↓x_nei, ↓x_nes, ↓x_lt, ↓x_le, ↓x_gt, ↓x_ge, ↓x_isn, ↓x_isnn, ↓x_isb, ↓x_isnb, ↓x_st0, ↓x_st1, ↓x_st2, ↓x_st3, ↓x_ss, ↓x_lens, ↓x_lent, ↓x_r1, ↓x_r2, ↓x_r3, ↓x_lr, ↓x_rj, ↓x_iil, ↓x_iib, ↓x_iss, ↓x_itt, ↓x_inn, ↓e_vu, ↓e_vn, ↓e_a0, ↓e_a1, ↓e_a2, ↓e_a3, e_vk, vk_some, t_vk, upd_eq, upd_ne, argsR, ↓x_ra g3, ↓x_app g3]
      have := outK_len M.moves i x.s
      refine ⟨by omega, B_nil ((hI ..).mpr ⟨pre_set p (by omega) _, ?_, ?_, ?_, ?_⟩)⟩
      · rw [List.getElem?_set_ne (by omega)]; exact g1
      · intro s hs
        rw [outK_succ hx]
        by_cases e : x.s = s
        · subst e
          rw [List.getElem?_set_self (List.getElem?_eq_some_iff.mp g3).1, if_pos rfl]; simp [natV]
        · rw [List.getElem?_set_ne (by omega), if_neg e]; exact g2 s hs
      · simp [↓e_lit, ↓e_bin, ↓e_neg, ↓e_not, ↓e_and, ↓e_or, ↓e_cmp, ↓e_cmp2, ↓e_sub, ↓e_slice, ↓e_tup, ↓e_list, ↓e_dict0, ↓e_dict1, ↓e_call, ↓e_bi, ↓e_isinst, ↓e_meth, ↓es_nil, ↓es_cons, ↓o_none, ↓o_some, ↓t_not, ↓t_and, ↓t_or, ↓t_cmp, ↓t_cmp2, ↓t_lit, ↓t_call, ↓t_isinst, ↓t_meth, ↓x_bn, ↓x_bt, ↓u_nil, ↓u_cons, ↓x_addi, ↓x_adds, ↓x_subi, ↓x_muli, ↓x_fdiv, ↓x_mod, ↓x_tb, ↓x_tn, ↓x_eqi, ↓x_eqs, ↓x_eqb, ↓x_nei, ↓x_nes, ↓x_lt, ↓x_le, ↓x_gt, ↓x_ge, ↓x_isn, ↓x_isnn, ↓x_isb, ↓x_isnb, ↓x_st0, ↓x_st1, ↓x_st2, ↓x_st3, ↓x_ss, ↓x_lens, ↓x_lent, ↓x_r1, ↓x_r2, ↓x_r3, ↓x_lr, ↓x_rj, ↓x_iil, ↓x_iib, ↓x_iss, ↓x_itt, ↓x_inn, ↓e_vu, ↓e_vn, ↓e_a0, ↓e_a1, ↓e_a2, ↓e_a3, e_vk, vk_some, t_vk, upd_eq, upd_ne, argsR, ↓e_v r1, r1]
      · simp [↓e_lit, ↓e_bin, ↓e_neg, ↓e_not, ↓e_and, ↓e_or, ↓e_cmp, ↓e_cmp2, ↓e_sub, ↓e_slice, ↓e_tup, ↓e_list, ↓e_dict0, ↓e_dict1, ↓e_call, ↓e_bi, ↓e_isinst, ↓e_meth, ↓es_nil, ↓es_cons, ↓o_none, ↓o_some, ↓t_not, ↓t_and, ↓t_or, ↓t_cmp, ↓t_cmp2, ↓t_lit, ↓t_call, ↓t_isinst, ↓t_meth, ↓x_bn, ↓x_bt, ↓u_nil, ↓u_cons, ↓x_addi, ↓x_adds, ↓x_subi, ↓x_muli, ↓x_fdiv, ↓x_mod, ↓x_tb, ↓x_tn, ↓x_eqi, ↓x_eqs, ↓x_eqb, ↓x_nei, ↓x_nes, ↓x_lt, ↓x_le, ↓x_gt, ↓x_ge, ↓x_isn, ↓x_isnn, ↓x_isb, ↓x_isnb, ↓x_st0, ↓x_st1, ↓x_st2, ↓x_st3, ↓x_ss, ↓x_lens, ↓x_lent, ↓x_r1, ↓x_r2, ↓x_r3, ↓x_lr, ↓x_rj, ↓x_iil, ↓x_iib, ↓x_iss, ↓x_itt, ↓x_inn, ↓e_vu, ↓e_vn, ↓e_a0, ↓e_a1, ↓e_a2, ↓e_a3, e_vk, vk_some, t_vk, upd_eq, upd_ne, argsR, ↓e_v r2, r2]
    · intro ρ H hi
      rw [rangeV_len] at hi
      obtain ⟨p, g1, g2, r1, r2⟩ := (hI ..).mp hi
      refine B_ret ?_
      simp [↓e_lit, ↓e_bin, ↓e_neg, ↓e_not, ↓e_and, ↓e_or, ↓e_cmp, ↓e_cmp2, ↓e_sub, ↓e_slice, ↓e_tup, ↓e_list, ↓e_dict0, ↓e_dict1, ↓e_call, ↓e_bi, ↓e_isinst, ↓e_meth, ↓es_nil, ↓es_cons, ↓o_none, ↓o_some, ↓t_not, ↓t_and, ↓t_or, ↓t_cmp, ↓t_cmp2, ↓t_lit, ↓t_call, ↓t_isinst, ↓t_meth, ↓x_bn, ↓x_bt, ↓u_nil, ↓u_cons, ↓x_addi, ↓x_adds, ↓x_subi, ↓x_muli, ↓x_fdiv, ↓x_mod, ↓x_tb, ↓x_tn, ↓x_eqi, ↓x_eqs, ↓x_eqb, ↓x_nei, ↓x_nes, ↓x_lt, ↓x_le, ↓x_gt, ↓x_ge, ↓x_isn, ↓x_isnn, ↓x_isb, ↓x_isnb, ↓x_st0, ↓x_st1, ↓x_st2, ↓x_st3, ↓x_ss, ↓x_lens, ↓x_lent, ↓x_r1, ↓x_r2, ↓x_r3, ↓x_lr, ↓x_rj, ↓x_iil, ↓x_iib, ↓x_iss, ↓x_itt, ↓x_inn, ↓e_vu, ↓e_vn, ↓e_a0, ↓e_a1, ↓e_a2, ↓e_a3, e_vk, vk_some, t_vk, upd_eq, upd_ne, argsR, ↓e_v r2, r2]
      exact q _ _ p ⟨_, _, rfl, g1, g2⟩

/-! the dict of what was met -/
noncomputable def Ent.kv {N : Type} (nv : N → V) (e : Ent N) : V × V := (nv e.x, e.w)
section
variable {N : Type} {nv : N → V} (inj : ∀ a b, nv a = nv b → a = b)
include inj
theorem keys_mem {T : List (Ent N)} {z : N} : nv z ∈ (T.map (Ent.kv nv)).map (·.1) ↔ z ∈ T.map (·.x) := by
  simp only [List.map_map, List.mem_map, Function.comp, Ent.kv]
  constructor
  · rintro ⟨e, he, h⟩; exact ⟨e, he, inj _ _ h⟩
  · rintro ⟨e, he, rfl⟩; exact ⟨e, he, rfl⟩
theorem dget_kv : ∀ {T : List (Ent N)}, (T.map (·.x)).Nodup → ∀ {e : Ent N}, e ∈ T → dget (T.map (Ent.kv nv)) (nv e.x) = some e.w
  | [], _, _, h => nomatch h
  | f :: r, nd, e, h => by
    rw [List.map_cons, List.nodup_cons] at nd
    unfold dget
    rw [List.map_cons, List.find?_cons]
    by_cases hx : nv f.x = nv e.x
    · have hx' := inj _ _ hx
      have : e = f := by
        rcases List.mem_cons.mp h with h | h
        · exact h
        · exact absurd (List.mem_map.mpr ⟨e, h, rfl⟩) (hx' ▸ nd.1)
      subst this
      simp [Ent.kv]
    · have : e ∈ r := by
        rcases List.mem_cons.mp h with h | h
        · subst h; exact absurd rfl hx
        · exact h
      have ih := dget_kv nd.2 this
      have h0 : decide ((Ent.kv nv f).1 = nv e.x) = false := decide_eq_false hx
      rw [h0]
      exact ih
theorem dput_kv {T : List (Ent N)} {z : N} (p : List Nat) (w : V) (hz : z ∉ T.map (·.x)) : dput (T.map (Ent.kv nv)) (nv z) w = (T ++ [⟨z, p, w⟩] : List (Ent N)).map (Ent.kv nv) := by
  have : dget (T.map (Ent.kv nv)) (nv z) = none := by
    unfold dget
    rw [Option.map_eq_none_iff, List.find?_eq_none]
    intro e he hd
    have := of_decide_eq_true hd
    exact hz ((keys_mem inj).mp (List.mem_map.mpr ⟨e, he, this⟩))
  unfold dput
  rw [this]
  simp [Ent.kv]

/-- every way's last move is noted, with where it came from -/
noncomputable def ChainT (nv : N → V) (T : List (Ent N)) : Prop := ∀ e ∈ T, (e.p = [] ∧ e.w = .none) ∨ ∃ f ∈ T, ∃ k : Nat, e.p = f.p ++ [k] ∧ e.w = .tup [nv f.x, natV k]

theorem told_ok {T : List (Ent N)} {cn ver : Nat} {e : Ent N} (h4 : Φ 4 = some fn_told_back) (key : ∀ x, (nv x).isKey = true) (nd : (T.map (·.x)).Nodup) (ch : ChainT nv T) (hc : h[cn]? = some (.dict (T.map (Ent.kv nv)) ver)) (he : e ∈ T) (hl : e.p.length < SZ)
    (q : Q (.ref h.length) (h ++ [.list (e.p.map natV)])) : Calls Φ (d + 1) 4 [.ref cn, nv e.x] h Q := by
  refine ⟨fn_told_back, h4, rfl, ?_⟩
  have mC := calls_mono (Φ := Φ) d
  have hz := SZ_val
  simp only [fn_told_back]
  refine B_name ?_
  simp [↓e_lit, ↓e_bin, ↓e_neg, ↓e_not, ↓e_and, ↓e_or, ↓e_cmp, ↓e_cmp2, ↓e_sub, ↓e_slice, ↓e_tup, ↓e_list, ↓e_dict0, ↓e_dict1, ↓e_call, ↓e_bi, ↓e_isinst, ↓e_meth, ↓es_nil, ↓es_cons, ↓o_none, ↓o_some, ↓t_not, ↓t_and, ↓t_or, ↓t_cmp, ↓t_cmp2, ↓t_lit, ↓t_call, ↓t_isinst, ↓t_meth, ↓x_bn, ↓x_bt, ↓u_nil, ↓u_cons, ↓x_addi, ↓x_adds, ↓x_subi, ↓x_muli, ↓x_fdiv, ↓x_mod, ↓x_tb, ↓x_tn, ↓x_eqi, ↓x_eqs, ↓x_eqb, ↓x_nei, ↓x_nes, ↓x_lt, ↓x_le, ↓x_gt, ↓x_ge, ↓x_isn, ↓x_isnn, ↓x_isb, ↓x_isnb, ↓x_st0, ↓x_st1, ↓x_st2, ↓x_st3, ↓x_ss, ↓x_lens, ↓x_lent, ↓x_r1, ↓x_r2, ↓x_r3, ↓x_lr, ↓x_rj, ↓x_iil, ↓x_iib, ↓x_iss, ↓x_itt, ↓x_inn, ↓e_vu, ↓e_vn, ↓e_a0, ↓e_a1, ↓e_a2, ↓e_a3, e_vk, vk_some, t_vk, upd_eq, upd_ne, argsR]
  obtain ⟨I, hI⟩ : ∃ I : Nat → Rho → Tw.H → Prop, ∀ i ρ H, I i ρ H ↔ (∃ f ∈ T, ∃ ps : List Nat, f.p.length = i ∧ e.p = f.p ++ ps.reverse ∧ H = h ++ [.list (ps.map natV)] ∧ ρ 0 = some (.ref cn) ∧ ρ 1 = some (nv f.x) ∧ ρ 2 = some (.ref h.length)) := ⟨_, fun _ _ _ => Iff.rfl⟩
  refine B_while mC I e.p.length ((hI ..).mpr ⟨e, he, [], rfl, by simp, by simp, by simp [↓e_lit, ↓e_bin, ↓e_neg, ↓e_not, ↓e_and, ↓e_or, ↓e_cmp, ↓e_cmp2, ↓e_sub, ↓e_slice, ↓e_tup, ↓e_list, ↓e_dict0, ↓e_dict1, ↓e_call, ↓e_bi, ↓e_isinst, ↓e_meth, ↓es_nil, ↓es_cons, ↓o_none, ↓o_some, ↓t_not, ↓t_and, ↓t_or, ↓t_cmp, ↓t_cmp2, ↓t_lit, ↓t_call, ↓t_isinst, ↓t_meth, ↓x_bn, ↓x_bt, ↓u_nil, ↓u_cons, ↓x_addi, ↓x_adds, ↓x_subi, ↓x_muli, ↓x_fdiv, ↓x_mod, ↓x_tb, ↓x_tn, ↓x_eqi, ↓x_eqs, ↓x_eqb, ↓x_nei, ↓x_nes, ↓x_lt, ↓x_le, ↓x_gt, ↓x_ge, ↓x_isn, ↓x_isnn, ↓x_isb, ↓x_isnb, ↓x_st0, ↓x_st1, ↓x_st2, ↓x_st3, ↓x_ss, ↓x_lens, ↓x_lent, ↓x_r1, ↓x_r2, ↓x_r3, ↓x_lr, ↓x_rj, ↓x_iil, ↓x_iib, ↓x_iss, ↓x_itt, ↓x_inn, ↓e_vu, ↓e_vn, ↓e_a0, ↓e_a1, ↓e_a2, ↓e_a3, e_vk, vk_some, t_vk, upd_eq, upd_ne, argsR], by simp [↓e_lit, ↓e_bin, ↓e_neg, ↓e_not, ↓e_and, ↓e_or, ↓e_cmp, ↓e_cmp2, ↓e_sub, ↓e_slice, ↓e_tup, ↓e_list, ↓e_dict0, ↓e_dict1, ↓e_call, ↓e_bi, ↓e_isinst, ↓e_meth, ↓es_nil, ↓es_cons, ↓o_none, ↓o_some, ↓t_not, ↓t_and, ↓t_or, ↓t_cmp, ↓t_cmp2, ↓t_lit, ↓t_call, ↓t_isinst, ↓t_meth, ↓x_bn, ↓x_bt, ↓u_nil, ↓u_cons, ↓x_addi, ↓x_adds, ↓x_subi, ↓x_muli, ↓x_fdiv, ↓x_mod, ↓x_tb, ↓x_tn, ↓x_eqi, ↓x_eqs, ↓x_eqb, ↓x_nei, ↓x_nes, ↓x_lt, ↓x_le, ↓x_gt, ↓x_ge, ↓x_isn, ↓x_isnn, ↓x_isb, ↓x_isnb, ↓x_st0, ↓x_st1, ↓x_st2, ↓x_st3, ↓x_ss, ↓x_lens, ↓x_lent, ↓x_r1, ↓x_r2, ↓x_r3, ↓x_lr, ↓x_rj, ↓x_iil, ↓x_iib, ↓x_iss, ↓x_itt, ↓x_inn, ↓e_vu, ↓e_vn, ↓e_a0, ↓e_a1, ↓e_a2, ↓e_a3, e_vk, vk_some, t_vk, upd_eq, upd_ne, argsR], by simp [↓e_lit, ↓e_bin, ↓e_neg, ↓e_not, ↓e_and, ↓e_or, ↓e_cmp, ↓e_cmp2, ↓e_sub, ↓e_slice, ↓e_tup, ↓e_list, ↓e_dict0, ↓e_dict1, ↓e_call, ↓e_bi, ↓e_isinst, ↓e_meth, ↓es_nil, ↓es_cons, ↓o_none, ↓o_some, ↓t_not, ↓t_and, ↓t_or, ↓t_cmp, ↓t_cmp2, ↓t_lit, ↓t_call, ↓t_isinst, ↓t_meth, ↓x_bn, ↓x_bt, ↓u_nil, ↓u_cons, ↓x_addi, ↓x_adds, ↓x_subi, ↓x_muli, ↓x_fdiv, ↓x_mod, ↓x_tb, ↓x_tn, ↓x_eqi, ↓x_eqs, ↓x_eqb, ↓x_nei, ↓x_nes, ↓x_lt, ↓x_le, ↓x_gt, ↓x_ge, ↓x_isn, ↓x_isnn, ↓x_isb, ↓x_isnb, ↓x_st0, ↓x_st1, ↓x_st2, ↓x_st3, ↓x_ss, ↓x_lens, ↓x_lent, ↓x_r1, ↓x_r2, ↓x_r3, ↓x_lr, ↓x_rj, ↓x_iil, ↓x_iib, ↓x_iss, ↓x_itt, ↓x_inn, ↓e_vu, ↓e_vn, ↓e_a0, ↓e_a1, ↓e_a2, ↓e_a3, e_vk, vk_some, t_vk, upd_eq, upd_ne, argsR]⟩) ?_
  intro n ρ H hi
  obtain ⟨f, hf, ps, rfl, hp, rfl, r0, r1, r2⟩ := (hI ..).mp hi
  have hc' := get_app (t := [.list (ps.map natV)]) hc
  have hg := dget_kv inj nd hf
  simp [↓e_lit, ↓e_bin, ↓e_neg, ↓e_not, ↓e_and, ↓e_or, ↓e_cmp, ↓e_cmp2, ↓e_sub, ↓e_slice, ↓e_tup, ↓e_list, ↓e_dict0, ↓e_dict1, ↓e_call, ↓e_bi, ↓e_isinst, ↓e_meth, ↓es_nil, ↓es_cons, ↓o_none, ↓o_some, ↓t_not, ↓t_and, ↓t_or, ↓t_cmp, ↓t_cmp2, ↓t_lit, ↓t_call, ↓t_isinst, ↓t_meth, ↓x_bn, ↓x_bt, ↓u_nil, ↓u_cons, ↓x_addi, ↓x_adds, ↓x_subi, ↓x_muli, ↓x_fdiv, ↓x_mod, ↓x_tb, ↓x_tn, ↓x_eqi, ↓x_eqs, ↓x_eqb, ↓x_nei, ↓x_nes, ↓x_lt, ↓x_le, ↓x_gt, ↓x_ge, ↓x_isn, ↓x_isnn, ↓x_isb, ↓x_isnb, ↓x_st0, ↓x_st1, ↓x_st2, ↓x_st3, ↓x_ss, ↓x_lens, ↓x_lent, ↓x_r1, ↓x_r2, ↓x_r3, ↓x_lr, ↓x_rj, ↓x_iil, ↓x_iib, ↓x_iss, ↓x_itt, ↓x_inn, ↓e_vu, ↓e_vn, ↓e_a0, ↓e_a1, ↓e_a2, ↓e_a3, e_vk, vk_some, t_vk, upd_eq, upd_ne, argsR, ↓e_v r0, r0, ↓e_v r1, r1, ↓x_sd hc', hg, key]
  rcases ch f hf with ⟨e1, e2⟩ | ⟨g, hgm, k, e1, e2⟩
  · simp only [e2, decide_true, Bool.not_true]
    refine B_expr ?_
    simp [↓e_lit, ↓e_bin, ↓e_neg, ↓e_not, ↓e_and, ↓e_or, ↓e_cmp, ↓e_cmp2, ↓e_sub, ↓e_slice, ↓e_tup, ↓e_list, ↓e_dict0, ↓e_dict1, ↓e_call, ↓e_bi, ↓e_isinst, ↓e_meth, ↓es_nil, ↓es_cons, ↓o_none, ↓o_some, ↓t_not, ↓t_and, ↓t_or, ↓t_cmp, ↓t_cmp2, ↓t_lit, ↓t_call, ↓t_isinst, ↓t_meth, ↓x_bn, ↓x_bt, ↓u_nil, ↓u_cons, ↓x_addi, ↓x_adds, ↓x_subi, ↓x_muli, ↓x_fdiv, ↓x_mod, ↓x_tb, ↓x_tn, ↓x_eqi, ↓x_eqs, ↓x_eqb, ↓x_nei, ↓x_nes, ↓x_lt, ↓x_le, ↓x_gt, ↓x_ge, ↓x_isn, ↓x_isnn, ↓x_isb, ↓x_isnb, ↓x_st0, ↓x_st1, ↓x_st2, ↓x_st3, ↓x_ss, ↓x_lens, ↓x_lent, ↓x_r1, ↓x_r2, ↓x_r3, ↓x_lr, ↓x_rj, ↓x_iil, ↓x_iib, ↓x_iss, ↓x_itt, ↓x_inn, ↓e_vu, ↓e_vn, ↓e_a0, ↓e_a1, ↓e_a2, ↓e_a3, e_vk, vk_some, t_vk, upd_eq, upd_ne, argsR, ↓e_v r2, r2, ↓x_rr (get_last _ _), ↓x_rev (get_last _ _)]
    refine B_ret ?_
    simp [↓e_lit, ↓e_bin, ↓e_neg, ↓e_not, ↓e_and, ↓e_or, ↓e_cmp, ↓e_cmp2, ↓e_sub, ↓e_slice, ↓e_tup, ↓e_list, ↓e_dict0, ↓e_dict1, ↓e_call, ↓e_bi, ↓e_isinst, ↓e_meth, ↓es_nil, ↓es_cons, ↓o_none, ↓o_some, ↓t_not, ↓t_and, ↓t_or, ↓t_cmp, ↓t_cmp2, ↓t_lit, ↓t_call, ↓t_isinst, ↓t_meth, ↓x_bn, ↓x_bt, ↓u_nil, ↓u_cons, ↓x_addi, ↓x_adds, ↓x_subi, ↓x_muli, ↓x_fdiv, ↓x_mod, ↓x_tb, ↓x_tn, ↓x_eqi, ↓x_eqs, ↓x_eqb, ↓x_nei, ↓x_nes, ↓x_lt, ↓x_le, ↓x_gt, ↓x_ge, ↓x_isn, ↓x_isnn, ↓x_isb, ↓x_isnb, ↓x_st0, ↓x_st1, ↓x_st2, ↓x_st3, ↓x_ss, ↓x_lens, ↓x_lent, ↓x_r1, ↓x_r2, ↓x_r3, ↓x_lr, ↓x_rj, ↓x_iil, ↓x_iib, ↓x_iss, ↓x_itt, ↓x_inn, ↓e_vu, ↓e_vn, ↓e_a0, ↓e_a1, ↓e_a2, ↓e_a3, e_vk, vk_some, t_vk, upd_eq, upd_ne, argsR, ↓e_v r2, r2, ov_ret]
    rw [e1] at hp
    have : e.p = ps.reverse := hp
    rw [this] at q
    simpa using q
  · have hne : decide (f.w = V.none) = false := by rw [e2]; simp
    simp only [hne, Bool.not_false]
    refine B_assign ?_
    simp [↓e_lit, ↓e_bin, ↓e_neg, ↓e_not, ↓e_and, ↓e_or, ↓e_cmp, ↓e_cmp2, ↓e_sub, ↓e_slice, ↓e_tup, ↓e_list, ↓e_dict0, ↓e_dict1, ↓e_call, ↓e_bi, ↓e_isinst, ↓e_meth, ↓es_nil, ↓es_cons, ↓o_none, ↓o_some, ↓t_not, ↓t_and, ↓t_or, ↓t_cmp, ↓t_cmp2, ↓t_lit, ↓t_call, ↓t_isinst, ↓t_meth, ↓x_bn, ↓x_bt, ↓u_nil, ↓u_cons, ↓x_addi, ↓x_adds, ↓x_subi, ↓x_muli, ↓x_fdiv, ↓x_mod, ↓x_tb, ↓x_tn, ↓x_eqi, ↓x_eqs, ↓x_eqb, ↓x_nei, ↓x_nes, ↓x_lt, ↓x_le, ↓x_gt, ↓x_ge, ↓x_isn, ↓x_isnn, ↓x_isb, ↓x_isnb, ↓x_st0, ↓x_st1, ↓x_st2, ↓x_st3, ↓x_ss, ↓x_lens, ↓x_lent, ↓x_r1, ↓x_r2, ↓x_r3, ↓x_lr, ↓x_rj, ↓x_iil, ↓x_iib, ↓x_iss, ↓x_itt, ↓x_inn, ↓e_vu, ↓e_vn, ↓e_a0, ↓e_a1, ↓e_a2, ↓e_a3, e_vk, vk_some, t_vk, upd_eq, upd_ne, argsR, ↓e_v r0, r0, ↓e_v r1, r1, ↓x_sd hc', hg, key, e2]
    refine B_expr ?_
    simp [↓e_lit, ↓e_bin, ↓e_neg, ↓e_not, ↓e_and, ↓e_or, ↓e_cmp, ↓e_cmp2, ↓e_sub, ↓e_slice, ↓e_tup, ↓e_list, ↓e_dict0, ↓e_dict1, ↓e_call, ↓e_bi, ↓e_isinst, ↓e_meth, ↓es_nil, ↓es_cons, ↓o_none, ↓o_some, ↓t_not, ↓t_and, ↓t_or, ↓t_cmp, ↓t_cmp2, ↓t_lit, ↓t_call, ↓t_isinst, ↓t_meth, ↓x_bn, ↓x_bt, ↓u_nil, ↓u_cons, ↓x_addi, ↓x_adds, ↓x_subi, ↓x_muli, ↓x_fdiv, ↓x_mod, ↓x_tb, ↓x_tn, ↓x_eqi, ↓x_eqs, ↓x_eqb, ↓x_nei, ↓x_nes, ↓x_lt, ↓x_le, ↓x_gt, ↓x_ge, ↓x_isn, ↓x_isnn, ↓x_isb, ↓x_isnb, ↓x_st0, ↓x_st1, ↓x_st2, ↓x_st3, ↓x_ss, ↓x_lens, ↓x_lent, ↓x_r1, ↓x_r2, ↓x_r3, ↓x_lr, ↓x_rj, ↓x_iil, ↓x_iib, ↓x_iss, ↓x_itt, ↓x_inn, ↓e_vu, ↓e_vn, ↓e_a0, ↓e_a1, ↓e_a2, ↓e_a3, e_vk, vk_some, t_vk, upd_eq, upd_ne, argsR, ↓e_v r2, r2, ↓x_ra (get_last _ _), ↓x_app (get_last _ _)]
    have hlen : e.p.length = f.p.length + ps.length := by rw [hp]; simp
    refine ⟨by omega, B_nil ⟨g.p.length, by rw [e1]; simp, (hI ..).mpr ⟨g, hgm, ps ++ [k], rfl, ?_, ?_, by simp [↓e_lit, ↓e_bin, ↓e_neg, ↓e_not, ↓e_and, ↓e_or, ↓e_cmp, ↓e_cmp2, ↓e_sub, ↓e_slice, ↓e_tup, ↓e_list, ↓e_dict0, ↓e_dict1, ↓e_call, ↓e_bi, ↓e_isinst, ↓e_meth, ↓es_nil, ↓es_cons, ↓o_none, ↓o_some, ↓t_not, ↓t_and, ↓t_or, ↓t_cmp, ↓t_cmp2, ↓t_lit, ↓t_call, ↓t_isinst, ↓t_meth, ↓x_bn, ↓x_bt, ↓u_nil, ↓u_cons, ↓x_addi, ↓x_adds, ↓x_subi, ↓x_muli, ↓x_fdiv, ↓x_mod, ↓x_tb, ↓x_tn, ↓x_eqi, ↓x_eqs, ↓x_eqb, ↓x_nei, ↓x_nes, ↓x_lt, ↓x_le, ↓x_gt, ↓x_ge, ↓x_isn, ↓x_isnn, ↓x_isb, ↓x_isnb, ↓x_st0, ↓x_st1, ↓x_st2, ↓x_st3, ↓x_ss, ↓x_lens, ↓x_lent, ↓x_r1, ↓x_r2, ↓x_r3, ↓x_lr, ↓x_rj, ↓x_iil, ↓x_iib, ↓x_iss, ↓x_itt, ↓x_inn, ↓e_vu, ↓e_vn, ↓e_a0, ↓e_a1, ↓e_a2, ↓e_a3, e_vk, vk_some, t_vk, upd_eq, upd_ne, argsR, ↓e_v r0, r0], by simp [↓e_lit, ↓e_bin, ↓e_neg, ↓e_not, ↓e_and, ↓e_or, ↓e_cmp, ↓e_cmp2, ↓e_sub, ↓e_slice, ↓e_tup, ↓e_list, ↓e_dict0, ↓e_dict1, ↓e_call, ↓e_bi, ↓e_isinst, ↓e_meth, ↓es_nil, ↓es_cons, ↓o_none, ↓o_some, ↓t_not, ↓t_and, ↓t_or, ↓t_cmp, ↓t_cmp2, ↓t_lit, ↓t_call, ↓t_isinst, ↓t_meth, ↓x_bn, ↓x_bt, ↓u_nil, ↓u_cons, ↓x_addi, ↓x_adds, ↓x_subi, ↓x_muli, ↓x_fdiv, ↓x_mod, ↓x_tb, ↓x_tn, ↓x_eqi, ↓x_eqs, ↓x_eqb, ↓x_nei, ↓x_nes, ↓x_lt, ↓x_le, ↓x_gt, ↓x_ge, ↓x_isn, ↓x_isnn, ↓x_isb, ↓x_isnb, ↓x_st0, ↓x_st1, ↓x_st2, ↓x_st3, ↓x_ss, ↓x_lens, ↓x_lent, ↓x_r1, ↓x_r2, ↓x_r3, ↓x_lr, ↓x_rj, ↓x_iil, ↓x_iib, ↓x_iss, ↓x_itt, ↓x_inn, ↓e_vu, ↓e_vn, ↓e_a0, ↓e_a1, ↓e_a2, ↓e_a3, e_vk, vk_some, t_vk, upd_eq, upd_ne, argsR], by simp [↓e_lit, ↓e_bin, ↓e_neg, ↓e_not, ↓e_and, ↓e_or, ↓e_cmp, ↓e_cmp2, ↓e_sub, ↓e_slice, ↓e_tup, ↓e_list, ↓e_dict0, ↓e_dict1, ↓e_call, ↓e_bi, ↓e_isinst, ↓e_meth, ↓es_nil, ↓es_cons, ↓o_none, ↓o_some, ↓t_not, ↓t_and, ↓t_or, ↓t_cmp, ↓t_cmp2, ↓t_lit, ↓t_call, ↓t_isinst, ↓t_meth, ↓x_bn, ↓x_bt, ↓u_nil, ↓u_cons, ↓x_addi, ↓x_adds, ↓x_subi, ↓x_muli, ↓x_fdiv, ↓x_mod, ↓x_tb, ↓x_tn, ↓x_eqi, ↓x_eqs, ↓x_eqb, ↓x_nei, ↓x_nes, ↓x_lt, ↓x_le, ↓x_gt, ↓x_ge, ↓x_isn, ↓x_isnn, ↓x_isb, ↓x_isnb, ↓x_st0, ↓x_st1, ↓x_st2, ↓x_st3, ↓x_ss, ↓x_lens, ↓x_lent, ↓x_r1, ↓x_r2, ↓x_r3, ↓x_lr, ↓x_rj, ↓x_iil, ↓x_iib, ↓x_iss, ↓x_itt, ↓x_inn, ↓e_vu, ↓e_vn, ↓e_a0, ↓e_a1, ↓e_a2, ↓e_a3, e_vk, vk_some, t_vk, upd_eq, upd_ne, argsR, ↓e_v r2, r2]⟩⟩⟩
    · rw [hp, e1]; simp
    · simp
end
end
end Tw
end

section
namespace Tw

/-! ways of a machine, plain -/
inductive Path (M : Ma) : List Nat → Nat → Prop
  | nil : Path M [] M.b
  | snoc {p : List Nat} {k : Nat} {m : Mv} : Path M p m.s → M.moves[k]? = some m → Path M (p ++ [k]) m.q
noncomputable def rdOf (M : Ma) (p : List Nat) : List Nat := p.flatMap fun k => (M.moves[k]?.map Mv.t).getD []
noncomputable def wrOf (M : Ma) (p : List Nat) : List Nat := p.flatMap fun k => (M.moves[k]?.map Mv.g).getD []
theorem rd_snoc {M : Ma} {k : Nat} {m : Mv} (h : M.moves[k]? = some m) (p : List Nat) : rdOf M (p ++ [k]) = rdOf M p ++ m.t := by simp [rdOf, h]
theorem wr_snoc {M : Ma} {k : Nat} {m : Mv} (h : M.moves[k]? = some m) (p : List Nat) : wrOf M (p ++ [k]) = wrOf M p ++ m.g := by simp [wrOf, h]
structure IsWay (M : Ma) (text writing p : List Nat) : Prop where
  path : ∃ s, Path M p s ∧ s ∈ M.ends
  rd : rdOf M p = text
  wr : wrOf M p = writing

theorem gone_some {t sg : List Nat} {i i' : Nat} (hs : sg.length ≤ 1) (hi : i ≤ t.length) (h : gone t i sg = some i') : i' ≤ t.length ∧ t.take i' = t.take i ++ sg := by
  unfold gone at h
  by_cases h0 : sg = []
  · simp [h0] at h; subst h; exact ⟨hi, by simp [h0]⟩
  · rw [if_neg h0] at h
    by_cases h1 : (t[i]?.map fun c => [c]) = some sg
    · rw [if_pos h1] at h; injection h with h; subst h
      obtain ⟨c, hc, e⟩ := Option.map_eq_some_iff.mp h1
      refine ⟨(List.getElem?_eq_some_iff.mp hc).1, ?_⟩
      rw [List.take_add_one, hc, ← e]; rfl
    · rw [if_neg h1] at h; cases h
theorem gone_pre {t l sg : List Nat} (hs : sg.length ≤ 1) (h : l ++ sg <+: t) : gone t l.length sg = some (l ++ sg).length := by
  obtain ⟨r, rfl⟩ := h
  unfold gone
  match sg, hs with
  | [], _ => simp
  | [c], _ => simp

noncomputable def sys3 (M : Ma) (t w : List Nat) : Sys (Nat × Nat × Nat) where
  b := (M.b, 0, 0)
  out := fun x => outs M.moves x.1
  nx := fun x k => (M.moves[k]?).bind fun m => (gone t x.2.1 m.t).bind fun i => (gone w x.2.2 m.g).map fun j => (m.q, i, j)
  fin := fun x => x.1 ∈ M.ends ∧ x.2.1 = t.length ∧ x.2.2 = w.length
noncomputable def sys2 (M : Ma) (t : List Nat) : Sys (Nat × Nat) where
  b := (M.b, 0)
  out := fun x => outs M.moves x.1
  nx := fun x k => (M.moves[k]?).bind fun m => (gone t x.2 m.t).map fun i => (m.q, i)
  fin := fun x => x.1 ∈ M.ends ∧ x.2 = t.length

section
variable {M : Ma} {t w : List Nat} (ok : M.ok)
include ok
theorem path_lt {p : List Nat} {s : Nat} (h : Path M p s) : s < M.n := by
  cases h with
  | nil => exact ok.b1
  | snoc h1 h2 => exact (ok.m1 _ (List.mem_of_getElem? h2)).2.1
theorem run_path3 {p : List Nat} {x : Nat × Nat × Nat} (r : Run (sys3 M t w) p x) : Path M p x.1 ∧ x.2.1 ≤ t.length ∧ x.2.2 ≤ w.length ∧ rdOf M p = t.take x.2.1 ∧ wrOf M p = w.take x.2.2 := by
  induction r with
  | nil => exact ⟨.nil, by simp [sys3], by simp [sys3], by simp [sys3, rdOf], by simp [sys3, wrOf]⟩
  | @snoc p x y k r hk hy ih =>
    obtain ⟨m, hm, e⟩ := mem_outs.mp hk
    simp only [sys3, hm, Option.bind_some] at hy
    obtain ⟨i, hi, hy⟩ := Option.bind_eq_some_iff.mp hy
    obtain ⟨j, hj, rfl⟩ := Option.map_eq_some_iff.mp hy
    obtain ⟨h1, h2, h3, h4, h5⟩ := ih
    have hmo := ok.m1 m (List.mem_of_getElem? hm)
    obtain ⟨a1, a2⟩ := gone_some hmo.2.2.1 h2 hi
    obtain ⟨b1, b2⟩ := gone_some hmo.2.2.2 h3 hj
    exact ⟨.snoc (e ▸ h1) hm, a1, b1, by rw [rd_snoc hm, h4, a2], by rw [wr_snoc hm, h5, b2]⟩
theorem path_run3 {p : List Nat} {s : Nat} (h : Path M p s) (h1 : rdOf M p <+: t) (h2 : wrOf M p <+: w) : Run (sys3 M t w) p (s, (rdOf M p).length, (wrOf M p).length) := by
  induction h with
  | nil => exact .nil
  | @snoc p k m hp hm ih =>
    have hmo := ok.m1 m (List.mem_of_getElem? hm)
    rw [rd_snoc hm] at h1 ⊢
    rw [wr_snoc hm] at h2 ⊢
    refine .snoc (ih ((List.prefix_append _ _).trans h1) ((List.prefix_append _ _).trans h2)) (mem_outs.mpr ⟨m, hm, rfl⟩) ?_
    simp only [sys3, hm, Option.bind_some, gone_pre hmo.2.2.1 h1, gone_pre hmo.2.2.2 h2, Option.map_some]
theorem way_run {p : List Nat} (h : IsWay M t w p) : ∃ x, Run (sys3 M t w) p x ∧ (sys3 M t w).fin x := by
  obtain ⟨⟨s, hp, hs⟩, h1, h2⟩ := h
  refine ⟨_, path_run3 ok hp (by rw [h1]; exact List.prefix_refl _) (by rw [h2]; exact List.prefix_refl _), hs, by rw [h1], by rw [h2]⟩
theorem run_way {p : List Nat} {x : Nat × Nat × Nat} (r : Run (sys3 M t w) p x) (hf : (sys3 M t w).fin x) : IsWay M t w p := by
  obtain ⟨h1, h2, h3, h4, h5⟩ := run_path3 ok r
  exact ⟨⟨_, h1, hf.1⟩, by rw [h4, hf.2.1, List.take_length], by rw [h5, hf.2.2, List.take_length]⟩
theorem path_run2 {p : List Nat} {s : Nat} (h : Path M p s) (h1 : rdOf M p <+: t) : Run (sys2 M t) p (s, (rdOf M p).length) := by
  induction h with
  | nil => exact .nil
  | @snoc p k m hp hm ih =>
    have hmo := ok.m1 m (List.mem_of_getElem? hm)
    rw [rd_snoc hm] at h1 ⊢
    refine .snoc (ih ((List.prefix_append _ _).trans h1)) (mem_outs.mpr ⟨m, hm, rfl⟩) ?_
    simp only [sys2, hm, Option.bind_some, gone_pre hmo.2.2.1 h1, Option.map_some]
theorem run_path2 {p : List Nat} {x : Nat × Nat} (r : Run (sys2 M t) p x) : Path M p x.1 ∧ x.2 ≤ t.length ∧ rdOf M p = t.take x.2 := by
  induction r with
  | nil => exact ⟨.nil, by simp [sys2], by simp [sys2, rdOf]⟩
  | @snoc p x y k r hk hy ih =>
    obtain ⟨m, hm, e⟩ := mem_outs.mp hk
    simp only [sys2, hm, Option.bind_some] at hy
    obtain ⟨i, hi, rfl⟩ := Option.map_eq_some_iff.mp hy
    obtain ⟨h1, h2, h4⟩ := ih
    have hmo := ok.m1 m (List.mem_of_getElem? hm)
    obtain ⟨a1, a2⟩ := gone_some hmo.2.2.1 h2 hi
    exact ⟨.snoc (e ▸ h1) hm, a1, by rw [rd_snoc hm, h4, a2]⟩
end

/-! all places that there are -/
noncomputable def box3 (n a b : Nat) : List (Nat × Nat × Nat) := (List.range n).flatMap fun s => (List.range a).flatMap fun i => (List.range b).map fun j => (s, i, j)
noncomputable def box2 (n a : Nat) : List (Nat × Nat) := (List.range n).flatMap fun s => (List.range a).map fun i => (s, i)
theorem len_flat {α β : Type} (f : α → List β) (c : Nat) (h : ∀ x, (f x).length = c) : ∀ l : List α, (l.flatMap f).length = l.length * c
  | [] => by simp
  | x :: r => by rw [List.flatMap_cons, List.length_append, h, len_flat f c h r, List.length_cons, Nat.add_mul]; omega
theorem box3_len (n a b : Nat) : (box3 n a b).length = n * (a * b) := by
  unfold box3; rw [len_flat _ (a * b) (fun s => by rw [len_flat _ b (fun i => by simp)]; simp)]; simp
theorem box2_len (n a : Nat) : (box2 n a).length = n * a := by
  unfold box2; rw [len_flat _ a (fun s => by simp)]; simp
theorem box3_mem {n a b : Nat} {x : Nat × Nat × Nat} (h1 : x.1 < n) (h2 : x.2.1 < a) (h3 : x.2.2 < b) : x ∈ box3 n a b := by
  obtain ⟨s, i, j⟩ := x
  simp only [box3, List.mem_flatMap, List.mem_map, List.mem_range]
  exact ⟨s, h1, i, h2, j, h3, rfl⟩
theorem box2_mem {n a : Nat} {x : Nat × Nat} (h1 : x.1 < n) (h2 : x.2 < a) : x ∈ box2 n a := by
  obtain ⟨s, i⟩ := x
  simp only [box2, List.mem_flatMap, List.mem_map, List.mem_range]
  exact ⟨s, h1, i, h2, rfl⟩

noncomputable def nv3 (x : Nat × Nat × Nat) : V := .tup [.int x.1, .int x.2.1, .int x.2.2]
noncomputable def nv2 (x : Nat × Nat) : V := .tup [.int x.1, .int x.2]
theorem nv3_inj (a b : Nat × Nat × Nat) (h : nv3 a = nv3 b) : a = b := by
  obtain ⟨a1, a2, a3⟩ := a
  obtain ⟨b1, b2, b3⟩ := b
  simp [nv3] at h
  have h1 : a1 = b1 := by omega
  have h2 : a2 = b2 := by omega
  have h3 : a3 = b3 := by omega
  rw [h1, h2, h3]
theorem nv2_inj (a b : Nat × Nat) (h : nv2 a = nv2 b) : a = b := by
  obtain ⟨a1, a2⟩ := a
  obtain ⟨b1, b2⟩ := b
  simp [nv2] at h
  have h1 : a1 = b1 := by omega
  have h2 : a2 = b2 := by omega
  rw [h1, h2]
theorem nv3_key (x : Nat × Nat × Nat) : (nv3 x).isKey = true := rfl
theorem dput_mem {es : List (V × V)} {k k' v : V} : k' ∈ (dput es k v).map (·.1) ↔ k' ∈ es.map (·.1) ∨ k' = k := by
  unfold dput
  by_cases h : (dget es k).isSome
  · rw [if_pos h]
    have e : (es.map fun e => if e.1 = k then (e.1, v) else e).map (·.1) = es.map (·.1) := by
      rw [List.map_map]; apply List.map_congr_left; intro e _; simp only [Function.comp]; split <;> rfl
    rw [e]
    constructor
    · exact .inl
    · rintro (h' | rfl)
      · exact h'
      · obtain ⟨v', hv⟩ := Option.isSome_iff_exists.mp h
        obtain ⟨e, he, _⟩ := Option.map_eq_some_iff.mp hv
        have := List.find?_some he
        exact List.mem_map.mpr ⟨e, List.mem_of_find?_eq_some he, of_decide_eq_true this⟩
  · rw [if_neg h]; simp
theorem fin_mem {es : List Nat} {s : Nat} : natV s ∈ (finD es).map (·.1) ↔ s ∈ es := by
  have : ∀ (es : List Nat) (a : List (V × V)), natV s ∈ (es.foldl (fun a e => dput a (natV e) (V.bool true)) a).map (·.1) ↔ natV s ∈ a.map (·.1) ∨ s ∈ es := by
    intro es
    induction es with
    | nil => intro a; simp
    | cons e r ih =>
      intro a
      rw [List.foldl_cons, ih, dput_mem, List.mem_cons]
      have : natV s = natV e ↔ s = e := by simp [natV]; omega
      rw [this, or_assoc]
  unfold finD
  rw [this]; simp
end Tw
end

section
namespace Tw

section
variable {Φ : Nat → Option Fn} {d : Nat} {h : H} {Q : V → H → Prop}

theorem B_nil2 {C : Ora} {ρ : Rho} {h : H} {Q : Out → Rho → H → Prop} (x : Q .next ρ h) : wpB C [] ρ h (thenB C [] Q) := x
theorem nat_eq {a b : Nat} : decide ((a : Int) = b) = decide (a = b) := by
  by_cases h : a = b
  · rw [decide_eq_true h, decide_eq_true (by omega)]
  · rw [decide_eq_false h, decide_eq_false (by omega)]
theorem last2a (h : H) (a b : MO) : (h ++ [a, b])[h.length]? = some a := by simp
theorem set2a (h : H) (a b c : MO) : (h ++ [a, b]).set h.length c = h ++ [c, b] := by simp
theorem set2b (h : H) (a b c : MO) : (h ++ [a, b]).set (h.length + 1) c = h ++ [a, c] := by
  rw [List.set_append_right _ _ (by omega)]; simp
/-- the loop's heap: B, then the dict, then the row -/
noncomputable def heapT {N : Type} (nv : N → V) (B : H) (T : List (Ent N)) (ver : Nat) : H := B ++ [.dict (T.map (Ent.kv nv)) ver, .list (T.map fun e => nv e.x)]
theorem heapT_d {N : Type} (nv : N → V) (B : H) (T : List (Ent N)) (ver : Nat) : (heapT nv B T ver)[B.length]? = some (.dict (T.map (Ent.kv nv)) ver) := last2a ..
theorem heapT_l {N : Type} (nv : N → V) (B : H) (T : List (Ent N)) (ver : Nat) : (heapT nv B T ver)[B.length + 1]? = some (.list (T.map fun e => nv e.x)) := len2 ..
theorem heapT_p {N : Type} (nv : N → V) (B : H) (T : List (Ent N)) (ver : Nat) : B <+: heapT nv B T ver := List.prefix_append ..
theorem heapT_n {N : Type} {nv : N → V} (inj : ∀ a b, nv a = nv b → a = b) (B : H) {T : List (Ent N)} (ver ver' : Nat) {z : N} (p : List Nat) (w : V) (hz : z ∉ T.map (·.x)) :
    ((heapT nv B T ver).set B.length (.dict (dput (T.map (Ent.kv nv)) (nv z) w) ver')).set (B.length + 1) (.list ((T.map fun e => nv e.x) ++ [nv z])) = heapT nv B (T ++ [⟨z, p, w⟩]) ver' := by
  unfold heapT
  rw [set2a, set2b, dput_kv inj p w hz]
  simp

end
end Tw
end

section
namespace Tw

section
variable {Φ : Nat → Option Fn} {d : Nat} {h : H} {Q : V → H → Prop}

noncomputable def wL (vo : V) (t w : List Nat) (f m c : Nat) : Env := [(1, .str t), (2, .str w), (5, .ref f), (6, .ref m), (7, vo), (8, .ref c), (9, .ref (c + 1))]
theorem way_ok {v : V} {M : Ma} {t w : List Nat} (h0 : Φ 0 = some fn_need) (h1 : Φ 1 = some fn_checked) (h2 : Φ 2 = some fn_leaving) (h3 : Φ 3 = some fn_gone_on) (h4 : Φ 4 = some fn_told_back) (h5 : Φ 5 = some fn_way)
    (hm : IsMa h v M) (ok : M.ok) (ht : t.length < SZ) (hw : w.length < SZ) (hb : M.n * ((t.length + 1) * (w.length + 1)) < SZ)
    (qn : ∀ h', h <+: h' → (∀ p, ¬ IsWay M t w p) → Q .none h')
    (qs : ∀ h' r p, h <+: h' → h'[r]? = some (.list (p.map natV)) → IsWay M t w p → (∀ p', IsWay M t w p' → p.length ≤ p'.length) → p.length < SZ → Q (.ref r) h') : Calls Φ (d + 3) 5 [v, .str t, .str w] h Q := by
  refine ⟨fn_way, h5, rfl, A_fn ?_⟩
  have mC := calls_mono (Φ := Φ) (d + 2)
  have hz := SZ_val
  have hn2 := ok.n2
  have hl1 := ok.l1
  refine A_calls mC (g := []) rfl trivial (checked_ok h0 h1 hm ok fun ver => ⟨_, rfl, rfl, ?_⟩)
  generalize hA : h ++ [MO.dict (finD M.ends) ver, MO.list (M.moves.map Mv.v)] = A
  have pA : h <+: A := ⟨_, hA⟩
  have gA1 : A[h.length]? = some (.dict (finD M.ends) ver) := by rw [← hA]; exact last2a ..
  have gA2 : A[h.length + 1]? = some (.list (M.moves.map Mv.v)) := by rw [← hA]; exact len2 ..
  clear hA
  refine A_call mC (g := []) rfl trivial (leaving_ok h2 gA2 ok fun vo B pB oB => ?_)
  obtain ⟨Lo, ro, rfl, gL, gr⟩ := oB
  have hp := pA.trans pB
  have gA1 := pre_get pB gA1
  have gA2 := pre_get pB gA2
  clear pA pB
  generalize h.length = f at *
  refine A_dict1 (g := []) (g₂ := []) rfl trivial rfl trivial rfl fun ver => A_list (g := []) rfl trivial (A_set (g := []) rfl trivial ?_)
  rw [List.append_assoc, List.length_append]
  have bound : ∀ {T : List (Ent (Nat × Nat × Nat))} {a : Nat}, Met (sys3 M t w) T a → T.length ≤ M.n * ((t.length + 1) * (w.length + 1)) := fun mt => by
    have := mt.bound (box3 M.n (t.length + 1) (w.length + 1)) (fun p x r => by
      obtain ⟨a1, a2, a3, _⟩ := run_path3 ok r
      exact box3_mem (path_lt ok a1) (by omega) (by omega))
    rwa [box3_len] at this
  generalize M.n * ((t.length + 1) * (w.length + 1)) = K at hb bound
  refine A_whileT mC (fun a : Nat => (10, .int a) :: wL (.ref Lo) t w f (f + 1) B.length) (fun n a H => ∃ T ver, n = K - a ∧ MetO (sys3 M t w) T a ∧ ChainT nv3 T ∧ H = heapT nv3 B T ver) _ 0 (by repeat (first | exact trivial | refine ⟨rfl, ?_⟩)) ⟨[⟨(M.b, 0, 0), [], .none⟩], ver, rfl, MetO.start (s := sys3 M t w) _, ?_, rfl⟩ ?_
  · intro e he; simp at he; subst he; exact .inl ⟨rfl, rfl⟩
  rintro n a H ⟨T, ver, rfl, mt, ch, rfl⟩
  have hbd := bound mt.toMet
  refine ⟨[.int T.length], _, _, _, rfl, ⟨ln_map (heapT_l ..), trivial⟩, fun hlt => ?_, fun hlt => ?_⟩
  · have hlt : a < T.length := by simpa using hlt
    obtain ⟨c, hc⟩ : ∃ c, T[a]? = some c := ⟨_, List.getElem?_eq_getElem hlt⟩
    have hcm := List.mem_of_getElem? hc
    obtain ⟨hpc, hi1, hi2, _⟩ := run_path3 ok (mt.runs c hcm)
    have hs := path_lt ok hpc
    refine A_set (g := [nv3 c.x]) rfl ⟨rd_list (heapT_l ..) (by omega) (by simp [hc]), trivial⟩ (A_set (g := []) rfl trivial ?_)
    refine A_if (g := [.bool (decide (c.x.1 ∈ M.ends))]) rfl ⟨cm_in (pre_get (heapT_p ..) gA1) rfl fin_mem, trivial⟩ (fun hf => ?_) fun hf => A_then ?_
    · have hf : (sys3 M t w).fin c.x := by
        simp only [Bool.and_eq_true, decide_eq_true_eq] at hf
        exact ⟨hf.1, by omega, by omega⟩
      refine A_callR mC (g := []) rfl trivial (told_ok nv3_inj h4 nv3_key mt.nodup ch (heapT_d ..) hcm (by have := mt.idx a c hc; omega) fun ρ => ?_)
      refine qs _ _ c.p ((hp.trans (heapT_p ..)).trans (List.prefix_append _ _)) (get_last _ _) (run_way ok (mt.runs c hcm) hf) (fun p' hp' => ?_) (by have := mt.idx a c hc; omega)
      obtain ⟨x, hx, hx2⟩ := way_run ok hp'
      exact mt.least hc hx hx2
    · have hf : ¬ (sys3 M t w).fin c.x := fun ⟨f1, f2, f3⟩ => by simp [f1, f2, f3] at hf
      refine A_for mC (goes_seq (ro + c.x.1) ((outs M.moves c.x.1).map natV)) (fun _ : Unit => (11, nv3 c.x) :: (10, .int (a + 1 : Nat)) :: wL (.ref Lo) t w f (f + 1) B.length) (fun i _ H => ∃ T ver, MetI (sys3 M t w) T a c i ∧ ChainT nv3 T ∧ H = heapT nv3 B T ver) () (by repeat (first | exact trivial | refine ⟨rfl, ?_⟩)) ?_ ?_ ?_ ?_
      · exact A_ev (g := [.ref (ro + c.x.1)]) rfl ⟨rd_list (pre_get (heapT_p ..) gL) (by omega) (by simp [hs]), trivial⟩ ⟨it_list (pre_get (heapT_p ..) (gr _ hs)), T, ver, mt.enter hc, ch, rfl⟩
      · rintro i _ H ⟨T, ver, _, _, rfl⟩; exact pre_get (heapT_p ..) (gr _ hs)
      · rintro i v _ H hv ⟨T, ver, mi, ch, rfl⟩
        obtain ⟨k, hk, rfl, hil⟩ := map_at hv
        obtain ⟨m, hm, hms⟩ := mem_outs.mp (List.mem_of_getElem? hk)
        have hkl := (List.getElem?_eq_some_iff.mp hm).1
        refine A_sets (g := [m.v]) (vs := [.int m.s, .str m.t, .str m.g, .int m.q]) rfl ⟨rd_list (pre_get (heapT_p ..) gA2) (by omega) (by simp [hm]), trivial⟩ rfl ?_
        refine A_call mC (g := []) rfl trivial (gone_ok h3 (by omega) (A_call mC (g := []) rfl trivial (gone_ok h3 (by omega) ?_)))
        have hnx : (sys3 M t w).nx c.x k = (gone t c.x.2.1 m.t).bind fun i => (gone w c.x.2.2 m.g).map fun j => (m.q, i, j) := by simp only [sys3, hm, Option.bind_some]
        have fin : ∀ {L' : Env} {T' : List (Ent (Nat × Nat × Nat))} {ver' : Nat} {R : V → Rho → Tw.H → Prop}, AllIn ((11, nv3 c.x) :: (10, .int (a + 1 : Nat)) :: wL (.ref Lo) t w f (f + 1) B.length) L' → MetI (sys3 M t w) T' a c (i + 1) → ChainT nv3 T' → AB (Calls Φ (d + 2)) L' (heapT nv3 B T' ver') [] (fun o ρ' h' => match o with | .next => ∃ s' : Unit, Ag ((11, nv3 c.x) :: (10, .int (a + 1 : Nat)) :: wL (.ref Lo) t w f (f + 1) B.length) ρ' ∧ (∃ T ver, MetI (sys3 M t w) T a c (i + 1) ∧ ChainT nv3 T ∧ h' = heapT nv3 B T ver) | .ret w => R w ρ' h') := fun hin m1 m2 ρ ag => ⟨(), AllIn.ag ag hin, _, _, m1, m2, rfl⟩
        cases hoi : gone t c.x.2.1 m.t with
        | none => exact A_if (g := [.bool true]) rfl ⟨(fun e => nomatch e), trivial⟩ no_b fun _ => A_then (fin (by repeat (first | exact trivial | refine ⟨rfl, ?_⟩)) (mi.skip hk fun z hz => by rw [hnx, hoi] at hz; cases hz) ch)
        | some i' =>
          cases hoj : gone w c.x.2.2 m.g with
          | none => exact A_if (g := [.bool true]) rfl ⟨(fun _ => ⟨(fun e => nomatch e), trivial⟩), trivial⟩ no_b fun _ => A_then (fin (by repeat (first | exact trivial | refine ⟨rfl, ?_⟩)) (mi.skip hk fun z hz => by rw [hnx, hoi, hoj] at hz; cases hz) ch)
          | some j' =>
            rw [hoi, hoj] at hnx
            have hnx : (sys3 M t w).nx c.x k = some (m.q, i', j') := hnx
            refine A_if (g := [.bool (!decide (((m.q, i', j') : Nat × Nat × Nat) ∈ T.map (·.x)))]) rfl ⟨fun _ => ⟨fun _ => ⟨cm_nin (heapT_d ..) rfl (keys_mem nv3_inj (z := (m.q, i', j'))), trivial⟩, trivial⟩, trivial⟩ (fun hc' => ?_) fun hc' => A_then (fin (by repeat (first | exact trivial | refine ⟨rfl, ?_⟩)) (mi.skip hk fun z hz => by rw [hnx] at hz; cases hz; simpa [isNoneB, optV] using hc') ch)
            have hnm : ((m.q, i', j') : Nat × Nat × Nat) ∉ T.map (·.x) := by simpa [isNoneB, optV] using hc'
            have mi' := mi.push (.tup [nv3 c.x, natV k]) hk hnx hnm
            have hbd := bound mi'.toMet
            rw [List.length_append] at hbd
            simp only [List.length_cons, List.length_nil] at hbd
            refine A_put (g := []) (g₂ := []) rfl (heapT_d ..) rfl trivial rfl trivial rfl (by rw [List.length_map]; omega) fun ver' => ?_
            refine A_app rfl (vs := T.map fun e => nv3 e.x) (by rw [List.getElem?_set_ne (by omega)]; exact heapT_l ..) (by rw [List.length_map]; omega) (g := []) rfl trivial (A_then ?_)
            refine AB_heap (heapT_n nv3_inj B ver ver' (z := (m.q, i', j')) (c.p ++ [k]) (.tup [nv3 c.x, natV k]) hnm) (fin (by repeat (first | exact trivial | refine ⟨rfl, ?_⟩)) mi' ?_)
            intro e he
            rcases List.mem_append.mp he with he | he
            · rcases ch e he with x | ⟨f, hf, k, x⟩
              · exact .inl x
              · exact .inr ⟨f, List.mem_append_left _ hf, k, x⟩
            · simp at he; subst he
              exact .inr ⟨c, List.mem_append_left _ (List.mem_of_getElem? mi.here), k, rfl, rfl⟩
      · rintro _ H ⟨T, ver, mi, ch, rfl⟩
        rw [List.length_map] at mi
        exact A_again (K - (a + 1)) (a + 1) (by omega) (by repeat (first | exact trivial | refine ⟨rfl, ?_⟩)) ⟨T, ver, rfl, mi.leave hf (Nat.le_refl _), ch, rfl⟩
  · have hlt : ¬ a < T.length := by simpa using hlt
    refine A_ret (g := []) rfl trivial fun ρ => qn _ (hp.trans (heapT_p ..)) fun p hp' => ?_
    obtain ⟨x, hx, hx2⟩ := way_run ok hp'
    exact mt.none (by omega) hx hx2
end
end Tw
end

section
namespace Tw

section
variable {Φ : Nat → Option Fn} {d : Nat} {h : H} {Q : V → H → Prop}

theorem reads_turn {M : Ma} {t : List Nat} {B : H} {mv : Nat} {vo : V} {ρ : Rho} {T : List (Ent (Nat × Nat))} {a ver : Nat} {Q : Out → Rho → H → Prop} (h3 : Φ 3 = some fn_gone_on) (ok : M.ok) (ht : t.length < SZ)
    (hb : M.n * (t.length + 1) < SZ) (mt : MetO (sys2 M t) T a) (hB2 : B[mv]? = some (.list (M.moves.map Mv.v))) (hO : OutAt B vo M) {c : Ent (Nat × Nat)} (hc : T[a]? = some c) (hf : ¬ (sys2 M t).fin c.x)
    (r1 : ρ 1 = some (.str t)) (r5 : ρ 5 = some (.ref mv)) (r6 : ρ 6 = some vo) (r7 : ρ 7 = some (.ref B.length)) (r8 : ρ 8 = some (.ref (B.length + 1))) (r10 : ρ 10 = some (nv2 c.x))
    (q : ∀ ρ' T' ver', (∀ i, i < 11 → ρ' i = ρ i) → MetO (sys2 M t) T' (a + 1) → Q .next ρ' (heapT nv2 B T' ver')) :
    wpB (Calls Φ (d + 1)) [.for (.name 11) (.sub (.var 6) (.sub (.var 10) (.lit (.int 0)))) [
      .assign (.name 12) (.call 3 [(.var 1), (.sub (.var 10) (.lit (.int 1))), (.sub (.sub (.var 5) (.var 11)) (.lit (.int 1)))]),
      .ite (.and (.cmp .isNot (.var 12) (.lit .none)) (.cmp .notIn (.tup [(.sub (.sub (.var 5) (.var 11)) (.lit (.int 3))), (.var 12)]) (.var 7))) [
        .store (.var 7) (.tup [(.sub (.sub (.var 5) (.var 11)) (.lit (.int 3))), (.var 12)]) (.lit (.bool true)),
        .expr (.meth .append (.var 8) [(.tup [(.sub (.sub (.var 5) (.var 11)) (.lit (.int 3))), (.var 12)])])] []]] ρ (heapT nv2 B T ver) Q := by
  have mC := calls_mono (Φ := Φ) (d + 1)
  have hz := SZ_val
  obtain ⟨L, r, rfl, hL, hr⟩ := hO
  obtain ⟨hp, hi1, _⟩ := run_path2 ok (mt.runs c (List.mem_of_getElem? hc))
  have hs := path_lt ok hp
  have hn2 := ok.n2
  obtain ⟨I, hI⟩ : ∃ I : Nat → Rho → Tw.H → Prop, ∀ i ρ' H, I i ρ' H ↔ (∃ T ver, MetI (sys2 M t) T a c i ∧ H = heapT nv2 B T ver ∧ ∀ i, i < 11 → ρ' i = ρ i) := ⟨_, fun _ _ _ => Iff.rfl⟩
  refine B_for_seq mC (n := r + c.x.1) (vs := (outs M.moves c.x.1).map natV) (I := I) ?_ ?_ ?_ ?_
  · simp [e_lit, e_vk, vk_some, e_bin, e_neg, e_not, e_and, e_or, e_cmp, e_cmp2, e_sub, e_slice, e_tup, e_list, e_dict0, e_dict1, e_call, e_bi, e_isinst, e_meth, es_nil, es_cons, o_none, o_some, t_not, t_and, t_or, t_cmp, t_cmp2, t_lit, t_vk, t_call, t_isinst, t_meth, x_bn, x_bt, u_nil, u_cons, upd_eq, upd_ne, argsR, x_addi, x_adds, x_subi, x_muli, x_fdiv, x_mod, x_tb, x_tn, x_eqi, x_eqs, x_eqb, x_nei, x_nes, x_lt, x_le, x_gt, x_ge, x_isn, x_isnn, x_isb, x_isnb, x_st0, x_st1, x_st2, x_st3, x_ss, x_lens, x_lent, x_r1, x_r2, x_r3, x_lr, x_rj, x_iil, x_iib, x_iss, x_itt, x_inn, r6, r10, nv2]
    refine x_sln (pre_get (heapT_p ..) hL) (by omega) (v := .ref (r + c.x.1)) (by simp [hs]) ⟨rfl, (hI ..).mpr ⟨T, ver, mt.enter hc, rfl, fun _ _ => rfl⟩⟩
  · intro i ρ' H hi
    obtain ⟨T, ver, _, rfl, _⟩ := (hI ..).mp hi
    exact pre_get (heapT_p ..) (hr _ hs)
  · intro i v ρ' H hv hi
    obtain ⟨T, ver, mi, rfl, hρ⟩ := (hI ..).mp hi
    obtain ⟨k, hk, rfl⟩ : ∃ k, (outs M.moves c.x.1)[i]? = some k ∧ natV k = v := by simpa using hv
    obtain ⟨m, hm, hms⟩ := mem_outs.mp (List.mem_of_getElem? hk)
    have hkl := (List.getElem?_eq_some_iff.mp hm).1
    have hl1 := ok.l1
    have hmo := ok.m1 m (List.mem_of_getElem? hm)
    have r1 := (hρ 1 (by decide)).trans r1
    have r5 := (hρ 5 (by decide)).trans r5
    have r7 := (hρ 7 (by decide)).trans r7
    have r8 := (hρ 8 (by decide)).trans r8
    have r10 := (hρ 10 (by decide)).trans r10
    have hmk : (M.moves.map Mv.v)[k]? = some m.v := by simp [hm]
    rw [x_bn]
    refine B_name ?_
    simp [e_lit, e_vk, vk_some, e_bin, e_neg, e_not, e_and, e_or, e_cmp, e_cmp2, e_sub, e_slice, e_tup, e_list, e_dict0, e_dict1, e_call, e_bi, e_isinst, e_meth, es_nil, es_cons, o_none, o_some, t_not, t_and, t_or, t_cmp, t_cmp2, t_lit, t_vk, t_call, t_isinst, t_meth, x_bn, x_bt, u_nil, u_cons, upd_eq, upd_ne, argsR, x_addi, x_adds, x_subi, x_muli, x_fdiv, x_mod, x_tb, x_tn, x_eqi, x_eqs, x_eqb, x_nei, x_nes, x_lt, x_le, x_gt, x_ge, x_isn, x_isnn, x_isb, x_isnb, x_st0, x_st1, x_st2, x_st3, x_ss, x_lens, x_lent, x_r1, x_r2, x_r3, x_lr, x_rj, x_iil, x_iib, x_iss, x_itt, x_inn, r1, r5, r10, nv2, natV]
    refine x_sln (pre_get (heapT_p ..) hB2) (by omega) hmk ?_
    simp [Mv.v, e_lit, e_vk, vk_some, e_bin, e_neg, e_not, e_and, e_or, e_cmp, e_cmp2, e_sub, e_slice, e_tup, e_list, e_dict0, e_dict1, e_call, e_bi, e_isinst, e_meth, es_nil, es_cons, o_none, o_some, t_not, t_and, t_or, t_cmp, t_cmp2, t_lit, t_vk, t_call, t_isinst, t_meth, x_bn, x_bt, u_nil, u_cons, upd_eq, upd_ne, argsR, x_addi, x_adds, x_subi, x_muli, x_fdiv, x_mod, x_tb, x_tn, x_eqi, x_eqs, x_eqb, x_nei, x_nes, x_lt, x_le, x_gt, x_ge, x_isn, x_isnn, x_isb, x_isnb, x_st0, x_st1, x_st2, x_st3, x_ss, x_lens, x_lent, x_r1, x_r2, x_r3, x_lr, x_rj, x_iil, x_iib, x_iss, x_itt, x_inn]
    refine gone_ok h3 (by omega) ?_
    obtain ⟨oi, hoi⟩ : ∃ o, gone t c.x.2 m.t = o := ⟨_, rfl⟩
    rw [hoi]
    generalize hρ3 : upd (upd ρ' 11 _) 12 _ = ρ3
    have e12 : ρ3 12 = some (optV oi) := congrFun hρ3.symm 12
    have e11 : ρ3 11 = some (.int k) := congrFun hρ3.symm 11
    have eo3 : ∀ i, i < 11 → ρ3 i = ρ' i := by intro i hi; rw [← hρ3, upd_ne (by omega), upd_ne (by omega)]
    clear hρ3
    have hρ3 : ∀ i, i < 11 → ρ3 i = ρ i := fun i hi => by rw [eo3 i hi, hρ i hi]
    have r5 := (eo3 5 (by decide)).trans r5
    have r7 := (eo3 7 (by decide)).trans r7
    have r8 := (eo3 8 (by decide)).trans r8
    have hnx : (sys2 M t).nx c.x k = oi.map fun i => (m.q, i) := by simp only [sys2, hm, Option.bind_some, hoi]
    cases oi with
    | none =>
      refine B_if mC (h' := heapT nv2 B T ver) false ?_ (fun h => nomatch h) fun _ => B_nil2 ((hI ..).mpr ⟨T, ver, mi.skip hk fun z hz => by rw [hnx] at hz; simp at hz, rfl, hρ3⟩)
      simp [e_lit, e_vk, vk_some, e_bin, e_neg, e_not, e_and, e_or, e_cmp, e_cmp2, e_sub, e_slice, e_tup, e_list, e_dict0, e_dict1, e_call, e_bi, e_isinst, e_meth, es_nil, es_cons, o_none, o_some, t_not, t_and, t_or, t_cmp, t_cmp2, t_lit, t_vk, t_call, t_isinst, t_meth, x_bn, x_bt, u_nil, u_cons, upd_eq, upd_ne, argsR, x_addi, x_adds, x_subi, x_muli, x_fdiv, x_mod, x_tb, x_tn, x_eqi, x_eqs, x_eqb, x_nei, x_nes, x_lt, x_le, x_gt, x_ge, x_isn, x_isnn, x_isb, x_isnb, x_st0, x_st1, x_st2, x_st3, x_ss, x_lens, x_lent, x_r1, x_r2, x_r3, x_lr, x_rj, x_iil, x_iib, x_iss, x_itt, x_inn, e12, optV]
    | some i' =>
        have hnx : (sys2 M t).nx c.x k = some (m.q, i') := hnx
        refine B_if mC (h' := heapT nv2 B T ver) (!decide (((m.q, i') : Nat × Nat) ∈ T.map (·.x))) ?_ ?_ ?_
        · simp [e_lit, e_vk, vk_some, e_bin, e_neg, e_not, e_and, e_or, e_cmp, e_cmp2, e_sub, e_slice, e_tup, e_list, e_dict0, e_dict1, e_call, e_bi, e_isinst, e_meth, es_nil, es_cons, o_none, o_some, t_not, t_and, t_or, t_cmp, t_cmp2, t_lit, t_vk, t_call, t_isinst, t_meth, x_bn, x_bt, u_nil, u_cons, upd_eq, upd_ne, argsR, x_addi, x_adds, x_subi, x_muli, x_fdiv, x_mod, x_tb, x_tn, x_eqi, x_eqs, x_eqb, x_nei, x_nes, x_lt, x_le, x_gt, x_ge, x_isn, x_isnn, x_isb, x_isnb, x_st0, x_st1, x_st2, x_st3, x_ss, x_lens, x_lent, x_r1, x_r2, x_r3, x_lr, x_rj, x_iil, x_iib, x_iss, x_itt, x_inn, e11, e12, r5, r7, optV]
          refine x_sln (pre_get (heapT_p ..) hB2) (by omega) hmk ?_
          simp [Mv.v, e_lit, e_vk, vk_some, e_bin, e_neg, e_not, e_and, e_or, e_cmp, e_cmp2, e_sub, e_slice, e_tup, e_list, e_dict0, e_dict1, e_call, e_bi, e_isinst, e_meth, es_nil, es_cons, o_none, o_some, t_not, t_and, t_or, t_cmp, t_cmp2, t_lit, t_vk, t_call, t_isinst, t_meth, x_bn, x_bt, u_nil, u_cons, upd_eq, upd_ne, argsR, x_addi, x_adds, x_subi, x_muli, x_fdiv, x_mod, x_tb, x_tn, x_eqi, x_eqs, x_eqb, x_nei, x_nes, x_lt, x_le, x_gt, x_ge, x_isn, x_isnn, x_isb, x_isnb, x_st0, x_st1, x_st2, x_st3, x_ss, x_lens, x_lent, x_r1, x_r2, x_r3, x_lr, x_rj, x_iil, x_iib, x_iss, x_itt, x_inn, x_nid (heapT_d ..), r7]
          refine ⟨rfl, ?_⟩
          have := keys_mem nv2_inj (T := T) (z := (m.q, i'))
          simp [nv2] at this
          exact this
        · intro hc'
          have hnm : ((m.q, i') : Nat × Nat) ∉ T.map (·.x) := by simpa using hc'
          have mi' := mi.push (.bool true) hk hnx hnm
          have hbd := mi'.bound (box2 M.n (t.length + 1)) (fun p x r => by
            obtain ⟨a1, a2, _⟩ := run_path2 ok r
            exact box2_mem (path_lt ok a1) (by omega))
          rw [box2_len, List.length_append] at hbd
          simp only [List.length_cons, List.length_nil] at hbd
          refine B_store ?_
          simp [e_lit, e_vk, vk_some, e_bin, e_neg, e_not, e_and, e_or, e_cmp, e_cmp2, e_sub, e_slice, e_tup, e_list, e_dict0, e_dict1, e_call, e_bi, e_isinst, e_meth, es_nil, es_cons, o_none, o_some, t_not, t_and, t_or, t_cmp, t_cmp2, t_lit, t_vk, t_call, t_isinst, t_meth, x_bn, x_bt, u_nil, u_cons, upd_eq, upd_ne, argsR, x_addi, x_adds, x_subi, x_muli, x_fdiv, x_mod, x_tb, x_tn, x_eqi, x_eqs, x_eqb, x_nei, x_nes, x_lt, x_le, x_gt, x_ge, x_isn, x_isnn, x_isb, x_isnb, x_st0, x_st1, x_st2, x_st3, x_ss, x_lens, x_lent, x_r1, x_r2, x_r3, x_lr, x_rj, x_iil, x_iib, x_iss, x_itt, x_inn, e11, e12, r5, r7, optV]
          refine x_sln (pre_get (heapT_p ..) hB2) (by omega) hmk ?_
          simp [Mv.v, e_lit, e_vk, vk_some, e_bin, e_neg, e_not, e_and, e_or, e_cmp, e_cmp2, e_sub, e_slice, e_tup, e_list, e_dict0, e_dict1, e_call, e_bi, e_isinst, e_meth, es_nil, es_cons, o_none, o_some, t_not, t_and, t_or, t_cmp, t_cmp2, t_lit, t_vk, t_call, t_isinst, t_meth, x_bn, x_bt, u_nil, u_cons, upd_eq, upd_ne, argsR, x_addi, x_adds, x_subi, x_muli, x_fdiv, x_mod, x_tb, x_tn, x_eqi, x_eqs, x_eqb, x_nei, x_nes, x_lt, x_le, x_gt, x_ge, x_isn, x_isnn, x_isb, x_isnb, x_st0, x_st1, x_st2, x_st3, x_ss, x_lens, x_lent, x_r1, x_r2, x_r3, x_lr, x_rj, x_iil, x_iib, x_iss, x_itt, x_inn, x_std (heapT_d ..), r7]
          refine ⟨rfl, by omega, fun ver' => ?_⟩
          refine B_expr ?_
          have g8 : ((heapT nv2 B T ver).set B.length (.dict (dput (T.map (Ent.kv nv2)) (.tup [.int m.q, .int i']) (.bool true)) ver'))[B.length + 1]? = some (.list (T.map fun e => nv2 e.x)) := by
            rw [List.getElem?_set_ne (by omega)]; exact heapT_l ..
          have gm : ((heapT nv2 B T ver).set B.length (.dict (dput (T.map (Ent.kv nv2)) (.tup [.int m.q, .int i']) (.bool true)) ver'))[mv]? = some (.list (M.moves.map Mv.v)) := by
            rw [List.getElem?_set_ne (by have := (List.getElem?_eq_some_iff.mp hB2).1; omega)]; exact pre_get (heapT_p ..) hB2
          simp [e_lit, e_vk, vk_some, e_bin, e_neg, e_not, e_and, e_or, e_cmp, e_cmp2, e_sub, e_slice, e_tup, e_list, e_dict0, e_dict1, e_call, e_bi, e_isinst, e_meth, es_nil, es_cons, o_none, o_some, t_not, t_and, t_or, t_cmp, t_cmp2, t_lit, t_vk, t_call, t_isinst, t_meth, x_bn, x_bt, u_nil, u_cons, upd_eq, upd_ne, argsR, x_addi, x_adds, x_subi, x_muli, x_fdiv, x_mod, x_tb, x_tn, x_eqi, x_eqs, x_eqb, x_nei, x_nes, x_lt, x_le, x_gt, x_ge, x_isn, x_isnn, x_isb, x_isnb, x_st0, x_st1, x_st2, x_st3, x_ss, x_lens, x_lent, x_r1, x_r2, x_r3, x_lr, x_rj, x_iil, x_iib, x_iss, x_itt, x_inn, e11, e12, r5, r8, optV, x_ra g8]
          refine x_sln gm (by omega) hmk ?_
          simp [Mv.v, e_lit, e_vk, vk_some, e_bin, e_neg, e_not, e_and, e_or, e_cmp, e_cmp2, e_sub, e_slice, e_tup, e_list, e_dict0, e_dict1, e_call, e_bi, e_isinst, e_meth, es_nil, es_cons, o_none, o_some, t_not, t_and, t_or, t_cmp, t_cmp2, t_lit, t_vk, t_call, t_isinst, t_meth, x_bn, x_bt, u_nil, u_cons, upd_eq, upd_ne, argsR, x_addi, x_adds, x_subi, x_muli, x_fdiv, x_mod, x_tb, x_tn, x_eqi, x_eqs, x_eqb, x_nei, x_nes, x_lt, x_le, x_gt, x_ge, x_isn, x_isnn, x_isb, x_isnb, x_st0, x_st1, x_st2, x_st3, x_ss, x_lens, x_lent, x_r1, x_r2, x_r3, x_lr, x_rj, x_iil, x_iib, x_iss, x_itt, x_inn, x_app g8]
          refine ⟨by omega, B_nil2 ?_⟩
          have hh := heapT_n nv2_inj B ver ver' (z := (m.q, i')) (c.p ++ [k]) (.bool true) hnm
          refine (hI ..).mpr ⟨_, ver', mi', hh, hρ3⟩
        · intro hc'
          have hnm : ((m.q, i') : Nat × Nat) ∈ T.map (·.x) := by simpa using hc'
          exact B_nil2 ((hI ..).mpr ⟨T, ver, mi.skip hk fun z hz => by rw [hnx] at hz; injection hz with hz; subst hz; exact hnm, rfl, hρ3⟩)
  · intro ρ' H hi
    obtain ⟨T, ver, mi, rfl, hρ⟩ := (hI ..).mp hi
    exact B_nil (q _ _ _ hρ (mi.leave hf (by simp [sys2])))

theorem reads_ok {v : V} {M : Ma} {t : List Nat} (h0 : Φ 0 = some fn_need) (h1 : Φ 1 = some fn_checked) (h2 : Φ 2 = some fn_leaving) (h3 : Φ 3 = some fn_gone_on) (h6 : Φ 6 = some fn_reads)
    (hm : IsMa h v M) (ok : M.ok) (ht : t.length < SZ) (hb : M.n * (t.length + 1) < SZ)
    (qn : ∀ h', h <+: h' → (∀ p s, Path M p s → s ∈ M.ends → rdOf M p ≠ t) → Q (.bool false) h')
    (qs : ∀ h' p s, h <+: h' → Path M p s → s ∈ M.ends → rdOf M p = t → Q (.bool true) h') : Calls Φ (d + 3) 6 [v, .str t] h Q := by
  refine ⟨fn_reads, h6, rfl, ?_⟩
  have mC := calls_mono (Φ := Φ) (d + 2)
  have hz := SZ_val
  have hn2 := ok.n2
  simp only [fn_reads]
  refine B_assign ?_
  simp [e_lit, e_vk, vk_some, e_bin, e_neg, e_not, e_and, e_or, e_cmp, e_cmp2, e_sub, e_slice, e_tup, e_list, e_dict0, e_dict1, e_call, e_bi, e_isinst, e_meth, es_nil, es_cons, o_none, o_some, t_not, t_and, t_or, t_cmp, t_cmp2, t_lit, t_vk, t_call, t_isinst, t_meth, x_bn, x_bt, u_nil, u_cons, upd_eq, upd_ne, argsR, x_addi, x_adds, x_subi, x_muli, x_fdiv, x_mod, x_tb, x_tn, x_eqi, x_eqs, x_eqb, x_nei, x_nes, x_lt, x_le, x_gt, x_ge, x_isn, x_isnn, x_isb, x_isnb, x_st0, x_st1, x_st2, x_st3, x_ss, x_lens, x_lent, x_r1, x_r2, x_r3, x_lr, x_rj, x_iil, x_iib, x_iss, x_itt, x_inn]
  refine checked_ok h0 h1 hm ok fun ver => ?_
  simp only [x_bt, List.length_cons, List.length_nil, true_and]
  generalize hA : h ++ [MO.dict (finD M.ends) ver, MO.list (M.moves.map Mv.v)] = A
  have pA : h <+: A := ⟨_, hA⟩
  have gA1 : A[h.length]? = some (.dict (finD M.ends) ver) := by rw [← hA]; exact last2a ..
  have gA2 : A[h.length + 1]? = some (.list (M.moves.map Mv.v)) := by rw [← hA]; exact len2 ..
  generalize hρ2 : upds _ _ _ = ρ2
  have r1 : ρ2 1 = some (.str t) := congrFun hρ2.symm 1
  have r2 : ρ2 2 = some (.int M.n) := congrFun hρ2.symm 2
  have r3 : ρ2 3 = some (.int M.b) := congrFun hρ2.symm 3
  have r4 : ρ2 4 = some (.ref h.length) := congrFun hρ2.symm 4
  have r5 : ρ2 5 = some (.ref (h.length + 1)) := congrFun hρ2.symm 5
  clear hρ2
  refine B_name ?_
  simp [e_lit, e_vk, vk_some, e_bin, e_neg, e_not, e_and, e_or, e_cmp, e_cmp2, e_sub, e_slice, e_tup, e_list, e_dict0, e_dict1, e_call, e_bi, e_isinst, e_meth, es_nil, es_cons, o_none, o_some, t_not, t_and, t_or, t_cmp, t_cmp2, t_lit, t_vk, t_call, t_isinst, t_meth, x_bn, x_bt, u_nil, u_cons, upd_eq, upd_ne, argsR, x_addi, x_adds, x_subi, x_muli, x_fdiv, x_mod, x_tb, x_tn, x_eqi, x_eqs, x_eqb, x_nei, x_nes, x_lt, x_le, x_gt, x_ge, x_isn, x_isnn, x_isb, x_isnb, x_st0, x_st1, x_st2, x_st3, x_ss, x_lens, x_lent, x_r1, x_r2, x_r3, x_lr, x_rj, x_iil, x_iib, x_iss, x_itt, x_inn, r2, r5]
  refine leaving_ok h2 gA2 ok fun vo B pB oB => ?_
  refine B_name ?_
  simp [e_lit, e_vk, vk_some, e_bin, e_neg, e_not, e_and, e_or, e_cmp, e_cmp2, e_sub, e_slice, e_tup, e_list, e_dict0, e_dict1, e_call, e_bi, e_isinst, e_meth, es_nil, es_cons, o_none, o_some, t_not, t_and, t_or, t_cmp, t_cmp2, t_lit, t_vk, t_call, t_isinst, t_meth, x_bn, x_bt, u_nil, u_cons, upd_eq, upd_ne, argsR, x_addi, x_adds, x_subi, x_muli, x_fdiv, x_mod, x_tb, x_tn, x_eqi, x_eqs, x_eqb, x_nei, x_nes, x_lt, x_le, x_gt, x_ge, x_isn, x_isnn, x_isb, x_isnb, x_st0, x_st1, x_st2, x_st3, x_ss, x_lens, x_lent, x_r1, x_r2, x_r3, x_lr, x_rj, x_iil, x_iib, x_iss, x_itt, x_inn, r3]
  refine ⟨rfl, fun ver => ?_⟩
  refine B_name ?_
  simp [e_lit, e_vk, vk_some, e_bin, e_neg, e_not, e_and, e_or, e_cmp, e_cmp2, e_sub, e_slice, e_tup, e_list, e_dict0, e_dict1, e_call, e_bi, e_isinst, e_meth, es_nil, es_cons, o_none, o_some, t_not, t_and, t_or, t_cmp, t_cmp2, t_lit, t_vk, t_call, t_isinst, t_meth, x_bn, x_bt, u_nil, u_cons, upd_eq, upd_ne, argsR, x_addi, x_adds, x_subi, x_muli, x_fdiv, x_mod, x_tb, x_tn, x_eqi, x_eqs, x_eqb, x_nei, x_nes, x_lt, x_le, x_gt, x_ge, x_isn, x_isnn, x_isb, x_isnb, x_st0, x_st1, x_st2, x_st3, x_ss, x_lens, x_lent, x_r1, x_r2, x_r3, x_lr, x_rj, x_iil, x_iib, x_iss, x_itt, x_inn, r3]
  refine B_name ?_
  simp [e_lit, e_vk, vk_some, e_bin, e_neg, e_not, e_and, e_or, e_cmp, e_cmp2, e_sub, e_slice, e_tup, e_list, e_dict0, e_dict1, e_call, e_bi, e_isinst, e_meth, es_nil, es_cons, o_none, o_some, t_not, t_and, t_or, t_cmp, t_cmp2, t_lit, t_vk, t_call, t_isinst, t_meth, x_bn, x_bt, u_nil, u_cons, upd_eq, upd_ne, argsR, x_addi, x_adds, x_subi, x_muli, x_fdiv, x_mod, x_tb, x_tn, x_eqi, x_eqs, x_eqb, x_nei, x_nes, x_lt, x_le, x_gt, x_ge, x_isn, x_isnn, x_isb, x_isnb, x_st0, x_st1, x_st2, x_st3, x_ss, x_lens, x_lent, x_r1, x_r2, x_r3, x_lr, x_rj, x_iil, x_iib, x_iss, x_itt, x_inn]
  have hp := pA.trans pB
  have gA1 := pre_get pB gA1
  have gA2 := pre_get pB gA2
  obtain ⟨I, hI⟩ : ∃ I : Nat → Rho → Tw.H → Prop, ∀ i ρ H, I i ρ H ↔ (∃ T a ver, i = M.n * (t.length + 1) - a ∧ MetO (sys2 M t) T a ∧ H = heapT nv2 B T ver ∧
    ρ 1 = some (.str t) ∧ ρ 4 = some (.ref h.length) ∧ ρ 5 = some (.ref (h.length + 1)) ∧ ρ 6 = some vo ∧ ρ 7 = some (.ref B.length) ∧ ρ 8 = some (.ref (B.length + 1)) ∧ ρ 9 = some (.int a)) := ⟨_, fun _ _ _ => Iff.rfl⟩
  refine B_while mC I _ ((hI ..).mpr ⟨[⟨(M.b, 0), [], .bool true⟩], 0, ver, rfl, MetO.start (s := sys2 M t) _, rfl, ?_, ?_, ?_, ?_, ?_, ?_, ?_⟩) ?_
  · simp [e_lit, e_vk, vk_some, e_bin, e_neg, e_not, e_and, e_or, e_cmp, e_cmp2, e_sub, e_slice, e_tup, e_list, e_dict0, e_dict1, e_call, e_bi, e_isinst, e_meth, es_nil, es_cons, o_none, o_some, t_not, t_and, t_or, t_cmp, t_cmp2, t_lit, t_vk, t_call, t_isinst, t_meth, x_bn, x_bt, u_nil, u_cons, upd_eq, upd_ne, argsR, x_addi, x_adds, x_subi, x_muli, x_fdiv, x_mod, x_tb, x_tn, x_eqi, x_eqs, x_eqb, x_nei, x_nes, x_lt, x_le, x_gt, x_ge, x_isn, x_isnn, x_isb, x_isnb, x_st0, x_st1, x_st2, x_st3, x_ss, x_lens, x_lent, x_r1, x_r2, x_r3, x_lr, x_rj, x_iil, x_iib, x_iss, x_itt, x_inn, r1]
  · simp [e_lit, e_vk, vk_some, e_bin, e_neg, e_not, e_and, e_or, e_cmp, e_cmp2, e_sub, e_slice, e_tup, e_list, e_dict0, e_dict1, e_call, e_bi, e_isinst, e_meth, es_nil, es_cons, o_none, o_some, t_not, t_and, t_or, t_cmp, t_cmp2, t_lit, t_vk, t_call, t_isinst, t_meth, x_bn, x_bt, u_nil, u_cons, upd_eq, upd_ne, argsR, x_addi, x_adds, x_subi, x_muli, x_fdiv, x_mod, x_tb, x_tn, x_eqi, x_eqs, x_eqb, x_nei, x_nes, x_lt, x_le, x_gt, x_ge, x_isn, x_isnn, x_isb, x_isnb, x_st0, x_st1, x_st2, x_st3, x_ss, x_lens, x_lent, x_r1, x_r2, x_r3, x_lr, x_rj, x_iil, x_iib, x_iss, x_itt, x_inn, r4]
  · simp [e_lit, e_vk, vk_some, e_bin, e_neg, e_not, e_and, e_or, e_cmp, e_cmp2, e_sub, e_slice, e_tup, e_list, e_dict0, e_dict1, e_call, e_bi, e_isinst, e_meth, es_nil, es_cons, o_none, o_some, t_not, t_and, t_or, t_cmp, t_cmp2, t_lit, t_vk, t_call, t_isinst, t_meth, x_bn, x_bt, u_nil, u_cons, upd_eq, upd_ne, argsR, x_addi, x_adds, x_subi, x_muli, x_fdiv, x_mod, x_tb, x_tn, x_eqi, x_eqs, x_eqb, x_nei, x_nes, x_lt, x_le, x_gt, x_ge, x_isn, x_isnn, x_isb, x_isnb, x_st0, x_st1, x_st2, x_st3, x_ss, x_lens, x_lent, x_r1, x_r2, x_r3, x_lr, x_rj, x_iil, x_iib, x_iss, x_itt, x_inn, r5]
  · simp [e_lit, e_vk, vk_some, e_bin, e_neg, e_not, e_and, e_or, e_cmp, e_cmp2, e_sub, e_slice, e_tup, e_list, e_dict0, e_dict1, e_call, e_bi, e_isinst, e_meth, es_nil, es_cons, o_none, o_some, t_not, t_and, t_or, t_cmp, t_cmp2, t_lit, t_vk, t_call, t_isinst, t_meth, x_bn, x_bt, u_nil, u_cons, upd_eq, upd_ne, argsR, x_addi, x_adds, x_subi, x_muli, x_fdiv, x_mod, x_tb, x_tn, x_eqi, x_eqs, x_eqb, x_nei, x_nes, x_lt, x_le, x_gt, x_ge, x_isn, x_isnn, x_isb, x_isnb, x_st0, x_st1, x_st2, x_st3, x_ss, x_lens, x_lent, x_r1, x_r2, x_r3, x_lr, x_rj, x_iil, x_iib, x_iss, x_itt, x_inn]
  · simp [e_lit, e_vk, vk_some, e_bin, e_neg, e_not, e_and, e_or, e_cmp, e_cmp2, e_sub, e_slice, e_tup, e_list, e_dict0, e_dict1, e_call, e_bi, e_isinst, e_meth, es_nil, es_cons, o_none, o_some, t_not, t_and, t_or, t_cmp, t_cmp2, t_lit, t_vk, t_call, t_isinst, t_meth, x_bn, x_bt, u_nil, u_cons, upd_eq, upd_ne, argsR, x_addi, x_adds, x_subi, x_muli, x_fdiv, x_mod, x_tb, x_tn, x_eqi, x_eqs, x_eqb, x_nei, x_nes, x_lt, x_le, x_gt, x_ge, x_isn, x_isnn, x_isb, x_isnb, x_st0, x_st1, x_st2, x_st3, x_ss, x_lens, x_lent, x_r1, x_r2, x_r3, x_lr, x_rj, x_iil, x_iib, x_iss, x_itt, x_inn]
  · simp [e_lit, e_vk, vk_some, e_bin, e_neg, e_not, e_and, e_or, e_cmp, e_cmp2, e_sub, e_slice, e_tup, e_list, e_dict0, e_dict1, e_call, e_bi, e_isinst, e_meth, es_nil, es_cons, o_none, o_some, t_not, t_and, t_or, t_cmp, t_cmp2, t_lit, t_vk, t_call, t_isinst, t_meth, x_bn, x_bt, u_nil, u_cons, upd_eq, upd_ne, argsR, x_addi, x_adds, x_subi, x_muli, x_fdiv, x_mod, x_tb, x_tn, x_eqi, x_eqs, x_eqb, x_nei, x_nes, x_lt, x_le, x_gt, x_ge, x_isn, x_isnn, x_isb, x_isnb, x_st0, x_st1, x_st2, x_st3, x_ss, x_lens, x_lent, x_r1, x_r2, x_r3, x_lr, x_rj, x_iil, x_iib, x_iss, x_itt, x_inn]
  · simp [e_lit, e_vk, vk_some, e_bin, e_neg, e_not, e_and, e_or, e_cmp, e_cmp2, e_sub, e_slice, e_tup, e_list, e_dict0, e_dict1, e_call, e_bi, e_isinst, e_meth, es_nil, es_cons, o_none, o_some, t_not, t_and, t_or, t_cmp, t_cmp2, t_lit, t_vk, t_call, t_isinst, t_meth, x_bn, x_bt, u_nil, u_cons, upd_eq, upd_ne, argsR, x_addi, x_adds, x_subi, x_muli, x_fdiv, x_mod, x_tb, x_tn, x_eqi, x_eqs, x_eqb, x_nei, x_nes, x_lt, x_le, x_gt, x_ge, x_isn, x_isnn, x_isb, x_isnb, x_st0, x_st1, x_st2, x_st3, x_ss, x_lens, x_lent, x_r1, x_r2, x_r3, x_lr, x_rj, x_iil, x_iib, x_iss, x_itt, x_inn]
  clear r1 r2 r3 r4 r5
  intro n ρ H hi
  obtain ⟨T, a, ver, rfl, mt, rfl, r1, r4, r5, r6, r7, r8, r9⟩ := (hI ..).mp hi
  have hbd := mt.bound (box2 M.n (t.length + 1)) (fun p x r => by
    obtain ⟨a1, a2, _⟩ := run_path2 ok r
    exact box2_mem (path_lt ok a1) (by omega))
  rw [box2_len] at hbd
  simp [e_lit, e_vk, vk_some, e_bin, e_neg, e_not, e_and, e_or, e_cmp, e_cmp2, e_sub, e_slice, e_tup, e_list, e_dict0, e_dict1, e_call, e_bi, e_isinst, e_meth, es_nil, es_cons, o_none, o_some, t_not, t_and, t_or, t_cmp, t_cmp2, t_lit, t_vk, t_call, t_isinst, t_meth, x_bn, x_bt, u_nil, u_cons, upd_eq, upd_ne, argsR, x_addi, x_adds, x_subi, x_muli, x_fdiv, x_mod, x_tb, x_tn, x_eqi, x_eqs, x_eqb, x_nei, x_nes, x_lt, x_le, x_gt, x_ge, x_isn, x_isnn, x_isb, x_isnb, x_st0, x_st1, x_st2, x_st3, x_ss, x_lens, x_lent, x_r1, x_r2, x_r3, x_lr, x_rj, x_iil, x_iib, x_iss, x_itt, x_inn, r8, r9, x_lenl (heapT_l ..)]
  by_cases hlt : a < T.length
  · simp only [decide_eq_true hlt]
    obtain ⟨c, hc⟩ : ∃ c, T[a]? = some c := ⟨_, List.getElem?_eq_getElem hlt⟩
    refine B_name ?_
    simp [e_lit, e_vk, vk_some, e_bin, e_neg, e_not, e_and, e_or, e_cmp, e_cmp2, e_sub, e_slice, e_tup, e_list, e_dict0, e_dict1, e_call, e_bi, e_isinst, e_meth, es_nil, es_cons, o_none, o_some, t_not, t_and, t_or, t_cmp, t_cmp2, t_lit, t_vk, t_call, t_isinst, t_meth, x_bn, x_bt, u_nil, u_cons, upd_eq, upd_ne, argsR, x_addi, x_adds, x_subi, x_muli, x_fdiv, x_mod, x_tb, x_tn, x_eqi, x_eqs, x_eqb, x_nei, x_nes, x_lt, x_le, x_gt, x_ge, x_isn, x_isnn, x_isb, x_isnb, x_st0, x_st1, x_st2, x_st3, x_ss, x_lens, x_lent, x_r1, x_r2, x_r3, x_lr, x_rj, x_iil, x_iib, x_iss, x_itt, x_inn, r8, r9]
    refine x_sln (heapT_l ..) (by omega) (v := nv2 c.x) (by simp [hc]) ?_
    refine B_name ?_
    simp [e_lit, e_vk, vk_some, e_bin, e_neg, e_not, e_and, e_or, e_cmp, e_cmp2, e_sub, e_slice, e_tup, e_list, e_dict0, e_dict1, e_call, e_bi, e_isinst, e_meth, es_nil, es_cons, o_none, o_some, t_not, t_and, t_or, t_cmp, t_cmp2, t_lit, t_vk, t_call, t_isinst, t_meth, x_bn, x_bt, u_nil, u_cons, upd_eq, upd_ne, argsR, x_addi, x_adds, x_subi, x_muli, x_fdiv, x_mod, x_tb, x_tn, x_eqi, x_eqs, x_eqb, x_nei, x_nes, x_lt, x_le, x_gt, x_ge, x_isn, x_isnn, x_isb, x_isnb, x_st0, x_st1, x_st2, x_st3, x_ss, x_lens, x_lent, x_r1, x_r2, x_r3, x_lr, x_rj, x_iil, x_iib, x_iss, x_itt, x_inn, r9]
    generalize hρ2 : upd (upd ρ 10 _) 9 _ = ρ2
    have r1 : ρ2 1 = some (.str t) := (congrFun hρ2.symm 1).trans r1
    have r4 : ρ2 4 = some (.ref h.length) := (congrFun hρ2.symm 4).trans r4
    have r5 : ρ2 5 = some (.ref (h.length + 1)) := (congrFun hρ2.symm 5).trans r5
    have r6 : ρ2 6 = some vo := (congrFun hρ2.symm 6).trans r6
    have r7 : ρ2 7 = some (.ref B.length) := (congrFun hρ2.symm 7).trans r7
    have r8 : ρ2 8 = some (.ref (B.length + 1)) := (congrFun hρ2.symm 8).trans r8
    have r9 : ρ2 9 = some (.int (a + 1 : Nat)) := congrFun hρ2.symm 9
    have r10 : ρ2 10 = some (nv2 c.x) := congrFun hρ2.symm 10
    clear hρ2
    have hfm : decide (V.int (c.x.1 : Int) ∈ (finD M.ends).map (·.1)) = decide (c.x.1 ∈ M.ends) := decide_eq_decide.mpr fin_mem
    refine B_if mC (h' := heapT nv2 B T ver) (decide (c.x.1 ∈ M.ends ∧ c.x.2 = t.length)) ?_ ?_ ?_
    · simp [e_lit, e_vk, vk_some, e_bin, e_neg, e_not, e_and, e_or, e_cmp, e_cmp2, e_sub, e_slice, e_tup, e_list, e_dict0, e_dict1, e_call, e_bi, e_isinst, e_meth, es_nil, es_cons, o_none, o_some, t_not, t_and, t_or, t_cmp, t_cmp2, t_lit, t_vk, t_call, t_isinst, t_meth, x_bn, x_bt, u_nil, u_cons, upd_eq, upd_ne, argsR, x_addi, x_adds, x_subi, x_muli, x_fdiv, x_mod, x_tb, x_tn, x_eqi, x_eqs, x_eqb, x_nei, x_nes, x_lt, x_le, x_gt, x_ge, x_isn, x_isnn, x_isb, x_isnb, x_st0, x_st1, x_st2, x_st3, x_ss, x_lens, x_lent, x_r1, x_r2, x_r3, x_lr, x_rj, x_iil, x_iib, x_iss, x_itt, x_inn, r10, nv2, r4, x_ind (pre_get (heapT_p ..) gA1), r1, nat_eq]
      refine ⟨rfl, ?_⟩
      rw [hfm]
      by_cases e1 : c.x.1 ∈ M.ends
      · simp [e1]
      · simp [e1]
    · intro hf
      have hf := of_decide_eq_true hf
      refine B_ret ?_
      simp [e_lit, e_vk, vk_some, e_bin, e_neg, e_not, e_and, e_or, e_cmp, e_cmp2, e_sub, e_slice, e_tup, e_list, e_dict0, e_dict1, e_call, e_bi, e_isinst, e_meth, es_nil, es_cons, o_none, o_some, t_not, t_and, t_or, t_cmp, t_cmp2, t_lit, t_vk, t_call, t_isinst, t_meth, x_bn, x_bt, u_nil, u_cons, upd_eq, upd_ne, argsR, x_addi, x_adds, x_subi, x_muli, x_fdiv, x_mod, x_tb, x_tn, x_eqi, x_eqs, x_eqb, x_nei, x_nes, x_lt, x_le, x_gt, x_ge, x_isn, x_isnn, x_isb, x_isnb, x_st0, x_st1, x_st2, x_st3, x_ss, x_lens, x_lent, x_r1, x_r2, x_r3, x_lr, x_rj, x_iil, x_iib, x_iss, x_itt, x_inn]
      obtain ⟨a1, a2, a3⟩ := run_path2 ok (mt.runs c (List.mem_of_getElem? hc))
      exact qs _ c.p c.x.1 (hp.trans (heapT_p ..)) a1 hf.1 (by rw [a3, hf.2, List.take_length])
    · intro hf
      have hf := of_decide_eq_false hf
      refine B_nil ?_
      refine reads_turn h3 ok ht hb mt gA2 oB hc hf r1 r5 r6 r7 r8 r10 fun ρ' T' ver' hρ mt' => ?_
      refine ⟨_, ?_, (hI ..).mpr ⟨T', a + 1, ver', rfl, mt', rfl, ?_, ?_, ?_, ?_, ?_, ?_, ?_⟩⟩
      · omega
      · rw [hρ _ (by decide)]; exact r1
      · rw [hρ _ (by decide)]; exact r4
      · rw [hρ _ (by decide)]; exact r5
      · rw [hρ _ (by decide)]; exact r6
      · rw [hρ _ (by decide)]; exact r7
      · rw [hρ _ (by decide)]; exact r8
      · rw [hρ _ (by decide)]; exact r9
  · simp only [decide_eq_false hlt]
    refine B_ret ?_
    simp [e_lit, e_vk, vk_some, e_bin, e_neg, e_not, e_and, e_or, e_cmp, e_cmp2, e_sub, e_slice, e_tup, e_list, e_dict0, e_dict1, e_call, e_bi, e_isinst, e_meth, es_nil, es_cons, o_none, o_some, t_not, t_and, t_or, t_cmp, t_cmp2, t_lit, t_vk, t_call, t_isinst, t_meth, x_bn, x_bt, u_nil, u_cons, upd_eq, upd_ne, argsR, x_addi, x_adds, x_subi, x_muli, x_fdiv, x_mod, x_tb, x_tn, x_eqi, x_eqs, x_eqb, x_nei, x_nes, x_lt, x_le, x_gt, x_ge, x_isn, x_isnn, x_isb, x_isnb, x_st0, x_st1, x_st2, x_st3, x_ss, x_lens, x_lent, x_r1, x_r2, x_r3, x_lr, x_rj, x_iil, x_iib, x_iss, x_itt, x_inn, ov_ret]
    refine qn _ (hp.trans (heapT_p ..)) fun p s hp' hs hr => ?_
    have := path_run2 (t := t) ok hp' (by rw [hr]; exact List.prefix_refl _)
    exact mt.none (by omega) this ⟨hs, by rw [hr]⟩
end
end Tw
end

section
namespace Tw

section
variable {Φ : Nat → Option Fn} {d : Nat} {h : H} {Q : V → H → Prop}

theorem snaps_nat (h : H) (l : List Nat) : Snaps h (l.map natV) (l.map natD) := snaps_map (fun _ => .int _) l
theorem natD_inj {a b : Nat} (e : natD a = natD b) : a = b := by injection e with e; omega
theorem natD_mem {s : Nat} {es : List Nat} : natD s ∈ es.map natD ↔ s ∈ es := by
  rw [List.mem_map]
  exact ⟨fun ⟨x, hx, e⟩ => natD_inj e ▸ hx, fun hx => ⟨s, hx, rfl⟩⟩
theorem natD_ok (l : List Nat) : ∀ d ∈ l.map natD, D.ok 9 d = true := by
  intro d hd
  obtain ⟨x, _, rfl⟩ := List.mem_map.mp hd
  rfl
/-- is a whole number in a list of them -/
theorem x_inN {n s : Nat} {es : List Nat} {P : Bool → Prop} (h1 : h[n]? = some (.list (es.map natV))) (x : P (decide (s ∈ es))) : CmpW .isIn (.int s) (.ref n) h P := by
  rw [x_inl h1]
  exact ⟨natD s, es.map natD, .int _, snaps_nat h es, rfl, natD_ok es, by rw [decide_eq_decide.mpr natD_mem]; exact x⟩
/-- is a list of whole numbers empty -/
theorem x_nil {n m : Nat} {es : List Nat} {P : Bool → Prop} (h1 : h[n]? = some (.list (es.map natV))) (h2 : h[m]? = some (.list [])) (x : P (decide (es = []))) : CmpW .eq (.ref n) (.ref m) h P := by
  refine x_eqd (d₁ := .list (es.map natD)) (d₂ := .list []) (.list h1 (snaps_nat h es)) (.list h2 .nil) (okD_nat 7 es) rfl ?_
  rw [show decide (D.list (es.map natD) = D.list []) = decide (es = []) from decide_eq_decide.mpr ⟨fun e => by injection e with e; exact List.map_eq_nil_iff.mp e, fun e => by rw [e]; rfl⟩]
  exact x

/-! the texts of a way -/
theorem isStrs_map {α : Type} (f : α → List Nat) : ∀ l : List α, isStrs (l.map fun x => V.str (f x)) = some (l.map f)
  | [] => rfl
  | x :: r => by show (isStrs (r.map fun x => V.str (f x))).map _ = _; rw [isStrs_map f r]; rfl
theorem joinS_flat : ∀ l : List (List Nat), joinS [] l = l.flatten
  | [] => rfl
  | [x] => by simp [joinS]
  | x :: y :: r => by
    show x ++ [] ++ joinS [] (y :: r) = _
    rw [joinS_flat (y :: r)]; simp
/-! is it a way -/
end
end Tw
end

section
namespace Tw

section
variable {Φ : Nat → Option Fn} {d : Nat} {h : H} {Q : V → H → Prop}

theorem get_lt {h : H} {n : Nat} {o : MO} (x : h[n]? = some o) : n < h.length := (List.getElem?_eq_some_iff.mp x).1

/-- the loop that makes ends, with the last state if none else -/
theorem mach_ok3 {a b : Nat} {c : Int} {k : Nat} {cs : List Nat} {ys : List Int} {sv : V} (h27 : Φ 27 = some (fnMach a b)) (ha : 1 ≤ a) (ha2 : a ≤ 5) (hb : 1 ≤ b) (hb2 : b < 1000) (hk : h[k]? = some (.list (ys.map V.int))) (hyl : ys.length ≤ 14) (hS : SgAt h sv cs)
    (q : ∀ (v : V) (h' : H) (M : Ma), h <+: h' → IsMa h' v M → M.ok → M.n ≤ a → M.ends.length ≤ a → M.moves.length ≤ 14 → (∀ m ∈ M.moves, m.over cs) → Q v h') : Calls Φ (d + 1) 27 [.int c, .ref k, sv] h Q := by
  refine ⟨fnMach a b, h27, rfl, ?_⟩
  have mC := calls_mono (Φ := Φ) d
  have hz := SZ_val
  simp only [fnMach]
  obtain ⟨k1, e1, l1⟩ := fmod_nat c (b := a) (by omega)
  have a0 : ¬ a = 0 := by omega
  have b0 : ¬ b = 0 := by omega
  have b1 : b < 1073741824 := by omega
  have a1 : a < 1073741824 := by omega
  refine B_name ?_
  simp [e_lit, e_vk, vk_some, e_bin, e_neg, e_not, e_and, e_or, e_cmp, e_cmp2, e_sub, e_slice, e_tup, e_list, e_dict0, e_dict1, e_call, e_bi, e_isinst, e_meth, es_nil, es_cons, o_none, o_some, t_not, t_and, t_or, t_cmp, t_cmp2, t_lit, t_vk, t_call, t_isinst, t_meth, x_bn, x_bt, u_nil, u_cons, upd_eq, upd_ne, argsR, x_addi, x_adds, x_subi, x_muli, x_fdiv, x_mod, x_tb, x_tn, x_eqi, x_eqs, x_eqb, x_nei, x_nes, x_lt, x_le, x_gt, x_ge, x_isn, x_isnn, x_isb, x_isnb, x_st0, x_st1, x_st2, x_st3, x_ss, x_lens, x_lent, x_r1, x_r2, x_r3, x_lr, x_rj, x_iil, x_iib, x_iss, x_itt, x_inn, e1, a0]
  have en : (1 + (k1 : Int)) = ((k1 + 1 : Nat) : Int) := by omega
  rw [en]
  generalize hn : k1 + 1 = n
  have hn1 : 1 ≤ n := by omega
  have hn2 : n ≤ a := by omega
  refine B_name ?_
  simp [e_lit, e_vk, vk_some, e_bin, e_neg, e_not, e_and, e_or, e_cmp, e_cmp2, e_sub, e_slice, e_tup, e_list, e_dict0, e_dict1, e_call, e_bi, e_isinst, e_meth, es_nil, es_cons, o_none, o_some, t_not, t_and, t_or, t_cmp, t_cmp2, t_lit, t_vk, t_call, t_isinst, t_meth, x_bn, x_bt, u_nil, u_cons, upd_eq, upd_ne, argsR, x_addi, x_adds, x_subi, x_muli, x_fdiv, x_mod, x_tb, x_tn, x_eqi, x_eqs, x_eqb, x_nei, x_nes, x_lt, x_le, x_gt, x_ge, x_isn, x_isnn, x_isb, x_isnb, x_st0, x_st1, x_st2, x_st3, x_ss, x_lens, x_lent, x_r1, x_r2, x_r3, x_lr, x_rj, x_iil, x_iib, x_iss, x_itt, x_inn]
  refine B_name ?_
  simp [e_lit, e_vk, vk_some, e_bin, e_neg, e_not, e_and, e_or, e_cmp, e_cmp2, e_sub, e_slice, e_tup, e_list, e_dict0, e_dict1, e_call, e_bi, e_isinst, e_meth, es_nil, es_cons, o_none, o_some, t_not, t_and, t_or, t_cmp, t_cmp2, t_lit, t_vk, t_call, t_isinst, t_meth, x_bn, x_bt, u_nil, u_cons, upd_eq, upd_ne, argsR, x_addi, x_adds, x_subi, x_muli, x_fdiv, x_mod, x_tb, x_tn, x_eqi, x_eqs, x_eqb, x_nei, x_nes, x_lt, x_le, x_gt, x_ge, x_isn, x_isnn, x_isb, x_isnb, x_st0, x_st1, x_st2, x_st3, x_ss, x_lens, x_lent, x_r1, x_r2, x_r3, x_lr, x_rj, x_iil, x_iib, x_iss, x_itt, x_inn, b0, b1]
  refine ⟨mulOk_r _ (by decide), ?_⟩
  generalize ((c * 48271).fmod 2147483647).fdiv b = bits0
  obtain ⟨I, hI⟩ : ∃ I : Nat → Rho → Tw.H → Prop, ∀ i ρ H, I i ρ H ↔ (∃ (es : List Nat) (bits : Int), h <+: H ∧ H[h.length]? = some (.list (es.map natV)) ∧ (∀ e ∈ es, e < n) ∧ es.length ≤ i ∧
    ρ 0 = some (.int c) ∧ ρ 1 = some (.ref k) ∧ ρ 2 = some sv ∧ ρ 3 = some (.int n) ∧ ρ 4 = some (.ref h.length) ∧ ρ 5 = some (.int bits)) := ⟨_, fun _ _ _ => Iff.rfl⟩
  refine B_for_rng mC (x := 0) (y := (n : Int)) (z := 1) (I := I) ?_ ?_ ?_
  · simp [e_lit, e_vk, vk_some, e_bin, e_neg, e_not, e_and, e_or, e_cmp, e_cmp2, e_sub, e_slice, e_tup, e_list, e_dict0, e_dict1, e_call, e_bi, e_isinst, e_meth, es_nil, es_cons, o_none, o_some, t_not, t_and, t_or, t_cmp, t_cmp2, t_lit, t_vk, t_call, t_isinst, t_meth, x_bn, x_bt, u_nil, u_cons, upd_eq, upd_ne, argsR, x_addi, x_adds, x_subi, x_muli, x_fdiv, x_mod, x_tb, x_tn, x_eqi, x_eqs, x_eqb, x_nei, x_nes, x_lt, x_le, x_gt, x_ge, x_isn, x_isnn, x_isb, x_isnb, x_st0, x_st1, x_st2, x_st3, x_ss, x_lens, x_lent, x_r1, x_r2, x_r3, x_lr, x_rj, x_iil, x_iib, x_iss, x_itt, x_inn]
    exact ⟨small_nat (by omega), (hI ..).mpr ⟨[], bits0, List.prefix_append _ _, get_last _ _, by simp, by simp, by simp [e_lit, e_vk, vk_some, e_bin, e_neg, e_not, e_and, e_or, e_cmp, e_cmp2, e_sub, e_slice, e_tup, e_list, e_dict0, e_dict1, e_call, e_bi, e_isinst, e_meth, es_nil, es_cons, o_none, o_some, t_not, t_and, t_or, t_cmp, t_cmp2, t_lit, t_vk, t_call, t_isinst, t_meth, x_bn, x_bt, u_nil, u_cons, upd_eq, upd_ne, argsR, x_addi, x_adds, x_subi, x_muli, x_fdiv, x_mod, x_tb, x_tn, x_eqi, x_eqs, x_eqb, x_nei, x_nes, x_lt, x_le, x_gt, x_ge, x_isn, x_isnn, x_isb, x_isnb, x_st0, x_st1, x_st2, x_st3, x_ss, x_lens, x_lent, x_r1, x_r2, x_r3, x_lr, x_rj, x_iil, x_iib, x_iss, x_itt, x_inn], by simp [e_lit, e_vk, vk_some, e_bin, e_neg, e_not, e_and, e_or, e_cmp, e_cmp2, e_sub, e_slice, e_tup, e_list, e_dict0, e_dict1, e_call, e_bi, e_isinst, e_meth, es_nil, es_cons, o_none, o_some, t_not, t_and, t_or, t_cmp, t_cmp2, t_lit, t_vk, t_call, t_isinst, t_meth, x_bn, x_bt, u_nil, u_cons, upd_eq, upd_ne, argsR, x_addi, x_adds, x_subi, x_muli, x_fdiv, x_mod, x_tb, x_tn, x_eqi, x_eqs, x_eqb, x_nei, x_nes, x_lt, x_le, x_gt, x_ge, x_isn, x_isnn, x_isb, x_isnb, x_st0, x_st1, x_st2, x_st3, x_ss, x_lens, x_lent, x_r1, x_r2, x_r3, x_lr, x_rj, x_iil, x_iib, x_iss, x_itt, x_inn], by simp [e_lit, e_vk, vk_some, e_bin, e_neg, e_not, e_and, e_or, e_cmp, e_cmp2, e_sub, e_slice, e_tup, e_list, e_dict0, e_dict1, e_call, e_bi, e_isinst, e_meth, es_nil, es_cons, o_none, o_some, t_not, t_and, t_or, t_cmp, t_cmp2, t_lit, t_vk, t_call, t_isinst, t_meth, x_bn, x_bt, u_nil, u_cons, upd_eq, upd_ne, argsR, x_addi, x_adds, x_subi, x_muli, x_fdiv, x_mod, x_tb, x_tn, x_eqi, x_eqs, x_eqb, x_nei, x_nes, x_lt, x_le, x_gt, x_ge, x_isn, x_isnn, x_isb, x_isnb, x_st0, x_st1, x_st2, x_st3, x_ss, x_lens, x_lent, x_r1, x_r2, x_r3, x_lr, x_rj, x_iil, x_iib, x_iss, x_itt, x_inn], by simp [e_lit, e_vk, vk_some, e_bin, e_neg, e_not, e_and, e_or, e_cmp, e_cmp2, e_sub, e_slice, e_tup, e_list, e_dict0, e_dict1, e_call, e_bi, e_isinst, e_meth, es_nil, es_cons, o_none, o_some, t_not, t_and, t_or, t_cmp, t_cmp2, t_lit, t_vk, t_call, t_isinst, t_meth, x_bn, x_bt, u_nil, u_cons, upd_eq, upd_ne, argsR, x_addi, x_adds, x_subi, x_muli, x_fdiv, x_mod, x_tb, x_tn, x_eqi, x_eqs, x_eqb, x_nei, x_nes, x_lt, x_le, x_gt, x_ge, x_isn, x_isnn, x_isb, x_isnb, x_st0, x_st1, x_st2, x_st3, x_ss, x_lens, x_lent, x_r1, x_r2, x_r3, x_lr, x_rj, x_iil, x_iib, x_iss, x_itt, x_inn], by simp [e_lit, e_vk, vk_some, e_bin, e_neg, e_not, e_and, e_or, e_cmp, e_cmp2, e_sub, e_slice, e_tup, e_list, e_dict0, e_dict1, e_call, e_bi, e_isinst, e_meth, es_nil, es_cons, o_none, o_some, t_not, t_and, t_or, t_cmp, t_cmp2, t_lit, t_vk, t_call, t_isinst, t_meth, x_bn, x_bt, u_nil, u_cons, upd_eq, upd_ne, argsR, x_addi, x_adds, x_subi, x_muli, x_fdiv, x_mod, x_tb, x_tn, x_eqi, x_eqs, x_eqb, x_nei, x_nes, x_lt, x_le, x_gt, x_ge, x_isn, x_isnn, x_isb, x_isnb, x_st0, x_st1, x_st2, x_st3, x_ss, x_lens, x_lent, x_r1, x_r2, x_r3, x_lr, x_rj, x_iil, x_iib, x_iss, x_itt, x_inn], by simp [e_lit, e_vk, vk_some, e_bin, e_neg, e_not, e_and, e_or, e_cmp, e_cmp2, e_sub, e_slice, e_tup, e_list, e_dict0, e_dict1, e_call, e_bi, e_isinst, e_meth, es_nil, es_cons, o_none, o_some, t_not, t_and, t_or, t_cmp, t_cmp2, t_lit, t_vk, t_call, t_isinst, t_meth, x_bn, x_bt, u_nil, u_cons, upd_eq, upd_ne, argsR, x_addi, x_adds, x_subi, x_muli, x_fdiv, x_mod, x_tb, x_tn, x_eqi, x_eqs, x_eqb, x_nei, x_nes, x_lt, x_le, x_gt, x_ge, x_isn, x_isnn, x_isb, x_isnb, x_st0, x_st1, x_st2, x_st3, x_ss, x_lens, x_lent, x_r1, x_r2, x_r3, x_lr, x_rj, x_iil, x_iib, x_iss, x_itt, x_inn]⟩⟩
  · intro i v ρ H hv hi
    obtain ⟨hin, rfl⟩ := rangeV_get hv
    obtain ⟨es, bits, hp, hL, hes, hel, r0, r1, r2, r3, r4, r5⟩ := (hI ..).mp hi
    rw [x_bn]
    refine B_ite ?_
    -- behind the test
    have fin : ∀ (b : Bool) (H' : Tw.H), h <+: H' → H'[h.length]? = some (.list (es.map natV)) → (match b with
        | true => wpB (Calls Φ d) [.expr (.meth .append (.var 4) [(.var 6)])] (upd ρ 6 (.int i)) H' (thenB (Calls Φ d) [.assign (.name 5) (.bin .fdiv (.var 5) (.lit (.int 3)))] fun o ρ' h' => match o with | .next => I (i + 1) ρ' h' | .ret w => Q w h')
        | false => wpB (Calls Φ d) [] (upd ρ 6 (.int i)) H' (thenB (Calls Φ d) [.assign (.name 5) (.bin .fdiv (.var 5) (.lit (.int 3)))] fun o ρ' h' => match o with | .next => I (i + 1) ρ' h' | .ret w => Q w h')) := by
      intro b H' hp' hL'
      cases b with
      | true =>
        refine B_expr ?_
        simp [e_lit, e_vk, vk_some, e_bin, e_neg, e_not, e_and, e_or, e_cmp, e_cmp2, e_sub, e_slice, e_tup, e_list, e_dict0, e_dict1, e_call, e_bi, e_isinst, e_meth, es_nil, es_cons, o_none, o_some, t_not, t_and, t_or, t_cmp, t_cmp2, t_lit, t_vk, t_call, t_isinst, t_meth, x_bn, x_bt, u_nil, u_cons, upd_eq, upd_ne, argsR, x_addi, x_adds, x_subi, x_muli, x_fdiv, x_mod, x_tb, x_tn, x_eqi, x_eqs, x_eqb, x_nei, x_nes, x_lt, x_le, x_gt, x_ge, x_isn, x_isnn, x_isb, x_isnb, x_st0, x_st1, x_st2, x_st3, x_ss, x_lens, x_lent, x_r1, x_r2, x_r3, x_lr, x_rj, x_iil, x_iib, x_iss, x_itt, x_inn, r4, x_ra hL', x_app hL']
        refine ⟨by omega, B_nil ?_⟩
        rw [th_next]
        refine B_name ?_
        simp [e_lit, e_vk, vk_some, e_bin, e_neg, e_not, e_and, e_or, e_cmp, e_cmp2, e_sub, e_slice, e_tup, e_list, e_dict0, e_dict1, e_call, e_bi, e_isinst, e_meth, es_nil, es_cons, o_none, o_some, t_not, t_and, t_or, t_cmp, t_cmp2, t_lit, t_vk, t_call, t_isinst, t_meth, x_bn, x_bt, u_nil, u_cons, upd_eq, upd_ne, argsR, x_addi, x_adds, x_subi, x_muli, x_fdiv, x_mod, x_tb, x_tn, x_eqi, x_eqs, x_eqb, x_nei, x_nes, x_lt, x_le, x_gt, x_ge, x_isn, x_isnn, x_isb, x_isnb, x_st0, x_st1, x_st2, x_st3, x_ss, x_lens, x_lent, x_r1, x_r2, x_r3, x_lr, x_rj, x_iil, x_iib, x_iss, x_itt, x_inn, r5]
        refine B_nil ((hI ..).mpr ⟨es ++ [i], bits.fdiv 3, pre_set hp' (Nat.le_refl _) _, by rw [List.getElem?_set_self (get_lt hL')]; simp [natV], ?_, by simp; omega, by simp [e_lit, e_vk, vk_some, e_bin, e_neg, e_not, e_and, e_or, e_cmp, e_cmp2, e_sub, e_slice, e_tup, e_list, e_dict0, e_dict1, e_call, e_bi, e_isinst, e_meth, es_nil, es_cons, o_none, o_some, t_not, t_and, t_or, t_cmp, t_cmp2, t_lit, t_vk, t_call, t_isinst, t_meth, x_bn, x_bt, u_nil, u_cons, upd_eq, upd_ne, argsR, x_addi, x_adds, x_subi, x_muli, x_fdiv, x_mod, x_tb, x_tn, x_eqi, x_eqs, x_eqb, x_nei, x_nes, x_lt, x_le, x_gt, x_ge, x_isn, x_isnn, x_isb, x_isnb, x_st0, x_st1, x_st2, x_st3, x_ss, x_lens, x_lent, x_r1, x_r2, x_r3, x_lr, x_rj, x_iil, x_iib, x_iss, x_itt, x_inn, r0], by simp [e_lit, e_vk, vk_some, e_bin, e_neg, e_not, e_and, e_or, e_cmp, e_cmp2, e_sub, e_slice, e_tup, e_list, e_dict0, e_dict1, e_call, e_bi, e_isinst, e_meth, es_nil, es_cons, o_none, o_some, t_not, t_and, t_or, t_cmp, t_cmp2, t_lit, t_vk, t_call, t_isinst, t_meth, x_bn, x_bt, u_nil, u_cons, upd_eq, upd_ne, argsR, x_addi, x_adds, x_subi, x_muli, x_fdiv, x_mod, x_tb, x_tn, x_eqi, x_eqs, x_eqb, x_nei, x_nes, x_lt, x_le, x_gt, x_ge, x_isn, x_isnn, x_isb, x_isnb, x_st0, x_st1, x_st2, x_st3, x_ss, x_lens, x_lent, x_r1, x_r2, x_r3, x_lr, x_rj, x_iil, x_iib, x_iss, x_itt, x_inn, r1], by simp [e_lit, e_vk, vk_some, e_bin, e_neg, e_not, e_and, e_or, e_cmp, e_cmp2, e_sub, e_slice, e_tup, e_list, e_dict0, e_dict1, e_call, e_bi, e_isinst, e_meth, es_nil, es_cons, o_none, o_some, t_not, t_and, t_or, t_cmp, t_cmp2, t_lit, t_vk, t_call, t_isinst, t_meth, x_bn, x_bt, u_nil, u_cons, upd_eq, upd_ne, argsR, x_addi, x_adds, x_subi, x_muli, x_fdiv, x_mod, x_tb, x_tn, x_eqi, x_eqs, x_eqb, x_nei, x_nes, x_lt, x_le, x_gt, x_ge, x_isn, x_isnn, x_isb, x_isnb, x_st0, x_st1, x_st2, x_st3, x_ss, x_lens, x_lent, x_r1, x_r2, x_r3, x_lr, x_rj, x_iil, x_iib, x_iss, x_itt, x_inn, r2], by simp [e_lit, e_vk, vk_some, e_bin, e_neg, e_not, e_and, e_or, e_cmp, e_cmp2, e_sub, e_slice, e_tup, e_list, e_dict0, e_dict1, e_call, e_bi, e_isinst, e_meth, es_nil, es_cons, o_none, o_some, t_not, t_and, t_or, t_cmp, t_cmp2, t_lit, t_vk, t_call, t_isinst, t_meth, x_bn, x_bt, u_nil, u_cons, upd_eq, upd_ne, argsR, x_addi, x_adds, x_subi, x_muli, x_fdiv, x_mod, x_tb, x_tn, x_eqi, x_eqs, x_eqb, x_nei, x_nes, x_lt, x_le, x_gt, x_ge, x_isn, x_isnn, x_isb, x_isnb, x_st0, x_st1, x_st2, x_st3, x_ss, x_lens, x_lent, x_r1, x_r2, x_r3, x_lr, x_rj, x_iil, x_iib, x_iss, x_itt, x_inn, r3], by simp [e_lit, e_vk, vk_some, e_bin, e_neg, e_not, e_and, e_or, e_cmp, e_cmp2, e_sub, e_slice, e_tup, e_list, e_dict0, e_dict1, e_call, e_bi, e_isinst, e_meth, es_nil, es_cons, o_none, o_some, t_not, t_and, t_or, t_cmp, t_cmp2, t_lit, t_vk, t_call, t_isinst, t_meth, x_bn, x_bt, u_nil, u_cons, upd_eq, upd_ne, argsR, x_addi, x_adds, x_subi, x_muli, x_fdiv, x_mod, x_tb, x_tn, x_eqi, x_eqs, x_eqb, x_nei, x_nes, x_lt, x_le, x_gt, x_ge, x_isn, x_isnn, x_isb, x_isnb, x_st0, x_st1, x_st2, x_st3, x_ss, x_lens, x_lent, x_r1, x_r2, x_r3, x_lr, x_rj, x_iil, x_iib, x_iss, x_itt, x_inn, r4], by simp [e_lit, e_vk, vk_some, e_bin, e_neg, e_not, e_and, e_or, e_cmp, e_cmp2, e_sub, e_slice, e_tup, e_list, e_dict0, e_dict1, e_call, e_bi, e_isinst, e_meth, es_nil, es_cons, o_none, o_some, t_not, t_and, t_or, t_cmp, t_cmp2, t_lit, t_vk, t_call, t_isinst, t_meth, x_bn, x_bt, u_nil, u_cons, upd_eq, upd_ne, argsR, x_addi, x_adds, x_subi, x_muli, x_fdiv, x_mod, x_tb, x_tn, x_eqi, x_eqs, x_eqb, x_nei, x_nes, x_lt, x_le, x_gt, x_ge, x_isn, x_isnn, x_isb, x_isnb, x_st0, x_st1, x_st2, x_st3, x_ss, x_lens, x_lent, x_r1, x_r2, x_r3, x_lr, x_rj, x_iil, x_iib, x_iss, x_itt, x_inn]⟩)
        intro e he
        rcases List.mem_append.mp he with he | he
        · exact hes e he
        · simp at he; omega
      | false =>
        refine B_nil ?_
        rw [th_next]
        refine B_name ?_
        simp [e_lit, e_vk, vk_some, e_bin, e_neg, e_not, e_and, e_or, e_cmp, e_cmp2, e_sub, e_slice, e_tup, e_list, e_dict0, e_dict1, e_call, e_bi, e_isinst, e_meth, es_nil, es_cons, o_none, o_some, t_not, t_and, t_or, t_cmp, t_cmp2, t_lit, t_vk, t_call, t_isinst, t_meth, x_bn, x_bt, u_nil, u_cons, upd_eq, upd_ne, argsR, x_addi, x_adds, x_subi, x_muli, x_fdiv, x_mod, x_tb, x_tn, x_eqi, x_eqs, x_eqb, x_nei, x_nes, x_lt, x_le, x_gt, x_ge, x_isn, x_isnn, x_isb, x_isnb, x_st0, x_st1, x_st2, x_st3, x_ss, x_lens, x_lent, x_r1, x_r2, x_r3, x_lr, x_rj, x_iil, x_iib, x_iss, x_itt, x_inn, r5]
        exact B_nil ((hI ..).mpr ⟨es, bits.fdiv 3, hp', hL', hes, by omega, by simp [e_lit, e_vk, vk_some, e_bin, e_neg, e_not, e_and, e_or, e_cmp, e_cmp2, e_sub, e_slice, e_tup, e_list, e_dict0, e_dict1, e_call, e_bi, e_isinst, e_meth, es_nil, es_cons, o_none, o_some, t_not, t_and, t_or, t_cmp, t_cmp2, t_lit, t_vk, t_call, t_isinst, t_meth, x_bn, x_bt, u_nil, u_cons, upd_eq, upd_ne, argsR, x_addi, x_adds, x_subi, x_muli, x_fdiv, x_mod, x_tb, x_tn, x_eqi, x_eqs, x_eqb, x_nei, x_nes, x_lt, x_le, x_gt, x_ge, x_isn, x_isnn, x_isb, x_isnb, x_st0, x_st1, x_st2, x_st3, x_ss, x_lens, x_lent, x_r1, x_r2, x_r3, x_lr, x_rj, x_iil, x_iib, x_iss, x_itt, x_inn, r0], by simp [e_lit, e_vk, vk_some, e_bin, e_neg, e_not, e_and, e_or, e_cmp, e_cmp2, e_sub, e_slice, e_tup, e_list, e_dict0, e_dict1, e_call, e_bi, e_isinst, e_meth, es_nil, es_cons, o_none, o_some, t_not, t_and, t_or, t_cmp, t_cmp2, t_lit, t_vk, t_call, t_isinst, t_meth, x_bn, x_bt, u_nil, u_cons, upd_eq, upd_ne, argsR, x_addi, x_adds, x_subi, x_muli, x_fdiv, x_mod, x_tb, x_tn, x_eqi, x_eqs, x_eqb, x_nei, x_nes, x_lt, x_le, x_gt, x_ge, x_isn, x_isnn, x_isb, x_isnb, x_st0, x_st1, x_st2, x_st3, x_ss, x_lens, x_lent, x_r1, x_r2, x_r3, x_lr, x_rj, x_iil, x_iib, x_iss, x_itt, x_inn, r1], by simp [e_lit, e_vk, vk_some, e_bin, e_neg, e_not, e_and, e_or, e_cmp, e_cmp2, e_sub, e_slice, e_tup, e_list, e_dict0, e_dict1, e_call, e_bi, e_isinst, e_meth, es_nil, es_cons, o_none, o_some, t_not, t_and, t_or, t_cmp, t_cmp2, t_lit, t_vk, t_call, t_isinst, t_meth, x_bn, x_bt, u_nil, u_cons, upd_eq, upd_ne, argsR, x_addi, x_adds, x_subi, x_muli, x_fdiv, x_mod, x_tb, x_tn, x_eqi, x_eqs, x_eqb, x_nei, x_nes, x_lt, x_le, x_gt, x_ge, x_isn, x_isnn, x_isb, x_isnb, x_st0, x_st1, x_st2, x_st3, x_ss, x_lens, x_lent, x_r1, x_r2, x_r3, x_lr, x_rj, x_iil, x_iib, x_iss, x_itt, x_inn, r2], by simp [e_lit, e_vk, vk_some, e_bin, e_neg, e_not, e_and, e_or, e_cmp, e_cmp2, e_sub, e_slice, e_tup, e_list, e_dict0, e_dict1, e_call, e_bi, e_isinst, e_meth, es_nil, es_cons, o_none, o_some, t_not, t_and, t_or, t_cmp, t_cmp2, t_lit, t_vk, t_call, t_isinst, t_meth, x_bn, x_bt, u_nil, u_cons, upd_eq, upd_ne, argsR, x_addi, x_adds, x_subi, x_muli, x_fdiv, x_mod, x_tb, x_tn, x_eqi, x_eqs, x_eqb, x_nei, x_nes, x_lt, x_le, x_gt, x_ge, x_isn, x_isnn, x_isb, x_isnb, x_st0, x_st1, x_st2, x_st3, x_ss, x_lens, x_lent, x_r1, x_r2, x_r3, x_lr, x_rj, x_iil, x_iib, x_iss, x_itt, x_inn, r3], by simp [e_lit, e_vk, vk_some, e_bin, e_neg, e_not, e_and, e_or, e_cmp, e_cmp2, e_sub, e_slice, e_tup, e_list, e_dict0, e_dict1, e_call, e_bi, e_isinst, e_meth, es_nil, es_cons, o_none, o_some, t_not, t_and, t_or, t_cmp, t_cmp2, t_lit, t_vk, t_call, t_isinst, t_meth, x_bn, x_bt, u_nil, u_cons, upd_eq, upd_ne, argsR, x_addi, x_adds, x_subi, x_muli, x_fdiv, x_mod, x_tb, x_tn, x_eqi, x_eqs, x_eqb, x_nei, x_nes, x_lt, x_le, x_gt, x_ge, x_isn, x_isnn, x_isb, x_isnb, x_st0, x_st1, x_st2, x_st3, x_ss, x_lens, x_lent, x_r1, x_r2, x_r3, x_lr, x_rj, x_iil, x_iib, x_iss, x_itt, x_inn, r4], by simp [e_lit, e_vk, vk_some, e_bin, e_neg, e_not, e_and, e_or, e_cmp, e_cmp2, e_sub, e_slice, e_tup, e_list, e_dict0, e_dict1, e_call, e_bi, e_isinst, e_meth, es_nil, es_cons, o_none, o_some, t_not, t_and, t_or, t_cmp, t_cmp2, t_lit, t_vk, t_call, t_isinst, t_meth, x_bn, x_bt, u_nil, u_cons, upd_eq, upd_ne, argsR, x_addi, x_adds, x_subi, x_muli, x_fdiv, x_mod, x_tb, x_tn, x_eqi, x_eqs, x_eqb, x_nei, x_nes, x_lt, x_le, x_gt, x_ge, x_isn, x_isnn, x_isb, x_isnb, x_st0, x_st1, x_st2, x_st3, x_ss, x_lens, x_lent, x_r1, x_r2, x_r3, x_lr, x_rj, x_iil, x_iib, x_iss, x_itt, x_inn]⟩)
    simp only [e_lit, e_vk, vk_some, e_bin, e_neg, e_not, e_and, e_or, e_cmp, e_cmp2, e_sub, e_slice, e_tup, e_list, e_dict0, e_dict1, e_call, e_bi, e_isinst, e_meth, es_nil, es_cons, o_none, o_some, t_not, t_and, t_or, t_cmp, t_cmp2, t_lit, t_vk, t_call, t_isinst, t_meth, x_bn, x_bt, u_nil, u_cons, upd_eq, upd_ne, argsR, x_addi, x_adds, x_subi, x_muli, x_fdiv, x_mod, x_tb, x_tn, x_eqi, x_eqs, x_eqb, x_nei, x_nes, x_lt, x_le, x_gt, x_ge, x_isn, x_isnn, x_isb, x_isnb, x_st0, x_st1, x_st2, x_st3, x_ss, x_lens, x_lent, x_r1, x_r2, x_r3, x_lr, x_rj, x_iil, x_iib, x_iss, x_itt, x_inn, r5, r3, r4, Option.some.injEq, exists_eq_left', ne_eq, upd_ne (show (5 : Nat) ≠ 6 by decide), upd_ne (show (3 : Nat) ≠ 6 by decide), upd_ne (show (4 : Nat) ≠ 6 by decide)]
    refine ⟨by decide, ?_⟩
    by_cases hb : bits.fmod 3 = 0
    · rw [decide_eq_true hb]
      exact fin true _ hp hL
    · rw [decide_eq_false hb]
      dsimp only
      by_cases hi2 : (i : Int) + 1 = n
      · rw [decide_eq_true hi2]
        dsimp only
        refine x_nil (get_app hL) (get_last _ _) ?_
        exact fin _ _ (hp.trans (List.prefix_append _ _)) (get_app hL)
      · rw [decide_eq_false hi2]
        exact fin false _ hp hL
  · intro ρ H hi
    obtain ⟨es, bits, hp, hL, hes, hel, r0, r1, r2, r3, r4, r5⟩ := (hI ..).mp hi
    rw [rangeV_len] at hel
    clear hI
    refine B_name ?_
    simp [e_lit, e_vk, vk_some, e_bin, e_neg, e_not, e_and, e_or, e_cmp, e_cmp2, e_sub, e_slice, e_tup, e_list, e_dict0, e_dict1, e_call, e_bi, e_isinst, e_meth, es_nil, es_cons, o_none, o_some, t_not, t_and, t_or, t_cmp, t_cmp2, t_lit, t_vk, t_call, t_isinst, t_meth, x_bn, x_bt, u_nil, u_cons, upd_eq, upd_ne, argsR, x_addi, x_adds, x_subi, x_muli, x_fdiv, x_mod, x_tb, x_tn, x_eqi, x_eqs, x_eqb, x_nei, x_nes, x_lt, x_le, x_gt, x_ge, x_isn, x_isnn, x_isb, x_isnb, x_st0, x_st1, x_st2, x_st3, x_ss, x_lens, x_lent, x_r1, x_r2, x_r3, x_lr, x_rj, x_iil, x_iib, x_iss, x_itt, x_inn]
    refine B_for_seq mC (n := k) (vs := ys.map V.int) (I := fun i ρ H' => ∃ ms : List Mv, H' = H ++ [.list (ms.map Mv.v)] ∧ ms.length = i ∧ (∀ m ∈ ms, okMv n m ∧ m.over cs) ∧ ρ 0 = some (.int c) ∧ ρ 2 = some sv ∧ ρ 3 = some (.int n) ∧ ρ 4 = some (.ref h.length) ∧ ρ 7 = some (.ref H.length)) ?_ ?_ ?_ ?_
    · simp [e_lit, e_vk, vk_some, e_bin, e_neg, e_not, e_and, e_or, e_cmp, e_cmp2, e_sub, e_slice, e_tup, e_list, e_dict0, e_dict1, e_call, e_bi, e_isinst, e_meth, es_nil, es_cons, o_none, o_some, t_not, t_and, t_or, t_cmp, t_cmp2, t_lit, t_vk, t_call, t_isinst, t_meth, x_bn, x_bt, u_nil, u_cons, upd_eq, upd_ne, argsR, x_addi, x_adds, x_subi, x_muli, x_fdiv, x_mod, x_tb, x_tn, x_eqi, x_eqs, x_eqb, x_nei, x_nes, x_lt, x_le, x_gt, x_ge, x_isn, x_isnn, x_isb, x_isnb, x_st0, x_st1, x_st2, x_st3, x_ss, x_lens, x_lent, x_r1, x_r2, x_r3, x_lr, x_rj, x_iil, x_iib, x_iss, x_itt, x_inn, r0, r1, r2, r3, r4]
    · rintro i ρ H' ⟨ms, rfl, _⟩; exact get_app (pre_get hp hk)
    · rintro i v ρ H' hv ⟨ms, rfl, hm, hok, r0, r2, r3, r4, r7⟩
      obtain ⟨y, hy, rfl⟩ : ∃ c, ys[i]? = some c ∧ V.int c = v := by simpa using hv
      have hi := (List.getElem?_eq_some_iff.mp hy).1
      rw [x_bn]
      refine moves_turn3 (c := y) (n := n) (L := H.length) (sv := sv) (ms := ms) upd_eq (r7) (r2) (r3) hn1 (by omega) ((hS.pre hp).pre (List.prefix_append _ _)) (get_last _ _) (by omega)
        (by decide) (by decide) (by decide) (by decide) (by decide) (by decide) (by decide) (by decide) (by decide) (by decide) (by decide) (by decide) ?_
      intro m hm' hm2 ρ' hρ
      refine ⟨ms ++ [m], by rw [set_last], by simp [hm], ?_, ?_, ?_, ?_, ?_, ?_⟩
      · intro x hx; rcases List.mem_append.mp hx with hx | hx
        · exact hok x hx
        · simp at hx; subst hx; exact ⟨hm', hm2⟩
      · rw [hρ 0 (by decide) (by decide) (by decide), upd_ne (by decide)]; exact r0
      · rw [hρ 2 (by decide) (by decide) (by decide), upd_ne (by decide)]; exact r2
      · rw [hρ 3 (by decide) (by decide) (by decide), upd_ne (by decide)]; exact r3
      · rw [hρ 4 (by decide) (by decide) (by decide), upd_ne (by decide)]; exact r4
      · rw [hρ 7 (by decide) (by decide) (by decide), upd_ne (by decide)]; exact r7
    · rintro ρ H' ⟨ms, rfl, hm, hok, r0, r2, r3, r4, r7⟩
      obtain ⟨k2, e2, l2⟩ := fmod_nat (c.fdiv a) (b := n) (by omega)
      refine B_ret ?_
      have n0 : ¬ (n : Int) = 0 := by omega
      simp [e_lit, e_vk, vk_some, e_bin, e_neg, e_not, e_and, e_or, e_cmp, e_cmp2, e_sub, e_slice, e_tup, e_list, e_dict0, e_dict1, e_call, e_bi, e_isinst, e_meth, es_nil, es_cons, o_none, o_some, t_not, t_and, t_or, t_cmp, t_cmp2, t_lit, t_vk, t_call, t_isinst, t_meth, x_bn, x_bt, u_nil, u_cons, upd_eq, upd_ne, argsR, x_addi, x_adds, x_subi, x_muli, x_fdiv, x_mod, x_tb, x_tn, x_eqi, x_eqs, x_eqb, x_nei, x_nes, x_lt, x_le, x_gt, x_ge, x_isn, x_isnn, x_isb, x_isnb, x_st0, x_st1, x_st2, x_st3, x_ss, x_lens, x_lent, x_r1, x_r2, x_r3, x_lr, x_rj, x_iil, x_iib, x_iss, x_itt, x_inn, r0, r3, r4, r7, e2, n0, a0, a1, ov_ret]
      simp at hm
      refine ⟨by omega, q _ _ ⟨n, k2, es, ms⟩ (hp.trans (List.prefix_append _ _)) ⟨h.length, H.length, rfl, get_app hL, get_last _ _⟩ ⟨hn1, by simp; omega, by simp; omega, by simp; omega, by simp; omega, hes, fun m h => (hok m h).1⟩ hn2 (by simp; omega) (by simp; omega) (fun m h => (hok m h).2)⟩
end
end Tw
end

section
--down
namespace Tw

section
variable {Φ : Nat → Option Fn} {d : Nat} {h : H} {Q : V → H → Prop}

/-! turned -/
end
end Tw
end

section
namespace Tw

/-! the ends, as a dict's keys -/
theorem dget_keys (es : List (V × V)) (k : V) : (dget es k).isSome = decide (k ∈ es.map (·.1)) := by
  unfold dget
  rw [Option.isSome_map, Bool.eq_iff_iff, List.find?_isSome, decide_eq_true_iff, List.mem_map]
  exact ⟨fun ⟨e, h1, h2⟩ => ⟨e, h1, of_decide_eq_true h2⟩, fun ⟨e, h1, h2⟩ => ⟨e, h1, decide_eq_true h2⟩⟩
section
variable {h : H} {Q : V → H → Prop}
end

/-! the joined machine -/
noncomputable def j1 (nb : Nat) (a : Mv) (q : Nat) : Mv := ⟨a.s * nb + q, a.t, [], a.q * nb + q⟩
noncomputable def j2 (nb : Nat) (b : Mv) (p : Nat) : Mv := ⟨p * nb + b.s, [], b.g, p * nb + b.q⟩
noncomputable def j3 (nb : Nat) (a b : Mv) : Mv := ⟨a.s * nb + b.s, a.t, b.g, a.q * nb + b.q⟩
noncomputable def J1 (nb : Nat) (k : Nat) (a : Mv) : List Mv := if a.g = [] then (List.range k).map (j1 nb a) else []
noncomputable def J2 (nb : Nat) (k : Nat) (b : Mv) : List Mv := if b.t = [] then (List.range k).map (j2 nb b) else []
noncomputable def J3 (nb : Nat) (bs : List Mv) (a : Mv) : List Mv := (bs.filter fun b => decide (a.g ≠ [] ∧ a.g = b.t)).map (j3 nb a)
noncomputable def Jm (A B : Ma) : List Mv := A.moves.flatMap (J1 B.n B.n) ++ B.moves.flatMap (J2 B.n A.n) ++ A.moves.flatMap (J3 B.n B.moves)

section
variable {Φ : Nat → Option Fn} {d : Nat} {h : H} {Q : V → H → Prop}
/-- what joined gives -/
structure IsJ (A B J : Ma) : Prop where
  n : J.n = A.n * B.n
  b : J.b = A.b * B.n + B.b
  moves : J.moves = Jm A B
  ends : ∀ x, x ∈ J.ends ↔ ∃ p ∈ A.ends, ∃ q ∈ B.ends, x = p * B.n + q
  len : J.ends.length ≤ A.ends.length * B.ends.length

end
end Tw
end

section
namespace Tw
namespace L08

noncomputable def fn_law : Fn := ⟨1, [
  .assign (.name 1) (.call 26 [(.call 25 [(.var 0), (.lit (.int 0))])]),
  .assign (.name 2) (.call 27 [(.call 25 [(.var 0), (.lit (.int 1))]), (.slice (.var 0) (.lit (.int 5)) (.lit (.int 14))), (.var 1)]),
  .assign (.name 3) (.call 27 [(.call 25 [(.var 0), (.lit (.int 2))]), (.slice (.var 0) (.lit (.int 14)) (.lit (.int 23))), (.var 1)]),
  .assign (.name 4) (.call 29 [(.call 25 [(.var 0), (.lit (.int 4))]), (.var 1), (.lit (.int 4))]),
  .assign (.name 5) (.call 29 [(.bin .fdiv (.call 25 [(.var 0), (.lit (.int 4))]) (.lit (.int 256))), (.var 1), (.lit (.int 4))]),
  .assign (.name 6) (.call 8 [(.var 2)]),
  .ite (.cmp .ne (.call 30 [(.call 5 [(.var 2), (.var 4), (.var 5)])]) (.call 30 [(.call 5 [(.var 6), (.var 5), (.var 4)])])) [
    .ret (some (.lit (.bool false)))] [],
  .assign (.name 7) (.call 34 [(.var 2), (.var 3), (.call 25 [(.var 0), (.lit (.int 3))]), (.bin .mod (.bin .fdiv (.call 25 [(.var 0), (.lit (.int 3))]) (.lit (.int 7))) (.lit (.int 11)))]),
  .ite (.cmp .is (.var 7) (.lit .none)) [
    .ret (some (.lit (.bool true)))] [],
  .assign (.name 8) (.call 9 [(.call 8 [(.var 3)]), (.var 6)]),
  .ite (.or (.cmp .is (.call 5 [(.var 8), (.sub (.var 7) (.lit (.int 1))), (.sub (.var 7) (.lit (.int 0)))]) (.lit .none)) (.cmp .isNot (.call 6 [(.var 8), (.sub (.var 7) (.lit (.int 1)))]) (.lit (.bool true)))) [
    .ret (some (.lit (.bool false)))] [],
  .ret (some (.cmp .isNot (.call 5 [(.call 8 [(.call 9 [(.var 2), (.var 3)])]), (.sub (.var 7) (.lit (.int 1))), (.sub (.var 7) (.lit (.int 0)))]) (.lit .none)))]⟩
noncomputable def fn__law_text : Fn := ⟨3, [
  .assign (.name 3) (.lit (.str [])),
  .for (.name 4) (.bi .range [(.bin .mod (.var 0) (.var 2))]) [
    .assign (.name 0) (.bin .fdiv (.var 0) (.var 2)),
    .assign (.name 3) (.bin .add (.var 3) (.sub (.var 1) (.bin .add (.lit (.int 1)) (.bin .mod (.var 0) (.lit (.int 3))))))],
  .ret (some (.var 3))]⟩
noncomputable def fn__law_steps : Fn := ⟨4, [
  .assign (.name 4) (.list []),
  .for (.name 5) (.sub (.var 0) (.lit (.int 3))) [
    .ite (.and (.cmp .eq (.sub (.var 5) (.lit (.int 0))) (.var 2)) (.cmp .eq (.sub (.var 5) (.lit (.int 2))) (.lit (.str [])))) [
      .expr (.meth .append (.var 4) [(.tup [(.sub (.var 5) (.lit (.int 3))), (.var 3), (.sub (.var 5) (.lit (.int 1))), (.lit (.str []))])])] [],
    .ite (.and (.cmp .eq (.sub (.var 5) (.lit (.int 0))) (.var 2)) (.cmp .ne (.sub (.var 5) (.lit (.int 2))) (.lit (.str [])))) [
      .for (.name 6) (.sub (.var 1) (.lit (.int 3))) [
        .ite (.and (.cmp .eq (.sub (.var 6) (.lit (.int 0))) (.var 3)) (.cmp .eq (.sub (.var 6) (.lit (.int 1))) (.sub (.var 5) (.lit (.int 2))))) [
          .expr (.meth .append (.var 4) [(.tup [(.sub (.var 5) (.lit (.int 3))), (.sub (.var 6) (.lit (.int 3))), (.sub (.var 5) (.lit (.int 1))), (.sub (.var 6) (.lit (.int 2)))])])] []]] []],
  .for (.name 6) (.sub (.var 1) (.lit (.int 3))) [
    .ite (.and (.cmp .eq (.sub (.var 6) (.lit (.int 0))) (.var 3)) (.cmp .eq (.sub (.var 6) (.lit (.int 1))) (.lit (.str [])))) [
      .expr (.meth .append (.var 4) [(.tup [(.var 2), (.sub (.var 6) (.lit (.int 3))), (.lit (.str [])), (.sub (.var 6) (.lit (.int 2)))])])] []],
  .ret (some (.var 4))]⟩
noncomputable def fn__law_together : Fn := ⟨4, [
  .assign (.name 4) (.sub (.var 0) (.lit (.int 1))),
  .assign (.name 5) (.sub (.var 1) (.lit (.int 1))),
  .assign (.name 6) (.tup [(.lit (.str [])), (.lit (.str []))]),
  .assign (.name 7) (.lit .none),
  .for (.name 8) (.bi .range [(.bin .add (.var 3) (.lit (.int 1)))]) [
    .ite (.and (.cmp .isIn (.var 4) (.sub (.var 0) (.lit (.int 2)))) (.cmp .isIn (.var 5) (.sub (.var 1) (.lit (.int 2))))) [
      .assign (.name 7) (.var 6)] [],
    .assign (.name 9) (.call 31 [(.var 0), (.var 1), (.var 4), (.var 5)]),
    .ite (.cmp .eq (.var 9) (.list [])) [
      .ret (some (.var 7))] [],
    .assign (.name 10) (.sub (.var 9) (.bin .mod (.bin .mod (.bin .mul (.bin .add (.var 2) (.bin .mul (.bin .mul (.lit (.int 7919)) (.var 8)) (.var 8))) (.lit (.int 48271))) (.lit (.int 2147483647))) (.bi .len [(.var 9)]))),
    .assign (.name 4) (.sub (.var 10) (.lit (.int 0))),
    .assign (.name 5) (.sub (.var 10) (.lit (.int 1))),
    .assign (.name 6) (.tup [(.bin .add (.sub (.var 6) (.lit (.int 0))) (.sub (.var 10) (.lit (.int 2)))), (.bin .add (.sub (.var 6) (.lit (.int 1))) (.sub (.var 10) (.lit (.int 3))))])],
  .ret (some (.var 7))]⟩
noncomputable def fn__law_moves : Fn := ⟨1, [
  .ite (.cmp .is (.var 0) (.lit .none)) [
    .ret (some (.neg (.lit (.int 1))))] [],
  .ret (some (.bi .len [(.var 0)]))]⟩
noncomputable def fn__law_machine : Fn := fnMach 4 16
end L08
end Tw
end

section
namespace Tw

/-! two machines that walk together -/
inductive PStep (A B : Ma) : Nat → Nat → List Nat → List Nat → Nat → Nat → Prop
  | one {a : Mv} {q : Nat} : a ∈ A.moves → a.g = [] → q < B.n → PStep A B a.s q a.t [] a.q q
  | two {b : Mv} {p : Nat} : b ∈ B.moves → b.t = [] → p < A.n → PStep A B p b.s [] b.g p b.q
  | both {a b : Mv} : a ∈ A.moves → b ∈ B.moves → a.g ≠ [] → a.g = b.t → PStep A B a.s b.s a.t b.g a.q b.q
inductive PWalk (A B : Ma) : Nat → List Nat → List Nat → Nat → Nat → Prop
  | nil : PWalk A B 0 [] [] A.b B.b
  | snoc {n : Nat} {t w r g : List Nat} {p q p' q' : Nat} : PWalk A B n t w p q → PStep A B p q r g p' q' → PWalk A B (n + 1) (t ++ r) (w ++ g) p' q'

/-! a way of the turned machine -/
section
variable {Φ : Nat → Option Fn} {d : Nat} {h : H} {Q : V → H → Prop}

/-- one step, as a value -/
structure St4 where
  p : Nat
  q : Nat
  r : List Nat
  g : List Nat
noncomputable def St4.v (x : St4) : V := .tup [.int x.p, .int x.q, .str x.r, .str x.g]
noncomputable def s3 (q : Nat) (a b : Mv) : Option V := if b.s = q ∧ b.t = a.g then some (St4.v ⟨a.q, b.q, a.t, b.g⟩) else none
noncomputable def s2 (p q : Nat) (b : Mv) : Option V := if b.s = q ∧ b.t = [] then some (St4.v ⟨p, b.q, [], b.g⟩) else none
end
end Tw
end

section
namespace Tw

section
variable {Φ : Nat → Option Fn} {d : Nat} {h : H} {Q : V → H → Prop}

theorem mul_small8 (c : Int) (k : Nat) (hk : k < 1000) : mulOk 7919 k ∧ mulOk (7919 * k) k ∧ mulOk (c + 7919 * k * k) 48271 := ⟨.inl (by decide), .inr (by omega), mulOk_r _ (by decide)⟩

theorem cm_inN {h : H} {n s : Nat} {es : List Nat} (x : h[n]? = some (.list (es.map natV))) : CmW h .isIn (.int s) (.ref n) (decide (s ∈ es)) := fun P q => x_inN x q
end
end Tw
end

section
namespace Tw

/-! where two machines may go on together -/
abbrev N4 := Nat × Nat × Nat × Nat
noncomputable def nv4 (x : N4) : V := .tup [.int x.1, .int x.2.1, .int x.2.2.1, .int x.2.2.2]
noncomputable def nB (B : Ma) (w : List Nat) (j i' : Nat) (a : Mv) (l : Nat) : List (N4 × List Nat) := match B.moves[l]? with
  | none => []
  | some b => match gone w j b.g with
    | none => []
    | some j' => if b.t = a.g then [((a.q, b.q, i', j'), a.g)] else []
noncomputable def nA (B : Ma) (t w : List Nat) (x : N4) (a : Mv) : List (N4 × List Nat) := match gone t x.2.2.1 a.t with
  | none => []
  | some i' => if a.g = [] then [((a.q, x.2.1, i', x.2.2.2), [])] else (outs B.moves x.2.1).flatMap (nB B w x.2.2.2 i' a)
noncomputable def nA' (A B : Ma) (t w : List Nat) (x : N4) (k : Nat) : List (N4 × List Nat) := match A.moves[k]? with
  | none => []
  | some a => nA B t w x a
noncomputable def n2 (B : Ma) (w : List Nat) (x : N4) (l : Nat) : List (N4 × List Nat) := match B.moves[l]? with
  | none => []
  | some b => match gone w x.2.2.2 b.g with
    | none => []
    | some j' => if b.t = [] then [((x.1, b.q, x.2.2.1, j'), [])] else []
noncomputable def near (A B : Ma) (t w : List Nat) (x : N4) : List (N4 × List Nat) := (outs A.moves x.1).flatMap (nA' A B t w x) ++ (outs B.moves x.2.1).flatMap (n2 B w x)

section
variable {Φ : Nat → Option Fn} {d : Nat} {h : H} {Q : V → H → Prop}
end
end Tw
end

section
namespace Tw

inductive NStep (A B : Ma) (t w : List Nat) (x : N4) : N4 → List Nat → Prop
  | one {k i' : Nat} {a : Mv} : A.moves[k]? = some a → a.s = x.1 → a.g = [] → gone t x.2.2.1 a.t = some i' → NStep A B t w x (a.q, x.2.1, i', x.2.2.2) []
  | both {k l i' j' : Nat} {a b : Mv} : A.moves[k]? = some a → B.moves[l]? = some b → a.s = x.1 → b.s = x.2.1 → a.g ≠ [] → b.t = a.g → gone t x.2.2.1 a.t = some i' → gone w x.2.2.2 b.g = some j' → NStep A B t w x (a.q, b.q, i', j') a.g
  | two {l j' : Nat} {b : Mv} : B.moves[l]? = some b → b.s = x.2.1 → b.t = [] → gone w x.2.2.2 b.g = some j' → NStep A B t w x (x.1, b.q, x.2.2.1, j') []
inductive MRun (A B : Ma) (t w : List Nat) : List Nat → N4 → List Nat → Prop
  | nil : MRun A B t w [] (A.b, B.b, 0, 0) []
  | snoc {p : List Nat} {x y : N4} {m sg : List Nat} {k : Nat} : MRun A B t w p x m → (near A B t w x)[k]? = some (y, sg) → MRun A B t w (p ++ [k]) y (m ++ sg)
structure Mids (A B : Ma) (t w : List Nat) (x : N4) (m pa pb : List Nat) : Prop where
  a : Path A pa x.1
  ar : rdOf A pa = t.take x.2.2.1
  aw : wrOf A pa = m
  b : Path B pb x.2.1
  br : rdOf B pb = m
  bw : wrOf B pb = w.take x.2.2.2
  i : x.2.2.1 ≤ t.length
  j : x.2.2.2 ≤ w.length
end Tw
end

section
namespace Tw

/-! all that a machine writes, plain -/
section
variable {M : Ma} {t : List Nat} {most : Nat} (ok : M.ok)
include ok
end

/-! all strs up to a length -/
/-! the heap of the loop: the dict of what was met, the row, the dict of what was found -/
section
variable (B : H) (T : List (Ent (Nat × Nat × List Nat))) (ver : Nat) (fe : List (V × V)) (fv : Nat)
end
end Tw
end

section
namespace Tw

section
variable {Φ : Nat → Option Fn} {d : Nat} {h : H} {Q : V → H → Prop}

end
end Tw
end

section
namespace Tw

section
variable {Φ : Nat → Option Fn} {d : Nat} {h : H} {Q : V → H → Prop}

/-- the heap of the loop -/
structure HT (B0 : H) (T : List (Ent N4)) (ver : Nat) (H : H) : Prop where
  pre : B0 <+: H
  d : H[B0.length]? = some (.dict (T.map (Ent.kv nv4)) ver)
  l : H[B0.length + 1]? = some (.list (T.map fun e => nv4 e.x))
end
end Tw
end

section
namespace Tw
/-- a branch that is not taken -/
theorem A_skip {C : Ora} (hC : MonoC C) {L : Env} {h : H} {r : List S} {Q : Out → Rho → H → Prop} {t : E} {a : List S} (x : ∀ ρ, Ag L ρ → wpT C t ρ h fun b h₁ => b = false ∧ AB C L h₁ r Q) : AB C L h (.ite t a [] :: r) Q := fun ρ ag =>
  B_ite (wpT_mono hC t (fun b h₁ ⟨e, y⟩ => by subst e; exact y ρ ag) (x ρ ag))
end Tw
end

section
namespace Tw

/-! search with a stack, plain -/
inductive Reach {N : Type} (b : N) (sc : N → List N) : N → Prop
  | nil : Reach b sc b
  | step {x y : N} : Reach b sc x → y ∈ sc x → Reach b sc y
structure Dfs {N : Type} (b : N) (sc : N → List N) (T W : List N) (P : N → Prop) : Prop where
  head : b ∈ T
  nodup : T.Nodup
  reach : ∀ x ∈ T, Reach b sc x
  sub : ∀ x ∈ W, x ∈ T
  clos : ∀ x ∈ T, x ∈ W ∨ P x ∨ ∀ y ∈ sc x, y ∈ T
structure DfI {N : Type} (b : N) (sc : N → List N) (T W : List N) (c : N) (i : Nat) : Prop extends Dfs b sc T W (fun x => x = c) where
  here : c ∈ T
  part : ∀ y ∈ (sc c).take i, y ∈ T
section
variable {N : Type} {b : N} {sc : N → List N} {T W : List N} {c : N} {i : Nat}
end

/-! a dict whose values are all True -/
noncomputable def kvT {N : Type} (nv : N → V) (T : List N) : List (V × V) := T.map fun x => (nv x, .bool true)
theorem kvT_keys {N : Type} (nv : N → V) (T : List N) : (kvT nv T).map (·.1) = T.map nv := by
  unfold kvT; rw [List.map_map]; rfl
section
variable {N : Type} {nv : N → V} (inj : ∀ a b, nv a = nv b → a = b)
include inj
theorem nv_mem {T : List N} {z : N} : nv z ∈ T.map nv ↔ z ∈ T := by
  rw [List.mem_map]
  exact ⟨fun ⟨e, he, h⟩ => inj _ _ h ▸ he, fun h => ⟨z, h, rfl⟩⟩
theorem kvT_put {T : List N} {z : N} (hz : z ∉ T) : dput (kvT nv T) (nv z) (.bool true) = kvT nv (T ++ [z]) := by
  unfold dput
  rw [dget_keys, kvT_keys, decide_eq_false fun h => hz ((nv_mem inj).mp h), if_neg Bool.false_ne_true]
  simp [kvT]
/-- put in if it is not there yet -/
theorem kvT_put' (T : List N) (z : N) [Decidable (z ∈ T)] : dput (kvT nv T) (nv z) (.bool true) = kvT nv (if z ∈ T then T else T ++ [z]) := by
  by_cases hz : z ∈ T
  · rw [if_pos hz]
    unfold dput
    rw [dget_keys, kvT_keys, decide_eq_true ((nv_mem inj).mpr hz), if_pos rfl]
    unfold kvT
    rw [List.map_map]
    apply List.map_congr_left
    intro x _
    by_cases e : nv x = nv z <;> simp [e]
  · rw [if_neg hz]; exact kvT_put inj hz
end

/-! a text's part -/
theorem slice_gone {t r : List Nat} {i : Nat} (hr : r.length ≤ 1) (hi : i ≤ t.length) : (t.take (i + r.length)).drop i = r ↔ gone t i r = some (i + r.length) := by
  unfold gone
  match r, hr with
  | [], _ => simp
  | [c], _ =>
    rw [if_neg (by simp)]
    have e : (t.take (i + [c].length)).drop i = (t[i]?).toList := by
      show (t.take (i + 1)).drop i = _
      rw [List.take_add_one, List.drop_append_of_le_length (by rw [List.length_take]; omega), List.drop_of_length_le (by rw [List.length_take]; omega), List.nil_append]
    rw [e]
    cases h : t[i]? with
    | none => simp
    | some d =>
      by_cases e : d = c <;> simp [e]

/-! lists of strs in order are the same where their items are -/
noncomputable abbrev fits (t r : List Nat) (i : Nat) : Prop := (t.take (i + r.length)).drop i = r
theorem fits_gone {t r : List Nat} {i : Nat} (hr : r.length ≤ 1) (hi : i ≤ t.length) (h : fits t r i) : i + r.length ≤ t.length ∧ t.take (i + r.length) = t.take i ++ r := gone_some hr hi ((slice_gone hr hi).mp h)
theorem fits_pre {t r : List Nat} {i : Nat} (h : t.take i ++ r <+: t) (hr : r.length ≤ 1) (hi : i ≤ t.length) : fits t r i := by
  have := gone_pre hr h
  rw [List.length_append, List.length_take, Nat.min_eq_left hi] at this
  exact (slice_gone hr hi).mpr this
end Tw
end

section
namespace Tw

/-! search by layers -/
section
variable {N : Type} (x₀ : N) (out : N → List N)
/-- a walk of so many steps -/
noncomputable def Wn : Nat → N → Prop
  | 0, x => x = x₀
  | k + 1, y => ∃ x, Wn k x ∧ y ∈ out x
noncomputable def Dist (k : Nat) (x : N) : Prop := Wn x₀ out k x ∧ ∀ j, j < k → ¬ Wn x₀ out j x
variable {x₀ out}
theorem Dist.one {d e : Nat} {x : N} (a : Dist x₀ out d x) (b : Dist x₀ out e x) : d = e := by
  rcases Nat.lt_trichotomy d e with h | h | h
  · exact absurd a.1 (b.2 d h)
  · exact h
  · exact absurd b.1 (a.2 e h)
theorem Wn.dist {k : Nat} {x : N} (h : Wn x₀ out k x) : ∃ d, d ≤ k ∧ Dist x₀ out d x := by
  induction k using Nat.strongRecOn with
  | ind k ih =>
    by_cases c : ∃ j, j < k ∧ Wn x₀ out j x
    · obtain ⟨j, hj, hw⟩ := c
      obtain ⟨d, h1, h2⟩ := ih j hj hw
      exact ⟨d, by omega, h2⟩
    · exact ⟨k, Nat.le_refl _, h, fun j hj hw => c ⟨j, hj, hw⟩⟩
theorem Dist.pred {d : Nat} {y : N} (h : Dist x₀ out (d + 1) y) : ∃ x, Dist x₀ out d x ∧ y ∈ out x := by
  obtain ⟨⟨x, hx, hy⟩, hn⟩ := h
  exact ⟨x, ⟨hx, fun j hj hw => hn (j + 1) (by omega) ⟨x, hw, hy⟩⟩, hy⟩
/-- one place at each distance -/
theorem Dist.chain {d : Nat} {x : N} (h : Dist x₀ out d x) : ∃ l : List N, l.length = d + 1 ∧ l.Nodup ∧ ∀ y ∈ l, ∃ j, j ≤ d ∧ Dist x₀ out j y := by
  induction d generalizing x with
  | zero => exact ⟨[x], rfl, List.nodup_cons.mpr ⟨(nomatch ·), List.nodup_nil⟩, fun y hy => ⟨0, Nat.le_refl _, List.mem_singleton.mp hy ▸ h⟩⟩
  | succ d ih =>
    obtain ⟨z, hz, _⟩ := h.pred
    obtain ⟨l, h1, h2, h3⟩ := ih hz
    refine ⟨x :: l, by rw [List.length_cons, h1], List.nodup_cons.mpr ⟨fun hm => ?_, h2⟩, fun y hy => ?_⟩
    · obtain ⟨j, hj, hd⟩ := h3 x hm
      have := hd.one h
      omega
    · rcases List.mem_cons.mp hy with rfl | hy
      · exact ⟨d + 1, Nat.le_refl _, h⟩
      · obtain ⟨j, hj, hd⟩ := h3 y hy
        exact ⟨j, by omega, hd⟩
theorem Dist.bound {d : Nat} {x : N} (h : Dist x₀ out d x) {box : List N} (hb : ∀ k y, Wn x₀ out k y → y ∈ box) : d + 1 ≤ box.length := by
  obtain ⟨l, h1, h2, h3⟩ := h.chain
  rw [← h1]
  haveI : DecidableEq N := fun a b => Classical.propDecidable (a = b)
  exact nodup_le l box h2 fun y hy => by obtain ⟨j, _, hd⟩ := h3 y hy; exact hb j y hd.1

variable (x₀ out) in
/-- the search at its k-th layer: what is known, and the layer -/
structure Lay (k : Nat) (K L : List N) : Prop where
  known : ∀ x, x ∈ K ↔ ∃ j, j ≤ k ∧ Wn x₀ out j x
  layer : ∀ x, x ∈ L ↔ Dist x₀ out k x
theorem Lay.start : Lay x₀ out 0 [x₀] [x₀] :=
  ⟨fun x => ⟨fun h => ⟨0, Nat.le_refl _, List.mem_singleton.mp h⟩, fun ⟨j, hj, hw⟩ => by
      obtain rfl : j = 0 := by omega
      exact List.mem_singleton.mpr hw⟩,
    fun x => ⟨fun h => ⟨List.mem_singleton.mp h, fun j hj => absurd hj (Nat.not_lt_zero _)⟩, fun h => List.mem_singleton.mpr h.1⟩⟩
theorem Lay.next {k : Nat} {K L K' L' : List N} (h : Lay x₀ out k K L) (hL : ∀ x, x ∈ L' ↔ (∃ y ∈ L, x ∈ out y) ∧ x ∉ K) (hK : ∀ x, x ∈ K' ↔ x ∈ K ∨ x ∈ L') : Lay x₀ out (k + 1) K' L' := by
  have lay : ∀ x, x ∈ L' ↔ Dist x₀ out (k + 1) x := fun x => by
    rw [hL]
    constructor
    · rintro ⟨⟨y, hy, hx⟩, hn⟩
      exact ⟨⟨y, ((h.layer y).mp hy).1, hx⟩, fun j hj hw => hn ((h.known x).mpr ⟨j, by omega, hw⟩)⟩
    · intro hd
      obtain ⟨y, hy, hx⟩ := hd.pred
      refine ⟨⟨y, (h.layer y).mpr hy, hx⟩, fun hm => ?_⟩
      obtain ⟨j, hj, hw⟩ := (h.known x).mp hm
      exact hd.2 j (by omega) hw
  refine ⟨fun x => ?_, lay⟩
  rw [hK, h.known, lay]
  constructor
  · rintro (⟨j, hj, hw⟩ | hd)
    · exact ⟨j, by omega, hw⟩
    · exact ⟨k + 1, Nat.le_refl _, hd.1⟩
  · rintro ⟨j, hj, hw⟩
    by_cases c : ∃ j, j ≤ k ∧ Wn x₀ out j x
    · exact .inl c
    · have : j = k + 1 := Decidable.byContradiction fun hne => c ⟨j, by omega, hw⟩
      subst this
      exact .inr ⟨hw, fun i hi hw' => c ⟨i, by omega, hw'⟩⟩
end
end Tw
end

section
namespace Tw

/-! law 04, plain: a step of the machine over a text, and over a writing where there is one -/
abbrev N3 := Nat × Nat × Nat
noncomputable def okW (wo : Option (List Nat)) (g : List Nat) (j : Nat) : Prop := match wo with | none => True | some w => fits w g j
noncomputable def preW (wo : Option (List Nat)) (g : List Nat) : Prop := match wo with | none => True | some w => g <+: w
noncomputable def lenW (wo : Option (List Nat)) (g : List Nat) : Nat := match wo with | none => 0 | some _ => g.length
noncomputable def mostW (wo : Option (List Nat)) : Nat := match wo with | none => 0 | some w => w.length
noncomputable instance (wo : Option (List Nat)) (g : List Nat) (j : Nat) : Decidable (okW wo g j) := Classical.propDecidable _
noncomputable def oL (t : List Nat) (wo : Option (List Nat)) (x : N3) (m : Mv) : Option N3 := if m.s = x.1 ∧ fits t m.t x.2.1 ∧ okW wo m.g x.2.2 then some (m.q, x.2.1 + m.t.length, x.2.2 + lenW wo m.g) else none
noncomputable def oLs (M : Ma) (t : List Nat) (wo : Option (List Nat)) (x : N3) : List N3 := M.moves.filterMap (oL t wo x)

/-- a way so far -/
structure So (M : Ma) (t : List Nat) (wo : Option (List Nat)) (p : List Nat) (x : N3) : Prop where
  path : Path M p x.1
  rd : rdOf M p <+: t
  wr : preW wo (wrOf M p)
  i : x.2.1 = (rdOf M p).length
  j : x.2.2 = lenW wo (wrOf M p)
theorem pre_take {t l : List Nat} (h : l <+: t) : t.take l.length = l := by obtain ⟨r, rfl⟩ := h; simp
theorem fits_iff {t l g : List Nat} (hg : g.length ≤ 1) (h : l <+: t) : fits t g l.length ↔ l ++ g <+: t := by
  have hl := h.length_le
  constructor
  · intro hf
    obtain ⟨_, e⟩ := fits_gone hg hl hf
    rw [pre_take h] at e
    rw [← e]; exact List.take_prefix _ _
  · intro hp
    exact fits_pre (by rw [pre_take h]; exact hp) hg hl
theorem okW_iff {wo : Option (List Nat)} {l g : List Nat} (hg : g.length ≤ 1) (h : preW wo l) : okW wo g (lenW wo l) ↔ preW wo (l ++ g) := by
  cases wo with
  | none => exact Iff.rfl
  | some w => exact fits_iff hg h
theorem preW_app {wo : Option (List Nat)} {l g : List Nat} (h : preW wo (l ++ g)) : preW wo l := by
  cases wo with
  | none => trivial
  | some w => exact (List.prefix_append _ _).trans h
theorem lenW_app (wo : Option (List Nat)) (l g : List Nat) : lenW wo (l ++ g) = lenW wo l + lenW wo g := by
  cases wo with
  | none => rfl
  | some w => exact List.length_append
section
variable {M : Ma} {t : List Nat} {wo : Option (List Nat)} (ok : M.ok)
include ok
theorem so_step {p : List Nat} {x : N3} (s : So M t wo p x) {k : Nat} {m : Mv} (hm : M.moves[k]? = some m) {y : N3} (hy : oL t wo x m = some y) : So M t wo (p ++ [k]) y := by
  have hmo := ok.m1 m (List.mem_of_getElem? hm)
  unfold oL at hy
  split at hy
  · rename_i hc
    obtain ⟨c1, c2, c3⟩ := hc
    injection hy with hy
    subst hy
    have sp := s.path
    rw [← c1] at sp
    rw [s.i] at c2
    rw [s.j] at c3
    refine ⟨.snoc sp hm, ?_, ?_, ?_, ?_⟩
    · rw [rd_snoc hm]; exact (fits_iff hmo.2.2.1 s.rd).mp c2
    · rw [wr_snoc hm]; exact (okW_iff hmo.2.2.2 s.wr).mp c3
    · show x.2.1 + m.t.length = _
      rw [rd_snoc hm, List.length_append, s.i]
    · show x.2.2 + lenW wo m.g = _
      rw [wr_snoc hm, lenW_app, s.j]
  · cases hy
theorem so_back {p : List Nat} {y : N3} {k : Nat} {m : Mv} (hm : M.moves[k]? = some m) (hp : Path M p m.s) (s : So M t wo (p ++ [k]) y) (hq : y.1 = m.q) : ∃ x, So M t wo p x ∧ oL t wo x m = some y := by
  have hmo := ok.m1 m (List.mem_of_getElem? hm)
  have h1 := s.rd
  have h2 := s.wr
  have h3 := s.i
  have h4 := s.j
  rw [rd_snoc hm] at h1 h3
  rw [wr_snoc hm] at h2 h4
  have g1 := (List.prefix_append _ _).trans h1
  have g2 := preW_app h2
  refine ⟨(m.s, (rdOf M p).length, lenW wo (wrOf M p)), ⟨hp, g1, g2, rfl, rfl⟩, ?_⟩
  unfold oL
  rw [if_pos ⟨rfl, (fits_iff hmo.2.2.1 g1).mpr h1, (okW_iff hmo.2.2.2 g2).mpr h2⟩]
  rw [List.length_append] at h3
  rw [lenW_app] at h4
  obtain ⟨a, b, c⟩ := y
  simp only at hq h3 h4 ⊢
  rw [hq, h3, h4]
theorem wn_so {k : Nat} {x : N3} : Wn (M.b, 0, 0) (oLs M t wo) k x ↔ ∃ p, p.length = k ∧ So M t wo p x := by
  induction k generalizing x with
  | zero =>
    constructor
    · rintro rfl
      exact ⟨[], rfl, .nil, List.nil_prefix, by cases wo with | none => trivial | some w => exact List.nil_prefix, rfl, by cases wo <;> rfl⟩
    · rintro ⟨p, hp, s⟩
      obtain rfl := List.length_eq_zero_iff.mp hp
      obtain ⟨a, b, c⟩ := x
      have h1 := s.i
      have h2 := s.j
      have h3 := s.path
      have : a = M.b := by
        generalize hq : ([] : List Nat) = q at h3
        cases h3 with
        | nil => rfl
        | snoc _ _ => exact absurd hq.symm (by simp)
      show (a, b, c) = (M.b, 0, 0)
      have h2' : c = 0 := by rw [show c = _ from h2]; cases wo <;> rfl
      rw [this, show b = 0 from h1, h2']
  | succ k ih =>
    constructor
    · rintro ⟨x', hw, hy⟩
      obtain ⟨p, hp, s⟩ := ih.mp hw
      obtain ⟨m, hm, he⟩ := List.mem_filterMap.mp hy
      obtain ⟨j, hj⟩ := List.mem_iff_getElem?.mp hm
      exact ⟨p ++ [j], by rw [List.length_append, hp]; rfl, so_step ok s hj he⟩
    · rintro ⟨q, hq, s⟩
      have hpath := s.path
      generalize hs : x.1 = e at hpath
      cases hpath with
      | nil => cases hq
      | @snoc p j m hp hm =>
        obtain ⟨x', s', he⟩ := so_back ok hm hp s hs
        refine ⟨x', ih.mpr ⟨p, by rw [List.length_append] at hq; exact Nat.succ.inj hq, s'⟩, List.mem_filterMap.mpr ⟨m, List.mem_of_getElem? hm, he⟩⟩

theorem so_box {p : List Nat} {x : N3} (s : So M t wo p x) : x ∈ box3 M.n (t.length + 1) (mostW wo + 1) := by
  have h1 := path_lt ok s.path
  have h2 := s.rd.length_le
  have h3 : x.2.2 ≤ mostW wo := by
    rw [s.j]
    have := s.wr
    cases wo with
    | none => exact Nat.le_refl _
    | some w => exact List.IsPrefix.length_le this
  have h4 := s.i
  exact box3_mem h1 (by omega) (by omega)
omit ok
noncomputable def fin4 (M : Ma) (t : List Nat) (wo : Option (List Nat)) (x : N3) : Prop := x.1 ∈ M.ends ∧ x.2.1 = t.length ∧ x.2.2 = mostW wo
theorem so_way {w p : List Nat} {x : N3} (s : So M t (some w) p x) (f : fin4 M t (some w) x) : IsWay M t w p := by
  obtain ⟨f1, f2, f3⟩ := f
  refine ⟨⟨_, s.path, f1⟩, s.rd.eq_of_length (by rw [← s.i, f2]), ?_⟩
  have := s.wr
  have e : mostW (some w) = lenW (some w) (wrOf M p) := f3.symm.trans s.j
  exact List.IsPrefix.eq_of_length this e.symm
theorem way_so {w p : List Nat} (h : IsWay M t w p) : ∃ x, So M t (some w) p x ∧ fin4 M t (some w) x := by
  obtain ⟨⟨s, hp, hs⟩, h1, h2⟩ := h
  exact ⟨(s, (rdOf M p).length, (wrOf M p).length), ⟨hp, by rw [h1]; exact List.prefix_refl _, by rw [h2]; exact List.prefix_refl w, rfl, rfl⟩, hs, by rw [h1], by rw [h2]; rfl⟩
theorem so_read {p : List Nat} {x : N3} (s : So M t none p x) (f : fin4 M t none x) : Path M p x.1 ∧ x.1 ∈ M.ends ∧ rdOf M p = t :=
  ⟨s.path, f.1, s.rd.eq_of_length (by rw [← s.i, f.2.1])⟩
theorem read_so {p : List Nat} {e : Nat} (hp : Path M p e) (he : e ∈ M.ends) (h : rdOf M p = t) : ∃ x, So M t none p x ∧ fin4 M t none x :=
  ⟨(e, (rdOf M p).length, 0), ⟨hp, by rw [h]; exact List.prefix_refl _, trivial, rfl, rfl⟩, he, by rw [h], rfl⟩
include ok
/-- nothing final in as many layers as there are places: nothing final at all -/
theorem none_final {U : Nat} (hU : M.n * ((t.length + 1) * (mostW wo + 1)) ≤ U) (hno : ∀ d x, d < U → Dist (M.b, 0, 0) (oLs M t wo) d x → ¬ fin4 M t wo x) {p : List Nat} {x : N3} (s : So M t wo p x) : ¬ fin4 M t wo x := fun f => by
  obtain ⟨d, _, hd⟩ := Wn.dist ((wn_so ok).mpr ⟨p, rfl, s⟩)
  have hb := hd.bound (box := box3 M.n (t.length + 1) (mostW wo + 1)) fun k y hw => by
    obtain ⟨q, _, s'⟩ := (wn_so ok).mp hw
    exact so_box ok s'
  rw [box3_len] at hb
  exact hno d x (by omega) hd f
/-- the first final layer tells the least number of moves -/
theorem first_final {d : Nat} {x : N3} (hd : Dist (M.b, 0, 0) (oLs M t wo) d x) (hno : ∀ e x, e < d → Dist (M.b, 0, 0) (oLs M t wo) e x → ¬ fin4 M t wo x) : ∃ p, So M t wo p x ∧ p.length = d ∧ ∀ p' x', So M t wo p' x' → fin4 M t wo x' → d ≤ p'.length := by
  obtain ⟨p, hp, s⟩ := (wn_so ok).mp hd.1
  refine ⟨p, s, hp, fun p' x' s' f' => ?_⟩
  obtain ⟨e, he, hd'⟩ := Wn.dist ((wn_so ok).mpr ⟨p', rfl, s'⟩)
  rcases Nat.lt_or_ge e d with h | h
  · exact absurd f' (hno e x' h hd')
  · omega
end
end Tw
end

section
namespace Tw
namespace L04
noncomputable def fn_law : Fn := ⟨1, [
  .assign (.name 1) (.call 26 [(.call 25 [(.var 0), (.lit (.int 0))])]),
  .assign (.name 2) (.call 27 [(.call 25 [(.var 0), (.lit (.int 1))]), (.slice (.var 0) (.lit (.int 4)) (.lit (.int 16))), (.var 1)]),
  .assign (.name 3) (.call 29 [(.call 25 [(.var 0), (.lit (.int 2))]), (.var 1)]),
  .assign (.name 4) (.call 29 [(.call 25 [(.var 0), (.lit (.int 3))]), (.var 1)]),
  .ite (.cmp .eq (.bin .mod (.bin .fdiv (.call 25 [(.var 0), (.lit (.int 2))]) (.lit (.int 46656))) (.lit (.int 2))) (.lit (.int 1))) [
    .assign (.name 5) (.call 32 [(.var 2), (.call 25 [(.var 0), (.lit (.int 3))]), (.bin .mod (.bin .fdiv (.call 25 [(.var 0), (.lit (.int 2))]) (.lit (.int 93312))) (.lit (.int 10)))]),
    .assign (.name 3) (.meth .join (.lit (.str [])) [(.comp (.sub (.sub (.sub (.var 2) (.lit (.int 3))) (.var 22)) (.lit (.int 1))) (.name 22) (.var 5) none)]),
    .assign (.name 4) (.meth .join (.lit (.str [])) [(.comp (.sub (.sub (.sub (.var 2) (.lit (.int 3))) (.var 22)) (.lit (.int 2))) (.name 22) (.var 5) none)])] [],
  .assign (.name 6) (.call 5 [(.var 2), (.var 3), (.var 4)]),
  .assign (.name 7) (.call 49 [(.var 2), (.var 3), (.var 4)]),
  .ite (.cmp .is (.var 7) (.lit .none)) [
    .ite (.cmp .isNot (.var 6) (.lit .none)) [
      .ret (some (.lit (.bool false)))] []] [
    .ite (.or (.not (.isinst (.var 6) .list)) (.cmp .ne (.bi .len [(.var 6)]) (.var 7))) [
      .ret (some (.lit (.bool false)))] []],
  .assign (.name 8) (.call 6 [(.var 2), (.var 3)]),
  .ret (some (.and (.isinst (.var 8) .bool) (.cmp .eq (.var 8) (.cmp .isNot (.call 49 [(.var 2), (.var 3), (.lit .none)]) (.lit .none)))))]⟩
noncomputable def fn__law_text : Fn := ⟨2, [
  .assign (.name 2) (.lit (.str [])),
  .for (.name 3) (.bi .range [(.bin .mod (.var 0) (.lit (.int 6)))]) [
    .assign (.name 0) (.bin .fdiv (.var 0) (.lit (.int 6))),
    .assign (.name 2) (.bin .add (.var 2) (.sub (.var 1) (.bin .add (.lit (.int 1)) (.bin .mod (.var 0) (.lit (.int 3))))))],
  .ret (some (.var 2))]⟩
noncomputable def fn__law_walk : Fn := ⟨3, [
  .assign (.name 3) (.list []),
  .assign (.name 4) (.sub (.var 0) (.lit (.int 1))),
  .for (.name 5) (.bi .range [(.var 2)]) [
    .assign (.name 6) (.comp (.var 10) (.name 10) (.bi .range [(.bi .len [(.sub (.var 0) (.lit (.int 3)))])]) (some (.cmp .eq (.sub (.sub (.sub (.var 0) (.lit (.int 3))) (.var 10)) (.lit (.int 0))) (.var 4)))),
    .ite (.cmp .ne (.var 6) (.list [])) [
      .expr (.meth .append (.var 3) [(.sub (.var 6) (.bin .mod (.bin .mod (.bin .mul (.bin .add (.var 1) (.bin .mul (.bin .mul (.lit (.int 7919)) (.var 5)) (.var 5))) (.lit (.int 48271))) (.lit (.int 2147483647))) (.bi .len [(.var 6)])))]),
      .assign (.name 4) (.sub (.sub (.sub (.var 0) (.lit (.int 3))) (.sub (.var 3) (.neg (.lit (.int 1))))) (.lit (.int 3)))] []],
  .ret (some (.var 3))]⟩
noncomputable def fn__law_least : Fn := ⟨3, [
  .assign (.name 3) (.dict1 (.tup [(.sub (.var 0) (.lit (.int 1))), (.lit (.int 0)), (.lit (.int 0))]) (.lit (.bool true))),
  .assign (.name 4) (.bi .dict [(.var 3)]),
  .assign (.name 5) (.lit (.int 0)),
  .ite (.cmp .isNot (.var 2) (.lit .none)) [
    .assign (.name 5) (.bi .len [(.var 2)])] [],
  .for (.name 6) (.bi .range [(.bin .add (.lit (.int 1)) (.bin .mul (.bin .mul (.sub (.var 0) (.lit (.int 0))) (.bin .add (.lit (.int 1)) (.bi .len [(.var 1)]))) (.bin .add (.lit (.int 1)) (.var 5))))]) [
    .ite (.cmp .ne (.comp (.var 12) (.name 12) (.var 4) (some (.and (.cmp .isIn (.sub (.var 12) (.lit (.int 0))) (.sub (.var 0) (.lit (.int 2)))) (.and (.cmp .eq (.sub (.var 12) (.lit (.int 1))) (.bi .len [(.var 1)])) (.cmp .eq (.sub (.var 12) (.lit (.int 2))) (.var 5)))))) (.list [])) [
      .ret (some (.var 6))] [],
    .assign (.name 4) (.call 51 [(.var 0), (.var 4), (.var 1), (.var 2)]),
    .assign (.name 4) (.bi .dict [(.comp (.tup [(.var 12), (.lit (.bool true))]) (.name 12) (.var 4) (some (.cmp .notIn (.var 12) (.var 3))))]),
    .expr (.meth .update (.var 3) [(.var 4)])],
  .ret (some (.lit .none))]⟩
noncomputable def fn__law_layer : Fn := ⟨4, [
  .assign (.name 4) .dict0,
  .for (.tup [5, 6, 7]) (.bi .list [(.var 1)]) [
    .for (.tup [8, 9, 10, 11]) (.sub (.var 0) (.lit (.int 3))) [
      .assign (.name 12) (.cmp .eq (.slice (.var 2) (.var 6) (.bin .add (.var 6) (.bi .len [(.var 9)]))) (.var 9)),
      .ite (.and (.cmp .eq (.var 8) (.var 5)) (.and (.var 12) (.or (.cmp .is (.var 3) (.lit .none)) (.cmp .eq (.slice (.var 3) (.var 7) (.bin .add (.var 7) (.bi .len [(.var 10)]))) (.var 10))))) [
        .store (.var 4) (.tup [(.var 11), (.bin .add (.var 6) (.bi .len [(.var 9)])), (.bin .add (.var 7) (.bin .mul (.bi .len [(.var 10)]) (.bi .int [(.cmp .isNot (.var 3) (.lit .none))])))]) (.lit (.bool true))] []]],
  .ret (some (.var 4))]⟩
noncomputable def fn__law_machine : Fn := fnMach 5 25
end L04
end Tw
end

section
namespace Tw

noncomputable def wV (wo : Option (List Nat)) : V := match wo with | none => .none | some w => .str w
noncomputable def laL (v : V) (t : List Nat) (wo : Option (List Nat)) (l : Nat) : Env := [(0, v), (2, .str t), (3, wV wo), (4, .ref l)]
noncomputable def laX (v : V) (t : List Nat) (wo : Option (List Nat)) (l : Nat) (x : N3) : Env := (7, .int x.2.2) :: (6, .int x.2.1) :: (5, .int x.1) :: laL v t wo l
theorem put_mem {F : List N3} {y : N3} : ∀ z, z ∈ (if y ∈ F then F else F ++ [y]) ↔ z ∈ F ∨ z = y := fun z => by
  by_cases h : y ∈ F
  · rw [if_pos h]; exact ⟨.inl, fun a => a.elim id fun e => e ▸ h⟩
  · rw [if_neg h, List.mem_append, List.mem_singleton]
theorem put_nodup {F : List N3} {y : N3} (n : F.Nodup) : (if y ∈ F then F else F ++ [y]).Nodup := by
  by_cases h : y ∈ F
  · rw [if_pos h]; exact n
  · rw [if_neg h]
    exact List.nodup_append.mpr ⟨n, List.nodup_cons.mpr ⟨(nomatch ·), List.nodup_nil⟩, fun a ha b hb e => by rw [List.mem_singleton.mp hb] at e; exact h (e ▸ ha)⟩

section
variable {Φ : Nat → Option Fn} {d : Nat} {h : H} {Q : V → H → Prop}
theorem layer_ok {v : V} {M : Ma} {t : List Nat} {wo : Option (List Nat)} {L : List N3} {l ver : Nat} (h51 : Φ 51 = some L04.fn__law_layer) (hm : IsMa h v M) (ok : M.ok) (hL : h[l]? = some (.dict (kvT nv3 L) ver)) (hin : ∀ x ∈ L, x.2.1 ≤ t.length ∧ x.2.2 ≤ mostW wo) (ht : t.length < 1000) (hw : mostW wo < 1000)
    (hb : ∀ F : List N3, F.Nodup → (∀ y ∈ F, ∃ x ∈ L, y ∈ oLs M t wo x) → F.length < 1000000)
    (q : ∀ h' r F ver, h <+: h' → h'[r]? = some (.dict (kvT nv3 F) ver) → F.Nodup → (∀ y, y ∈ F ↔ ∃ x ∈ L, y ∈ oLs M t wo x) → Q (.ref r) h') : Calls Φ (d + 1) 51 [v, .ref l, .str t, wV wo] h Q := by
  obtain ⟨e, m, rfl, he, hmv⟩ := hm
  have mC := calls_mono (Φ := Φ) d
  have hz := SZ_val
  refine ⟨L04.fn__law_layer, h51, rfl, A_fn (A_dict0 fun ver0 => A_forE mC (A_bi (g := []) rfl trivial ?_))⟩
  rw [x_ld (get_app hL), kvT_keys, List.append_assoc, List.length_append]
  refine A_for mC (goes_seq (h.length + 1) (L.map nv3)) (fun _ : Unit => laL (.tup [.int M.n, .int M.b, .ref e, .ref m]) t wo h.length) (fun i _ H' => ∃ (F : List N3) (fv : Nat), F.Nodup ∧ (∀ y, y ∈ F ↔ ∃ x ∈ L.take i, y ∈ oLs M t wo x) ∧ H' = h ++ [.dict (kvT nv3 F) fv, .list (L.map nv3)]) () (by repeat (first | exact trivial | refine ⟨rfl, ?_⟩)) (A_ev (g := []) rfl trivial ⟨it_list (len2 ..), [], ver0, List.nodup_nil, fun w => ⟨(nomatch ·), fun ⟨_, hm, _⟩ => nomatch hm⟩, rfl⟩) ?_ ?_ ?_
  · rintro i _ H' ⟨F, fv, _, _, rfl⟩
    exact len2 ..
  · rintro i v _ H' hv ⟨F, fv, fn, ff, rfl⟩
    obtain ⟨x, hx, rfl, hil⟩ := map_at hv
    obtain ⟨x1, x2⟩ := hin x (List.mem_of_getElem? hx)
    refine ⟨rfl, ?_⟩
    refine A_for mC (goes_seq m (M.moves.map Mv.v)) (fun _ : Unit => laX (.tup [.int M.n, .int M.b, .ref e, .ref m]) t wo h.length x) (fun k _ H' => ∃ (F : List N3) (fv : Nat), F.Nodup ∧ (∀ y, y ∈ F ↔ (∃ x ∈ L.take i, y ∈ oLs M t wo x) ∨ y ∈ (M.moves.take k).filterMap (oL t wo x)) ∧ H' = h ++ [.dict (kvT nv3 F) fv, .list (L.map nv3)]) () (by repeat (first | exact trivial | refine ⟨rfl, ?_⟩)) (A_ev (g := []) rfl trivial ⟨it_list (get_app hmv), F, fv, fn, fun y => by rw [ff y]; exact ⟨.inl, fun a => a.elim id (nomatch ·)⟩, rfl⟩) ?_ ?_ ?_
    · rintro k _ H' ⟨F, fv, _, _, rfl⟩
      exact get_app hmv
    · rintro k v _ H' hv ⟨F, fv, fn, ff, rfl⟩
      obtain ⟨mv, hk, rfl, hkl⟩ := map_at hv
      have hmo := ok.m1 mv (List.mem_of_getElem? hk)
      have et : ∀ y, y ∈ (M.moves.take (k + 1)).filterMap (oL t wo x) ↔ y ∈ (M.moves.take k).filterMap (oL t wo x) ∨ oL t wo x mv = some y := fun y => by
        rw [List.take_add_one, hk, List.filterMap_append, List.mem_append]
        exact or_congr Iff.rfl (by show y ∈ List.filterMap _ [mv] ↔ _; rw [List.mem_filterMap]; simp)
      have hFl : F.length < 1000000 := hb F fn fun y hy => by
        rcases (ff y).mp hy with ⟨x', h1, h2⟩ | h1
        · exact ⟨x', List.mem_of_mem_take h1, h2⟩
        · obtain ⟨m', h1, h2⟩ := List.mem_filterMap.mp h1
          exact ⟨x, List.mem_of_getElem? hx, List.mem_filterMap.mpr ⟨m', List.mem_of_mem_take h1, h2⟩⟩
      refine ⟨rfl, A_set (g := [.str ((t.take (x.2.1 + mv.t.length)).drop x.2.1)]) rfl ⟨fun Q q => x_slice (by omega) q, trivial⟩ ?_⟩
      -- the store, and what is left where it is not done
      have yes : oL t wo x mv = some (mv.q, x.2.1 + mv.t.length, x.2.2 + lenW wo mv.g) → ∀ fv', ∃ s' : Unit, True ∧ ∃ (F' : List N3) (fw : Nat), F'.Nodup ∧ (∀ y, y ∈ F' ↔ (∃ x ∈ L.take i, y ∈ oLs M t wo x) ∨ y ∈ (M.moves.take (k + 1)).filterMap (oL t wo x)) ∧ (h ++ [MO.dict (kvT nv3 F) fv, .list (L.map nv3)]).set h.length (.dict (dput (kvT nv3 F) (nv3 (mv.q, x.2.1 + mv.t.length, x.2.2 + lenW wo mv.g)) (.bool true)) fv') = h ++ [.dict (kvT nv3 F') fw, .list (L.map nv3)] := fun ho fv' =>
        ⟨(), trivial, _, fv', put_nodup (y := (mv.q, x.2.1 + mv.t.length, x.2.2 + lenW wo mv.g)) fn, fun y => by rw [put_mem, ff y, et y, ho, or_assoc]; exact or_congr Iff.rfl (or_congr Iff.rfl ⟨fun e => by rw [e], fun e => (Option.some.inj e).symm⟩), by rw [set2a]; exact congrArg (fun z => h ++ [MO.dict z fv', MO.list (L.map nv3)]) (kvT_put' nv3_inj F _)⟩
      have no : ¬ (mv.s = x.1 ∧ fits t mv.t x.2.1 ∧ okW wo mv.g x.2.2) → ∃ (F' : List N3) (fv' : Nat), F'.Nodup ∧ (∀ y, y ∈ F' ↔ (∃ x ∈ L.take i, y ∈ oLs M t wo x) ∨ y ∈ (M.moves.take (k + 1)).filterMap (oL t wo x)) ∧ h ++ [MO.dict (kvT nv3 F) fv, .list (L.map nv3)] = h ++ [.dict (kvT nv3 F') fv', .list (L.map nv3)] := fun hc =>
        ⟨F, fv, fn, fun y => by rw [ff y, et y, show oL t wo x mv = none from if_neg hc]; exact or_congr Iff.rfl ⟨.inl, fun a => a.elim id (nomatch ·)⟩, rfl⟩
      cases wo with
      | none =>
        refine A_if (g := [.str []]) rfl ⟨fun _ => ⟨fun _ => ⟨fun h => (nomatch h), trivial⟩, trivial⟩, trivial⟩ (fun hc => ?_) fun hc => A_then (A_next () (by repeat (first | exact trivial | refine ⟨rfl, ?_⟩)) (no fun ⟨c1, c2, c3⟩ => ?_))
        · simp only [Bool.and_eq_true, decide_eq_true_eq] at hc
          have ho : oL t none x mv = some (mv.q, x.2.1 + mv.t.length, x.2.2 + lenW none mv.g) := if_pos ⟨by omega, hc.2.1, trivial⟩
          refine A_put (g := []) (g₂ := []) rfl (last2a ..) rfl ⟨.inr (by decide), trivial⟩ rfl trivial rfl (by unfold kvT; rw [List.length_map]; omega) fun fv' => A_then ?_
          obtain ⟨_, _, F', fv2, n1, n2, e3⟩ := yes ho fv'
          refine A_next () (by repeat (first | exact trivial | refine ⟨rfl, ?_⟩)) ⟨F', fv2, n1, n2, ?_⟩
          have ek : V.tup [.int mv.q, .int ((x.2.1 : Int) + mv.t.length), .int ((x.2.2 : Int) + mv.g.length * (if (!isNoneB (wV none)) = true then 1 else 0))] = nv3 (mv.q, x.2.1 + mv.t.length, x.2.2 + lenW none mv.g) := by
            show V.tup [.int mv.q, .int ((x.2.1 : Int) + mv.t.length), .int ((x.2.2 : Int) + mv.g.length * 0)] = _
            rw [Int.mul_zero]; rfl
          exact (congrArg (fun z => (h ++ [MO.dict (kvT nv3 F) fv, MO.list (L.map nv3)]).set h.length (.dict (dput (kvT nv3 F) z (.bool true)) fv')) ek).trans e3
        · rw [c1, decide_eq_true rfl, decide_eq_true c2] at hc; cases hc
      | some w =>
        refine A_if (g := [.str ((w.take (x.2.2 + mv.g.length)).drop x.2.2)]) rfl ⟨fun _ => ⟨fun _ => ⟨fun _ => ⟨fun Q q => x_slice (by have : mostW (some w) = w.length := rfl; omega) q, trivial⟩, trivial⟩, trivial⟩, trivial⟩ (fun hc => ?_) fun hc => A_then (A_next () (by repeat (first | exact trivial | refine ⟨rfl, ?_⟩)) (no fun ⟨c1, c2, c3⟩ => ?_))
        · simp only [Bool.and_eq_true, Bool.or_eq_true, decide_eq_true_eq] at hc
          have hc3 : fits w mv.g x.2.2 := hc.2.2.elim (fun e => nomatch e) id
          have ho : oL t (some w) x mv = some (mv.q, x.2.1 + mv.t.length, x.2.2 + lenW (some w) mv.g) := if_pos ⟨by omega, hc.2.1, hc3⟩
          refine A_put (g := []) (g₂ := []) rfl (last2a ..) rfl ⟨.inr (show (1 : Int).natAbs < 2 ^ 63 by decide), trivial⟩ rfl trivial rfl (by unfold kvT; rw [List.length_map]; omega) fun fv' => A_then ?_
          obtain ⟨_, _, F', fv2, n1, n2, e3⟩ := yes ho fv'
          refine A_next () (by repeat (first | exact trivial | refine ⟨rfl, ?_⟩)) ⟨F', fv2, n1, n2, ?_⟩
          have ek : V.tup [.int mv.q, .int ((x.2.1 : Int) + mv.t.length), .int ((x.2.2 : Int) + mv.g.length * (if (!isNoneB (wV (some w))) = true then 1 else 0))] = nv3 (mv.q, x.2.1 + mv.t.length, x.2.2 + lenW (some w) mv.g) := by
            show V.tup [.int mv.q, .int ((x.2.1 : Int) + mv.t.length), .int ((x.2.2 : Int) + mv.g.length * 1)] = _
            rw [Int.mul_one]; rfl
          exact (congrArg (fun z => (h ++ [MO.dict (kvT nv3 F) fv, MO.list (L.map nv3)]).set h.length (.dict (dput (kvT nv3 F) z (.bool true)) fv')) ek).trans e3
        · rw [c1, decide_eq_true rfl, decide_eq_true c2, decide_eq_true (show fits w mv.g x.2.2 from c3)] at hc; cases hc
    · rintro _ H' ⟨F, fv, fn, ff, rfl⟩
      rw [List.length_map, List.take_length] at ff
      refine A_next () (by repeat (first | exact trivial | refine ⟨rfl, ?_⟩)) ⟨F, fv, fn, fun y => ?_, rfl⟩
      rw [ff y, List.take_add_one, hx]
      constructor
      · rintro (⟨x', h1, h2⟩ | h1)
        · exact ⟨x', List.mem_append_left _ h1, h2⟩
        · exact ⟨x, List.mem_append_right _ (List.mem_singleton.mpr rfl), h1⟩
      · rintro ⟨x', h1, h2⟩
        rcases List.mem_append.mp h1 with h1 | h1
        · exact .inl ⟨x', h1, h2⟩
        · rw [List.mem_singleton.mp h1] at h2; exact .inr h2
  · rintro _ H' ⟨F, fv, fn, ff, rfl⟩
    rw [List.length_map, List.take_length] at ff
    exact A_ret (g := []) rfl trivial fun ρ => q _ _ F fv (List.prefix_append _ _) (last2a ..) fn ff
end
end Tw
end

section
namespace Tw

theorem kvT_puts {N : Type} {nv : N → V} (inj : ∀ a b, nv a = nv b → a = b) {K F : List N} (hn : (K ++ F).Nodup) : dputs (kvT nv K) (kvT nv F) = kvT nv (K ++ F) := by
  induction F generalizing K with
  | nil => rw [List.append_nil]; rfl
  | cons y r ih =>
    have hy : y ∉ K := fun h => (List.nodup_append.mp hn).2.2 y h y (List.mem_cons_self ..) rfl
    show dputs (dput (kvT nv K) (nv y) (.bool true)) (kvT nv r) = _
    rw [kvT_put inj hy, ih (by rw [List.append_assoc]; exact hn), List.append_assoc]; rfl
theorem pairs_kvT {N : Type} {nv : N → V} (hk : ∀ y, (nv y).isKey = true) (F : List N) : pairsOf (F.map fun y => V.tup [nv y, .bool true]) = some (kvT nv F) := by
  induction F with
  | nil => rfl
  | cons y r ih =>
    show (if (nv y).isKey = true then (pairsOf (r.map fun y => V.tup [nv y, .bool true])).map ((nv y, .bool true) :: ·) else none) = _
    rw [if_pos (hk y), ih]; rfl
theorem it_dict {h : H} {n ver : Nat} {es : List (V × V)} (x : h[n]? = some (.dict es ver)) : ∀ Q : It → Prop, Q (.keys n ver es.length 0) → IterW (.ref n) h Q := fun Q q => iter_dict x q
/-- e != [] -/
theorem A_ifne {C : Ora} (hC : MonoC C) {L : Env} {h : H} {e : E} {a b r : List S} {Q : Out → Rho → H → Prop} (x : AE C L h e fun v h₁ => ∃ (α : Type) (l : List α) (f : α → V) (fd : α → D) (n : Nat), v = .ref n ∧ h₁[n]? = some (.list (l.map f)) ∧ (∀ h x, Snap h (f x) (fd x)) ∧ (∀ x, D.ok 8 (fd x) = true) ∧ (l ≠ [] → AB C L (h₁ ++ [.list []]) a (thenB C r Q)) ∧ (l = [] → AB C L (h₁ ++ [.list []]) b (thenB C r Q))) :
    AB C L h (.ite (.cmp .ne e (.list [])) a b :: r) Q := fun ρ ag => by
  refine B_ite ?_
  rw [t_cmp]
  refine wpE_mono hC e (fun v h₁ ⟨α, l, f, fd, n, e1, hn, sn, ok, h1, h2⟩ => ?_) (x ρ ag)
  subst e1
  rw [e_list, es_nil, x_ne]
  refine x_eqd (d₁ := .list (l.map fd)) (d₂ := .list []) (.list (get_app hn) (snaps_map (sn _) l)) (.list (get_last _ _) .nil) ?_ rfl ?_
  · show (l.map fd).all (D.ok 8) = true
    rw [List.all_eq_true]
    intro d hd
    obtain ⟨y, _, rfl⟩ := List.mem_map.mp hd
    exact ok y
  · cases l with
    | nil => rw [List.map_nil, decide_eq_true rfl]; exact h2 rfl ρ ag
    | cons x r => rw [decide_eq_false (fun e => by injection e with e; cases e)]; exact h1 (fun e => nomatch e) ρ ag
theorem A_bi1 {C : Ora} (hC : MonoC C) {L : Env} {h : H} {b : Bi} {e : E} {Q : V → H → Prop} (x : AE C L h e fun v h₁ => BiW b [v] h₁ Q) : AE C L h (.bi b [e]) Q := fun ρ ag => x ρ ag
noncomputable def nd3 (x : N3) : D := .tup [.int x.1, .int x.2.1, .int x.2.2]
theorem snap3 (h : H) (x : N3) : Snap h (nv3 x) (nd3 x) := .tup (.cons (.int _) (.cons (.int _) (.cons (.int _) .nil)))
noncomputable def leL (v : V) (t : List Nat) (wo : Option (List Nat)) (k l : Nat) : Env := [(0, v), (1, .str t), (2, wV wo), (3, .ref k), (4, .ref l), (5, .int (mostW wo))]
noncomputable instance (M : Ma) (t : List Nat) (wo : Option (List Nat)) : DecidablePred (fin4 M t wo) := fun _ => Classical.propDecidable _

section
variable {Φ : Nat → Option Fn} {d : Nat} {h : H} {Q : V → H → Prop}
theorem least_ok {v : V} {M : Ma} {t : List Nat} {wo : Option (List Nat)} (h49 : Φ 49 = some L04.fn__law_least) (h51 : Φ 51 = some L04.fn__law_layer) (hm : IsMa h v M) (ok : M.ok) (ht : t.length < 1000) (hw : mostW wo < 1000) (hb : M.n * ((t.length + 1) * (mostW wo + 1)) < 100000)
    (qn : ∀ h', h <+: h' → (∀ p x, So M t wo p x → ¬ fin4 M t wo x) → Q .none h')
    (qs : ∀ h' p x, h <+: h' → So M t wo p x → fin4 M t wo x → (∀ p' x', So M t wo p' x' → fin4 M t wo x' → p.length ≤ p'.length) → Q (.int p.length) h') : Calls Φ (d + 2) 49 [v, .str t, wV wo] h Q := by
  have hm0 := hm
  obtain ⟨e, m, rfl, he, hmv⟩ := hm
  have mC := calls_mono (Φ := Φ) (d + 1)
  have hz := SZ_val
  have hn2 := ok.n2
  refine ⟨L04.fn__law_least, h49, rfl, A_fn (A_dict1 (g := []) (g₂ := []) rfl trivial rfl trivial rfl fun ver0 => A_name mC (A_bi (g := []) rfl trivial ?_))⟩
  refine x_dd (get_last _ _) fun ver1 => ?_
  rw [List.append_assoc, List.length_append]
  refine A_set (g := []) rfl trivial ?_
  have five : ∀ (r : List S) (Q' : Out → Rho → Tw.H → Prop) (H : Tw.H), AB (Calls Φ (d + 1)) (leL (.tup [.int M.n, .int M.b, .ref e, .ref m]) t wo h.length (h.length + 1)) H r Q' → AB (Calls Φ (d + 1)) ((5, .int 0) :: (4, .ref (h.length + 1)) :: (3, .ref h.length) :: argsL 0 [.tup [.int M.n, .int M.b, .ref e, .ref m], .str t, wV wo]) H (.ite (.cmp .isNot (.var 2) (.lit .none)) [.assign (.name 5) (.bi .len [(.var 2)])] [] :: r) Q' := by
    intro r Q' H x
    cases wo with
    | none => exact A_if (g := []) rfl trivial (fun h => nomatch h) fun _ => A_then fun ρ ag => x ρ (AllIn.ag ag (by repeat (first | exact trivial | refine ⟨rfl, ?_⟩)))
    | some w => exact A_if (g := []) rfl trivial (fun _ => A_set (g := []) rfl trivial (A_then fun ρ ag => x ρ (AllIn.ag ag (by repeat (first | exact trivial | refine ⟨rfl, ?_⟩))))) fun h => nomatch h
  refine five _ _ _ ?_
  generalize hH0 : h ++ ([MO.dict [(V.tup [.int M.b, .int 0, .int 0], .bool true)] ver0] ++ [MO.dict [(V.tup [.int M.b, .int 0, .int 0], .bool true)] ver1]) = H0
  have p0 : h <+: H0 := ⟨_, hH0⟩
  have k0 : H0[h.length]? = some (.dict (kvT nv3 [(M.b, 0, 0)]) ver0) := by rw [← hH0]; exact last2a ..
  have l0 : H0[h.length + 1]? = some (.dict (kvT nv3 [(M.b, 0, 0)]) ver1) := by rw [← hH0]; exact len2 ..
  clear hH0
  have inBox : ∀ F : List N3, F.Nodup → (∀ y ∈ F, ∃ k, Wn (M.b, 0, 0) (oLs M t wo) k y) → F.length < 100000 := fun F fn hf => by
    have := nodup_le F (box3 M.n (t.length + 1) (mostW wo + 1)) fn fun y hy => by
      obtain ⟨k, hk⟩ := hf y hy
      obtain ⟨p, _, s⟩ := (wn_so ok).mp hk
      exact so_box ok s
    rw [box3_len] at this; omega
  have eU : M.n * (1 + t.length) * (1 + mostW wo) = M.n * ((t.length + 1) * (mostW wo + 1)) := by rw [Nat.mul_assoc, Nat.add_comm 1, Nat.add_comm 1]
  have hU : 1 + M.n * (1 + t.length) * (1 + mostW wo) < 2147483648 := by rw [eU]; omega
  refine A_for mC (goes_range (1 + M.n * (1 + t.length) * (1 + mostW wo))) (fun l : Nat => leL (.tup [.int M.n, .int M.b, .ref e, .ref m]) t wo h.length l) (fun k l H => ∃ K L ver lv, K.Nodup ∧ L.Nodup ∧ Lay (M.b, 0, 0) (oLs M t wo) k K L ∧ h <+: H ∧ H[h.length]? = some (.dict (kvT nv3 K) ver) ∧ H[l]? = some (.dict (kvT nv3 L) lv) ∧ (∀ d x, d < k → Dist (M.b, 0, 0) (oLs M t wo) d x → ¬ fin4 M t wo x)) (h.length + 1) (by repeat (first | exact trivial | refine ⟨rfl, ?_⟩)) (A_ev (g := []) (v := .rng 0 ((1 + M.n * (1 + t.length) * (1 + mostW wo) : Nat) : Int) 1) rfl ⟨mulOk_r _ (by omega), mulOk_r _ (by omega), small_nat hU, trivial⟩ ⟨fun _ q => q, [(M.b, 0, 0)], [(M.b, 0, 0)], ver0, ver1, by simp, by simp, .start, p0, k0, l0, fun d x hd => absurd hd (Nat.not_lt_zero _)⟩) (fun _ _ _ _ => trivial) ?_ ?_
  · rintro k v l H hv ⟨K, L, ver, lv, kn, ln, la, hp, hK, hL, hno⟩
    obtain ⟨k', hk', rfl, hkm⟩ := map_at hv
    have : k' = k := by rw [List.getElem?_range (by simpa using hkm)] at hk'; exact (Option.some.inj hk').symm
    subst this
    have hLl := inBox L ln fun y hy => ⟨k', ((la.layer y).mp hy).1⟩
    have hKl := inBox K kn fun y hy => by obtain ⟨j, _, hw⟩ := (la.known y).mp hy; exact ⟨j, hw⟩
    refine A_ifne mC (A_compIf mC (kvT_keys nv3 L ▸ goes_keys l lv (kvT nv3 L)) (l := L) (f := nv3) (ga := fun y => if fin4 M t wo y then some (nv3 y) else none) (g := []) rfl trivial (it_dict hL) hL (by omega) ?_ ?_)
    · intro y hy
      refine ⟨[.bool (decide (y.1 ∈ M.ends))], _, _, _, rfl, ⟨cm_inN (pre_get hp he), trivial⟩, isS_if (Bool.eq_iff_iff.mpr ?_), fun w hw' => ?_⟩
      · simp only [Bool.and_eq_true, decide_eq_true_eq]
        exact and_congr Iff.rfl (and_congr Int.ofNat_inj Int.ofNat_inj)
      · obtain ⟨_, rfl⟩ := some_if hw'
        exact ⟨[], _, _, rfl, trivial⟩
    rw [fm_filter]
    refine ⟨N3, L.filter fun y => decide (fin4 M t wo y), nv3, nd3, H.length, rfl, get_last _ _, snap3, fun _ => rfl, fun hne => ?_, fun hem => A_then ?_⟩
    · obtain ⟨x, r, ex⟩ := List.exists_cons_of_ne_nil hne
      have hx : x ∈ L.filter fun y => decide (fin4 M t wo y) := by rw [ex]; exact List.mem_cons_self ..
      obtain ⟨hxL, hf⟩ := List.mem_filter.mp hx
      obtain ⟨p, s, hpl, hmin⟩ := first_final ok ((la.layer x).mp hxL) hno
      refine A_ret (g := []) rfl trivial fun ρ => ?_
      subst hpl
      exact qs _ p x ((hp.trans (List.prefix_append _ _)).trans (List.prefix_append _ _)) s (of_decide_eq_true hf) hmin
    generalize hH2 : H ++ [MO.list ((L.filter fun y => decide (fin4 M t wo y)).map nv3)] ++ [MO.list []] = H2
    have p2 : H <+: H2 := by rw [← hH2, List.append_assoc]; exact List.prefix_append _ _
    clear hH2
    have hno' : ∀ d x, d < k' + 1 → Dist (M.b, 0, 0) (oLs M t wo) d x → ¬ fin4 M t wo x := fun d x hd hx hf => by
      rcases Nat.lt_or_ge d k' with h1 | h1
      · exact hno d x h1 hx hf
      · have : d = k' := by omega
        subst this
        have : x ∈ L.filter fun y => decide (fin4 M t wo y) := List.mem_filter.mpr ⟨(la.layer x).mpr hx, decide_eq_true hf⟩
        rw [hem] at this; cases this
    have hK := pre_get p2 hK
    have hL := pre_get p2 hL
    have hp := hp.trans p2
    clear p2
    refine A_call mC (g := []) rfl trivial (layer_ok h51 (hm0.pre hp) ok hL (fun x hx => ?_) ht hw (fun F fn hf => ?_) fun H3 r F fv p3 hF fn ff => ?_)
    · obtain ⟨p, _, s⟩ := (wn_so ok).mp ((la.layer x).mp hx).1
      have h1 := s.rd.length_le
      have h2 := s.i
      refine ⟨by omega, ?_⟩
      rw [s.j]
      have h3 := s.wr
      cases wo with
      | none => exact Nat.le_refl _
      | some w => exact List.IsPrefix.length_le h3
    · have := inBox F fn fun y hy => by
        obtain ⟨x, hx, hy⟩ := hf y hy
        exact ⟨k' + 1, x, ((la.layer x).mp hx).1, hy⟩
      omega
    have hK := pre_get p3 hK
    have hp := hp.trans p3
    have hFl := inBox F fn fun y hy => by
      obtain ⟨x, hx, hy⟩ := (ff y).mp hy
      exact ⟨k' + 1, x, ((la.layer x).mp hx).1, hy⟩
    refine A_name mC (A_bi1 mC (A_compIf mC (kvT_keys nv3 F ▸ goes_keys r fv (kvT nv3 F)) (l := F) (f := nv3) (ga := fun y => if y ∉ K then some (.tup [nv3 y, .bool true]) else none) (g := []) rfl trivial (it_dict hF) hF (by omega) ?_ ?_))
    · intro y hy
      refine ⟨[.bool (!decide (y ∈ K))], _, _, _, rfl, ⟨cm_nin hK rfl (by rw [kvT_keys]; exact nv_mem nv3_inj), trivial⟩, isS_if (Bool.eq_iff_iff.mpr (by simp)), fun w hw' => ?_⟩
      obtain ⟨_, rfl⟩ := some_if hw'
      exact ⟨[], _, _, rfl, trivial⟩
    rw [fm_filter]
    have ln' : (F.filter fun y => decide (y ∉ K)).Nodup := fn.sublist List.filter_sublist
    have hL' : ∀ x, x ∈ (F.filter fun y => decide (y ∉ K)) ↔ (∃ y ∈ L, x ∈ oLs M t wo y) ∧ x ∉ K := fun x => by rw [List.mem_filter, ff x, decide_eq_true_eq]
    have hfl : (F.filter fun y => decide (y ∉ K)).length ≤ F.length := List.length_filter_le _ _
    generalize F.filter (fun y => decide (y ∉ K)) = L' at ln' hL' hfl
    have kn' : (K ++ L').Nodup := List.nodup_append.mpr ⟨kn, ln', fun a ha b hb e => ((hL' b).mp hb).2 (e ▸ ha)⟩
    refine x_dl (get_last _ _) (pairs_kvT nv3_key L') fun ver2 => ?_
    rw [show dputs [] (kvT nv3 L') = kvT nv3 L' from kvT_puts nv3_inj (K := []) ln']
    have g1 := get_app (t := [MO.list (L'.map fun y => V.tup [nv3 y, .bool true])] ++ [MO.dict (kvT nv3 L') ver2]) hK
    rw [List.append_assoc]
    have g2 : (H3 ++ ([MO.list (L'.map fun y => V.tup [nv3 y, .bool true])] ++ [MO.dict (kvT nv3 L') ver2]))[(H3 ++ [MO.list (L'.map fun y => V.tup [nv3 y, .bool true])]).length]? = some (.dict (kvT nv3 L') ver2) := by rw [← List.append_assoc]; exact get_last _ _
    have p4 : h <+: H3 ++ ([MO.list (L'.map fun y => V.tup [nv3 y, .bool true])] ++ [MO.dict (kvT nv3 L') ver2]) := hp.trans (List.prefix_append _ _)
    have hlt : h.length < (H3 ++ [MO.list (L'.map fun y => V.tup [nv3 y, .bool true])]).length := by
      have := get_lt hK
      rw [List.length_append]; omega
    generalize (H3 ++ [MO.list (L'.map fun y => V.tup [nv3 y, .bool true])]).length = l2 at g2 hlt ⊢
    generalize H3 ++ ([MO.list (L'.map fun y => V.tup [nv3 y, .bool true])] ++ [MO.dict (kvT nv3 L') ver2]) = H4 at g1 g2 p4 ⊢
    intro ρ ag
    refine B_expr ?_
    rw [e_meth, e_vk, ag 3 _ rfl, vk_some, es_cons, e_vk, ag 4 _ rfl, vk_some, es_nil]
    have hKne : kvT nv3 K ≠ [] := fun e => by
      have : K = [] := List.map_eq_nil_iff.mp e
      have h0 : (M.b, 0, 0) ∈ K := (la.known _).mpr ⟨0, Nat.zero_le _, rfl⟩
      rw [this] at h0; cases h0
    refine ⟨x_ru g1, x_upd (by omega) g1 g2 hKne (by unfold kvT; rw [List.length_map, List.length_map]; omega) fun ver3 => ?_⟩
    rw [kvT_puts nv3_inj kn']
    exact A_next l2 (by repeat (first | exact trivial | refine ⟨rfl, ?_⟩)) ⟨K ++ L', L', ver3, ver2, kn', ln', la.next hL' fun x => List.mem_append, pre_set p4 (Nat.le_refl _) _, List.getElem?_set_self (get_lt g1), by rw [List.getElem?_set_ne (by omega)]; exact g2, hno'⟩ ρ ag
  · rintro l H ⟨K, L, ver, lv, kn, ln, la, hp, hK, hL, hno⟩
    rw [List.length_map, List.length_range] at hno
    exact A_ret (g := []) rfl trivial fun ρ => qn _ hp fun p x s => none_final ok (by omega) hno s
end
end Tw
end

section
namespace Tw
section
variable {Φ : Nat → Option Fn} {d : Nat} {h : H} {Q : V → H → Prop}
noncomputable def teL (sn : Nat) (s : Int × List Nat) : Env := [(0, .int s.1), (1, .ref sn), (2, .str s.2)]
theorem text4_ok {c : Int} {sv : V} (h29 : Φ 29 = some L04.fn__law_text) (hS : SignsAt h sv) (cont : ∀ t : List Nat, t.length < 6 → Q (.str t) h) : Calls Φ (d + 1) 29 [.int c, sv] h Q := by
  obtain ⟨sn, a, b, e, rfl, hsg⟩ := hS
  have mC := calls_mono (Φ := Φ) d
  have hz := SZ_val
  obtain ⟨k1, e1, l1⟩ := fmod_nat c (b := 6) (by decide)
  refine ⟨L04.fn__law_text, h29, rfl, A_fn (A_set (g := []) rfl trivial ?_)⟩
  refine A_for mC (goes_range k1) (teL sn) (fun i s H => H = h ∧ s.2.length ≤ i) (c, []) (by repeat (first | exact trivial | refine ⟨rfl, ?_⟩)) (A_ev (g := []) rfl ⟨by decide, by rw [e1]; exact small_nat (by omega), trivial⟩ ⟨fun _ q => by rw [e1]; exact q, rfl, Nat.le_refl _⟩) (fun _ _ _ _ => trivial) ?_ ?_
  · rintro i v ⟨c, t⟩ H hv ⟨rfl, hl⟩
    obtain ⟨k', hk', rfl, hkm⟩ := map_at hv
    rw [List.length_range] at hkm
    dsimp only at hl
    obtain ⟨k2, e2, l2⟩ := fmod_nat (c.fdiv 6) (b := 3) (by decide)
    obtain ⟨s1, g1, z1⟩ := four (a := a) (b := b) (e := e) (k := k2 + 1) (by omega)
    refine A_set (g := []) rfl ⟨by decide, trivial⟩ ?_
    refine A_set (g := [.str s1]) rfl ⟨by decide, ?_, (show t.length + s1.length ≤ SZ by omega), trivial⟩ (A_next (c.fdiv 6, t ++ s1) (by repeat (first | exact trivial | refine ⟨rfl, ?_⟩)) ⟨rfl, by show (t ++ s1).length ≤ _; rw [List.length_append]; omega⟩)
    rw [show (1 + (c.fdiv 6).fmod 3 : Int) = ((k2 + 1 : Nat) : Int) from by rw [e2]; omega]
    exact rd_list hsg (by omega) g1
  · rintro ⟨c, t⟩ H ⟨rfl, hl⟩
    rw [List.length_map, List.length_range] at hl
    exact A_ret (g := []) rfl trivial fun ρ => cont t (by dsimp only at hl; omega)

theorem rd_last {n : Nat} {vs : List V} {v : V} (x : h[n]? = some (.list (vs ++ [v]))) : RdW h (.ref n) (.int (-1)) v := fun R q => by
  unfold SubW; dsimp only; rw [x]; exact .inr ⟨v, rfl, by simp, q⟩
noncomputable def wkL (v : V) (c : Int) (l s : Nat) : Env := [(0, v), (1, .int c), (3, .ref l), (4, .int s)]
theorem walk4_ok {c : Int} {v : V} {M : Ma} {many : Nat} (h32 : Φ 32 = some L04.fn__law_walk) (hm : IsMa h v M) (ok : M.ok) (hmany : many ≤ 200)
    (q : ∀ h' r (p : List Nat), h <+: h' → h'[r]? = some (.list (p.map natV)) → p.length ≤ many → (∀ k ∈ p, k < M.moves.length) → Q (.ref r) h') : Calls Φ (d + 1) 32 [v, .int c, .int many] h Q := by
  obtain ⟨e, m, rfl, he, hmv⟩ := hm
  have mC := calls_mono (Φ := Φ) d
  have hz := SZ_val
  have hl1 := ok.l1
  have hml : m ≠ h.length := Nat.ne_of_lt (get_lt hmv)
  refine ⟨L04.fn__law_walk, h32, rfl, A_fn (A_list0 (A_set (g := []) rfl trivial ?_))⟩
  refine A_for mC (goes_range many) (wkL (.tup [.int M.n, .int M.b, .ref e, .ref m]) c h.length) (fun i s H => ∃ p : List Nat, H[h.length]? = some (.list (p.map natV)) ∧ h <+: H ∧ p.length ≤ i ∧ ∀ k ∈ p, k < M.moves.length) M.b (by repeat (first | exact trivial | refine ⟨rfl, ?_⟩)) (A_ev (g := []) rfl ⟨small_nat (by omega), trivial⟩ ⟨fun _ q => q, [], get_last _ _, List.prefix_append _ _, Nat.le_refl _, fun k hk => nomatch hk⟩) (fun _ _ _ _ => trivial) ?_ ?_
  · rintro i v s H hv ⟨p, hL, hp, hpl, hpk⟩
    obtain ⟨k', hk', rfl, hkm⟩ := map_at hv
    have : k' = i := by rw [List.getElem?_range (by simpa using hkm)] at hk'; exact (Option.some.inj hk').symm
    subst this
    rw [List.length_range] at hkm
    have hmv := pre_get hp hmv
    refine A_name mC (A_compIf mC (goes_range M.moves.length) (l := List.range M.moves.length) (f := natV) (ga := fun k => if (M.moves[k]?.map Mv.s) = some s then some (natV k) else none) (g := [.int M.moves.length]) rfl ⟨ln_map hmv, small_nat (by omega), trivial⟩ (fun _ q => q) trivial (by rw [List.length_range]; omega) ?_ ?_)
    · intro k hk
      have hk := List.mem_range.mp hk
      obtain ⟨mv, hmk⟩ : ∃ mv, M.moves[k]? = some mv := ⟨_, List.getElem?_eq_getElem hk⟩
      refine ⟨[mv.v], _, _, _, rfl, ⟨rd_list hmv (by omega) (by rw [List.getElem?_map, hmk]; rfl), trivial⟩, isS_if (Bool.eq_iff_iff.mpr ?_), fun w hw => ?_⟩
      · rw [hmk, decide_eq_true_eq, decide_eq_true_eq]
        exact ⟨fun h => congrArg some (Int.ofNat_inj.mp h), fun h => congrArg Int.ofNat (Option.some.inj h)⟩
      · obtain ⟨_, rfl⟩ := some_if hw
        exact ⟨[], _, _, rfl, trivial⟩
    rw [fm_filter]
    have hsub : ∀ k ∈ (List.range M.moves.length).filter (fun k => decide ((M.moves[k]?.map Mv.s) = some s)), k < M.moves.length := fun k hk => List.mem_range.mp (List.mem_filter.mp hk).1
    have hlen : ((List.range M.moves.length).filter (fun k => decide ((M.moves[k]?.map Mv.s) = some s))).length ≤ M.moves.length := by have := List.length_filter_le (fun k => decide ((M.moves[k]?.map Mv.s) = some s)) (List.range M.moves.length); rwa [List.length_range] at this
    generalize (List.range M.moves.length).filter _ = G at hsub hlen
    refine A_ifne mC (A_ev (g := []) rfl trivial ⟨Nat, G, natV, fun k => .int k, H.length, rfl, get_last _ _, fun _ _ => .int _, fun _ => rfl, fun hne => ?_, fun _ => A_then (A_next s (by repeat (first | exact trivial | refine ⟨rfl, ?_⟩)) ⟨p, get_app (get_app hL), (hp.trans (List.prefix_append _ _)).trans (List.prefix_append _ _), by omega, hpk⟩)⟩)
    have g6 : (H ++ [MO.list (G.map natV)] ++ [MO.list []])[H.length]? = some (.list (G.map natV)) := get_app (get_last _ _)
    have gL : (H ++ [MO.list (G.map natV)] ++ [MO.list []])[h.length]? = some (.list (p.map natV)) := get_app (get_app hL)
    have gm : (H ++ [MO.list (G.map natV)] ++ [MO.list []])[m]? = some (.list (M.moves.map Mv.v)) := get_app (get_app hmv)
    have hp2 : h <+: H ++ [MO.list (G.map natV)] ++ [MO.list []] := (hp.trans (List.prefix_append _ _)).trans (List.prefix_append _ _)
    have hHl := get_lt hL
    generalize H ++ [MO.list (G.map natV)] ++ [MO.list []] = H2 at g6 gL gm hp2
    have hpos : 0 < G.length := List.length_pos_iff.mpr hne
    obtain ⟨m1, m2, m3⟩ := mul_small8 c k' (by omega)
    obtain ⟨k1, e1, z1⟩ := fmod_nat (((c + 7919 * (k' : Int) * (k' : Int)) * 48271).fmod 2147483647) (b := G.length) (by omega)
    obtain ⟨kk, hkk⟩ : ∃ kk, G[k1]? = some kk := ⟨_, List.getElem?_eq_getElem (by omega)⟩
    have hkl := hsub kk (List.mem_of_getElem? hkk)
    obtain ⟨mv, hmk⟩ : ∃ mv, M.moves[kk]? = some mv := ⟨_, List.getElem?_eq_getElem hkl⟩
    refine A_app rfl gL (by rw [List.length_map]; omega) (g := [.int G.length, natV kk]) rfl ⟨m1, m2, m3, by decide, ln_map g6, by omega, by rw [e1]; exact rd_list g6 (by omega) (by rw [List.getElem?_map, hkk]; rfl), trivial⟩ ?_
    have gL2 : (H2.set h.length (.list (p.map natV ++ [natV kk])))[h.length]? = some (.list (p.map natV ++ [natV kk])) := List.getElem?_set_self (get_lt gL)
    refine A_set (g := [natV kk, mv.v]) rfl ⟨rd_last gL2, rd_list (by rw [List.getElem?_set_ne (Ne.symm hml)]; exact gm) (by omega) (by rw [List.getElem?_map, hmk]; rfl), trivial⟩ (A_then (A_next mv.q (by repeat (first | exact trivial | refine ⟨rfl, ?_⟩)) ⟨p ++ [kk], by rw [List.map_append]; exact gL2, pre_set hp2 (Nat.le_refl _) _, by rw [List.length_append]; exact Nat.succ_le_succ hpl, fun k hk => ?_⟩))
    rcases List.mem_append.mp hk with hk | hk
    · exact hpk k hk
    · rw [List.mem_singleton.mp hk]; exact hkl
  · rintro s H ⟨p, hL, hp, hpl, hpk⟩
    rw [List.length_map, List.length_range] at hpl
    exact A_ret (g := []) rfl trivial fun ρ => q _ _ p hp hL hpl hpk
end
end Tw
end

section
namespace Tw
section
variable {Φ : Nat → Option Fn} {d : Nat} {h : H} {Q : V → H → Prop}

noncomputable def jnL (v : V) (r : Nat) : Env := [(2, v), (5, .ref r)]
theorem sums_le {α : Type} (f : α → List Nat) (l : List α) (h : ∀ x ∈ l, (f x).length ≤ 1) : ((l.map f).map List.length).sum ≤ l.length := by
  induction l with
  | nil => exact Nat.le_refl _
  | cons x r ih =>
    have h1 := h x (List.mem_cons_self ..)
    have h2 := ih fun y hy => h y (List.mem_cons_of_mem _ hy)
    rw [List.map_cons, List.map_cons, List.sum_cons, List.length_cons]; omega
theorem join4 {C : Ora} (mC : MonoC C) {vA : V} {M : Ma} {r : Nat} {p : List Nat} (j : Nat) (hj : j = 1 ∨ j = 2) (hA : IsMa h vA M) (ok : M.ok) (hr : h[r]? = some (.list (p.map natV))) (hpk : ∀ k ∈ p, k < M.moves.length) (hpl : p.length ≤ 1000) (q : ∀ t H', h <+: H' → t.length ≤ p.length → Q (.str t) H') :
    AE C (jnL vA r) h (.meth .join (.lit (.str [])) [(.comp (.sub (.sub (.sub (.var 2) (.lit (.int 3))) (.var 22)) (.lit (.int j))) (.name 22) (.var 5) none)]) Q := fun ρ ag => by
  have hz := SZ_val
  obtain ⟨e, m, rfl, he, hmv⟩ := hA
  have hl1 := ok.l1
  rw [e_meth, e_lit]
  refine ⟨trivial, ?_⟩
  rw [es_cons]
  have gen : ∀ (sg : Nat → List Nat), (∀ k ∈ p, (sg k).length ≤ 1) → (∀ k mv, M.moves[k]? = some mv → ∃ g₀ cs g₁, ev ((22, natV k) :: jnL (.tup [.int M.n, .int M.b, .ref e, .ref m]) r) h (.sub (.sub (.sub (.var 2) (.lit (.int 3))) (.var 22)) (.lit (.int j))) g₀ = some (.str (sg k), cs, g₁) ∧ AllP cs) → wpE C (.comp (.sub (.sub (.sub (.var 2) (.lit (.int 3))) (.var 22)) (.lit (.int j))) (.name 22) (.var 5) none) ρ h fun v h₁ => wpEs C [] ρ h₁ fun vs h₂ => MethW .join (.str []) (v :: vs) h₂ Q := by
    intro sg hs hev
    refine A_comp mC (goes_seq r _) (l := p) (f := natV) (w := fun k => .str (sg k)) (L := jnL (.tup [.int M.n, .int M.b, .ref e, .ref m]) r) (e := .var 5) (v := .ref r) (c := []) (g := []) rfl trivial (it_list hr) hr (by omega) (fun k hk => ?_) ?_ ρ ag
    · obtain ⟨mv, hmk⟩ : ∃ mv, M.moves[k]? = some mv := ⟨_, List.getElem?_eq_getElem (hpk k hk)⟩
      exact hev k mv hmk
    · rw [es_nil, x_join (get_last _ _) (isStrs_map sg p)]
      have hsum := sums_le sg p hs
      refine ⟨by omega, q _ _ (List.prefix_append _ _) ?_⟩
      rw [joinS_flat, List.length_flatten]; exact hsum
  have sub : ∀ k mv, M.moves[k]? = some mv → RdW h (.ref m) (natV k) mv.v := fun k mv hmk => rd_list hmv (by have := (List.getElem?_eq_some_iff.mp hmk).1; omega) (by rw [List.getElem?_map, hmk]; rfl)
  have one : ∀ k ∈ p, ∃ mv, M.moves[k]? = some mv ∧ mv.t.length ≤ 1 ∧ mv.g.length ≤ 1 := fun k hk => by
    have hmk := List.getElem?_eq_getElem (hpk k hk)
    have := ok.m1 _ (List.mem_of_getElem? hmk)
    exact ⟨_, hmk, this.2.2.1, this.2.2.2⟩
  rcases hj with rfl | rfl
  · refine gen (fun k => (M.moves[k]?.map Mv.t).getD []) (fun k hk => ?_) fun k mv hmk => ?_
    · obtain ⟨mv, hmk, a, _⟩ := one k hk
      rw [hmk]; exact a
    · rw [hmk]
      exact ⟨[mv.v], _, _, rfl, sub k mv hmk, trivial⟩
  · refine gen (fun k => (M.moves[k]?.map Mv.g).getD []) (fun k hk => ?_) fun k mv hmk => ?_
    · obtain ⟨mv, hmk, _, a⟩ := one k hk
      rw [hmk]; exact a
    · rw [hmk]
      exact ⟨[mv.v], _, _, rfl, sub k mv hmk, trivial⟩

theorem law04 {xs : List Int} (h0 : Φ 0 = some fn_need) (h1 : Φ 1 = some fn_checked) (h2 : Φ 2 = some fn_leaving) (h3 : Φ 3 = some fn_gone_on) (h4 : Φ 4 = some fn_told_back) (h5 : Φ 5 = some fn_way) (h6 : Φ 6 = some fn_reads)
    (h24 : Φ 24 = some L04.fn_law) (h25 : Φ 25 = some fn__law_cell) (h26 : Φ 26 = some fn__law_signs) (h27 : Φ 27 = some L04.fn__law_machine) (h29 : Φ 29 = some L04.fn__law_text) (h32 : Φ 32 = some L04.fn__law_walk) (h49 : Φ 49 = some L04.fn__law_least) (h51 : Φ 51 = some L04.fn__law_layer)
    (hx : h[0]? = some (.frz (xs.map V.int))) (hxl : xs.length ≤ 63) : Calls Φ (d + 6) 24 [.ref 0] h fun v _ => v = .bool true := by
  refine ⟨L04.fn_law, h24, rfl, A_fn ?_⟩
  have mC := calls_mono (Φ := Φ) (d + 5)
  have hz := SZ_val
  refine A_name mC fun ρ ag => ?_
  simp [e_lit, e_vk, vk_some, e_bin, e_neg, e_not, e_and, e_or, e_cmp, e_cmp2, e_sub, e_slice, e_tup, e_list, e_dict0, e_dict1, e_call, e_bi, e_isinst, e_meth, es_nil, es_cons, o_none, o_some, t_not, t_and, t_or, t_cmp, t_cmp2, t_lit, t_vk, t_call, t_isinst, t_meth, x_bn, x_bt, u_nil, u_cons, upd_eq, upd_ne, argsR, x_addi, x_adds, x_subi, x_muli, x_fdiv, x_mod, x_tb, x_tn, x_eqi, x_eqs, x_eqb, x_nei, x_nes, x_lt, x_le, x_gt, x_ge, x_isn, x_isnn, x_isb, x_isnb, x_st0, x_st1, x_st2, x_st3, x_ss, x_lens, x_lent, x_r1, x_r2, x_r3, x_lr, x_rj, x_iil, x_iib, x_iss, x_itt, x_inn, ag 0 _ rfl]
  refine cell_ok (k := 0) h25 hx (by decide) ?_
  refine signs_ok h26 fun a b e => ?_
  generalize hh1 : h ++ [MO.list [V.str [], V.str [a], V.str [b], V.str [e]]] = H₁
  have p1 : h <+: H₁ := ⟨_, hh1⟩
  have hS : SgAt H₁ (.ref h.length) [a, b, e] := ⟨_, a, b, e, rfl, rfl, by rw [← hh1]; exact get_last _ _⟩
  generalize hcs : [a, b, e] = cs at hS
  generalize V.ref h.length = sv at hS ⊢
  clear hh1 hcs ag ρ
  refine A_name mC fun ρ ag => ?_
  simp [e_lit, e_vk, vk_some, e_bin, e_neg, e_not, e_and, e_or, e_cmp, e_cmp2, e_sub, e_slice, e_tup, e_list, e_dict0, e_dict1, e_call, e_bi, e_isinst, e_meth, es_nil, es_cons, o_none, o_some, t_not, t_and, t_or, t_cmp, t_cmp2, t_lit, t_vk, t_call, t_isinst, t_meth, x_bn, x_bt, u_nil, u_cons, upd_eq, upd_ne, argsR, x_addi, x_adds, x_subi, x_muli, x_fdiv, x_mod, x_tb, x_tn, x_eqi, x_eqs, x_eqb, x_nei, x_nes, x_lt, x_le, x_gt, x_ge, x_isn, x_isnn, x_isb, x_isnb, x_st0, x_st1, x_st2, x_st3, x_ss, x_lens, x_lent, x_r1, x_r2, x_r3, x_lr, x_rj, x_iil, x_iib, x_iss, x_itt, x_inn, ag 0 _ rfl, ag 1 _ rfl]
  refine cell_ok (k := 1) h25 (pre_get p1 hx) (by decide) ?_
  refine ⟨xs.map V.int, 4, 16, .inr (pre_get p1 hx), by decide, by simp [hiOf], ?_⟩
  refine mach_ok3 (a := 5) (b := 25) (ys := (xs.take 16).drop 4) h27 (by decide) (by decide) (by decide) (by decide) (by simp) (by simp; omega) (hS.pre (List.prefix_append _ _)) fun vA H₂ M p2 hA oA nA eA mA wA => ?_
  have p2 := (List.prefix_append _ _).trans p2
  have hS := hS.pre p2
  have p2 := p1.trans p2
  clear p1 ag ρ
  refine A_name mC fun ρ ag => ?_
  simp [e_lit, e_vk, vk_some, e_bin, e_neg, e_not, e_and, e_or, e_cmp, e_cmp2, e_sub, e_slice, e_tup, e_list, e_dict0, e_dict1, e_call, e_bi, e_isinst, e_meth, es_nil, es_cons, o_none, o_some, t_not, t_and, t_or, t_cmp, t_cmp2, t_lit, t_vk, t_call, t_isinst, t_meth, x_bn, x_bt, u_nil, u_cons, upd_eq, upd_ne, argsR, x_addi, x_adds, x_subi, x_muli, x_fdiv, x_mod, x_tb, x_tn, x_eqi, x_eqs, x_eqb, x_nei, x_nes, x_lt, x_le, x_gt, x_ge, x_isn, x_isnn, x_isb, x_isnb, x_st0, x_st1, x_st2, x_st3, x_ss, x_lens, x_lent, x_r1, x_r2, x_r3, x_lr, x_rj, x_iil, x_iib, x_iss, x_itt, x_inn, ag 0 _ rfl, ag 1 _ rfl]
  refine cell_ok (k := 2) h25 (pre_get p2 hx) (by decide) ?_
  refine text4_ok h29 hS.at fun t tl => ?_
  clear ag ρ
  refine A_name mC fun ρ ag => ?_
  simp [e_lit, e_vk, vk_some, e_bin, e_neg, e_not, e_and, e_or, e_cmp, e_cmp2, e_sub, e_slice, e_tup, e_list, e_dict0, e_dict1, e_call, e_bi, e_isinst, e_meth, es_nil, es_cons, o_none, o_some, t_not, t_and, t_or, t_cmp, t_cmp2, t_lit, t_vk, t_call, t_isinst, t_meth, x_bn, x_bt, u_nil, u_cons, upd_eq, upd_ne, argsR, x_addi, x_adds, x_subi, x_muli, x_fdiv, x_mod, x_tb, x_tn, x_eqi, x_eqs, x_eqb, x_nei, x_nes, x_lt, x_le, x_gt, x_ge, x_isn, x_isnn, x_isb, x_isnb, x_st0, x_st1, x_st2, x_st3, x_ss, x_lens, x_lent, x_r1, x_r2, x_r3, x_lr, x_rj, x_iil, x_iib, x_iss, x_itt, x_inn, ag 0 _ rfl, ag 1 _ rfl]
  refine cell_ok (k := 3) h25 (pre_get p2 hx) (by decide) ?_
  refine text4_ok h29 hS.at fun w wl => ?_
  clear ag ρ
  have key : ∀ (L : Env) (H : Tw.H) (t w : List Nat), H₂ <+: H → t.length ≤ 10 → w.length ≤ 10 → lk L 2 = some vA → lk L 3 = some (.str t) → lk L 4 = some (.str w) → AB (Calls Φ (d + 5)) L H (L04.fn_law.body.drop 5) fun o _ h' => o.val = .bool true := by
    intro L H t w p3 tl wl l2 l3 l4
    have hA := hA.pre p3
    have bw : M.n * ((t.length + 1) * (w.length + 1)) ≤ 5 * (11 * 11) := Nat.mul_le_mul nA (Nat.mul_le_mul (by omega) (by omega))
    have b1 : M.n * ((t.length + 1) * (0 + 1)) ≤ 5 * (11 * 1) := Nat.mul_le_mul nA (Nat.mul_le_mul (by omega) (by omega))
    have b2 : M.n * (t.length + 1) ≤ 5 * 11 := Nat.mul_le_mul nA (by omega)
    -- behind the two
    have last : ∀ (L : Env) (H' : Tw.H), H <+: H' → lk L 2 = some vA → lk L 3 = some (.str t) → AB (Calls Φ (d + 5)) L H' (L04.fn_law.body.drop 8) fun o _ h' => o.val = .bool true := by
      intro L H' p4 l2 l3
      refine A_name mC fun ρ ag => ?_
      rw [e_call, es_cons, e_vk, ag 2 _ l2, vk_some, es_cons, e_vk, ag 3 _ l3, vk_some, es_nil]
      have fin : ∀ (b : Bool) (H5 : Tw.H), H' <+: H5 → (b = true ↔ ∃ p s, Path M p s ∧ s ∈ M.ends ∧ rdOf M p = t) → AB (Calls Φ (d + 5)) ((8, .bool b) :: L) H5 (L04.fn_law.body.drop 9) fun o _ h' => o.val = .bool true := by
        intro b H5 p5 hb
        refine A_retE mC fun ρ ag => ?_
        simp [e_lit, e_vk, vk_some, e_bin, e_neg, e_not, e_and, e_or, e_cmp, e_cmp2, e_sub, e_slice, e_tup, e_list, e_dict0, e_dict1, e_call, e_bi, e_isinst, e_meth, es_nil, es_cons, o_none, o_some, t_not, t_and, t_or, t_cmp, t_cmp2, t_lit, t_vk, t_call, t_isinst, t_meth, x_bn, x_bt, u_nil, u_cons, upd_eq, upd_ne, argsR, x_addi, x_adds, x_subi, x_muli, x_fdiv, x_mod, x_tb, x_tn, x_eqi, x_eqs, x_eqb, x_nei, x_nes, x_lt, x_le, x_gt, x_ge, x_isn, x_isnn, x_isb, x_isnb, x_st0, x_st1, x_st2, x_st3, x_ss, x_lens, x_lent, x_r1, x_r2, x_r3, x_lr, x_rj, x_iil, x_iib, x_iss, x_itt, x_inn, ag 8 _ rfl, ag 2 _ (show lk ((8, .bool b) :: L) 2 = some vA from l2), ag 3 _ (show lk ((8, .bool b) :: L) 3 = some (.str t) from l3), IsW, tyEq]
        refine least_ok (wo := none) h49 h51 ((hA.pre p4).pre p5) oA (by omega) (by decide) (by show M.n * ((t.length + 1) * (0 + 1)) < 100000; omega) (fun H6 _ hno => ?_) fun H6 p x _ s f _ => ?_
        · have : b = false := by
            rw [← Bool.not_eq_true, hb]
            rintro ⟨p, s, hp, hs, hr⟩
            obtain ⟨x, s', f⟩ := read_so hp hs hr
            exact hno p x s' f
          subst this
          simp [e_lit, e_vk, vk_some, e_bin, e_neg, e_not, e_and, e_or, e_cmp, e_cmp2, e_sub, e_slice, e_tup, e_list, e_dict0, e_dict1, e_call, e_bi, e_isinst, e_meth, es_nil, es_cons, o_none, o_some, t_not, t_and, t_or, t_cmp, t_cmp2, t_lit, t_vk, t_call, t_isinst, t_meth, x_bn, x_bt, u_nil, u_cons, upd_eq, upd_ne, argsR, x_addi, x_adds, x_subi, x_muli, x_fdiv, x_mod, x_tb, x_tn, x_eqi, x_eqs, x_eqb, x_nei, x_nes, x_lt, x_le, x_gt, x_ge, x_isn, x_isnn, x_isb, x_isnb, x_st0, x_st1, x_st2, x_st3, x_ss, x_lens, x_lent, x_r1, x_r2, x_r3, x_lr, x_rj, x_iil, x_iib, x_iss, x_itt, x_inn, ov_ret]
        · have : b = true := hb.mpr ⟨p, x.1, so_read s f⟩
          subst this
          simp [e_lit, e_vk, vk_some, e_bin, e_neg, e_not, e_and, e_or, e_cmp, e_cmp2, e_sub, e_slice, e_tup, e_list, e_dict0, e_dict1, e_call, e_bi, e_isinst, e_meth, es_nil, es_cons, o_none, o_some, t_not, t_and, t_or, t_cmp, t_cmp2, t_lit, t_vk, t_call, t_isinst, t_meth, x_bn, x_bt, u_nil, u_cons, upd_eq, upd_ne, argsR, x_addi, x_adds, x_subi, x_muli, x_fdiv, x_mod, x_tb, x_tn, x_eqi, x_eqs, x_eqb, x_nei, x_nes, x_lt, x_le, x_gt, x_ge, x_isn, x_isnn, x_isb, x_isnb, x_st0, x_st1, x_st2, x_st3, x_ss, x_lens, x_lent, x_r1, x_r2, x_r3, x_lr, x_rj, x_iil, x_iib, x_iss, x_itt, x_inn, ov_ret]
      refine reads_ok h0 h1 h2 h3 h6 (hA.pre p4) oA (by omega) (by omega) (fun H5 p5 hno => fin false H5 p5 ⟨fun x => (nomatch x), fun ⟨p, s, hp, hs, hr⟩ => absurd hr (hno p s hp hs)⟩) fun H5 p s p5 hp hs hr => fin true H5 p5 ⟨fun _ => ⟨p, s, hp, hs, hr⟩, fun _ => rfl⟩
    refine A_name mC fun ρ ag => ?_
    rw [e_call, es_cons, e_vk, ag 2 _ l2, vk_some, es_cons, e_vk, ag 3 _ l3, vk_some, es_cons, e_vk, ag 4 _ l4, vk_some, es_nil]
    clear ag ρ
    refine way_ok h0 h1 h2 h3 h4 h5 hA oA (by omega) (by omega) (by omega) (fun H5 p5 hno => A_name mC fun ρ ag => ?_) fun H5 r p p5 hr hway hmin hpl => A_name mC fun ρ ag => ?_
    · rw [e_call, es_cons, e_vk, ag 2 _ l2, vk_some, es_cons, e_vk, ag 3 _ l3, vk_some, es_cons, e_vk, ag 4 _ l4, vk_some, es_nil]
      refine least_ok (wo := some w) h49 h51 (hA.pre p5) oA (by omega) (by show w.length < 1000; omega) (by show M.n * ((t.length + 1) * (w.length + 1)) < 100000; omega) (fun H6 p6 _ => ?_) fun H6 p' x _ s f _ => absurd (so_way s f) (hno p')
      exact A_if (g := []) rfl trivial (fun _ => A_if (g := []) rfl trivial (fun h => nomatch h) fun _ => A_then (A_then (last _ _ (p5.trans p6) l2 l3))) fun h => nomatch h
    · rw [e_call, es_cons, e_vk, ag 2 _ l2, vk_some, es_cons, e_vk, ag 3 _ l3, vk_some, es_cons, e_vk, ag 4 _ l4, vk_some, es_nil]
      refine least_ok (wo := some w) h49 h51 (hA.pre p5) oA (by omega) (by show w.length < 1000; omega) (by show M.n * ((t.length + 1) * (w.length + 1)) < 100000; omega) (fun H6 p6 hno => ?_) fun H6 p' x p6 s f hmin' => ?_
      · obtain ⟨x, s, f⟩ := way_so hway
        exact absurd f (hno p x s)
      have el : p'.length = p.length := by
        have h1 := hmin p' (so_way s f)
        obtain ⟨x', s', f'⟩ := way_so hway
        have h2 := hmin' p x' s' f'
        omega
      rw [el]
      refine A_if (g := []) rfl trivial (fun h => nomatch h) fun _ => A_skip mC fun ρ ag => ?_
      have hr := pre_get p6 hr
      simp [e_lit, e_vk, vk_some, e_bin, e_neg, e_not, e_and, e_or, e_cmp, e_cmp2, e_sub, e_slice, e_tup, e_list, e_dict0, e_dict1, e_call, e_bi, e_isinst, e_meth, es_nil, es_cons, o_none, o_some, t_not, t_and, t_or, t_cmp, t_cmp2, t_lit, t_vk, t_call, t_isinst, t_meth, x_bn, x_bt, u_nil, u_cons, upd_eq, upd_ne, argsR, x_addi, x_adds, x_subi, x_muli, x_fdiv, x_mod, x_tb, x_tn, x_eqi, x_eqs, x_eqb, x_nei, x_nes, x_lt, x_le, x_gt, x_ge, x_isn, x_isnn, x_isb, x_isnb, x_st0, x_st1, x_st2, x_st3, x_ss, x_lens, x_lent, x_r1, x_r2, x_r3, x_lr, x_rj, x_iil, x_iib, x_iss, x_itt, x_inn, ag 6 _ rfl, ag 7 _ rfl, x_is, hr, tyEq, x_lenl hr]
      exact last ((7, .int (p.length : Nat)) :: (6, .ref r) :: L) _ (p5.trans p6) l2 l3
  refine fun ρ ag => B_if mC (h' := H₂) (decide (((xs.getD 2 0).fdiv 46656).fmod 2 = 1)) ?_ (fun _ => ?_) fun _ => ?_
  · simp [e_lit, e_vk, vk_some, e_bin, e_neg, e_not, e_and, e_or, e_cmp, e_cmp2, e_sub, e_slice, e_tup, e_list, e_dict0, e_dict1, e_call, e_bi, e_isinst, e_meth, es_nil, es_cons, o_none, o_some, t_not, t_and, t_or, t_cmp, t_cmp2, t_lit, t_vk, t_call, t_isinst, t_meth, x_bn, x_bt, u_nil, u_cons, upd_eq, upd_ne, argsR, x_addi, x_adds, x_subi, x_muli, x_fdiv, x_mod, x_tb, x_tn, x_eqi, x_eqs, x_eqb, x_nei, x_nes, x_lt, x_le, x_gt, x_ge, x_isn, x_isnn, x_isb, x_isnb, x_st0, x_st1, x_st2, x_st3, x_ss, x_lens, x_lent, x_r1, x_r2, x_r3, x_lr, x_rj, x_iil, x_iib, x_iss, x_itt, x_inn, ag 0 _ rfl]
    refine cell_ok (k := 2) h25 (pre_get p2 hx) (by decide) ?_
    simp [e_lit, e_vk, vk_some, e_bin, e_neg, e_not, e_and, e_or, e_cmp, e_cmp2, e_sub, e_slice, e_tup, e_list, e_dict0, e_dict1, e_call, e_bi, e_isinst, e_meth, es_nil, es_cons, o_none, o_some, t_not, t_and, t_or, t_cmp, t_cmp2, t_lit, t_vk, t_call, t_isinst, t_meth, x_bn, x_bt, u_nil, u_cons, upd_eq, upd_ne, argsR, x_addi, x_adds, x_subi, x_muli, x_fdiv, x_mod, x_tb, x_tn, x_eqi, x_eqs, x_eqb, x_nei, x_nes, x_lt, x_le, x_gt, x_ge, x_isn, x_isnn, x_isb, x_isnb, x_st0, x_st1, x_st2, x_st3, x_ss, x_lens, x_lent, x_r1, x_r2, x_r3, x_lr, x_rj, x_iil, x_iib, x_iss, x_itt, x_inn]
  · refine A_name mC (fun ρ ag => ?_) ρ ag
    simp [e_lit, e_vk, vk_some, e_bin, e_neg, e_not, e_and, e_or, e_cmp, e_cmp2, e_sub, e_slice, e_tup, e_list, e_dict0, e_dict1, e_call, e_bi, e_isinst, e_meth, es_nil, es_cons, o_none, o_some, t_not, t_and, t_or, t_cmp, t_cmp2, t_lit, t_vk, t_call, t_isinst, t_meth, x_bn, x_bt, u_nil, u_cons, upd_eq, upd_ne, argsR, x_addi, x_adds, x_subi, x_muli, x_fdiv, x_mod, x_tb, x_tn, x_eqi, x_eqs, x_eqb, x_nei, x_nes, x_lt, x_le, x_gt, x_ge, x_isn, x_isnn, x_isb, x_isnb, x_st0, x_st1, x_st2, x_st3, x_ss, x_lens, x_lent, x_r1, x_r2, x_r3, x_lr, x_rj, x_iil, x_iib, x_iss, x_itt, x_inn, ag 0 _ rfl, ag 2 _ rfl]
    refine cell_ok (k := 3) h25 (pre_get p2 hx) (by decide) ?_
    refine cell_ok (k := 2) h25 (pre_get p2 hx) (by decide) ?_
    obtain ⟨k4, e4, l4⟩ := fmod_nat ((xs.getD 2 0).fdiv 93312) (b := 10) (by decide)
    simp [e_lit, e_vk, vk_some, e_bin, e_neg, e_not, e_and, e_or, e_cmp, e_cmp2, e_sub, e_slice, e_tup, e_list, e_dict0, e_dict1, e_call, e_bi, e_isinst, e_meth, es_nil, es_cons, o_none, o_some, t_not, t_and, t_or, t_cmp, t_cmp2, t_lit, t_vk, t_call, t_isinst, t_meth, x_bn, x_bt, u_nil, u_cons, upd_eq, upd_ne, argsR, x_addi, x_adds, x_subi, x_muli, x_fdiv, x_mod, x_tb, x_tn, x_eqi, x_eqs, x_eqb, x_nei, x_nes, x_lt, x_le, x_gt, x_ge, x_isn, x_isnn, x_isb, x_isnb, x_st0, x_st1, x_st2, x_st3, x_ss, x_lens, x_lent, x_r1, x_r2, x_r3, x_lr, x_rj, x_iil, x_iib, x_iss, x_itt, x_inn] at e4 ⊢
    simp [e4]
    refine walk4_ok h32 hA oA (by omega) fun H₃ r p p3 hr hpl hpk => ?_
    refine A_name mC fun ρ ag => join4 mC 1 (.inl rfl) (hA.pre p3) oA hr hpk (by omega) (fun t H₄ p4 tl => A_name mC fun ρ ag => join4 mC 2 (.inr rfl) ((hA.pre p3).pre p4) oA (pre_get p4 hr) hpk (by omega) (fun w H₅ p5 wl => A_then (key _ _ t w ((p3.trans p4).trans p5) (by omega) (by omega) rfl rfl rfl)) ρ (AllIn.ag ag (by repeat (first | exact trivial | refine ⟨rfl, ?_⟩)))) ρ (AllIn.ag ag (by repeat (first | exact trivial | refine ⟨rfl, ?_⟩)))
  · exact A_then (key _ _ t w (List.prefix_refl _) (by omega) (by omega) rfl rfl rfl) ρ ag
end
end Tw
end

open PySem PySem.W PyProof.Rows
set_option Elab.async false
namespace Tw
noncomputable def Φ04 : Nat → Option Fn := tabFn [(0, fn_need), (1, fn_checked), (2, fn_leaving), (3, fn_gone_on), (4, fn_told_back), (5, fn_way), (6, fn_reads), (24, L04.fn_law), (25, fn__law_cell), (26, fn__law_signs), (27, L04.fn__law_machine), (29, L04.fn__law_text), (32, L04.fn__law_walk), (49, L04.fn__law_least), (51, L04.fn__law_layer)]
end Tw
theorem PySem.Challenge.cw_uf030022_04_holds : PySem.Challenge.rw_uf030022_04.Holds := by
  w_on
  refine holds_law (by decide +kernel) fun said => ?_
  (o_head Hook.none; (case hw => w_witness2))
  refine (Tw.law_holds (D := 6) (kl := 24) (Φ := Tw.Φ04) (names := Tw.fnNames) rfl rfl (by decide) ?_ ?_ ?_ ?_ ?_ rfl ?_ (by decide) fun xs hxs => Tw.law04 rfl rfl rfl rfl rfl rfl rfl rfl rfl rfl rfl rfl rfl rfl rfl rfl hxs)
  · kernel_rfl
  · kernel_rfl
  · kernel_rfl
  · kernel_rfl
  · exact Tw.tab_all (Tw.all_cons (by kernel_rfl) (Tw.all_cons (by kernel_rfl) (Tw.all_cons (by kernel_rfl) (Tw.all_cons (by kernel_rfl) (Tw.all_cons (by kernel_rfl) (Tw.all_cons (by kernel_rfl) (Tw.all_cons (by kernel_rfl) (Tw.all_cons (by kernel_rfl) (Tw.all_cons (by kernel_rfl) (Tw.all_cons (by kernel_rfl) (Tw.all_cons (by kernel_rfl) (Tw.all_cons (by kernel_rfl) (Tw.all_cons (by kernel_rfl) (Tw.all_cons (by kernel_rfl) (Tw.all_cons (by kernel_rfl) (Tw.all_nil))))))))))))))))
  · kernel_rfl

