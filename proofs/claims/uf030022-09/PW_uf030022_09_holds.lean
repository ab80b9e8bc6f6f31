import PyProof.Rows.All
import PyProof.Cells
import PyProof.CompFree
import PyProof.DictKinds
import PyProof.RangeIter
import PyProof.NeKinds
import PyProof.TupleKey
import PyProof.DictRoadsH
import PyProof.Rows.StrRules
import PyProof.Rows.TupSub
import PyProof.Rows.StrTemp
import PyProof.Rows.RuleB_mod
import PyProof.Rows.RuleB_floordiv
import PyProof.Rows.RuleB_mul
import PyProof.Rows.Lst
import PyProof.ListOps
import PyProof.TupleOps
import PyProof.ListMulRoad
import PyProof.ListIndexNeg
import PyProof.SliceMore
import PyProof.SliceStr2
import PyProof.PureInt
import PyProof.DictIter
import PyProof.RangeFor
import PyProof.TupleIter
import PyProof.IsiHeapPairs
import PyProof.IsiPairs
import PyProof.IsiNone
import PyProof.ListCopy
import PyProof.ListRange
import PyProof.Rows.StrJoin2
import PyProof.Rows.Range3
import PyProof.DictWalks
import PyProof.CollectWalk
import PyProof.Rows.SortShell
import PyProof.DictUpdate
import PyProof.ListNew
import PyProof.AttrMissHeap
import PyProof.Rows.SeqRoads
import PyProof.MeetsDictList
import PyProof.StrCalls
import PyProof.StrLaws
import KE.KSortTup
import PyProof.Rows.SortShellK
import PyProof.Rows.SortWalk
import PyProof.Rows.SortStr
import PyProof.MeetsSeq
import PyProof.Conv_int_bool
import PyProof.MakeMany
import PyProof.DictDisplay
import PyProof.Methods
import PyProof.CallRoads
import PyProof.Rows.OwnQ
import PyProof.StationsW
import PyProof.RulesDelMore
import PyProof.RulesAssignMore
import PyProof.RulesMatch
import PyProof.WalksMore
import PyProof.Raises
import PyProof.CompUse
import PyProof.ForAny
import PyProof.Rows.PlainStore
import PyProof.ExcBaseAll.ValueError
import PyProof.Rows.CatchBare
import PyProof.ExcAttrAll.ValueError
import PyProof.IsiBase
import PyProof.IsInstance
import PyProof.NsDelKeeps
import Wide.All
import Open.Line
import PySem.Challenge.RW_uf030022_09
set_option Elab.async false
set_option autoImplicit false
set_option maxRecDepth 100000
set_option maxHeartbeats 8000000
set_option linter.all false
set_option genSizeOf false
section
namespace Tw

/-! Abstract values, heap, syntax, and the weakest precondition over them. -/

inductive V where
  | none
  | bool (b : Bool)
  | int (i : Int)
  | str (s : List Nat)
  | tup (vs : List V)
  | rng (a b c : Int)
  | ref (n : Nat)

noncomputable instance : DecidableEq V := fun _ _ => Classical.propDecidable _

inductive MO where
  | list (vs : List V)
  | frz (vs : List V)
  | dict (es : List (V × V)) (ver : Nat)

abbrev H := List MO
abbrev Rho := Nat → Option V
abbrev SZ : Nat := 16777216

/-- Values seen through the heap: what `==` compares. -/
inductive D where
  | none
  | bool (b : Bool)
  | int (i : Int)
  | str (s : List Nat)
  | tup (vs : List D)
  | list (vs : List D)

noncomputable instance : DecidableEq D := fun _ _ => Classical.propDecidable _

/-- no bool within (True == 1 is not modelled here), and not too deep -/
noncomputable def D.ok : Nat → D → Bool
  | 0, _ => false
  | _ + 1, .bool _ => false
  | n + 1, .tup vs => vs.all (D.ok n)
  | n + 1, .list vs => vs.all (D.ok n)
  | _ + 1, _ => true

mutual
/-- what a value is, seen through the heap -/
inductive Snap (h : H) : V → D → Prop
  | none : Snap h .none .none
  | bool (b : Bool) : Snap h (.bool b) (.bool b)
  | int (i : Int) : Snap h (.int i) (.int i)
  | str (s : List Nat) : Snap h (.str s) (.str s)
  | tup {vs : List V} {ds : List D} : Snaps h vs ds → Snap h (.tup vs) (.tup ds)
  | list {n : Nat} {vs : List V} {ds : List D} : h[n]? = some (.list vs) → Snaps h vs ds → Snap h (.ref n) (.list ds)
inductive Snaps (h : H) : List V → List D → Prop
  | nil : Snaps h [] []
  | cons {v : V} {vs : List V} {d : D} {ds : List D} : Snap h v d → Snaps h vs ds → Snaps h (v :: vs) (d :: ds)
end

noncomputable def V.isAtom : V → Bool
  | .int _ => true
  | _ => false
/-- what may be a dict's key here: an int, a str, a tuple of these -/
noncomputable def V.isKey : V → Bool
  | .int _ => true
  | .tup vs => vs.all V.isAtom
  | _ => false

noncomputable def dget (es : List (V × V)) (k : V) : Option V := (es.find? fun e => decide (e.1 = k)).map (·.2)
noncomputable def dput (es : List (V × V)) (k v : V) : List (V × V) :=
  if (dget es k).isSome then es.map (fun e => if e.1 = k then (e.1, v) else e) else es ++ [(k, v)]
noncomputable def ddel (es : List (V × V)) (k : V) : List (V × V) := es.filter fun e => !decide (e.1 = k)
noncomputable def dputs (es : List (V × V)) : List (V × V) → List (V × V)
  | [] => es
  | (k, v) :: r => dputs (dput es k v) r

/-! order of Python for sorting -/
inductive Bop where | add | sub | mul | fdiv | mod
inductive Cmp where | eq | ne | lt | le | gt | ge | isIn | notIn | is | isNot
inductive Bi where | len | range | list | dict | sorted | int | min | max
inductive Ty where | int | bool | list | tuple | str
inductive Mt where | append | reverse | pop | dpop | clear | index | update | get | join | startswith

inductive Tgt where
  | name (i : Nat)
  | tup (is : List Nat)

inductive E where
  | lit (v : V)
  | var (i : Nat)
  | bin (op : Bop) (a b : E)
  | neg (a : E)
  | not (a : E)
  | and (a b : E)
  | or (a b : E)
  | cmp (op : Cmp) (a b : E)
  | cmp2 (op1 op2 : Cmp) (a b c : E)
  | sub (a i : E)
  | slice (a lo hi : E)
  | tup (es : List E)
  | list (es : List E)
  | dict0
  | dict1 (k v : E)
  | comp (elt : E) (tgt : Tgt) (iter : E) (cond : Option E)
  | call (f : Nat) (args : List E)
  | bi (b : Bi) (args : List E)
  | isinst (a : E) (t : Ty)
  | meth (m : Mt) (o : E) (args : List E)

inductive S where
  | assign (t : Tgt) (e : E)
  | store (o i e : E)
  | expr (e : E)
  | ite (t : E) (a b : List S)
  | while (t : E) (b : List S)
  | for (t : Tgt) (it : E) (b : List S)
  | ret (e : Option E)
  | raise

inductive Out where
  | next
  | ret (v : V)

structure Fn where
  arity : Nat
  body : List S

abbrev Ora := Nat → List V → H → (V → H → Prop) → Prop

noncomputable def upd (ρ : Rho) (i : Nat) (v : V) : Rho := fun j => if j = i then some v else ρ j
noncomputable def upds (ρ : Rho) : List Nat → List V → Rho
  | i :: is, v :: vs => upds (upd ρ i v) is vs
  | _, _ => ρ
/-! a value of a known kind -/
noncomputable def asInt (v : V) (k : Int → Prop) : Prop := match v with | .int i => k i | _ => False
noncomputable def asStr (v : V) (k : List Nat → Prop) : Prop := match v with | .str i => k i | _ => False
noncomputable def asTup (v : V) (k : List V → Prop) : Prop := match v with | .tup i => k i | _ => False
noncomputable def asRef (v : V) (k : Nat → Prop) : Prop := match v with | .ref i => k i | _ => False
noncomputable def asBool (v : V) (k : Bool → Prop) : Prop := match v with | .bool i => k i | _ => False
noncomputable def arg0 (vs : List V) (k : Prop) : Prop := match vs with | [] => k | _ => False
noncomputable def arg1 (vs : List V) (k : V → Prop) : Prop := match vs with | [v] => k v | _ => False

theorem asInt.inv {v : V} {k : Int → Prop} (h : asInt v k) : ∃ i, v = .int i ∧ k i := by cases v <;> first | exact ⟨_, rfl, h⟩ | exact h.elim
theorem asInt.mono {v : V} {k k' : Int → Prop} (m : ∀ i, k i → k' i) (h : asInt v k) : asInt v k' := by cases v <;> first | exact m _ h | exact h
theorem asStr.inv {v : V} {k : List Nat → Prop} (h : asStr v k) : ∃ i, v = .str i ∧ k i := by cases v <;> first | exact ⟨_, rfl, h⟩ | exact h.elim
theorem asStr.mono {v : V} {k k' : List Nat → Prop} (m : ∀ i, k i → k' i) (h : asStr v k) : asStr v k' := by cases v <;> first | exact m _ h | exact h
theorem asTup.mono {v : V} {k k' : List V → Prop} (m : ∀ i, k i → k' i) (h : asTup v k) : asTup v k' := by cases v <;> first | exact m _ h | exact h
theorem asRef.inv {v : V} {k : Nat → Prop} (h : asRef v k) : ∃ i, v = .ref i ∧ k i := by cases v <;> first | exact ⟨_, rfl, h⟩ | exact h.elim
theorem asRef.mono {v : V} {k k' : Nat → Prop} (m : ∀ i, k i → k' i) (h : asRef v k) : asRef v k' := by cases v <;> first | exact m _ h | exact h
theorem asBool.inv {v : V} {k : Bool → Prop} (h : asBool v k) : ∃ i, v = .bool i ∧ k i := by cases v <;> first | exact ⟨_, rfl, h⟩ | exact h.elim
theorem asBool.mono {v : V} {k k' : Bool → Prop} (m : ∀ i, k i → k' i) (h : asBool v k) : asBool v k' := by cases v <;> first | exact m _ h | exact h
theorem arg0.inv {vs : List V} {k : Prop} (h : arg0 vs k) : vs = [] ∧ k := by
  cases vs with
  | nil => exact ⟨rfl, h⟩
  | cons _ _ => exact h.elim
theorem arg0.mono {vs : List V} {k k' : Prop} (m : k → k') (h : arg0 vs k) : arg0 vs k' := by
  obtain ⟨rfl, h⟩ := h.inv; exact m h
theorem arg1.inv {vs : List V} {k : V → Prop} (h : arg1 vs k) : ∃ v, vs = [v] ∧ k v := by
  cases vs with
  | nil => exact h.elim
  | cons v r => cases r with
    | nil => exact ⟨v, rfl, h⟩
    | cons _ _ => exact h.elim
theorem arg1.mono {vs : List V} {k k' : V → Prop} (m : ∀ v, k v → k' v) (h : arg1 vs k) : arg1 vs k' := by
  obtain ⟨v, rfl, h⟩ := h.inv; exact m _ h

/-- a value that is there -/
noncomputable def vK (o : Option V) (k : V → Prop) : Prop := match o with | some v => k v | none => False
theorem vK.inv {o : Option V} {k : V → Prop} (h : vK o k) : ∃ v, o = some v ∧ k v := by cases o <;> first | exact ⟨_, rfl, h⟩ | exact h.elim
theorem vK.mono {o : Option V} {k k' : V → Prop} (m : ∀ v, k v → k' v) (h : vK o k) : vK o k' := by cases o <;> first | exact m _ h | exact h

noncomputable def bindT (t : Tgt) (v : V) (ρ : Rho) (Q : Rho → Prop) : Prop :=
  match t with
  | .name i => Q (upd ρ i v)
  | .tup is => asTup v fun vs => is.length = vs.length ∧ Q (upds ρ is vs)

/-! the operators -/
noncomputable def mulOk (a b : Int) : Prop := a.natAbs < 2 ^ 63 ∨ b.natAbs < 2 ^ 63

noncomputable def AddW (a b : V) (h : H) (Q : V → H → Prop) : Prop :=
  match a with
  | .int a => asInt b fun b => Q (.int (a + b)) h
  | .str a => asStr b fun b => a.length + b.length ≤ SZ ∧ Q (.str (a ++ b)) h
  | .ref m => asRef b fun n => ∃ a b, h[m]? = some (.list a) ∧ h[n]? = some (.list b) ∧ a.length + b.length ≤ SZ ∧ Q (.ref h.length) (h ++ [.list (a ++ b)])
  | _ => False
noncomputable def MulW (a b : V) (h : H) (Q : V → H → Prop) : Prop :=
  match a with
  | .int a => asInt b fun b => mulOk a b ∧ Q (.int (a * b)) h
  | _ => False
noncomputable def BinW (op : Bop) (a b : V) (h : H) (Q : V → H → Prop) : Prop :=
  match op with
  | .add => AddW a b h Q
  | .sub => asInt a fun a => asInt b fun b => Q (.int (a - b)) h
  | .mul => MulW a b h Q
  | .fdiv => asInt a fun a => asInt b fun b => b ≠ 0 ∧ b.natAbs < 1073741824 ∧ Q (.int (a.fdiv b)) h
  | .mod => asInt a fun a => asInt b fun b => b ≠ 0 ∧ Q (.int (a.fmod b)) h

noncomputable def truth (v : V) (_ : H) (Q : Bool → Prop) : Prop :=
  match v with
  | .none => Q false
  | .bool b => Q b
  | _ => False

noncomputable def EqG (a b : V) (h : H) (Q : Bool → Prop) : Prop := ∃ d₁ d₂, Snap h a d₁ ∧ Snap h b d₂ ∧ D.ok 9 d₁ = true ∧ D.ok 9 d₂ = true ∧ Q (decide (d₁ = d₂))
noncomputable def EqW (a b : V) (h : H) (Q : Bool → Prop) : Prop :=
  match a with
  | .bool a => asBool b fun b => Q (decide (a = b))
  | a => EqG a b h Q

noncomputable def InW (a b : V) (h : H) (Q : Bool → Prop) : Prop :=
  asRef b fun n => match h[n]? with
    | some (.list vs) => ∃ d ds, Snap h a d ∧ Snaps h vs ds ∧ D.ok 9 d = true ∧ (∀ d ∈ ds, D.ok 9 d = true) ∧ Q (decide (d ∈ ds))
    | some (.dict es _) => a.isKey = true ∧ Q (decide (a ∈ es.map (·.1)))
    | some (.frz _) => False
    | none => False

noncomputable def SameW (a b : V) (Q : Bool → Prop) : Prop :=
  match b with
  | .none => Q (decide (a = .none))
  | .bool c => asBool a fun d => Q (decide (d = c))
  | _ => False

noncomputable def CmpW (op : Cmp) (a b : V) (h : H) (Q : Bool → Prop) : Prop :=
  match op with
  | .eq => EqW a b h Q
  | .ne => EqW a b h (fun r => Q (!r))
  | .lt => asInt a fun a => asInt b fun b => Q (decide (a < b))
  | .le => asInt a fun a => asInt b fun b => Q (decide (a ≤ b))
  | .gt => asInt a fun a => asInt b fun b => Q (decide (b < a))
  | .ge => asInt a fun a => asInt b fun b => Q (decide (b ≤ a))
  | .isIn => InW a b h Q
  | .notIn => InW a b h (fun r => Q (!r))
  | .is => SameW a b Q
  | .isNot => SameW a b (fun r => Q (!r))

noncomputable def SubW (a i : V) (h : H) (Q : V → Prop) : Prop :=
  match a with
  | .tup vs => asInt i fun k => ∃ v, (0 ≤ k ∧ k < 2 ^ 62) ∧ vs[k.toNat]? = some v ∧ Q v
  | .str s => asInt i fun k => ∃ c, (0 ≤ k ∧ k < 2 ^ 62) ∧ s[k.toNat]? = some c ∧ Q (.str [c])
  | .ref n => match h[n]? with
    | some (.list vs) => asInt i fun k => (∃ v, (0 ≤ k ∧ k < 2 ^ 62) ∧ vs[k.toNat]? = some v ∧ Q v) ∨ (∃ v, k = -1 ∧ vs.getLast? = some v ∧ Q v)
    | some (.frz vs) => asInt i fun k => ∃ v, (0 ≤ k ∧ k < 2 ^ 62) ∧ vs[k.toNat]? = some v ∧ Q v
    | some (.dict es _) => i.isKey = true ∧ ∃ v, dget es i = some v ∧ Q v
    | none => False
  | _ => False

noncomputable def loOf : V → Option Nat
  | .none => some 0
  | .int k => if 0 ≤ k ∧ k < 2 ^ 62 then some k.toNat else none
  | _ => none
noncomputable def hiOf (n : Nat) : V → Option Nat
  | .none => some n
  | .int k => if 0 ≤ k ∧ k < 2 ^ 62 then some k.toNat else none
  | _ => none
noncomputable def SliceW (a lo hi : V) (h : H) (Q : V → H → Prop) : Prop :=
  match a with
  | .str s => ∃ i j, loOf lo = some i ∧ hiOf s.length hi = some j ∧ Q (.str ((s.take j).drop i)) h
  | .ref n => ∃ vs i j, (h[n]? = some (.list vs) ∨ h[n]? = some (.frz vs)) ∧ loOf lo = some i ∧ hiOf vs.length hi = some j ∧ Q (.ref h.length) (h ++ [.list ((vs.take j).drop i)])
  | _ => False

noncomputable def intsV (a c : Int) : Nat → List V
  | 0 => []
  | n + 1 => .int a :: intsV (a + c) c n
/-- the intsV of a range with a positive step -/
noncomputable def rangeLen (a b c : Int) : Nat := if a < b then ((b - a - 1) / c + 1).toNat else 0
noncomputable def rangeV (a b c : Int) : List V := intsV a c (rangeLen a b c)
noncomputable def smallI (a : Int) : Prop := -(2 ^ 31) ≤ a ∧ a < 2 ^ 31

noncomputable def LenW (v : V) (h : H) (Q : V → H → Prop) : Prop :=
  match v with
  | .str s => Q (.int s.length) h
  | .tup vs => Q (.int vs.length) h
  | .ref n => match h[n]? with
    | some (.list vs) => Q (.int vs.length) h
    | some (.frz vs) => Q (.int vs.length) h
    | some (.dict _ _) => False
    | none => False
  | _ => False
noncomputable def RangeW (vs : List V) (h : H) (Q : V → H → Prop) : Prop :=
  match vs with
  | [a] => asInt a fun b => smallI b ∧ Q (.rng 0 b 1) h
  | _ => False
noncomputable def ListW (v : V) (h : H) (Q : V → H → Prop) : Prop :=
  match v with
  | .ref n => match h[n]? with
    | some (.list vs) => vs.length ≤ SZ ∧ Q (.ref h.length) (h ++ [.list vs])
    | some (.frz _) => False
    | some (.dict _ _) => False
    | none => False
  | .rng a b c => rangeLen a b c ≤ SZ ∧ Q (.ref h.length) (h ++ [.list (rangeV a b c)])
  | _ => False
noncomputable def pairV (x : Nat × Nat) : V := .tup [.int x.1, .int x.2]
noncomputable def pairLt (a b : Nat × Nat) : Prop := a.1 < b.1 ∨ (a.1 = b.1 ∧ a.2 < b.2)
/-- what sorted goes through: a dict's keys, or a list -/
noncomputable def itemsAt (h : H) (n : Nat) (ks : List V) : Prop := (∃ es ver, h[n]? = some (.dict es ver) ∧ es.map (·.1) = ks) ∨ h[n]? = some (.list ks)
-- sorted(x): ints, strs, or pairs of ints
noncomputable def SortW (v : V) (h : H) (Q : V → H → Prop) : Prop :=
  asRef v fun n => ∃ vs, itemsAt h n vs ∧ vs.length < 64 ∧
    (False ∨ False ∨
     (∃ ks, vs = List.map pairV ks ∧ ∀ ks' : List (Nat × Nat), ks'.Perm ks → ks'.Pairwise (fun a b => ¬ pairLt b a) → Q (.ref h.length) (h ++ [.list (ks'.map pairV)])) ∨
     False)
noncomputable def BiW (b : Bi) (vs : List V) (h : H) (Q : V → H → Prop) : Prop :=
  match b with
  | .len => arg1 vs fun v => LenW v h Q
  | .range => RangeW vs h Q
  | .list => arg1 vs fun v => ListW v h Q
  | .dict => False
  | .sorted => arg1 vs fun v => SortW v h Q
  | .int => arg1 vs fun v => asBool v fun b => Q (.int (if b then 1 else 0)) h
  | .min => False
  | .max => False

noncomputable def tyEq : Ty → Ty → Bool
  | .int, .int => true
  | .bool, .bool => true
  | .list, .list => true
  | .tuple, .tuple => true
  | .str, .str => true
  | _, _ => false
noncomputable def IsW (v : V) (t : Ty) (h : H) (Q : Bool → Prop) : Prop :=
  match v with
  | .none => Q false
  | .bool _ => Q (tyEq t .bool || tyEq t .int)
  | .int _ => Q (tyEq t .int)
  | .str _ => Q (tyEq t .str)
  | .tup _ => Q (tyEq t .tuple)
  | .rng .. => False
  | .ref n => match h[n]? with
    | some (.list _) => Q (tyEq t .list)
    | some (.dict _ _) => Q false
    | some (.frz _) => False
    | none => False

noncomputable def recvOk (m : Mt) (v : V) (h : H) : Prop :=
  match m with
  | .append => asRef v fun n => ∃ vs, h[n]? = some (.list vs)
  | .reverse => asRef v fun n => ∃ vs, h[n]? = some (.list vs)
  | .clear => asRef v fun n => ∃ vs, h[n]? = some (.list vs)
  | .index => asRef v fun n => ∃ vs, h[n]? = some (.list vs)
  | .pop => asRef v fun n => ∃ vs, h[n]? = some (.list vs)
  | .dpop => asRef v fun n => ∃ es ver, h[n]? = some (.dict es ver)
  | .update => asRef v fun n => ∃ es ver, h[n]? = some (.dict es ver)
  | .get => asRef v fun n => ∃ es ver, h[n]? = some (.dict es ver)
  | .join => asStr v fun _ => True
  | .startswith => asStr v fun _ => True

noncomputable def isStrs : List V → Option (List (List Nat))
  | [] => some []
  | .str s :: r => (isStrs r).map (s :: ·)
  | _ :: _ => none

noncomputable def joinS (sep : List Nat) : List (List Nat) → List Nat
  | [] => []
  | [x] => x
  | x :: y :: r => x ++ sep ++ joinS sep (y :: r)

noncomputable def MethW (m : Mt) (o : V) (args : List V) (h : H) (Q : V → H → Prop) : Prop :=
  match m with
  | .append => asRef o fun n => arg1 args fun v => ∃ vs, h[n]? = some (.list vs) ∧ vs.length < SZ ∧ Q .none (h.set n (.list (vs ++ [v])))
  | .reverse => asRef o fun n => arg0 args (∃ vs, h[n]? = some (.list vs) ∧ Q .none (h.set n (.list vs.reverse)))
  | .clear => False
  | .pop => asRef o fun n => arg0 args (∃ vs v, h[n]? = some (.list (vs ++ [v])) ∧ Q v (h.set n (.list vs)))
  | .join => asStr o fun sep => arg1 args fun v => asRef v fun n => ∃ vs xs, h[n]? = some (.list vs) ∧ isStrs vs = some xs ∧ sep = [] ∧ (xs.map List.length).sum ≤ SZ ∧ Q (.str (joinS sep xs)) h
  | .dpop => False
  | .index => False
  | .update => False
  | .get => False
  | .startswith => asStr o fun a => arg1 args fun b => asStr b fun b => Q (.bool (decide (b <+: a))) h

noncomputable def StoreW (o i v : V) (h : H) (Q : H → Prop) : Prop :=
  asRef o fun n => match h[n]? with
    | some (.list _) => False
    | some (.dict es _) => i.isKey = true ∧ es.length < SZ ∧ ∀ ver, Q (h.set n (.dict (dput es i v) ver))
    | some (.frz _) => False
    | none => False

/-! iteration -/
inductive It where
  | vals (vs : List V)
  | seq (n i : Nat)
  | keys (n ver len i : Nat)

noncomputable def IterW (v : V) (h : H) (Q : It → Prop) : Prop :=
  match v with
  | .tup vs => Q (.vals vs)
  | .rng a b c => Q (.vals (rangeV a b c))
  | .ref n => match h[n]? with
    | some (.list _) => Q (.seq n 0)
    | some (.frz _) => False
    | some (.dict es ver) => Q (.keys n ver es.length 0)
    | none => False
  | _ => False

/-- one step of an iterator: the end, or an item and the iterator behind it -/
noncomputable def NextW (it : It) (h : H) (stop : Prop) (item : V → It → Prop) : Prop :=
  match it with
  | .vals [] => stop
  | .vals (v :: vs) => item v (.vals vs)
  | .seq n i => match h[n]? with
    | some (.list vs) => match vs[i]? with
      | none => stop
      | some v => item v (.seq n (i + 1))
    | some (.frz _) => False
    | some (.dict _ _) => False
    | none => False
  | .keys n ver len i => match h[n]? with
    | some (.dict es ver') => ver' = ver ∧ es.length = len ∧ match es[i]? with
      | none => stop
      | some e => item e.1 (.keys n ver len (i + 1))
    | some (.frz _) => False
    | some (.list _) => False
    | none => False

noncomputable def forN (body : V → Rho → H → (Out → Rho → H → Prop) → Prop) : Nat → It → Rho → H → (Out → Rho → H → Prop) → Prop
  | 0, _, _, _, _ => False
  | f + 1, it, ρ, h, Q => NextW it h (Q .next ρ h) fun v it' =>
      body v ρ h fun o ρ' h' => match o with
        | .next => forN body f it' ρ' h' Q
        | .ret v => Q (.ret v) ρ' h'

noncomputable def whileN (test : Rho → H → (Bool → H → Prop) → Prop) (body : Rho → H → (Out → Rho → H → Prop) → Prop) : Nat → Rho → H → (Out → Rho → H → Prop) → Prop
  | 0, _, _, _ => False
  | f + 1, ρ, h, Q => test ρ h fun b h' => match b with
      | true => body ρ h' fun o ρ'' h'' => (match o with
        | .next => whileN test body f ρ'' h'' Q
        | .ret v => Q (.ret v) ρ'' h'')
      | false => Q .next ρ h'

/-- a comprehension: elt's values, gathered; `elt v h k`: binds v, tests, and hands on perhaps a value -/
noncomputable def compN (turn : V → H → (Option V → H → Prop) → Prop) : Nat → It → H → List V → (List V → H → Prop) → Prop
  | 0, _, _, _, _ => False
  | f + 1, it, h, out, Q => NextW it h (Q out h) fun v it' =>
      turn v h fun r h' => match r with
        | some x => out.length < SZ ∧ compN turn f it' h' (out ++ [x]) Q
        | none => compN turn f it' h' out Q

mutual
noncomputable def wpE (C : Ora) : E → Rho → H → (V → H → Prop) → Prop
  | .lit v, _, h, Q => Q v h
  | .var i, ρ, h, Q => vK (ρ i) fun v => Q v h
  | .bin op a b, ρ, h, Q => wpE C a ρ h fun va h₁ => wpE C b ρ h₁ fun vb h₂ => BinW op va vb h₂ Q
  | .neg a, ρ, h, Q => wpE C a ρ h fun v h₁ => asInt v fun i => Q (.int (-i)) h₁
  | .not a, ρ, h, Q => wpE C a ρ h fun v h₁ => truth v h₁ fun b => Q (.bool (!b)) h₁
  | .and a b, ρ, h, Q => wpE C a ρ h fun v h₁ => truth v h₁ fun t => match t with | true => wpE C b ρ h₁ Q | false => Q v h₁
  | .or a b, ρ, h, Q => wpE C a ρ h fun v h₁ => truth v h₁ fun t => match t with | true => Q v h₁ | false => wpE C b ρ h₁ Q
  | .cmp op a b, ρ, h, Q => wpE C a ρ h fun va h₁ => wpE C b ρ h₁ fun vb h₂ => CmpW op va vb h₂ fun r => Q (.bool r) h₂
  | .cmp2 op1 op2 a b c, ρ, h, Q => wpE C a ρ h fun va h₁ => wpE C b ρ h₁ fun vb h₂ => CmpW op1 va vb h₂ fun r => match r with
    | true => wpE C c ρ h₂ fun vc h₃ => CmpW op2 vb vc h₃ fun r => Q (.bool r) h₃
    | false => Q (.bool false) h₂
  | .sub a i, ρ, h, Q => wpE C a ρ h fun va h₁ => wpE C i ρ h₁ fun vi h₂ => SubW va vi h₂ fun v => Q v h₂
  | .slice a lo hi, ρ, h, Q => wpE C a ρ h fun va h₁ => wpE C lo ρ h₁ fun vl h₂ => wpE C hi ρ h₂ fun vh h₃ => SliceW va vl vh h₃ Q
  | .tup es, ρ, h, Q => wpEs C es ρ h fun vs h₁ => Q (.tup vs) h₁
  | .list es, ρ, h, Q => wpEs C es ρ h fun vs h₁ => Q (.ref h₁.length) (h₁ ++ [.list vs])
  | .dict0, _, h, Q => ∀ ver, Q (.ref h.length) (h ++ [.dict [] ver])
  | .dict1 k v, ρ, h, Q => wpE C k ρ h fun vk h₁ => wpE C v ρ h₁ fun vv h₂ => vk.isKey = true ∧ ∀ ver, Q (.ref h₂.length) (h₂ ++ [.dict [(vk, vv)] ver])
  | .comp elt tgt iter cond, ρ, h, Q => wpE C iter ρ h fun vi h₁ => IterW vi h₁ fun it => ∃ f,
      compN (fun v h k => bindT tgt v ρ fun ρ' => wpO C cond ρ' h fun b h₂ => match b with
        | true => wpE C elt ρ' h₂ fun x h₃ => k (some x) h₃
        | false => k none h₂) f it h₁ [] fun out h₂ => Q (.ref h₂.length) (h₂ ++ [.list out])
  | .call f args, ρ, h, Q => wpEs C args ρ h fun vs h₁ => C f vs h₁ Q
  | .bi b args, ρ, h, Q => wpEs C args ρ h fun vs h₁ => BiW b vs h₁ Q
  | .isinst a t, ρ, h, Q => wpE C a ρ h fun v h₁ => IsW v t h₁ fun r => Q (.bool r) h₁
  | .meth m o args, ρ, h, Q => wpE C o ρ h fun vo h₁ => recvOk m vo h₁ ∧ wpEs C args ρ h₁ fun vs h₂ => MethW m vo vs h₂ Q

noncomputable def wpEs (C : Ora) : List E → Rho → H → (List V → H → Prop) → Prop
  | [], _, h, Q => Q [] h
  | e :: es, ρ, h, Q => wpE C e ρ h fun v h₁ => wpEs C es ρ h₁ fun vs h₂ => Q (v :: vs) h₂

noncomputable def wpO (C : Ora) : Option E → Rho → H → (Bool → H → Prop) → Prop
  | none, _, h, Q => Q true h
  | some t, ρ, h, Q => wpT C t ρ h Q

noncomputable def wpT (C : Ora) : E → Rho → H → (Bool → H → Prop) → Prop
  | .not a, ρ, h, Q => wpT C a ρ h fun b h₁ => Q (!b) h₁
  | .and a b, ρ, h, Q => wpT C a ρ h fun t h₁ => match t with | true => wpT C b ρ h₁ Q | false => Q false h₁
  | .or a b, ρ, h, Q => wpT C a ρ h fun t h₁ => match t with | true => Q true h₁ | false => wpT C b ρ h₁ Q
  | .cmp op a b, ρ, h, Q => wpE C a ρ h fun va h₁ => wpE C b ρ h₁ fun vb h₂ => CmpW op va vb h₂ fun r => Q r h₂
  | .cmp2 op1 op2 a b c, ρ, h, Q => wpE C a ρ h fun va h₁ => wpE C b ρ h₁ fun vb h₂ => CmpW op1 va vb h₂ fun r => match r with
    | true => wpE C c ρ h₂ fun vc h₃ => CmpW op2 vb vc h₃ fun r => Q r h₃
    | false => Q false h₂
  | .lit v, _, h, Q => truth v h fun b => Q b h
  | .var i, ρ, h, Q => vK (ρ i) fun v => truth v h fun b => Q b h
  | .call f args, ρ, h, Q => wpEs C args ρ h fun vs h₁ => C f vs h₁ fun v h₂ => truth v h₂ fun b => Q b h₂
  | .isinst a t, ρ, h, Q => wpE C a ρ h fun v h₁ => IsW v t h₁ fun r => Q r h₁
  | .meth m o args, ρ, h, Q => wpE C o ρ h fun vo h₁ => recvOk m vo h₁ ∧ wpEs C args ρ h₁ fun vs h₂ => MethW m vo vs h₂ fun v h₃ => truth v h₃ fun b => Q b h₃
  | _, _, _, _ => False
end

mutual
noncomputable def wpS (C : Ora) : S → Rho → H → (Out → Rho → H → Prop) → Prop
  | .assign t e, ρ, h, Q => wpE C e ρ h fun v h₁ => bindT t v ρ fun ρ' => Q .next ρ' h₁
  | .store o i e, ρ, h, Q => wpE C e ρ h fun v h₁ => wpE C o ρ h₁ fun vo h₂ => wpE C i ρ h₂ fun vi h₃ => StoreW vo vi v h₃ fun h₄ => Q .next ρ h₄
  | .expr e, ρ, h, Q => wpE C e ρ h fun _ h₁ => Q .next ρ h₁
  | .ite t a b, ρ, h, Q => wpT C t ρ h fun c h₁ => match c with | true => wpB C a ρ h₁ Q | false => wpB C b ρ h₁ Q
  | .while t b, ρ, h, Q => ∃ f, whileN (fun ρ h k => wpT C t ρ h k) (fun ρ h k => wpB C b ρ h k) f ρ h Q
  | .for t it b, ρ, h, Q => wpE C it ρ h fun v h₁ => IterW v h₁ fun i => ∃ f,
      forN (fun v ρ h k => bindT t v ρ fun ρ' => wpB C b ρ' h k) f i ρ h₁ Q
  | .ret none, ρ, h, Q => Q (.ret .none) ρ h
  | .ret (some e), ρ, h, Q => wpE C e ρ h fun v h₁ => Q (.ret v) ρ h₁
  | .raise, _, _, _ => False

noncomputable def wpB (C : Ora) : List S → Rho → H → (Out → Rho → H → Prop) → Prop
  | [], ρ, h, Q => Q .next ρ h
  | s :: r, ρ, h, Q => wpS C s ρ h fun o ρ' h' => match o with
    | .next => wpB C r ρ' h' Q
    | .ret v => Q (.ret v) ρ' h'
end

noncomputable def argsR (vs : List V) : Rho := fun i => vs[i]?
noncomputable def Out.val : Out → V
  | .next => .none
  | .ret v => v

/-- calls, of depth d at most -/
noncomputable def Calls (Φ : Nat → Option Fn) : Nat → Ora
  | 0 => fun _ _ _ _ => False
  | d + 1 => fun f vs h Q => ∃ fn, Φ f = some fn ∧ fn.arity = vs.length ∧ wpB (Calls Φ d) fn.body (argsR vs) h fun o _ h' => Q o.val h'

end Tw
end

section
namespace Tw
open PySem

theorem SZ_eq : SZ = sizeLine := rfl

/-- the objects that nothing changes: tuples and ranges -/
noncomputable def isImm (o : Obj) : Prop := (o.cls = .type "tuple" ∧ ∃ xs n, o.data = .seq xs n) ∨ (o.cls = .type "range" ∧ ∃ vs, o.data = .fields vs)
noncomputable def Imm (h h' : Heap) : Prop := ∀ b o, h.get? b = some o → isImm o → h'.get? b = some o
theorem Imm.refl (h : Heap) : Imm h h := fun _ _ e _ => e
theorem Imm.trans {h₁ h₂ h₃ : Heap} (x : Imm h₁ h₂) (y : Imm h₂ h₃) : Imm h₁ h₃ := fun b o e c => y b o (x b o e c) c
theorem Imm.of_ext {h h' : Heap} (x : ∀ b o, h.get? b = some o → h'.get? b = some o) : Imm h h' := fun b o e _ => x b o e
theorem Imm.of_but {h h' : Heap} {a : Addr} (x : Heap.ExtBut a h h') (hn : ∀ o, h.get? a = some o → ¬ isImm o) : Imm h h' :=
  fun b o e c => by
    by_cases hb : b = a
    · subst hb; exact absurd c (hn o e)
    · exact x b o hb e
theorem notImm_dict {o : Obj} {es ep} (h : o.data = .dict es ep) : ¬ isImm o := by
  rintro (⟨_, _, _, e⟩ | ⟨_, _, e⟩) <;> rw [h] at e <;> cases e
theorem notImm_cell {o : Obj} {v} (h : o.data = .cell v) : ¬ isImm o := by
  rintro (⟨_, _, _, e⟩ | ⟨_, _, e⟩) <;> rw [h] at e <;> cases e
theorem notImm_list {o : Obj} (h : o.cls = .type "list") : ¬ isImm o := by
  rintro (⟨e, _⟩ | ⟨e, _⟩) <;> rw [h] at e <;> injection e with e <;> exact absurd e (by decide)
theorem notImm_fields {o : Obj} {vs} {T : String} (h : o.data = .fields vs) (hc : o.cls = .type T) (hT : T ≠ "range") : ¬ isImm o := by
  rintro (⟨_, _, _, e⟩ | ⟨e, _⟩)
  · rw [h] at e; cases e
  · rw [hc] at e; injection e with e; exact hT e

mutual
inductive RepV (ι : List Addr) (h : Heap) : Value → V → Prop
  | none : RepV ι h .none .none
  | bool (b : Bool) : RepV ι h (.bool b) (.bool b)
  | int (i : Int) (t : Tok) : RepV ι h (.int i t) (.int i)
  | str (x : Str) (t : Tok) : x.length ≤ SZ → RepV ι h (.str x t) (.str x.cps.toList)
  | tup {a : Addr} {n : Nat} {vals : Array Value} {vs : List V} : h.get? a = some { cls := .type "tuple", data := .seq vals n } → vals.size ≤ SZ →
      RepVs ι h vals.toList vs → RepV ι h (.ref a) (.tup vs)
  | rng {a : Addr} {x y z : Int} {t u v : Tok} : IsRange h a x y z t u v → (smallI x ∧ smallI y ∧ smallI z ∧ 0 < z) → RepV ι h (.ref a) (.rng x y z)
  | ref {a : Addr} {n : Nat} : ι[n]? = some a → RepV ι h (.ref a) (.ref n)
inductive RepVs (ι : List Addr) (h : Heap) : List Value → List V → Prop
  | nil : RepVs ι h [] []
  | cons {x : Value} {xs : List Value} {v : V} {vs : List V} : RepV ι h x v → RepVs ι h xs vs → RepVs ι h (x :: xs) (v :: vs)
end

theorem RepV.mono {ι ι' : List Addr} {h h' : Heap} (hi : ι <+: ι') (hm : Imm h h') {x : Value} {v : V} (r : RepV ι h x v) : RepV ι' h' x v :=
  RepV.rec (motive_1 := fun x v _ => RepV ι' h' x v) (motive_2 := fun xs vs _ => RepVs ι' h' xs vs) .none .bool .int (fun x t z => .str x t z) (fun g z _ ih => .tup (hm _ _ g (.inl ⟨rfl, _, _, rfl⟩)) z ih)
    (fun g z => .rng (hm _ _ g (.inr ⟨rfl, _, rfl⟩)) z) (fun g => .ref (by
      obtain ⟨t, rfl⟩ := hi
      rw [List.getElem?_append_left (List.getElem?_eq_some_iff.mp g).1]; exact g)) .nil (fun _ _ a b => .cons a b) r
theorem RepVs.mono {ι ι' : List Addr} {h h' : Heap} (hi : ι <+: ι') (hm : Imm h h') {xs : List Value} {vs : List V} (r : RepVs ι h xs vs) : RepVs ι' h' xs vs :=
  RepVs.rec (motive_1 := fun _ _ _ => True) (motive_2 := fun xs vs _ => RepVs ι' h' xs vs) trivial (fun _ => trivial) (fun _ _ => trivial) (fun _ _ _ => trivial) (fun _ _ _ _ => trivial) (fun _ _ => trivial) (fun _ => trivial)
    .nil (fun g _ _ ih => .cons (g.mono hi hm) ih) r

section
variable {ι : List Addr} {h : Heap}
theorem RepVs.length {xs : List Value} {vs : List V} (r : RepVs ι h xs vs) : xs.length = vs.length := by
  induction xs generalizing vs with
  | nil => cases r; rfl
  | cons x xs ih => cases r with | cons _ r => simp [ih r]
theorem RepVs.append {xs ys : List Value} {vs ws : List V} (r : RepVs ι h xs vs) (q : RepVs ι h ys ws) : RepVs ι h (xs ++ ys) (vs ++ ws) := by
  induction xs generalizing vs with
  | nil => cases r; exact q
  | cons x xs ih => cases r with | cons g r => exact .cons g (ih r)
theorem RepVs.reverse {xs : List Value} {vs : List V} (r : RepVs ι h xs vs) : RepVs ι h xs.reverse vs.reverse := by
  induction xs generalizing vs with
  | nil => cases r; exact .nil
  | cons x xs ih => cases r with | cons g r => simpa using (ih r).append (.cons g .nil)
theorem RepVs.get {xs : List Value} {vs : List V} (r : RepVs ι h xs vs) {k : Nat} {v : V} (e : vs[k]? = some v) : ∃ x, xs[k]? = some x ∧ RepV ι h x v := by
  induction xs generalizing vs k with
  | nil => cases r; simp at e
  | cons x xs ih =>
    cases r with
    | cons g r =>
      cases k with
      | zero => simp at e; subst e; exact ⟨x, rfl, g⟩
      | succ k => simpa using ih r (by simpa using e)
theorem RepVs.get' {xs : List Value} {vs : List V} (r : RepVs ι h xs vs) {k : Nat} {x : Value} (e : xs[k]? = some x) : ∃ v, vs[k]? = some v ∧ RepV ι h x v := by
  induction xs generalizing vs k with
  | nil => simp at e
  | cons y xs ih =>
    cases r with
    | cons g r =>
      cases k with
      | zero => simp at e; subst e; exact ⟨_, rfl, g⟩
      | succ k => simpa using ih r (by simpa using e)
theorem RepVs.take {xs : List Value} {vs : List V} (r : RepVs ι h xs vs) (k : Nat) : RepVs ι h (xs.take k) (vs.take k) := by
  induction xs generalizing vs k with
  | nil => cases r; simpa using RepVs.nil
  | cons x xs ih =>
    cases r with
    | cons g r =>
      cases k with
      | zero => simpa using RepVs.nil
      | succ k => simpa using RepVs.cons g (ih r k)
theorem RepVs.drop {xs : List Value} {vs : List V} (r : RepVs ι h xs vs) (k : Nat) : RepVs ι h (xs.drop k) (vs.drop k) := by
  induction xs generalizing vs k with
  | nil => cases r; simpa using RepVs.nil
  | cons x xs ih =>
    cases r with
    | cons g r =>
      cases k with
      | zero => simpa using RepVs.cons g r
      | succ k => simpa using ih r k
theorem RepV.strInv {x : Value} {s : List Nat} (r : RepV ι h x (.str s)) : ∃ y t, x = .str y t ∧ y.cps.toList = s ∧ y.length ≤ SZ := by
  cases r with | str y t z => exact ⟨y, t, rfl, rfl, z⟩
theorem RepV.noneI {x : Value} (r : RepV ι h x .none) : x = .none := by cases r; rfl
theorem RepV.boolI {x : Value} {b : Bool} (r : RepV ι h x (.bool b)) : x = .bool b := by cases r; rfl
theorem RepV.intI {x : Value} {i : Int} (r : RepV ι h x (.int i)) : ∃ t, x = .int i t := by cases r; exact ⟨_, rfl⟩
theorem RepV.tupI {x : Value} {vs : List V} (r : RepV ι h x (.tup vs)) : ∃ a n vals, x = .ref a ∧ h.get? a = some { cls := .type "tuple", data := .seq vals n } ∧ vals.size ≤ SZ ∧ RepVs ι h vals.toList vs := by
  cases r with | tup g z r => exact ⟨_, _, _, rfl, g, z, r⟩
theorem RepV.rngI {v : Value} {x y z : Int} (r : RepV ι h v (.rng x y z)) : ∃ a t u w, v = .ref a ∧ IsRange h a x y z t u w ∧ smallI x ∧ smallI y ∧ smallI z ∧ 0 < z := by
  cases r with | rng g z => exact ⟨_, _, _, _, rfl, g, z⟩
theorem RepV.refI {x : Value} {n : Nat} (r : RepV ι h x (.ref n)) : ∃ a, x = .ref a ∧ ι[n]? = some a := by
  cases r with | ref g => exact ⟨_, rfl, g⟩
theorem RepVs.nilI {xs : List Value} (r : RepVs ι h xs []) : xs = [] := by cases r; rfl
theorem RepVs.consI {xs : List Value} {v : V} {vs : List V} (r : RepVs ι h xs (v :: vs)) : ∃ x ys, xs = x :: ys ∧ RepV ι h x v ∧ RepVs ι h ys vs := by
  cases r with | cons g r => exact ⟨_, _, rfl, g, r⟩
theorem RepVs.oneI {xs : List Value} {v : V} (r : RepVs ι h xs [v]) : ∃ x, xs = [x] ∧ RepV ι h x v := by
  obtain ⟨x, ys, rfl, g, r⟩ := r.consI
  exact ⟨x, by rw [r.nilI], g⟩
theorem RepV.strOf {y : Str} {t : Tok} {s : List Nat} (e : y.cps.toList = s) (z : y.length ≤ SZ) : RepV ι h (.str y t) (.str s) := e ▸ .str y t z
end

/-- the model's hash of a key -/
noncomputable def hashA (w : World) : V → Int
  | .int i => hashInt i
  | .str s => hashStr w ⟨s.toArray⟩
  | _ => 0
noncomputable def hashK (w : World) : V → Int
  | .tup vs => reduceHash (Builtin.Tuple.tupleHashOf (vs.map (hashA w)))
  | v => hashA w v

inductive RepEs (w : World) (ι : List Addr) (h : Heap) : List DictEntry → List (V × V) → Prop
  | nil : RepEs w ι h [] []
  | cons {e : DictEntry} {es : List DictEntry} {k v : V} {r : List (V × V)} : e.hash = hashK w k → RepV ι h e.key k → RepV ι h e.val v → k.isKey = true → RepEs w ι h es r → RepEs w ι h (e :: es) ((k, v) :: r)

theorem RepEs.mono {w : World} {ι ι' : List Addr} {h h' : Heap} (hi : ι <+: ι') (hm : Imm h h') {es : List DictEntry} {r : List (V × V)} (x : RepEs w ι h es r) : RepEs w ι' h' es r := by
  induction x with
  | nil => exact .nil
  | cons a b c d _ ih => exact .cons a (b.mono hi hm) (c.mono hi hm) d ih

noncomputable def RepO (w : World) (ι : List Addr) (h : Heap) (a : Addr) : MO → Prop
  | .list vs => ∃ vals n, h.get? a = some { cls := .type "list", data := .seq vals n } ∧ RepVs ι h vals.toList vs ∧ vs.length ≤ SZ
  | .frz vs => ∃ vals, h.IsList a vals ∧ RepVs ι h vals.toList vs ∧ vs.length ≤ SZ
  | .dict es n => ∃ ents, h.get? a = some { cls := .type "dict", data := .dict ents n } ∧ RepEs w ι h ents.toList es ∧ (es.map (·.1)).Nodup ∧ es.length ≤ SZ

theorem RepO.mono {w : World} {ι ι' : List Addr} {h h' : Heap} {a : Addr} {o : MO} (hi : ι <+: ι') (hm : Imm h h') (ha : ∀ o, h.get? a = some o → h'.get? a = some o) (x : RepO w ι h a o) : RepO w ι' h' a o := by
  cases o with
  | list vs => obtain ⟨vals, n, g, r, z⟩ := x; exact ⟨vals, n, ha _ g, r.mono hi hm, z⟩
  | frz vs => obtain ⟨vals, ⟨o, g, c⟩, r, z⟩ := x; exact ⟨vals, ⟨o, ha _ g, c⟩, r.mono hi hm, z⟩
  | dict es n => obtain ⟨ents, g, r, z⟩ := x; exact ⟨ents, ha _ g, r.mono hi hm, z⟩
theorem RepO.get {w : World} {ι : List Addr} {h : Heap} {a : Addr} {o : MO} (x : RepO w ι h a o) : ∃ ob, h.get? a = some ob ∧ ¬ isImm ob := by
  cases o with
  | list vs => obtain ⟨vals, n, g, r, z⟩ := x; exact ⟨_, g, notImm_list rfl⟩
  | frz vs => obtain ⟨vals, ⟨o, g, c, _⟩, r, z⟩ := x; exact ⟨_, g, notImm_list c⟩
  | dict es n => obtain ⟨ents, g, r, z⟩ := x; exact ⟨_, g, notImm_dict rfl⟩

/-- the frame at hand: its environment, its names' slots, what must stay -/
structure Cx where
  w : World
  env : Env
  nm : Str → Option Nat
  st : Str → Bool
  P : Addr → Obj → Prop
  s0 : Shared
  scr : Addr

noncomputable def VarAt (env : Env) (h : Heap) (x : Str) (val : Value) : Prop :=
  (env.kindOf x = some .local ∧ ∃ m, h.Ns env.locals m ∧ m x = some val) ∨
  ((env.kindOf x = some .cell ∨ env.kindOf x = some .free) ∧ ∃ c, env.cells.lookup x = some c ∧ h.IsCell c (some val))

/-- an object stays; a frame's names stay but for what the model notes beside them -/
noncomputable def Mk (o : Obj) : Prop := o.slots = #[none] ∧ ∃ es n, o.data = .dict es n
noncomputable def Kp (s0 : Shared) (h : Heap) (a : Addr) (o : Obj) : Prop := h.get? a = some o ∨ (s0.heap.get? a = none ∧ Mk o ∧ ∃ sl, h.get? a = some { o with slots := sl })
theorem Kp.obj {s0 : Shared} {h : Heap} {a : Addr} {o : Obj} (x : Kp s0 h a o) : ∃ o', h.get? a = some o' ∧ o'.data = o.data := by
  rcases x with e | ⟨_, _, sl, e⟩
  · exact ⟨o, e, rfl⟩
  · exact ⟨_, e, rfl⟩
theorem Kp.lt {s0 : Shared} {h : Heap} {a : Addr} {o : Obj} (x : Kp s0 h a o) : a < h.objs.size := let ⟨_, e, _⟩ := x.obj; Heap.lt_size e
theorem Kp.mono {s0 : Shared} {h h' : Heap} {a : Addr} {o : Obj} (x : Kp s0 h a o) (hk : ∀ o, h.get? a = some o → h'.get? a = some o) : Kp s0 h' a o :=
  x.imp (hk _) fun ⟨e1, e2, sl, e⟩ => ⟨e1, e2, sl, hk _ e⟩
theorem Kp.base {s0 : Shared} {h : Heap} {a : Addr} {o : Obj} (x : Kp s0 h a o) (e : s0.heap.get? a = some o) : h.get? a = some o := by
  rcases x with x | ⟨x, _⟩
  · exact x
  · rw [x] at e; cases e
theorem Kp.exact {s0 : Shared} {h : Heap} {a : Addr} {o : Obj} (x : Kp s0 h a o) (hd : ¬ Mk o) : h.get? a = some o :=
  x.elim id fun ⟨_, e, _⟩ => absurd e hd
theorem notMk_fields {o : Obj} {vs} (h : o.data = .fields vs) : ¬ Mk o := fun ⟨_, _, _, e⟩ => by rw [h] at e; cases e
theorem notMk_seq {o : Obj} {vs n} (h : o.data = .seq vs n) : ¬ Mk o := fun ⟨_, _, _, e⟩ => by rw [h] at e; cases e
theorem notMk_new {o : Obj} (h : o.slots = #[]) : ¬ Mk o := fun ⟨e, _⟩ => by rw [h] at e; cases e
theorem Kp.ns {s0 : Shared} {h h' : Heap} {a : Addr} {m : Str → Option Value} (x : ∀ o, h.get? a = some o → Kp s0 h' a o) (n : h.Ns a m) : h'.Ns a m := by
  obtain ⟨o, es, ep, g, d, r⟩ := n
  obtain ⟨o', g', d'⟩ := (x o g).obj
  exact ⟨o', es, ep, g', d'.trans d, r⟩

structure CxOk (cx : Cx) : Prop where
  fn : cx.env.scope.kind = .function
  gl : cx.env.globals = mainGlobals
  bl : cx.env.builtins = builtinsNs
  inj : ∀ x y i, cx.nm x = some i → cx.nm y = some i → x = y
  kinds : ∀ x i, cx.nm x = some i → cx.env.kindOf x = some .local ∨ ((cx.env.kindOf x = some .cell ∨ cx.env.kindOf x = some .free) ∧ ∃ c, cx.env.cells.lookup x = some c)
  plain : ∀ x i, cx.nm x = some i → (x == ("__debug__" : Str)) = false ∧ (x == ("__classdict__" : Str)) = false
  cinj : ∀ x y c, cx.env.cells.lookup x = some c → cx.env.cells.lookup y = some c → x = y
  own : ∀ x c o, cx.st x = true → cx.env.kindOf x = some .cell → cx.env.cells.lookup x = some c → ¬ cx.P c o
  loc : ∀ o, ¬ cx.P cx.env.locals o
  base : ∀ a o, cx.s0.heap.get? a = some o → a ≠ cx.scr → cx.P a o
  lowL : sysModules < cx.env.locals

structure St (cx : Cx) (ι : List Addr) (ρ : Rho) (H : H) (s : Shared) : Prop where
  same : ∃ h tk, s = { cx.s0 with heap := h, toks := tk }
  len : ι.length = H.length
  nodup : ι.Nodup
  objs : ∀ (n : Nat) (a : Addr) (o : MO), ι[n]? = some a → H[n]? = some o → RepO cx.w ι s.heap a o
  low : ∀ a ∈ ι, a ≠ sysModules
  scr : ∀ o, cx.s0.heap.get? cx.scr = some o → s.heap.get? cx.scr = some o
  scrI : ∀ (n : Nat), ι[n]? = some cx.scr → ∃ vs, H[n]? = some (.frz vs)
  scrIn : cx.scr ∈ ι
  prot : ∀ a o, cx.P a o → Kp cx.s0 s.heap a o
  protI : ∀ a o, cx.P a o → a ∉ ι
  ns : ∃ m, s.heap.Ns cx.env.locals m
  nsI : cx.env.locals ∉ ι
  cells : ∀ x c, cx.env.cells.lookup x = some c → (∃ ov, s.heap.IsCell c ov) ∧ c ∉ ι ∧ c ≠ cx.env.locals
  vars : ∀ x i v, cx.nm x = some i → ρ i = some v → ∃ val, VarAt cx.env s.heap x val ∧ RepV ι s.heap val v

/-- the state went on: abstract refs only grow, tuples stay -/
structure Mono (ι : List Addr) (s : Shared) (ι' : List Addr) (s' : Shared) : Prop where
  pre : ι <+: ι'
  imm : Imm s.heap s'.heap
theorem Mono.refl (ι : List Addr) (s : Shared) : Mono ι s ι s := ⟨List.prefix_refl _, .refl _⟩
theorem Mono.trans {ι ι' ι'' : List Addr} {s s' s'' : Shared} (x : Mono ι s ι' s') (y : Mono ι' s' ι'' s'') : Mono ι s ι'' s'' := ⟨x.pre.trans y.pre, x.imm.trans y.imm⟩
theorem Mono.rep {ι ι' : List Addr} {s s' : Shared} (x : Mono ι s ι' s') {v : Value} {d : V} (r : RepV ι s.heap v d) : RepV ι' s'.heap v d := r.mono x.pre x.imm
theorem Mono.reps {ι ι' : List Addr} {s s' : Shared} (x : Mono ι s ι' s') {v : List Value} {d : List V} (r : RepVs ι s.heap v d) : RepVs ι' s'.heap v d := r.mono x.pre x.imm

section
variable {cx : Cx} {ι : List Addr} {ρ : Rho} {H : H} {s : Shared}

theorem IsCell.obj {h : Heap} {c : Addr} {v : Option Value} (x : h.IsCell c v) : ∃ o, h.get? c = some o := let ⟨o, g, _⟩ := x; ⟨o, g⟩
theorem Ns.obj {h : Heap} {a : Addr} {m} (x : h.Ns a m) : ∃ o, h.get? a = some o := let ⟨o, _, _, g, _⟩ := x; ⟨o, g⟩

theorem VarAt.keeps {env : Env} {h h' : Heap} {x : Str} {val : Value} (v : VarAt env h x val) (hk : ∀ b o, h.get? b = some o → h'.get? b = some o) : VarAt env h' x val := by
  rcases v with ⟨k, m, n, e⟩ | ⟨k, c, l, i⟩
  · exact .inl ⟨k, m, n.keeps hk, e⟩
  · exact .inr ⟨k, c, l, i.keeps hk⟩

/-- only new objects, only new tokens -/
theorem St.ext (S : St cx ι ρ H s) {h' : Heap} (tk : Nat) (hk : ∀ b o, s.heap.get? b = some o → h'.get? b = some o) : St cx ι ρ H { s with heap := h', toks := tk } where
  same := by obtain ⟨h, t, rfl⟩ := S.same; exact ⟨h', tk, rfl⟩
  len := S.len
  nodup := S.nodup
  objs := fun n a o hn ho => (S.objs n a o hn ho).mono (List.prefix_refl _) (.of_ext hk) (hk _)
  low := S.low
  scr := fun o e => hk _ _ (S.scr o e)
  scrI := S.scrI
  scrIn := S.scrIn
  prot := fun a o p => (S.prot a o p).mono (hk _)
  protI := S.protI
  ns := let ⟨m, n⟩ := S.ns; ⟨m, n.keeps hk⟩
  nsI := S.nsI
  cells := fun x c l => let ⟨⟨ov, i⟩, r⟩ := S.cells x c l; ⟨⟨ov, i.keeps hk⟩, r⟩
  vars := fun x i v hx hv => let ⟨val, a, r⟩ := S.vars x i v hx hv; ⟨val, a.keeps hk, r.mono (List.prefix_refl _) (.of_ext hk)⟩
theorem St.toks (S : St cx ι ρ H s) (tk : Nat) : St cx ι ρ H { s with toks := tk } := S.ext tk fun _ _ e => e
theorem St.push (S : St cx ι ρ H s) (o : Obj) (tk : Nat) : St cx ι ρ H { s with heap := s.heap.push o, toks := tk } := S.ext tk fun _ _ e => Heap.get?_push_of_some _ e
theorem Mono.ext {ι : List Addr} {s : Shared} {h' : Heap} {tk : Nat} (hk : ∀ b o, s.heap.get? b = some o → h'.get? b = some o) : Mono ι s ι { s with heap := h', toks := tk } := ⟨List.prefix_refl _, .of_ext hk⟩

/-- a new mutable object joins the abstract heap -/
theorem St.alloc (S : St cx ι ρ H s) {a : Addr} {o : MO} (hr : RepO cx.w ι s.heap a o) (ha : a ∉ ι) (hlow : a ≠ sysModules) (hP : ∀ ob, ¬ cx.P a ob) (hL : a ≠ cx.env.locals)
    (hc : ∀ x c, cx.env.cells.lookup x = some c → c ≠ a) : St cx (ι ++ [a]) ρ (H ++ [o]) s where
  same := S.same
  len := by simp [S.len]
  nodup := by
    rw [List.nodup_append]
    refine ⟨S.nodup, by simp, fun x hx y hy => ?_⟩
    simp at hy; subst hy; rintro rfl; exact ha hx
  objs := fun n b ob hn ho => by
    by_cases hlt : n < ι.length
    · rw [List.getElem?_append_left hlt] at hn
      rw [List.getElem?_append_left (S.len ▸ hlt)] at ho
      exact (S.objs n b ob hn ho).mono (List.prefix_append _ _) (.refl _) fun _ e => e
    · have hn' := (List.getElem?_eq_some_iff.mp hn).1
      simp at hn'
      have : n = ι.length := by omega
      subst this
      rw [List.getElem?_append_right (Nat.le_refl _)] at hn
      rw [S.len, List.getElem?_append_right (Nat.le_refl _)] at ho
      simp at hn ho
      subst hn; subst ho
      exact hr.mono (List.prefix_append _ _) (.refl _) fun _ e => e
  low := fun b hb => by
    rcases List.mem_append.mp hb with hb | hb
    · exact S.low b hb
    · simp at hb; subst hb; exact hlow
  scr := S.scr
  scrI := fun n hn => by
    by_cases hlt : n < ι.length
    · rw [List.getElem?_append_left hlt] at hn
      rw [List.getElem?_append_left (S.len ▸ hlt)]
      exact S.scrI n hn
    · exfalso
      rw [List.getElem?_append_right (Nat.le_of_not_lt hlt)] at hn
      have hm := List.mem_of_getElem? hn
      simp at hm
      exact ha (hm ▸ S.scrIn)
  scrIn := List.mem_append_left _ S.scrIn
  prot := S.prot
  protI := fun b ob p hb => by
    rcases List.mem_append.mp hb with hb | hb
    · exact S.protI b ob p hb
    · simp at hb; subst hb; exact hP ob p
  ns := S.ns
  nsI := fun hb => by
    rcases List.mem_append.mp hb with hb | hb
    · exact S.nsI hb
    · simp at hb; exact hL hb.symm
  cells := fun x c l => by
    obtain ⟨i, h1, h2⟩ := S.cells x c l
    refine ⟨i, fun hb => ?_, h2⟩
    rcases List.mem_append.mp hb with hb | hb
    · exact h1 hb
    · simp at hb; exact hc x c l hb
  vars := fun x i v hx hv => let ⟨val, a, r⟩ := S.vars x i v hx hv; ⟨val, a, r.mono (List.prefix_append _ _) (.refl _)⟩

/-- addresses that hold nothing yet are apart from all that is tracked -/
theorem St.fresh (S : St cx ι ρ H s) (ok : CxOk cx) {a : Addr} (ha : s.heap.objs.size ≤ a) : a ∉ ι ∧ a ≠ sysModules ∧ (∀ ob, ¬ cx.P a ob) ∧ a ≠ cx.env.locals ∧ (∀ x c, cx.env.cells.lookup x = some c → c ≠ a) := by
  have none : ∀ o, s.heap.get? a = some o → False := fun o e => absurd (Heap.lt_size e) (Nat.not_lt.mpr ha)
  refine ⟨fun hm => ?_, ?_, fun ob p => let ⟨_, e, _⟩ := (S.prot _ _ p).obj; none _ e, fun e => ?_, fun x c l e => ?_⟩
  · obtain ⟨n, hn⟩ := List.mem_iff_getElem?.mp hm
    have hlt : n < H.length := S.len ▸ (List.getElem?_eq_some_iff.mp hn).1
    obtain ⟨ob, g, _⟩ := (S.objs n a _ hn (List.getElem?_eq_getElem hlt)).get
    exact none _ g
  · obtain ⟨m, hn⟩ := S.ns
    exact Nat.ne_of_gt (Nat.lt_of_lt_of_le (Nat.lt_trans ok.lowL hn.lt) ha)
  · obtain ⟨m, hn⟩ := S.ns
    obtain ⟨o, g⟩ := Ns.obj hn
    exact none o (e ▸ g)
  · obtain ⟨⟨ov, i⟩, _⟩ := S.cells x c l
    obtain ⟨o, g⟩ := IsCell.obj i
    exact none o (e ▸ g)
end
end Tw
end

section
namespace Tw
open PySem

section
variable {cx : Cx} {ι : List Addr} {ρ : Rho} {H : H} {s : Shared}

theorem St.obj (S : St cx ι ρ H s) {n : Nat} {a : Addr} (ha : ι[n]? = some a) : ∃ o, H[n]? = some o ∧ RepO cx.w ι s.heap a o := by
  have hlt : n < H.length := S.len ▸ (List.getElem?_eq_some_iff.mp ha).1
  exact ⟨_, List.getElem?_eq_getElem hlt, S.objs n a _ ha (List.getElem?_eq_getElem hlt)⟩
theorem St.objOf (S : St cx ι ρ H s) {n : Nat} {a : Addr} {o : MO} (ha : ι[n]? = some a) (ho : H[n]? = some o) : RepO cx.w ι s.heap a o := S.objs n a o ha ho

theorem VarAt.extBut {env : Env} {h h' : Heap} {x : Str} {val : Value} {a : Addr} (v : VarAt env h x val) (hk : Heap.ExtBut a h h') (hL : env.locals ≠ a) (hc : ∀ x c, env.cells.lookup x = some c → c ≠ a) : VarAt env h' x val := by
  rcases v with ⟨k, m, n, e⟩ | ⟨k, c, l, o, g, d⟩
  · exact .inl ⟨k, m, n.extBut hk hL, e⟩
  · exact .inr ⟨k, c, l, o, hk _ _ (hc _ _ l) g, d⟩

/-- a mutable object turns -/
theorem St.set (S : St cx ι ρ H s) {n : Nat} {a : Addr} {o' : MO} {h' : Heap} (tk : Nat) (ha : ι[n]? = some a) (hnf : ∀ vs, H[n]? ≠ some (.frz vs)) (hk : Heap.ExtBut a s.heap h') (hr : RepO cx.w ι h' a o') :
    St cx ι ρ (H.set n o') { s with heap := h', toks := tk } ∧ Mono ι s ι { s with heap := h', toks := tk } := by
  obtain ⟨o, ho, r⟩ := S.obj ha
  obtain ⟨ob, g, c1⟩ := r.get
  have imm : Imm s.heap h' := .of_but hk fun o' e => by rw [g] at e; cases e; exact c1
  have hmem : a ∈ ι := List.mem_of_getElem? ha
  have hscr : cx.scr ≠ a := by
    rintro rfl
    obtain ⟨vs, e⟩ := S.scrI n ha
    exact hnf vs e
  refine ⟨?_, ⟨List.prefix_refl _, imm⟩⟩
  exact {
    same := by obtain ⟨h, t, rfl⟩ := S.same; exact ⟨h', tk, rfl⟩
    len := by simp [S.len]
    scr := fun o e => hk _ _ hscr (S.scr o e)
    scrI := fun k hk' => by
      have hne : n ≠ k := by
        rintro rfl
        rw [ha] at hk'; cases hk'; exact hscr rfl
      rw [List.getElem?_set_ne hne]; exact S.scrI k hk'
    scrIn := S.scrIn
    nodup := S.nodup
    objs := fun k b o₂ hb ho₂ => by
      by_cases hkn : k = n
      · subst hkn
        rw [ha] at hb; cases hb
        have hlt : k < H.length := S.len ▸ (List.getElem?_eq_some_iff.mp ha).1
        rw [List.getElem?_set_self hlt] at ho₂
        cases ho₂; exact hr
      · rw [List.getElem?_set_ne (fun e => hkn e.symm)] at ho₂
        refine (S.objs k b o₂ hb ho₂).mono (List.prefix_refl _) imm fun ob e => hk _ _ (fun e' => ?_) e
        subst e'
        exact hkn ((List.getElem?_inj (List.getElem?_eq_some_iff.mp hb).1 S.nodup).mp (hb.trans ha.symm))
    low := S.low
    prot := fun b ob p => (S.prot b ob p).mono fun o => hk _ o fun e => S.protI b ob p (e ▸ hmem)
    protI := S.protI
    ns := let ⟨m, hn⟩ := S.ns; ⟨m, hn.extBut hk fun e => S.nsI (e ▸ hmem)⟩
    nsI := S.nsI
    cells := fun x c l => by
      obtain ⟨⟨ov, oc, gc, dc⟩, h1, h2⟩ := S.cells x c l
      exact ⟨⟨ov, oc, hk _ _ (fun e => h1 (e ▸ hmem)) gc, dc⟩, h1, h2⟩
    vars := fun x i v hx hv => by
      obtain ⟨val, va, rv⟩ := S.vars x i v hx hv
      exact ⟨val, va.extBut hk (fun e => S.nsI (e ▸ hmem)) fun y c l e => (S.cells y c l).2.1 (e ▸ hmem), rv.mono (List.prefix_refl _) imm⟩ }

theorem Ns.notImm {h : Heap} {a : Addr} {m} (x : h.Ns a m) : ∀ o, h.get? a = some o → ¬ isImm o := fun o g => by
  obtain ⟨o', es, ep, g', d, _⟩ := x
  rw [g] at g'; cases g'; exact notImm_dict d
theorem IsCell.notImm {h : Heap} {c : Addr} {v} (x : h.IsCell c v) : ∀ o, h.get? c = some o → ¬ isImm o := fun o g => by
  obtain ⟨o', g', d⟩ := x
  rw [g] at g'; cases g'; exact notImm_cell d
theorem Ns.uniq {h : Heap} {a : Addr} {m m'} (x : h.Ns a m) (y : h.Ns a m') : m = m' := by
  obtain ⟨o, es, ep, g, d, _, e⟩ := x
  obtain ⟨o', es', ep', g', d', _, e'⟩ := y
  rw [g] at g'; cases g'
  rw [d] at d'; cases d'
  funext z; rw [← e, ← e']

/-- a local name is stored -/
theorem St.local (S : St cx ι ρ H s) (ok : CxOk cx) {x : Str} {i : Nat} {v : V} {val : Value} {h' : Heap} {m : Str → Option Value} (tk : Nat) (hx : cx.nm x = some i) (hl : cx.env.kindOf x = some .local)
    (hm : s.heap.Ns cx.env.locals m) (hn : h'.Ns cx.env.locals (fun y => if y = x then some val else m y)) (hs : Heap.ExtBut cx.env.locals s.heap h') (r : RepV ι s.heap val v) :
    St cx ι (upd ρ i v) H { s with heap := h', toks := tk } ∧ Mono ι s ι { s with heap := h', toks := tk } := by
  have imm : Imm s.heap h' := .of_but hs (Ns.notImm hm)
  refine ⟨?_, ⟨List.prefix_refl _, imm⟩⟩
  exact {
    same := by obtain ⟨h, t, rfl⟩ := S.same; exact ⟨h', tk, rfl⟩
    len := S.len
    nodup := S.nodup
    objs := fun k b o₂ hb ho₂ => (S.objs k b o₂ hb ho₂).mono (List.prefix_refl _) imm fun ob e => hs _ _ (fun e' => S.nsI (e' ▸ List.mem_of_getElem? hb)) e
    low := S.low
    scr := fun o e => hs _ _ (fun e' => S.nsI (e' ▸ S.scrIn)) (S.scr o e)
    scrI := S.scrI
    scrIn := S.scrIn
    prot := fun b ob p => (S.prot b ob p).mono fun o => hs _ o fun e => ok.loc ob (e ▸ p)
    protI := S.protI
    ns := ⟨_, hn⟩
    nsI := S.nsI
    cells := fun y c l => by
      obtain ⟨⟨ov, oc, gc, dc⟩, h1, h2⟩ := S.cells y c l
      exact ⟨⟨ov, oc, hs _ _ h2 gc, dc⟩, h1, h2⟩
    vars := fun y j w hy hw => by
      unfold upd at hw
      by_cases hj : j = i
      · subst hj
        obtain rfl := ok.inj y x j hy hx
        rw [if_pos rfl] at hw; cases hw
        exact ⟨val, .inl ⟨hl, _, hn, by simp⟩, r.mono (List.prefix_refl _) imm⟩
      · rw [if_neg hj] at hw
        obtain ⟨val', va, rv⟩ := S.vars y j w hy hw
        refine ⟨val', ?_, rv.mono (List.prefix_refl _) imm⟩
        have hyx : y ≠ x := fun e => hj (by rw [e, hx] at hy; exact (Option.some.inj hy).symm)
        rcases va with ⟨k, m', n', e⟩ | ⟨k, c, l, o, g, d⟩
        · obtain rfl := Ns.uniq hm n'
          exact .inl ⟨k, _, hn, by simp [hyx, e]⟩
        · exact .inr ⟨k, c, l, o, hs _ _ (S.cells y c l).2.2 g, d⟩ }

/-- a cell is stored -/
theorem St.cell (S : St cx ι ρ H s) (ok : CxOk cx) {x : Str} {i : Nat} {v : V} {val : Value} {h' : Heap} {c : Addr} (tk : Nat) (hx : cx.nm x = some i) (hst : cx.st x = true) (hl : cx.env.kindOf x = some .cell)
    (hc : cx.env.cells.lookup x = some c) (hn : h'.IsCell c (some val)) (hs : Heap.ExtBut c s.heap h') (r : RepV ι s.heap val v) :
    St cx ι (upd ρ i v) H { s with heap := h', toks := tk } ∧ Mono ι s ι { s with heap := h', toks := tk } := by
  obtain ⟨⟨ov, hov⟩, hcI, hcL⟩ := S.cells x c hc
  have imm : Imm s.heap h' := .of_but hs (IsCell.notImm hov)
  refine ⟨?_, ⟨List.prefix_refl _, imm⟩⟩
  exact {
    same := by obtain ⟨h, t, rfl⟩ := S.same; exact ⟨h', tk, rfl⟩
    len := S.len
    nodup := S.nodup
    objs := fun k b o₂ hb ho₂ => (S.objs k b o₂ hb ho₂).mono (List.prefix_refl _) imm fun ob e => hs _ _ (fun e' => hcI (e' ▸ List.mem_of_getElem? hb)) e
    low := S.low
    scr := fun o e => hs _ _ (fun e' => hcI (e' ▸ S.scrIn)) (S.scr o e)
    scrI := S.scrI
    scrIn := S.scrIn
    prot := fun b ob p => (S.prot b ob p).mono fun o => hs _ o fun e => ok.own x c ob hst hl hc (e ▸ p)
    protI := S.protI
    ns := let ⟨m, n⟩ := S.ns; ⟨m, n.extBut hs fun e => hcL e.symm⟩
    nsI := S.nsI
    cells := fun y c' l => by
      obtain ⟨⟨ov', oc, gc, dc⟩, h1, h2⟩ := S.cells y c' l
      by_cases hcc : c' = c
      · subst hcc; exact ⟨⟨_, hn⟩, h1, h2⟩
      · exact ⟨⟨ov', oc, hs _ _ hcc gc, dc⟩, h1, h2⟩
    vars := fun y j w hy hw => by
      unfold upd at hw
      by_cases hj : j = i
      · subst hj
        obtain rfl := ok.inj y x j hy hx
        rw [if_pos rfl] at hw; cases hw
        exact ⟨val, .inr ⟨.inl hl, c, hc, hn⟩, r.mono (List.prefix_refl _) imm⟩
      · rw [if_neg hj] at hw
        obtain ⟨val', va, rv⟩ := S.vars y j w hy hw
        refine ⟨val', ?_, rv.mono (List.prefix_refl _) imm⟩
        have hyx : y ≠ x := fun e => hj (by rw [e, hx] at hy; exact (Option.some.inj hy).symm)
        rcases va with ⟨k, m', n', e⟩ | ⟨k, c', l, o, g, d⟩
        · exact .inl ⟨k, _, n'.extBut hs fun e => hcL e.symm, e⟩
        · exact .inr ⟨k, c', l, o, hs _ _ (fun e => hyx (ok.cinj y x c' l (e ▸ hc))) g, d⟩ }

/-- names forgotten, or none changed -/
theorem St.rho (S : St cx ι ρ H s) {ρ' : Rho} (h : ∀ x i v, cx.nm x = some i → ρ' i = some v → ρ i = some v) : St cx ι ρ' H s :=
  { S with vars := fun x i v hx hv => S.vars x i v hx (h x i v hx hv) }

/-- one more object that must stay -/
noncomputable def Cx.keep (cx : Cx) (a : Addr) (o : Obj) : Cx := { cx with P := fun b ob => cx.P b ob ∨ (b = a ∧ ob = o) }
theorem CxOk.keep (ok : CxOk cx) {a : Addr} {o : Obj} (hL : a ≠ cx.env.locals) (hc : ∀ x c, cx.env.kindOf x = some .cell → cx.env.cells.lookup x = some c → c ≠ a) : CxOk (cx.keep a o) where
  fn := ok.fn
  gl := ok.gl
  bl := ok.bl
  inj := ok.inj
  kinds := ok.kinds
  plain := ok.plain
  cinj := ok.cinj
  own := fun x c ob hs hk l p => p.elim (ok.own x c ob hs hk l) fun e => hc x c hk l e.1
  loc := fun ob p => p.elim (ok.loc ob) fun e => hL e.1.symm
  base := fun b ob e n => .inl (ok.base b ob e n)
  lowL := ok.lowL
theorem St.keep (S : St cx ι ρ H s) {a : Addr} {o : Obj} (g : s.heap.get? a = some o) (ha : a ∉ ι) : St (cx.keep a o) ι ρ H s :=
  { S with
    prot := fun b ob p => p.elim (S.prot b ob) fun e => by rw [e.1, e.2]; exact .inl g
    protI := fun b ob p hm => p.elim (fun p => S.protI b ob p hm) fun e => ha (e.1 ▸ hm) }
theorem St.unkeep {a : Addr} {o : Obj} (S : St (cx.keep a o) ι ρ H s) : St cx ι ρ H s :=
  { S with
    prot := fun b ob p => S.prot b ob (.inl p)
    protI := fun b ob p => S.protI b ob (.inl p) }
end
end Tw
end

section
namespace Tw
open PySem PySem.SeqAt

section
variable {cx : Cx} {ι : List Addr} {ρ : Rho} {H : H} {s : Shared}

theorem str_inj {x y : Str} (h : x.cps.toList = y.cps.toList) : x = y := by
  cases x; cases y; simp only [Str.mk.injEq]; exact Array.toList_inj.mp h

theorem RepV.refV {h : Heap} {a : Addr} {b : V} (r : RepV ι h (.ref a) b) : (∃ n vals vs, b = .tup vs ∧ h.get? a = some { cls := .type "tuple", data := .seq vals n } ∧ RepVs ι h vals.toList vs) ∨
    (∃ x y z t u v, b = .rng x y z ∧ IsRange h a x y z t u v) ∨ ∃ n, b = .ref n ∧ ι[n]? = some a := by
  cases r with
  | tup g _ r => exact .inl ⟨_, _, _, rfl, g, r⟩
  | rng g _ => exact .inr (.inl ⟨_, _, _, _, _, _, rfl, g⟩)
  | ref g => exact .inr (.inr ⟨_, rfl, g⟩)
theorem St.noTup (S : St cx ι ρ H s) {n k : Nat} {a : Addr} {vals : Array Value} (gi : ι[n]? = some a) (g : s.heap.get? a = some { cls := .type "tuple", data := .seq vals k }) : False := by
  obtain ⟨o, _, ro⟩ := S.obj gi
  obtain ⟨ob, gb, nb⟩ := ro.get
  exact nb (Option.some.inj (g.symm.trans gb) ▸ .inl ⟨rfl, _, _, rfl⟩)
theorem St.noRng (S : St cx ι ρ H s) {n : Nat} {a : Addr} {x y z : Int} {t u v : Tok} (gi : ι[n]? = some a) (g : IsRange s.heap a x y z t u v) : False := by
  obtain ⟨o, _, ro⟩ := S.obj gi
  obtain ⟨ob, gb, nb⟩ := ro.get
  exact nb (Option.some.inj (g.symm.trans gb) ▸ .inr ⟨rfl, _, rfl⟩)
theorem tup_rng {h : Heap} {a : Addr} {vals : Array Value} {k : Nat} {x y z : Int} {t u v : Tok} (g : h.get? a = some { cls := .type "tuple", data := .seq vals k }) (g' : IsRange h a x y z t u v) : False := by
  have e := congrArg Obj.data (Option.some.inj (g.symm.trans g'))
  cases e
/-- a value stands for one abstract value -/
theorem RepV.fn (S : St cx ι ρ H s) {u : Value} {a b : V} (r : RepV ι s.heap u a) (q : RepV ι s.heap u b) : a = b := by
  refine RepV.rec (motive_1 := fun u a _ => ∀ b, RepV ι s.heap u b → a = b) (motive_2 := fun us a _ => ∀ b, RepVs ι s.heap us b → a = b) ?_ ?_ ?_ ?_ ?_ ?_ ?_ ?_ ?_ r b q
  · intro b x; cases x; rfl
  · intro _ b x; cases x; rfl
  · intro _ _ b x; cases x; rfl
  · intro _ _ _ b x; cases x; rfl
  · intro a n vals vs g z r ih b x
    obtain ⟨_, _, _, rfl, g', r'⟩ | ⟨_, _, _, _, _, _, rfl, g'⟩ | ⟨_, rfl, g'⟩ := x.refV
    · obtain ⟨e, _⟩ := Data.seq.inj (congrArg Obj.data (Option.some.inj (g.symm.trans g')))
      exact congrArg V.tup (ih _ (e ▸ r'))
    · exact (tup_rng g g').elim
    · exact (S.noTup g' g).elim
  · intro a x y z t u v g _ b x
    obtain ⟨_, _, _, rfl, g', r'⟩ | ⟨_, _, _, _, _, _, rfl, g'⟩ | ⟨_, rfl, g'⟩ := x.refV
    · exact (tup_rng g' g).elim
    · have e := Data.fields.inj (congrArg Obj.data (Option.some.inj (g.symm.trans g')))
      injection e with e
      injection e with e1 e
      injection e with e2 e
      injection e with e3 e
      injection e1 with e1
      injection e2 with e2
      injection e3 with e3
      rw [e1, e2, e3]
    · exact (S.noRng g' g).elim
  · intro a n g b x
    obtain ⟨_, _, _, rfl, g', r'⟩ | ⟨_, _, _, _, _, _, rfl, g'⟩ | ⟨_, rfl, g'⟩ := x.refV
    · exact (S.noTup g g').elim
    · exact (S.noRng g g').elim
    · rw [(List.getElem?_inj (List.getElem?_eq_some_iff.mp g).1 S.nodup).mp (g.trans g'.symm)]
  · intro b x; cases x; rfl
  · intro _ _ _ _ g r i1 i2 b x
    cases x with
    | cons g' r' => rw [i1 _ g', i2 _ r']
theorem RepVs.fn (S : St cx ι ρ H s) {us : List Value} {a b : List V} (r : RepVs ι s.heap us a) (q : RepVs ι s.heap us b) : a = b := by
  refine RepVs.rec (motive_1 := fun _ _ _ => True) (motive_2 := fun us a _ => ∀ b, RepVs ι s.heap us b → a = b) trivial (fun _ => trivial) (fun _ _ => trivial) (fun _ _ _ => trivial) (fun _ _ _ _ => trivial) (fun _ _ => trivial) (fun _ => trivial) ?_ ?_ r b q
  · intro b x; cases x; rfl
  · intro _ _ _ _ g r _ i2 b x
    cases x with
    | cons g' r' => rw [g.fn S g', i2 _ r']

theorem Snap.fn {H : Tw.H} {a : V} {d e : D} (r : Snap H a d) (q : Snap H a e) : d = e := by
  refine Snap.rec (motive_1 := fun a d _ => ∀ e, Snap H a e → d = e) (motive_2 := fun a d _ => ∀ e, Snaps H a e → d = e) ?_ ?_ ?_ ?_ ?_ ?_ ?_ ?_ r e q
  · intro e x; cases x; rfl
  · intro _ e x; cases x; rfl
  · intro _ e x; cases x; rfl
  · intro _ e x; cases x; rfl
  · intro _ _ r ih e x; cases x with | tup r' => rw [ih _ r']
  · intro _ _ _ g r ih e x
    cases x with
    | list g' r' => exact congrArg D.list (ih _ (MO.list.inj (Option.some.inj (g.symm.trans g')) ▸ r'))
  · intro e x; cases x; rfl
  · intro _ _ _ _ g r i1 i2 e x
    cases x with
    | cons g' r' => rw [i1 _ g', i2 _ r']
theorem Snaps.fn {H : Tw.H} {a : List V} {d e : List D} (r : Snaps H a d) (q : Snaps H a e) : d = e := by
  refine Snaps.rec (motive_1 := fun _ _ _ => True) (motive_2 := fun a d _ => ∀ e, Snaps H a e → d = e) trivial (fun _ => trivial) (fun _ => trivial) (fun _ => trivial) (fun _ _ => trivial) (fun _ _ _ => trivial) ?_ ?_ r e q
  · intro e x; cases x; rfl
  · intro _ _ _ _ g r _ i2 e x
    cases x with
    | cons g' r' => rw [g.fn g', i2 _ r']

theorem Snaps.length {H : Tw.H} {vs : List V} {ds : List D} (x : Snaps H vs ds) : vs.length = ds.length := by
  induction vs generalizing ds with
  | nil => cases x; rfl
  | cons v vs ih => cases x with | cons _ r => simp [ih r]
theorem Snaps.get {H : Tw.H} {vs : List V} {ds : List D} (x : Snaps H vs ds) {i : Nat} {v : V} {d : D} (hv : vs[i]? = some v) (hd : ds[i]? = some d) : Snap H v d := by
  induction vs generalizing ds i with
  | nil => simp at hv
  | cons w vs ih =>
    cases x with
    | cons g r =>
      cases i with
      | zero => simp at hv hd; subst hv; subst hd; exact g
      | succ i => exact ih r (by simpa using hv) (by simpa using hd)

structure EqAll (A : Around) (s : Shared) (u v : Value) (k : Bool) : Prop where
  rc : RcAt A s u v k
  eq : EqAt A s u v k
  ne : RcNeAt A s u v (!k)

theorem range_all_eq {ds es : List D} (hl : ds.length = es.length) (e : Nat → Bool) (he : ∀ i d d', ds[i]? = some d → es[i]? = some d' → e i = decide (d = d')) :
    (List.range ds.length).all e = decide (ds = es) := by
  rw [Bool.eq_iff_iff, List.all_eq_true, decide_eq_true_iff]
  constructor
  · intro h
    refine List.ext_getElem? fun i => ?_
    by_cases hi : i < ds.length
    · have hi' : i < es.length := hl ▸ hi
      have := h i (List.mem_range.mpr hi)
      rw [he i ds[i] es[i] (List.getElem?_eq_getElem hi) (List.getElem?_eq_getElem hi'), decide_eq_true_iff] at this
      rw [List.getElem?_eq_getElem hi, List.getElem?_eq_getElem hi', this]
    · rw [List.getElem?_eq_none (by omega), List.getElem?_eq_none (by omega)]
  · rintro rfl i hi
    have hi := List.mem_range.mp hi
    rw [he i ds[i] ds[i] (List.getElem?_eq_getElem hi) (List.getElem?_eq_getElem hi)]
    simp

theorem isTuple_of {h : Heap} {a : Addr} {vals : Array Value} {n : Nat} (g : h.get? a = some { cls := .type "tuple", data := .seq vals n }) : h.IsTuple a vals := ⟨_, g, rfl, n, rfl⟩
theorem isList_of {h : Heap} {a : Addr} {vals : Array Value} {n : Nat} (g : h.get? a = some { cls := .type "list", data := .seq vals n }) : h.IsList a vals := ⟨_, g, rfl, n, rfl⟩

theorem range_min_all {xs ys : List D} (e : Nat → Bool) (he : ∀ i d d', xs[i]? = some d → ys[i]? = some d' → e i = decide (d = d')) :
    ((List.range (min xs.length ys.length)).all e && xs.length == ys.length) = decide (xs = ys) := by
  by_cases hl : xs.length = ys.length
  · rw [hl, Nat.min_self, beq_self_eq_true, Bool.and_true, ← hl]
    exact range_all_eq hl e he
  · have h1 : (xs.length == ys.length) = false := by simpa using hl
    rw [h1, Bool.and_false, decide_eq_false]
    intro e; exact hl (by rw [e])

theorem EqAll.no {A : Around} {u v : Value} {d e : D} (h : d ≠ e) (x : EqAll A s u v false) : EqAll A s u v (decide (d = e)) := by rw [decide_eq_false h]; exact x
theorem EqAll.yes {A : Around} {u v : Value} {d e : D} (h : d = e) (x : EqAll A s u v true) : EqAll A s u v (decide (d = e)) := by rw [decide_eq_true h]; exact x

/-- what a value is that has a snapshot -/
theorem Snap.tupI {H : Tw.H} {a : V} {ds : List D} (x : Snap H a (.tup ds)) : ∃ vs, a = .tup vs ∧ Snaps H vs ds := by cases x; exact ⟨_, rfl, by assumption⟩
theorem Snap.listI {H : Tw.H} {a : V} {ds : List D} (x : Snap H a (.list ds)) : ∃ n vs, a = .ref n ∧ H[n]? = some (.list vs) ∧ Snaps H vs ds := by cases x; exact ⟨_, _, rfl, by assumption, by assumption⟩
theorem Snap.noneI {H : Tw.H} {a : V} (x : Snap H a .none) : a = .none := by cases x; rfl
theorem Snap.intI {H : Tw.H} {a : V} {i : Int} (x : Snap H a (.int i)) : a = .int i := by cases x; rfl
theorem Snap.strI {H : Tw.H} {a : V} {i : List Nat} (x : Snap H a (.str i)) : a = .str i := by cases x; rfl

/-- the kinds of values that are compared -/
inductive Kd (s : Shared) (ι : List Addr) (H : Tw.H) : Value → D → Prop
  | none : Kd s ι H .none .none
  | int (i : Int) (t : Tok) : Kd s ι H (.int i t) (.int i)
  | str (x : Str) (t : Tok) : Kd s ι H (.str x t) (.str x.cps.toList)
  | tup {a : Addr} {vals : Array Value} {n : Nat} {vs : List V} {ds : List D} : s.heap.get? a = some { cls := .type "tuple", data := .seq vals n } → RepVs ι s.heap vals.toList vs → Snaps H vs ds → Kd s ι H (.ref a) (.tup ds)
  | list {a : Addr} {vals : Array Value} {n m : Nat} {vs : List V} {ds : List D} : s.heap.get? a = some { cls := .type "list", data := .seq vals n } → ι[m]? = some a → H[m]? = some (.list vs) → RepVs ι s.heap vals.toList vs → Snaps H vs ds → Kd s ι H (.ref a) (.list ds)
theorem kd_of (S : St cx ι ρ H s) {n : Nat} {u : Value} {a : V} {d : D} (r : RepV ι s.heap u a) (x : Snap H a d) (h : D.ok (n + 1) d = true) : Kd s ι H u d := by
  cases d with
  | bool => cases h
  | none => obtain rfl := x.noneI; obtain rfl := r.noneI; exact .none
  | int => obtain rfl := x.intI; obtain ⟨t, rfl⟩ := r.intI; exact .int _ _
  | str => obtain rfl := x.strI; obtain ⟨y, t, rfl, rfl, _⟩ := r.strInv; exact .str _ _
  | tup ds => obtain ⟨vs, rfl, sn⟩ := x.tupI; obtain ⟨a, n, vals, rfl, g, _, rv⟩ := r.tupI; exact .tup g rv sn
  | list ds =>
    obtain ⟨n, vs, rfl, hH, sn⟩ := x.listI
    obtain ⟨a, rfl, gi⟩ := r.refI
    obtain ⟨vals, m, gl, rl, _⟩ := S.objOf gi hH
    exact .list gl gi hH rl sn

theorem eq_none {A : Around} {v : Value} {e : D} (hu : A.units < cLine) (k : Kd s ι H v e) : EqAll A s .none v (decide (D.none = e)) := by
  cases k with
  | none => exact .yes rfl ⟨RcAt.none_none, EqAt.same _, RcNeAt.none_none⟩
  | int => exact .no nofun ⟨RcAt.none_int _ _, EqAt.none_int _ _, RcNeAt.none_int _ _⟩
  | str => exact .no nofun ⟨RcAt.none_str _ _, EqAt.none_str _ _, RcNeAt.none_str _ _⟩
  | tup g => exact .no nofun ⟨RcAt.none_tuple (isTuple_of g) hu, EqAt.none_tuple (isTuple_of g) hu, RcNeAt.none_tuple (isTuple_of g) hu⟩
  | list g => exact .no nofun ⟨RcAt.none_list (isList_of g) hu, EqAt.none_list (isList_of g) hu, RcNeAt.none_list (isList_of g) hu⟩
theorem eq_int {A : Around} {v : Value} {e : D} (i : Int) (t : Tok) (hu : A.units < cLine) (k : Kd s ι H v e) : EqAll A s (.int i t) v (decide (D.int i = e)) := by
  cases k with
  | none => exact .no nofun ⟨RcAt.int_none _ _, EqAt.int_none _ _, RcNeAt.int_none _ _⟩
  | int j u =>
    have e : decide (D.int i = D.int j) = (i == j) := by by_cases h : i = j <;> simp [h]
    rw [e]
    exact ⟨RcAt.int_int _ _ _ _, EqAt.int_int _ _ _ _, RcNeAt.int_int _ _ _ _⟩
  | str => exact .no nofun ⟨RcAt.int_str _ _ _ _, EqAt.int_str _ _ _ _, RcNeAt.int_str _ _ _ _⟩
  | tup g => exact .no nofun ⟨RcAt.int_tuple _ _ (isTuple_of g) hu, EqAt.int_tuple _ _ (isTuple_of g) hu, RcNeAt.int_tuple _ _ (isTuple_of g) hu⟩
  | list g => exact .no nofun ⟨RcAt.int_list _ _ (isList_of g) hu, EqAt.int_list _ _ (isList_of g) hu, RcNeAt.int_list _ _ (isList_of g) hu⟩
theorem eq_str {A : Around} {v : Value} {e : D} (y : Str) (t : Tok) (hu : A.units < cLine) (k : Kd s ι H v e) : EqAll A s (.str y t) v (decide (D.str y.cps.toList = e)) := by
  cases k with
  | none => exact .no nofun ⟨RcAt.str_none _ _, EqAt.str_none _ _, RcNeAt.str_none _ _⟩
  | int => exact .no nofun ⟨RcAt.str_int _ _ _ _, EqAt.str_int _ _ _ _, RcNeAt.str_int _ _ _ _⟩
  | str y' =>
    have e : decide (D.str y.cps.toList = D.str y'.cps.toList) = (y == y') := by
      by_cases h : y = y'
      · subst h; simp
      · have : ¬ y.cps.toList = y'.cps.toList := fun q => h (str_inj q)
        simp [h, this]
    rw [e]
    exact ⟨RcAt.str_str _ _ _ _, EqAt.str_str _ _ _ _, RcNeAt.str_str _ _ _ _⟩
  | tup g => exact .no nofun ⟨RcAt.str_tuple _ _ (isTuple_of g) hu, EqAt.str_tuple _ _ (isTuple_of g) hu, RcNeAt.str_tuple _ _ (isTuple_of g) hu⟩
  | list g => exact .no nofun ⟨RcAt.str_list _ _ (isList_of g) hu, EqAt.str_list _ _ (isList_of g) hu, RcNeAt.str_list _ _ (isList_of g) hu⟩

/-- item by item -/
noncomputable def itemEq (ds es : List D) (j : Nat) : Bool := match ds[j]?, es[j]? with | some d, some e => decide (d = e) | _, _ => false
theorem itemEq_at {ds es : List D} (i : Nat) (d d' : D) (h1 : ds[i]? = some d) (h2 : es[i]? = some d') : itemEq ds es i = decide (d = d') := by
  unfold itemEq; rw [h1, h2]
noncomputable def Items (A : Around) (s : Shared) (n : Nat) (ι : List Addr) (H : Tw.H) : Prop := ∀ {xs ys : Array Value} {vs ws : List V} {ds es : List D}, RepVs ι s.heap xs.toList vs → RepVs ι s.heap ys.toList ws → Snaps H vs ds → Snaps H ws es → ds.all (D.ok n) = true → es.all (D.ok n) = true →
        ∀ j (h1 : j < xs.size) (h2 : j < ys.size), EqAt A.in1 s xs[j] ys[j] (itemEq ds es j)
theorem eq_tup (S : St cx ι ρ H s) {A : Around} {v : Value} {e : D} {n m : Nat} {la : Addr} {va : Array Value} {vs : List V} {ds : List D} (hu : A.units < cLine) (it : Items A s n ι H) (g : s.heap.get? la = some { cls := .type "tuple", data := .seq va m }) (q : RepVs ι s.heap va.toList vs) (r : Snaps H vs ds)
    (hd : ds.all (D.ok n) = true) (he : D.ok (n + 1) e = true) (k : Kd s ι H v e) : EqAll A s (.ref la) v (decide (D.tup ds = e)) := by
  cases k with
  | none => exact .no nofun ⟨RcAt.tuple_none (isTuple_of g) hu, EqAt.tuple_none (isTuple_of g) hu, RcNeAt.tuple_none (isTuple_of g) hu⟩
  | int => exact .no nofun ⟨RcAt.tuple_int _ _ (isTuple_of g) hu, EqAt.tuple_int _ _ (isTuple_of g) hu, RcNeAt.tuple_int _ _ (isTuple_of g) hu⟩
  | str => exact .no nofun ⟨RcAt.tuple_str _ _ (isTuple_of g) hu, EqAt.tuple_str _ _ (isTuple_of g) hu, RcNeAt.tuple_str _ _ (isTuple_of g) hu⟩
  | list g' => exact .no nofun ⟨RcAt.tuple_list (isTuple_of g) (isList_of g') hu, EqAt.tuple_list (isTuple_of g) (isList_of g') hu, RcNeAt.tuple_list (isTuple_of g) (isList_of g') hu⟩
  | @tup lb vb _ ws es g' q' r' =>
    have hsz1 : va.size = ds.length := by rw [← Array.length_toList, q.length, r.length]
    have hsz2 : vb.size = es.length := by rw [← Array.length_toList, q'.length, r'.length]
    have e0 : decide (D.tup ds = D.tup es) = decide (ds = es) := by by_cases h : ds = es <;> simp [h]
    have it := it q q' r r' hd he
    have e1 := range_min_all (xs := ds) (ys := es) _ itemEq_at
    rw [← hsz1, ← hsz2] at e1
    rw [e0]
    have rc := RcAt.tuples (isTuple_of g) (isTuple_of g') hu it
    have ne := RcNeAt.tuples (isTuple_of g) (isTuple_of g') hu it
    rw [e1] at rc ne
    by_cases hab : la = lb
    · subst hab
      rw [g] at g'; cases g'
      have := RepVs.fn S q q'
      subst this
      have := Snaps.fn r r'
      subst this
      refine ⟨rc, ?_, ne⟩
      rw [decide_eq_true rfl]; exact EqAt.same _
    · exact ⟨rc, .of_refs hab rc, ne⟩
theorem eq_list (S : St cx ι ρ H s) {A : Around} {v : Value} {e : D} {n m na : Nat} {la : Addr} {va : Array Value} {vs : List V} {ds : List D} (hu : A.units < cLine) (it : Items A s n ι H) (g : s.heap.get? la = some { cls := .type "list", data := .seq va m }) (gi : ι[na]? = some la) (ga : H[na]? = some (.list vs)) (q : RepVs ι s.heap va.toList vs) (r : Snaps H vs ds)
    (hd : ds.all (D.ok n) = true) (he : D.ok (n + 1) e = true) (k : Kd s ι H v e) : EqAll A s (.ref la) v (decide (D.list ds = e)) := by
  cases k with
  | none => exact .no nofun ⟨RcAt.list_none (isList_of g) hu, EqAt.list_none (isList_of g) hu, RcNeAt.list_none (isList_of g) hu⟩
  | int => exact .no nofun ⟨RcAt.list_int _ _ (isList_of g) hu, EqAt.list_int _ _ (isList_of g) hu, RcNeAt.list_int _ _ (isList_of g) hu⟩
  | str => exact .no nofun ⟨RcAt.list_str _ _ (isList_of g) hu, EqAt.list_str _ _ (isList_of g) hu, RcNeAt.list_str _ _ (isList_of g) hu⟩
  | tup g' => exact .no nofun ⟨RcAt.list_tuple (isList_of g) (isTuple_of g') hu, EqAt.list_tuple (isList_of g) (isTuple_of g') hu, RcNeAt.list_tuple (isList_of g) (isTuple_of g') hu⟩
  | @list lb vb _ nb ws es g' gi' gb q' r' =>
    have hsz1 : va.size = ds.length := by rw [← Array.length_toList, q.length, r.length]
    have hsz2 : vb.size = es.length := by rw [← Array.length_toList, q'.length, r'.length]
    have e0 : decide (D.list ds = D.list es) = decide (ds = es) := by by_cases h : ds = es <;> simp [h]
    rw [e0]
    have both : RcAt A s (.ref la) (.ref lb) (decide (ds = es)) ∧ RcNeAt A s (.ref la) (.ref lb) (!decide (ds = es)) := by
      by_cases hl : va.size = vb.size
      · have it := it q q' r r' hd he
        have e1 := range_all_eq (ds := ds) (es := es) (by rw [← hsz1, ← hsz2, hl]) _ itemEq_at
        rw [← hsz1] at e1
        have rc := RcAt.lists (isList_of g) (isList_of g') hl hu it
        have ne := RcNeAt.lists (isList_of g) (isList_of g') hl hu it
        rw [e1] at rc ne
        exact ⟨rc, ne⟩
      · have hne : ds ≠ es := fun e => hl (by rw [hsz1, hsz2, e])
        rw [decide_eq_false hne]
        exact ⟨RcAt.lists_lengths (isList_of g) (isList_of g') (by simpa using hl) hu, RcNeAt.lists_lengths (isList_of g) (isList_of g') (by simpa using hl) hu⟩
    by_cases hab : la = lb
    · subst hab
      have := RepV.fn S (.ref gi) (.ref gi')
      cases this
      rw [ga] at gb; cases gb
      have := Snaps.fn r r'
      subst this
      refine ⟨both.1, ?_, both.2⟩
      rw [decide_eq_true rfl]; exact EqAt.same _
    · exact ⟨both.1, .of_refs hab both.1, both.2⟩

theorem eq_snap (S : St cx ι ρ H s) : ∀ (n : Nat) {A : Around} {u v : Value} {a b : V} {d e : D}, A.units + n < cLine → RepV ι s.heap u a → RepV ι s.heap v b → Snap H a d → Snap H b e → D.ok n d = true → D.ok n e = true →
    EqAll A s u v (decide (d = e))
  | 0, _, _, _, _, _, _, _, _, _, _, _, _, hd, _ => nomatch hd
  | n + 1, A, u, v, a, b, d, e, hu, ru, rv, sa, sb, hd, he => by
    have hu0 : A.units < cLine := by omega
    have items : Items A s n ι H := fun {xs ys vs ws ds es} rx ry sx sy okx oky j h1 h2 => by
      have hu1 : A.in1.units + n < cLine := by show A.units + 1 + n < cLine; omega
      have e1 : xs.toList[j]? = some xs[j] := by simp [h1]
      have e2 : ys.toList[j]? = some ys[j] := by simp [h2]
      obtain ⟨vj, hvj, rj⟩ := rx.get' e1
      obtain ⟨wj, hwj, qj⟩ := ry.get' e2
      have l1 : j < ds.length := by rw [← sx.length]; exact (List.getElem?_eq_some_iff.mp hvj).1
      have l2 : j < es.length := by rw [← sy.length]; exact (List.getElem?_eq_some_iff.mp hwj).1
      rw [itemEq_at j _ _ (List.getElem?_eq_getElem l1) (List.getElem?_eq_getElem l2)]
      exact (eq_snap S n hu1 rj qj (sx.get hvj (List.getElem?_eq_getElem l1)) (sy.get hwj (List.getElem?_eq_getElem l2))
        (List.all_eq_true.mp okx _ (List.getElem_mem l1)) (List.all_eq_true.mp oky _ (List.getElem_mem l2))).eq
    have ke := kd_of S rv sb he
    cases kd_of S ru sa hd with
    | none => exact eq_none hu0 ke
    | int => exact eq_int _ _ hu0 ke
    | str => exact eq_str _ _ hu0 ke
    | tup g q r => exact eq_tup S hu0 items g q r hd he ke
    | list g gi ga q r => exact eq_list S hu0 items g gi ga q r hd he ke
end
end Tw
end

section
namespace Tw
open PySem PySem.SeqAt

/-! keys -/
noncomputable def V.toD : V → D
  | .none => .none
  | .bool b => .bool b
  | .int i => .int i
  | .str s => .str s
  | .tup vs => .tup (V.toDs vs)
  | _ => .none
where V.toDs : List V → List D
  | [] => []
  | .int i :: r => .int i :: V.toDs r
  | .str s :: r => .str s :: V.toDs r
  | _ :: r => .none :: V.toDs r

theorem snaps_atoms {H : H} : ∀ {vs : List V}, vs.all V.isAtom = true → Snaps H vs (V.toD.V.toDs vs)
  | [], _ => .nil
  | v :: r, h => by
    simp only [List.all_cons, Bool.and_eq_true] at h
    cases v with
    | int i => exact .cons (.int i) (snaps_atoms h.2)
    | str s => exact .cons (.str s) (snaps_atoms h.2)
    | _ => exact Bool.noConfusion h.1
theorem snap_key {H : H} {k : V} (h : k.isKey = true) : Snap H k k.toD := by
  cases k with
  | int i => exact .int i
  | str s => exact .str s
  | tup vs => exact .tup (snaps_atoms h)
  | _ => exact Bool.noConfusion h
theorem ok_atoms {n : Nat} : ∀ {vs : List V}, vs.all V.isAtom = true → (V.toD.V.toDs vs).all (D.ok (n + 1)) = true
  | [], _ => rfl
  | v :: r, h => by
    simp only [List.all_cons, Bool.and_eq_true] at h
    cases v with
    | int i => simpa [V.toD.V.toDs, D.ok] using ok_atoms h.2
    | str s => simpa [V.toD.V.toDs, D.ok] using ok_atoms h.2
    | _ => exact Bool.noConfusion h.1
theorem ok_key {n : Nat} {k : V} (h : k.isKey = true) : D.ok (n + 2) k.toD = true := by
  cases k with
  | int i => rfl
  | str s => rfl
  | tup vs => exact ok_atoms h
  | _ => exact Bool.noConfusion h
noncomputable def D.atomV : D → V
  | .int i => .int i
  | .str s => .str s
  | _ => .none
noncomputable def D.keyV : D → V
  | .tup ds => .tup (ds.map D.atomV)
  | d => d.atomV
theorem toDs_back : ∀ {vs : List V}, vs.all V.isAtom = true → (V.toD.V.toDs vs).map D.atomV = vs
  | [], _ => rfl
  | v :: r, h => by
    rw [List.all_cons, Bool.and_eq_true] at h
    have ih := toDs_back h.2
    cases v with
    | int i => exact congrArg (V.int i :: ·) ih
    | str s => exact congrArg (V.str s :: ·) ih
    | _ => exact Bool.noConfusion h.1
theorem key_back {k : V} (h : k.isKey = true) : k.toD.keyV = k := by
  cases k with
  | int => rfl
  | str => rfl
  | tup vs => exact congrArg V.tup (toDs_back h)
  | _ => exact Bool.noConfusion h
theorem toD_inj {k k' : V} (h : k.isKey = true) (h' : k'.isKey = true) (e : k.toD = k'.toD) : k = k' := (key_back h).symm.trans ((congrArg D.keyV e).trans (key_back h'))

section
variable {cx : Cx} {ι : List Addr} {ρ : Rho} {H : H} {s : Shared} {A : Around}

theorem eq_key (S : St cx ι ρ H s) {u v : Value} {k k' : V} (hu : A.units + 9 < cLine) (r : RepV ι s.heap u k) (r' : RepV ι s.heap v k') (h : k.isKey = true) (h' : k'.isKey = true) :
    EqAt A s u v (decide (k = k')) := by
  have e := (eq_snap S 9 (A := A) hu r r' (snap_key h) (snap_key h') (ok_key h) (ok_key h')).eq
  have : decide (k.toD = k'.toD) = decide (k = k') := by
    by_cases q : k = k'
    · subst q; simp
    · have : ¬ k.toD = k'.toD := fun q' => q (toD_inj h h' q')
      simp [q, this]
  rw [this] at e; exact e

theorem atoms_byValue {h : Heap} {xs : List Value} {vs : List V} (r : RepVs ι h xs vs) : vs.all V.isAtom = true → ∀ x ∈ xs, carriedByValue x = true := by
  induction xs generalizing vs with
  | nil => exact fun _ x hx => nomatch hx
  | cons y ys ih =>
    cases r with
    | cons g r =>
      intro h x hx
      rw [List.all_cons, Bool.and_eq_true] at h
      rcases List.mem_cons.mp hx with rfl | hx
      · cases g <;> first | rfl | exact Bool.noConfusion h.1
      · exact ih r h.2 x hx

theorem quiet_key {prog : Program} {w : World} {E : Value → Shared → Prop} {u : Value} {k : V} {Q : Bool → Shared → Prop} (r : RepV ι s.heap u k) (h : k.isKey = true) (q : Q true s) : wpAny (model prog w) A (eqIsQuiet 8 u) Q E s := by
  cases r with
  | none => exact Bool.noConfusion h
  | bool => exact Bool.noConfusion h
  | int i t => rw [eqIsQuiet_byValue 8 rfl]; exact wpAny_pure q
  | str x t z => rw [eqIsQuiet_byValue 8 rfl]; exact wpAny_pure q
  | rng => exact Bool.noConfusion h
  | ref => exact Bool.noConfusion h
  | @tup a n vals vs g z r =>
    have hT : s.TypeIs (.ref a) "tuple" := ⟨_, g, rfl⟩
    have hv := atoms_byValue r h
    unfold eqIsQuiet
    refine wpAny_bind (wpAny_specialOf hT F.slot_tuple_eq.lookup ?_)
    show wpAny _ _ (isInstance (.ref a) (.type "tuple") >>= _) _ _ s
    refine wpAny_bind (wpAny_isInstance hT isSubtype_tuple_tuple ?_)
    simp only [Bool.not_true, Bool.false_eq_true, if_false]
    refine wpAny_bind (wpAny_seqItems g rfl ?_)
    refine wpAny_bind ?_
    show wpAny _ _ (forIn vals _ _) _ _ s
    rw [← Array.forIn_toList]
    refine wpAny_forIn_list _ (fun rest r s' => r.1 = none ∧ s' = s ∧ ∀ v ∈ rest, carriedByValue v = true) _ ?_ ?_ _ _ ⟨rfl, rfl, hv⟩
    · rintro v rest r s' ⟨hr, rfl, hall⟩
      rw [eqIsQuiet_byValue _ (hall v List.mem_cons_self)]
      refine wpAny_bind (wpAny_pure ?_)
      simp only [Bool.not_true, Bool.false_eq_true, if_false]
      exact wpAny_pure ⟨rfl, rfl, fun u hu' => hall u (List.mem_cons_of_mem _ hu')⟩
    · rintro ⟨r1, r2⟩ s' ⟨hr, rfl, _⟩
      simp only at hr
      subst hr
      exact wpAny_pure q

theorem tells_key {prog : Program} {w : World} {E : Value → Shared → Prop} {u : Value} {k : V} {stored : List Value} {Q : Bool → Shared → Prop} (r : RepV ι s.heap u k) (h : k.isKey = true)
    (hst : ∀ v ∈ stored, ∃ k', RepV ι s.heap v k' ∧ k'.isKey = true) (q : Q false s) : wpAny (model prog w) A (tableMayTell u stored) Q E s := by
  unfold tableMayTell
  split
  · exact wpAny_pure q
  · refine wpAny_bind (quiet_key r h ?_)
    simp only [Bool.not_true, Bool.false_eq_true, if_false]
    refine wpAny_bind ?_
    refine wpAny_forIn_list _ (fun rest r s' => s' = s ∧ r = (none, ()) ∧ ∀ v ∈ rest, ∃ k', RepV ι s.heap v k' ∧ k'.isKey = true) _ ?_ ?_ _ _ ⟨rfl, rfl, hst⟩
    · rintro x rest r s' ⟨rfl, rfl, hr⟩
      obtain ⟨k', hb, hk'⟩ := hr x List.mem_cons_self
      refine wpAny_bind (quiet_key hb hk' ?_)
      simp only [Bool.not_true, Bool.false_eq_true, if_false]
      exact wpAny_pure ⟨rfl, rfl, fun v hv => hr v (List.mem_cons_of_mem _ hv)⟩
    · rintro r s' ⟨rfl, rfl, _⟩
      exact wpAny_pure q

theorem RepEs.length {w : World} {h : Heap} {es : List DictEntry} {r : List (V × V)} (x : RepEs w ι h es r) : es.length = r.length := by
  induction x with
  | nil => rfl
  | cons _ _ _ _ _ ih => simp [ih]
theorem RepEs.get {w : World} {h : Heap} {es : List DictEntry} {r : List (V × V)} (x : RepEs w ι h es r) {i : Nat} {e : DictEntry} (he : es[i]? = some e) :
    ∃ k v, r[i]? = some (k, v) ∧ e.hash = hashK w k ∧ RepV ι h e.key k ∧ RepV ι h e.val v ∧ k.isKey = true := by
  induction x generalizing i with
  | nil => simp at he
  | cons a b c d _ ih =>
    cases i with
    | zero => simp at he; subst he; exact ⟨_, _, rfl, a, b, c, d⟩
    | succ i => simpa using ih (by simpa using he)
theorem RepEs.get' {w : World} {h : Heap} {es : List DictEntry} {r : List (V × V)} (x : RepEs w ι h es r) {i : Nat} {k v : V} (he : r[i]? = some (k, v)) :
    ∃ e, es[i]? = some e ∧ e.hash = hashK w k ∧ RepV ι h e.key k ∧ RepV ι h e.val v ∧ k.isKey = true := by
  induction x generalizing i with
  | nil => simp at he
  | cons a b c d _ ih =>
    cases i with
    | zero => simp at he; obtain ⟨rfl, rfl⟩ := he; exact ⟨_, rfl, a, b, c, d⟩
    | succ i => simpa using ih (by simpa using he)

theorem keys_idx {es : List (V × V)} (nd : (es.map (·.1)).Nodup) {i j : Nat} {k v v' : V} (h1 : es[i]? = some (k, v)) (h2 : es[j]? = some (k, v')) : i = j := by
  have e1 : (es.map (·.1))[i]? = some k := by simp [h1]
  have e2 : (es.map (·.1))[j]? = some k := by simp [h2]
  exact (List.getElem?_inj (List.getElem?_eq_some_iff.mp e1).1 nd).mp (e1.trans e2.symm)

/-- a loop over the places of one hash -/
theorem find_loop {prog : Program} {w : World} {E : Value → Shared → Prop} {β : Type} {n : Nat} {p : Nat → Bool} {f : Nat → β → Sem (ForInStep β)} {b0 : β} {Q : β → Shared → Prop} (Inv : Nat → β → Prop) (h0 : Inv 0 b0)
    (skip : ∀ i b, p i = false → Inv i b → Inv (i + 1) b) (step : ∀ i b, i < n → p i = true → Inv i b → wpAny (model prog w) A (f i b) (fun r s' => match r with | .yield b' => s' = s ∧ Inv (i + 1) b' | .done b' => Q b' s') E s)
    (fin : ∀ b, Inv n b → Q b s) : wpAny (model prog w) A (forIn ((List.range n).filter p) b0 f) Q E s := by
  have jump : ∀ m i b, (∀ j, i ≤ j → j < i + m → p j = false) → Inv i b → Inv (i + m) b := by
    intro m
    induction m with
    | zero => intro i b _ h; exact h
    | succ m ih => intro i b hp h; exact skip _ _ (hp (i + m) (Nat.le_add_right _ _) (Nat.lt_succ_self _)) (ih i b (fun j a c => hp j a (Nat.lt_succ_of_lt c)) h)
  refine wpAny_forIn_list _ (fun rest b s' => s' = s ∧ ∃ i, i ≤ n ∧ rest = (List.range' i (n - i)).filter p ∧ Inv i b) _ ?_ ?_ _ _ ⟨rfl, 0, Nat.zero_le _, by rw [List.range_eq_range', Nat.sub_zero], h0⟩
  · intro x rest b s' h
    obtain ⟨rfl, i, hi, hr, hI⟩ := h
    obtain ⟨h1, h2, h3, h4, h5⟩ := filter_range'_cons _ _ _ _ _ hr.symm
    have hIx : Inv x b := by
      have := jump (x - i) i b (fun j a c => h4 j a (by rw [Nat.add_sub_cancel' h1] at c; exact c)) hI
      rw [Nat.add_sub_cancel' h1] at this; exact this
    have hin := Nat.add_sub_cancel' hi
    have hxn : x < n := by rw [hin] at h2; exact h2
    refine wpAny_mono (step x b hxn h3 hIx) (fun r s'' hr => ?_) fun _ _ e => e
    cases r with
    | yield b' => exact ⟨hr.1, x + 1, hxn, by rw [h5, hin], hr.2⟩
    | done b' => exact hr
  · intro b s' h
    obtain ⟨rfl, i, hi, hr, hI⟩ := h
    refine fin b ?_
    have := jump (n - i) i b (fun j a c => by
      have := List.filter_eq_nil_iff.mp hr.symm j (List.mem_range'_1.mpr ⟨a, c⟩)
      simpa using this) hI
    rw [Nat.add_sub_cancel' hi] at this; exact this

/-- what is known of a table and a key that is sought in it -/
structure Fk (A : Around) (s : Shared) (ents : Array DictEntry) (es : List (V × V)) (key : Value) (k : V) (hv : Int) : Prop where
  nd : (es.map (·.1)).Nodup
  get : ∀ i (hi : i < ents.size), ∃ k' v', es[i]? = some (k', v') ∧ (k' = k → ents[i].hash = hv) ∧ EqAt A s ents[i].key key (decide (k' = k))
  sz : ents.size = es.length
noncomputable def hasH (ents : Array DictEntry) (hv : Int) (i : Nat) : Bool := (ents[i]?.map (·.hash)) == some hv
section
variable {ents : Array DictEntry} {es : List (V × V)} {key : Value} {k : V} {hv : Int} (F : Fk A s ents es key k hv)
include F
theorem Fk.skip {i : Nat} (hp : hasH ents hv i = false) (v : V) : es[i]? ≠ some (k, v) := fun he => by
  have hi : i < ents.size := by rw [F.sz]; exact (List.getElem?_eq_some_iff.mp he).1
  obtain ⟨k', v', he', hh, _⟩ := F.get i hi
  rw [he] at he'; cases he'
  rw [hasH, Array.getElem?_eq_getElem hi, Option.map_some, hh rfl] at hp
  simp at hp
theorem Fk.out {v : V} {i : Nat} (hi : ents.size ≤ i) : es[i]? ≠ some (k, v) := fun he => by
  have := (List.getElem?_eq_some_iff.mp he).1
  rw [F.sz] at hi; omega
omit F in
theorem Fk.less {n : Nat} (h : ∀ (j : Nat) v, j < n → es[j]? ≠ some (k, v)) (hn : ∀ v, es[n]? ≠ some (k, v)) : ∀ (j : Nat) v, j < n + 1 → es[j]? ≠ some (k, v) := fun j v hj => by
  rcases Nat.lt_or_ge j n with h' | h'
  · exact h j v h'
  · have : j = n := by omega
    subst this; exact hn v
theorem Fk.none (h : ∀ (j : Nat) v, j < ents.size → es[j]? ≠ some (k, v)) (j : Nat) (v : V) : es[j]? ≠ some (k, v) := by
  rcases Nat.lt_or_ge j ents.size with h' | h'
  · exact h j v h'
  · exact F.out h'
end
theorem hasH_eq {ents : Array DictEntry} {hv : Int} {i : Nat} (hi : i < ents.size) (hp : hasH ents hv i = true) : (ents[i].hash == hv) = true := by
  rw [hasH, Array.getElem?_eq_getElem hi, Option.map_some] at hp
  simpa using hp

section
variable {prog : Program} {w : World} {E : Value → Shared → Prop} {d : Addr} {o : Obj} {ents : Array DictEntry} {ep : Nat} {es : List (V × V)} {key : Value} {k : V} {hv : Int} {Q : Option Nat → Shared → Prop}
/-- the walk over entries that are carried by value -/
theorem find_plain (ho : s.heap.get? d = some o) (hd : o.data = .dict ents ep) (F : Fk A s ents es key k hv) (hnone : (∀ (i : Nat) (v : V), es[i]? ≠ some (k, v)) → Q none s) (hsome : ∀ (i : Nat) (v : V), es[i]? = some (k, v) → Q (some i) s) :
    wpAny (model prog w) A (dictWalkPlain d key hv ents ((List.range ents.size).filter (hasH ents hv))) Q E s := by
  refine wpAny_bind (find_loop (fun i b => b = (none, ()) ∧ ∀ (j : Nat) v, j < i → es[j]? ≠ some (k, v)) ⟨rfl, fun _ _ h => absurd h (Nat.not_lt_zero _)⟩ (fun i b hp h => ⟨h.1, Fk.less h.2 (F.skip hp)⟩) ?_ ?_)
  · intro x b hlt hp h
    obtain ⟨rfl, hno⟩ := h
    obtain ⟨k', v', he, _, eqb⟩ := F.get x hlt
    simp only [Array.getElem?_eq_getElem hlt]
    rw [if_pos (hasH_eq hlt hp)]
    refine wpAny_bind (wpAny_dictEpoch ho hd (wpAny_bind (eqb _ _ _ _ (wpAny_bind (wpAny_dictEpoch ho hd ?_)))))
    rw [if_neg (by simp)]
    by_cases hkk : k' = k
    · rw [decide_eq_true hkk]
      exact wpAny_bind (wpAny_rule (wpAny_pure (wpAny_pure (hsome x v' (hkk ▸ he)))))
    · rw [decide_eq_false hkk]
      exact wpAny_bind (wpAny_rule (wpAny_pure ⟨rfl, rfl, Fk.less hno fun v hv => by rw [he] at hv; cases hv; exact hkk rfl⟩))
  · intro b h
    obtain ⟨rfl, hno⟩ := h
    exact wpAny_pure (hnone (F.none hno))

theorem ite_bind {α : Type} {c : Prop} [Decidable c] {m : Sem Bool} {f : Bool → Sem α} {Q : α → Shared → Prop} (hp : wpAny (model prog w) A (f false) Q E s) (ht : ¬ c → ∀ Q' : Bool → Shared → Prop, Q' false s → wpAny (model prog w) A m Q' E s) :
    wpAny (model prog w) A (if c then f false else m >>= f) Q E s := by
  by_cases h : c
  · rw [if_pos h]; exact hp
  · rw [if_neg h]; exact wpAny_bind (ht h _ hp)
theorem ite_of {α : Type} {c : Prop} [Decidable c] {a b : Sem α} {Q : α → Shared → Prop} (h1 : wpAny (model prog w) A a Q E s) (h2 : wpAny (model prog w) A b Q E s) : wpAny (model prog w) A (if c then a else b) Q E s := by
  by_cases h : c
  · rw [if_pos h]; exact h1
  · rw [if_neg h]; exact h2
theorem ite_or {α : Type} {c : Prop} [Decidable c] {a b : Sem α} {Q : α → Shared → Prop} (h1 : c → wpAny (model prog w) A a Q E s) (h2 : wpAny (model prog w) A b Q E s) : wpAny (model prog w) A (if c then a else b) Q E s := by
  by_cases h : c
  · rw [if_pos h]; exact h1 h
  · rw [if_neg h]; exact h2
theorem ite_no {α : Type} {c : Prop} [Decidable c] {a b : Sem α} {Q : α → Shared → Prop} (h : ¬ c) (h2 : wpAny (model prog w) A b Q E s) : wpAny (model prog w) A (if c then a else b) Q E s := by
  rw [if_neg h]; exact h2
noncomputable def findT (d : Addr) (key : Value) (ents : Array DictEntry) (hv : Int) (stored : List Value) : Sem (Option Nat) := do
          let tells ← if stored == [key] then pure false else tableMayTell key stored
          if tells && stored.length ≥ 2 then unsupported "dict.find:order-among-keys-of-one-hash"
          let mut hit : Option Nat := none
          for i in (List.range ents.size).filter (hasH ents hv) do
            if let some e := ents[i]? then
              if e.hash == hv then
                let before ← dictEpoch d (keyPart key)
                let same ← eqBool e.key key
                if (← dictEpoch d (keyPart key)) != before then unsupported "dict.changed-during-lookup"
                if same then
                  if hit.isSome then unsupported "dict.find:order-among-keys-of-one-hash"
                  rule "dict.find.hit"
                  if stored.length < 2 then return some i
                  hit := some i
                else
                  rule "dict.find.same-hash-other-key"
                  if tells && !(0 ≤ hv && hv < 32) then unsupported "dict.find:asked-again-or-not-hangs-on-the-table"
          return hit
/-- the walk that may ask again -/
theorem find_tail {stored : List Value} (ho : s.heap.get? d = some o) (hd : o.data = .dict ents ep) (F : Fk A s ents es key k hv) (hnone : (∀ (i : Nat) (v : V), es[i]? ≠ some (k, v)) → Q none s) (hsome : ∀ (i : Nat) (v : V), es[i]? = some (k, v) → Q (some i) s)
    (told : ∀ Q' : Bool → Shared → Prop, Q' false s → wpAny (model prog w) A (tableMayTell key stored) Q' E s) :
    wpAny (model prog w) A (findT d key ents hv stored) Q E s := by
  unfold findT
  dsimp only
  refine ite_bind ?_ fun _ => told
  rw [if_neg (by simp)]
  refine wpAny_bind (find_loop (fun i b => ∃ hit, b = (none, hit) ∧ ((hit = none ∧ ∀ (j : Nat) v, j < i → es[j]? ≠ some (k, v)) ∨ ∃ j v, hit = some j ∧ j < i ∧ es[j]? = some (k, v))) ⟨none, rfl, .inl ⟨rfl, fun _ _ h => absurd h (Nat.not_lt_zero _)⟩⟩ ?_ ?_ ?_)
  · intro i b hp h
    obtain ⟨hit, rfl, h⟩ := h
    refine ⟨hit, rfl, ?_⟩
    rcases h with ⟨h0, hno⟩ | ⟨j, v, h1, h2, h3⟩
    · exact .inl ⟨h0, Fk.less hno (F.skip hp)⟩
    · exact .inr ⟨j, v, h1, by omega, h3⟩
  · intro x b hlt hp h
    obtain ⟨hit, rfl, h⟩ := h
    obtain ⟨k', v', he, _, eqb⟩ := F.get x hlt
    simp only [Array.getElem?_eq_getElem hlt]
    rw [if_pos (hasH_eq hlt hp)]
    refine wpAny_bind (wpAny_dictEpoch ho hd (wpAny_bind (eqb _ _ _ _ (wpAny_bind (wpAny_dictEpoch ho hd ?_)))))
    rw [if_neg (by simp)]
    by_cases hkk : k' = k
    · rw [decide_eq_true hkk]
      subst hkk
      rcases h with ⟨rfl, _⟩ | ⟨j, p, _, hjx, hj⟩
      · simp only [Option.isSome_none, Bool.false_eq_true, if_false, if_true]
        refine wpAny_bind (wpAny_rule ?_)
        split
        · exact wpAny_pure (wpAny_pure (hsome x _ he))
        · exact wpAny_pure ⟨rfl, some x, rfl, .inr ⟨x, _, rfl, Nat.lt_succ_self x, he⟩⟩
      · exact absurd (keys_idx F.nd hj he) (by omega)
    · rw [decide_eq_false hkk]
      simp only [Bool.false_eq_true, if_false, Bool.false_and]
      refine wpAny_bind (wpAny_rule (wpAny_pure ⟨rfl, hit, rfl, ?_⟩))
      rcases h with ⟨h0, hno⟩ | ⟨j, v, h1, h2, h3⟩
      · exact .inl ⟨h0, Fk.less hno fun v hv => by rw [he] at hv; cases hv; exact hkk rfl⟩
      · exact .inr ⟨j, v, h1, by omega, h3⟩
  · intro b h
    obtain ⟨hit, rfl, h⟩ := h
    rcases h with ⟨rfl, hno⟩ | ⟨j, p, rfl, _, hj⟩
    · exact wpAny_pure (hnone (F.none hno))
    · exact wpAny_pure (hsome j p hj)

end

 theorem kinds {h : Heap} {key : Value} {k : V} (rk : RepV ι h key k) (hk : k.isKey = true) : (∃ i t, key = .int i t) ∨ ∃ a, key = .ref a := by
  cases k with
  | int => obtain ⟨t, rfl⟩ := rk.intI; exact .inl ⟨_, _, rfl⟩
  | tup => obtain ⟨a, _, _, rfl, _⟩ := rk.tupI; exact .inr ⟨_, rfl⟩
  | _ => cases hk
theorem find_key {prog : Program} {E : Value → Shared → Prop} (S : St cx ι ρ H s) (hu : A.units + 9 < cLine) {d : Addr} {o : Obj} {ents : Array DictEntry} {ep : Nat} {es : List (V × V)} {key : Value} {k : V}
    {Q : Option Nat → Shared → Prop} (ho : s.heap.get? d = some o) (hd : o.data = .dict ents ep) (re : RepEs cx.w ι s.heap ents.toList es) (nd : (es.map (·.1)).Nodup) (rk : RepV ι s.heap key k) (hk : k.isKey = true)
    (hnone : (∀ (i : Nat) (v : V), es[i]? ≠ some (k, v)) → Q none s) (hsome : ∀ (i : Nat) (v : V), es[i]? = some (k, v) → Q (some i) s) :
    wpAny (model prog cx.w) A (dictFind d key (hashK cx.w k)) Q E s := by
  have F : Fk A s ents es key k (hashK cx.w k) := ⟨nd, fun i hi => by
    obtain ⟨k', v', he, hh, r1, _, h1⟩ := re.get (e := ents[i]) (i := i) (by simp [hi])
    exact ⟨k', v', he, fun e => e ▸ hh, eq_key S hu r1 rk h1 hk⟩, by rw [← Array.length_toList, re.length]⟩
  have plain := find_plain (prog := prog) (w := cx.w) (E := E) ho hd F hnone hsome
  have tail : ∀ {stored : List Value}, (∀ v ∈ stored, ∃ k', RepV ι s.heap v k' ∧ k'.isKey = true) → _ := fun {stored} hst =>
    find_tail (stored := stored) (prog := prog) (w := cx.w) (E := E) ho hd F hnone hsome fun _ q => tells_key rk hk hst q
  have hst : ∀ v ∈ (placesWithHash ents.size (fun i => ents[i]?.map (·.hash)) (hashK cx.w k)).filterMap (fun i => ents[i]?.map (·.key)), ∃ k', RepV ι s.heap v k' ∧ k'.isKey = true := by
    intro v hv
    obtain ⟨i, _, hi⟩ := List.mem_filterMap.mp hv
    obtain ⟨e, hei, rfl⟩ := Option.map_eq_some_iff.mp hi
    obtain ⟨k', _, _, _, r1, _, h1⟩ := re.get (i := i) (e := e) (by simpa using hei)
    exact ⟨k', r1, h1⟩
  have tail := tail hst
  have hany : ¬ (ents.any fun e => e.key == key && e.hash != hashK cx.w k) = true := by
    rw [← Array.any_toList, List.any_eq_true]
    rintro ⟨e, hin, hc⟩
    obtain ⟨i, hi⟩ := List.mem_iff_getElem?.mp hin
    obtain ⟨k', _, _, h1, r1, _, _⟩ := re.get hi
    simp only [Bool.and_eq_true, beq_iff_eq, bne_iff_ne, ne_eq] at hc
    rw [hc.1] at r1
    rw [RepV.fn S r1 rk] at h1
    exact hc.2 h1
  clear nd hst
  clear S re
  refine wpAny_holding (wpAny_bind (wpAny_dictEntries ho hd ?_))
  rcases kinds rk hk with ⟨i, t, rfl⟩ | ⟨a, rfl⟩
  · exact ite_of plain tail
  · exact ite_of plain (ite_no hany tail)
end
end Tw
end

section
namespace Tw
open PySem PySem.SeqAt

noncomputable def atomIs : Int ⊕ Str → Value → Bool
  | .inl i, v => Value.isInt i v
  | .inr x, v => Value.isStrOf x v
theorem atomIs_shape {k : Int ⊕ Str} {v : Value} (h : atomIs k v = true) : (∃ i t, k = .inl i ∧ v = .int i t) ∨ ∃ x t, k = .inr x ∧ v = .str x t := by
  cases k with
  | inl i => obtain ⟨t, rfl⟩ := Value.isInt_shape h; exact .inl ⟨i, t, rfl, rfl⟩
  | inr x => obtain ⟨t, rfl⟩ := Value.isStrOf_shape h; exact .inr ⟨x, t, rfl, rfl⟩

noncomputable def atomKind (prog : Program) (w : World) : KeyKind prog w (Int ⊕ Str) where
  is := atomIs
  hash := fun k => match k with | .inl i => hashInt i | .inr x => hashStr w x
  inj := fun v a b ha hb => by
    rcases atomIs_shape ha with ⟨i, t, rfl, rfl⟩ | ⟨x, t, rfl, rfl⟩ <;> rcases atomIs_shape hb with ⟨j, u, rfl, e⟩ | ⟨y, u, rfl, e⟩ <;> cases e <;> rfl
  byValue := fun k v h => by rcases atomIs_shape h with ⟨i, t, rfl, rfl⟩ | ⟨x, t, rfl, rfl⟩ <;> rfl
  pyHash := fun hv h => by
    rcases atomIs_shape hv with ⟨i, t, rfl, rfl⟩ | ⟨x, t, rfl, rfl⟩
    · exact wpAny_pyHash_int h
    · exact wpAny_pyHash_str h
  eqBool := fun hu hv h => by
    rcases atomIs_shape hu with ⟨i, t, rfl, rfl⟩ | ⟨x, t, rfl, rfl⟩ <;> rcases atomIs_shape hv with ⟨j, u, rfl, rfl⟩ | ⟨y, u, rfl, rfl⟩
    · refine EqAt.int_int _ _ _ _ _ _ _ _ ?_
      rw [show (i == j) = decide ((Sum.inl i : Int ⊕ Str) = Sum.inl j) from by by_cases q : i = j <;> simp [q]]; exact h
    · refine EqAt.int_str _ _ _ _ _ _ _ _ ?_
      simpa using h
    · refine EqAt.str_int _ _ _ _ _ _ _ _ ?_
      simpa using h
    · refine EqAt.str_str _ _ _ _ _ _ _ _ ?_
      rw [show (x == y) = decide ((Sum.inr x : Int ⊕ Str) = Sum.inr y) from by by_cases q : x = y <;> simp [q]]; exact h
  «strs» := fun k x t v h => by
    rcases atomIs_shape h with ⟨i, u, rfl, e⟩ | ⟨y, u, rfl, e⟩
    · cases e
    · cases e
      cases v <;> rfl

section
variable {cx : Cx} {ι : List Addr} {ρ : Rho} {H : H} {s : Shared} {A : Around} {prog : Program} {E : Value → Shared → Prop}

theorem str_of_toList (x : Str) : (⟨x.cps.toList.toArray⟩ : Str) = x := by cases x; simp

theorem atoms_items {h : Heap} {xs : List Value} {vs : List V} (r : RepVs ι h xs vs) : vs.all V.isAtom = true →
    ∃ ks, ItemsAre (atomKind prog cx.w) ks xs ∧ ks.map (atomKind prog cx.w).hash = vs.map (hashA cx.w) := by
  induction xs generalizing vs with
  | nil => cases r; exact fun _ => ⟨[], .nil, rfl⟩
  | cons y ys ih =>
    cases r with
    | cons g r =>
      intro hh
      rw [List.all_cons, Bool.and_eq_true] at hh
      obtain ⟨ks, h1, h2⟩ := ih r hh.2
      cases g with
      | int i t => exact ⟨.inl i :: ks, .cons (by simp [atomKind, atomIs, Value.isInt]) h1, by rw [List.map_cons, List.map_cons, h2]; rfl⟩
      | str x t z => exact ⟨.inr x :: ks, .cons (by simp [atomKind, atomIs, Value.isStrOf]) h1, by rw [List.map_cons, List.map_cons, h2]; show hashStr cx.w x :: _ = hashStr cx.w ⟨x.cps.toList.toArray⟩ :: _; rw [str_of_toList]⟩
      | _ => exact Bool.noConfusion hh.1

theorem hash_key (hu : A.units < cLine) {u : Value} {k : V} {Q : Int → Shared → Prop} (r : RepV ι s.heap u k) (h : k.isKey = true)
    (q : ∀ tk, Q (hashK cx.w k) { s with toks := tk }) : wpAny (model prog cx.w) A (pyHash u) Q E s := by
  cases r with
  | none => exact Bool.noConfusion h
  | bool => exact Bool.noConfusion h
  | rng => exact Bool.noConfusion h
  | ref => exact Bool.noConfusion h
  | int i t => exact wpAny_pyHash_int (q _)
  | str x t z =>
    refine wpAny_pyHash_str ?_
    have := q (s.toks + 1)
    simpa [hashK, hashA] using this
  | @tup a n vals vs g z r =>
    obtain ⟨ks, h1, h2⟩ := atoms_items (prog := prog) (cx := cx) r h
    refine wpAny_pyHash_tuple (knd := atomKind prog cx.w) hu (ks := ks) ⟨_, vals, n, g, rfl, rfl, h1⟩ ?_
    have := q (s.toks + (ks.length + 1))
    rw [tupleKeyHash, h2]; exact this

theorem dget_at {es : List (V × V)} (nd : (es.map (·.1)).Nodup) {i : Nat} {k v : V} (h : es[i]? = some (k, v)) : dget es k = some v := by
  induction es generalizing i with
  | nil => simp at h
  | cons e r ih =>
    simp only [List.map_cons, List.nodup_cons] at nd
    cases i with
    | zero => simp at h; subst h; simp [dget]
    | succ i =>
      simp only [List.getElem?_cons_succ] at h
      have hm : k ∈ r.map (·.1) := List.mem_map.mpr ⟨(k, v), List.mem_of_getElem? h, rfl⟩
      have hne : ¬ e.1 = k := fun q => nd.1 (q ▸ hm)
      have := ih nd.2 h
      simpa [dget, List.find?_cons, hne] using this
theorem dget_none {es : List (V × V)} {k : V} (h : ∀ (i : Nat) (v : V), es[i]? ≠ some (k, v)) : dget es k = none := by
  have : (es.find? fun e => decide (e.1 = k)) = none := by
    rw [List.find?_eq_none]
    intro x hx hk
    obtain ⟨j, hj⟩ := List.mem_iff_getElem?.mp hx
    have hk' : x.1 = k := of_decide_eq_true hk
    exact h j x.2 (by rw [hj, ← hk'])
  simp [dget, this]
theorem dget_iff {es : List (V × V)} {k : V} : (dget es k).isSome = decide (k ∈ es.map (·.1)) := by
  induction es with
  | nil => simp [dget]
  | cons e r ih =>
    by_cases h : e.1 = k
    · simp [dget, h]
    · have h' : ¬ k = e.1 := fun q => h q.symm
      have e1 : dget (e :: r) k = dget r k := by simp [dget, h]
      rw [e1, ih]
      simp [h']

theorem keys_map_dput (es : List (V × V)) (k v : V) : (es.map (fun e => if e.1 = k then (e.1, v) else e)).map (·.1) = es.map (·.1) := by
  induction es with
  | nil => rfl
  | cons e r ih =>
    simp only [List.map_cons, ih]
    by_cases h : e.1 = k <;> simp [h]
theorem dput_nodup {es : List (V × V)} (nd : (es.map (·.1)).Nodup) (k v : V) : ((dput es k v).map (·.1)).Nodup := by
  unfold dput
  split
  · rw [keys_map_dput]; exact nd
  · rename_i h
    rw [List.map_append, List.nodup_append]
    refine ⟨nd, by simp, fun x hx y hy => ?_⟩
    simp at hy; subst hy
    rintro rfl
    rw [dget_iff] at h
    simp only [decide_eq_true_eq] at h
    exact h hx

theorem map_dput_not_mem (es : List (V × V)) (k v : V) (h : k ∉ es.map (·.1)) : es.map (fun e => if e.1 = k then (e.1, v) else e) = es := by
  induction es with
  | nil => rfl
  | cons e r ih =>
    simp only [List.map_cons, List.mem_cons, not_or] at h ⊢
    rw [if_neg (fun q => h.1 q.symm), ih h.2]

theorem RepEs.modify {w : World} {h : Heap} {ents : List DictEntry} {es : List (V × V)} (re : RepEs w ι h ents es) (nd : (es.map (·.1)).Nodup) {i : Nat} {k v₀ v : V} {val : Value} (hi : es[i]? = some (k, v₀)) (rv : RepV ι h val v) :
    RepEs w ι h (ents.modify i fun e => { e with val := val }) (es.map (fun e => if e.1 = k then (e.1, v) else e)) := by
  induction re generalizing i with
  | nil => simp at hi
  | @cons e ents k' v' r a b c d re ih =>
    simp only [List.map_cons, List.nodup_cons] at nd
    cases i with
    | zero =>
      simp at hi
      obtain ⟨rfl, rfl⟩ := hi
      simp only [List.modify_zero_cons, List.map_cons, if_true]
      rw [map_dput_not_mem r k' v nd.1]
      exact .cons a b rv d re
    | succ i =>
      simp only [List.getElem?_cons_succ] at hi
      have hm : k ∈ r.map (·.1) := List.mem_map.mpr ⟨(k, v₀), List.mem_of_getElem? hi, rfl⟩
      have hne : ¬ k' = k := fun q => nd.1 (q ▸ hm)
      simp only [List.modify_succ_cons, List.map_cons, if_neg hne]
      exact .cons a b c d (ih nd.2 hi)
theorem RepEs.push {w : World} {h : Heap} {ents : List DictEntry} {es : List (V × V)} (re : RepEs w ι h ents es) {k v : V} {key val : Value} (rk : RepV ι h key k) (rv : RepV ι h val v) (hk : k.isKey = true) :
    RepEs w ι h (ents ++ [⟨hashK w k, key, val⟩]) (es ++ [(k, v)]) := by
  induction re with
  | nil => exact .cons rfl rk rv hk .nil
  | cons a b c d _ ih => exact .cons a b c d ih

/-- the dict at address d, as the state tells it -/
structure DictAt (cx : Cx) (ι : List Addr) (s : Shared) (d : Addr) (es : List (V × V)) (ents : Array DictEntry) (ep : Nat) : Prop where
  get : s.heap.get? d = some { cls := .type "dict", data := .dict ents ep }
  rep : RepEs cx.w ι s.heap ents.toList es
  nd : (es.map (·.1)).Nodup
  le : es.length ≤ SZ
theorem St.dict (S : St cx ι ρ H s) {n : Nat} {d : Addr} {es : List (V × V)} {ep : Nat} (hi : ι[n]? = some d) (hH : H[n]? = some (.dict es ep)) : ∃ ents, DictAt cx ι s d es ents ep := by
  obtain ⟨ents, g, re, nd, le⟩ := S.objOf hi hH
  exact ⟨ents, g, re, nd, le⟩

theorem dictGet_key (S : St cx ι ρ H s) (hu : A.units + 9 < cLine) {d : Addr} {es : List (V × V)} {ents : Array DictEntry} {ep : Nat} (D : DictAt cx ι s d es ents ep) {key : Value} {k : V} {Q : Option Value → Shared → Prop}
    (rk : RepV ι s.heap key k) (hk : k.isKey = true) (hnone : dget es k = none → ∀ tk, Q none { s with toks := tk }) (hsome : ∀ v val, dget es k = some v → RepV ι s.heap val v → ∀ tk, Q (some val) { s with toks := tk }) :
    wpAny (model prog cx.w) A (dictGet d key) Q E s := by
  unfold dictGet
  refine wpAny_holding (wpAny_bind (hash_key (cx := cx) (by omega) rk hk fun tk => wpAny_bind ?_))
  refine find_key (S.toks tk) hu (s := { s with toks := tk }) D.get rfl D.rep D.nd rk hk (fun h => wpAny_pure (hnone (dget_none h) tk)) fun i v h => ?_
  refine wpAny_bind (wpAny_dictEntries (s := { s with toks := tk }) D.get rfl ?_)
  obtain ⟨e, he, _, _, rv, _⟩ := D.rep.get' h
  have he' : ents[i]? = some e := by simpa using he
  rw [he']
  exact wpAny_pure (hsome v _ (dget_at D.nd h) rv tk)

theorem dictSetH_key (S : St cx ι ρ H s) (hu : A.units + 9 < cLine) {n : Nat} {d : Addr} (hi : ι[n]? = some d) {es : List (V × V)} {ents : Array DictEntry} {ep : Nat} (hH : H[n]? = some (.dict es ep)) (D : DictAt cx ι s d es ents ep) (hlt : es.length < SZ) {key val : Value} {k v : V} {Q : Unit → Shared → Prop}
    (rk : RepV ι s.heap key k) (rv : RepV ι s.heap val v) (hk : k.isKey = true)
    (q : ∀ ver s', St cx ι ρ (H.set n (.dict (dput es k v) ver)) s' → Mono ι s ι s' → Q () s') :
    wpAny (model prog cx.w) A (dictSetHashed d key (hashK cx.w k) val) Q E s := by
  unfold dictSetHashed
  refine wpAny_holding (wpAny_bind ?_)
  have hsz : ents.size = es.length := by rw [← Array.length_toList, D.rep.length]
  have imm : ∀ f, Imm s.heap (s.heap.update d f) := fun f => .of_but (Heap.SameBut.update ..).extBut fun o e => by rw [D.get] at e; cases e; exact notImm_dict rfl
  refine find_key S hu D.get rfl D.rep D.nd rk hk (fun h => ?_) fun i v₀ h => ?_
  · have hn := dget_none h
    refine wpAny_bind (wpAny_rule (wpAny_updateDictKeys (hz := by rw [← SZ_eq]; omega) D.get rfl ?_))
    have e : dput es k v = es ++ [(k, v)] := by simp [dput, hn]
    have R := S.set (h' := s.heap.update d (Obj.mapDictKeys fun x => x.push ⟨hashK cx.w k, key, val⟩)) (o' := .dict (dput es k v) (ep + 1)) s.toks hi (fun vs e => by rw [hH] at e; cases e) (Heap.SameBut.update ..).extBut ?_
    · exact q _ _ R.1 ⟨R.2.pre, R.2.imm⟩
    · refine ⟨ents.push ⟨hashK cx.w k, key, val⟩, ?_, ?_, dput_nodup D.nd k v, ?_⟩
      · exact Heap.get?_update_self _ D.get rfl
      · rw [e]
        simpa using (D.rep.mono (List.prefix_refl _) (imm _)).push (rk.mono (List.prefix_refl _) (imm _)) (rv.mono (List.prefix_refl _) (imm _)) hk
      · rw [e]; simp; omega
  · have hs := dget_at D.nd h
    refine wpAny_bind (wpAny_rule (wpAny_bind (wpAny_updateDict D.get rfl (wpAny_point ?_))))
    have e : dput es k v = es.map (fun e => if e.1 = k then (e.1, v) else e) := by simp [dput, hs]
    have R := S.set (h' := s.heap.update d (Obj.mapDict fun x => x.modify i fun e => { e with val := val })) (o' := .dict (dput es k v) ep) s.toks hi (fun vs e => by rw [hH] at e; cases e) (Heap.SameBut.update ..).extBut ?_
    · exact q _ _ R.1 ⟨R.2.pre, R.2.imm⟩
    · refine ⟨ents.modify i (fun e => { e with val := val }), ?_, ?_, dput_nodup D.nd k v, ?_⟩
      · exact Heap.get?_update_self _ D.get rfl
      · rw [e]
        have := (D.rep.mono (List.prefix_refl _) (imm (Obj.mapDict fun x => x.modify i fun e => { e with val := val }))).modify D.nd h (rv.mono (List.prefix_refl _) (imm _))
        simpa using this
      · rw [e]; simp; omega
theorem dictSet_key (S : St cx ι ρ H s) (hu : A.units + 9 < cLine) {n : Nat} {d : Addr} (hi : ι[n]? = some d) {es : List (V × V)} {ents : Array DictEntry} {ep : Nat} (hH : H[n]? = some (.dict es ep)) (D : DictAt cx ι s d es ents ep) (hlt : es.length < SZ) {key val : Value} {k v : V} {Q : Unit → Shared → Prop}
    (rk : RepV ι s.heap key k) (rv : RepV ι s.heap val v) (hk : k.isKey = true)
    (q : ∀ ver s', St cx ι ρ (H.set n (.dict (dput es k v) ver)) s' → Mono ι s ι s' → Q () s') :
    wpAny (model prog cx.w) A (dictSet d key val) Q E s := by
  unfold dictSet
  refine wpAny_holding (wpAny_bind (hash_key (cx := cx) (by omega) rk hk fun tk => ?_))
  exact dictSetH_key (s := { s with toks := tk }) (S.toks tk) hu hi hH ⟨D.get, D.rep, D.nd, D.le⟩ hlt rk rv hk fun ver s' S' M => q ver s' S' ⟨M.pre, M.imm⟩
end
end Tw
end

section
namespace Tw
open PySem PySem.SeqAt

structure AOk (A : Around) (d : Nat) : Prop where
  hd : A.handled = none
  dp : A.depth + d < recursionLimit
  un : A.units + 4 * d + 100 < cLine
theorem AOk.u {A : Around} {d : Nat} (a : AOk A d) : A.units + 50 < cLine := by have := a.un; omega

/-- the value, the state behind it -/
inductive Post (cx : Cx) (ι : List Addr) (ρ : Rho) (s : Shared) (Q : V → H → Prop) (val : Value) (s' : Shared) : Prop
  | mk (v : V) (ι' : List Addr) (H' : H) (M : Mono ι s ι' s') (S : St cx ι' ρ H' s') (r : RepV ι' s'.heap val v) (q : Q v H')
/-- a test's answer; the heap stays -/
inductive PostB (s : Shared) (Q : Bool → Prop) (val : Value) (s' : Shared) : Prop
  | mk (r : Bool) (tk : Nat) (e : val = .bool r) (e' : s' = { s with toks := tk }) (q : Q r)
/-- a value that is read; the heap stays -/
inductive PostR (ι : List Addr) (s : Shared) (Q : V → Prop) (val : Value) (s' : Shared) : Prop
  | mk (v : V) (tk : Nat) (e : s' = { s with toks := tk }) (r : RepV ι s.heap val v) (q : Q v)

section
variable {cx : Cx} {ι : List Addr} {ρ : Rho} {H : H} {s : Shared} {A : Around} {prog : Program} {E : Value → Shared → Prop}

theorem Mono.tk (tk : Nat) : Mono ι s ι { s with toks := tk } := ⟨List.prefix_refl _, .refl _⟩

theorem Post.tok (S : St cx ι ρ H s) {val : Value} {v : V} {Q : V → Tw.H → Prop} (r : RepV ι s.heap val v) (q : Q v H) (tk : Nat) : Post cx ι ρ s Q val { s with toks := tk } :=
  ⟨v, ι, H, .tk tk, S.toks tk, r, q⟩
theorem Post.here (S : St cx ι ρ H s) {val : Value} {v : V} {Q : V → Tw.H → Prop} (r : RepV ι s.heap val v) (q : Q v H) : Post cx ι ρ s Q val s := ⟨v, ι, H, .refl _ _, S, r, q⟩
theorem PostR.post (S : St cx ι ρ H s) {val : Value} {s' : Shared} {Q : V → Tw.H → Prop} (p : PostR ι s (fun v => Q v H) val s') : Post cx ι ρ s Q val s' := by
  obtain ⟨v, tk, rfl, r, q⟩ := p; exact .tok S r q tk
theorem PostB.post (S : St cx ι ρ H s) {val : Value} {s' : Shared} {Q : V → Tw.H → Prop} (p : PostB s (fun r => Q (.bool r) H) val s') : Post cx ι ρ s Q val s' := by
  obtain ⟨r, tk, rfl, rfl, q⟩ := p; exact .tok S (.bool r) q tk

theorem get?_fresh {h : Heap} {o : Obj} (hf : o.isFreed = false) : (h.push o).get? h.objs.size = some o := Heap.get?_push_size _ hf

/-- a new mutable object at a fresh address -/
theorem St.new (S : St cx ι ρ H s) (ok : CxOk cx) {h' : Heap} {a : Addr} {o : MO} (tk : Nat) (hk : ∀ b ob, s.heap.get? b = some ob → h'.get? b = some ob) (ha : s.heap.objs.size ≤ a) (r : RepO cx.w ι h' a o) :
    St cx (ι ++ [a]) ρ (H ++ [o]) { s with heap := h', toks := tk } ∧ Mono ι s (ι ++ [a]) { s with heap := h', toks := tk } := by
  obtain ⟨f1, f2, f3, f4, f5⟩ := S.fresh ok ha
  exact ⟨(S.ext tk hk).alloc r f1 f2 f3 f4 f5, ⟨List.prefix_append _ _, .of_ext hk⟩⟩
theorem rep_last (S : St cx ι ρ H s) {h : Heap} (a : Addr) : RepV (ι ++ [a]) h (.ref a) (.ref H.length) := .ref (by rw [← S.len]; simp)

theorem Post.list (S : St cx ι ρ H s) (ok : CxOk cx) {vals : Array Value} {n : Nat} {vs : List V} {Q : V → Tw.H → Prop} (r : RepVs ι s.heap vals.toList vs) (hl : vs.length ≤ SZ) (q : Q (.ref H.length) (H ++ [.list vs])) (tk : Nat) :
    Post cx ι ρ s Q (.ref s.heap.objs.size) { s with heap := s.heap.push { cls := .type "list", data := .seq vals n }, toks := tk } := by
  have hk : ∀ b ob, s.heap.get? b = some ob → (s.heap.push { cls := .type "list", data := .seq vals n }).get? b = some ob := fun _ _ e => Heap.get?_push_of_some _ e
  obtain ⟨S', M⟩ := S.new ok (o := .list vs) tk hk (Nat.le_refl _) ⟨vals, n, get?_fresh rfl, r.mono (List.prefix_refl _) (.of_ext hk), hl⟩
  exact ⟨_, _, _, M, S', rep_last S _, q⟩
theorem Post.dict (S : St cx ι ρ H s) (ok : CxOk cx) {Q : V → Tw.H → Prop} (q : Q (.ref H.length) (H ++ [.dict [] 0])) (tk : Nat) :
    Post cx ι ρ s Q (.ref s.heap.objs.size) { s with heap := s.heap.push { cls := .type "dict", data := .dict #[] }, toks := tk } := by
  have hk : ∀ b ob, s.heap.get? b = some ob → (s.heap.push { cls := .type "dict", data := .dict #[] }).get? b = some ob := fun _ _ e => Heap.get?_push_of_some _ e
  obtain ⟨S', M⟩ := S.new ok (o := .dict [] 0) tk hk (Nat.le_refl _) ⟨#[], get?_fresh rfl, .nil, List.nodup_nil, Nat.zero_le _⟩
  exact ⟨_, _, _, M, S', rep_last S _, q⟩
theorem Post.tup (S : St cx ι ρ H s) {vals : Array Value} {n : Nat} {vs : List V} {Q : V → Tw.H → Prop} (r : RepVs ι s.heap vals.toList vs) (hl : vs.length ≤ SZ) (q : Q (.tup vs) H) (tk : Nat) :
    Post cx ι ρ s Q (.ref s.heap.objs.size) { s with heap := s.heap.push { cls := .type "tuple", data := .seq vals n }, toks := tk } := by
  have hk : ∀ b ob, s.heap.get? b = some ob → (s.heap.push { cls := .type "tuple", data := .seq vals n }).get? b = some ob := fun _ _ e => Heap.get?_push_of_some _ e
  exact ⟨.tup vs, ι, H, .ext hk, S.ext tk hk, .tup (get?_fresh rfl) (by rw [← Array.length_toList, r.length]; exact hl) (r.mono (List.prefix_refl _) (.of_ext hk)), q⟩

theorem len_app (x y : Str) : (x ++ y).length = x.length + y.length := by
  show (Str.append x y).length = _
  cases x; cases y; simp [Str.append, Str.length]
theorem toList_app (x y : Str) : (x ++ y).cps.toList = x.cps.toList ++ y.cps.toList := by
  show (Str.append x y).cps.toList = _
  cases x; cases y; simp [Str.append]
theorem len_toList (x : Str) : x.cps.toList.length = x.length := by cases x; simp [Str.length]

theorem bits_of {a : Int} (h : a.natAbs < 2 ^ 63) : Builtin.Int.intBits a ≤ 64 := by
  unfold Builtin.Int.intBits
  split
  · omega
  · rename_i h0
    have h0' : a.natAbs ≠ 0 := by simpa using h0
    have := (Nat.log2_lt h0').mpr h
    omega
theorem mulOk_ok {a b : Int} (h : mulOk a b) : IntMulOk a b := h.elim (fun h => .of_left (bits_of h)) fun h => .of_right (bits_of h)

noncomputable def Bop.py : Bop → Operator
  | .add => .Add | .sub => .Sub | .mul => .Mult | .fdiv => .FloorDiv | .mod => .Mod

theorem add_sound (S : St cx ι ρ H s) (ok : CxOk cx) {x y : Value} {a b : V} {Q : V → Tw.H → Prop} (ra : RepV ι s.heap x a) (rb : RepV ι s.heap y b) (h : AddW a b H Q) :
    wpAny (model prog cx.w) A (binaryOp .Add x y) (Post cx ι ρ s Q) E s := by
  cases a with
  | int i =>
    obtain ⟨j, rfl, h⟩ := asInt.inv h
    obtain ⟨t, rfl⟩ := ra.intI
    obtain ⟨u, rfl⟩ := rb.intI
    exact PySem.P.add_int (.tok S (.int _ _) h _)
  | str v =>
    obtain ⟨w, rfl, h0, h⟩ := asStr.inv h
    obtain ⟨x, t, rfl, rfl, z⟩ := ra.strInv
    obtain ⟨y, u, rfl, rfl, z'⟩ := rb.strInv
    have hz : x.length + y.length ≤ SZ := by rw [len_toList, len_toList] at h0; exact h0
    exact PyProof.Rows.add_str (fun t' tk => .tok S (.strOf (toList_app x y) (by rw [len_app]; exact hz)) h tk) hz
  | ref m =>
    obtain ⟨n, rfl, vs, ws, h1, h2, h3, h4⟩ := asRef.inv h
    obtain ⟨a, rfl, gi⟩ := ra.refI
    obtain ⟨b, rfl, gj⟩ := rb.refI
    obtain ⟨va, na, g, r, _⟩ := S.objOf gi h1
    obtain ⟨vb, nb, g', r', _⟩ := S.objOf gj h2
    have l1 : va.size = vs.length := by rw [← Array.length_toList, r.length]
    have l2 : vb.size = ws.length := by rw [← Array.length_toList, r'.length]
    refine P.add_list g g' ?_ (by rw [l1, l2]; exact h3)
    exact Post.list S ok (vs := vs ++ ws) (by rw [Array.toList_append]; exact r.append r') (by rw [List.length_append]; exact h3) h4 s.toks
  | _ => exact h.elim

theorem mul_sound (S : St cx ι ρ H s) (ok : CxOk cx) {x y : Value} {a b : V} {Q : V → Tw.H → Prop} (ra : RepV ι s.heap x a) (rb : RepV ι s.heap y b) (h : MulW a b H Q) :
    wpAny (model prog cx.w) A (binaryOp .Mult x y) (Post cx ι ρ s Q) E s := by
  cases a with
  | int i =>
    obtain ⟨j, rfl, h⟩ := asInt.inv h
    obtain ⟨t, rfl⟩ := ra.intI
    obtain ⟨u, rfl⟩ := rb.intI
    exact PySem.P.mul_int (.tok S (.int _ _) h.2 _) (mulOk_ok h.1)
  | _ => exact h.elim

theorem bin_sound (S : St cx ι ρ H s) (ok : CxOk cx) {op : Bop} {x y : Value} {a b : V} {Q : V → Tw.H → Prop} (ra : RepV ι s.heap x a) (rb : RepV ι s.heap y b) (h : BinW op a b H Q) :
    wpAny (model prog cx.w) A (binaryOp op.py x y) (Post cx ι ρ s Q) E s := by
  cases op with
  | add => exact add_sound S ok ra rb h
  | mul => exact mul_sound S ok ra rb h
  | sub =>
    obtain ⟨i, rfl, h⟩ := asInt.inv h
    obtain ⟨j, rfl, h⟩ := asInt.inv h
    obtain ⟨t, rfl⟩ := ra.intI
    obtain ⟨u, rfl⟩ := rb.intI
    exact PySem.P.sub_int (.tok S (.int _ _) h _)
  | fdiv =>
    obtain ⟨i, rfl, h⟩ := asInt.inv h
    obtain ⟨j, rfl, h⟩ := asInt.inv h
    obtain ⟨t, rfl⟩ := ra.intI
    obtain ⟨u, rfl⟩ := rb.intI
    exact PyProof.Rows.floordiv_int h.1 (.tok S (.int _ _) h.2.2 _) (Or.inl (PyProof.noPylong_small h.2.1))
  | mod =>
    obtain ⟨i, rfl, h⟩ := asInt.inv h
    obtain ⟨j, rfl, h⟩ := asInt.inv h
    obtain ⟨t, rfl⟩ := ra.intI
    obtain ⟨u, rfl⟩ := rb.intI
    exact PyProof.Rows.mod_int' h.1 (.tok S (.int _ _) h.2 _)
end
end Tw
end

section
namespace Tw
open PySem PySem.SeqAt

section
variable {cx : Cx} {ι : List Addr} {ρ : Rho} {H : H} {s : Shared} {A : Around} {prog : Program} {E : Value → Shared → Prop}

noncomputable def Cmp.py : Cmp → CmpOp
  | .eq => .Eq | .ne => .NotEq | .lt => .Lt | .le => .LtE | .gt => .Gt | .ge => .GtE | .isIn => .In | .notIn => .NotIn | .is => .Is | .isNot => .IsNot

theorem EqW.snap {a b : V} {Q : Bool → Prop} (h : EqW a b H Q) : (∃ p q, a = .bool p ∧ b = .bool q ∧ Q (decide (p = q))) ∨
    ∃ d₁ d₂, Snap H a d₁ ∧ Snap H b d₂ ∧ D.ok 9 d₁ = true ∧ D.ok 9 d₂ = true ∧ Q (decide (d₁ = d₂)) := by
  cases a with
  | bool p => obtain ⟨q, rfl, h⟩ := asBool.inv h; exact .inl ⟨_, _, rfl, rfl, h⟩
  | _ => exact .inr h

theorem eq_sound (S : St cx ι ρ H s) (hu : A.units + 50 < cLine) {x y : Value} {a b : V} {Q : Bool → Prop} (ra : RepV ι s.heap x a) (rb : RepV ι s.heap y b) (h : EqW a b H Q) :
    ∃ k, Q k ∧ EqAll A s x y k := by
  rcases h.snap with ⟨p, q, rfl, rfl, h⟩ | ⟨d₁, d₂, s1, s2, o1, o2, h⟩
  · obtain rfl := ra.boolI
    obtain rfl := rb.boolI
    refine ⟨_, h, ?_⟩
    have e : decide (p = q) = (p == q) := by cases p <;> cases q <;> rfl
    rw [e]
    exact ⟨RcAt.bool_bool _ _, EqAt.bool_bool _ _, RcNeAt.bool_bool _ _⟩
  · exact ⟨_, h, eq_snap S 9 (by omega) ra rb s1 s2 o1 o2⟩

theorem PostB.here {Q : Bool → Prop} {r : Bool} (q : Q r) : PostB s Q (.bool r) s := ⟨r, s.toks, rfl, rfl, q⟩

open Classical in
theorem in_list_sound (S : St cx ι ρ H s) (hu : A.units + 50 < cLine) {x : Value} {a : V} {n : Nat} {l : Addr} {vs : List V} {d : D} {ds : List D} (ra : RepV ι s.heap x a) (gi : ι[n]? = some l) (hH : H[n]? = some (.list vs))
    (sa : Snap H a d) (sv : Snaps H vs ds) (od : D.ok 9 d = true) (ods : ∀ d ∈ ds, D.ok 9 d = true) :
    ∃ (items : Array Value) (e : Value → Bool), s.heap.IsList l items ∧ (∀ y, y ∈ items → EqAt A.in1 s y x (e y)) ∧ items.any e = decide (d ∈ ds) := by
  obtain ⟨vals, m, g, r, _⟩ := S.objOf gi hH
  have one : ∀ (y : Value), y ∈ vals → ∃ v d', RepV ι s.heap y v ∧ Snap H v d' ∧ d' ∈ ds := by
    intro y hy
    obtain ⟨i, hi⟩ := List.mem_iff_getElem?.mp (Array.mem_toList_iff.mpr hy)
    obtain ⟨v, hv, rv⟩ := r.get' hi
    have hl : i < ds.length := by rw [← sv.length]; exact (List.getElem?_eq_some_iff.mp hv).1
    exact ⟨v, ds[i], rv, sv.get hv (List.getElem?_eq_getElem hl), List.getElem_mem hl⟩
  let e : Value → Bool := fun y => decide (∃ v d', RepV ι s.heap y v ∧ Snap H v d' ∧ d' = d)
  have ee : ∀ {y : Value} {v : V} {d' : D}, RepV ι s.heap y v → Snap H v d' → e y = decide (d' = d) := by
    intro y v d' rv sd
    by_cases q : d' = d
    · subst q
      have : e y = true := decide_eq_true ⟨v, d', rv, sd, rfl⟩
      rw [this]; simp
    · have : e y = false := decide_eq_false (by
        rintro ⟨v', d'', rv', sd', rfl⟩
        have := RepV.fn S rv rv'
        subst this
        exact q (Snap.fn sd sd'))
      rw [this]; simp [q]
  refine ⟨vals, e, isList_of g, fun y hy => ?_, ?_⟩
  · obtain ⟨v, d', rv, sd, hm⟩ := one y hy
    rw [ee rv sd]
    have := (eq_snap S 9 (A := A.in1) (by show A.units + 1 + 9 < cLine; omega) rv ra sd sa (ods d' hm) od).eq
    exact this
  · rw [Bool.eq_iff_iff, decide_eq_true_iff, Array.any_eq_true]
    constructor
    · rintro ⟨i, hi, he⟩
      obtain ⟨v, d', rv, sd, hm⟩ := one vals[i] (Array.getElem_mem hi)
      rw [ee rv sd] at he
      have := of_decide_eq_true he
      subst this; exact hm
    · intro hm
      obtain ⟨i, hi⟩ := List.mem_iff_getElem?.mp hm
      have hl : i < vs.length := by rw [sv.length]; exact (List.getElem?_eq_some_iff.mp hi).1
      obtain ⟨y, hy, ry⟩ := r.get (List.getElem?_eq_getElem hl)
      have hy' : vals[i]? = some y := by simpa using hy
      obtain ⟨hlt, rfl⟩ := Array.getElem?_eq_some_iff.mp hy'
      exact ⟨i, hlt, by rw [ee ry (sv.get (List.getElem?_eq_getElem hl) hi)]; simp⟩

theorem St.notMods (S : St cx ι ρ H s) {n : Nat} {d : Addr} (gi : ι[n]? = some d) : (d == sysModules) = false := by
  have h1 := S.low d (List.mem_of_getElem? gi)
  simpa using h1

theorem in_dict_sound (S : St cx ι ρ H s) (hu : A.units + 50 < cLine) {x : Value} {a : V} {n : Nat} {d : Addr} {es : List (V × V)} {ep : Nat} {Q : Bool → Prop} (ra : RepV ι s.heap x a) (gi : ι[n]? = some d) (hH : H[n]? = some (.dict es ep))
    (hk : a.isKey = true) (h : Q (decide (a ∈ es.map (·.1)))) (f : Bool → Bool) (Q' : Bool → Prop) (hf : ∀ r, Q r → Q' (f r)) :
    wpAny (model prog cx.w) A (contains (.ref d) x) (fun r s' => ∃ tk, s' = { s with toks := tk } ∧ Q' (f r)) E s := by
  obtain ⟨ents, D⟩ := S.dict gi hH
  have hT : s.TypeIs (.ref d) "dict" := ⟨_, D.get, rfl⟩
  unfold contains
  refine wpAny_holding ?_
  refine wpAny_bind (wpAny_specialOf hT slot_dict_contains.lookup ?_)
  show wpAny _ _ (if (some (Value.builtin "dict.__contains__") == some Value.none) = true then _ else _) _ E s
  rw [if_neg (by rw [beq_builtin_none]; exact Bool.false_ne_true)]
  refine wpAny_bind (wpAny_callSpecialUnlessNone?_slot (name := Str.ofString "__contains__") hT slot_dict_contains
    (wpAny_call_entry slot_dict_contains hT entry_dict_contains ?_ (args_dict_contains _ _)))
  show wpAny _ _ (dictGet d x >>= _) _ _ s
  refine wpAny_bind (dictGet_key S (by show A.units + 1 + 9 < cLine; omega) D ra hk (fun hn tk => ?_) fun v val hv rv tk => ?_)
  · show wpAny _ _ (Builtin.Dict.pendingKey? d x >>= _) _ _ _
    refine wpAny_bind (wpAny_pendingKey_other (S.notMods gi) (wpAny_pure ⟨_, rfl, wpAny_truthy_bool ⟨tk, rfl, hf _ ?_⟩⟩))
    have := dget_iff (es := es) (k := a)
    rw [hn] at this
    rw [← this] at h; exact h
  · show wpAny _ _ (ret (.bool true)) _ _ _
    refine wpAny_pure ⟨_, rfl, wpAny_truthy_bool ⟨tk, rfl, hf _ ?_⟩⟩
    have := dget_iff (es := es) (k := a)
    rw [hv] at this
    rw [← this] at h; exact h

theorem isSame_none (v : Value) : isSame v .none = pure (v == .none) := by cases v <;> rfl
theorem isSame_bool (b c : Bool) : isSame (.bool b) (.bool c) = pure (b == c) := by cases b <;> cases c <;> rfl
theorem rep_none {x : Value} {a : V} {h : Heap} (r : RepV ι h x a) : (x == .none) = decide (a = .none) := by
  cases r <;> first | (exact (decide_eq_true rfl).symm) | (exact (decide_eq_false nofun).symm)

/-- behind `is`: what is the same -/
theorem same_sound {x y : Value} {a b : V} {Q : Bool → Prop} {f : Bool → Value} {P : Value → Shared → Prop} (ra : RepV ι s.heap x a) (rb : RepV ι s.heap y b) (h : SameW a b Q) (q : ∀ r, Q r → P (f r) s) :
    wpAny (model prog cx.w) A (isSame x y >>= fun r => pure (f r)) P E s := by
  cases b with
  | none =>
    obtain rfl := rb.noneI
    rw [isSame_none, rep_none ra]; exact wpAny_bind (wpAny_pure (wpAny_pure (q _ h)))
  | bool c =>
    obtain ⟨d, rfl, h⟩ := asBool.inv h
    obtain rfl := rb.boolI
    obtain rfl := ra.boolI
    rw [isSame_bool]
    refine wpAny_bind (wpAny_pure (wpAny_pure (q _ ?_)))
    rw [show (d == c) = decide (d = c) from by cases d <;> cases c <;> rfl]; exact h
  | _ => exact h.elim

theorem cmp_sound (S : St cx ι ρ H s) (hu : A.units + 50 < cLine) {op : Cmp} {x y : Value} {a b : V} {Q : Bool → Prop} (ra : RepV ι s.heap x a) (rb : RepV ι s.heap y b) (h : CmpW op a b H Q) :
    wpAny (model prog cx.w) A (compareOp op.py x y) (PostB s Q) E s := by
  have bothI : ∀ {K : Int → Int → Prop}, (asInt a fun a => asInt b fun b => K a b) → ∃ i t j u, x = .int i t ∧ y = .int j u ∧ K i j := fun h0 => by
    obtain ⟨i, e1, h1⟩ := asInt.inv h0
    obtain ⟨j, e2, h2⟩ := asInt.inv h1
    rw [e1] at ra
    rw [e2] at rb
    obtain ⟨t, rfl⟩ := ra.intI
    obtain ⟨u, rfl⟩ := rb.intI
    exact ⟨i, t, j, u, rfl, rfl, h2⟩
  cases op with
  | eq =>
    obtain ⟨k, hq, e⟩ := eq_sound S hu ra rb h
    exact e.rc _ _ _ _ (.here hq)
  | ne =>
    obtain ⟨k, hq, e⟩ := eq_sound (Q := fun r => Q (!r)) S hu ra rb h
    exact e.ne _ _ _ _ (.here hq)
  | lt => obtain ⟨i, t, j, u, rfl, rfl, h⟩ := bothI h; exact PySem.P.lt_int (.here h)
  | le => obtain ⟨i, t, j, u, rfl, rfl, h⟩ := bothI h; exact PySem.P.le_int (.here h)
  | gt => obtain ⟨i, t, j, u, rfl, rfl, h⟩ := bothI h; exact PySem.P.gt_int (.here h)
  | ge => obtain ⟨i, t, j, u, rfl, rfl, h⟩ := bothI h; exact PySem.P.ge_int (.here h)
  | is => exact same_sound ra rb h fun r q => .here q
  | isNot => exact same_sound (Q := fun r => Q (!r)) (f := fun r => .bool (!r)) ra rb h fun r q => .here q
  | isIn =>
    obtain ⟨n, rfl, h1⟩ := asRef.inv h
    clear h
    obtain ⟨l, rfl, gi⟩ := rb.refI
    obtain ⟨o, hH, _⟩ := S.obj gi
    rw [hH] at h1
    have h := h1
    clear h1
    cases o with
    | list vs =>
      obtain ⟨d, ds, sa, sv, od, ods, hq⟩ := h
      obtain ⟨items, e, hl, he, ha⟩ := in_list_sound S hu ra gi hH sa sv od ods
      refine in_listAt e hl he ?_
      rw [ha]; exact .here hq
    | dict es ep => exact wpAny_bind (wpAny_mono (in_dict_sound S hu ra gi hH h.1 h.2 id Q fun _ q => q) (fun r s' h => wpAny_pure ⟨_, h.choose, rfl, h.choose_spec.1, h.choose_spec.2⟩) fun _ _ e => e)
    | frz vs => exact h.elim
  | notIn =>
    obtain ⟨n, rfl, h1⟩ := asRef.inv h
    clear h
    obtain ⟨l, rfl, gi⟩ := rb.refI
    obtain ⟨o, hH, _⟩ := S.obj gi
    rw [hH] at h1
    have h := h1
    clear h1
    cases o with
    | list vs =>
      obtain ⟨d, ds, sa, sv, od, ods, hq⟩ := h
      obtain ⟨items, e, hl, he, ha⟩ := in_list_sound S hu ra gi hH sa sv od ods
      refine notIn_listAt e hl he ?_
      rw [ha]; exact .here hq
    | dict es ep => exact wpAny_bind (wpAny_mono (in_dict_sound S hu ra gi hH (Q := fun r => Q (!r)) h.1 h.2 (fun r => !r) Q fun _ q => q) (fun r s' h => wpAny_pure ⟨_, h.choose, rfl, h.choose_spec.1, h.choose_spec.2⟩) fun _ _ e => e)
    | frz vs => exact h.elim

theorem not_slice {i : Expr} (hns : ∀ a b c p, i ≠ .Slice a b c p) (o iv : Value) : subscripted i false o iv = operate [o, iv] (getItem o iv) := by
  cases i <;> first | rfl | exact absurd rfl (hns _ _ _ _)

theorem seqIndex_nat {k : Int} {n : Nat} (h0 : 0 ≤ k) (h1 : k.toNat < n) : seqIndex? k n = some k.toNat := seqIndex_of h0 (by omega)

theorem sub_dict (S : St cx ι ρ H s) (hu : A.units + 50 < cLine) {l : Addr} {n ep : Nat} {es : List (V × V)} {y : Value} {i v : V} {Q : V → Prop} (gi : ι[n]? = some l) (hH : H[n]? = some (.dict es ep)) (ri : RepV ι s.heap y i) (hk : i.isKey = true) (hv : dget es i = some v) (hq : Q v) :
    wpAny (model prog cx.w) A (getItem (.ref l) y) (PostR ι s Q) E s := by
  obtain ⟨ents, D⟩ := S.dict gi hH
  have hT : s.TypeIs (.ref l) "dict" := ⟨_, D.get, rfl⟩
  refine wpAny_holding (wpAny_bind (wpAny_sequenceKey hT (by decide) ?_))
  refine wpAny_bind (wpAny_callSpecial?_slot (name := Str.ofString "__getitem__") hT slot_dict_getitem
    (wpAny_call_entry slot_dict_getitem hT entry_dict_getitem ?_ (args_dict_getitem _ _)))
  show wpAny _ _ (dictGet l y >>= _) _ _ s
  refine wpAny_bind (dictGet_key S (by show A.units + 1 + 9 < cLine; omega) D ri hk (fun hn tk => ?_) fun v' val hv' rv tk => ?_)
  · rw [hv] at hn; cases hn
  · rw [hv] at hv'; cases hv'
    exact wpAny_pure ⟨val, rfl, wpAny_pure ⟨v, tk, rfl, rv, hq⟩⟩
theorem sub_sound (S : St cx ι ρ H s) (hu : A.units + 50 < cLine) {value slice : Expr} (hns : ∀ a b c p, slice ≠ .Slice a b c p) {x y : Value} {a i : V} {Q : V → Prop} (ra : RepV ι s.heap x a) (ri : RepV ι s.heap y i) (h : SubW a i H Q) :
    wpAny (model prog cx.w) A (PyProof.Rows.subscriptTail value slice x y) (PostR ι s Q) E s := by
  cases a with
  | str w =>
    obtain ⟨k, rfl, c, h0, hc, hq⟩ := asInt.inv h
    obtain ⟨u, rfl⟩ := ri.intI
    obtain ⟨x, t, rfl, rfl, z⟩ := ra.strInv
    have hlt : k.toNat < x.length := by rw [← len_toList]; exact (List.getElem?_eq_some_iff.mp hc).1
    refine PyProof.Rows.tail_any (typeIs_str s x t) F.slot_str_getitem.lookup (PyProof.Rows.getItem_str (c := c) ?_ ?_ ?_) (not_slice hns _ _)
    · simp; omega
    · rw [seqIndex_nat h0.1 hlt]
      simpa using hc
    · exact ⟨.str [c], _, rfl, .strOf rfl (by show 1 ≤ SZ; decide), hq⟩
  | tup vs =>
    obtain ⟨k, rfl, v, h0, hv, hq⟩ := asInt.inv h
    obtain ⟨u, rfl⟩ := ri.intI
    obtain ⟨a, n, vals, rfl, g, z, r⟩ := ra.tupI
    obtain ⟨y, hy, ry⟩ := r.get hv
    have hlt : k.toNat < vals.size := by
      have := (List.getElem?_eq_some_iff.mp hy).1
      simpa using this
    exact PyProof.Rows.tail_any ⟨_, g, rfl⟩ F.slot_tuple_getitem.lookup (PySem.P.getItem_tuple g (by omega) (by omega) (seqIndex_nat h0.1 hlt) (by simpa using hy) ⟨v, s.toks, rfl, ry, hq⟩) (not_slice hns _ _)
  | ref n =>
    obtain ⟨l, rfl, gi⟩ := ra.refI
    obtain ⟨o, hH, _⟩ := S.obj gi
    unfold SubW at h
    dsimp only at h
    rw [hH] at h
    cases o with
    | list vs =>
      obtain ⟨k, rfl, h⟩ := asInt.inv h
      obtain ⟨u, rfl⟩ := ri.intI
      obtain ⟨vals, m, g, r, _⟩ := S.objOf gi hH
      rcases h with ⟨v, ⟨h0, h1⟩, hv, hq⟩ | ⟨v, rfl, hv, hq⟩
      · obtain ⟨y, hy, ry⟩ := r.get hv
        exact PyProof.Rows.tail_any ⟨_, g, rfl⟩ slot_list_getitem.lookup (wpAny_getItem_list (isList_of g) h0 (by omega) (by simpa using hy) ⟨v, s.toks, rfl, ry, hq⟩) (not_slice hns _ _)
      · have hl1 : vals.size = vs.length := by rw [← Array.length_toList, r.length]
        have hv' : vs[vs.length - 1]? = some v := by rw [← List.getLast?_eq_getElem?]; exact hv
        have hpos := (List.getElem?_eq_some_iff.mp hv').1
        obtain ⟨y, hy, ry⟩ := r.get hv'
        refine PyProof.Rows.tail_any ⟨_, g, rfl⟩ slot_list_getitem.lookup (wpAny_getItem_list_neg (isList_of g) (by decide) (by omega) (by decide) ?_ ⟨v, s.toks, rfl, ry, hq⟩) (not_slice hns _ _)
        rw [show ((-1 : Int) + vals.size).toNat = vs.length - 1 from by omega]
        simpa using hy
    | frz vs =>
      obtain ⟨k, rfl, v, ⟨h0, h1⟩, hv, hq⟩ := asInt.inv h
      obtain ⟨u, rfl⟩ := ri.intI
      obtain ⟨vals, g, r, _⟩ := S.objOf gi hH
      obtain ⟨y, hy, ry⟩ := r.get hv
      exact PyProof.Rows.tail_any g.typeIs slot_list_getitem.lookup (wpAny_getItem_list g h0 (by omega) (by simpa using hy) ⟨v, s.toks, rfl, ry, hq⟩) (not_slice hns _ _)
    | dict es ep =>
      obtain ⟨hk, v, hv, hq⟩ := h
      obtain ⟨ents, D⟩ := S.dict gi hH
      exact PyProof.Rows.tail_any ⟨_, D.get, rfl⟩ slot_dict_getitem.lookup (sub_dict S hu gi hH ri hk hv hq) (not_slice hns _ _)
  | _ => exact h.elim
end
end Tw
end

section
namespace Tw
open PySem PySem.SeqAt

/-! going through a dict's keys, whatever they are -/
section
variable {s : Shared} {A : Around} {prog : Program} {w : World} {E : Value → Shared → Prop}

theorem iter_raw {d : Addr} {ents : Array DictEntry} {ep : Nat} {Q : Value → Shared → Prop} (lo : (d == sysModules) = false) (g : s.heap.get? d = some { cls := .type "dict", data := .dict ents ep })
    (q : Q (.ref s.heap.objs.size) { s with heap := s.heap.push { cls := .type "dict_keyiterator", data := .fields #[.ref d, .int 0 0, .int ents.size 0, .int ep 0] } }) : wpAny (model prog w) A (pyIter (.ref d)) Q E s := by
  have hT : s.TypeIs (.ref d) "dict" := ⟨_, g, rfl⟩
  refine wpAny_pyIter_slot hT F.slot_dict_iter (wpAny_call_entry F.slot_dict_iter hT F.entry_dict_iter ?_ (F.args_dict_iter_1 _))
  unfold Builtin.«dict.__iter__» Builtin.Dict.dictSlotNone
  refine wpAny_bind (wpAny_bind (wpAny_notOrdered_dict hT (wpAny_pure ?_)))
  show wpAny _ _ (Builtin.Dict.showsAll d >>= _) _ _ s
  unfold Builtin.Dict.showsAll
  rw [if_neg (by rw [lo]; exact Bool.false_ne_true)]
  refine wpAny_bind (wpAny_pure (wpAny_bind (wpAny_dictEntries g rfl (wpAny_bind (wpAny_dictEpoch g rfl ?_)))))
  exact wpAny_bind (wpAny_newObj_type (wpAny_pure ⟨_, rfl, "dict_keyiterator", _, ⟨_, Heap.get?_push_size _ rfl, rfl⟩, F.slot_dict_keyiterator_next.lookup, q⟩))

/-- what next does up to the entry at hand -/
theorem next_raw {it d : Addr} {i ep : Nat} {ents : Array DictEntry} {Q : Option Value → Shared → Prop} (hh : A.handled = none) (hit : s.heap.IsKeyIter it d i ents.size ep) (g : s.heap.get? d = some { cls := .type "dict", data := .dict ents ep })
    (hi : ∀ e, ents[i]? = some e → ∀ h', h'.IsKeyIter it d (i + 1) ents.size ep → Heap.SameBut it s.heap h' → Q (some e.key) { s with heap := h' })
    (hn : ents[i]? = none → ∀ h', Heap.ExtBut it s.heap h' → Q none { s with heap := h' }) : wpAny (model prog w) A (pyNext (.ref it)) Q E s := by
  obtain ⟨o, ho, hc, hd⟩ := id hit
  unfold pyNext
  refine wpAny_bind (wpAny_attempt (wpAny_callSpecial?_slot (name := Str.ofString "__next__") hit.typeIs F.slot_dict_keyiterator_next
    (wpAny_call_entry F.slot_dict_keyiterator_next hit.typeIs F.entry_dict_keyiterator_next ?_ (F.args_dict_keyiterator_next_1 _))))
  refine wpAny_bind (wpAny_pure (wpAny_bind (wpAny_bind ?_)))
  first | refine wpAny_bind (wpAny_typeNameOfWhole_keyiter hit.typeIs (wpAny_pure ?_)) | refine wpAny_bind (wpAny_typeNameOf_keyiter hit.typeIs (wpAny_pure ?_))
  refine wpAny_bind (wpAny_fieldsOf ho hd ?_)
  have hown : Builtin.Dict_items.ownsTuple "dict_keyiterator" = false := by decide
  rw [hown, if_neg Bool.false_ne_true]
  show wpAny _ _ (if (Value.ref d == Value.none) = true then _ else _) _ _ s
  rw [if_neg (show ¬ ((Value.ref d == Value.none) = true) from Bool.false_ne_true)]
  refine wpAny_bind (wpAny_pure (wpAny_bind (wpAny_dictEntries g rfl ?_)))
  rw [if_neg (by simp)]
  refine wpAny_bind (wpAny_pure (wpAny_bind (wpAny_dictEpoch g rfl ?_)))
  rw [if_neg (by simp)]
  refine wpAny_pure ?_
  dsimp only
  rw [if_neg (show ¬ ((i : Int) < 0) from by omega), Int.toNat_natCast]
  cases hx : ents[i]? with
  | some e =>
    refine wpAny_bind ?_
    first | refine wpAny_bind (wpAny_typeNameOfWhole_keyiter hit.typeIs (wpAny_pure ?_)) | refine wpAny_bind (wpAny_typeNameOf_keyiter hit.typeIs (wpAny_pure ?_))
    refine wpAny_bind (wpAny_isOneOf_keyiter hit.typeIs ?_)
    show wpAny _ _ (setField (.ref it) 1 (rawInt ((i : Int) + 1)) >>= _) _ _ s
    refine wpAny_bind (wpAny_setField ho hd (by simp) ?_)
    have hit' : (s.heap.update it (Obj.mapFields (·.setIfInBounds 1 (rawInt ((i : Int) + 1))))).IsKeyIter it d (i + 1) ents.size ep :=
      ⟨_, Heap.get?_update_self _ ho (Obj.isFreed_of_fields (Obj.data_mapFields hd _)), (Obj.cls_mapFields ..).trans hc, by rw [Obj.data_mapFields hd]; simp [rawInt]⟩
    refine wpAny_bind (wpAny_holding ?_)
    refine wpAny_bind (wpAny_isOneOf_keyiter (s := { s with heap := s.heap.update it (Obj.mapFields (·.setIfInBounds 1 (rawInt ((i : Int) + 1)))) }) hit'.typeIs ?_)
    show wpAny _ _ (pure e.key) _ _ _
    exact wpAny_pure (wpAny_pure ⟨_, rfl, wpAny_pure (hi e hx _ hit' (Heap.SameBut.update ..))⟩)
  | none =>
    refine wpAny_bind ?_
    first | refine wpAny_bind (wpAny_typeNameOfWhole_keyiter hit.typeIs (wpAny_pure ?_)) | refine wpAny_bind (wpAny_typeNameOf_keyiter hit.typeIs (wpAny_pure ?_))
    show wpAny _ _ (setField (.ref it) 0 .none >>= _) _ _ s
    refine wpAny_bind (wpAny_setField ho hd (by simp) ?_)
    show wpAny _ _ (newExc (.type "StopIteration") [] >>= _) _ _ _
    refine wpAny_bind ?_
    simp only [newExc, newTuple]
    refine wpAny_bind (wpAny_newObj_type ?_ (by size_fits))
    refine wpAny_bind (m := firstArgMember _ _) (wpAny_of_eq (a := Value.none) (by first | rfl | (simp only [firstArgMember]; rfl)) ?_)
    refine wpAny_newObj_type ?_ (by size_fits)
    unfold raiseNew
    refine wpAny_bind (wpAny_handled ?_)
    rw [show A.in1.handled = none from hh]
    refine wpAny_bind (wpAny_pure (wpAny_throw ?_))
    refine wpAny_bind (wpAny_isInstance (T := "StopIteration") (b := true) ⟨_, Heap.get?_push_size _ rfl, rfl⟩ isSubtype_stop ?_)
    exact wpAny_pure (hn hx _ (((Heap.SameBut.update ..).extBut.push _).push _))
end
end Tw
end

section
namespace Tw
open PySem PySem.SeqAt

section
variable {cx : Cx} {ι : List Addr} {ρ : Rho} {H : H} {s : Shared} {A : Around} {prog : Program} {E : Value → Shared → Prop}

/-! an address of our own, aside of all that the frame sees -/
structure Aside (cx : Cx) (a : Addr) : Prop where
  np : ∀ ob, ¬ cx.P a ob
  nl : a ≠ cx.env.locals
  nc : ∀ x c, cx.env.cells.lookup x = some c → c ≠ a
theorem St.aside (S : St cx ι ρ H s) (ok : CxOk cx) {a : Addr} (ha : s.heap.objs.size ≤ a) : Aside cx a ∧ a ∉ ι := by
  obtain ⟨f1, f2, f3, f4, f5⟩ := S.fresh ok ha
  exact ⟨⟨f3, f4, f5⟩, f1⟩
theorem CxOk.keepA (ok : CxOk cx) {a : Addr} (as : Aside cx a) (o : Obj) : CxOk (cx.keep a o) := ok.keep as.nl fun x c _ l => as.nc x c l

/-- something aside turned, or came, or went -/
theorem St.but (S : St cx ι ρ H s) {a : Addr} (as : Aside cx a) (hI : a ∉ ι) {h' : Heap} (tk : Nat) (hs : Heap.ExtBut a s.heap h') (hno : ∀ o, s.heap.get? a = some o → ¬ isImm o) :
    St cx ι ρ H { s with heap := h', toks := tk } ∧ Mono ι s ι { s with heap := h', toks := tk } := by
  have imm : Imm s.heap h' := .of_but hs hno
  refine ⟨?_, ⟨List.prefix_refl _, imm⟩⟩
  exact {
    same := by obtain ⟨h, t, rfl⟩ := S.same; exact ⟨h', tk, rfl⟩
    len := S.len
    nodup := S.nodup
    objs := fun k b o₂ hb ho₂ => (S.objs k b o₂ hb ho₂).mono (List.prefix_refl _) imm fun ob e => hs _ _ (fun e' => hI (e' ▸ List.mem_of_getElem? hb)) e
    low := S.low
    scr := fun o e => hs _ _ (fun e' => hI (e' ▸ S.scrIn)) (S.scr o e)
    scrI := S.scrI
    scrIn := S.scrIn
    prot := fun b ob p => (S.prot b ob p).mono fun o => hs _ o fun e => as.np ob (e ▸ p)
    protI := S.protI
    ns := let ⟨m, n⟩ := S.ns; ⟨m, n.extBut hs fun e => as.nl e.symm⟩
    nsI := S.nsI
    cells := fun y c l => by
      obtain ⟨⟨ov, oc, gc, dc⟩, h1, h2⟩ := S.cells y c l
      exact ⟨⟨ov, oc, hs _ _ (as.nc y c l) gc, dc⟩, h1, h2⟩
    vars := fun x i v hx hv => by
      obtain ⟨val, va, rv⟩ := S.vars x i v hx hv
      exact ⟨val, va.extBut hs (fun e => as.nl e.symm) as.nc, rv.mono (List.prefix_refl _) imm⟩ }
theorem St.kept {a : Addr} {o : Obj} (S : St (cx.keep a o) ι ρ H s) (hd : ¬ Mk o) : s.heap.get? a = some o := (S.prot a o (.inr ⟨rfl, rfl⟩)).exact hd
theorem St.keptI {a : Addr} {o : Obj} (S : St (cx.keep a o) ι ρ H s) : a ∉ ι := S.protI a o (.inr ⟨rfl, rfl⟩)

/-! iterators -/
noncomputable def ItRep (ι : List Addr) (h : Heap) (o : Obj) : It → Prop
  | .seq n i => ∃ l, ι[n]? = some l ∧ o.cls = .type "list_iterator" ∧ o.data = .fields #[.ref l, .int i 0]
  | .vals vs => (∃ (t : Addr) (i : Nat) (items : Array Value) (n : Nat), o.cls = .type "tuple_iterator" ∧ o.data = .fields #[.ref t, .int i 0] ∧ h.get? t = some { cls := .type "tuple", data := .seq items n } ∧ i ≤ items.size ∧ RepVs ι h (items.toList.drop i) vs) ∨
      (∃ (x left step : Int), o = { cls := .type "range_iterator", data := .fields #[rawInt x, rawInt left, rawInt step] } ∧ 0 ≤ left ∧ vs = intsV x step left.toNat)
  | .keys n ver len i => ∃ d, ι[n]? = some d ∧ (d == sysModules) = false ∧ o.cls = .type "dict_keyiterator" ∧ o.data = .fields #[.ref d, .int i 0, .int len 0, .int ver 0]

theorem ItRep.mono {ι ι' : List Addr} {h h' : Heap} {o : Obj} {i : It} (hi : ι <+: ι') (hm : Imm h h') (r : ItRep ι h o i) : ItRep ι' h' o i := by
  cases i with
  | keys n ver len i =>
    obtain ⟨l, g, z, c, d⟩ := r
    refine ⟨l, ?_, z, c, d⟩
    obtain ⟨t, rfl⟩ := hi
    rw [List.getElem?_append_left (List.getElem?_eq_some_iff.mp g).1]; exact g
  | seq n i =>
    obtain ⟨l, g, c, d⟩ := r
    refine ⟨l, ?_, c, d⟩
    obtain ⟨t, rfl⟩ := hi
    rw [List.getElem?_append_left (List.getElem?_eq_some_iff.mp g).1]; exact g
  | vals vs =>
    rcases r with ⟨t, i, items, n, c, d, g, le, rv⟩ | q
    · exact .inl ⟨t, i, items, n, c, d, hm _ _ g (.inl ⟨rfl, _, _, rfl⟩), le, rv.mono hi hm⟩
    · exact .inr q
theorem ItRep.notImm {ι : List Addr} {h : Heap} {o : Obj} {i : It} (r : ItRep ι h o i) : ¬ isImm o := by
  cases i with
  | keys n ver len i => obtain ⟨l, g, _, c, d⟩ := r; exact notImm_fields d c (by decide)
  | seq n i => obtain ⟨l, g, c, d⟩ := r; exact notImm_fields d c (by decide)
  | vals vs =>
    rcases r with ⟨t, i, items, n, c, d, _⟩ | ⟨x, l, st, rfl, _⟩
    · exact notImm_fields d c (by decide)
    · exact notImm_fields rfl rfl (by decide)

theorem ItRep.notMk {ι : List Addr} {h : Heap} {o : Obj} {i : It} (r : ItRep ι h o i) : ¬ Mk o := by
  cases i with
  | keys n ver len i => obtain ⟨l, g, _, c, d⟩ := r; exact notMk_fields d
  | seq n i => obtain ⟨l, g, c, d⟩ := r; exact notMk_fields d
  | vals vs =>
    rcases r with ⟨t, i, items, n, c, d, _⟩ | ⟨x, l, st, rfl, _⟩
    · exact notMk_fields d
    · exact notMk_fields rfl

theorem fits_small {a : Int} (h : smallI a) : Builtin.Range.rangeFitsLong a = true := by
  unfold smallI at h
  unfold Builtin.Range.rangeFitsLong
  simp only [Bool.and_eq_true, decide_eq_true_eq]
  omega
theorem rangeSize_eq {a b c : Int} (hc : 0 < c) : Builtin.Range.rangeSize a b c = (rangeLen a b c : Int) := by
  unfold Builtin.Range.rangeSize rangeLen
  rw [if_pos hc]
  split
  · have : 0 ≤ (b - a - 1) / c := Int.ediv_nonneg (by omega) (by omega)
    omega
  · rfl
theorem rangeLen_le {a b c : Int} (hc : 0 < c) (h : a < b) : (rangeLen a b c : Int) ≤ b - a := by
  unfold rangeLen
  rw [if_pos h]
  have h0 : 0 ≤ (b - a - 1) / c := Int.ediv_nonneg (by omega) (by omega)
  have h1 : (b - a - 1) / c ≤ b - a - 1 := Int.ediv_le_self _ (by omega)
  omega
theorem small_range {a b c : Int} (h : smallI a ∧ smallI b ∧ smallI c ∧ 0 < c) : Builtin.Range.small a b c = true := by
  obtain ⟨ha, hb, hc, h0⟩ := h
  unfold Builtin.Range.small
  rw [rangeSize_eq h0, fits_small ha, fits_small hb, fits_small hc, if_pos h0]
  have e1 : Builtin.Range.rangeFitsLong (rangeLen a b c : Int) = true := by
    unfold Builtin.Range.rangeFitsLong
    simp only [Bool.and_eq_true, decide_eq_true_eq]
    unfold smallI at ha hb
    by_cases h : a < b
    · have := rangeLen_le h0 h; omega
    · simp [rangeLen, h]
  have e2 : Builtin.Range.rangeFitsLong (b + (c - 1)) = true := by
    unfold smallI at hb hc
    unfold Builtin.Range.rangeFitsLong
    simp only [Bool.and_eq_true, decide_eq_true_eq]
    omega
  rw [e1, e2]; simp

inductive PostI (cx : Cx) (ι : List Addr) (ρ : Rho) (H : Tw.H) (s : Shared) (Q : It → Prop) (it : Value) (s' : Shared) : Prop
  | mk (a : Addr) (o : Obj) (i : It) (e : it = .ref a) (as : Aside cx a) (S : St (cx.keep a o) ι ρ H s') (M : Mono ι s ι s') (r : ItRep ι s'.heap o i) (q : Q i)
inductive PostX (cx : Cx) (ι : List Addr) (ρ : Rho) (H : Tw.H) (s : Shared) (it : Addr) (item : V → It → Prop) (x : Value) (s' : Shared) : Prop
  | mk (v : V) (i' : It) (o' : Obj) (q : item v i') (S : St (cx.keep it o') ι ρ H s') (M : Mono ι s ι s') (r : RepV ι s'.heap x v) (ri : ItRep ι s'.heap o' i')
/-- iter(x) -/
theorem iter_sound (S : St cx ι ρ H s) (ok : CxOk cx) {x : Value} {v : V} {Q : It → Prop} (r : RepV ι s.heap x v) (h : IterW v H Q) :
    wpAny (model prog cx.w) A (pyIter x) (PostI cx ι ρ H s Q) E s := by
  have fin : ∀ (o : Obj) (i : It), o.isFreed = false → (∀ h', (∀ b ob, s.heap.get? b = some ob → h'.get? b = some ob) → ItRep ι h' o i) → Q i →
      PostI cx ι ρ H s Q (Value.ref s.heap.objs.size) { s with heap := s.heap.push o } := by
    intro o i hf hr hq
    have hk : ∀ b ob, s.heap.get? b = some ob → (s.heap.push o).get? b = some ob := fun _ _ e => Heap.get?_push_of_some _ e
    obtain ⟨as, hI⟩ := S.aside ok (Nat.le_refl _)
    exact ⟨_, o, i, rfl, as, (S.ext s.toks hk).keep (get?_fresh hf) hI, .ext (tk := s.toks) hk, hr _ hk, hq⟩
  cases v with
  | tup vs =>
    obtain ⟨a, n, vals, rfl, g, z, rv⟩ := r.tupI
    refine wpAny_pyIter_tuple (isTuple_of g) ?_
    exact fin _ (.vals vs) rfl (fun h' hk => .inl ⟨a, 0, vals, n, rfl, rfl, hk _ _ g, Nat.zero_le _, by simpa using rv.mono (List.prefix_refl _) (.of_ext hk)⟩) h
  | rng x y z =>
    obtain ⟨a, t, u, v, rfl, g, hs⟩ := r.rngI
    refine wpAny_pyIter_range g (small_range hs) ?_
    refine fin _ (.vals (rangeV x y z)) rfl (fun h' hk => .inr ⟨x, _, z, rfl, by rw [rangeSize_eq hs.2.2.2]; omega, ?_⟩) h
    rw [rangeSize_eq hs.2.2.2]; simp [rangeV]
  | ref n =>
    obtain ⟨a, rfl, gi⟩ := r.refI
    obtain ⟨o, hH, _⟩ := S.obj gi
    unfold IterW at h
    dsimp only at h
    rw [hH] at h
    cases o with
    | list vs =>
      obtain ⟨vals, m, g, rv, _⟩ := S.objOf gi hH
      refine wpAny_pyIter_list (isList_of g) ?_
      exact fin _ (.seq n 0) rfl (fun h' hk => ⟨a, gi, rfl, rfl⟩) h
    | dict es ep =>
      obtain ⟨ents, D⟩ := S.dict gi hH
      have lo := S.notMods gi
      refine iter_raw lo D.get ?_
      have e : ents.size = es.length := by rw [← Array.length_toList, D.rep.length]
      rw [e]
      exact fin _ (.keys n ep es.length 0) rfl (fun h' hk => ⟨a, gi, lo, rfl, rfl⟩) h
    | frz vs => exact h.elim
  | _ => exact h.elim

/-- next(it) -/
theorem next_sound {it : Addr} {o : Obj} (S : St (cx.keep it o) ι ρ H s) (as : Aside cx it) (hh : A.handled = none) {i : It} {stop : Prop} {item : V → It → Prop} (r : ItRep ι s.heap o i) (h : NextW i H stop item) :
    wpAny (model prog cx.w) A (pyNext (.ref it)) (fun v s' => match v with
      | none => stop ∧ St cx ι ρ H s' ∧ Mono ι s ι s'
      | some x => PostX cx ι ρ H s it item x s') E s := by
  have g := S.kept r.notMk
  have hI := S.keptI
  have hno : ∀ ob, s.heap.get? it = some ob → ¬ isImm ob := fun ob e => by rw [g] at e; cases e; exact r.notImm
  have done : stop → ∀ h', Heap.ExtBut it s.heap h' → stop ∧ St cx ι ρ H { s with heap := h' } ∧ Mono ι s ι { s with heap := h' } := fun hs h' hk =>
    ⟨hs, S.unkeep.but as hI s.toks hk hno⟩
  have more : ∀ {x : Value} {v : V} {i' : It} {o' : Obj} {h' : Heap} (tk : Nat), item v i' → Heap.ExtBut it s.heap h' → h'.get? it = some o' → (Imm s.heap h' → RepV ι h' x v ∧ ItRep ι h' o' i') →
      PostX cx ι ρ H s it item x { s with heap := h', toks := tk } := by
    intro x v i' o' h' tk hq hk g' hr
    obtain ⟨S', M⟩ := S.unkeep.but as hI tk hk hno
    exact ⟨v, i', o', hq, S'.keep g' hI, M, (hr M.imm).1, (hr M.imm).2⟩
  cases i with
  | keys n ver len i =>
    obtain ⟨l, gi, lo, c, d⟩ := r
    obtain ⟨ob, hH, _⟩ := S.obj gi
    unfold NextW at h
    dsimp only at h
    rw [hH] at h
    cases ob with
    | list vs => exact h.elim
    | frz vs => exact h.elim
    | dict es ep =>
      obtain ⟨rfl, rfl, h⟩ := h
      obtain ⟨ents, D⟩ := S.dict gi hH
      have e : ents.size = es.length := by rw [← Array.length_toList, D.rep.length]
      have hit : s.heap.IsKeyIter it l i ents.size ep := ⟨o, g, c, by rw [d, e]⟩
      refine next_raw hh hit D.get (fun en hx h' hit' hs' => ?_) fun hx h' hk => ?_
      · have hx' : ents.toList[i]? = some en := by simpa using hx
        have hil : i < es.length := by rw [← e]; exact (Array.getElem?_eq_some_iff.mp hx).1
        rw [List.getElem?_eq_getElem hil] at h
        obtain ⟨en', he', _, rk, _, _⟩ := D.rep.get' (List.getElem?_eq_getElem hil)
        rw [hx'] at he'; cases he'
        obtain ⟨o', g', c', d'⟩ := hit'
        exact more s.toks h hs'.extBut g' fun imm => ⟨rk.mono (List.prefix_refl _) imm, l, gi, lo, c', by rw [d', e]⟩
      · have hil : es.length ≤ i := by rw [← e]; exact Array.getElem?_eq_none_iff.mp hx
        rw [List.getElem?_eq_none hil] at h
        exact done h h' hk
  | seq n i =>
    obtain ⟨l, gi, c, d⟩ := r
    obtain ⟨ob, hH, _⟩ := S.obj gi
    unfold NextW at h
    dsimp only at h
    rw [hH] at h
    cases ob with
    | dict es ep => exact h.elim
    | frz vs => exact h.elim
    | list vs =>
      dsimp only at h
      obtain ⟨vals, m, gl, rv, _⟩ := S.objOf gi hH
      have hit : s.heap.IsListIter it l i := ⟨o, g, c, d⟩
      cases hv : vs[i]? with
      | none =>
        rw [hv] at h
        refine wpAny_pyNext_list_end hh hit (isList_of gl) ?_ (done h)
        have : vals.size = vs.length := by rw [← Array.length_toList, rv.length]
        have := List.getElem?_eq_none_iff.mp hv
        exact Array.getElem?_eq_none (by omega)
      | some v =>
        rw [hv] at h
        obtain ⟨x, hx, rx⟩ := rv.get hv
        refine wpAny_pyNext_list_item hit (isList_of gl) (by simpa using hx) fun h' hit' hs' => ?_
        obtain ⟨o', g', c', d'⟩ := hit'
        exact more s.toks h hs'.extBut g' fun imm => ⟨rx.mono (List.prefix_refl _) imm, l, gi, c', d'⟩
  | vals vs =>
    rcases r with ⟨t, i, items, n, c, d, gt, le, rv⟩ | ⟨x, left, step, rfl, h0, rfl⟩
    · have hit : s.heap.IsTupleIter it t i := ⟨o, g, c, d⟩
      cases vs with
      | nil =>
        have hlen := rv.length
        simp at hlen
        refine wpAny_pyNext_tuple_end hh hit (isTuple_of gt) (Array.getElem?_eq_none (by omega)) (done h)
      | cons v vs =>
        have hlt : i < items.size := by have := rv.length; simp at this; omega
        have ed : items.toList.drop i = items[i] :: items.toList.drop (i + 1) := by
          rw [List.drop_eq_getElem_cons (by simpa using hlt)]; simp
        rw [ed] at rv
        cases rv with
        | cons rx rvs =>
          refine wpAny_pyNext_tuple_item hit (isTuple_of gt) (Array.getElem?_eq_getElem hlt) fun h' hit' hs' => ?_
          obtain ⟨o', g', c', d'⟩ := hit'
          exact more s.toks h hs'.extBut g' fun imm => ⟨rx.mono (List.prefix_refl _) imm, .inl ⟨t, i + 1, items, n, c', d', imm _ _ gt (.inl ⟨rfl, _, _, rfl⟩), hlt, rvs.mono (List.prefix_refl _) imm⟩⟩
    · by_cases hl : 0 < left
      · have e : left.toNat = (left - 1).toNat + 1 := by omega
        rw [e] at h
        refine wpAny_pyNext_range_item g hl fun h' hit' hs' => ?_
        exact more (s.toks + 1) h hs'.extBut hit' fun imm => ⟨.int _ _, .inr ⟨x + step, left - 1, step, rfl, by omega, rfl⟩⟩
      · have e : left.toNat = 0 := by omega
        rw [e] at h
        exact wpAny_pyNext_range_end hh g (by omega) (done h)

theorem owned_go {it : Addr} {o : Obj} {i : It} (S : St (cx.keep it o) ι ρ H s) (r : ItRep ι s.heap o i) {target : Expr} {v : Value} {Q : Unit → Shared → Prop} (q : Q () s) :
    wpAny (model prog cx.w) A (letOwnedTupleGo target (.ref it) v) Q E s := by
  have g := S.kept r.notMk
  have key : ∀ {T : String} {vs : Array Value}, o.cls = .type T → o.data = .fields vs → (["enumerate", "zip", "dict_itemiterator", "dict_reverseitemiterator", "odict_iterator", "itertools.zip_longest", "itertools.pairwise"].contains T) = false →
      ∀ a : Addr, wpAny (model prog cx.w) A (do
        let o ← load it
        match o.cls, o.data with
        | .type n, .fields vs =>
          if ["enumerate", "zip", "dict_itemiterator", "dict_reverseitemiterator", "odict_iterator", "itertools.zip_longest", "itertools.pairwise"].contains n && vs[0]? == some (rawInt a) then
            rule "for.unpacks-the-owned-tuple"
            updateField it 0 .none
        | _, _ => pure ()) Q E s := by
    intro T vs c d hT a
    refine wpAny_bind (wpAny_load g ?_)
    rw [c, d]
    dsimp only
    rw [hT, Bool.false_and]
    exact wpAny_pure q
  have key' : ∀ a : Addr, wpAny (model prog cx.w) A (do
        let o ← load it
        match o.cls, o.data with
        | .type n, .fields vs =>
          if ["enumerate", "zip", "dict_itemiterator", "dict_reverseitemiterator", "odict_iterator", "itertools.zip_longest", "itertools.pairwise"].contains n && vs[0]? == some (rawInt a) then
            rule "for.unpacks-the-owned-tuple"
            updateField it 0 .none
        | _, _ => pure ()) Q E s := by
    cases i with
    | keys n ver len i => obtain ⟨l, gi, _, c, d⟩ := r; exact key c d (by decide)
    | seq n i => obtain ⟨l, gi, c, d⟩ := r; exact key c d (by decide)
    | vals vs =>
      rcases r with ⟨t, i, items, n, c, d, _⟩ | ⟨x, l, st, rfl, _⟩
      · exact key c d (by decide)
      · exact key rfl rfl (by decide)
  cases target with
  | Tuple es k pos =>
    cases v with
    | ref a => exact key' a
    | _ => exact wpAny_pure q
  | List es pos =>
    cases v with
    | ref a => exact key' a
    | _ => exact wpAny_pure q
  | _ => exact wpAny_pure q
end
end Tw
end

section
namespace Tw
open PySem PySem.SeqAt

/-! a list made of a dict's keys -/
section
variable {s : Shared} {A : Around} {prog : Program} {w : World} {E : Value → Shared → Prop}

theorem rawKeys (hh : A.handled = none) (I d : Addr) (hne : d ≠ I) (ents : Array DictEntry) (ep : Nat) :
    Walks prog w A I [I, d] [I] ents.size (fun i v => ∃ e, ents[i]? = some e ∧ v = e.key) (fun i h => h.IsKeyIter I d i ents.size ep ∧ h.get? d = some { cls := .type "dict", data := .dict ents ep }) where
  sub := fun b hb => by simp at hb; simp [hb]
  frame := fun _ _ _ st hk => ⟨st.1.at fun o e => hk I (by simp) o e, hk d (by simp) _ st.2⟩
  item := fun i s Q E hi st hQ => next_raw hh st.1 st.2 (fun e hx h' hit' hs' => hQ e.key h' s.toks ⟨e, hx, rfl⟩ ⟨hit', hs'.extBut d _ hne st.2⟩ fun b o hb e => hs'.extBut b o (fun h => hb (by simp [h])) e)
    fun hx => absurd (Array.getElem?_eq_none_iff.mp hx) (Nat.not_le.mpr hi)
  done := fun s Q E st hQ => next_raw hh st.1 st.2 (fun e hx => absurd (Array.getElem?_eq_some_iff.mp hx).1 (Nat.lt_irrefl _)) fun hx h' he' => hQ h' s.toks fun b o hb e => he' b o (fun h => hb (by simp [h])) e
  self := fun _ _ _ _ st hQ => wpAny_pyIter_keyiter st.1 hQ

theorem room_dict {d : Addr} {Q : Bool → Shared → Prop} (hT : s.TypeIs (.ref d) "dict") (q : Q false s) : wpAny (model prog w) A (Builtin.List.listLengthHint (.ref d)) Q E s := by
  unfold Builtin.List.listLengthHint
  refine wpAny_bind (wpAny_specialOf hT F.slot_dict_len.lookup ?_)
  obtain ⟨id, hid⟩ : ∃ id : String, id = "dict.__len__" := ⟨_, rfl⟩
  have hsp : splitId id = some ("dict", "__len__") := by rw [hid]; decide +kernel
  rw [← hid]
  dsimp only
  rw [hsp]
  dsimp only
  refine wpAny_bind (wpAny_isInstance (T := "dict") (b := true) hT (by rw [isSubtype_type]; kernel_rfl) ?_)
  rw [if_neg (show ¬ ((!true) = true) by decide)]
  refine wpAny_ite_split (fun _ => wpAny_bind (wpAny_typeOf hT (wpAny_pure q))) fun hab => ?_
  subst hid
  exact absurd (by decide +kernel) hab

theorem extend_keys {R : Result → Shared → Prop} {d S : Addr} {res : Value} {ents : Array DictEntry} {ep c₀ : Nat} (hh : A.handled = none) (lo : (d == sysModules) = false) (g : s.heap.get? d = some { cls := .type "dict", data := .dict ents ep }) (hn : ents.size ≤ sizeLine)
    (hS : s.heap.get? S = some { cls := .type "list", data := .seq #[] c₀ })
    (q : ∀ (h' : Heap) (tk c' : Nat), (∀ b o, b ≠ S → s.heap.get? b = some o → h'.get? b = some o) → h'.get? S = some { cls := .type "list", data := .seq (ents.map (·.key)) c' } → R (.ok (.ret res)) { s with heap := h', toks := tk }) :
    wpAny (model prog w) A.in1 (Builtin.List.listExtendWith (.ref S) (.ref d) res)
      (fun fin s' => match fin with | .done f => R (.ok f) s' | .again c' => c'.quiet = true ∧ codeAny (model prog w) A c' R s') (fun e s' => R (.error e) s') s := by
  have hdS : d ≠ S := fun e => by rw [e, hS] at g; simp at g
  have hT : s.TypeIs (.ref d) "dict" := ⟨_, g, rfl⟩
  unfold Builtin.List.listExtendWith
  refine wpAny_bind (wpAny_typeOf hT ?_)
  rw [if_neg (by
    have : Builtin.List.listSameRef (.ref S) (.ref d) = false := by simp [Builtin.List.listSameRef, Ne.symm hdS]
    rw [this]; decide)]
  refine wpAny_bind (iter_raw lo g ?_)
  generalize hI : s.heap.objs.size = I at *
  have hSI : S ≠ I := by rw [← hI]; exact Nat.ne_of_lt (Heap.lt_size hS)
  have hdI : d ≠ I := by rw [← hI]; exact Nat.ne_of_lt (Heap.lt_size g)
  have st2 : (s.heap.push { cls := .type "dict_keyiterator", data := .fields #[.ref d, .int 0 0, .int ents.size 0, .int ep 0] }).IsKeyIter I d 0 ents.size ep := ⟨_, by rw [← hI]; exact Heap.get?_push_size _ rfl, rfl, rfl⟩
  have k2 : ∀ b o, s.heap.get? b = some o → (s.heap.push { cls := .type "dict_keyiterator", data := .fields #[.ref d, .int 0 0, .int ents.size 0, .int ep 0] }).get? b = some o := fun b o e => Heap.get?_push_of_some _ e
  have oldI : ∀ b o, s.heap.get? b = some o → b ≠ I := fun b o e => by rw [← hI]; exact Nat.ne_of_lt (Heap.lt_size e)
  generalize s.heap.push { cls := .type "dict_keyiterator", data := .fields #[.ref d, .int 0 0, .int ents.size 0, .int ep 0] } = h2 at *
  have W := (rawKeys (prog := prog) (w := w) (A := A.in1) hh I d hdI ents ep).toS
  have hSf : S ∉ [I, d] := by
    intro hmem
    rcases List.mem_cons.mp hmem with e | hmem
    · exact hSI e
    · exact hdS (List.mem_singleton.mp hmem).symm
  have loop : ∀ (h3 : Heap) (c : Nat), h3.get? S = some { cls := .type "list", data := .seq #[] c } → (∀ b o, b ≠ S → h2.get? b = some o → h3.get? b = some o) →
      codeAny (model prog w) A (.builtin "list.extend.loop" ⟨[.ref S, .ref I, res], []⟩) R { s with heap := h3 } := by
    intro h3 c g3 k3
    refine codeAny_extend_loopS W hn S hSf res ents.size 0 _ #[] c rfl (Nat.zero_le _) ⟨st2.at fun o e => k3 I o (Ne.symm hSI) e, k3 d _ hdS (k2 _ _ g)⟩ g3 (ItemsOf.nil _) fun s' acc' c' hmv g' hacc => ?_
    have e : acc' = ents.map (·.key) := by
      apply Array.ext
      · rw [hacc.1, Array.size_map]
      · intro i h1 h2
        obtain ⟨e, he, hv⟩ := hacc.2 i acc'[i] (Array.getElem?_eq_getElem h1)
        rw [hv]
        obtain ⟨h4, h5⟩ := Array.getElem?_eq_some_iff.mp he
        rw [Array.getElem_map, h5]
    subst e
    rw [Moved.eq_with hmv]
    refine q s'.heap s'.toks c' (fun b o hb e => hmv.heap b o (fun hm => ?_) (k3 b o hb (k2 b o e))) g'
    rcases List.mem_cons.mp hm with e' | hm
    · exact hb e'
    · exact oldI b o e (List.mem_singleton.mp hm)
  refine wpAny_bind (wpAny_holding (room_dict (s := { s with heap := h2 }) ⟨_, k2 _ _ g, rfl⟩ ?_))
  have g2 := k2 _ _ hS
  refine wpAny_ite_split (fun _ => ?_) fun _ => wpAny_pure ⟨plainId_quiet F.plain_extend_loop _, loop _ _ g2 fun b o _ e => e⟩
  refine wpAny_bind (wpAny_rule (wpAny_bind ?_))
  show wpAny _ _ (updateSeq S (·.push .none) >>= fun _ => updateSeq S (·.pop)) _ _ _
  refine wpAny_bind (wpAny_updateSeq g2 rfl ?_)
  have g3 := Heap.get?_update_self (Obj.mapSeq (·.push Value.none)) g2 rfl
  refine wpAny_updateSeq (hz := by seq_fits) g3 rfl ?_
  have g4 := Heap.get?_update_self (Obj.mapSeq (·.pop)) g3 rfl
  exact wpAny_pure ⟨plainId_quiet F.plain_extend_loop _, loop _ _ g4 fun b o hb e => (Heap.get?_update_other _ _ (Ne.symm hb)).trans ((Heap.get?_update_other _ _ (Ne.symm hb)).trans e)⟩

/-- the items of what sorted goes through -/
theorem collect_raw {d : Addr} {ents : Array DictEntry} {ep : Nat} {R : List Value → Shared → Prop} (hh : A.handled = none) (lo : (d == sysModules) = false) (g : s.heap.get? d = some { cls := .type "dict", data := .dict ents ep }) (hn : ents.size ≤ sizeLine)
    (q : ∀ (h' : Heap) (tk : Nat), (∀ b o, s.heap.get? b = some o → h'.get? b = some o) → s.heap.objs.size < h'.objs.size → R (ents.toList.map (·.key)) { s with heap := h', toks := tk }) : wpAny (model prog w) A (collect (.ref d)) R E s := by
  unfold collect
  refine wpAny_bind (wpAny_runValue (codeAny_builtin F.entry_proto_collect ?_))
  rw [Around.under_plainId F.plain_proto_collect _]
  show wpAny _ A.in1 (newList [] >>= fun l => again (.builtin "list.__iadd__" ⟨[l, .ref d], []⟩)) _ _ s
  refine wpAny_bind (wpAny_newObj_type (wpAny_pure ⟨plainId_quiet F.plain_list_iadd _, codeAny_builtin F.entry_list_iadd ?_⟩))
  rw [Around.under_plainId F.plain_list_iadd _]
  have g1 : (s.heap.push { cls := .type "list", data := .seq ([] : List Value).toArray }).get? s.heap.objs.size = some { cls := .type "list", data := .seq #[] } := Heap.get?_push_size _ rfl
  show wpAny _ A.in1 (Builtin.List.listExtendWith (.ref s.heap.objs.size) (.ref d) (.ref s.heap.objs.size)) _ _ { s with heap := s.heap.push { cls := .type "list", data := .seq ([] : List Value).toArray } }
  refine extend_keys (s := { s with heap := s.heap.push { cls := .type "list", data := .seq ([] : List Value).toArray } }) (R := fun r s' => match r with
    | .ok (.ret v) => wpAny (model prog w) A (match v with
      | .ref a => do
        let o ← load a
        match o.data with
        | .seq xs _ => pure xs.toList
        | _ => unsupported "internal:collect"
      | _ => unsupported "internal:collect") R E s'
    | .ok _ => False
    | .error e => E e s') hh lo (Heap.get?_push_of_some _ g) hn g1 fun h' tk c' hk g' => ?_
  show wpAny _ A (load s.heap.objs.size >>= _) _ _ _
  refine wpAny_bind (wpAny_load g' (wpAny_pure ?_))
  have := q h' tk (fun b o e => hk b o (Nat.ne_of_lt (Heap.lt_size e)) (Heap.get?_push_of_some _ e)) (Heap.lt_size g')
  simpa using this

theorem call_list_dict {Q : Value → Shared → Prop} {d : Addr} {ents : Array DictEntry} {ep : Nat} (hh : A.handled = none) (lo : (d == sysModules) = false) (g : s.heap.get? d = some { cls := .type "dict", data := .dict ents ep }) (hn : ents.size ≤ sizeLine)
    (q : ∀ h' tk c', (∀ b o, s.heap.get? b = some o → h'.get? b = some o) → h'.get? s.heap.objs.size = some { cls := .type "list", data := .seq (ents.map (·.key)) c' } → Q (.ref s.heap.objs.size) { s with heap := h', toks := tk }) :
    wpAny (model prog w) A (call (.type "list") [.ref d]) Q E s := by
  refine callType_codes (Q₁ := fun obj s₁ => obj = .ref s.heap.objs.size ∧ s₁ = { s with heap := s.heap.push { cls := .type "list", data := .seq #[] } }) F.called_list (F.typeCall_list_1 _) F.entry_list_init
    (code_list_new _ ⟨rfl, rfl⟩) fun obj s₁ h₁ => ?_
  obtain ⟨rfl, rfl⟩ := h₁
  have hS : (s.heap.push { cls := .type "list", data := .seq #[] }).get? s.heap.objs.size = some { cls := .type "list", data := .seq #[] } := Heap.get?_push_size _ rfl
  refine ⟨⟨_, hS, rfl⟩, F.args_list_init_2 _ _, ?_⟩
  have g1 := Heap.get?_push_of_some { cls := .type "list", data := .seq #[] } g
  have old : ∀ b o, s.heap.get? b = some o → b ≠ s.heap.objs.size := fun b o e => Nat.ne_of_lt (Heap.lt_size e)
  have k1 : ∀ b o, s.heap.get? b = some o → (s.heap.push { cls := .type "list", data := .seq #[] }).get? b = some o := fun b o e => Heap.get?_push_of_some _ e
  have hdS := old _ _ g
  generalize s.heap.push { cls := .type "list", data := .seq #[] } = h1 at *
  generalize s.heap.objs.size = S at *
  show wpAny _ A.in1.in1 (do let old ← Builtin.List.listItems (.ref S); Builtin.List.listUpdate (.ref S) (fun _ => #[]); letGo old.toList.reverse; Builtin.List.listExtendWith (.ref S) (.ref d) .none) _ _ _
  refine wpAny_bind ?_
  unfold Builtin.List.listItems
  refine wpAny_bind (wpAny_seqItems hS rfl (wpAny_pure ?_))
  show wpAny _ _ (updateSeq S (fun _ => #[]) >>= fun _ => letGo (#[] : Array Value).toList.reverse >>= fun _ => Builtin.List.listExtendWith (.ref S) (.ref d) .none) _ _ _
  refine wpAny_bind (wpAny_updateSeq hS rfl (wpAny_bind (wpAny_letGo ?_)))
  have hS₂ := Heap.get?_update_self (Obj.mapSeq (fun _ => (#[] : Array Value))) hS rfl
  have oth : ∀ b o, b ≠ S → h1.get? b = some o → (h1.update S (Obj.mapSeq (fun _ => (#[] : Array Value)))).get? b = some o := fun b o hb e => (Heap.get?_update_other _ _ (Ne.symm hb)).trans e
  refine extend_keys (A := A.in1) hh lo (oth d _ hdS g1) hn hS₂ fun h' tk c' hk g' => ⟨rfl, q h' tk c' (fun b o e => hk b o (old b o e) (oth b o (old b o e) (k1 b o e))) g'⟩
theorem keys_reps {ι : List Addr} {h : Heap} {ents : List DictEntry} {es : List (V × V)} (r : RepEs w ι h ents es) : RepVs ι h (ents.map (·.key)) (es.map (·.1)) := by
  induction r with
  | nil => exact .nil
  | cons _ rk _ _ _ ih => exact .cons rk ih
end
end Tw
end

section
namespace Tw
open PySem PySem.SeqAt

/-! one dict put into another -/
theorem dputs_app (es a b : List (V × V)) : dputs es (a ++ b) = dputs (dputs es a) b := by
  induction a generalizing es with
  | nil => rfl
  | cons p r ih => obtain ⟨k, v⟩ := p; exact ih _
theorem dput_lenM (es : List (V × V)) (k v : V) : (dput es k v).length ≤ es.length + 1 := by
  unfold dput
  split
  · rw [List.length_map]; omega
  · rw [List.length_append]; exact Nat.le_refl _
theorem dputs_len (es a : List (V × V)) : (dputs es a).length ≤ es.length + a.length := by
  induction a generalizing es with
  | nil => exact Nat.le_refl _
  | cons p r ih =>
    obtain ⟨k, v⟩ := p
    have h1 := ih (dput es k v)
    have h2 := dput_lenM es k v
    rw [List.length_cons]
    exact Nat.le_trans h1 (by omega)
theorem dputs_take {es a : List (V × V)} {i : Nat} {k v : V} (h : a[i]? = some (k, v)) : dputs es (a.take (i + 1)) = dput (dputs es (a.take i)) k v := by
  rw [List.take_add_one, h, dputs_app]; rfl

section
variable {cx : Cx} {ι : List Addr} {ρ : Rho} {H : H} {s : Shared} {A : Around} {prog : Program} {E : Value → Shared → Prop}

end
end Tw
end

section
namespace Tw
open PySem PySem.SeqAt
end Tw
end

section
namespace Tw
open PySem PySem.SeqAt
section
variable {cx : Cx} {ι : List Addr} {ρ : Rho} {H : H} {s : Shared} {A : Around} {prog : Program} {E : Value → Shared → Prop}
theorem starts_pre (x y : Str) : Txt.startswith x y = decide (y.cps.toList <+: x.cps.toList) := by
  unfold Txt.startswith
  rw [StrLaws.subAt_eq, List.drop_zero, Bool.eq_iff_iff, Bool.and_eq_true, decide_eq_true_eq, decide_eq_true_eq, beq_iff_eq]
  constructor
  · rintro ⟨_, h⟩
    rw [← h]; exact List.take_prefix _ _
  · intro h
    have hl := h.length_le
    rw [Array.length_toList, Array.length_toList] at hl
    refine ⟨by rw [Nat.zero_add]; exact hl, ?_⟩
    have := List.prefix_iff_eq_take.mp h
    rw [Array.length_toList] at this
    exact this.symm
end
end Tw
end

section
namespace Tw
open PySem PySem.W PyProof.Rows
/-! the tree of comparisons sorts pairs -/
noncomputable instance (a b : Nat × Nat) : Decidable (pairLt a b) := inferInstanceAs (Decidable (a.1 < b.1 ∨ (a.1 = b.1 ∧ a.2 < b.2)))
section
variable {n : Nat} {key : Nat → Nat × Nat} {cmp : Nat → Nat → (Bool → Shared → Prop) → Shared → Prop} {s : Shared}
noncomputable def KpS (key : Nat → Nat × Nat) (p : Array Nat) (i : Nat) : Nat × Nat := key (p[i]?.getD 0)
structure Okp (n : Nat) (p : Array Nat) : Prop where
  perm : p.Perm (List.toArray (List.range n))
theorem Okp.size {p : Array Nat} (h : Okp n p) : p.size = n := by rw [h.perm.size_eq]; simp
theorem Okp.lt {p : Array Nat} (h : Okp n p) {i : Nat} (hi : i < n) : p.getD i 0 < n := by
  have hs := h.size
  have e : p.getD i 0 = p[i] := by simp [Array.getD, hs, hi]
  rw [e]
  have : p[i] ∈ p.toList := by simp
  have := (List.Perm.mem_iff (Array.perm_iff_toList_perm.mp h.perm)).mp this
  simpa using this
theorem getD_K (p : Array Nat) (i : Nat) : key (p.getD i 0) = KpS key p i := by unfold KpS; rw [Array.getD_eq_getD_getElem?]
noncomputable def Srt (key : Nat → Nat × Nat) (p : Array Nat) (m : Nat) : Prop := ∀ i j, i ≤ j → j < m → ¬ pairLt (KpS key p j) (KpS key p i)
noncomputable def Nin (key : Nat → Nat × Nat) (p : Array Nat) (m : Nat) : Prop := ∀ i j, i ≤ j → j < m → ¬ pairLt (KpS key p i) (KpS key p j)
noncomputable def Eqs (key : Nat → Nat × Nat) (p : Array Nat) (m q : Nat) : Prop := q + 1 ≤ m ∧ ∀ i, m - (q + 1) ≤ i → i < m → KpS key p i = KpS key p (m - 1)
theorem ple {a b c : Nat × Nat} (h1 : ¬ pairLt b a) (h2 : ¬ pairLt c b) : ¬ pairLt c a := fun h => by
  rcases h with h | ⟨e, h⟩
  · rcases Nat.lt_or_ge b.1 a.1 with k | k
    · exact h1 (.inl k)
    · exact h2 (.inl (Nat.lt_of_lt_of_le h k))
  · rcases Nat.lt_or_ge b.1 a.1 with k | k
    · exact h1 (.inl k)
    · rcases Nat.lt_or_eq_of_le k with k | k
      · exact h2 (.inl (by rw [e]; exact k))
      · rcases Nat.lt_or_ge b.2 a.2 with j | j
        · exact h1 (.inr ⟨k.symm, j⟩)
        · exact h2 (.inr ⟨e.trans k, Nat.lt_of_lt_of_le h j⟩)
theorem plt {a b c : Nat × Nat} (h1 : pairLt a b) (h2 : ¬ pairLt c b) : pairLt a c := Classical.byContradiction fun hn => ple h2 hn h1
theorem pir (a : Nat × Nat) : ¬ pairLt a a := fun h => h.elim (Nat.lt_irrefl _) fun h => Nat.lt_irrefl _ h.2
theorem pas {a b : Nat × Nat} (h1 : pairLt a b) : ¬ pairLt b a := fun h2 => by
  rcases h1 with h1 | ⟨e, h1⟩ <;> rcases h2 with h2 | ⟨e', h2⟩
  · exact Nat.lt_asymm h1 h2
  · rw [e'] at h1; exact Nat.lt_irrefl _ h1
  · rw [e] at h2; exact Nat.lt_irrefl _ h2
  · exact Nat.lt_asymm h1 h2
theorem peq {a b : Nat × Nat} (h1 : ¬ pairLt a b) (h2 : ¬ pairLt b a) : a = b := by
  have e : a.1 = b.1 := Nat.le_antisymm (Nat.not_lt.mp fun k => h2 (.inl k)) (Nat.not_lt.mp fun k => h1 (.inl k))
  exact Prod.ext e (Nat.le_antisymm (Nat.not_lt.mp fun k => h2 (.inr ⟨e.symm, k⟩)) (Nat.not_lt.mp fun k => h1 (.inr ⟨e, k⟩)))
theorem K_rev {p : Array Nat} {a b : Nat} (hb : b ≤ p.size) (k : Nat) : KpS key (kas_rev p a b) k = if a ≤ k ∧ k < b then KpS key p (a + b - 1 - k) else KpS key p k := by
  unfold KpS kas_rev
  rw [getElem?_mirror_all hb k]
  split <;> rfl
theorem K_bub {p : Array Nat} {k l : Nat} (hk : k < p.size) (hl : l ≤ k) (i : Nat) : KpS key (bubble p k (k - l)) i = if i = l then KpS key p k else if l < i ∧ i ≤ k then KpS key p (i - 1) else KpS key p i := by
  unfold KpS
  rw [getElem?_bubble hk (k - l) (by omega) i, show k - (k - l) = l from by omega]
  split
  · rfl
  · split <;> rfl
theorem Okp.rev {p : Array Nat} (h : Okp n p) (a b : Nat) : Okp n (kas_rev p a b) := ⟨(mirror_perm _ _ _ _).trans h.perm⟩
theorem Okp.bub {p : Array Nat} (h : Okp n p) (a b : Nat) : Okp n (bubble p a b) := ⟨(bubble_perm _ _ _).trans h.perm⟩
theorem mid_ok {l r : Nat} (h : ¬ l ≥ r) : l ≤ (l + r) / 2 ∧ (l + r) / 2 < r := by omega
theorem fuel1 {l r f m : Nat} (h3 : r - l ≤ f + 1) (m2 : m < r) : m - l ≤ f := by omega
theorem fuel2 {l r f m : Nat} (h3 : r - l ≤ f + 1) (m1 : l ≤ m) : r - (m + 1) ≤ f := by omega
theorem Srt.more {p : Array Nat} {m : Nat} (h : Srt key p m) (h1 : 1 ≤ m) (hn : ¬ pairLt (KpS key p m) (KpS key p (m - 1))) : Srt key p (m + 1) := fun i j hij hj => by
  by_cases hjm : j = m
  · by_cases hi : i = m
    · rw [hjm, hi]; exact pir _
    · rw [hjm] at hij ⊢; exact ple (h i (m - 1) (Nat.le_sub_one_of_lt (Nat.lt_of_le_of_ne hij hi)) (Nat.sub_lt h1 Nat.one_pos)) hn
  · exact h i j hij (Nat.lt_of_le_of_ne (Nat.le_of_lt_succ hj) hjm)
theorem Nin.more {p : Array Nat} {m : Nat} (h : Nin key p m) (h1 : 1 ≤ m) (hn : ¬ pairLt (KpS key p (m - 1)) (KpS key p m)) : Nin key p (m + 1) := fun i j hij hj => by
  by_cases hjm : j = m
  · by_cases hi : i = m
    · rw [hjm, hi]; exact pir _
    · rw [hjm] at hij ⊢; exact ple hn (h i (m - 1) (Nat.le_sub_one_of_lt (Nat.lt_of_le_of_ne hij hi)) (Nat.sub_lt h1 Nat.one_pos))
  · exact h i j hij (Nat.lt_of_le_of_ne (Nat.le_of_lt_succ hj) hjm)
theorem K_run {p : Array Nat} {m q : Nat} (hm : m ≤ p.size) (he : Eqs key p m q) (k : Nat) : KpS key (kas_rev p (m - (q + 1)) m) k = KpS key p k := by
  rw [K_rev hm]
  split
  · rename_i h
    have := he.1
    rw [he.2 _ (by omega) (by omega), he.2 k (by omega) (by omega)]
  · rfl
theorem Nin.congr {p p' : Array Nat} {m : Nat} (h : Nin key p m) (e : ∀ k, KpS key p' k = KpS key p k) : Nin key p' m := fun i j a b => by rw [e, e]; exact h i j a b
variable (hcmp : ∀ i j C, i < n → j < n → C (decide (pairLt (key i) (key j))) s → cmp i j C s)
include hcmp
theorem ask_ok {α : Type} {p : Array Nat} (hp : Okp n p) {i j : Nat} (hi : i < n) (hj : j < n) {k : Bool → KasT α} {Q : α → Shared → Prop} (h : ∀ b, b = decide (pairLt (KpS key p i) (KpS key p j)) → (k b).kasWp cmp Q s) : (KasT.ask (p.getD i 0) (p.getD j 0) k).kasWp cmp Q s :=
  hcmp _ _ _ (hp.lt hi) (hp.lt hj) (h _ (by rw [getD_K (key := key), getD_K (key := key)]))
theorem asc_ok {p : Array Nat} (hp : Okp n p) {Q : Nat → Shared → Prop} : ∀ (f m : Nat), 1 ≤ m → m + f ≤ n → Srt key p m → (∀ m', m ≤ m' → m' ≤ m + f → Srt key p m' → (m' < m + f → pairLt (KpS key p m') (KpS key p (m' - 1))) → Q m' s) → (kas_asc p f m).kasWp cmp Q s
  | 0, m, _, _, hs, q => q m (Nat.le_refl _) (Nat.le_refl _) hs fun h => absurd h (Nat.lt_irrefl _)
  | f + 1, m, h1, hm, hs, q => by
    have hmn : m < n := Nat.lt_of_lt_of_le (Nat.lt_add_of_pos_right (Nat.succ_pos f)) hm
    refine ask_ok hcmp hp hmn (Nat.lt_of_le_of_lt (Nat.sub_le ..) hmn) fun b hb => ?_
    cases b with
    | true =>
      rw [if_pos rfl]
      exact q m (Nat.le_refl _) (Nat.le_add_right ..) hs fun _ => of_decide_eq_true hb.symm
    | false =>
      rw [if_neg Bool.false_ne_true]
      exact asc_ok hp f (m + 1) (Nat.le_add_left ..) (by rw [Nat.add_assoc, Nat.add_comm 1]; exact hm) (hs.more h1 (of_decide_eq_false hb.symm)) fun m' a b c d => q m' (Nat.le_of_succ_le a) (by rw [Nat.add_assoc, Nat.add_comm 1] at b; exact b) c fun h => d (by rw [Nat.add_assoc, Nat.add_comm 1]; exact h)
theorem desc_ok {Q : Array Nat × Nat × Nat → Shared → Prop} : ∀ (f : Nat) (p : Array Nat) (m q : Nat), Okp n p → 1 ≤ m → m + f ≤ n → Nin key p m → Eqs key p m q → (∀ p' m' q', Okp n p' → m ≤ m' → m' ≤ n → Nin key p' m' → Eqs key p' m' q' → Q (p', m', q') s) → (kas_desc f p m q).kasWp cmp Q s
  | 0, p, m, q, hp, _, hm, hn, he, x => x p m q hp (Nat.le_refl _) hm hn he
  | f + 1, p, m, q, hp, h1, hm, hn, he, x => by
    have hmn : m < n := Nat.lt_of_lt_of_le (Nat.lt_add_of_pos_right (Nat.succ_pos f)) hm
    have hm1 : m - 1 < n := Nat.lt_of_le_of_lt (Nat.sub_le ..) hmn
    have hmf : m + 1 + f ≤ n := by rw [Nat.add_assoc, Nat.add_comm 1]; exact hm
    have hms : m ≤ p.size := by rw [hp.size]; exact Nat.le_of_lt hmn
    refine ask_ok hcmp hp hmn hm1 fun b hb => ?_
    cases b with
    | true =>
      have hlt := of_decide_eq_true hb.symm
      have e0 : ∀ p', Eqs key p' (m + 1) 0 := fun p' => ⟨Nat.le_add_left .., fun i a b => by rw [show i = m + 1 - 1 from Nat.le_antisymm (Nat.le_sub_one_of_lt b) a]⟩
      rw [if_pos rfl]
      by_cases hq : q > 0
      · rw [if_pos hq]
        have e := K_run (p := p) hms he
        refine desc_ok f _ (m + 1) 0 (hp.rev _ _) (Nat.le_add_left ..) hmf ((hn.more h1 (pas hlt)).congr e) (e0 _) fun p' m' q' a b c d e => x p' m' q' a (Nat.le_of_succ_le b) c d e
      · rw [if_neg hq]
        exact desc_ok f p (m + 1) 0 hp (Nat.le_add_left ..) hmf (hn.more h1 (pas hlt)) (e0 _) fun p' m' q' a b c d e => x p' m' q' a (Nat.le_of_succ_le b) c d e
    | false =>
      have hnl := of_decide_eq_false hb.symm
      rw [if_neg Bool.false_ne_true]
      refine ask_ok hcmp hp hm1 hmn fun b hb => ?_
      cases b with
      | true =>
        rw [if_pos rfl]
        exact x p m q hp (Nat.le_refl _) (Nat.le_of_lt hmn) hn he
      | false =>
        have hnl2 := of_decide_eq_false hb.symm
        rw [if_neg Bool.false_ne_true]
        have ee := peq hnl hnl2
        refine desc_ok f p (m + 1) (q + 1) hp (Nat.le_add_left ..) hmf (hn.more h1 hnl2) ⟨Nat.succ_le_succ he.1, fun i a b => ?_⟩ fun p' m' q' a b c d e => x p' m' q' a (Nat.le_of_succ_le b) c d e
        rw [Nat.add_sub_cancel]
        by_cases him : i = m
        · rw [him]
        · rw [ee]; exact he.2 i (by rw [Nat.add_sub_add_right] at a; exact a) (Nat.lt_of_le_of_ne (Nat.le_of_lt_succ b) him)
theorem tail3_ok {p : Array Nat} (hp : Okp n p) {m : Nat} (h1 : 1 ≤ m) (hm : m ≤ n) (hn : Nin key p m) {Q : Nat × Array Nat → Shared → Prop} (x : ∀ p' m', Okp n p' → 1 ≤ m' → m' ≤ n → Srt key p' m' → Q (m', p') s) : (kas_tail3 m n p).kasWp cmp Q s := by
  unfold kas_tail3
  rw [KasT.kasWp_bind]
  have hs : m ≤ p.size := by rw [hp.size]; exact hm
  have hnm : m + (n - m) = n := Nat.add_sub_cancel' hm
  refine asc_ok hcmp (hp.rev 0 m) (n - m) m h1 (Nat.le_of_eq hnm) (fun i j hij hj => ?_) fun m' a b c _ => x _ m' (hp.rev 0 m) (Nat.le_trans h1 a) (by rw [hnm] at b; exact b) c
  rw [K_rev hs, K_rev hs, if_pos ⟨Nat.zero_le _, hj⟩, if_pos ⟨Nat.zero_le _, Nat.lt_of_le_of_lt hij hj⟩, Nat.zero_add]
  exact hn _ _ (Nat.sub_le_sub_left hij _) (Nat.lt_of_le_of_lt (Nat.sub_le ..) (Nat.sub_lt h1 Nat.one_pos))
theorem descPart_ok {p : Array Nat} (hp : Okp n p) {m : Nat} (h1 : 1 ≤ m) (hm : m + 1 ≤ n) (hn : Nin key p (m + 1)) {Q : Nat × Array Nat → Shared → Prop} (x : ∀ p' m', Okp n p' → 1 ≤ m' → m' ≤ n → Srt key p' m' → Q (m', p') s) : (kas_descPart m n p).kasWp cmp Q s := by
  unfold kas_descPart
  rw [KasT.kasWp_bind]
  refine desc_ok hcmp (n - (m + 1)) p (m + 1) 0 hp (Nat.le_add_left ..) (Nat.le_of_eq (Nat.add_sub_cancel' hm)) hn ⟨Nat.le_add_left .., fun i a b => by rw [show i = m + 1 - 1 from Nat.le_antisymm (Nat.le_sub_one_of_lt b) a]⟩ fun p' m' q' a b c d e => ?_
  dsimp only
  have hs : m' ≤ p'.size := by rw [a.size]; exact c
  have h1' : 1 ≤ m' := Nat.le_trans (Nat.le_add_left ..) b
  by_cases hq : q' > 0
  · rw [if_pos hq]
    exact tail3_ok hcmp (a.rev _ _) h1' c (d.congr (K_run hs e)) x
  · rw [if_neg hq]
    exact tail3_ok hcmp a h1' c d x
theorem count_ok (hn1 : 1 ≤ n) {p : Array Nat} (hp : Okp n p) {Q : Nat × Array Nat → Shared → Prop} (x : ∀ p' m', Okp n p' → 1 ≤ m' → m' ≤ n → Srt key p' m' → Q (m', p') s) : (kas_count n p).kasWp cmp Q s := by
  unfold kas_count
  rw [KasT.kasWp_bind]
  have hn' : 1 + (n - 1) = n := Nat.add_sub_cancel' hn1
  refine asc_ok hcmp hp (n - 1) 1 (Nat.le_refl _) (Nat.le_of_eq hn') (fun i j a b => by rw [show j = 0 from Nat.lt_one_iff.mp b, show i = 0 from Nat.le_zero.mp (Nat.le_trans a (Nat.le_of_lt_succ b))]; exact pir _) fun m a b c dlt => ?_
  rw [hn'] at b dlt
  by_cases hmn : m = n
  · rw [if_pos (beq_iff_eq.mpr hmn)]
    exact x p m hp a b c
  rw [if_neg (fun h => hmn (beq_iff_eq.mp h))]
  have hmlt : m < n := Nat.lt_of_le_of_ne b hmn
  have hlt := dlt hmlt
  have hm0 : m - 1 < m := Nat.sub_lt a Nat.one_pos
  have hms : m ≤ p.size := by rw [hp.size]; exact b
  by_cases hm1 : m > 1
  · rw [if_pos hm1]
    refine ask_ok hcmp hp (Nat.lt_of_lt_of_le Nat.one_pos hn1) (Nat.lt_trans hm0 hmlt) fun b' hb => ?_
    cases b' with
    | true => rw [if_pos rfl]; exact x p m hp a b c
    | false =>
      rw [if_neg Bool.false_ne_true]
      have hnl := of_decide_eq_false hb.symm
      have all : ∀ i, i < m → KpS key p i = KpS key p (m - 1) := fun i hi => peq (ple hnl (c 0 i (Nat.zero_le _) hi)) (c i (m - 1) (Nat.le_sub_one_of_lt hi) hm0)
      have e : ∀ k, KpS key (kas_rev p 0 m) k = KpS key p k := fun k => by
        rw [K_rev hms]
        split
        · rename_i hk
          rw [all _ (by rw [Nat.zero_add]; exact Nat.lt_of_le_of_lt (Nat.sub_le ..) hm0), all k hk.2]
        · rfl
      refine descPart_ok hcmp (hp.rev 0 m) a hmlt (fun i j hij hj => ?_) x
      rw [e, e]
      have hjm' := Nat.le_of_lt_succ hj
      by_cases hjm : j = m
      · by_cases him : i = m
        · rw [him, hjm]; exact pir _
        · rw [hjm, all i (Nat.lt_of_le_of_ne (Nat.le_trans hij hjm') him)]; exact pas hlt
      · have hjl : j < m := Nat.lt_of_le_of_ne hjm' hjm
        rw [all i (Nat.lt_of_le_of_lt hij hjl), all j hjl]; exact pir _
  · rw [if_neg hm1]
    have em : m = 1 := Nat.le_antisymm (Nat.not_lt.mp hm1) a
    refine descPart_ok hcmp hp a hmlt (fun i j hij hj => ?_) x
    by_cases hij' : i = j
    · rw [hij']; exact pir _
    · have hij2 : i < j := Nat.lt_of_le_of_ne hij hij'
      subst em
      have ej : j = 1 := Nat.le_antisymm (Nat.le_of_lt_succ hj) (Nat.lt_of_le_of_lt (Nat.zero_le _) hij2)
      subst ej
      rw [show i = 1 - 1 from Nat.lt_one_iff.mp hij2]; exact pas hlt
theorem place_ok {p : Array Nat} (hp : Okp n p) {k : Nat} (hk : k < n) (hs : Srt key p k) {Q : Nat → Shared → Prop} (x : ∀ l, l ≤ k → (∀ i, i < l → ¬ pairLt (KpS key p k) (KpS key p i)) → (∀ i, l ≤ i → i < k → pairLt (KpS key p k) (KpS key p i)) → Q l s) : ∀ (f l r : Nat), l ≤ r → r ≤ k → r - l ≤ f → (∀ i, i < l → ¬ pairLt (KpS key p k) (KpS key p i)) → (∀ i, r ≤ i → i < k → pairLt (KpS key p k) (KpS key p i)) → (kas_place p k f l r).kasWp cmp Q s
  | 0, l, r, h1, h2, h3, a, b => x l (Nat.le_trans h1 h2) a fun i hi hik => b i (Nat.le_trans (Nat.sub_eq_zero_iff_le.mp (Nat.le_zero.mp h3)) hi) hik
  | f + 1, l, r, h1, h2, h3, a, b => by
    unfold kas_place
    by_cases hlr : l ≥ r
    · rw [if_pos hlr]; exact x l (Nat.le_trans h1 h2) a fun i hi hik => b i (Nat.le_trans hlr hi) hik
    rw [if_neg hlr]
    obtain ⟨m1, m2⟩ := mid_ok hlr
    generalize (l + r) / 2 = m at m1 m2
    have m3 : m < k := Nat.lt_of_lt_of_le m2 h2
    refine ask_ok hcmp hp hk (Nat.lt_trans m3 hk) fun c hc => ?_
    cases c with
    | true =>
      rw [if_pos rfl]
      have hlt := of_decide_eq_true hc.symm
      exact place_ok hp hk hs x f l m m1 (Nat.le_of_lt m3) (fuel1 h3 m2) a fun i hi hik => plt hlt (hs _ _ hi hik)
    | false =>
      rw [if_neg Bool.false_ne_true]
      have hnl := of_decide_eq_false hc.symm
      exact place_ok hp hk hs x f (m + 1) r m2 h2 (fuel2 h3 m1) (fun i hi => ple (hs i m (Nat.le_of_lt_succ hi) m3) hnl) b
omit hcmp in
theorem ins_srt {K K' : Nat → Nat × Nat} {k l : Nat} (hl : l ≤ k) (e : ∀ i, K' i = if i = l then K k else if l < i ∧ i ≤ k then K (i - 1) else K i) (hs : ∀ i j, i ≤ j → j < k → ¬ pairLt (K j) (K i)) (a : ∀ i, i < l → ¬ pairLt (K k) (K i)) (b : ∀ i, l ≤ i → i < k → pairLt (K k) (K i)) : ∀ i j, i ≤ j → j < k + 1 → ¬ pairLt (K' j) (K' i) := fun i j hij hj => by
  have hjk := Nat.le_of_lt_succ hj
  have pl : ∀ {x : Nat}, l < x → x ≤ k → l ≤ x - 1 ∧ x - 1 < k := fun {x} h1 h2 => ⟨Nat.le_sub_one_of_lt h1, Nat.lt_of_lt_of_le (Nat.sub_lt (Nat.lt_of_le_of_lt (Nat.zero_le _) h1) Nat.one_pos) h2⟩
  have ei := e i
  have ej := e j
  rcases Nat.lt_or_ge i l with hi | hi
  · rw [if_neg (Nat.ne_of_lt hi), if_neg fun h => Nat.lt_asymm hi h.1] at ei
    rw [ei]
    by_cases hjl : j = l
    · rw [if_pos hjl] at ej; rw [ej]; exact a i hi
    · rw [if_neg hjl] at ej
      by_cases h2 : l < j ∧ j ≤ k
      · rw [if_pos h2] at ej
        rw [ej]
        exact hs _ _ (Nat.le_trans (Nat.le_of_lt hi) (pl h2.1 h2.2).1) (pl h2.1 h2.2).2
      · rw [if_neg h2] at ej
        rw [ej]
        have hjl2 : j < l := Nat.lt_of_le_of_ne (Nat.not_lt.mp fun h => h2 ⟨h, hjk⟩) hjl
        exact hs _ _ hij (Nat.lt_of_lt_of_le hjl2 hl)
  · by_cases hil : i = l
    · rw [if_pos hil] at ei
      rw [ei]
      by_cases hjl : j = l
      · rw [if_pos hjl] at ej; rw [ej]; exact pir _
      · have hlj : l < j := Nat.lt_of_le_of_ne (hil ▸ hij) (Ne.symm hjl)
        rw [if_neg hjl, if_pos ⟨hlj, hjk⟩] at ej
        rw [ej]
        exact pas (b (j - 1) (pl hlj hjk).1 (pl hlj hjk).2)
    · have hli : l < i := Nat.lt_of_le_of_ne hi (Ne.symm hil)
      have hlj : l < j := Nat.lt_of_lt_of_le hli hij
      rw [if_neg hil, if_pos ⟨hli, Nat.le_trans hij hjk⟩] at ei
      rw [if_neg (Nat.ne_of_gt hlj), if_pos ⟨hlj, hjk⟩] at ej
      rw [ei, ej]
      exact hs _ _ (Nat.sub_le_sub_right hij 1) (pl hlj hjk).2
theorem bin_ok {Q : Array Nat → Shared → Prop} (x : ∀ p, Okp n p → Srt key p n → Q p s) : ∀ (f : Nat) (p : Array Nat) (k : Nat), Okp n p → Srt key p k → k + f = n → (kas_bin f p k).kasWp cmp Q s
  | 0, p, k, hp, hs, e => x p hp (by rw [Nat.add_zero] at e; rw [← e]; exact hs)
  | f + 1, p, k, hp, hs, e => by
    unfold kas_bin
    rw [KasT.kasWp_bind]
    have hkn : k < n := Nat.lt_of_lt_of_eq (Nat.lt_add_of_pos_right (Nat.succ_pos f)) e
    refine place_ok hcmp hp hkn hs (fun l hl a b => ?_) k 0 k (Nat.zero_le _) (Nat.le_refl _) (Nat.le_refl _) (fun i hi => absurd hi (Nat.not_lt_zero _)) fun i hi hik => absurd hik (Nat.not_lt.mpr hi)
    exact bin_ok x f _ (k + 1) (hp.bub _ _) (ins_srt hl (K_bub (by rw [hp.size]; exact hkn) hl) hs a b) (by rw [Nat.add_assoc, Nat.add_comm 1]; exact e)
theorem tree_ok (hn1 : 1 ≤ n) {Q : Array Nat → Shared → Prop} (x : ∀ p, Okp n p → Srt key p n → Q p s) : (kas_sort n).kasWp cmp Q s := by
  unfold kas_sort
  rw [KasT.kasWp_bind]
  refine count_ok hcmp hn1 ⟨Array.Perm.refl _⟩ fun p m hp h1 hm hs => ?_
  dsimp only
  by_cases h : m < n
  · rw [if_pos h, Nat.max_eq_left h1]
    exact bin_ok hcmp x (n - m) p m hp hs (Nat.add_sub_cancel' hm)
  · rw [if_neg h]
    exact x p hp (by rw [Nat.le_antisymm (Nat.not_lt.mp h) hm]; exact hs)
end
end Tw
end

section
namespace Tw
open PySem PySem.SeqAt
section
variable {ι : List Addr} {s : Shared} {A : Around} {prog : Program} {w : World} {E : Value → Shared → Prop}
noncomputable def PrAt (h : Heap) (v : Value) (k : Nat × Nat) : Prop := ∃ a n t u, v = .ref a ∧ h.get? a = some { cls := .type "tuple", data := .seq #[.int k.1 t, .int k.2 u] n }
theorem pr_of {h : Heap} {x : Value} {k : Nat × Nat} (r : RepV ι h x (pairV k)) : PrAt h x k := by
  obtain ⟨a, n, vals, rfl, g, _, rv⟩ := r.tupI
  obtain ⟨x1, r1, e1, g1, rv⟩ := RepVs.consI rv
  obtain ⟨x2, r2, rfl, g2, rv⟩ := RepVs.consI rv
  obtain rfl := rv.nilI
  obtain ⟨t, rfl⟩ := g1.intI
  obtain ⟨u, rfl⟩ := g2.intI
  have : vals = #[.int k.1 t, .int k.2 u] := Array.toList_inj.mp e1
  subst this
  exact ⟨a, n, t, u, rfl, g⟩
theorem PrAt.keep {h h' : Heap} {x : Value} {k : Nat × Nat} (p : PrAt h x k) (hk : ∀ b o, h.get? b = some o → o.cls = .type "tuple" → h'.get? b = some o) : PrAt h' x k := by
  obtain ⟨a, n, t, u, e, g⟩ := p
  exact ⟨a, n, t, u, e, hk _ _ g rfl⟩
theorem lt_pairs {x y : Value} {a b : Nat × Nat} {Q : Bool → Shared → Prop} (hx : PrAt s.heap x a) (hy : PrAt s.heap y b) (q : Q (decide (pairLt a b)) s) : wpAny (model prog w) A (PyProof.Rows.keyLt' (PyProof.Rows.tuples' true) x y) Q E s := by
  obtain ⟨x, n, t, u, rfl, gx⟩ := hx
  obtain ⟨y, m, t', u', rfl, gy⟩ := hy
  refine PySem.W.kat_lt gx rfl gy rfl (PySem.W.kat_cons (wpAny_eqBool_int (PySem.W.kat_go (fun h1 => PySem.W.kat_yes (PySem.W.kat_cons (wpAny_eqBool_int (PySem.W.kat_go (fun h2 => PySem.W.kat_yes (PySem.W.kat_nil ?_)) fun h2 => PySem.W.kat_no (PySem.W.kat_one _ _ (PyProof.Rows.lt_int ?_)))))) fun h1 => PySem.W.kat_no (PyProof.Rows.oneLt_int ?_))))
  · have e1 : (a.1 : Int) = b.1 := beq_iff_eq.mp h1
    have e2 : (a.2 : Int) = b.2 := beq_iff_eq.mp h2
    have : decide (pairLt a b) = false := decide_eq_false (by unfold pairLt; omega)
    rw [this] at q; exact q
  · have e1 : (a.1 : Int) = b.1 := beq_iff_eq.mp h1
    have : decide (pairLt a b) = decide ((a.2 : Int) < b.2) := decide_eq_decide.mpr (by unfold pairLt; omega)
    rw [this] at q; exact q
  · have e1 : ¬ (a.1 : Int) = b.1 := fun h => by rw [beq_iff_eq.mpr h] at h1; cases h1
    have : decide (pairLt a b) = decide ((a.1 : Int) < b.1) := decide_eq_decide.mpr (by unfold pairLt; omega)
    rw [this] at q; exact q
theorem kat_tups {h : Heap} : ∀ {vs : List Value} {ks : List (Nat × Nat)}, vs.length = ks.length → (∀ (i : Nat) v k, vs[i]? = some v → ks[i]? = some k → PrAt h v k) → ∃ fs, PySem.W.KatTups h vs fs ∧ fs.length = vs.length ∧ ∀ f ∈ fs, ∃ i t, f = Value.int i t
  | [], [], _, _ => ⟨[], .nil, rfl, fun _ h => nomatch h⟩
  | v :: vs, k :: ks, hl, hp => by
    obtain ⟨a, n, t, u, rfl, g⟩ := hp 0 _ _ rfl rfl
    obtain ⟨fs, h1, h2, h3⟩ := kat_tups (vs := vs) (ks := ks) (by simpa using hl) fun i v k hv hk => hp (i + 1) v k (by simpa using hv) (by simpa using hk)
    refine ⟨.int k.1 t :: fs, .cons g rfl rfl rfl h1, by rw [List.length_cons, List.length_cons, h2], fun f hf => ?_⟩
    rcases List.mem_cons.mp hf with rfl | hf
    · exact ⟨_, _, rfl⟩
    · exact h3 f hf
theorem list_sort_pairs {a : Addr} {vs : List Value} {ks : List (Nat × Nat)} {n : Nat} {P : PySem.Fin → Shared → Prop} (ho : s.heap.get? a = some (PyProof.Rows.seqObj "list" vs.toArray n)) (hl : vs.length = ks.length) (hp : ∀ (i : Nat) v k, vs[i]? = some v → ks[i]? = some k → PrAt s.heap v k) (h64 : vs.length < 64)
    (h : ∀ is : List Nat, is.Perm (List.range vs.length) → ((is.map fun i => ks.getD i (0, 0)).Pairwise fun a b => ¬ pairLt b a) → P (.done (.ret .none)) { s with heap := PyProof.Rows.sortedHeap s.heap a vs (is.map fun i => vs.getD i Value.none).toArray }) : wpAny (model prog w) A (Builtin.«list.sort» ⟨[.ref a], []⟩) P E s := by
  rw [PyProof.Rows.list_sort_plain]
  have hsl : vs.length ≤ sizeLine := Nat.le_trans (Nat.le_of_lt h64) (by decide)
  refine wpAny_bind (PyProof.Rows.listItems_at ho rfl ?_)
  refine wpAny_bind (PyProof.Rows.listUpdate_at ho rfl ?_ (by rw [List.size_toArray]; exact hsl) (Nat.zero_le _))
  obtain ⟨e1, ho1⟩ : ∃ e1, (s.heap.update a (Obj.mapSeq fun _ => #[])).get? a = some (PyProof.Rows.seqObj "list" #[] e1) := ⟨_, PyProof.Rows.get?_update_seq ho (fun _ => #[])⟩
  refine wpAny_bind (PyProof.Rows.seqEpoch_at ho1 rfl ?_)
  refine wpAny_bind (wpAny_newTuple ?_ hsl)
  refine wpAny_bind (wpAny_newList ?_ (Nat.zero_le _))
  refine wpAny_holding ?_
  have ho6 : (((s.heap.update a (Obj.mapSeq fun _ => #[])).push (PyProof.Rows.seqObj "tuple" vs.toArray 0)).push (PyProof.Rows.seqObj "list" #[] 0)).get? a = some (PyProof.Rows.seqObj "list" #[] e1) := Heap.get?_push_of_some _ (Heap.get?_push_of_some _ ho1)
  have keep : ∀ b o, s.heap.get? b = some o → o.cls = .type "tuple" → (((s.heap.update a (Obj.mapSeq fun _ => #[])).push (PyProof.Rows.seqObj "tuple" vs.toArray 0)).push (PyProof.Rows.seqObj "list" #[] 0)).get? b = some o := fun b o g hc => by
    refine Heap.get?_push_of_some _ (Heap.get?_push_of_some _ ?_)
    rw [Heap.get?_update_other _ _ (fun e => ?_)]
    · exact g
    · have e : o = PyProof.Rows.seqObj "list" vs.toArray n := by
        first
          | exact Option.some.inj (g.symm.trans (e ▸ ho))
          | exact Option.some.inj (g.symm.trans (e.symm ▸ ho))
      rw [e] at hc
      have hc : Value.type "list" = Value.type "tuple" := hc
      injection hc with hc
      exact absurd hc (by decide)
  show wpAny (model prog w) A _ P E { s with heap := ((s.heap.update a (Obj.mapSeq fun _ => #[])).push (PyProof.Rows.seqObj "tuple" vs.toArray 0)).push (PyProof.Rows.seqObj "list" #[] 0) }
  dsimp only
  have pr6 : ∀ (i : Nat) v k, vs[i]? = some v → ks[i]? = some k → PrAt (((s.heap.update a (Obj.mapSeq fun _ => #[])).push (PyProof.Rows.seqObj "tuple" vs.toArray 0)).push (PyProof.Rows.seqObj "list" #[] 0)) v k := fun i v k hv hk => (hp i v k hv hk).keep keep
  by_cases h2 : vs.toArray.size < 2
  · rw [if_pos h2, if_pos h2]
    refine wpAny_bind (wpAny_pure ?_)
    rw [StateT.run_pure]
    refine wpAny_bind (wpAny_pure ?_)
    dsimp only
    refine wpAny_bind (PyProof.Rows.seqEpoch_at ho6 rfl ?_)
    have e : (PyProof.Rows.arrOf (PyProof.Rows.SortSt.mk' PyProof.Rows.general' (vs.toArray.zip vs.toArray) #[] 7 none)).map (·.2) = ((List.range vs.length).map fun i => vs.getD i Value.none).toArray := by
      apply Array.toList_inj.mp
      show ((vs.toArray.zip vs.toArray).map (·.2)).toList = _
      apply List.ext_getElem
      · simp
      · intro i h1 h2
        simp at h1 ⊢
        simp [h1]
    refine wpAny_bind (PyProof.Rows.listUpdate_at ho6 rfl ?_ (Nat.zero_le _) (by rw [e, List.size_toArray, List.length_map, List.length_range]; exact Nat.le_succ_of_le hsl))
    simp only [bne_self_eq_false, Bool.false_eq_true, if_false]
    rw [e]
    refine wpAny_pure (h (List.range vs.length) (List.Perm.refl _) ?_)
    rw [List.size_toArray] at h2
    match hv : vs.length, h2 with
    | 0, _ => exact .nil
    | 1, _ => exact List.pairwise_singleton ..
    | k + 2, h2 => omega
  · rw [if_neg h2, if_neg h2]
    rw [List.size_toArray] at h2
    obtain ⟨fs, t1, t2, t3⟩ := kat_tups hl pr6
    refine wpAny_bind (PySem.W.kat_kind (T := .type "int") t1 (by rw [t2]; exact Nat.lt_of_lt_of_le (by decide) (Nat.not_lt.mp h2)) (fun v hv => ?_) (by decide) ?_)
    · obtain ⟨i, t, rfl⟩ := t3 v hv
      exact .of_pure rfl
    rw [show ((Value.type "int") != Value.type "tuple") = true from by decide]
    refine wpAny_bind (wpAny_mono (PySem.W.kat_run (ks := vs) (Q := fun st' s' => s' = { s with heap := ((s.heap.update a (Obj.mapSeq fun _ => #[])).push (PyProof.Rows.seqObj "tuple" vs.toArray 0)).push (PyProof.Rows.seqObj "list" #[] 0) } ∧ ∃ p : Array Nat, PyProof.Rows.arrOf st' = p.map (PySem.W.kas_item (vs.toArray.zip vs.toArray)) ∧ PyProof.Rows.failedOf st' = none ∧ Okp vs.length p ∧ Srt (fun i => ks.getD i (0, 0)) p vs.length)
      (G := fun p s' => s' = { s with heap := ((s.heap.update a (Obj.mapSeq fun _ => #[])).push (PyProof.Rows.seqObj "tuple" vs.toArray 0)).push (PyProof.Rows.seqObj "list" #[] 0) } ∧ Okp vs.length p ∧ Srt (fun i => ks.getD i (0, 0)) p vs.length) rfl (Nat.not_lt.mp h2) h64 (fun p st' s' _ b c d => ⟨d.1, p, b, c, d.2⟩) (tree_ok (key := fun i => ks.getD i (0, 0)) (fun i j C hi hj q => ?_) (Nat.le_of_succ_le (Nat.not_lt.mp h2)) fun p a b => ⟨rfl, a, b⟩)) ?_ fun _ _ e => e)
    · have hvi : vs[i]? = some (vs.getD i Value.none) := by simp [hi]
      have hvj : vs[j]? = some (vs.getD j Value.none) := by simp [hj]
      have hki : ks[i]? = some (ks.getD i (0, 0)) := by simp [hl ▸ hi]
      have hkj : ks[j]? = some (ks.getD j (0, 0)) := by simp [hl ▸ hj]
      exact lt_pairs (pr6 i _ _ hvi hki) (pr6 j _ _ hvj hkj) q
    rintro ⟨⟨⟩, st'⟩ s' ⟨rfl, p, har, hf, okp, srt⟩
    dsimp only
    have hout := PySem.W.kat_snds (ks := vs) (vs := vs) rfl har
    refine wpAny_bind (PyProof.Rows.seqEpoch_at ho6 rfl ?_)
    have hps := okp.size
    rw [hout]
    refine wpAny_bind (PyProof.Rows.listUpdate_at ho6 rfl ?_ (Nat.zero_le _) (by rw [List.size_toArray, List.length_map, Array.length_toList, hps]; exact Nat.le_succ_of_le hsl))
    rw [hf]
    simp only [bne_self_eq_false, Bool.false_eq_true, if_false]
    have hperm := Array.perm_iff_toList_perm.mp okp.perm
    refine wpAny_pure (h p.toList (by simpa using hperm) ?_)
    rw [List.pairwise_map, List.pairwise_iff_getElem]
    intro i j hi hj hij
    rw [Array.length_toList] at hi hj
    have := srt i j (Nat.le_of_lt hij) (hps ▸ hj)
    unfold KpS at this
    rw [Array.getElem?_eq_getElem hj, Array.getElem?_eq_getElem hi] at this
    simpa using this
end
end Tw
end

section
namespace Tw
open PySem PySem.SeqAt

/-! sorted(x), where x is a dict or a list -/
section
variable {cx : Cx} {ι : List Addr} {ρ : Rho} {H : H} {s : Shared} {A : Around} {prog : Program} {w : World} {E : Value → Shared → Prop}
theorem collect_items (S : St cx ι ρ H s) (hh : A.handled = none) {n : Nat} {d : Addr} {vs : List V} {R : List Value → Shared → Prop} (gi : ι[n]? = some d) (hi : itemsAt H n vs)
    (q : ∀ (h' : Heap) (tk : Nat) (xs : List Value), (∀ b o, s.heap.get? b = some o → h'.get? b = some o) → s.heap.objs.size < h'.objs.size → RepVs ι s.heap xs vs → vs.length ≤ SZ → R xs { s with heap := h', toks := tk }) : wpAny (model prog cx.w) A (collect (.ref d)) R E s := by
  have hz : sizeLine = SZ := rfl
  rcases hi with ⟨es, ver, hH, rfl⟩ | hH
  · obtain ⟨ents, D⟩ := S.dict gi hH
    have e : ents.size = es.length := by rw [← Array.length_toList, D.rep.length]
    exact collect_raw hh (S.notMods gi) D.get (by rw [e, hz]; exact D.le) fun h' tk hk hs => q h' tk _ hk hs (keys_reps D.rep) (by rw [List.length_map]; exact D.le)
  · obtain ⟨vals, m, g, rv, z⟩ := S.objOf gi hH
    refine PyProof.Rows.collect_list (vs := vals.toList) (isList_of g) (q _ s.toks vals.toList (fun b o e => ?_) ?_ rv z) (by rw [rv.length, hz]; exact z)
    · rw [Heap.get?_update_other _ _ (fun e' => Nat.lt_irrefl _ (by rw [← e'] at e; exact Heap.lt_size e))]
      exact Heap.get?_push_of_some _ e
    · rw [Heap.size_update, PyProof.Rows.size_push']; exact Nat.lt_succ_self _
/-- the list that list.sort leaves -/
theorem sort_end (S : St cx ι ρ H s) (ok : CxOk cx) {h₁ : Heap} {tk : Nat} {xs : List Value} {out : Array Value} {ws : List V} {Q : V → Tw.H → Prop} (k1 : ∀ b o, s.heap.get? b = some o → h₁.get? b = some o) (hsz : s.heap.objs.size < h₁.objs.size)
    (r : ∀ h, (∀ b o, s.heap.get? b = some o → h.get? b = some o) → RepVs ι h out.toList ws) (hl : ws.length ≤ SZ) (q : Q (.ref H.length) (H ++ [.list ws])) :
    Post cx ι ρ s Q (.ref h₁.objs.size) { s with heap := PyProof.Rows.sortedHeap (h₁.push (PyProof.Rows.seqObj "list" xs.toArray 0)) h₁.objs.size xs out, toks := tk } := by
  have gD : (h₁.push (PyProof.Rows.seqObj "list" xs.toArray 0)).get? h₁.objs.size = some (PyProof.Rows.seqObj "list" xs.toArray 0) := Heap.get?_push_size _ rfl
  have k2 : ∀ b o, s.heap.get? b = some o → (h₁.push (PyProof.Rows.seqObj "list" xs.toArray 0)).get? b = some o := fun b o e => Heap.get?_push_of_some _ (k1 b o e)
  obtain ⟨e, gE⟩ := PyProof.Rows.sortedHeap_at (out := out) gD
  have k3 : ∀ b o, s.heap.get? b = some o → (PyProof.Rows.sortedHeap (h₁.push (PyProof.Rows.seqObj "list" xs.toArray 0)) h₁.objs.size xs out).get? b = some o := fun b o e => by
    have hb := Heap.lt_size (k1 b o e)
    rw [PyProof.Rows.sortedHeap_old (Nat.ne_of_lt hb) (Heap.lt_size (k2 b o e))]
    exact k2 b o e
  obtain ⟨S', M⟩ := S.new ok (o := .list ws) tk k3 (Nat.le_of_lt hsz) ⟨out, e, gE, r _ k3, hl⟩
  exact ⟨_, _, _, M, S', rep_last S _, q⟩
theorem sort_sound (S : St cx ι ρ H s) (ok : CxOk cx) (hh : A.handled = none) {x : Value} {v : V} {Q : V → Tw.H → Prop} (r : RepV ι s.heap x v) (h : SortW v H Q) : wpAny (model prog cx.w) A (call (.builtin "sorted") [x]) (Post cx ι ρ s Q) E s := by
  obtain ⟨n, rfl, vs, hi, h64, h1⟩ := asRef.inv h
  obtain ⟨d, rfl, gi⟩ := r.refI
  have hz : sizeLine = 16777216 := rfl
  have hz' : SZ = 16777216 := rfl
  refine Calls.call_function_entry PyProof.Rows.kind_sorted PyProof.Rows.plain_sorted PyProof.Rows.entry_sorted (PyProof.Rows.args_sorted1 _) ?_
  unfold Builtin.«sorted»
  refine wpAny_bind (m := checkCount "sorted" 1 1 _) (wpAny_pure ?_)
  refine wpAny_bind (collect_items (A := A.in1) S hh gi hi fun h₁ tk xs k1 hsz rx hle => ?_)
  have hl : xs.length < 64 := by rw [rx.length]; exact h64
  refine wpAny_bind (wpAny_newList ?_ (by omega))
  have gD : (h₁.push (PyProof.Rows.seqObj "list" xs.toArray 0)).get? h₁.objs.size = some (PyProof.Rows.seqObj "list" xs.toArray 0) := Heap.get?_push_size _ rfl
  show wpAny _ _ _ _ _ { s with heap := h₁.push (PyProof.Rows.seqObj "list" xs.toArray 0), toks := tk }
  rcases h1 with q | q | h1
  · exact q.elim
  · exact q.elim
  rcases h1 with ⟨ks, rfl, q⟩ | h1
  · have rl := rx.length
    rw [List.length_map] at rl
    have hp : ∀ (i : Nat) v k, xs[i]? = some v → ks[i]? = some k → RepV ι s.heap v (pairV k) := fun i v k hv hk => by
      obtain ⟨y, hy, ry⟩ := rx.get (k := i) (v := pairV k) (by rw [List.getElem?_map, hk]; rfl)
      rw [hv] at hy; cases hy; exact ry
    refine wpAny_bind (wpAny_holding (wpAny_call_entry PyProof.Rows.slot_list_sort ⟨_, gD, rfl⟩ PyProof.Rows.entry_list_sort (list_sort_pairs gD rl (fun i v k hv hk => (pr_of (hp i v k hv hk)).keep fun b o g _ => Heap.get?_push_of_some _ (k1 b o g)) hl fun is p1 p2 => ⟨_, rfl, ?_⟩) (PyProof.Rows.args_list_sort _)))
    have hlen := p1.length_eq
    rw [List.length_range] at hlen
    have hm : ∀ i ∈ is, i < xs.length := fun i hi => List.mem_range.mp (p1.mem_iff.mp hi)
    have eall : (List.range xs.length).map (fun i => ks.getD i (0, 0)) = ks := by
      apply List.ext_getElem
      · rw [List.length_map, List.length_range, rl]
      · intro i h1 h2
        simp [h2]
    have p3 := p1.map (fun i => ks.getD i (0, 0))
    rw [eall] at p3
    refine wpAny_pure ⟨_, rfl, sort_end S ok k1 hsz (ws := (is.map fun i => ks.getD i (0, 0)).map pairV) (fun h' hk => ?_) ?_ (q _ p3 p2)⟩
    · show RepVs ι h' (is.map fun i => xs.getD i Value.none) _
      clear p1 p2 p3 hlen
      induction is with
      | nil => exact .nil
      | cons i r ih =>
        have hi := hm i (List.mem_cons_self ..)
        refine .cons ((hp i _ _ ?_ ?_).mono (List.prefix_refl _) (.of_ext hk)) (ih fun j hj => hm j (List.mem_cons_of_mem _ hj))
        · simp [hi]
        · simp [show i < ks.length by omega]
    · rw [List.length_map, List.length_map, hlen]; omega
  · exact h1.elim
end
end Tw
end

section
namespace Tw
open PySem PySem.SeqAt

section
variable {cx : Cx} {ι : List Addr} {ρ : Rho} {H : H} {s : Shared} {A : Around} {prog : Program} {E : Value → Shared → Prop}

noncomputable def Bi.py : Bi → Value
  | .len => .builtin "len" | .range => .type "range" | .list => .type "list" | .dict => .type "dict" | .sorted => .builtin "sorted" | .int => .type "int" | .min => .builtin "min" | .max => .builtin "max"

theorem Post.listE (S : St cx ι ρ H s) (ok : CxOk cx) {h' : Heap} {vals : Array Value} {n : Nat} {vs : List V} {Q : V → Tw.H → Prop} (tk : Nat) (hk : ∀ b ob, s.heap.get? b = some ob → h'.get? b = some ob)
    (g : h'.get? s.heap.objs.size = some { cls := .type "list", data := .seq vals n }) (r : RepVs ι s.heap vals.toList vs) (hl : vs.length ≤ SZ) (q : Q (.ref H.length) (H ++ [.list vs])) :
    Post cx ι ρ s Q (.ref s.heap.objs.size) { s with heap := h', toks := tk } := by
  obtain ⟨S', M⟩ := S.new ok (o := .list vs) tk hk (Nat.le_refl _) ⟨vals, n, g, r.mono (List.prefix_refl _) (.of_ext hk), hl⟩
  exact ⟨_, _, _, M, S', rep_last S _, q⟩

theorem reps_ints {h : Heap} : ∀ (n : Nat) (a c : Int) (vals : List Value), vals.length = n → (∀ (i : Nat) v, vals[i]? = some v → ∃ t, v = .int (a + i * c) t) → RepVs ι h vals (intsV a c n)
  | 0, a, c, vals, hl, _ => by
    have : vals = [] := List.length_eq_zero_iff.mp hl
    subst this; exact .nil
  | n + 1, a, c, [], hl, _ => by simp at hl
  | n + 1, a, c, v :: vals, hl, hv => by
    obtain ⟨t, rfl⟩ := hv 0 v rfl
    have e : a + ((0 : Nat) : Int) * c = a := by simp
    rw [e]
    refine .cons (.int a t) (reps_ints n (a + c) c vals (by simpa using hl) fun i v h => ?_)
    obtain ⟨t, rfl⟩ := hv (i + 1) v (by simpa using h)
    refine ⟨t, ?_⟩
    have : a + c + (i : Int) * c = a + ((i + 1 : Nat) : Int) * c := by rw [Int.natCast_add, Int.add_mul]; simp; omega
    rw [this]

theorem rep_range {h : Heap} {a : Addr} {x y z : Int} {t u v : Tok} (g : h.get? a = some { cls := .type "range", data := .fields #[.int x t, .int y u, .int z v] }) (hs : smallI x ∧ smallI y ∧ smallI z ∧ 0 < z) : RepV ι h (.ref a) (.rng x y z) := .rng g hs

theorem len_sound (S : St cx ι ρ H s) {x : Value} {v : V} {Q : V → Tw.H → Prop} (r : RepV ι s.heap x v) (h : LenW v H Q) : wpAny (model prog cx.w) A (call (.builtin "len") [x]) (Post cx ι ρ s Q) E s := by
  have hz : SZ = 16777216 := rfl
  cases v with
  | str w =>
    obtain ⟨y, t, rfl, rfl, z⟩ := r.strInv
    refine PyProof.Rows.len_str (by omega) (.tok S ?_ h _)
    rw [← len_toList]; exact .int _ _
  | tup vs =>
    obtain ⟨a, n, vals, rfl, g, z, rv⟩ := r.tupI
    have hl : vals.size = vs.length := by rw [← Array.length_toList, rv.length]
    refine PySem.P.len_tuple g (by omega) (.tok S ?_ h _)
    rw [hl]; exact .int _ _
  | ref n =>
    obtain ⟨a, rfl, gi⟩ := r.refI
    obtain ⟨o, hH, _⟩ := S.obj gi
    unfold LenW at h
    dsimp only at h
    rw [hH] at h
    cases o with
    | list vs =>
      obtain ⟨vals, m, g, rv, z⟩ := S.objOf gi hH
      have hl : vals.size = vs.length := by rw [← Array.length_toList, rv.length]
      refine PyProof.Rows.len_list (isList_of g) (by omega) (.tok S ?_ h _)
      rw [hl]; exact .int _ _
    | frz vs =>
      obtain ⟨vals, g, rv, z⟩ := S.objOf gi hH
      have hl : vals.size = vs.length := by rw [← Array.length_toList, rv.length]
      refine PyProof.Rows.len_list g (by omega) (.tok S ?_ h _)
      rw [hl]; exact .int _ _
    | dict es ep => exact h.elim
  | _ => exact h.elim

theorem Post.rng (S : St cx ι ρ H s) {Q : V → Tw.H → Prop} {x y z : Int} {t u v : Tok} (tk : Nat) (hs : smallI x ∧ smallI y ∧ smallI z ∧ 0 < z) (q : Q (.rng x y z) H) :
    Post cx ι ρ s Q (.ref s.heap.objs.size) { s with heap := s.heap.push { cls := .type "range", data := .fields #[.int x t, .int y u, .int z v] }, toks := tk } := by
  have hk : ∀ b ob, s.heap.get? b = some ob → (s.heap.push { cls := .type "range", data := .fields #[.int x t, .int y u, .int z v] }).get? b = some ob := fun _ _ e => Heap.get?_push_of_some _ e
  exact ⟨_, ι, H, .ext hk, S.ext tk hk, rep_range (get?_fresh rfl) hs, q⟩
theorem range_sound (S : St cx ι ρ H s) {vals : List Value} {vs : List V} {Q : V → Tw.H → Prop} (r : RepVs ι s.heap vals vs) (h : RangeW vs H Q) : wpAny (model prog cx.w) A (call (.type "range") vals) (Post cx ι ρ s Q) E s := by
  have s1 : smallI 1 := by unfold smallI; decide
  have s0 : smallI 0 := by unfold smallI; decide
  match vs, r, h with
  | [a], r, h =>
    obtain ⟨x, rfl, g⟩ := r.oneI
    obtain ⟨i, rfl, h1⟩ := asInt.inv h
    obtain ⟨t, rfl⟩ := g.intI
    exact call_range_1 (.rng S _ ⟨s0, h1.1, s1, by decide⟩ h1.2)

theorem ints_length {a c : Int} {n : Nat} : (intsV a c n).length = n := by
  induction n generalizing a with
  | zero => rfl
  | succ n ih => simp [intsV, ih]
theorem list_sound (S : St cx ι ρ H s) (ok : CxOk cx) (hh : A.handled = none) {x : Value} {v : V} {Q : V → Tw.H → Prop} (r : RepV ι s.heap x v) (h : ListW v H Q) : wpAny (model prog cx.w) A (call (.type "list") [x]) (Post cx ι ρ s Q) E s := by
  cases v with
  | rng x y z =>
    obtain ⟨a, t, u, v, rfl, g, hs⟩ := r.rngI
    obtain ⟨h1, h2⟩ := h
    refine call_list_range hh g (small_range hs) (rangeSize_eq hs.2.2.2) h1 fun h' tk acc' c' hk g' hacc => ?_
    refine Post.listE S ok (vs := rangeV x y z) tk hk g' ?_ (by rw [rangeV, ints_length]; exact h1) h2
    exact reps_ints _ _ _ _ (by rw [Array.length_toList]; exact hacc.1) fun i v hv => hacc.2 i v (by simpa using hv)
  | ref n =>
    obtain ⟨a, rfl, gi⟩ := r.refI
    obtain ⟨o, hH, _⟩ := S.obj gi
    unfold ListW at h
    dsimp only at h
    rw [hH] at h
    cases o with
    | list vs =>
      obtain ⟨vals, m, g, rv, z⟩ := S.objOf gi hH
      have hl : vals.size = vs.length := by rw [← Array.length_toList, rv.length]
      refine call_list_seq a (.inl rfl) g rfl rfl (fun h' c' hk g' => ?_) (by rw [hl]; exact h.1)
      exact Post.listE S ok s.toks hk g' rv h.1 h.2
    | frz vs => exact h.elim
    | dict es ep => exact h.elim
  | _ => exact h.elim

theorem bi_sound (S : St cx ι ρ H s) (ok : CxOk cx) (hh : A.handled = none) (hu : A.units + 50 < cLine) {b : Bi} {vals : List Value} {vs : List V} {Q : V → Tw.H → Prop} (r : RepVs ι s.heap vals vs) (h : BiW b vs H Q) :
    wpAny (model prog cx.w) A (call b.py vals) (Post cx ι ρ s Q) E s := by
  cases b with
  | len =>
    obtain ⟨v, rfl, h1⟩ := arg1.inv h
    obtain ⟨x, rfl, g⟩ := r.oneI
    exact len_sound S g h1
  | range => exact range_sound S r h
  | list =>
    obtain ⟨v, rfl, h1⟩ := arg1.inv h
    obtain ⟨x, rfl, g⟩ := r.oneI
    exact list_sound S ok hh g h1
  | int =>
    obtain ⟨v, rfl, h1⟩ := arg1.inv h
    obtain ⟨x, rfl, g⟩ := r.oneI
    obtain ⟨b, rfl, h2⟩ := asBool.inv h1
    obtain rfl := g.boolI
    exact call_int_bool (.tok S (.int _ _) h2 _)
  | sorted =>
    obtain ⟨v, rfl, h1⟩ := arg1.inv h
    obtain ⟨x, rfl, g⟩ := r.oneI
    exact sort_sound S ok hh g h1
  | _ => exact h.elim

noncomputable def Ty.py : Ty → Value
  | .int => .type "int" | .bool => .type "bool" | .list => .type "list" | .tuple => .type "tuple" | .str => .type "str"

theorem is_sound (S : St cx ι ρ H s) {x : Value} {v : V} {t : Ty} {Q : Bool → Prop} (r : RepV ι s.heap x v) (h : IsW v t H Q) :
    wpAny (model prog cx.w) A (call (.builtin "isinstance") [x, t.py]) (PostB s Q) E s := by
  have yes : Q true → PostB s Q (.bool true) s := fun q => .here q
  have no : Q false → PostB s Q (.bool false) { s with toks := s.toks + 1 } := fun q => ⟨false, _, rfl, rfl, q⟩
  cases v with
  | rng => exact h.elim
  | none =>
    obtain rfl := r.noneI
    cases t with
    | int => exact IsiPair.NoneType_int (no h)
    | bool => exact IsiPair.NoneType_bool (no h)
    | list => exact IsiPair.NoneType_list (no h)
    | tuple => exact IsiPair.NoneType_tuple (no h)
    | str => exact IsiPair.NoneType_str (no h)
  | bool b =>
    obtain rfl := r.boolI
    cases t with
    | int => exact IsiPair.bool_int (yes h)
    | bool => exact IsiPair.bool_bool (yes h)
    | list => exact IsiPair.bool_list (no h)
    | tuple => exact IsiPair.bool_tuple (no h)
    | str => exact IsiPair.bool_str (no h)
  | int i =>
    obtain ⟨u, rfl⟩ := r.intI
    cases t with
    | int => exact IsiPair.int_int (yes h)
    | bool => exact IsiPair.int_bool (no h)
    | list => exact IsiPair.int_list (no h)
    | tuple => exact IsiPair.int_tuple (no h)
    | str => exact IsiPair.int_str (no h)
  | str y =>
    obtain ⟨y, u, rfl, rfl, z⟩ := r.strInv
    cases t with
    | int => exact IsiPair.str_int (no h)
    | bool => exact IsiPair.str_bool (no h)
    | list => exact IsiPair.str_list (no h)
    | tuple => exact IsiPair.str_tuple (no h)
    | str => exact IsiPair.str_str (yes h)
  | tup vs =>
    obtain ⟨a, n, vals, rfl, g, z, rv⟩ := r.tupI
    cases t with
    | int => exact IsiPair.tuple_int g rfl (no h)
    | bool => exact IsiPair.tuple_bool g rfl (no h)
    | list => exact IsiPair.tuple_list g rfl (no h)
    | tuple => exact IsiPair.tuple_tuple g rfl (yes h)
    | str => exact IsiPair.tuple_str g rfl (no h)
  | ref n =>
    obtain ⟨a, rfl, gi⟩ := r.refI
    obtain ⟨o, hH, _⟩ := S.obj gi
    unfold IsW at h
    dsimp only at h
    rw [hH] at h
    cases o with
    | list vs =>
      obtain ⟨vals, m, g, rv, z⟩ := S.objOf gi hH
      cases t with
      | int => exact IsiPair.list_int g rfl (no h)
      | bool => exact IsiPair.list_bool g rfl (no h)
      | list => exact IsiPair.list_list g rfl (yes h)
      | tuple => exact IsiPair.list_tuple g rfl (no h)
      | str => exact IsiPair.list_str g rfl (no h)
    | frz vs => exact h.elim
    | dict es ep =>
      obtain ⟨ents, D⟩ := S.dict gi hH
      cases t with
      | int => exact IsiPair.dict_int D.get rfl (no h)
      | bool => exact IsiPair.dict_bool D.get rfl (no h)
      | list => exact IsiPair.dict_list D.get rfl (no h)
      | tuple => exact IsiPair.dict_tuple D.get rfl (no h)
      | str => exact IsiPair.dict_str D.get rfl (no h)

/-! methods -/
noncomputable def Mt.nm : Mt → Str
  | .append => "append" | .reverse => "reverse" | .pop => "pop" | .dpop => "pop" | .clear => "clear" | .index => "index" | .update => "update" | .get => "get" | .join => "join" | .startswith => "startswith"
noncomputable def Mt.id : Mt → String
  | .append => "list.append" | .reverse => "list.reverse" | .pop => "list.pop" | .dpop => "dict.pop" | .clear => "list.clear" | .index => "list.index" | .update => "dict.update" | .get => "dict.get" | .join => "str.join" | .startswith => "str.startswith"

theorem gm_any {x : Value} {T : String} {name : Str} {id : String} {pl : Sem Bool} {Q : Value × List Value → Shared → Prop} (hT : s.TypeIs x T) (pa : PlainAttrs T) (sl : Slot T name id) (ty : typeOf (.builtin id) = pure (.type "method_descriptor"))
    (hd : ∀ a, x = .ref a → ∃ o, s.heap.get? a = some o ∧ o.dict = none) (q : Q (.builtin id, [x]) s) : wpAny (model prog cx.w) A (getMethod x name pl) Q E s := by
  refine getMethod_builtin (T := T) (id := id) ?a ?b ?c ?d ?e ?f
  case a => exact hT
  case b => exact pa
  case c => exact sl
  case d => exact ty
  case e => exact hd
  case f => exact q

structure MtFacts (T : String) (name : Str) (id : String) : Prop where
  sl : Slot T name id
  ty : typeOf (.builtin id) = pure (.type "method_descriptor")
theorem mt_append : MtFacts "list" (Mt.nm .append) (Mt.id .append) := ⟨F.slot_list_append, F.type_list_append⟩
theorem mt_reverse : MtFacts "list" (Mt.nm .reverse) (Mt.id .reverse) := ⟨F.slot_list_reverse, F.type_list_reverse⟩
theorem mt_clear : MtFacts "list" (Mt.nm .clear) (Mt.id .clear) := ⟨F.slot_list_clear, F.type_list_clear⟩
theorem mt_index : MtFacts "list" (Mt.nm .index) (Mt.id .index) := ⟨F.slot_list_index, F.type_list_index⟩
theorem mt_pop : MtFacts "list" (Mt.nm .pop) (Mt.id .pop) := ⟨F.slot_list_pop, F.type_list_pop⟩
theorem mt_update : MtFacts "dict" (Mt.nm .update) (Mt.id .update) := ⟨F.slot_dict_update, F.type_dict_update⟩
theorem mt_get : MtFacts "dict" (Mt.nm .get) (Mt.id .get) := ⟨F.slot_dict_get, F.type_dict_get⟩
theorem mt_join : MtFacts "str" (Mt.nm .join) (Mt.id .join) := ⟨F.slot_str_join, F.type_str_join⟩
theorem mt_startswith : MtFacts "str" (Mt.nm .startswith) (Mt.id .startswith) := ⟨F.slot_str_startswith, F.type_str_startswith⟩
theorem mt_dpop : MtFacts "dict" (Mt.nm .dpop) (Mt.id .dpop) := ⟨F.slot_dict_pop, F.type_dict_pop⟩

theorem gm_list (S : St cx ι ρ H s) {x : Value} {v : V} {nm : Str} {id : String} (r : RepV ι s.heap x v) (h : asRef v fun n => ∃ vs, H[n]? = some (.list vs)) (f : MtFacts "list" nm id) : ∃ T, s.TypeIs x T ∧ PlainAttrs T ∧ MtFacts T nm id ∧ ∀ a, x = .ref a → ∃ o, s.heap.get? a = some o ∧ o.dict = none := by
  obtain ⟨n, rfl, vs, hH⟩ := asRef.inv h
  obtain ⟨a, rfl, gi⟩ := r.refI
  obtain ⟨vals, m, g, rv, z⟩ := S.objOf gi hH
  exact ⟨_, ⟨_, g, rfl⟩, F.plainAttrs_list, f, fun b e => by cases e; exact ⟨_, g, rfl⟩⟩
theorem gm_dict (S : St cx ι ρ H s) {x : Value} {v : V} {nm : Str} {id : String} (r : RepV ι s.heap x v) (h : asRef v fun n => ∃ es ver, H[n]? = some (.dict es ver)) (f : MtFacts "dict" nm id) : ∃ T, s.TypeIs x T ∧ PlainAttrs T ∧ MtFacts T nm id ∧ ∀ a, x = .ref a → ∃ o, s.heap.get? a = some o ∧ o.dict = none := by
  obtain ⟨n, rfl, es, ep, hH⟩ := asRef.inv h
  obtain ⟨a, rfl, gi⟩ := r.refI
  obtain ⟨ents, D⟩ := S.dict gi hH
  exact ⟨_, ⟨_, D.get, rfl⟩, F.plainAttrs_dict, f, fun b e => by cases e; exact ⟨_, D.get, rfl⟩⟩
theorem gm_str {x : Value} {v : V} {nm : Str} {id : String} (r : RepV ι s.heap x v) (h : asStr v fun _ => True) (f : MtFacts "str" nm id) : ∃ T, s.TypeIs x T ∧ PlainAttrs T ∧ MtFacts T nm id ∧ ∀ a, x = .ref a → ∃ o, s.heap.get? a = some o ∧ o.dict = none := by
  obtain ⟨w, rfl, _⟩ := asStr.inv h
  obtain ⟨y, t, rfl, _, _⟩ := r.strInv
  exact ⟨_, typeIs_str s y t, F.plainAttrs_str, f, fun b e => nomatch e⟩
theorem gm_fact (S : St cx ι ρ H s) {m : Mt} {x : Value} {v : V} (r : RepV ι s.heap x v) (h : recvOk m v H) :
    ∃ T, s.TypeIs x T ∧ PlainAttrs T ∧ MtFacts T m.nm m.id ∧ ∀ a, x = .ref a → ∃ o, s.heap.get? a = some o ∧ o.dict = none := by
  cases m with
  | append => exact gm_list S r h mt_append
  | reverse => exact gm_list S r h mt_reverse
  | clear => exact gm_list S r h mt_clear
  | index => exact gm_list S r h mt_index
  | pop => exact gm_list S r h mt_pop
  | dpop => exact gm_dict S r h mt_dpop
  | update => exact gm_dict S r h mt_update
  | get => exact gm_dict S r h mt_get
  | join => exact gm_str r h mt_join
  | startswith => exact gm_str r h mt_startswith
theorem getMethod_sound (S : St cx ι ρ H s) {m : Mt} {x : Value} {v : V} {pl : Sem Bool} {Q : Value × List Value → Shared → Prop} (r : RepV ι s.heap x v) (h : recvOk m v H) (q : Q (.builtin m.id, [x]) s) :
    wpAny (model prog cx.w) A (getMethod x m.nm pl) Q E s := by
  obtain ⟨T, hT, pa, f, hd⟩ := gm_fact S r h
  exact gm_any (cx := cx) hT pa f.sl f.ty hd q

theorem set_list (S : St cx ι ρ H s) {n : Nat} {a : Addr} {vals : Array Value} {m : Nat} {ws vs : List V} {v : V} {val : Value} {f : Array Value → Array Value} {Q : V → Tw.H → Prop} (gi : ι[n]? = some a) (hH : H[n]? = some (.list ws))
    (g : s.heap.get? a = some { cls := .type "list", data := .seq vals m }) (rf : ∀ h', Imm s.heap h' → RepVs ι h' (f vals).toList vs ∧ RepV ι h' val v) (hl : vs.length ≤ SZ) (q : Q v (H.set n (.list vs))) (tk : Nat) :
    Post cx ι ρ s Q val { s with heap := s.heap.update a (Obj.mapSeq f), toks := tk } := by
  have imm : Imm s.heap (s.heap.update a (Obj.mapSeq f)) := .of_but (Heap.SameBut.update ..).extBut fun o e => by rw [g] at e; cases e; exact notImm_list rfl
  obtain ⟨r1, r2⟩ := rf _ imm
  obtain ⟨S', M⟩ := S.set (o' := .list vs) tk gi (fun vs e => by rw [hH] at e; cases e) (Heap.SameBut.update s.heap a (Obj.mapSeq f)).extBut ⟨f vals, _, Heap.get?_update_self _ g rfl, r1, hl⟩
  exact ⟨v, ι, _, M, S', r2, q⟩

theorem strs_are {h : Heap} {xs : List Value} {vs : List V} {ys : List (List Nat)} (r : RepVs ι h xs vs) (e : isStrs vs = some ys) : ∃ zs : List Str, PyProof.Rows.StrsAre xs zs ∧ zs.map (·.cps.toList) = ys := by
  induction xs generalizing vs ys with
  | nil =>
    cases r
    cases (show some [] = some ys from e)
    exact ⟨[], .nil, rfl⟩
  | cons x xs ih =>
    obtain _ | ⟨g, r⟩ := r
    cases g with
    | str x t z =>
      obtain ⟨ys', e', rfl⟩ := Option.map_eq_some_iff.mp (show (isStrs _).map (x.cps.toList :: ·) = some ys from e)
      obtain ⟨zs, h1, h2⟩ := ih r e'
      exact ⟨x :: zs, .cons x t h1, by rw [List.map_cons, h2]⟩
    | _ => exact nomatch (show none = some ys from e)

theorem join_toList : ∀ (zs : List Str), (Str.join (⟨#[]⟩ : Str) zs).cps.toList = joinS [] (zs.map (·.cps.toList))
  | [] => rfl
  | [x] => rfl
  | x :: y :: r => by
    show ((x ++ (⟨#[]⟩ : Str)) ++ Str.join ⟨#[]⟩ (y :: r)).cps.toList = _
    rw [toList_app, toList_app, join_toList (y :: r)]
    simp [joinS]
theorem joinS_nil : ∀ (xs : List (List Nat)), joinS [] xs = xs.flatten
  | [] => rfl
  | [x] => by simp [joinS]
  | x :: y :: r => by simp [joinS, joinS_nil (y :: r)]
theorem sum_lens : ∀ (zs : List Str), (zs.map (·.length)).sum = ((zs.map (·.cps.toList)).map List.length).sum
  | [] => rfl
  | z :: r => by simp only [List.map_cons, List.sum_cons, sum_lens r, len_toList]

theorem pop_list (va : Array Value) (n : Nat) (e : va.size = n + 1) : (va.eraseIdxIfInBounds (va.size - 1)).toList = va.toList.take n := by
  have e3 : va.size - 1 < va.size := by omega
  rw [Array.eraseIdxIfInBounds, dif_pos e3, Array.toList_eraseIdx]
  rw [List.eraseIdx_eq_take_drop_succ, show va.size - 1 = n from by omega, List.drop_eq_nil_of_le (by simp; omega)]
  simp
theorem meth_sound (S : St cx ι ρ H s) (hu : A.units + 50 < cLine) {m : Mt} {x : Value} {vals : List Value} {o : V} {vs : List V} {Q : V → Tw.H → Prop} (rx : RepV ι s.heap x o) (rv : RepVs ι s.heap vals vs) (h : MethW m o vs H Q) :
    wpAny (model prog cx.w) A (call (.builtin m.id) (x :: vals)) (Post cx ι ρ s Q) E s := by
  cases m with
  | append =>
    obtain ⟨n, rfl, h1⟩ := asRef.inv h
    obtain ⟨v, rfl, ws, hH, hl, q⟩ := arg1.inv h1
    obtain ⟨a, rfl, gi⟩ := rx.refI
    obtain ⟨y, rfl, g⟩ := rv.oneI
    obtain ⟨va, k, gl, rl, z⟩ := S.objOf gi hH
    have e : va.size = ws.length := by rw [← Array.length_toList, rl.length]
    refine call_meets F.slot_list_append ⟨_, gl, rfl⟩ F.entry_list_append (F.args_list_append_2 _ _) (PySem.list_append a va k _ (by rw [e]; exact z)) ⟨gl, ?_⟩
    exact set_list S gi hH gl (fun h' imm => ⟨by rw [Array.toList_push]; exact (rl.mono (List.prefix_refl _) imm).append (.cons (g.mono (List.prefix_refl _) imm) .nil), .none⟩) (by rw [List.length_append]; exact hl) q s.toks
  | reverse =>
    obtain ⟨n, rfl, h1⟩ := asRef.inv h
    obtain ⟨rfl, ws, hH, q⟩ := arg0.inv h1
    obtain ⟨a, rfl, gi⟩ := rx.refI
    obtain rfl := rv.nilI
    obtain ⟨va, k, gl, rl, z⟩ := S.objOf gi hH
    have e : va.size = ws.length := by rw [← Array.length_toList, rl.length]
    refine call_meets F.slot_list_reverse ⟨_, gl, rfl⟩ F.entry_list_reverse (F.args_list_reverse_1 _) (AutoSeq1.list_reverse_list_0 a va k (by rw [e]; exact z)) ⟨gl, ?_⟩
    exact set_list S gi hH gl (fun h' imm => ⟨by rw [Array.toList_reverse]; exact (rl.mono (List.prefix_refl _) imm).reverse, .none⟩) (by rw [List.length_reverse]; exact z) q s.toks
  | pop =>
    obtain ⟨n, rfl, h1⟩ := asRef.inv h
    obtain ⟨rfl, ws, w, hH, q⟩ := arg0.inv h1
    obtain ⟨a, rfl, gi⟩ := rx.refI
    obtain rfl := rv.nilI
    obtain ⟨va, k, gl, rl, z⟩ := S.objOf gi hH
    have e : va.size = ws.length + 1 := by rw [← Array.length_toList, rl.length]; simp
    obtain ⟨y, hy, ry⟩ := rl.get (k := ws.length) (v := w) (by simp)
    have hy' : va[va.size - 1]? = some y := by rw [e]; simpa using hy
    have z' : ws.length + 1 ≤ SZ := by simpa using z
    refine call_meets F.slot_list_pop ⟨_, gl, rfl⟩ F.entry_list_pop (F.args_list_pop_1 _) (MeetsSeq.list_pop_last a va k y hy' (by rw [e]; exact z')) ⟨gl, ?_⟩
    exact set_list S (f := fun xs => xs.eraseIdxIfInBounds (va.size - 1)) (vs := ws) (v := w) (val := y) (Q := Q) gi hH gl (fun h' imm => ⟨by
      have := (rl.mono (List.prefix_refl _) imm).take ws.length
      rw [pop_list va _ e]; simpa using this, ry.mono (List.prefix_refl _) imm⟩) (by omega) q s.toks
  | join =>
    obtain ⟨sep, rfl, h1⟩ := asStr.inv h
    obtain ⟨v, rfl, h2⟩ := arg1.inv h1
    obtain ⟨n, rfl, ws, xs, hH, hs, hsep, hsum, q⟩ := asRef.inv h2
    obtain ⟨y, t, rfl, ey, zy⟩ := rx.strInv
    obtain ⟨x, rfl, g⟩ := rv.oneI
    obtain ⟨a, rfl, gi⟩ := g.refI
    obtain ⟨va, k, gl, rl, z⟩ := S.objOf gi hH
    obtain ⟨zs, hzs, rfl⟩ := strs_are rl hs
    obtain rfl : y = ⟨#[]⟩ := str_inj (by rw [ey, hsep])
    subst hsep
    refine PyProof.Rows.join_list (isList_of gl) hzs (by rw [sum_lens]; simpa [Str.length] using hsum) fun t' tk => ?_
    rw [show Txt.join (⟨#[]⟩ : Str) zs = Str.join ⟨#[]⟩ zs from StrLaws.glued_eq_join _ _]
    refine Post.tok (val := .str (Str.join ⟨#[]⟩ zs) t') S (.strOf (join_toList zs) ?_) q tk
    rw [← len_toList, join_toList, joinS_nil, List.length_flatten]
    exact hsum
  | startswith =>
    obtain ⟨a, rfl, h1⟩ := asStr.inv h
    obtain ⟨b, rfl, h2⟩ := arg1.inv h1
    obtain ⟨b, rfl, q⟩ := asStr.inv h2
    obtain ⟨x, t, rfl, rfl, _⟩ := rx.strInv
    obtain ⟨z, rfl, g⟩ := rv.oneI
    obtain ⟨y, u, rfl, rfl, _⟩ := g.strInv
    refine SC.startswith ?_
    rw [starts_pre]
    exact .tok S (.bool _) q _
  | _ => exact h.elim
end
end Tw
end

section
namespace Tw
open PySem PySem.SeqAt

section
variable {cx : Cx} {ι : List Addr} {ρ : Rho} {H : H} {s : Shared} {A : Around} {prog : Program} {E : Value → Shared → Prop}

theorem take_drop {α : Type} (l : List α) (i j : Nat) : (l.drop (min i l.length)).take (min j l.length - min i l.length) = (l.take j).drop i := by
  rw [List.drop_take]
  by_cases hi : i ≤ l.length
  · rw [Nat.min_eq_left hi]
    by_cases hj : j ≤ l.length
    · rw [Nat.min_eq_left hj]
    · rw [Nat.min_eq_right (show l.length ≤ j by omega)]
      rw [List.take_of_length_le (by simp), List.take_of_length_le (by simp; omega)]
  · rw [Nat.min_eq_right (show l.length ≤ i by omega), List.drop_length, List.drop_of_length_le (show l.length ≤ i by omega)]
    simp

theorem part_lo {y : Value} {lo : V} {h : Heap} {i : Nat} (r : RepV ι h y lo) (e : loOf lo = some i) : ∃ p : Option (Int × Tok), y = partValue p ∧ IsPart y (p.map (·.1)) ∧ ((p = none ∧ i = 0) ∨ ∃ t, p = some ((i : Int), t)) := by
  cases r with
  | none => simp [loOf] at e; subst e; exact ⟨none, rfl, .none, .inl ⟨rfl, rfl⟩⟩
  | int k t =>
    simp only [loOf] at e
    by_cases hk : 0 ≤ k ∧ k < 2 ^ 62
    · rw [if_pos hk] at e
      injection e with e
      subst e
      exact ⟨some (k, t), rfl, .int k t, .inr ⟨t, by rw [Int.toNat_of_nonneg hk.1]⟩⟩
    · rw [if_neg hk] at e; cases e
  | _ => simp [loOf] at e
theorem part_hi {y : Value} {hi : V} {h : Heap} {n j : Nat} (r : RepV ι h y hi) (e : hiOf n hi = some j) : ∃ p : Option (Int × Tok), y = partValue p ∧ IsPart y (p.map (·.1)) ∧ ((p = none ∧ j = n) ∨ ∃ t, p = some ((j : Int), t)) := by
  cases r with
  | none => simp [hiOf] at e; subst e; exact ⟨none, rfl, .none, .inl ⟨rfl, rfl⟩⟩
  | int k t =>
    simp only [hiOf] at e
    by_cases hk : 0 ≤ k ∧ k < 2 ^ 62
    · rw [if_pos hk] at e
      injection e with e
      subst e
      exact ⟨some (k, t), rfl, .int k t, .inr ⟨t, by rw [Int.toNat_of_nonneg hk.1]⟩⟩
    · rw [if_neg hk] at e; cases e
  | _ => simp [hiOf] at e

theorem clip_lo {p : Option (Int × Tok)} {i n : Nat} (h : (p = none ∧ i = 0) ∨ ∃ t, p = some ((i : Int), t)) : (p.map (·.1)).elim 0 (clipAt n) = min i n := by
  rcases h with ⟨rfl, rfl⟩ | ⟨t, rfl⟩
  · simp
  · exact clipAt_nat n i
theorem clip_hi {p : Option (Int × Tok)} {j n : Nat} (h : (p = none ∧ j = n) ∨ ∃ t, p = some ((j : Int), t)) : (p.map (·.1)).elim n (clipAt n) = min j n := by
  rcases h with ⟨rfl, rfl⟩ | ⟨t, rfl⟩
  · simp
  · exact clipAt_nat n j

theorem str_bounds (lo hi : Option Int) (n : Nat) : Builtin.Str.strSliceIndices lo hi 1 n = sliceRange ((lo.elim 0 (clipAt n) : Nat) : Int) ((hi.elim n (clipAt n) : Nat) : Int) 1 := by
  cases lo <;> cases hi <;> simp [Builtin.Str.strSliceIndices, clipAt_cast]

theorem slice_sound (S : St cx ι ρ H s) (ok : CxOk cx) {value : Expr} {l u : Option Expr} {p : Pos} {x yl yh : Value} {a lo hi : V} {sl : Addr} {Q : V → Tw.H → Prop} (ra : RepV ι s.heap x a) (rl : RepV ι s.heap yl lo) (rh : RepV ι s.heap yh hi)
    (hs : s.heap.get? sl = some { cls := .type "slice", data := .fields #[yl, yh, .none] }) (h : SliceW a lo hi H Q) :
    wpAny (model prog cx.w) A (PyProof.Rows.subscriptTail value (.Slice l u none p) x (.ref sl)) (Post cx ι ρ s Q) E s := by
  cases a with
  | str w =>
    obtain ⟨y, t, rfl, rfl, z⟩ := ra.strInv
    obtain ⟨i, j, e1, e2, q⟩ := h
    obtain ⟨pl, rfl, _, hl⟩ := part_lo rl e1
    obtain ⟨pu, rfl, _, hu⟩ := part_hi rh e2
    have picked : ((slicePicked y pl pu none).filterMap (y.cps[·]?)) = (y.cps.toList.take j).drop i := by
      unfold slicePicked
      rw [Option.map_none, Option.getD_none, str_bounds, clip_lo hl]
      have hu' : (pu = none ∧ j = y.length) ∨ ∃ t, pu = some ((j : Int), t) := by rw [← len_toList]; exact hu
      rw [clip_hi hu', sliceRange_one, pick_run]
      have := take_drop y.cps.toList i j
      rw [len_toList] at this
      exact this
    have le : ((y.cps.toList.take j).drop i).length ≤ SZ := by
      rw [List.length_drop, List.length_take, len_toList]
      have : min j y.length ≤ y.length := Nat.min_le_right _ _
      omega
    have hT := typeIs_str s y t
    generalize hx : Value.str y t = x at hT
    refine PyProof.Rows.tail_any hT F.slot_str_getitem.lookup ?_ rfl
    subst hx
    refine wpAny_getItem_str_slice (l := pl) (u := pu) (st := none) ⟨_, hs, rfl, rfl⟩ rfl ?_
    have pl' : (slicePicked y pl pu none).length = ((slicePicked y pl pu none).filterMap (y.cps[·]?)).length := by
      unfold slicePicked
      rw [Option.map_none, Option.getD_none, str_bounds, clip_lo hl]
      have hu' : (pu = none ∧ j = y.length) ∨ ∃ t, pu = some ((j : Int), t) := by rw [← len_toList]; exact hu
      rw [clip_hi hu', sliceRange_one, pick_run]
      simp
      have e3 : y.cps.size = y.length := rfl
      rw [e3]
      exact (Nat.min_eq_left (Nat.sub_le_sub_right (Nat.min_le_right _ _) _)).symm
    unfold sliceMade
    split
    · rename_i hc
      simp only [Bool.and_eq_true, beq_iff_eq] at hc
      have sub : ((y.cps.toList.take j).drop i).Sublist y.cps.toList := (List.drop_sublist _ _).trans (List.take_sublist _ _)
      have whole : (y.cps.toList.take j).drop i = y.cps.toList := sub.eq_of_length (by rw [← picked, ← pl', hc.2, len_toList])
      rw [whole] at q
      exact .here S (.str y t z) q
    · refine ⟨?_, ?_⟩
      · show ((slicePicked y pl pu none).filterMap (y.cps[·]?)).toArray.size ≤ sizeLine
        rw [picked, List.size_toArray]; exact le
      · refine .tok S (.strOf (s := (y.cps.toList.take j).drop i) ?_ ?_) q _
        · show ((slicePicked y pl pu none).filterMap (y.cps[·]?)).toArray.toList = _
          rw [picked]
        · show ((slicePicked y pl pu none).filterMap (y.cps[·]?)).toArray.size ≤ SZ
          rw [picked, List.size_toArray]; exact le
  | ref n =>
    obtain ⟨b, rfl, gi⟩ := ra.refI
    obtain ⟨vs, i, j, hH, e1, e2, q⟩ := h
    obtain ⟨pl, rfl, il, hl⟩ := part_lo rl e1
    obtain ⟨pu, rfl, iu, hu⟩ := part_hi rh e2
    have go : ∀ vals : Array Value, s.heap.IsList b vals → RepVs ι s.heap vals.toList vs → vs.length ≤ SZ → wpAny (model prog cx.w) A (PyProof.Rows.subscriptTail value (.Slice l u none p) (.ref b) (.ref sl)) (Post cx ι ρ s Q) E s := by
      intro vals g rv z
      have hn : vals.size = vs.length := by rw [← Array.length_toList, rv.length]
      refine PyProof.Rows.tail_any g.typeIs slot_list_getitem.lookup ?_ rfl
      refine wpAny_getItem_list_slice g ⟨_, hs, rfl, rfl⟩ il iu .none (by simp) ?_ (by rw [hn]; exact z)
      rw [slicePick_plain, hn, clip_lo hl, clip_hi hu]
      have e : (vals.toList.drop (min i vs.length)).take (min j vs.length - min i vs.length) = (vals.toList.take j).drop i := by
        have := take_drop vals.toList i j
        rw [rv.length] at this; exact this
      refine Post.list S ok (vs := (vs.take j).drop i) ?_ ?_ q s.toks
      · show RepVs ι s.heap ((vals.toList.drop (min i vs.length)).take (min j vs.length - min i vs.length)).toArray.toList _
        rw [e]
        exact (rv.take j).drop i
      · rw [List.length_drop, List.length_take]
        have : min j vs.length ≤ vs.length := Nat.min_le_right _ _
        omega
    rcases hH with hH | hH
    · obtain ⟨vals, m, g, rv, z⟩ := S.objOf gi hH
      exact go vals (isList_of g) rv z
    · obtain ⟨vals, g, rv, z⟩ := S.objOf gi hH
      exact go vals g rv z
  | _ => exact h.elim

theorem store_dict (S : St cx ι ρ H s) (hu : A.units + 50 < cLine) {a : Addr} {n ep : Nat} {es : List (V × V)} {y z : Value} {i v : V} {Q : Tw.H → Prop} (gi : ι[n]? = some a) (hH : H[n]? = some (.dict es ep)) (ri : RepV ι s.heap y i) (rv : RepV ι s.heap z v) (hk : i.isKey = true) (hl : es.length < SZ)
    (q : ∀ ver, Q (H.set n (.dict (dput es i v) ver))) : wpAny (model prog cx.w) A (setItem (.ref a) y z) (fun _ s' => ∃ H', Mono ι s ι s' ∧ St cx ι ρ H' s' ∧ Q H') E s := by
  obtain ⟨ents, D⟩ := S.dict gi hH
  have hT : s.TypeIs (.ref a) "dict" := ⟨_, D.get, rfl⟩
  refine wpAny_holding (wpAny_bind (wpAny_sequenceKey hT (by decide) ?_))
  refine wpAny_bind (wpAny_callSpecial?_slot (name := Str.ofString "__setitem__") hT slot_dict_setitem
    (wpAny_call_entry slot_dict_setitem hT entry_dict_setitem ?_ (args_dict_setitem _ _ _)))
  show wpAny _ _ (Builtin.Dict.notOrdered "__setitem__" ⟨[.ref a, y, z], []⟩ >>= _) _ _ s
  refine wpAny_bind (wpAny_notOrdered_dict hT ?_)
  show wpAny _ _ (dictSet a y z >>= _) _ _ s
  refine wpAny_bind (dictSet_key S (by show A.units + 1 + 9 < cLine; omega) gi hH D hl ri rv hk fun ver s' S' M => ?_)
  exact wpAny_pure ⟨.none, rfl, wpAny_pure ⟨_, M, S', q ver⟩⟩
theorem store_sound (S : St cx ι ρ H s) (hu : A.units + 50 < cLine) {x y z : Value} {o i v : V} {Q : Tw.H → Prop} (ro : RepV ι s.heap x o) (ri : RepV ι s.heap y i) (rv : RepV ι s.heap z v) (h : StoreW o i v H Q) :
    wpAny (model prog cx.w) A (setItem x y z) (fun _ s' => ∃ H', Mono ι s ι s' ∧ St cx ι ρ H' s' ∧ Q H') E s := by
  obtain ⟨n, rfl, h1⟩ := asRef.inv h
  clear h
  obtain ⟨a, rfl, gi⟩ := ro.refI
  obtain ⟨ob, hH, _⟩ := S.obj gi
  rw [hH] at h1
  cases ob with
  | frz vs => exact h1.elim
  | list vs => exact h1.elim
  | dict es ep => exact store_dict S hu gi hH ri rv h1.1 h1.2.1 h1.2.2
end
end Tw
end

section
namespace Tw
open PySem PySem.SeqAt

/-! the state without a frame, and the frames that are kept aside -/
structure Wd (w : World) (P : Addr → Obj → Prop) (s0 : Shared) (sc : Addr) (ι : List Addr) (H : H) (s : Shared) : Prop where
  same : ∃ h tk, s = { s0 with heap := h, toks := tk }
  len : ι.length = H.length
  nodup : ι.Nodup
  objs : ∀ (n : Nat) (a : Addr) (o : MO), ι[n]? = some a → H[n]? = some o → RepO w ι s.heap a o
  low : ∀ a ∈ ι, a ≠ sysModules
  scr : ∀ o, s0.heap.get? sc = some o → s.heap.get? sc = some o
  scrI : ∀ (n : Nat), ι[n]? = some sc → ∃ vs, H[n]? = some (.frz vs)
  scrIn : sc ∈ ι
  prot : ∀ a o, P a o → Kp s0 s.heap a o
  protI : ∀ a o, P a o → a ∉ ι

inductive PostW (w : World) (P : Addr → Obj → Prop) (s0 : Shared) (scr : Addr) (ι : List Addr) (s : Shared) (Q : V → H → Prop) (val : Value) (s' : Shared) : Prop
  | mk (v : V) (ι' : List Addr) (H' : H) (M : Mono ι s ι' s') (W : Wd w P s0 scr ι' H' s') (r : RepV ι' s'.heap val v) (q : Q v H')

/-- the frame's own objects, as they are now -/
noncomputable def frameP (cx : Cx) (h : Heap) : Addr → Obj → Prop := fun a o => cx.P a o ∨ ((a = cx.env.locals ∧ ∃ ob, h.get? a = some ob ∧ o = { ob with slots := #[none] }) ∨ (h.get? a = some o ∧ ∃ x, cx.env.cells.lookup x = some a))

section
variable {cx : Cx} {ι ι' : List Addr} {ρ : Rho} {H H' : Tw.H} {s s' : Shared}
theorem St.wd (S : St cx ι ρ H s) : Wd cx.w cx.P cx.s0 cx.scr ι H s := ⟨S.same, S.len, S.nodup, S.objs, S.low, S.scr, S.scrI, S.scrIn, S.prot, S.protI⟩
theorem St.newL (S : St cx ι ρ H s) (ok : CxOk cx) : cx.s0.heap.get? cx.env.locals = none := by
  cases e : cx.s0.heap.get? cx.env.locals with
  | none => rfl
  | some o => exact absurd (ok.base _ o e fun e' => S.nsI (e' ▸ S.scrIn)) (ok.loc o)
theorem St.frL (S : St cx ι ρ H s) : ∃ ob, s.heap.get? cx.env.locals = some ob ∧ Mk { ob with slots := #[none] } := by
  obtain ⟨m, o, es, ep, g, d, _⟩ := S.ns
  exact ⟨o, g, rfl, es, ep, d⟩
theorem St.wdF (S : St cx ι ρ H s) (ok : CxOk cx) : Wd cx.w (frameP cx s.heap) cx.s0 cx.scr ι H s :=
  ⟨S.same, S.len, S.nodup, S.objs, S.low, S.scr, S.scrI, S.scrIn, fun a o p => p.elim (S.prot a o) fun q => q.elim (fun ⟨e, ob, g, eo⟩ => by
      subst e; subst eo
      obtain ⟨o', g', mk⟩ := S.frL
      rw [g] at g'; cases g'
      exact .inr ⟨S.newL ok, mk, ob.slots, g⟩) fun q => .inl q.1,
    fun a o p => p.elim (S.protI a o) fun q => q.elim (fun e => e.1 ▸ S.nsI) fun ⟨_, x, l⟩ => (S.cells x a l).2.1⟩
theorem Wd.nsF {h : Heap} {m : Str → Option Value} (W : Wd cx.w (frameP cx h) cx.s0 cx.scr ι' H' s') (n : h.Ns cx.env.locals m) : s'.heap.Ns cx.env.locals m := by
  obtain ⟨o, es, ep, g, d, r⟩ := n
  obtain ⟨o', g', d'⟩ := (W.prot _ _ (.inr (.inl ⟨rfl, o, g, rfl⟩))).obj
  exact ⟨o', es, ep, g', d'.trans d, r⟩
theorem VarAt.at {env : Env} {h h' : Heap} {x : Str} {val : Value} (v : VarAt env h x val) (hl : ∀ m, h.Ns env.locals m → h'.Ns env.locals m)
    (hc : ∀ x c v, env.cells.lookup x = some c → h.IsCell c v → h'.IsCell c v) : VarAt env h' x val := by
  rcases v with ⟨k, m, n, e⟩ | ⟨k, c, l, i⟩
  · exact .inl ⟨k, m, hl m n, e⟩
  · exact .inr ⟨k, c, l, hc x c _ l i⟩
theorem Wd.cell {P : Addr → Obj → Prop} {w : World} {s0 : Shared} {sc : Addr} (W : Wd w P s0 sc ι' H' s') {h : Heap} {c : Addr} {v : Option Value} (i : h.IsCell c v) (hp : ∀ o, h.get? c = some o → P c o) : s'.heap.IsCell c v := by
  obtain ⟨o, g, d⟩ := i
  obtain ⟨o', g', d'⟩ := (W.prot c o (hp o g)).obj
  exact ⟨o', g', d'.trans d⟩
/-- another went on where the frame's own objects stayed -/
theorem St.back (S : St cx ι ρ H s) (W : Wd cx.w (frameP cx s.heap) cx.s0 cx.scr ι' H' s') (M : Mono ι s ι' s') : St cx ι' ρ H' s' where
  same := W.same
  len := W.len
  nodup := W.nodup
  objs := W.objs
  low := W.low
  scr := W.scr
  scrI := W.scrI
  scrIn := W.scrIn
  prot := fun a o p => W.prot a o (.inl p)
  protI := fun a o p => W.protI a o (.inl p)
  ns := let ⟨m, n⟩ := S.ns; ⟨m, W.nsF n⟩
  nsI := by
    obtain ⟨m, n⟩ := S.ns
    obtain ⟨o, g⟩ := Ns.obj n
    exact W.protI _ _ (.inr (.inl ⟨rfl, o, g, rfl⟩))
  cells := fun x c l => by
    obtain ⟨⟨ov, ic⟩, _, h2⟩ := S.cells x c l
    obtain ⟨o, g⟩ := IsCell.obj ic
    exact ⟨⟨ov, W.cell ic fun o g => .inr (.inr ⟨g, x, l⟩)⟩, W.protI c o (.inr (.inr ⟨g, x, l⟩)), h2⟩
  vars := fun x i v hx hv => by
    obtain ⟨val, va, r⟩ := S.vars x i v hx hv
    exact ⟨val, va.at (fun m n => W.nsF n) fun x c v l i => W.cell i fun o e => .inr (.inr ⟨e, x, l⟩), M.rep r⟩
end

/-! what the program's text says of names -/
structure Sc where
  nm : Str → Option Nat
  gk : Str → Bool
  ck : Str → Bool
  st : Str → Bool
  lim : Nat
  top : Bool

inductive Gl where
  | fn (k : Nat)
  | bi (b : Bi)
  | isinst
  | ty (t : Ty)
  | const (i : Int)
  | exc
  | fam

structure FnRec where
  name : Str
  params : Arguments
  body : List Stmt
  scope : Scope

abbrev Names := Str → Option Gl
abbrev Tab := Nat → Option FnRec

inductive FnAt (h : Heap) (a : Addr) (f : FnRec) : Prop
  | mk (o : Obj) (pm code doc : Value) (g : h.get? a = some o) (d : o.data = .func (Calls.docDef f.name f.params f.body f.scope pm code doc)) (c : h.CodeRec code f.name)
/-- the program's exception class that is raised and caught -/
noncomputable def twoN : Str := "Twofold"
/-- the classes behind an exception class of the program's own -/
noncomputable def excM : List Value := [.type "ValueError", .type "Exception", .type "BaseException", .type "object"]
noncomputable def quiet9 : List Str := ["__init__", "__getattribute__", "__getattr__", "args", "__class__"]
inductive ExcAt (h : Heap) (C : Addr) (tl : List Value) : Prop
  | mk (N : Addr) (nm q : Str) (bs : List Value) (hdct : Bool) (sn : List Str) (sub : List Value) (ab : Bool) (col : Option Bool) (dd : Option Addr) (k0 k1 k2 k3 k5 : Option Value) (mN : Str → Option Value)
      (hC : h.get? C = some (excClassObj nm q C N bs tl hdct sn sub ab col dd k0 k1 k2 k3 k5 "ValueError.__new__")) (hN : h.Ns N mN) (hq : ∀ n ∈ quiet9, mN n = none)
theorem ExcAt.keeps {h h' : Heap} {C : Addr} {tl : List Value} (x : ExcAt h C tl) (hk : ∀ b o, h.get? b = some o → h'.get? b = some o) : ExcAt h' C tl := by
  obtain ⟨N, nm, q, bs, hdct, sn, sub, ab, col, dd, k0, k1, k2, k3, k5, mN, g, n, r⟩ := x
  exact ⟨N, nm, q, bs, hdct, sn, sub, ab, col, dd, k0, k1, k2, k3, k5, mN, hk _ _ g, n.keeps hk, r⟩
/-- the program's exception classes: Twofold, MachineError, BadMachine, TooGreat -/
structure Fam (h : Heap) (mg : Str → Option Value) (C M B G : Addr) : Prop where
  nC : mg twoN = some (.ref C)
  nM : mg "MachineError" = some (.ref M)
  nB : mg "BadMachine" = some (.ref B)
  nG : mg "TooGreat" = some (.ref G)
  xC : ExcAt h C (.ref M :: excM)
  xM : ExcAt h M excM
  xB : ExcAt h B (.ref M :: excM)
  xG : ExcAt h G (.ref M :: excM)
  dB : B ≠ C ∧ B ≠ M
  dG : G ≠ C ∧ G ≠ M
/-- what a global name is -/
noncomputable def IsGl (T : Tab) (h : Heap) (mg mb : Str → Option Value) (x : Str) : Gl → Prop
  | .fn k => ∃ a f, mg x = some (.ref a) ∧ T k = some f ∧ FnAt h a f
  | .bi b => mg x = none ∧ mb x = some b.py
  | .isinst => mg x = none ∧ mb x = some (.builtin "isinstance")
  | .ty t => mg x = none ∧ mb x = some t.py
  | .const i => ∃ t, mg x = some (.int i t)
  | .exc => ∃ C, PyProof.Rows.OwnClsQ x C excM "ValueError.__new__" mg h
  | .fam => ∃ C M B G, mg x = some (.ref M) ∧ Fam h mg C M B G ∧ mg "ValueError" = none ∧ mb "ValueError" = some (.type "ValueError")

structure Gd (G : Names) (T : Tab) (s0 : Shared) (scr : Addr) : Prop where
  ns : ∃ mg mb, s0.heap.Ns mainGlobals mg ∧ s0.heap.Ns builtinsNs mb ∧ ∀ x g, G x = some g → IsGl T s0.heap mg mb x g
  scrG : mainGlobals ≠ scr
  scrB : builtinsNs ≠ scr
  fns : ∀ k f, T k = some f → ∃ a, FnAt s0.heap a f
  notScr : ∀ a f, FnAt s0.heap a f → a ≠ scr
  lim : s0.heap.NoLimit
  code : ∀ c n, s0.heap.CodeRec c n → ∀ h' : Heap, (∀ b o, s0.heap.get? b = some o → b ≠ scr → h'.get? b = some o) → h'.CodeRec c n
  lim' : ∀ h' : Heap, (∀ b o, s0.heap.get? b = some o → b ≠ scr → h'.get? b = some o) → h'.NoLimit
  low : ∃ o, s0.heap.get? sysModules = some o ∧ sysModules ≠ scr

structure Fit (sc : Sc) (cx : Cx) : Prop where
  nm : ∀ x, cx.nm x = sc.nm x
  st : ∀ x, cx.st x = sc.st x
  gk : ∀ x, sc.gk x = true → cx.env.kindOf x = some .globalImplicit ∧ (x == ("__debug__" : Str)) = false
  ck : ∀ x, sc.ck x = true → (cx.env.kindOf x = some .cell ∨ cx.env.kindOf x = some .free) ∧ ∃ c, cx.env.cells.lookup x = some c
  stk : ∀ x, sc.st x = true → cx.env.kindOf x = some .local ∨ cx.env.kindOf x = some .cell
  lim : ∀ x i, sc.nm x = some i → i < sc.lim
  lo : ∀ x, sc.st x = true → sc.ck x = false → cx.env.kindOf x = some .local

noncomputable def Bnd (n : Nat) (ρ : Rho) : Prop := ∀ i, n ≤ i → ρ i = none

/-- the frames of the stack: their names stay, up to what the model notes beside them -/
noncomputable def FrOne (P : Addr → Obj → Prop) (s0 : Shared) (env : Env) : Prop := env.scope.kind ≠ .module ∧ ∃ L, env.frame = some L ∧ s0.heap.get? L = none ∧ (∃ o, P L o) ∧ ∀ o, P L o → Mk o
noncomputable def FrW (A : Around) (P : Addr → Obj → Prop) (s0 : Shared) : Prop := ∃ l, A.frames = some l ∧ ∀ env ∈ l, FrOne P s0 env
noncomputable def FrAt (cx : Cx) (env : Env) : Prop := env.scope.kind ≠ .module ∧ ∃ L, env.frame = some L ∧ cx.s0.heap.get? L = none ∧ (L = cx.env.locals ∨ ((∃ o, cx.P L o) ∧ ∀ o, cx.P L o → Mk o))
noncomputable def FrX (top : Bool) (cx : Cx) (A : Around) : Prop := ∃ l, A.frames = some l ∧ (top = true → ∃ r, l = cx.env :: r ∧ cx.env.frame = some cx.env.locals) ∧ ∀ env ∈ l, FrAt cx env
theorem FrAt.one {cx : Cx} {ι : List Addr} {ρ : Rho} {H : H} {s : Shared} {env : Env} (x : FrAt cx env) (S : St cx ι ρ H s) (ok : CxOk cx) : FrOne (frameP cx s.heap) cx.s0 env := by
  obtain ⟨k, L, f, n, r⟩ := x
  obtain ⟨ob, g, mk⟩ := S.frL
  refine ⟨k, L, f, n, ?_⟩
  rcases r with rfl | ⟨⟨o, po⟩, all⟩
  · refine ⟨⟨_, .inr (.inl ⟨rfl, ob, g, rfl⟩)⟩, fun o q => ?_⟩
    rcases q with q | ⟨_, ob', g', rfl⟩ | ⟨g', y, l⟩
    · exact absurd q (ok.loc o)
    · rw [g] at g'; cases g'; exact mk
    · exact absurd rfl (S.cells y _ l).2.2
  · refine ⟨⟨o, .inl po⟩, fun o' q => ?_⟩
    rcases q with q | ⟨rfl, _⟩ | ⟨g', y, l⟩
    · exact all _ q
    · exact absurd po (ok.loc o)
    · obtain ⟨⟨ov, oc, gc, dc⟩, _⟩ := S.cells y _ l
      obtain ⟨o₂, g₂, d₂⟩ := (S.prot _ _ po).obj
      obtain ⟨_, es, n, d⟩ := all _ po
      rw [gc] at g₂; cases g₂
      rw [dc, d] at d₂; cases d₂
theorem FrX.w {top : Bool} {cx : Cx} {A : Around} {ι : List Addr} {ρ : Rho} {H : H} {s : Shared} (x : FrX top cx A) (S : St cx ι ρ H s) (ok : CxOk cx) : FrW A (frameP cx s.heap) cx.s0 :=
  let ⟨l, e, _, h⟩ := x; ⟨l, e, fun env he => (h env he).one S ok⟩
theorem FrX.keep {top : Bool} {cx : Cx} {A : Around} (x : FrX top cx A) {a : Addr} (as : Aside cx a) (o : Obj) : FrX top (cx.keep a o) A := by
  obtain ⟨l, e, t, h⟩ := x
  refine ⟨l, e, t, fun env he => ?_⟩
  obtain ⟨k, L, f, n, r⟩ := h env he
  refine ⟨k, L, f, n, r.imp id fun ⟨⟨o', po⟩, all⟩ => ⟨⟨o', .inl po⟩, fun o₂ q => ?_⟩⟩
  rcases q with q | ⟨rfl, _⟩
  · exact all _ q
  · exact absurd po (as.np o')

/-- what stays while an exception flies: all but the frames, and these up to what is noted beside them -/
structure Sv (P : Addr → Obj → Prop) (s0 : Shared) (ι : List Addr) (h base : Heap) (fs : List Addr) : Prop where
  has : ∀ b o, h.get? b = some o → b ∉ fs → base.get? b = some o
  out : ∀ b ∈ fs, b ∉ ι
  mkd : ∀ b ∈ fs, ∀ o, P b o → s0.heap.get? b = none ∧ Mk o
  dict : ∀ b ∈ fs, ∀ o, h.get? b = some o → ∃ es n, o.data = .dict es n
theorem Sv.wd {w : World} {P : Addr → Obj → Prop} {s0 : Shared} {scr : Addr} {ι : List Addr} {H : H} {s : Shared} {base h' : Heap} {fs : List Addr} (V : Sv P s0 ι s.heap base fs) (W : Wd w P s0 scr ι H s) (st : base.StaysIn h') (up : s.heap.UpToSlots h') :
    Wd w P s0 scr ι H { s with heap := h' } ∧ Mono ι s ι { s with heap := h' } := by
  have keep : ∀ b o, s.heap.get? b = some o → b ∉ fs → h'.get? b = some o := fun b o e n => st b o (V.has b o e n)
  have imm : Imm s.heap h' := fun b o e i => keep b o e fun hm => by
    obtain ⟨es, n, d⟩ := V.dict b hm o e
    exact notImm_dict d i
  refine ⟨?_, List.prefix_refl _, imm⟩
  exact {
    same := by obtain ⟨h, t, rfl⟩ := W.same; exact ⟨h', t, rfl⟩
    len := W.len
    nodup := W.nodup
    objs := fun n a o hn ho => (W.objs n a o hn ho).mono (List.prefix_refl _) imm fun ob e => keep _ _ e fun hm => V.out a hm (List.mem_of_getElem? hn)
    low := W.low
    scr := fun o e => keep _ _ (W.scr o e) fun hm => V.out _ hm W.scrIn
    scrI := W.scrI
    scrIn := W.scrIn
    prot := fun a o p => by
      by_cases hm : a ∈ fs
      · obtain ⟨n0, mk⟩ := V.mkd a hm o p
        have hk := W.prot a o p
        have : ∃ sl, s.heap.get? a = some { o with slots := sl } := hk.elim (fun e => ⟨o.slots, e⟩) fun e => e.2.2
        obtain ⟨sl, e⟩ := this
        obtain ⟨_, es, n, d⟩ := mk
        obtain ⟨sl', e'⟩ := up a _ e fun vs q => by rw [show ({ o with slots := sl } : Obj).data = o.data from rfl, d] at q; cases q
        exact .inr ⟨n0, ⟨by assumption, es, n, d⟩, sl', e'⟩
      · exact (W.prot a o p).mono fun o' e => keep a o' e hm
    protI := W.protI }

inductive PostE (w : World) (P : Addr → Obj → Prop) (s0 : Shared) (scr : Addr) (l : List Env) (ι : List Addr) (s : Shared) (Q : V → H → Prop) (e : Value) (s' : Shared) : Prop
  | mk (a C : Addr) (mg : Str → Option Value) (a0 : Value) (ι' : List Addr) (H' : H) (h base : Heap) (fs : List Addr) (he : e = .ref a) (g : s0.heap.Ns mainGlobals mg) (O : PyProof.Rows.OwnClsQ twoN C excM "ValueError.__new__" mg s0.heap)
      (M : Mono ι s ι' { s' with heap := h }) (W : Wd w P s0 scr ι' H' { s' with heap := h }) (V : Sv P s0 ι' h base fs) (F : Heap.FlyingW base l a (.ref C) a0 s'.heap) (U : h.UpToSlots s'.heap) (q : Q (.bool true) H')

/-- calls answer as the oracle says -/
noncomputable def CallOk (prog : Program) (G : Names) (T : Tab) (C : Ora) (d : Nat) : Prop :=
  ∀ {w : World} {P : Addr → Obj → Prop} {s0 : Shared} {scr : Addr} {ι : List Addr} {H : H} {s : Shared} {A : Around} {k : Nat} {f : FnRec} {a : Addr} {vals : List Value} {vs : List V} {Q : V → Tw.H → Prop} {E : Value → Shared → Prop},
    Gd G T s0 scr → (∀ a o, s0.heap.get? a = some o → a ≠ scr → P a o) → Wd w P s0 scr ι H s → FrW A P s0 → AOk A d → T k = some f → FnAt s0.heap a f → RepVs ι s.heap vals vs → C k vs H Q →
    wpAny (model prog w) A (call (.ref a) vals) (PostW w P s0 scr ι s Q) E s
/-- a call that may raise the program's own exception: the oracle's answer (number 1000 and more) says whether it did -/
noncomputable def TryOk (prog : Program) (G : Names) (T : Tab) (C : Ora) (d : Nat) : Prop :=
  ∀ {w : World} {P : Addr → Obj → Prop} {s0 : Shared} {scr : Addr} {ι : List Addr} {H : H} {s : Shared} {A : Around} {k : Nat} {f : FnRec} {a : Addr} {vals : List Value} {vs : List V} {Q : V → Tw.H → Prop} {l : List Env},
    Gd G T s0 scr → (∀ a o, s0.heap.get? a = some o → a ≠ scr → P a o) → Wd w P s0 scr ι H s → A.frames = some l → (∀ env ∈ l, FrOne P s0 env) → AOk A d → T k = some f → FnAt s0.heap a f → RepVs ι s.heap vals vs → C (1000 + k) vs H Q →
    wpAny (model prog w) A (call (.ref a) vals) (fun _ s' => ∃ v, PostW w P s0 scr ι s (fun _ H' => Q (.bool false) H') v s') (PostE w P s0 scr l ι s Q) s

structure Pg where
  prog : Program
  G : Names
  T : Tab

structure At (p : Pg) (sc : Sc) (C : Ora) (d : Nat) (cx : Cx) (A : Around) : Prop where
  call : CallOk p.prog p.G p.T C d
  «try» : TryOk p.prog p.G p.T C d
  fr : FrX sc.top cx A
  ok : CxOk cx
  fit : Fit sc cx
  gd : Gd p.G p.T cx.s0 cx.scr
  ao : AOk A d

noncomputable def SndE (p : Pg) (sc : Sc) (e : Expr) (e' : E) : Prop :=
  ∀ {C : Ora} {d : Nat} {cx : Cx} {A : Around} {ι : List Addr} {ρ : Rho} {H : H} {s : Shared} {Q : V → Tw.H → Prop} {E : Value → Shared → Prop},
    At p sc C d cx A → St cx ι ρ H s → Bnd sc.lim ρ → wpE C e' ρ H Q → wpAny (model p.prog cx.w) A (eval e cx.env) (Post cx ι ρ s Q) E s

inductive PostT (cx : Cx) (ι : List Addr) (ρ : Rho) (s : Shared) (Q : Bool → H → Prop) (b : Bool) (s' : Shared) : Prop
  | mk (ι' : List Addr) (H' : H) (M : Mono ι s ι' s') (S : St cx ι' ρ H' s') (q : Q b H')

noncomputable def SndT (p : Pg) (sc : Sc) (e : Expr) (e' : E) : Prop :=
  ∀ {C : Ora} {d : Nat} {cx : Cx} {A : Around} {ι : List Addr} {ρ : Rho} {H : H} {s : Shared} {Q : Bool → Tw.H → Prop} {E : Value → Shared → Prop},
    At p sc C d cx A → St cx ι ρ H s → Bnd sc.lim ρ → wpT C e' ρ H Q → wpAny (model p.prog cx.w) A (isTrue e cx.env (eval e cx.env)) (PostT cx ι ρ s Q) E s

inductive PostL (cx : Cx) (ι : List Addr) (ρ : Rho) (s : Shared) (Q : List V → H → Prop) (vals : List Value) (s' : Shared) : Prop
  | mk (vs : List V) (ι' : List Addr) (H' : H) (M : Mono ι s ι' s') (S : St cx ι' ρ H' s') (r : RepVs ι' s'.heap vals vs) (q : Q vs H')

noncomputable def SndEs (p : Pg) (sc : Sc) (es : List Expr) (es' : List E) : Prop :=
  es.length = es'.length ∧ (∀ env, (starEach es env).any (·.1) = false) ∧
  ∀ {C : Ora} {d : Nat} {cx : Cx} {A : Around} {ι : List Addr} {ρ : Rho} {H : H} {s : Shared} {Q : List V → Tw.H → Prop} {E : Value → Shared → Prop} (pos : Pos),
    At p sc C d cx A → St cx ι ρ H s → Bnd sc.lim ρ → wpEs C es' ρ H Q → wpAny (model p.prog cx.w) A (spliced (backTo pos (starEach es cx.env))) (fun vals s' => vals.length = es.length ∧ PostL cx ι ρ s Q vals s') E s

noncomputable def FlowIs (ι : List Addr) (h : Heap) (o : Out) (f : Flow) : Prop := match o with
  | .next => (match f with | .next => True | _ => False)
  | .ret v => (match f with | .ret val => RepV ι h val v | _ => False)
/-- what is said of names behind a statement: nothing where the function is left -/
noncomputable def retR (o : Out) (ρ : Rho) : Rho := match o with
  | .next => ρ
  | .ret _ => fun _ => none
theorem St.ret {cx : Cx} {ι : List Addr} {ρ : Rho} {H : H} {s : Shared} (S : St cx ι ρ H s) : St cx ι (fun _ => none) H s := S.rho fun _ _ _ _ h => nomatch h
inductive PostS (sc : Sc) (cx : Cx) (ι : List Addr) (s : Shared) (Q : Out → Rho → H → Prop) (f : Flow) (s' : Shared) : Prop
  | mk (o : Out) (ρ' : Rho) (ι' : List Addr) (H' : H) (M : Mono ι s ι' s') (S : St cx ι' (retR o ρ') H' s') (b : Bnd sc.lim ρ') (fl : FlowIs ι' s'.heap o f) (q : Q o ρ' H')

noncomputable def SndS (p : Pg) (sc : Sc) (e : Stmt) (e' : S) : Prop :=
  ∀ {C : Ora} {d : Nat} {cx : Cx} {A : Around} {ι : List Addr} {ρ : Rho} {H : H} {s : Shared} {Q : Out → Rho → Tw.H → Prop} {E : Value → Shared → Prop},
    At p sc C d cx A → St cx ι ρ H s → Bnd sc.lim ρ → wpS C e' ρ H Q → wpAny (model p.prog cx.w) A (exec e cx.env) (PostS sc cx ι s Q) E s
noncomputable def SndB (p : Pg) (sc : Sc) (e : List Stmt) (e' : List S) : Prop :=
  ∀ {C : Ora} {d : Nat} {cx : Cx} {A : Around} {ι : List Addr} {ρ : Rho} {H : H} {s : Shared} {Q : Out → Rho → Tw.H → Prop} {E : Value → Shared → Prop},
    At p sc C d cx A → St cx ι ρ H s → Bnd sc.lim ρ → wpB C e' ρ H Q → wpAny (model p.prog cx.w) A (execs e cx.env) (PostS sc cx ι s Q) E s

/-! small things shared by the rules -/
section
variable {cx : Cx} {ι ι' : List Addr} {ρ : Rho} {H H' : Tw.H} {s s' : Shared}
theorem Post.after {Q : V → Tw.H → Prop} (M : Mono ι s ι' s') {val : Value} {s'' : Shared} (p : Post cx ι' ρ s' Q val s'') : Post cx ι ρ s Q val s'' := by
  obtain ⟨v, ι₂, H₂, M₂, S₂, r, q⟩ := p; exact ⟨v, ι₂, H₂, M.trans M₂, S₂, r, q⟩
theorem PostT.after {Q : Bool → Tw.H → Prop} (M : Mono ι s ι' s') {val : Bool} {s'' : Shared} (p : PostT cx ι' ρ s' Q val s'') : PostT cx ι ρ s Q val s'' := by
  obtain ⟨ι₂, H₂, M₂, S₂, q⟩ := p; exact ⟨ι₂, H₂, M.trans M₂, S₂, q⟩
theorem PostS.after {sc : Sc} {Q : Out → Rho → Tw.H → Prop} (M : Mono ι s ι' s') {val : Flow} {s'' : Shared} (p : PostS sc cx ι' s' Q val s'') : PostS sc cx ι s Q val s'' := by
  obtain ⟨v, ρ₂, ι₂, H₂, M₂, S₂, b, r, q⟩ := p; exact ⟨v, ρ₂, ι₂, H₂, M.trans M₂, S₂, b, r, q⟩
theorem At.keep {p : Pg} {sc : Sc} {C : Ora} {d : Nat} {A : Around} (a : At p sc C d cx A) {b : Addr} (as : Aside cx b) (o : Obj) : At p sc C d (cx.keep b o) A :=
  ⟨a.call, a.try, a.fr.keep as o, a.ok.keepA as o, { a.fit with }, a.gd, a.ao⟩
end
end Tw
end

section
namespace Tw
open PySem PySem.SeqAt

theorem mono' {α : Type} {M : Model} {A : Around} {m : Sem α} {Q Q' : α → Shared → Prop} {E : Value → Shared → Prop} {s : Shared} (h : wpAny M A m Q E s) (f : ∀ a s', Q a s' → Q' a s') : wpAny M A m Q' E s :=
  wpAny_mono h f fun _ _ e => e

section
variable {p : Pg} {sc : Sc}

/-! constants -/
theorem snd_none {k : Nat} {pos : Pos} : SndE p sc (.Constant .none k pos) (.lit .none) := fun _ S _ h => wpAny_Constant_none (.here S .none h)
theorem snd_bool {b : Bool} {k : Nat} {pos : Pos} : SndE p sc (.Constant (.bool b) k pos) (.lit (.bool b)) := fun _ S _ h => wpAny_Constant_bool (.here S (.bool b) h)
theorem snd_int {i : Int} {k : Nat} {pos : Pos} : SndE p sc (.Constant (.int i) k pos) (.lit (.int i)) := fun _ S _ h => wpAny_Constant_int (.tok S (.int i _) h _)
theorem snd_str {x : Str} {k : Nat} {pos : Pos} (hx : x.length ≤ SZ) : SndE p sc (.Constant (.str x) k pos) (.lit (.str x.cps.toList)) := fun _ S _ h => wpAny_Constant_str (.tok S (.str x _ hx) h _)

/-! names -/
theorem load_var {cx : Cx} {A : Around} {prog : Program} {s : Shared} {x : Str} {val : Value} {Q : Value → Shared → Prop} {E : Value → Shared → Prop} (ok : CxOk cx) {i : Nat} (hx : cx.nm x = some i) (v : VarAt cx.env s.heap x val) (q : Q val s) :
    wpAny (model prog cx.w) A (loadName cx.env x) Q E s := by
  rcases v with ⟨k, m, n, e⟩ | ⟨k | k, c, l, i⟩
  · exact wpAny_loadName_local ok.fn k n e q
  · exact wpAny_loadName_cell ok.fn k l i q
  · exact wpAny_loadName_free ok.fn k l i q (ok.plain x _ hx).2
theorem snd_var {x : Str} {i : Nat} {pos : Pos} (hx : sc.nm x = some i) : SndE p sc (.Name x pos) (.var i) := fun {C d cx A ι ρ H s Q E} a S _ h => by
  obtain ⟨v, hv, q⟩ := vK.inv h
  have hx' : cx.nm x = some i := (a.fit.nm x).trans hx
  obtain ⟨val, va, r⟩ := S.vars x i v hx' hv
  exact wpAny_Name (load_var a.ok hx' va (.here S r q)) (a.ok.plain x i hx').1

theorem St.globals {cx : Cx} {ι : List Addr} {ρ : Rho} {H : H} {s : Shared} {G : Names} {T : Tab} (S : St cx ι ρ H s) (ok : CxOk cx) (g : Gd G T cx.s0 cx.scr) :
    ∃ mg mb, s.heap.Ns mainGlobals mg ∧ s.heap.Ns builtinsNs mb ∧ cx.s0.heap.Ns mainGlobals mg ∧ cx.s0.heap.Ns builtinsNs mb ∧ ∀ x g, G x = some g → IsGl T cx.s0.heap mg mb x g := by
  obtain ⟨mg, mb, h1, h2, h3⟩ := g.ns
  exact ⟨mg, mb, h1.at' fun o e => (S.prot _ o (ok.base _ o e g.scrG)).base e, h2.at' fun o e => (S.prot _ o (ok.base _ o e g.scrB)).base e, h1, h2, h3⟩

noncomputable def GlIs (p : Pg) (cx : Cx) (x : Str) (v : Value) : Gl → Prop
  | .fn k => ∃ b f, v = .ref b ∧ p.T k = some f ∧ FnAt cx.s0.heap b f
  | .bi b => v = b.py
  | .isinst => v = .builtin "isinstance"
  | .ty t => v = t.py
  | .const i => ∃ t, v = .int i t
  | .exc => ∃ C mg, v = .ref C ∧ cx.s0.heap.Ns mainGlobals mg ∧ PyProof.Rows.OwnClsQ x C excM "ValueError.__new__" mg cx.s0.heap
  | .fam => ∃ C M B G mg mb, v = .ref M ∧ cx.s0.heap.Ns mainGlobals mg ∧ cx.s0.heap.Ns builtinsNs mb ∧ Fam cx.s0.heap mg C M B G ∧ mg "ValueError" = none ∧ mb "ValueError" = some (.type "ValueError")
theorem load_global {cx : Cx} {A B : Around} {d : Nat} {C : Ora} {ι : List Addr} {ρ : Rho} {H : H} {s : Shared} {x : Str} {pos : Pos} {g : Gl} {Q : Value → Shared → Prop} {E : Value → Shared → Prop} (a : At p sc C d cx A) (S : St cx ι ρ H s)
    (hk : sc.gk x = true) (hg : p.G x = some g)
    (q : ∀ v, GlIs p cx x v g → Q v s) :
    wpAny (model p.prog cx.w) B (eval (.Name x pos) cx.env) Q E s := by
  obtain ⟨mg, mb, n1, n2, n0, nb, h3⟩ := S.globals a.ok a.gd
  obtain ⟨k1, k2⟩ := a.fit.gk x hk
  have h := h3 x g hg
  rw [← a.ok.gl] at n1
  rw [← a.ok.bl] at n2
  refine Calls.Name_function_global a.ok.fn k1 ?_ k2
  cases g with
  | fn k => obtain ⟨b, f, e, t, at'⟩ := h; exact Calls.loadGlobal_global n1 e (q _ ⟨b, f, rfl, t, at'⟩)
  | bi b => exact Calls.loadGlobal_builtin n1 h.1 n2 h.2 (q _ rfl)
  | isinst => exact Calls.loadGlobal_builtin n1 h.1 n2 h.2 (q _ rfl)
  | ty t => exact Calls.loadGlobal_builtin n1 h.1 n2 h.2 (q _ rfl)
  | const i => obtain ⟨t, e⟩ := h; exact Calls.loadGlobal_global n1 e (q _ ⟨t, rfl⟩)
  | exc => obtain ⟨C, O⟩ := h; exact Calls.loadGlobal_global n1 O.bound (q _ ⟨C, mg, rfl, n0, O⟩)
  | fam => obtain ⟨C, M, B, G, e, X⟩ := h; exact Calls.loadGlobal_global n1 e (q _ ⟨C, M, B, G, mg, mb, rfl, n0, nb, X⟩)
theorem snd_const {x : Str} {i : Int} {pos : Pos} (hk : sc.gk x = true) (hg : p.G x = some (.const i)) : SndE p sc (.Name x pos) (.lit (.int i)) := fun a S _ h =>
  load_global a S hk hg fun v e => by obtain ⟨t, rfl⟩ := e; exact .here S (.int i t) h

/-! operators -/
theorem snd_bin {l r : Expr} {pos : Pos} {op : Bop} {a b : E} (h1 : SndE p sc l a) (h2 : SndE p sc r b) : SndE p sc (.BinOp l op.py r pos) (.bin op a b) := fun at' S hb h => by
  refine wpAny_BinOp (mono' (h1 at' S hb h) fun x s₁ ⟨va, ι₁, H₁, M₁, S₁, r₁, q₁⟩ => mono' (h2 at' S₁ hb q₁) fun y s₂ ⟨vb, ι₂, H₂, M₂, S₂, r₂, q₂⟩ => ?_)
  exact mono' (bin_sound S₂ at'.ok (M₂.rep r₁) r₂ q₂) fun _ _ P => (P.after M₂).after M₁
theorem snd_neg {l : Expr} {pos : Pos} {a : E} (h1 : SndE p sc l a) : SndE p sc (.UnaryOp .USub l pos) (.neg a) := fun at' S hb h => by
  refine wpAny_UnaryOp (mono' (h1 at' S hb h) fun x s₁ ⟨va, ι₁, H₁, M₁, S₁, r₁, q₁⟩ => ?_)
  cases r₁ with
  | int i t => exact P.neg_int (Post.after M₁ (.tok S₁ (.int _ _) q₁ _))
  | _ => exact q₁.elim

theorem truth_sound {M : Model} {A : Around} {ι : List Addr} {H : H} {s : Shared} {x : Value} {v : V} {Q : Bool → Prop} {E : Value → Shared → Prop} (r : RepV ι s.heap x v) (h : truth v H Q) : wpAny M A (truthy x) (fun b s' => s' = s ∧ Q b) E s := by
  cases r with
  | none => exact fun _ _ _ => ⟨rfl, h⟩
  | bool b => exact fun _ _ _ => ⟨rfl, h⟩
  | _ => exact h.elim
theorem snd_not {l : Expr} {pos : Pos} {a : E} (h1 : SndE p sc l a) : SndE p sc (.UnaryOp .Not l pos) (.not a) := fun at' S hb h => by
  refine wpAny_UnaryOp (mono' (h1 at' S hb h) fun x s₁ ⟨va, ι₁, H₁, M₁, S₁, r₁, q₁⟩ => ?_)
  refine not_value (mono' (truth_sound r₁ q₁) fun b s₂ ⟨e, q₂⟩ => ?_)
  subst e; exact Post.after M₁ (.here S₁ (.bool _) q₂)

/-- tests by value -/
theorem sndT_value {e : Expr} {e' : E} (h1 : SndE p sc e e') (he : ∀ env whole, isTrue e env whole = (do let v ← whole; standAt e.pos; holding [v] (truthy v)))
    (hw : ∀ C ρ H Q, wpT C e' ρ H Q → wpE C e' ρ H fun v h => truth v h fun b => Q b h) : SndT p sc e e' := fun at' S hb h => by
  refine wpAny_isTrue_value (mono' (h1 at' S hb (hw _ _ _ _ h)) fun x s₁ ⟨va, ι₁, H₁, M₁, S₁, r₁, q₁⟩ => ?_) (he _ _)
  exact mono' (truth_sound r₁ q₁) fun b s₂ ⟨e, q₂⟩ => by subst e; exact ⟨ι₁, H₁, M₁, S₁, q₂⟩
theorem sndT_never {e : Expr} {e' : E} (hw : ∀ C ρ H Q, wpT C e' ρ H Q → False) : SndT p sc e e' := fun _ _ _ h => (hw _ _ _ _ h).elim
theorem sndT_not {l : Expr} {pos : Pos} {a : E} (h1 : SndT p sc l a) : SndT p sc (.UnaryOp .Not l pos) (.not a) := fun at' S hb h =>
  wpAny_isTrue_Not (mono' (h1 at' S hb h) fun _ _ ⟨ι₁, H₁, M₁, S₁, q₁⟩ => ⟨ι₁, H₁, M₁, S₁, q₁⟩)

/-! and, or -/
/-- e' is what a list of operands, from the left, is -/
inductive Chain (p : Pg) (sc : Sc) (and : Bool) : List Expr → E → Prop
  | one {e : Expr} {e' : E} : SndE p sc e e' → SndT p sc e e' → Chain p sc and [e] e'
  | more {e e₂ : Expr} {r : List Expr} {e' r' : E} : SndE p sc e e' → SndT p sc e e' → Chain p sc and (e₂ :: r) r' → Chain p sc and (e :: e₂ :: r) (if and then .and e' r' else .or e' r')

theorem boolOp_step {M : Model} {A : Around} {env : Env} {pos : Pos} {op : BoolOp} {x y : Expr} {r : List Expr} {s : Shared} {Q : Value → Shared → Prop} {E : Value → Shared → Prop}
    (h : wpAny M A (eval x env) (fun v s₁ => wpAny M A (truthy v) (fun t s₂ => if (t == (op == .And)) then wpAny M A (boolOp pos op (evalEach (y :: r) env)) Q E s₂ else Q v s₂) E s₁) E s) :
    wpAny M A (boolOp pos op (evalEach (x :: y :: r) env)) Q E s := by
  show wpAny M A (do
    let v ← eval x env
    standAt pos
    let t ← holding [v] (truthy v)
    match op, t with
    | .And, false | .Or, true => pure v
    | _, _ => boolOp pos op (evalEach (y :: r) env)) Q E s
  refine wpAny_bind (mono' h fun v s₁ h₁ => wpAny_bind (wpAny_standAt (wpAny_bind (wpAny_holding (mono' h₁ fun t s₂ h₂ => ?_)))))
  cases op <;> cases t <;> first | exact wpAny_pure h₂ | exact h₂

theorem chainE {and : Bool} {es : List Expr} {e' : E} (c : Chain p sc and es e') : ∀ {C : Ora} {d : Nat} {cx : Cx} {A : Around} {ι : List Addr} {ρ : Rho} {H : H} {s : Shared} {Q : V → Tw.H → Prop} {E : Value → Shared → Prop} {pos : Pos},
    At p sc C d cx A → St cx ι ρ H s → Bnd sc.lim ρ → wpE C e' ρ H Q → wpAny (model p.prog cx.w) A (boolOp pos (if and then .And else .Or) (evalEach es cx.env)) (Post cx ι ρ s Q) E s := by
  induction c with
  | one h1 _ => intro C d cx A ι ρ H s Q E pos at' S hb h; exact h1 at' S hb h
  | more h1 _ _ ih =>
    intro C d cx A ι ρ H s Q E pos at' S hb h
    refine boolOp_step ?_
    cases and with
    | true =>
      refine mono' (h1 at' S hb h) fun x s₁ ⟨va, ι₁, H₁, M₁, S₁, r₁, q₁⟩ => mono' (truth_sound r₁ q₁) fun t s₂ ⟨e, q₂⟩ => ?_
      subst e
      cases t with
      | true => exact mono' (ih (pos := pos) at' S₁ hb q₂) fun _ _ P => P.after M₁
      | false => exact Post.after M₁ (.here S₁ r₁ q₂)
    | false =>
      refine mono' (h1 at' S hb h) fun x s₁ ⟨va, ι₁, H₁, M₁, S₁, r₁, q₁⟩ => mono' (truth_sound r₁ q₁) fun t s₂ ⟨e, q₂⟩ => ?_
      subst e
      cases t with
      | false => exact mono' (ih (pos := pos) at' S₁ hb q₂) fun _ _ P => P.after M₁
      | true => exact Post.after M₁ (.here S₁ r₁ q₂)
theorem chainT {and : Bool} {es : List Expr} {e' : E} (c : Chain p sc and es e') : ∀ {C : Ora} {d : Nat} {cx : Cx} {A : Around} {ι : List Addr} {ρ : Rho} {H : H} {s : Shared} {Q : Bool → Tw.H → Prop} {E : Value → Shared → Prop},
    At p sc C d cx A → St cx ι ρ H s → Bnd sc.lim ρ → wpT C e' ρ H Q → wpAny (model p.prog cx.w) A (allTrue (if and then .And else .Or) es cx.env) (PostT cx ι ρ s Q) E s := by
  induction c with
  | one _ h1 =>
    intro C d cx A ι ρ H s Q E at' S hb h
    cases and with
    | true =>
      refine wpAny_allTrue_And_cons (mono' (h1 at' S hb h) fun b s₁ P => ?_)
      cases b with
      | true => exact wpAny_allTrue_And_nil P
      | false => exact P
    | false =>
      refine wpAny_allTrue_Or_cons (mono' (h1 at' S hb h) fun b s₁ P => ?_)
      cases b with
      | true => exact P
      | false => exact wpAny_allTrue_Or_nil P
  | more _ h1 _ ih =>
    intro C d cx A ι ρ H s Q E at' S hb h
    cases and with
    | true =>
      refine wpAny_allTrue_And_cons (mono' (h1 at' S hb h) fun b s₁ ⟨ι₁, H₁, M₁, S₁, q₁⟩ => ?_)
      cases b with
      | true => exact mono' (ih at' S₁ hb q₁) fun _ _ P => P.after M₁
      | false => exact ⟨ι₁, H₁, M₁, S₁, q₁⟩
    | false =>
      refine wpAny_allTrue_Or_cons (mono' (h1 at' S hb h) fun b s₁ ⟨ι₁, H₁, M₁, S₁, q₁⟩ => ?_)
      cases b with
      | false => exact mono' (ih at' S₁ hb q₁) fun _ _ P => P.after M₁
      | true => exact ⟨ι₁, H₁, M₁, S₁, q₁⟩
theorem snd_chain {and : Bool} {es : List Expr} {e' : E} {pos : Pos} (c : Chain p sc and es e') : SndE p sc (.BoolOp (if and then .And else .Or) es pos) e' := fun at' S hb h => chainE c at' S hb h
theorem sndT_chain {and : Bool} {es : List Expr} {e' : E} {pos : Pos} (c : Chain p sc and es e') : SndT p sc (.BoolOp (if and then .And else .Or) es pos) e' := fun at' S hb h => wpAny_isTrue_BoolOp (chainT c at' S hb h)

/-! comparisons -/
theorem snd_cmp {l r : Expr} {pos : Pos} {op : Cmp} {a b : E} (h1 : SndE p sc l a) (h2 : SndE p sc r b) (hm : behindInMarks op.py r = false) : SndE p sc (.Compare l [op.py] [r] pos) (.cmp op a b) := fun at' S hb h => by
  refine wpAny_Compare1 (mono' (h1 at' S hb h) fun x s₁ ⟨va, ι₁, H₁, M₁, S₁, r₁, q₁⟩ => mono' (h2 at' S₁ hb q₁) fun y s₂ ⟨vb, ι₂, H₂, M₂, S₂, r₂, q₂⟩ => ?_) hm
  exact mono' (cmp_sound S₂ at'.ao.u (M₂.rep r₁) r₂ q₂) fun _ _ P => ((P.post S₂).after M₂).after M₁
theorem sndT_cmp {l r : Expr} {pos : Pos} {op : Cmp} {a b : E} (h1 : SndE p sc l a) (h2 : SndE p sc r b) (hm : behindInMarks op.py r = false) : SndT p sc (.Compare l [op.py] [r] pos) (.cmp op a b) := fun at' S hb h => by
  refine wpAny_isTrue_Compare1 (mono' (h1 at' S hb h) fun x s₁ ⟨va, ι₁, H₁, M₁, S₁, r₁, q₁⟩ => mono' (h2 at' S₁ hb q₁) fun y s₂ ⟨vb, ι₂, H₂, M₂, S₂, r₂, q₂⟩ => ?_) hm
  refine mono' (cmp_sound S₂ at'.ao.u (M₂.rep r₁) r₂ q₂) fun c s₃ ⟨b, tk, e, e', q⟩ => ?_
  subst e; subst e'
  exact wpAny_truthy_bool ⟨ι₂, H₂, M₁.trans (M₂.trans (.tk tk)), S₂.toks tk, q⟩

section
variable {M : Model} {A : Around} {env : Env} {s : Shared} {E : Value → Shared → Prop}
theorem compare2 {l r r₂ : Expr} {o o₂ : CmpOp} {pos : Pos} {Q : Value → Shared → Prop} (hm : behindInMarks o₂ r₂ = false)
    (h : wpAny M A (eval l env) (fun a s₁ => wpAny M A (eval r env) (fun b s₂ => wpAny M A (compareOp o a b) (fun c s₃ => wpAny M A (truthy c) (fun t s₄ =>
      if t then wpAny M A (eval r₂ env) (fun d s₅ => wpAny M A (compareOp o₂ b d) Q E s₅) E s₄ else Q c s₄) E s₃) E s₂) E s₁) E s) : wpAny M A (eval (.Compare l [o, o₂] [r, r₂] pos) env) Q E s := by
  rw [arm_eval_Compare]
  refine wpAny_bind (mono' h fun a s₁ h₁ => ?_)
  show wpAny M A (do
    let rv ← holding [a] (eval r env)
    standAt pos
    let c ← holding [a, rv] (compareOp o a rv)
    release [a, rv] [c]
    if ← holding [c, rv] (truthy c) then compareChain pos rv [o₂] [markedBehindIn o₂ r₂ (eval r₂ env)] else pure c) Q E s₁
  refine wpAny_bind (wpAny_holding (mono' h₁ fun b s₂ h₂ => wpAny_bind (wpAny_standAt (wpAny_bind (wpAny_holding (mono' h₂ fun c s₃ h₃ => ?_))))))
  refine wpAny_bind (wpAny_release (wpAny_bind (wpAny_holding (mono' h₃ fun t s₄ h₄ => ?_))))
  cases t with
  | false => exact wpAny_pure h₄
  | true =>
    rw [if_pos rfl] at h₄ ⊢
    rw [markedBehindIn_of_false hm]
    show wpAny M A (do
      let rv ← holding [b] (eval r₂ env)
      standAt pos
      operate [b, rv] (compareOp o₂ b rv)) Q E s₄
    exact wpAny_bind (wpAny_holding (mono' h₄ fun d s₅ h₅ => wpAny_bind (wpAny_standAt (wpAny_operateT h₅))))
theorem test2 {l r r₂ : Expr} {o o₂ : CmpOp} {pos : Pos} {whole : Sem Value} {Q : Bool → Shared → Prop} (hm : behindInMarks o₂ r₂ = false)
    (h : wpAny M A (eval l env) (fun a s₁ => wpAny M A (eval r env) (fun b s₂ => wpAny M A (compareOp o a b) (fun c s₃ => wpAny M A (truthy c) (fun t s₄ =>
      if t then wpAny M A (eval r₂ env) (fun d s₅ => wpAny M A (compareOp o₂ b d) (fun c s₆ => wpAny M A (truthy c) Q E s₆) E s₅) E s₄ else Q false s₄) E s₃) E s₂) E s₁) E s) :
    wpAny M A (isTrue (.Compare l [o, o₂] [r, r₂] pos) env whole) Q E s := by
  show wpAny M A (do testChain pos (← eval l env) [o, o₂] (markedEach [o, o₂] [r, r₂] (evalEach [r, r₂] env))) Q E s
  refine wpAny_bind (mono' h fun a s₁ h₁ => ?_)
  show wpAny M A (do
    let rv ← holding [a] (eval r env)
    standAt pos
    let c ← holding [a, rv] (compareOp o a rv)
    release [a, rv] [c]
    if ← holding [c, rv] (truthy c) then testChain pos rv [o₂] [markedBehindIn o₂ r₂ (eval r₂ env)] else pure false) Q E s₁
  refine wpAny_bind (wpAny_holding (mono' h₁ fun b s₂ h₂ => wpAny_bind (wpAny_standAt (wpAny_bind (wpAny_holding (mono' h₂ fun c s₃ h₃ => ?_))))))
  refine wpAny_bind (wpAny_release (wpAny_bind (wpAny_holding (mono' h₃ fun t s₄ h₄ => ?_))))
  cases t with
  | false => exact wpAny_pure h₄
  | true =>
    rw [if_pos rfl] at h₄ ⊢
    rw [markedBehindIn_of_false hm]
    show wpAny M A (do
      let rv ← holding [b] (eval r₂ env)
      standAt pos
      let c ← operate [b, rv] (compareOp o₂ b rv)
      holding [c] (truthy c)) Q E s₄
    exact wpAny_bind (wpAny_holding (mono' h₄ fun d s₅ h₅ => wpAny_bind (wpAny_standAt (wpAny_bind (wpAny_operateT (mono' h₅ fun _ _ h₆ => wpAny_holding h₆))))))
end

theorem snd_cmp2 {l r r₂ : Expr} {pos : Pos} {op op₂ : Cmp} {a b c : E} (h1 : SndE p sc l a) (h2 : SndE p sc r b) (h3 : SndE p sc r₂ c) (hm : behindInMarks op₂.py r₂ = false) :
    SndE p sc (.Compare l [op.py, op₂.py] [r, r₂] pos) (.cmp2 op op₂ a b c) := fun at' S hb h => by
  refine compare2 hm (mono' (h1 at' S hb h) fun x s₁ ⟨va, ι₁, H₁, M₁, S₁, r₁, q₁⟩ => mono' (h2 at' S₁ hb q₁) fun y s₂ ⟨vb, ι₂, H₂, M₂, S₂, r₂, q₂⟩ => ?_)
  refine mono' (cmp_sound S₂ at'.ao.u (M₂.rep r₁) r₂ q₂) fun c s₃ ⟨b, tk, e, e', q⟩ => ?_
  subst e; subst e'
  have M₃ := M₁.trans (M₂.trans (.tk tk))
  cases b with
  | false => exact wpAny_truthy_bool (Post.after M₃ (.here (S₂.toks tk) (.bool _) q))
  | true =>
    refine wpAny_truthy_bool (mono' (h3 at' (S₂.toks tk) hb q) fun z s₃ ⟨vc, ι₃, H₃, M₄, S₃, r₃, q₃⟩ => ?_)
    exact mono' (cmp_sound S₃ at'.ao.u (M₄.rep r₂) r₃ q₃) fun _ _ P => ((P.post S₃).after M₄).after M₃
theorem sndT_cmp2 {l r r₂ : Expr} {pos : Pos} {op op₂ : Cmp} {a b c : E} (h1 : SndE p sc l a) (h2 : SndE p sc r b) (h3 : SndE p sc r₂ c) (hm : behindInMarks op₂.py r₂ = false) :
    SndT p sc (.Compare l [op.py, op₂.py] [r, r₂] pos) (.cmp2 op op₂ a b c) := fun at' S hb h => by
  refine test2 hm (mono' (h1 at' S hb h) fun x s₁ ⟨va, ι₁, H₁, M₁, S₁, r₁, q₁⟩ => mono' (h2 at' S₁ hb q₁) fun y s₂ ⟨vb, ι₂, H₂, M₂, S₂, r₂, q₂⟩ => ?_)
  refine mono' (cmp_sound S₂ at'.ao.u (M₂.rep r₁) r₂ q₂) fun c s₃ ⟨b, tk, e, e', q⟩ => ?_
  subst e; subst e'
  have M₃ := M₁.trans (M₂.trans (.tk tk))
  cases b with
  | false => exact wpAny_truthy_bool ⟨ι₂, H₂, M₃, S₂.toks tk, q⟩
  | true =>
    refine wpAny_truthy_bool (mono' (h3 at' (S₂.toks tk) hb q) fun z s₃ ⟨vc, ι₃, H₃, M₄, S₃, r₃, q₃⟩ => ?_)
    refine mono' (cmp_sound S₃ at'.ao.u (M₄.rep r₂) r₃ q₃) fun c s₃ ⟨b, tk, e, e', q⟩ => ?_
    subst e; subst e'
    exact wpAny_truthy_bool ⟨ι₃, H₃, M₃.trans (M₄.trans (.tk tk)), S₃.toks tk, q⟩

/-! subscripts -/
theorem snd_sub {l r : Expr} {pos : Pos} {a b : E} (h1 : SndE p sc l a) (h2 : SndE p sc r b) (hns : ∀ a b c p, r ≠ .Slice a b c p) : SndE p sc (.Subscript l r pos) (.sub a b) := fun at' S hb h => by
  refine PyProof.Rows.Subscript_ (mono' (h1 at' S hb h) fun x s₁ ⟨va, ι₁, H₁, M₁, S₁, r₁, q₁⟩ => mono' (h2 at' S₁ hb q₁) fun y s₂ ⟨vb, ι₂, H₂, M₂, S₂, r₂, q₂⟩ => ?_)
  exact mono' (sub_sound S₂ at'.ao.u hns (M₂.rep r₁) r₂ q₂) fun _ _ P => ((PostR.post S₂ P).after M₂).after M₁
/-- a slice's bound: an expression, or none -/
noncomputable def SndO (p : Pg) (sc : Sc) (e : Option Expr) (e' : E) : Prop :=
  ∀ {C : Ora} {d : Nat} {cx : Cx} {A : Around} {ι : List Addr} {ρ : Rho} {H : H} {s : Shared} {Q : V → Tw.H → Prop} {E : Value → Shared → Prop},
    At p sc C d cx A → St cx ι ρ H s → Bnd sc.lim ρ → wpE C e' ρ H Q → wpAny (model p.prog cx.w) A (valueOrNone (evalOpt e cx.env)) (Post cx ι ρ s Q) E s
theorem sndO_some {e : Expr} {e' : E} (h : SndE p sc e e') : SndO p sc (some e) e' := h
theorem sndO_none : SndO p sc none (.lit .none) := fun _ S _ h => wpAny_pure (.here S .none h)
theorem snd_slice {l : Expr} {lo hi : Option Expr} {pos pos' : Pos} {a b c : E} (h1 : SndE p sc l a) (h2 : SndO p sc lo b) (h3 : SndO p sc hi c) : SndE p sc (.Subscript l (.Slice lo hi none pos') pos) (.slice a b c) := fun at' S hb h => by
  refine PyProof.Rows.Subscript_ (mono' (h1 at' S hb h) fun x s₁ ⟨va, ι₁, H₁, M₁, S₁, r₁, q₁⟩ => ?_)
  show wpAny _ _ (do
    let l ← valueOrNone (evalOpt lo _)
    let u ← holding [l] (valueOrNone (evalOpt hi _))
    let s ← holding [l, u] (valueOrNone (evalOpt none _))
    newFields "slice" [l, u, s]) _ _ s₁
  refine wpAny_bind (mono' (h2 at' S₁ hb q₁) fun y s₂ ⟨vb, ι₂, H₂, M₂, S₂, r₂, q₂⟩ => wpAny_bind (wpAny_holding (mono' (h3 at' S₂ hb q₂) fun z s₃ ⟨vc, ι₃, H₃, M₃, S₃, r₃, q₃⟩ => ?_)))
  refine wpAny_bind (wpAny_holding (wpAny_pure ?_))
  have hk : ∀ b ob, s₃.heap.get? b = some ob → (s₃.heap.push { cls := .type "slice", data := .fields #[y, z, .none] }).get? b = some ob := fun _ _ e => Heap.get?_push_of_some _ e
  refine wpAny_newObj_type ?_
  refine mono' (slice_sound (S₃.push _ s₃.toks) at'.ok (((M₂.trans M₃).rep r₁).mono (List.prefix_refl _) (.of_ext hk)) ((M₃.rep r₂).mono (List.prefix_refl _) (.of_ext hk)) (r₃.mono (List.prefix_refl _) (.of_ext hk)) (get?_fresh rfl) q₃) fun _ _ P => ?_
  exact ((((P.after (.ext hk)).after M₃).after M₂).after M₁)
end
end Tw
end

section
namespace Tw
open PySem PySem.SeqAt

section
variable {p : Pg} {sc : Sc}

/-! rows of expressions -/
theorem sndEs_nil : SndEs p sc [] [] := ⟨rfl, fun _ => rfl, fun _ _ S _ h => wpAny_items_nil ⟨rfl, [], _, _, .refl _ _, S, .nil, h⟩⟩
theorem sndEs_cons {e : Expr} {es : List Expr} {e' : E} {es' : List E} (he : ∀ env, starEach (e :: es) env = (false, eval e env) :: starEach es env) (h1 : SndE p sc e e') (h2 : SndEs p sc es es') : SndEs p sc (e :: es) (e' :: es') := by
  refine ⟨by simp [h2.1], fun env => by rw [he]; simpa using h2.2.1 env, fun pos at' S hb h => ?_⟩
  refine wpAny_items_cons (mono' (h1 at' S hb h) fun x s₁ ⟨va, ι₁, H₁, M₁, S₁, r₁, q₁⟩ => mono' (h2.2.2 pos at' S₁ hb q₁) fun xs s₂ ⟨hl, vs, ι₂, H₂, M₂, S₂, r₂, q₂⟩ => ?_) (he _)
  exact ⟨by simp [hl], va :: vs, ι₂, H₂, M₁.trans M₂, S₂, .cons (M₂.rep r₁) r₂, q₂⟩

theorem snd_tup {es : List Expr} {es' : List E} {k : Nat} {pos : Pos} (h1 : SndEs p sc es es') (hn : es.length ≤ 1000) : SndE p sc (.Tuple es k pos) (.tup es') := fun at' S hb h => by
  have hz : (1000 : Nat) ≤ SZ := by decide
  refine wpAny_Tuple (mono' (h1.2.2 pos at' S hb h) fun xs s₁ ⟨hl, vs, ι₁, H₁, M₁, S₁, r₁, q₁⟩ => ⟨Nat.le_trans (hl ▸ hn) hz, ?_⟩)
  exact Post.after M₁ (Post.tup (vals := xs.toArray) (n := 0) S₁ (by simpa using r₁) (by rw [← r₁.length, hl]; omega) q₁ s₁.toks)
theorem snd_list {es : List Expr} {es' : List E} {pos : Pos} (h1 : SndEs p sc es es') (hn : es.length ≤ 1000) : SndE p sc (.List es pos) (.list es') := fun at' S hb h => by
  have hz : (1000 : Nat) ≤ SZ := by decide
  refine wpAny_List (mono' (h1.2.2 pos at' S hb h) fun xs s₁ ⟨hl, vs, ι₁, H₁, M₁, S₁, r₁, q₁⟩ => ⟨Nat.le_trans (hl ▸ hn) hz, ?_⟩)
  exact Post.after M₁ (Post.list (vals := xs.toArray) (n := 0) S₁ at'.ok (by simpa using r₁) (by rw [← r₁.length, hl]; omega) q₁ s₁.toks)

/-! calls -/
theorem args_of {M : Model} {A : Around} {f : Value} {es : List Expr} {env : Env} {pos : Pos} {s : Shared} {E : Value → Shared → Prop} {Q : Args → Shared → Prop} (hs : (starEach es env).any (·.1) = false)
    (h : wpAny M A (spliced (backTo pos (starEach es env))) (fun vs s' => Q ⟨vs, []⟩ s') E s) : wpAny M A (evalArgs f true (backTo pos (starEach es env)) []) Q E s := by
  cases hb : backTo pos (starEach es env) with
  | nil =>
    rw [hb] at h
    unfold evalArgs
    show wpAny M A (spliced [] >>= _) Q E s
    refine wpAny_bind (mono' h fun vs s' h' => ?_)
    refine wpAny_bind (wpAny_pure ?_)
    refine wpAny_holding ?_
    exact wpAny_bind (wpAny_pure (wpAny_bind (wpAny_pure (wpAny_pure h'))))
  | cons x r =>
    obtain ⟨b, t⟩ := x
    have : b = false := by
      cases hse : starEach es env with
      | nil => rw [hse] at hb; simp [backTo] at hb
      | cons y r' =>
        rw [hse] at hb hs
        simp [backTo] at hb
        simp at hs
        rw [← hb.1.1]; exact hs.1
    subst this
    rw [hb] at h
    exact Calls.evalArgs_plain h
theorem back_any {es : List Expr} {env : Env} {pos : Pos} (hs : (starEach es env).any (·.1) = false) : (backTo pos (starEach es env)).any (·.1) = false := by
  unfold backTo
  rw [List.any_map]
  simpa [Function.comp_def] using hs

theorem snd_call {x : Str} {np pos : Pos} {es : List Expr} {es' : List E} {k : Nat} (hk : sc.gk x = true) (hg : p.G x = some (.fn k)) (h1 : SndEs p sc es es') : SndE p sc (.Call (.Name x np) es [] pos) (.call k es') := fun {C d cx A ι ρ H s Q E} at' S hb h => by
  refine wpAny_Call_ofName (load_global at' S hk hg fun v e => ?_)
  obtain ⟨b, f, rfl, ht, hf⟩ := e
  obtain ⟨o, pm, code, doc, go, do', hcode⟩ := hf
  refine Calls.callWith_function (o := o) (args_of (h1.2.1 _) (mono' (h1.2.2 pos at' S hb h) fun xs s₁ ⟨_, vs, ι₁, H₁, M₁, S₁, r₁, q₁⟩ => ⟨⟨(S₁.prot _ _ (at'.ok.base _ _ go (at'.gd.notScr _ f ⟨o, pm, code, doc, go, do', hcode⟩))).base go, do'⟩, ?_⟩))
  refine mono' (at'.call at'.gd (fun a o e h => Or.inl (at'.ok.base a o e h)) (S₁.wdF at'.ok) (at'.fr.w S₁ at'.ok) at'.ao ht ⟨o, pm, code, doc, go, do', hcode⟩ r₁ q₁) fun val s₂ ⟨v, ι₂, H₂, M₂, W₂, r₂, q₂⟩ => ?_
  exact ⟨v, ι₂, H₂, M₁.trans M₂, S₁.back W₂ M₂, r₂, q₂⟩
theorem Bi.form (b : Bi) : (∃ id, b.py = .builtin id) ∨ (∃ T, b.py = .type T) := by
  cases b <;> first | exact .inl ⟨_, rfl⟩ | exact .inr ⟨_, rfl⟩
theorem snd_bi {x : Str} {np pos : Pos} {es : List Expr} {es' : List E} {b : Bi} (hk : sc.gk x = true) (hg : p.G x = some (.bi b)) (h1 : SndEs p sc es es') : SndE p sc (.Call (.Name x np) es [] pos) (.bi b es') := fun {C d cx A ι ρ H s Q E} at' S hb h => by
  refine wpAny_Call_ofName (load_global at' S hk hg fun v e => ?_)
  subst e
  have key : wpAny (model p.prog cx.w) A (evalArgs b.py true (backTo pos (starEach es cx.env)) []) (fun a s₁ => wpAny (model p.prog cx.w) A (call b.py ([] ++ a.pos) a.kw) (Post cx ι ρ s Q) E s₁) E s :=
    args_of (h1.2.1 _) (mono' (h1.2.2 pos at' S hb h) fun xs s₁ ⟨_, vs, ι₁, H₁, M₁, S₁, r₁, q₁⟩ => mono' (bi_sound S₁ at'.ok at'.ao.hd at'.ao.u r₁ q₁) fun _ _ P => P.after M₁)
  rcases b.form with ⟨id, e⟩ | ⟨T, e⟩ <;> rw [e] at key ⊢
  · exact Calls.callWith_builtin (back_any (h1.2.1 _)) key
  · exact callWith_excType (back_any (h1.2.1 _)) key
noncomputable def tyOf : Gl → Option Ty
  | .ty t => some t
  | .bi .list => some .list
  | .bi .int => some .int
  | _ => none
theorem snd_isinst {x y : Str} {np ny pos : Pos} {e : Expr} {e' : E} {t : Ty} {g : Gl} (hk : sc.gk x = true) (hg : p.G x = some .isinst) (hk' : sc.gk y = true) (hg' : p.G y = some g) (hty : tyOf g = some t) (he : ∀ env, starEach [e, .Name y ny] env = (false, eval e env) :: starEach [.Name y ny] env)
    (h1 : SndE p sc e e') : SndE p sc (.Call (.Name x np) [e, .Name y ny] [] pos) (.isinst e' t) := fun {C d cx A ι ρ H s Q E} at' S hb h => by
  refine wpAny_Call_ofName (load_global at' S hk hg fun v e => ?_)
  subst e
  have hs : (starEach [e, .Name y ny] cx.env).any (·.1) = false := by rw [he]; rfl
  refine Calls.callWith_builtin (back_any hs) (args_of hs ?_)
  refine wpAny_items_cons (mono' (h1 at' S hb h) fun x s₁ ⟨va, ι₁, H₁, M₁, S₁, r₁, q₁⟩ => ?_) (he _)
  refine wpAny_items_cons (load_global at' S₁ hk' hg' fun v e => ?_)
  have e : v = t.py := by
    cases g with
    | ty t' => cases hty; exact e
    | bi b => cases b <;> cases hty <;> exact e
    | _ => cases hty
  subst e
  refine wpAny_items_nil ?_
  exact mono' (is_sound S₁ r₁ q₁) fun _ _ P => (P.post S₁).after M₁

theorem snd_meth {o : Expr} {apos pos : Pos} {es : List Expr} {o' : E} {es' : List E} {m : Mt} (hbase : ∀ env, attributeBase o m.nm env (eval o env) = eval o env) (hline : (apos.endLine == pos.line) = true) (hn : es.length < 29)
    (h0 : SndE p sc o o') (h1 : SndEs p sc es es') : SndE p sc (.Call (.Attribute o m.nm apos) es [] pos) (.meth m o' es') := fun {C d cx A ι ρ H s Q E} at' S hb h => by
  rw [arm_eval_Call, hbase]
  refine wpAny_bind (mono' (h0 at' S hb h) fun x s₁ ⟨vo, ι₁, H₁, M₁, S₁, r₁, hr, q₁⟩ => wpAny_bind (wpAny_standAt ?_))
  have hform : methodCallForm (es.length + ([] : List Keyword).length) (backTo pos (starEach es cx.env)) (backToKw pos (keywordEach [] cx.env)) = true := by
    have := back_any (pos := pos) (h1.2.1 cx.env)
    unfold methodCallForm
    simp only [List.any_eq_false] at this
    rw [show backToKw pos (keywordEach [] cx.env) = [] from rfl]
    simp
    refine ⟨fun a hm => by simpa using this _ hm, by omega⟩
  have hpos : methodCallPos true o cx.env apos pos = pure pos := by unfold methodCallPos; simp [hline]
  unfold methodCall
  rw [hform]
  refine wpAny_bind (wpAny_holding (getMethod_sound S₁ r₁ hr ?_))
  refine wpAny_bind (wpAny_of_eq hpos ?_)
  refine Calls.callWith_builtin (back_any (h1.2.1 _)) (args_of (h1.2.1 _) (mono' (h1.2.2 pos at' S₁ hb q₁) fun xs s₂ ⟨_, vs, ι₂, H₂, M₂, S₂, r₂, q₂⟩ => ?_))
  exact mono' (meth_sound S₂ at'.ao.u (M₂.rep r₁) r₂ q₂) fun _ _ P => (P.after M₂).after M₁
end
end Tw
end

section
namespace Tw
open PySem PySem.SeqAt

/-! targets -/
noncomputable def Tgt.slots : Tgt → List Nat
  | .name i => [i]
  | .tup is => is

theorem upds_out : ∀ (is : List Nat) (vs : List V) (ρ : Rho) (i : Nat), i ∉ is → upds ρ is vs i = ρ i
  | [], _, _, _, _ => by simp [upds]
  | j :: is, [], _, _, _ => by simp [upds]
  | j :: is, v :: vs, ρ, i, h => by
    simp at h
    rw [upds, upds_out is vs _ i h.2]
    simp [upd, h.1]
theorem bindT_ext {t : Tgt} {v : V} {ρ : Rho} {K : Rho → Prop} (h : bindT t v ρ K) : bindT t v ρ fun ρ' => (∀ i, i ∉ t.slots → ρ' i = ρ i) ∧ K ρ' := by
  cases t with
  | name j => exact ⟨fun i hi => by simp [Tgt.slots] at hi; simp [upd, hi], h⟩
  | tup is =>
    cases v with
    | tup vs => exact ⟨h.1, fun i hi => upds_out is vs ρ i hi, h.2⟩
    | _ => exact h.elim

inductive PostG (sc : Sc) (cx : Cx) (ι : List Addr) (H : H) (s : Shared) (K : Rho → Prop) (s' : Shared) : Prop
  | mk (ρ' : Rho) (M : Mono ι s ι s') (S : St cx ι ρ' H s') (b : Bnd sc.lim ρ') (q : K ρ')
noncomputable def SndG (p : Pg) (sc : Sc) (t : Expr) (t' : Tgt) : Prop :=
  ∀ {C : Ora} {d : Nat} {cx : Cx} {A : Around} {ι : List Addr} {ρ : Rho} {H : H} {s : Shared} {val : Value} {v : V} {K : Rho → Prop} {E : Value → Shared → Prop},
    At p sc C d cx A → St cx ι ρ H s → Bnd sc.lim ρ → RepV ι s.heap val v → bindT t' v ρ K → wpAny (model p.prog cx.w) A (assign t cx.env val) (fun _ s' => PostG sc cx ι H s K s') E s

section
variable {p : Pg} {sc : Sc}

theorem Bnd.upd {n i : Nat} {ρ : Rho} {v : V} (h : Bnd n ρ) (hi : i < n) : Bnd n (upd ρ i v) := fun j hj => by
  have : j ≠ i := by omega
  simp [Tw.upd, this, h j hj]

theorem store_name {C : Ora} {d : Nat} {cx : Cx} {A : Around} {ι : List Addr} {ρ : Rho} {H : H} {s : Shared} {val : Value} {v : V} {E : Value → Shared → Prop} {x : Str} {i : Nat} (hx : sc.nm x = some i) (hs : sc.st x = true)
    (at' : At p sc C d cx A) (S : St cx ι ρ H s) (hb : Bnd sc.lim ρ) (r : RepV ι s.heap val v) {Q : Unit → Shared → Prop} (q : ∀ s', Mono ι s ι s' → St cx ι (upd ρ i v) H s' → Bnd sc.lim (upd ρ i v) → Q () s') :
    wpAny (model p.prog cx.w) A (storeName cx.env x val) Q E s := by
  have hx' : cx.nm x = some i := (at'.fit.nm x).trans hx
  have hb' : Bnd sc.lim (upd ρ i v) := hb.upd (at'.fit.lim x i hx)
  rcases at'.fit.stk x hs with k | k
  · obtain ⟨m, hm⟩ := S.ns
    refine wpAny_storeName_local k hm (fun h' hn hsb => ?_) (by rw [at'.ok.fn]; rfl)
    obtain ⟨S', M'⟩ := S.local at'.ok (s.toks + 1) hx' k hm hn hsb.extBut r
    exact q _ M' S' hb'
  · rcases at'.ok.kinds x i hx' with k' | ⟨_, c, l⟩
    · rw [k] at k'; cases k'
    · obtain ⟨⟨ov, ic⟩, _⟩ := S.cells x c l
      refine wpAny_storeName_cell at'.ok.fn k l ic fun h' hn hsb => ?_
      obtain ⟨S', M'⟩ := S.cell at'.ok s.toks hx' ((at'.fit.st x).trans hs) k l hn hsb.extBut r
      exact q _ M' S' hb'

theorem sndG_name {x : Str} {i : Nat} {pos : Pos} (hx : sc.nm x = some i) (hs : sc.st x = true) : SndG p sc (.Name x pos) (.name i) := fun at' S hb r h =>
  wpAny_assign_Name (store_name hx hs at' S hb r fun _ M' S' hb' => ⟨_, M', S', hb', h⟩)

/-- plain names, and their slots -/
inductive NamesAre (sc : Sc) : List Expr → List Nat → Prop
  | nil : NamesAre sc [] []
  | cons {x : Str} {i : Nat} {pos : Pos} {es : List Expr} {is : List Nat} : sc.nm x = some i → sc.st x = true → NamesAre sc es is → NamesAre sc (.Name x pos :: es) (i :: is)
theorem NamesAre.each {es : List Expr} {is : List Nat} (n : NamesAre sc es is) (env : Env) : (assignEach es env).length = is.length ∧ (assignEach es env).findIdx? (·.1) = none := by
  induction n with
  | nil => exact ⟨rfl, rfl⟩
  | cons _ _ _ ih =>
    refine ⟨congrArg (· + 1) ih.1, ?_⟩
    refine (List.findIdx?_cons ..).trans ?_
    show Option.map _ ((assignEach _ env).findIdx? (·.1)) = none
    rw [ih.2]; rfl
theorem NamesAre.go {es : List Expr} {is : List Nat} (n : NamesAre sc es is) : ∀ {C : Ora} {d : Nat} {cx : Cx} {A : Around} {ι : List Addr} {ρ : Rho} {H : H} {s : Shared} {vals : List Value} {vs : List V} {E : Value → Shared → Prop} {Q : Unit → Shared → Prop},
    At p sc C d cx A → St cx ι ρ H s → Bnd sc.lim ρ → RepVs ι s.heap vals vs → is.length = vs.length → (∀ s', Mono ι s ι s' → St cx ι (upds ρ is vs) H s' → Bnd sc.lim (upds ρ is vs) → Q () s') →
    wpAny (model p.prog cx.w) A (assignInOrder ((assignEach es cx.env).map (·.2)) vals) Q E s := by
  induction n with
  | nil =>
    intro C d cx A ι ρ H s vals vs E Q at' S hb r hl q
    cases r with
    | nil => exact wpAny_assignInOrder_none (q s (.refl _ _) S hb)
    | cons _ _ => simp at hl
  | cons hx hs _ ih =>
    intro C d cx A ι ρ H s vals vs E Q at' S hb r hl q
    cases r with
    | nil => simp at hl
    | cons r₁ r₂ =>
      refine wpAny_assignInOrder_more (wpAny_assign_Name (store_name hx hs at' S hb r₁ fun s' M' S' hb' => ?_))
      exact ih at' S' hb' (M'.reps r₂) (by simpa using hl) fun s'' M'' S'' hb'' => q s'' (M'.trans M'') S'' hb''
theorem sndG_tup {es : List Expr} {is : List Nat} {k : Nat} {pos : Pos} (n : NamesAre sc es is) : SndG p sc (.Tuple es k pos) (.tup is) := fun {C d cx A ι ρ H s val v K E} at' S hb r h => by
  cases r with
  | tup g z rs =>
    rename_i a n' vals vs
    obtain ⟨hl, hk⟩ := h
    obtain ⟨e1, e2⟩ := n.each cx.env
    have hsz : (assignEach es cx.env).length = vals.size := by rw [e1, hl, ← rs.length]; simp
    obtain ⟨as, hI⟩ := S.aside at'.ok (Nat.le_refl _)
    refine wpAny_assign_Tuple at'.ao.hd ⟨_, g, rfl, n', rfl⟩ hsz e2 fun h' he => ?_
    obtain ⟨S', M'⟩ := S.but as hI s.toks he fun o e => absurd (Heap.lt_size e) (Nat.lt_irrefl _)
    exact n.go at' S' hb (M'.reps rs) hl fun s'' M'' S'' hb'' => ⟨_, M'.trans M'', S'', hb'', hk⟩
  | _ => exact h.elim

/-! dicts -/
theorem snd_dict0 {pos : Pos} : SndE p sc (.Dict [] [] pos) .dict0 := fun at' S _ h => wpAny_Dict_empty (Post.dict S at'.ok (h 0) _)
end
end Tw
end

section
namespace Tw
open PySem PySem.SeqAt

section
variable {p : Pg} {sc : Sc}
theorem snd_dict1 {k v : Expr} {pos : Pos} {k' v' : E} (h1 : SndE p sc k k') (h2 : SndE p sc v v') : SndE p sc (.Dict [some k] [v] pos) (.dict1 k' v') := fun {C d cx A ι ρ H s Q E} at' S hb h => by
  rw [arm_eval_Dict]
  have hshape : (evalEachOpt [some k] cx.env).zip ((evalEach [v] cx.env).map fun v => do let x ← v; standAt pos; pure x) = [(eval k cx.env, do let x ← eval v cx.env; standAt pos; pure x)].map fun p => (some p.1, p.2) := rfl
  rw [hshape, dictDisplay_pairs _ (by simp) (by simp)]
  refine wpAny_bind (wpAny_standAt (wpAny_bind ?_))
  unfold subDict
  refine wpAny_bind (wpAny_alloc ?_)
  refine wpAny_bind (wpAny_holding ?_)
  rw [if_pos (by simp)]
  obtain ⟨f1, f2, f3, f4, f5⟩ := S.fresh at'.ok (Nat.le_refl _)
  have as : Aside cx s.heap.objs.size := ⟨f3, f4, f5⟩
  generalize hD : s.heap.objs.size = D at *
  have hk : ∀ b ob, s.heap.get? b = some ob → (s.heap.push { cls := .type "dict", data := .dict #[] }).get? b = some ob := fun _ _ e => Heap.get?_push_of_some _ e
  have S₁ := (S.push { cls := .type "dict", data := .dict #[] } s.toks).keep (a := D) (o := { cls := .type "dict", data := .dict #[] }) (by rw [← hD]; exact get?_fresh rfl) f1
  have at₁ := at'.keep as { cls := .type "dict", data := .dict #[] }
  have M₁ : Mono ι s ι { s with heap := s.heap.push { cls := .type "dict", data := .dict #[] } } := .ext hk
  refine wpAny_bind (evalPairs_cons (mono' (h1 (cx := cx.keep D _) at₁ S₁ hb h) fun x s₂ ⟨vk, ι₂, H₂, M₂, S₂, r₂, q₂⟩ => wpAny_bind (mono' (h2 (cx := cx.keep D _) at₁ S₂ hb q₂) fun y s₃ ⟨vv, ι₃, H₃, M₃, S₃, r₃, hkey, q₃⟩ => wpAny_bind (wpAny_standAt (wpAny_pure (evalPairs_nil ?_))))))
  refine wpAny_holding ?_
  simp only [List.forIn_cons, List.forIn_nil]
  have g := S₃.kept (notMk_new rfl)
  have hI := S₃.keptI
  have S₄ := S₃.unkeep.alloc (o := .dict [] 0) ⟨#[], g, .nil, List.nodup_nil, Nat.zero_le _⟩ hI f2 f3 f4 f5
  have M₄ : Mono ι₃ s₃ (ι₃ ++ [D]) s₃ := ⟨List.prefix_append _ _, .refl _⟩
  have hi : (ι₃ ++ [D])[H₃.length]? = some D := by rw [← S₃.len]; simp
  have hH : (H₃ ++ [MO.dict [] 0])[H₃.length]? = some (.dict [] 0) := by simp
  obtain ⟨ents, DA⟩ := S₄.dict hi hH
  refine wpAny_bind (wpAny_bind (wpAny_bind (dictSet_key (A := A) S₄ (by have := at'.ao.u; omega) hi hH DA (by show 0 < SZ; decide) (M₄.rep (M₃.rep r₂)) (M₄.rep r₃) hkey fun ver s₅ S₅ M₅ => wpAny_pure (wpAny_pure (wpAny_pure (wpAny_pure (wpAny_pure ?_)))))))
  have e : (H₃ ++ [MO.dict [] 0]).set H₃.length (.dict (dput [] vk vv) ver) = H₃ ++ [.dict [(vk, vv)] ver] := by simp [dput, dget]
  rw [e] at S₅
  exact ⟨.ref H₃.length, ι₃ ++ [D], _, (M₁.trans (M₂.trans (M₃.trans M₄))).trans M₅, S₅, .ref hi, q₃ ver⟩
end
end Tw
end

section
namespace Tw
open PySem PySem.SeqAt

abbrev Nms := List (Str × NameKind)
/-- a name's slot, by its place in the scope's table -/
noncomputable def slotOf (outer : Str → Option Nat) : Nat → Nms → Str → Option Nat
  | _, [], _ => none
  | base, (n, k) :: r, x => if x == n then (match k with | .local => some base | .cell => some base | .free => outer x | _ => none) else slotOf outer (base + 1) r x

theorem slotOf_spec {outer : Str → Option Nat} : ∀ {names : Nms} {base : Nat} {x : Str} {i : Nat}, slotOf outer base names x = some i →
    ∃ k, names.lookup x = some k ∧ (((k = .local ∨ k = .cell) ∧ base ≤ i ∧ i < base + names.length) ∨ (k = .free ∧ outer x = some i))
  | [], _, _, _, h => by simp [slotOf] at h
  | (n, k) :: r, base, x, i, h => by
    unfold slotOf at h
    cases hx : x == n with
    | true =>
      rw [hx] at h
      simp only [if_true] at h
      refine ⟨k, by simp [List.lookup_cons, hx], ?_⟩
      cases k <;> simp at h
      · subst h; exact .inl ⟨.inl rfl, by omega, by simp⟩
      · subst h; exact .inl ⟨.inr rfl, by omega, by simp⟩
      · exact .inr ⟨rfl, h⟩
    | false =>
      rw [hx] at h
      simp only [Bool.false_eq_true, if_false] at h
      obtain ⟨k', h1, h2⟩ := slotOf_spec h
      refine ⟨k', by simp [List.lookup_cons, hx, h1], h2.imp (fun ⟨a, b, c⟩ => ⟨a, by omega, by simp; omega⟩) id⟩

theorem slotOf_inj {outer : Str → Option Nat} {b0 : Nat} (oi : ∀ x y i, outer x = some i → outer y = some i → x = y) (ol : ∀ x i, outer x = some i → i < b0) :
    ∀ {names : Nms} {base : Nat} {x y : Str} {i : Nat}, b0 ≤ base → slotOf outer base names x = some i → slotOf outer base names y = some i → x = y
  | [], _, _, _, _, _, h, _ => by simp [slotOf] at h
  | (n, k) :: r, base, x, y, i, hb, h, h' => by
    unfold slotOf at h h'
    cases hx : x == n with
    | true =>
      cases hy : y == n with
      | true => rw [beq_iff_eq.mp hx, beq_iff_eq.mp hy]
      | false =>
        rw [hx] at h; rw [hy] at h'
        simp only [if_true, Bool.false_eq_true, if_false] at h h'
        obtain ⟨k', h1, h2⟩ := slotOf_spec h'
        cases k <;> simp at h
        · subst h; rcases h2 with h2 | h2
          · omega
          · have := ol _ _ h2.2; omega
        · subst h; rcases h2 with h2 | h2
          · omega
          · have := ol _ _ h2.2; omega
        · rcases h2 with h2 | h2
          · have := ol _ _ h; omega
          · exact oi _ _ _ h h2.2
    | false =>
      cases hy : y == n with
      | true =>
        rw [hx] at h; rw [hy] at h'
        simp only [if_true, Bool.false_eq_true, if_false] at h h'
        obtain ⟨k', h1, h2⟩ := slotOf_spec h
        cases k <;> simp at h'
        · subst h'; rcases h2 with h2 | h2
          · omega
          · have := ol _ _ h2.2; omega
        · subst h'; rcases h2 with h2 | h2
          · omega
          · have := ol _ _ h2.2; omega
        · rcases h2 with h2 | h2
          · have := ol _ _ h'; omega
          · exact oi _ _ _ h2.2 h'
      | false =>
        rw [hx] at h; rw [hy] at h'
        simp only [Bool.false_eq_true, if_false] at h h'
        exact slotOf_inj oi ol (by omega) h h'

/-! the cells of a block -/
theorem cellsFrom_app : ∀ (names : Nms) (n : Nat) (acc : List (Str × Addr)), cellsFrom n names acc = cellsFrom n names [] ++ acc
  | [], _, _ => rfl
  | (x, k) :: r, n, acc => by
    unfold cellsFrom
    split
    · rw [cellsFrom_app r (n + 1) ((x, n) :: acc), cellsFrom_app r (n + 1) [(x, n)]]; simp
    · exact cellsFrom_app r n acc
theorem cellsFrom_of : ∀ (names : Nms) (n : Nat) (x : Str) (c : Addr), (x, c) ∈ cellsFrom n names [] → (x, NameKind.cell) ∈ names ∧ n ≤ c
  | [], _, _, _, h => by simp [cellsFrom] at h
  | (y, k) :: r, n, x, c, h => by
    unfold cellsFrom at h
    split at h
    · rename_i hk
      rw [cellsFrom_app] at h
      rcases List.mem_append.mp h with h | h
      · obtain ⟨a, b⟩ := cellsFrom_of r (n + 1) x c h; exact ⟨List.mem_cons_of_mem _ a, by omega⟩
      · simp at h; obtain ⟨rfl, rfl⟩ := h
        have : k = .cell := by simpa using hk
        subst this; exact ⟨List.mem_cons_self, Nat.le_refl _⟩
    · obtain ⟨a, b⟩ := cellsFrom_of r n x c h; exact ⟨List.mem_cons_of_mem _ a, b⟩
theorem cellsFrom_has : ∀ (names : Nms) (n : Nat) (x : Str), (x, NameKind.cell) ∈ names → ∃ c, (x, c) ∈ cellsFrom n names []
  | [], _, _, h => by simp at h
  | (y, k) :: r, n, x, h => by
    unfold cellsFrom
    split
    · rw [cellsFrom_app]
      rcases List.mem_cons.mp h with h | h
      · cases h; exact ⟨n, by simp⟩
      · obtain ⟨c, hc⟩ := cellsFrom_has r (n + 1) x h; exact ⟨c, List.mem_append_left _ hc⟩
    · rename_i hk
      rcases List.mem_cons.mp h with h | h
      · cases h; simp at hk
      · exact cellsFrom_has r n x h
theorem lookup_of_mem {α : Type} : ∀ {l : List (Str × α)} {x : Str} {c : α}, (x, c) ∈ l → ∃ c', l.lookup x = some c'
  | (y, d) :: r, x, c, h => by
    cases hx : x == y with
    | true => exact ⟨d, by simp [List.lookup_cons, hx]⟩
    | false =>
      rcases List.mem_cons.mp h with h | h
      · cases h; simp at hx
      · obtain ⟨c', h'⟩ := lookup_of_mem h; exact ⟨c', by simp [List.lookup_cons, hx, h']⟩

/-! the closure -/
noncomputable def clFrom (env : Env) : Nms → List (Str × Addr) → List (Str × Addr)
  | [], acc => acc
  | (x, k) :: r, acc => if k == .free then clFrom env r ((x, ((env.cells.lookup x).getD 0)) :: acc) else clFrom env r acc
theorem closure_go (env : Env) (f : Str × NameKind → List (Str × Addr) → Sem (ForInStep (List (Str × Addr))))
    (hf : ∀ x k acc, f (x, k) acc = if k == .free then (do let a ← cellOf env x; pure (.yield ((x, a) :: acc))) else pure (.yield acc)) :
    ∀ (names : Nms) (acc : List (Str × Addr)), (∀ x, (x, NameKind.free) ∈ names → ∃ c, env.cells.lookup x = some c) → forIn names acc f = (pure (clFrom env names acc) : Sem (List (Str × Addr)))
  | [], acc, _ => by rw [List.forIn_nil]; rfl
  | (x, k) :: r, acc, h => by
    have ih := fun acc => closure_go env f hf r acc fun x hx => h x (List.mem_cons_of_mem _ hx)
    rw [List.forIn_cons, hf]
    unfold clFrom
    cases hk : k == NameKind.free with
    | true =>
      simp only [if_true]
      have : k = .free := by simpa using hk
      subst this
      obtain ⟨c, hc⟩ := h x List.mem_cons_self
      unfold cellOf
      rw [hc]
      simp only [pure_bind]
      exact ih _
    | false =>
      simp only [Bool.false_eq_true, if_false, pure_bind]
      exact ih _
theorem closure_is {scope : Scope} {env : Env} (h : ∀ x, (x, NameKind.free) ∈ scope.names → ∃ c, env.cells.lookup x = some c) : closureFor scope env = pure (clFrom env scope.names []) := by
  unfold closureFor
  dsimp only
  rw [closure_go env _ (fun x k acc => by cases hk : k == NameKind.free <;> simp [hk]) scope.names [] h]
  rfl
theorem clFrom_of (env : Env) : ∀ (names : Nms) (acc : List (Str × Addr)), (∀ x, (x, NameKind.free) ∈ names → ∃ c, env.cells.lookup x = some c) → ∀ x c, (x, c) ∈ clFrom env names acc → (x, c) ∈ acc ∨ (env.cells.lookup x = some c ∧ (x, NameKind.free) ∈ names)
  | [], _, _, _, _, h => .inl h
  | (y, k) :: r, acc, hf, x, c, h => by
    unfold clFrom at h
    split at h
    · rename_i hk
      have hk : k = .free := by simpa using hk
      subst hk
      rcases clFrom_of env r _ (fun x hx => hf x (List.mem_cons_of_mem _ hx)) x c h with h | h
      · rcases List.mem_cons.mp h with h | h
        · obtain ⟨c', hc'⟩ := hf y List.mem_cons_self
          cases h
          refine .inr ⟨by rw [hc']; rfl, List.mem_cons_self⟩
        · exact .inl h
      · exact .inr ⟨h.1, List.mem_cons_of_mem _ h.2⟩
    · rcases clFrom_of env r _ (fun x hx => hf x (List.mem_cons_of_mem _ hx)) x c h with h | h
      · exact .inl h
      · exact .inr ⟨h.1, List.mem_cons_of_mem _ h.2⟩
theorem clFrom_keeps (env : Env) : ∀ (names : Nms) (acc : List (Str × Addr)) (e : Str × Addr), e ∈ acc → e ∈ clFrom env names acc
  | [], _, _, h => h
  | (y, k) :: r, acc, e, h => by
    unfold clFrom
    split
    · exact clFrom_keeps env r _ e (List.mem_cons_of_mem _ h)
    · exact clFrom_keeps env r _ e h
theorem clFrom_has (env : Env) : ∀ (names : Nms) (acc : List (Str × Addr)) (x : Str), (x, NameKind.free) ∈ names → ∃ c, (x, c) ∈ clFrom env names acc
  | [], _, _, h => by simp at h
  | (y, k) :: r, acc, x, h => by
    unfold clFrom
    split
    · rcases List.mem_cons.mp h with h | h
      · cases h; exact ⟨_, clFrom_keeps env r _ _ List.mem_cons_self⟩
      · exact clFrom_has env r _ x h
    · rename_i hk
      rcases List.mem_cons.mp h with h | h
      · cases h; simp at hk
      · exact clFrom_has env r _ x h

theorem relabel_lookup {env : Env} (he : env.scope.kind = .function) : ∀ {names : Nms} {x : Str} {k : NameKind}, names.lookup x = some k →
    (names.map fun (n, k) => if (k == NameKind.free && env.scope.kind == .function && env.kindOf n == some .cell) then (n, NameKind.cell) else (n, k)).lookup x = some (if k = .free ∧ env.kindOf x = some .cell then .cell else k)
  | [], _, _, h => by simp at h
  | (n, k') :: r, x, k, h => by
    have ih := @relabel_lookup env he r x k
    cases hx : x == n with
    | true =>
      have hn := beq_iff_eq.mp hx
      subst hn
      have h : k' = k := by simpa [List.lookup_cons] using h
      subst h
      by_cases hc : k' = .free ∧ env.kindOf x = some .cell
      · simp [List.lookup_cons, hc.1, hc.2, he]
      · rw [if_neg hc]
        have : (k' == NameKind.free && env.scope.kind == .function && env.kindOf x == some .cell) = false := by
          simp only [he, beq_self_eq_true, Bool.and_true]
          rw [Bool.and_eq_false_iff]
          by_cases h1 : k' = .free
          · right; simp; exact fun h2 => hc ⟨h1, h2⟩
          · left; simpa using h1
        rw [List.map_cons]
        show List.lookup x ((if (k' == NameKind.free && env.scope.kind == .function && env.kindOf x == some .cell) = true then (x, NameKind.cell) else (x, k')) :: _) = _
        rw [this]; simp
    | false =>
      simp only [List.lookup_cons, hx] at h
      have ih := ih h
      rw [List.map_cons]
      show List.lookup x ((if (k' == NameKind.free && env.scope.kind == .function && env.kindOf n == some .cell) = true then (n, NameKind.cell) else (n, k')) :: _) = _
      by_cases hc : (k' == NameKind.free && env.scope.kind == .function && env.kindOf n == some .cell) = true
      · rw [if_pos hc]; simp only [List.lookup_cons, hx]; exact ih
      · rw [if_neg hc]; simp only [List.lookup_cons, hx]; exact ih
end Tw
end

section
namespace Tw
open PySem PySem.SeqAt

noncomputable def plainName (x : Str) : Bool := !(x == ("__debug__" : Str)) && !(x == ("__classdict__" : Str))

/-- the names that a comprehension sees -/
noncomputable def compSc (sc : Sc) (names : Nms) : Sc where
  nm := slotOf sc.nm sc.lim names
  gk := fun x => names.lookup x == some .globalImplicit && plainName x
  ck := fun x => names.lookup x == some .cell || names.lookup x == some .free
  st := fun x => names.lookup x == some .local || names.lookup x == some .cell
  lim := sc.lim + names.length
  top := false

structure CompOk (sc : Sc) (scope : Scope) : Prop where
  kind : scope.kind = .function
  each : ∀ x k, (x, k) ∈ scope.names → scope.names.lookup x = some k
  plain : ∀ x k, (x, k) ∈ scope.names → plainName x = true
  free : ∀ x, (x, NameKind.free) ∈ scope.names → sc.ck x = true

theorem St.reP {cx : Cx} {ι : List Addr} {ρ : Rho} {H : H} {s : Shared} {P' : Addr → Obj → Prop} (S : St cx ι ρ H s) (h : ∀ a o, P' a o → cx.P a o) : St { cx with P := P' } ι ρ H s :=
  ⟨S.same, S.len, S.nodup, S.objs, S.low, S.scr, S.scrI, S.scrIn, fun a o q => S.prot a o (h a o q), fun a o q => S.protI a o (h a o q), S.ns, S.nsI, S.cells, S.vars⟩
theorem Aside.keep {cx : Cx} {a b : Addr} (as : Aside cx a) (h : a ≠ b) (o : Obj) : Aside (cx.keep b o) a := ⟨fun ob q => q.elim (as.np ob) fun e => h e.1, as.nl, as.nc⟩

theorem iter_self {prog : Program} {cx : Cx} {A : Around} {ι : List Addr} {ρ : Rho} {H : H} {s : Shared} {E : Value → Shared → Prop} {it : Addr} {o : Obj} {i : It} {Q : Value → Shared → Prop} (S : St (cx.keep it o) ι ρ H s) (r : ItRep ι s.heap o i) (q : Q (.ref it) s) :
    wpAny (model prog cx.w) A (pyIter (.ref it)) Q E s := by
  have g := S.kept r.notMk
  cases i with
  | keys n ver len i => obtain ⟨l, _, _, c, d⟩ := r; exact wpAny_pyIter_keyiter ⟨o, g, c, d⟩ q
  | seq n i => obtain ⟨l, _, c, d⟩ := r; exact wpAny_pyIter_listiter ⟨o, g, c, d⟩ q
  | vals vs =>
    rcases r with ⟨t, i, items, n, c, d, _⟩ | ⟨x, left, step, e, _⟩
    · exact wpAny_pyIter_tupleiter ⟨o, g, c, d⟩ q
    · subst e; exact wpAny_pyIter_rangeiter g q

theorem new_comp_env {M : Model} {A : Around} {s : Shared} {E : Value → Shared → Prop} {scope : Scope} {globals : Addr} {cl : List (Str × Addr)} {qual : Str} {env : Env} {Q : Env → Shared → Prop}
    (q : Q (newEnv scope s.heap.objs.size globals (cellsFrom (s.heap.objs.size + 1) scope.names cl) qual none .none (some env) builtinsNs) { s with heap := pushCells (s.heap.push { cls := .type "dict", data := .dict #[] }) scope.names }) :
    wpAny M A (newFunctionEnv scope globals cl [] qual none .none (some env)) Q E s := by
  simp only [newFunctionEnv, Option.isSome_some, if_true]
  refine wpAny_bind (wpAny_alloc ?_)
  refine wpAny_bind (wpAny_layCells _ (fun name kind cells => by cases hkc : kind == NameKind.cell <;> simp [hkc]) _ _ _ _ ?_)
  rw [show ({ s with heap := s.heap.push { cls := .type "dict", data := .dict #[] } } : Shared).heap.objs.size = s.heap.objs.size + 1 from Heap.size_push ..]
  simp only [List.forIn_nil]
  exact wpAny_bind (wpAny_pure (wpAny_pure q))

/-- the frame of a comprehension -/
noncomputable def compCx (cx : Cx) (sc : Sc) (scope : Scope) (h : Heap) (C : Addr) : Cx where
  w := cx.w
  env := { newEnv scope C cx.env.globals (cellsFrom (C + 1) scope.names (clFrom cx.env scope.names [])) cx.env.qual none .none (some cx.env) builtinsNs with scope := relabel scope cx.env }
  nm := (compSc sc scope.names).nm
  st := (compSc sc scope.names).st
  P := frameP cx h
  s0 := cx.s0
  scr := cx.scr

section
variable {p : Pg} {sc : Sc} {C : Ora} {d : Nat} {cx : Cx} {A : Around} {ι : List Addr} {ρ : Rho} {H : H} {s : Shared} {scope : Scope}

theorem comp_kind (at' : At p sc C d cx A) {x : Str} {k : NameKind} (h : scope.names.lookup x = some k) (L : Addr) (hp : Heap) : (compCx cx sc scope hp L).env.kindOf x = some (if k = .free ∧ cx.env.kindOf x = some .cell then .cell else k) :=
  relabel_lookup at'.ok.fn h

theorem comp_cells (ok : CompOk sc scope) (at' : At p sc C d cx A) {L : Addr} {hp : Heap} {x : Str} {c : Addr} (l : (compCx cx sc scope hp L).env.cells.lookup x = some c) :
    ((x, c) ∈ cellsFrom (L + 1) scope.names [] ∧ (x, NameKind.cell) ∈ scope.names ∧ L + 1 ≤ c) ∨ (cx.env.cells.lookup x = some c ∧ (x, NameKind.free) ∈ scope.names) := by
  have l' : (cellsFrom (L + 1) scope.names (clFrom cx.env scope.names [])).lookup x = some c := l
  rw [cellsFrom_app] at l'
  rcases List.mem_append.mp (mem_of_lookup l') with h | h
  · exact .inl ⟨h, cellsFrom_of _ _ _ _ h⟩
  · rcases clFrom_of cx.env scope.names [] (fun x hx => (at'.fit.ck x (ok.free x hx)).2) x c h with h | h
    · simp at h
    · exact .inr h
theorem comp_has (at' : At p sc C d cx A) {L : Addr} {hp : Heap} {x : Str} (h : (x, NameKind.cell) ∈ scope.names ∨ (x, NameKind.free) ∈ scope.names) : ∃ c, (compCx cx sc scope hp L).env.cells.lookup x = some c := by
  show ∃ c, (cellsFrom (L + 1) scope.names (clFrom cx.env scope.names [])).lookup x = some c
  rw [cellsFrom_app]
  rcases h with h | h
  · obtain ⟨c, hc⟩ := cellsFrom_has scope.names (L + 1) x h
    exact lookup_of_mem (List.mem_append_left _ hc)
  · obtain ⟨c, hc⟩ := clFrom_has cx.env scope.names [] x h
    exact lookup_of_mem (List.mem_append_right _ hc)

theorem comp_own {x : Str} {c c' : Addr} {L : Addr} (h : Heap) (hL : h.objs.size = L) (m : (x, c) ∈ cellsFrom (L + 1) scope.names []) : (pushCells (h.push { cls := .type "dict", data := .dict #[] }) scope.names).IsCell c none := by
  have ok := cellsFrom_ok scope.names (h.push { cls := .type "dict", data := .dict #[] }) (L + 1) [] ⟨fun _ _ hm => (nomatch hm), List.Pairwise.nil⟩ (by rw [Heap.size_push, hL]; exact Nat.le_refl _)
  rw [Heap.size_push, hL] at ok
  exact (ok.empty x c m).1
theorem comp_apart {L : Addr} (h : Heap) (hL : h.objs.size = L) : (cellsFrom (L + 1) scope.names []).Pairwise fun x y => x.2 ≠ y.2 := by
  have ok := cellsFrom_ok scope.names (h.push { cls := .type "dict", data := .dict #[] }) (L + 1) [] ⟨fun _ _ hm => (nomatch hm), List.Pairwise.nil⟩ (by rw [Heap.size_push, hL]; exact Nat.le_refl _)
  rw [Heap.size_push, hL] at ok
  exact ok.apart

theorem comp_cxok (ok : CompOk sc scope) (at' : At p sc C d cx A) (S : St cx ι ρ H s) : CxOk (compCx cx sc scope s.heap s.heap.objs.size) where
  fn := ok.kind
  gl := at'.ok.gl
  bl := at'.ok.bl
  inj := fun x y i hx hy => slotOf_inj (fun x y i hx hy => at'.ok.inj x y i ((at'.fit.nm x).trans hx) ((at'.fit.nm y).trans hy)) at'.fit.lim (Nat.le_refl _) hx hy
  kinds := fun x i hx => by
    obtain ⟨k, l, h⟩ := slotOf_spec hx
    rcases h with ⟨rfl | rfl, _⟩ | ⟨rfl, ho⟩
    · left; rw [comp_kind at' l]; simp
    · right; rw [comp_kind at' l]; exact ⟨.inl (by simp), comp_has at' (.inl (mem_of_lookup l))⟩
    · right; rw [comp_kind at' l]
      refine ⟨?_, comp_has at' (.inr (mem_of_lookup l))⟩
      by_cases hc : cx.env.kindOf x = some .cell <;> simp [hc]
  plain := fun x i hx => by
    obtain ⟨k, l, h⟩ := slotOf_spec hx
    have := ok.plain x k (mem_of_lookup l)
    simpa [plainName] using this
  cinj := fun x y c hx hy => by
    have sz : ∀ (c : Addr), s.heap.objs.size + 1 ≤ c → ∀ (x : Str), cx.env.cells.lookup x = some c → False := fun c hlt x l => by
      obtain ⟨⟨ov, ic⟩, _⟩ := S.cells x c l
      exact absurd ic.lt (Nat.not_lt.mpr (Nat.le_of_succ_le hlt))
    rcases comp_cells ok at' hx with ⟨h1, _, h3⟩ | ⟨h1, _⟩ <;> rcases comp_cells ok at' hy with ⟨k1, _, k3⟩ | ⟨k1, _⟩
    · exact name_of_addr (comp_apart s.heap rfl) h1 k1
    · exact (sz c h3 y k1).elim
    · exact (sz c k3 x h1).elim
    · exact at'.ok.cinj x y c h1 k1
  own := fun x c o hs hk l q => by
    rcases comp_cells ok at' l with ⟨h1, _, h3⟩ | ⟨h1, h2⟩
    · have hg := (S.wdF at'.ok).prot c o q
      exact absurd hg.lt (Nat.not_lt.mpr (Nat.le_of_succ_le h3))
    · have := ok.each x _ h2
      simp [compCx, compSc, this] at hs
  loc := fun o q => by
    have hg := (S.wdF at'.ok).prot _ o q
    exact Nat.lt_irrefl _ hg.lt
  base := fun a o g h => .inl (at'.ok.base a o g h)
  lowL := by
    obtain ⟨m, hn⟩ := S.ns
    exact Nat.lt_trans at'.ok.lowL hn.lt
theorem comp_fit (ok : CompOk sc scope) (at' : At p sc C d cx A) (L : Addr) (h : Heap) : Fit (compSc sc scope.names) (compCx cx sc scope h L) where
  nm := fun _ => rfl
  st := fun _ => rfl
  gk := fun x hx => by
    simp [compSc, plainName] at hx
    exact ⟨by rw [comp_kind at' hx.1]; simp, by simpa using hx.2.1⟩
  ck := fun x hx => by
    simp [compSc] at hx
    rcases hx with hx | hx
    · exact ⟨.inl (by rw [comp_kind at' hx]; simp), comp_has at' (.inl (mem_of_lookup hx))⟩
    · refine ⟨?_, comp_has at' (.inr (mem_of_lookup hx))⟩
      rw [comp_kind at' hx]
      by_cases hc : cx.env.kindOf x = some .cell <;> simp [hc]
  stk := fun x hx => by
    simp [compSc] at hx
    rcases hx with hx | hx
    · left; rw [comp_kind at' hx]; simp
    · right; rw [comp_kind at' hx]; simp
  lim := fun x i hx => by
    obtain ⟨k, l, h⟩ := slotOf_spec hx
    rcases h with h | h
    · exact h.2.2
    · have := at'.fit.lim x i h.2; simp [compSc]; omega
  lo := fun x hx hc => by
    simp [compSc] at hx hc
    rcases hx with hx | hx
    · rw [comp_kind at' hx]; simp
    · exact absurd hx hc.1
theorem comp_at (ok : CompOk sc scope) (at' : At p sc C d cx A) (S : St cx ι ρ H s) : At p (compSc sc scope.names) C d (compCx cx sc scope s.heap s.heap.objs.size) A :=
  ⟨at'.call, at'.try, by
    obtain ⟨l, e, h⟩ := at'.fr.w S at'.ok
    refine ⟨l, e, (fun t => absurd (show false = true from t) Bool.false_ne_true), fun env he => ?_⟩
    obtain ⟨k, L, f, n, r⟩ := h env he
    exact ⟨k, L, f, n, .inr r⟩, comp_cxok ok at' S, comp_fit ok at' _ _, at'.gd, at'.ao⟩

theorem comp_st (ok : CompOk sc scope) (at' : At p sc C d cx A) (S : St cx ι ρ H s) (hb : Bnd sc.lim ρ) :
    St (compCx cx sc scope s.heap s.heap.objs.size) ι ρ H { s with heap := pushCells (s.heap.push { cls := .type "dict", data := .dict #[] }) scope.names } := by
  have hk : ∀ b o, s.heap.get? b = some o → (pushCells (s.heap.push { cls := .type "dict", data := .dict #[] }) scope.names).get? b = some o := fun b o e => pushCells_keeps _ _ b o (Heap.get?_push_of_some _ e)
  have S' := S.ext s.toks hk
  have fr := fun (c : Addr) (h : s.heap.objs.size ≤ c) => (S.fresh at'.ok h).1
  exact {
    same := S'.same
    len := S.len
    nodup := S.nodup
    objs := S'.objs
    low := S.low
    scr := S'.scr
    scrI := S.scrI
    scrIn := S.scrIn
    prot := fun a o q => ((S.wdF at'.ok).prot a o q).mono (hk _)
    protI := fun a o q => (S.wdF at'.ok).protI a o q
    ns := ⟨_, (Heap.Ns.new s.heap (.type "dict")).keeps (pushCells_keeps _ _)⟩
    nsI := fr _ (Nat.le_refl _)
    cells := fun x c l => by
      rcases comp_cells ok at' l with ⟨h1, _, h3⟩ | ⟨h1, _⟩
      · exact ⟨⟨none, comp_own (c' := 0) s.heap rfl h1⟩, fr c (Nat.le_of_succ_le h3), Nat.ne_of_gt h3⟩
      · obtain ⟨⟨ov, ic⟩, i2, i3⟩ := S.cells x c h1
        refine ⟨⟨ov, ic.keeps hk⟩, i2, ?_⟩
        exact Nat.ne_of_lt ic.lt
    vars := fun x i v hx hv => by
      obtain ⟨k, l, h⟩ := slotOf_spec hx
      rcases h with h | ⟨rfl, ho⟩
      · have := hb i h.2.1
        rw [this] at hv; cases hv
      · obtain ⟨val, va, r⟩ := S.vars x i v ((at'.fit.nm x).trans ho) hv
        refine ⟨val, ?_, r.mono (List.prefix_refl _) (.of_ext hk)⟩
        have hck := at'.fit.ck x (ok.free x (mem_of_lookup l))
        rcases va with ⟨kl, _⟩ | ⟨_, c, lc, ic⟩
        · rcases hck.1 with e | e <;> rw [kl] at e <;> cases e
        · obtain ⟨c', lc'⟩ := comp_has (L := s.heap.objs.size) (hp := s.heap) (sc := sc) at' (.inr (mem_of_lookup l))
          refine .inr ⟨?_, c', lc', ?_⟩
          · rw [comp_kind at' l]; by_cases hc : cx.env.kindOf x = some .cell <;> simp [hc]
          · rcases comp_cells ok at' lc' with ⟨_, h2, _⟩ | ⟨h1, _⟩
            · have e1 := ok.each x _ h2; rw [l] at e1; cases e1
            · rw [lc] at h1; cases h1; exact ic.keeps hk }
end
end Tw
end

section
namespace Tw
open PySem PySem.SeqAt

abbrev lstO (vals : Array Value) (n : Nat) : Obj := { cls := .type "list", data := .seq vals n }

/-- a comprehension's turn, with what the model lets go -/
theorem comp_loop {prog : Program} {w : World} {A : Around} {R : Result → Shared → Prop} {s : Shared} {elt target iter : Expr} {ifs : List Expr} {scope : Scope} {pos : Pos} {it acc : Value} {env : Env} (I : Nat → Shared → Prop)
    (turn : ∀ n s, I n s → wpAny (model prog w) A (pyNext it) (fun r s₁ => match r with
      | none => R (.ok .next) s₁
      | some v => wpAny (model prog w) A (letOwnedTupleGo target it v) (fun _ s₁' => wpAny (model prog w) A (assign target env v) (fun _ s₂ =>
          wpAny (model prog w) A (forIn ifs true fun c r => if r = true then do let ok ← isTrue c env (eval c env); pure (ForInStep.yield ok) else pure (ForInStep.yield r)) (fun ok s₃ =>
            if ok = true then wpAny (model prog w) A (eval elt env) (fun x s₄ =>
              wpAny (model prog w) A (call (.builtin "list.append") [acc, x]) (fun _ s₅ => ∃ m, m < n ∧ I m s₅) (notedBy (model prog w) A env fun e s' => R (.error e) s') s₄) (notedBy (model prog w) A env fun e s' => R (.error e) s') s₃
            else ∃ m, m < n ∧ I m s₃) (notedBy (model prog w) A env fun e s' => R (.error e) s') s₂) (notedBy (model prog w) A env fun e s' => R (.error e) s') s₁') (notedBy (model prog w) A env fun e s' => R (.error e) s') s₁) (notedBy (model prog w) A env fun e s' => R (.error e) s') s)
    (n : Nat) (h : I n s) : codeAny (model prog w) A (.compLoop (.ListComp elt [⟨target, iter, ifs, 0⟩] scope pos) 0 it acc env) R s := by
  refine codeAny_loop rfl I (fun n s hI => ?_) n h
  show wpAny _ A ((compTurn (.ListComp elt [⟨target, iter, ifs, 0⟩] scope pos) 0 it acc env).onRaise (fun x => do noteFrame x env; theTreesLotGoes x)) _ _ s
  refine wpAny_noted ?_
  rw [compTurn_list]
  refine wpAny_bind (wpAny_standAt (wpAny_bind (wpAny_mono (turn n s hI) (fun r s₁ h₁ => ?_) fun _ _ h' => h')))
  cases r with
  | none => exact wpAny_pure h₁
  | some v =>
    refine wpAny_bind (wpAny_mono h₁ (fun _ s₁' h₁' => ?_) fun _ _ h' => h')
    refine wpAny_bind (wpAny_mono h₁' (fun _ s₂ h₂ => wpAny_bind (wpAny_mono h₂ (fun ok s₃ h₃ => ?_) fun _ _ h' => h')) fun _ _ h' => h')
    cases ok with
    | false => exact wpAny_pure ⟨rfl, h₃⟩
    | true =>
      exact wpAny_bind (wpAny_bind (wpAny_mono h₃ (fun x s₄ h₄ => wpAny_bind (wpAny_mono h₄ (fun _ s₅ h₅ => wpAny_pure (wpAny_pure ⟨rfl, h₅⟩)) fun _ _ h' => h')) fun _ _ h' => h'))

/-- the tests of a comprehension -/
inductive SndC (p : Pg) (sc : Sc) : List Expr → Option E → Prop
  | none : SndC p sc [] none
  | one {c : Expr} {c' : E} : SndT p sc c c' → SndC p sc [c] (some c')

section
variable {p : Pg} {sc : Sc}
theorem SndC.go {ifs : List Expr} {cond : Option E} (h : SndC p sc ifs cond) {C : Ora} {d : Nat} {cx : Cx} {A : Around} {ι : List Addr} {ρ : Rho} {H : H} {s : Shared} {Q : Bool → Tw.H → Prop} {E : Value → Shared → Prop}
    (at' : At p sc C d cx A) (S : St cx ι ρ H s) (hb : Bnd sc.lim ρ) (hw : wpO C cond ρ H Q) :
    wpAny (model p.prog cx.w) A (forIn ifs true fun c r => if r = true then do let ok ← isTrue c cx.env (eval c cx.env); pure (ForInStep.yield ok) else pure (ForInStep.yield r)) (PostT cx ι ρ s Q) E s := by
  cases h with
  | none => exact wpAny_tests_nil ⟨ι, H, .refl _ _, S, hw⟩
  | one h => exact wpAny_tests_one (h at' S hb hw)

/-- one more value, in a list that stands aside -/
theorem append_aside {C : Ora} {cx : Cx} {A : Around} {prog : Program} {ι : List Addr} {ρ : Rho} {H : H} {s : Shared} {E : Value → Shared → Prop} {D : Addr} {vals : Array Value} {n : Nat} {out : List V} {x : Value} {v : V} {Q : Value → Shared → Prop} (as : Aside cx D)
    (S : St (cx.keep D (lstO vals n)) ι ρ H s) (r : RepVs ι s.heap vals.toList out) (rx : RepV ι s.heap x v) (hl : out.length < SZ)
    (q : ∀ vals' n' s', St (cx.keep D (lstO vals' n')) ι ρ H s' → Mono ι s ι s' → RepVs ι s'.heap vals'.toList (out ++ [v]) → Q .none s') :
    wpAny (model prog cx.w) A (call (.builtin "list.append") [.ref D, x]) Q E s := by
  have g := S.kept (notMk_seq rfl)
  have hI := S.keptI
  have e : vals.size = out.length := by rw [← Array.length_toList, r.length]
  refine call_meets F.slot_list_append ⟨_, g, rfl⟩ F.entry_list_append (F.args_list_append_2 _ _) (PySem.list_append D vals n _ (by rw [e, ← SZ_eq]; omega)) ⟨g, ?_⟩
  obtain ⟨S', M'⟩ := S.unkeep.but as hI s.toks (h' := s.heap.update D (Obj.mapSeq fun x_1 => x_1.push x)) (Heap.SameBut.update ..).extBut fun o e => by rw [g] at e; cases e; exact notImm_list rfl
  have g' : (s.heap.update D (Obj.mapSeq fun x_1 => x_1.push x)).get? D = some _ := Heap.get?_update_self _ g rfl
  exact q (vals.push x) _ _ (S'.keep g' hI) M' (by simpa using (M'.reps r).append (.cons (M'.rep rx) .nil))

noncomputable def compTurnW (C : Ora) (ρ : Rho) (tgt : Tgt) (cond : Option E) (elt : E) (v : V) (h : H) (k : Option V → H → Prop) : Prop :=
  bindT tgt v ρ fun ρ' => wpO C cond ρ' h fun b h₂ => match b with
    | true => wpE C elt ρ' h₂ fun x h₃ => k (some x) h₃
    | false => k none h₂

theorem comp_run {elt target iter : Expr} {ifs : List Expr} {scope : Scope} {pos : Pos} {elt' : E} {tgt : Tgt} {cond : Option E} {C : Ora} {d : Nat} {cx : Cx} {A : Around} {it D : Addr} {R : Result → Shared → Prop} {lim : Nat} {ρ : Rho}
    (hg : SndG p sc target tgt) (hc : SndC p sc ifs cond) (he : SndE p sc elt elt') (at' : At p sc C d cx A) (hb : Bnd lim ρ) (hlim : lim ≤ sc.lim) (hsl : ∀ i ∈ tgt.slots, lim ≤ i) (aD : Aside cx D) (aI : Aside cx it) (hne : D ≠ it)
    {ι₀ : List Addr} {s₀ : Shared} {K : List V → H → Prop}
    (fin : ∀ ι H s vals n out, Mono ι₀ s₀ ι s → St (cx.keep D (lstO vals n)) ι ρ H s → RepVs ι s.heap vals.toList out → out.length ≤ SZ → K out H → R (.ok .next) s) :
    ∀ {f : Nat} {o : Obj} {i : It} {ι : List Addr} {H : H} {s : Shared} {vals : Array Value} {n : Nat} {out : List V}, Mono ι₀ s₀ ι s → St ((cx.keep D (lstO vals n)).keep it o) ι ρ H s → ItRep ι s.heap o i → RepVs ι s.heap vals.toList out → out.length ≤ SZ →
      compN (compTurnW C ρ tgt cond elt') f i H out K →
      codeAny (model p.prog cx.w) A (.compLoop (.ListComp elt [⟨target, iter, ifs, 0⟩] scope pos) 0 (.ref it) (.ref D) cx.env) R s := by
  intro f o i ι H s vals n out M S ri ro hl h
  refine comp_loop (fun f s => ∃ (o : Obj) (i : It) (ι : List Addr) (H : Tw.H) (vals : Array Value) (n : Nat) (out : List V), Mono ι₀ s₀ ι s ∧ St ((cx.keep D (lstO vals n)).keep it o) ι ρ H s ∧ ItRep ι s.heap o i ∧ RepVs ι s.heap vals.toList out ∧ out.length ≤ SZ ∧
    compN (compTurnW C ρ tgt cond elt') f i H out K) (fun f s hI => ?_) f ⟨o, i, ι, H, vals, n, out, M, S, ri, ro, hl, h⟩
  obtain ⟨o, i, ι, H, vals, n, out, M, S, ri, ro, hl, h⟩ := hI
  cases f with
  | zero => exact h.elim
  | succ f =>
    have aI' : Aside (cx.keep D (lstO vals n)) it := aI.keep (Ne.symm hne) _
    refine mono' (next_sound (cx := cx.keep D (lstO vals n)) S aI' at'.ao.hd ri h) fun r s₁ h₁ => ?_
    cases r with
    | none =>
      obtain ⟨hk, S₁, M₁⟩ := h₁
      exact fin ι H s₁ vals n out (M.trans M₁) S₁ (M₁.reps ro) hl hk
    | some x =>
      obtain ⟨v, i', o', ht, S₁, M₁, rx, ri'⟩ := h₁
      refine owned_go (cx := cx.keep D (lstO vals n)) S₁ ri' ?_
      have at₁ := (at'.keep aD (lstO vals n)).keep aI' o'
      have hbs : Bnd sc.lim ρ := fun i hi => hb i (Nat.le_trans hlim hi)
      refine mono' (hg (cx := (cx.keep D (lstO vals n)).keep it o') at₁ S₁ hbs rx (bindT_ext ht)) fun _ s₂ ⟨ρ', M₂, S₂, hb', hout, hw⟩ => ?_
      have back : ∀ {ι' : List Addr} {H' : Tw.H} {s' : Shared} {cx' : Cx}, cx'.nm = cx'.nm → St cx' ι' ρ' H' s' → St cx' ι' ρ H' s' := fun _ S => S.rho fun x i v _ hv => by
        by_cases hm : i ∈ tgt.slots
        · have := hb i (hsl i hm); rw [this] at hv; cases hv
        · rw [hout i hm]; exact hv
      refine mono' (hc.go (cx := (cx.keep D (lstO vals n)).keep it o') at₁ S₂ hb' hw) fun b s₃ ⟨ι₃, H₃, M₃, S₃, q₃⟩ => ?_
      have M₁₃ := M₁.trans (M₂.trans M₃)
      cases b with
      | false =>
        rw [if_neg (by decide)]
        exact ⟨f, Nat.lt_succ_self _, o', i', ι₃, H₃, vals, n, out, M.trans M₁₃, back rfl S₃, ri'.mono (M₂.trans M₃).pre (M₂.trans M₃).imm, M₁₃.reps ro, hl, q₃⟩
      | true =>
        rw [if_pos rfl]
        refine mono' (he (cx := (cx.keep D (lstO vals n)).keep it o') at₁ S₃ hb' q₃) fun y s₄ ⟨vy, ι₄, H₄, M₄, S₄, ry, hlt, q₄⟩ => ?_
        have S₅ : St ((cx.keep it o').keep D (lstO vals n)) ι₄ ρ' H₄ s₄ := S₄.reP fun a ob q => by
          rcases q with (q | q) | q
          · exact .inl (.inl q)
          · exact .inr q
          · exact .inl (.inr q)
        have M₁₄ := M₁₃.trans M₄
        refine append_aside (C := C) (cx := cx.keep it o') (aD.keep hne _) S₅ (M₁₄.reps ro) ry hlt fun vals' n' s₆ S₆ M₆ r₆ => ?_
        refine ⟨f, Nat.lt_succ_self _, o', i', ι₄, H₄, vals', n', out ++ [vy], (M.trans M₁₄).trans M₆, back rfl (S₆.reP fun a ob q => ?_), ri'.mono ((M₂.trans M₃).trans (M₄.trans M₆)).pre ((M₂.trans M₃).trans (M₄.trans M₆)).imm, r₆, by simp; omega, q₄⟩
        rcases q with (q | q) | q
        · exact .inl (.inl q)
        · exact .inr q
        · exact .inl (.inr q)
end
end Tw
end

section
namespace Tw
open PySem PySem.SeqAt

section
variable {p : Pg} {sc : Sc}

theorem aside_comp {C : Ora} {d : Nat} {cx : Cx} {A : Around} {scope : Scope} (ok : CompOk sc scope) (at' : At p sc C d cx A) {h : Heap} {L b : Addr} (a : Aside cx b) (hlt : b < L) : Aside (compCx cx sc scope h L) b where
  np := fun ob q => by
    rcases q with q | ⟨q, _⟩ | ⟨_, x, l⟩
    · exact a.np ob q
    · exact a.nl q
    · exact a.nc x b l rfl
  nl := Nat.ne_of_lt hlt
  nc := fun x c l => by
    rcases comp_cells ok at' l with ⟨_, _, h3⟩ | ⟨h1, _⟩
    · exact Nat.ne_of_gt (Nat.lt_trans hlt h3)
    · exact a.nc x c h1

theorem comp_sound {elt target iter : Expr} {ifs : List Expr} {scope : Scope} {pos pos' : Pos} {elt' iter' : E} {tgt : Tgt} {cond : Option E} {use : Option (Value → Sem Unit)}
    (hi : SndE p sc iter iter') (ok : CompOk sc scope) (hg : SndG p (compSc sc scope.names) target tgt) (hc : SndC p (compSc sc scope.names) ifs cond) (he : SndE p (compSc sc scope.names) elt elt') (hsl : ∀ i ∈ tgt.slots, sc.lim ≤ i)
    (hset : ∀ env x, foldedSetIterable iter env x = pure x)
    {C : Ora} {d : Nat} {cx : Cx} {A : Around} {ι : List Addr} {ρ : Rho} {H : H} {s : Shared} {Q : V → Tw.H → Prop} {E : Value → Shared → Prop} {R : Value → Shared → Prop}
    (at' : At p sc C d cx A) (S : St cx ι ρ H s) (hb : Bnd sc.lim ρ) (h : wpE C (.comp elt' tgt iter' cond) ρ H Q)
    (fin : use = none → ∀ val s', Post cx ι ρ s Q val s' → R val s')
    (fin' : ∀ u, use = some u → ∀ L oL ι' H' s' val v, Aside cx L → Mono ι s ι' s' → St (cx.keep L oL) ι' ρ H' s' → RepV ι' s'.heap val v → Q v H' →
      wpAny (model p.prog cx.w) A (u val) (fun _ s'' => ∃ ι'' ρ'' H'', Mono ι' s' ι'' s'' ∧ St (cx.keep L oL) ι'' ρ'' H'' s'' ∧ ∀ s₃, Mono ι'' s'' ι'' s₃ → St cx ι'' ρ'' H'' s₃ → R .none s₃) E s') :
    wpAny (model p.prog cx.w) A (comprehension (.ListComp elt [⟨target, iter, ifs, 0⟩] scope pos) scope cx.env pos' (newList []) false (eval iter cx.env) use) R E s := by
  refine wpAny_comprehension_free (use := use) rfl (hset _) (closure_is fun x hx => (at'.fit.ck x (ok.free x hx)).2) ok.kind (fun x hx e => ok.each x.1 _ (by rw [← e]; exact hx))
    (mono' (hi at' S hb h) fun x s₁ ⟨vi, ι₁, H₁, M₁, S₁, r₁, q₁⟩ => mono' (iter_sound S₁ at'.ok r₁ q₁) fun itv s₂ ⟨it, o, i, e, aI, S₂, M₂, ri, f, q₂⟩ => ?_)
  subst e
  refine wpAny_newObj_type ?_
  refine new_comp_env ?_
  have gI := S₂.kept ri.notMk
  have hI := S₂.keptI
  have S₂' := S₂.unkeep
  obtain ⟨f1, f2, f3, f4, f5⟩ := S₂'.fresh at'.ok (Nat.le_refl _)
  have aD : Aside cx s₂.heap.objs.size := ⟨f3, f4, f5⟩
  have hk : ∀ b ob, s₂.heap.get? b = some ob → (s₂.heap.push (lstO #[] 0)).get? b = some ob := fun _ _ e => Heap.get?_push_of_some _ e
  have gD : (s₂.heap.push (lstO #[] 0)).get? s₂.heap.objs.size = some (lstO #[] 0) := get?_fresh rfl
  have hlt : it < s₂.heap.objs.size := Heap.lt_size gI
  have hsz : (s₂.heap.push (lstO #[] 0)).objs.size = s₂.heap.objs.size + 1 := Heap.size_push ..
  have S₃ := S₂'.push (lstO #[] 0) s₂.toks
  have M₃ : Mono ι₁ s₂ ι₁ { s₂ with heap := s₂.heap.push (lstO #[] 0), toks := s₂.toks } := .ext hk
  show codeAny _ A (.compStart (.ListComp elt [⟨target, iter, ifs, 0⟩] scope pos) 0 (.ref it) (.ref s₂.heap.objs.size) (compCx cx sc scope (s₂.heap.push (lstO #[] 0)) (s₂.heap.push (lstO #[] 0)).objs.size).env)
    (compPost _ A E use R (.ref s₂.heap.objs.size) (s₂.heap.push (lstO #[] 0)).objs.size) { s₂ with heap := pushCells ((s₂.heap.push (lstO #[] 0)).push { cls := .type "dict", data := .dict #[] }) scope.names }
  generalize hD : s₂.heap.objs.size = D at *
  generalize hH3 : s₂.heap.push (lstO #[] 0) = h₃ at *
  have S₄ := comp_st ok at' S₃ hb
  have at₄ := comp_at ok at' S₃
  have hk₄ : ∀ b ob, h₃.get? b = some ob → (pushCells (h₃.push { cls := .type "dict", data := .dict #[] }) scope.names).get? b = some ob := fun b ob e => pushCells_keeps _ _ b ob (Heap.get?_push_of_some _ e)
  have M₄ : Mono ι₁ { s₂ with heap := h₃, toks := s₂.toks } ι₁ { s₂ with heap := pushCells (h₃.push { cls := .type "dict", data := .dict #[] }) scope.names, toks := s₂.toks } := .ext hk₄
  dsimp only at S₄ at₄
  have hDL : D < h₃.objs.size := by rw [hsz]; exact Nat.lt_succ_self _
  have hIL : it < h₃.objs.size := Nat.lt_trans hlt hDL
  have aI₄ : Aside (compCx cx sc scope h₃ h₃.objs.size) it := aside_comp ok at' aI hIL
  have aD₄ : Aside (compCx cx sc scope h₃ h₃.objs.size) D := aside_comp ok at' aD hDL
  have hne : D ≠ it := Nat.ne_of_gt hlt
  have S₅ := (S₄.keep (hk₄ _ _ gD) f1).keep (hk₄ _ _ (hk _ _ gI)) hI
  obtain ⟨_, hlow, hP, hL, hc5⟩ := S₃.fresh at'.ok (a := h₃.objs.size) (Nat.le_refl _)
  have aL : Aside cx h₃.objs.size := ⟨hP, hL, hc5⟩
  have run := comp_run (R := compPost (model p.prog cx.w) A E use R (.ref D) h₃.objs.size) (iter := iter) (scope := scope) (pos := pos) hg hc he at₄ hb (Nat.le_add_right _ _) hsl aD₄ aI₄ hne
    (ι₀ := ι₁) (s₀ := { s₂ with heap := h₃, toks := s₂.toks }) (K := fun out h₂ => Q (.ref h₂.length) (h₂ ++ [MO.list out])) (fun ι₆ H₆ s₆ vals n out M₆ S₆ ro hl hq => ?_)
    (f := f) M₄ S₅ (ri.mono (M₃.trans M₄).pre (M₃.trans M₄).imm) (vals := #[]) (n := 0) (out := []) .nil (Nat.zero_le _) q₂
  · exact codeAny_compStart_list run (iter_self (cx := (compCx cx sc scope h₃ h₃.objs.size).keep D _) S₅ (ri.mono (M₃.trans M₄).pre (M₃.trans M₄).imm) run)
  · have gD₆ := S₆.kept (notMk_seq rfl)
    have hI₆ := S₆.keptI
    have S₇ := S₃.back S₆.unkeep.wd M₆
    have S₈ := S₇.alloc (o := .list out) ⟨vals, n, gD₆, ro, hl⟩ hI₆ f2 f3 f4 f5
    have M₈ : Mono ι₆ s₆ (ι₆ ++ [D]) s₆ := ⟨List.prefix_append _ _, .refl _⟩
    have Mall := M₁.trans (M₂.trans (M₃.trans (M₆.trans M₈)))
    have rD : RepV (ι₆ ++ [D]) s₆.heap (.ref D) (.ref H₆.length) := .ref (by rw [← S₇.len]; simp)
    obtain ⟨m, hn⟩ := S₆.ns
    have hnI : h₃.objs.size ∉ ι₆ ++ [D] := fun hm => by
      rcases List.mem_append.mp hm with hm | hm
      · exact S₆.nsI hm
      · simp at hm; exact absurd hm (Nat.ne_of_gt hDL)
    have hni : ∀ ob, s₆.heap.get? h₃.objs.size = some ob → ¬ isImm ob := Ns.notImm hn
    cases use with
    | none =>
      refine ⟨m, hn, fun h' hsb => ?_⟩
      obtain ⟨S₉, M₉⟩ := S₈.but aL hnI s₆.toks hsb.extBut hni
      exact fin rfl _ _ ⟨.ref H₆.length, _, _, Mall.trans M₉, S₉, M₉.rep rD, hq⟩
    | some u =>
      obtain ⟨oL, gL⟩ := Ns.obj hn
      have hnK : ∀ {s' : Shared}, Kp cx.s0 s'.heap h₃.objs.size oL → s'.heap.Ns h₃.objs.size m := fun x => Kp.ns (h := s₆.heap) (fun o e => by
        have e : s₆.heap.get? _ = some o := e
        rw [show s₆.heap.get? h₃.objs.size = some oL from gL] at e; cases e; exact x) hn
      refine mono' (fin' u rfl h₃.objs.size oL _ _ s₆ (.ref D) (.ref H₆.length) aL Mall (S₈.keep gL hnI) rD hq) fun _ s₇ ⟨ι₇, ρ₇, H₇, M₇, S₉, hR⟩ => ?_
      have hn₇ : s₇.heap.Ns h₃.objs.size m := hnK (S₉.prot _ oL (.inr ⟨rfl, rfl⟩))
      refine ⟨m, hn₇, fun h' hsb => ?_⟩
      obtain ⟨S₁₀, M₁₀⟩ := S₉.unkeep.but aL S₉.keptI s₇.toks hsb.extBut (Ns.notImm hn₇)
      exact hR _ M₁₀ S₁₀

theorem snd_comp {elt target iter : Expr} {ifs : List Expr} {scope : Scope} {pos : Pos} {elt' iter' : E} {tgt : Tgt} {cond : Option E}
    (hi : SndE p sc iter iter') (ok : CompOk sc scope) (hg : SndG p (compSc sc scope.names) target tgt) (hc : SndC p (compSc sc scope.names) ifs cond) (he : SndE p (compSc sc scope.names) elt elt') (hsl : ∀ i ∈ tgt.slots, sc.lim ≤ i)
    (hset : ∀ env x, foldedSetIterable iter env x = pure x) : SndE p sc (.ListComp elt [⟨target, iter, ifs, 0⟩] scope pos) (.comp elt' tgt iter' cond) := fun at' S hb h =>
  comp_sound (use := none) hi ok hg hc he hsl hset at' S hb h (fun _ _ _ P => P) fun u e => nomatch e
end
end Tw
end

section
namespace Tw
open PySem PySem.SeqAt

section
variable {p : Pg} {sc : Sc}

theorem sndB_nil : SndB p sc [] [] := fun at' S hb h => wpAny_execs_nil ⟨.next, _, _, _, .refl _ _, S, hb, trivial, h⟩
theorem sndB_cons {e : Stmt} {es : List Stmt} {e' : S} {es' : List S} (h1 : SndS p sc e e') (h2 : SndB p sc es es') : SndB p sc (e :: es) (e' :: es') := fun at' S hb h => by
  refine wpAny_execs_cons (mono' (h1 at' S hb h) fun f s₁ ⟨o, ρ₁, ι₁, H₁, M₁, S₁, hb₁, ho, q₁⟩ => ?_)
  cases o with
  | next =>
    cases f with
    | next => exact mono' (h2 at' S₁ hb₁ q₁) fun _ _ P => P.after M₁
    | _ => exact ho.elim
  | ret v =>
    cases f with
    | ret val => exact ⟨.ret v, ρ₁, ι₁, H₁, M₁, S₁, hb₁, ho, q₁⟩
    | _ => exact ho.elim

theorem snd_ret {e : Expr} {e' : E} {pos : Pos} (h1 : SndE p sc e e') : SndS p sc (.Return (some e) pos) (.ret (some e')) := fun at' S hb h =>
  wpAny_Return_some (mono' (h1 at' S hb h) fun val s₁ ⟨v, ι₁, H₁, M₁, S₁, r, q⟩ => ⟨.ret v, _, ι₁, H₁, M₁, S₁.ret, hb, r, q⟩)
theorem snd_ret0 {pos : Pos} : SndS p sc (.Return none pos) (.ret none) := fun at' S hb h => wpAny_Return_none ⟨.ret .none, _, _, _, .refl _ _, S.ret, hb, .none, h⟩
theorem snd_raise {e : Stmt} : SndS p sc e .raise := fun _ _ _ h => h.elim

theorem snd_expr {e : Expr} {e' : E} {pos : Pos} (h1 : SndE p sc e e') (hs : ∀ env l, swapsWith e none l env = pure false) : SndS p sc (.Expr e pos) (.expr e') := fun {C d cx A ι ρ H s Q E} at' S hb h => by
  have hi : interactive cx.env = false := by unfold interactive; rw [at'.ok.fn]; rfl
  rw [exec_Expr cx.env e pos hi (hs _ _)]
  exact wpAny_bind (wpAny_standAt (wpAny_bind (mono' (h1 at' S hb h) fun val s₁ ⟨v, ι₁, H₁, M₁, S₁, r, q⟩ => wpAny_dropValue ⟨.next, _, ι₁, H₁, M₁, S₁, hb, trivial, q⟩)))

theorem snd_ite {t : Expr} {a b : List Stmt} {pos : Pos} {t' : E} {a' b' : List S} (h1 : SndT p sc t t') (h2 : SndB p sc a a') (h3 : SndB p sc b b') : SndS p sc (.If t a b pos) (.ite t' a' b') := fun at' S hb h => by
  refine wpAny_If (mono' (h1 at' S hb h) fun c s₁ ⟨ι₁, H₁, M₁, S₁, q₁⟩ => ?_)
  cases c with
  | true => exact mono' (h2 at' S₁ hb q₁) fun _ _ P => P.after M₁
  | false => exact mono' (h3 at' S₁ hb q₁) fun _ _ P => P.after M₁

/-! assignments -/
theorem snd_store {o i e : Expr} {pos pos' : Pos} {o' i' e' : E} (h1 : SndE p sc e e') (h2 : SndE p sc o o') (h3 : SndE p sc i i') (hs : ∀ env l t, swapsWith e (some t) l env = pure false) :
    SndS p sc (.Assign [.Subscript o i pos'] e pos) (.store o' i' e') := fun at' S hb h => by
  refine wpAny_Assign_Subscript (mono' (h1 at' S hb h) fun x s₁ ⟨v, ι₁, H₁, M₁, S₁, r₁, q₁⟩ => mono' (h2 at' S₁ hb q₁) fun y s₂ ⟨vo, ι₂, H₂, M₂, S₂, r₂, q₂⟩ => mono' (h3 at' S₂ hb q₂) fun z s₃ ⟨vi, ι₃, H₃, M₃, S₃, r₃, q₃⟩ => ?_) (hs _ _ _)
  exact mono' (store_sound S₃ at'.ao.u (M₃.rep r₂) r₃ ((M₂.trans M₃).rep r₁) q₃) fun _ s₄ ⟨H₄, M₄, S₄, q₄⟩ => ⟨.next, _, ι₃, H₄, M₁.trans (M₂.trans (M₃.trans M₄)), S₄, hb, trivial, q₄⟩
theorem snd_assign_tup {es : List Expr} {k : Nat} {tp pos : Pos} {e : Expr} {e' : E} {tgt : Tgt} (h1 : SndE p sc e e') (h2 : SndG p sc (.Tuple es k tp) tgt) (hs : ∀ env l t, swapsWith e (some t) l env = pure false) (hw : ∀ env, swappedStores [.Tuple es k tp] e env = pure none) :
    SndS p sc (.Assign [.Tuple es k tp] e pos) (.assign tgt e') := fun {C d cx A ι ρ H s Q E} at' S hb h => by
  refine wpAny_Assign_stores (mono' (h1 at' S hb h) fun x s₁ ⟨v, ι₁, H₁, M₁, S₁, r₁, q₁⟩ => ?_) (hs cx.env pos.line (.Tuple es k tp)) (hw _)
  show wpAny _ _ (assign (.Tuple es k tp) _ x) _ _ _
  exact mono' (h2 at' S₁ hb r₁ q₁) fun _ s₂ ⟨ρ', M₂, S₂, hb', q₂⟩ => ⟨.next, ρ', ι₁, H₁, M₁.trans M₂, S₂, hb', trivial, q₂⟩
theorem snd_assign {x : Str} {i : Nat} {xp pos : Pos} {e : Expr} {e' : E} (h1 : SndE p sc e e') (hx : sc.nm x = some i) (hst : sc.st x = true) (hs : ∀ env l t, swapsWith e (some t) l env = pure false) :
    SndS p sc (.Assign [.Name x xp] e pos) (.assign (.name i) e') := fun at' S hb h => by
  refine wpAny_Assign_Name (mono' (h1 at' S hb h) fun val s₁ ⟨v, ι₁, H₁, M₁, S₁, r₁, q₁⟩ => ?_) (hs _ _ _)
  exact store_name hx hst at' S₁ hb r₁ fun s₂ M₂ S₂ hb₂ => ⟨.next, _, ι₁, H₁, M₁.trans M₂, S₂, hb₂, trivial, q₁⟩
theorem snd_assign_comp {x : Str} {i : Nat} {xp ap : Pos} {elt target iter : Expr} {ifs : List Expr} {scope : Scope} {pos : Pos} {elt' iter' : E} {tgt : Tgt} {cond : Option E} (hx : sc.nm x = some i) (hst : sc.st x = true)
    (hi : SndE p sc iter iter') (ok : CompOk sc scope) (hg : SndG p (compSc sc scope.names) target tgt) (hc : SndC p (compSc sc scope.names) ifs cond) (he : SndE p (compSc sc scope.names) elt elt') (hsl : ∀ i ∈ tgt.slots, sc.lim ≤ i)
    (hset : ∀ env x, foldedSetIterable iter env x = pure x) : SndS p sc (.Assign [.Name x xp] (.ListComp elt [⟨target, iter, ifs, 0⟩] scope pos) ap) (.assign (.name i) (.comp elt' tgt iter' cond)) := fun {C d cx A ι ρ H s Q E} at' S hb h => by
  have h : wpE C (.comp elt' tgt iter' cond) ρ H (fun v h₁ => Q .next (upd ρ i v) h₁) := h
  have hsw : ∃ b, swapsWith (.ListComp elt [⟨target, iter, ifs, 0⟩] scope pos) (some (.Name x xp)) ap.line cx.env = pure b := ⟨_, rfl⟩
  obtain ⟨b, hsw⟩ := hsw
  cases b with
  | false =>
    refine wpAny_Assign_Name (mono' (snd_comp hi ok hg hc he hsl hset at' S hb h) fun val s₁ ⟨v, ι₁, H₁, M₁, S₁, r₁, q₁⟩ => ?_) hsw
    exact store_name hx hst at' S₁ hb r₁ fun s₂ M₂ S₂ hb₂ => ⟨.next, _, ι₁, H₁, M₁.trans M₂, S₂, hb₂, trivial, q₁⟩
  | true =>
    rw [exec_Assign_Name_used _ _ _ _ hsw]
    refine wpAny_bind (wpAny_standAt (wpAny_bind ?_))
    show wpAny _ A (do let _ ← comprehension (.ListComp elt [⟨target, iter, ifs, 0⟩] scope pos) scope cx.env _ (newList []) false (eval iter cx.env) (some (assign (.Name x xp) cx.env))) _ _ s
    refine wpAny_bind (mono' (comp_sound (use := some (assign (.Name x xp) cx.env)) (R := fun _ s' => PostS sc cx ι s Q .next s') hi ok hg hc he hsl hset at' S hb h (fun e => nomatch e) fun u eu L oL ι' H' s' val v aL M' S' r' q' => ?_) fun _ s' hq => wpAny_pure (wpAny_pure hq))
    cases eu
    refine wpAny_assign_Name (store_name (cx := cx.keep L oL) hx hst (at'.keep aL oL) S' hb r' fun s₂ M₂ S₂ hb₂ => ?_)
    exact ⟨ι', _, H', M₂, S₂, fun s₃ M₃ S₃ => ⟨.next, _, ι', H', (M'.trans M₂).trans M₃, S₃, hb₂, trivial, q'⟩⟩

/-! loops -/
theorem snd_while {t : Expr} {b : List Stmt} {pos : Pos} {t' : E} {b' : List S} (h1 : SndT p sc t t') (h2 : SndB p sc b b') : SndS p sc (.While t b [] pos) (.while t' b') := fun {C d cx A ι ρ H s Q E} at' S hb h => by
  obtain ⟨f, h⟩ := h
  refine wpAny_While (codeAny_whileLoop (fun f s' => ∃ ι' ρ' H', Mono ι s ι' s' ∧ St cx ι' ρ' H' s' ∧ Bnd sc.lim ρ' ∧ whileN (fun ρ h k => wpT C t' ρ h k) (fun ρ h k => wpB C b' ρ h k) f ρ' H' Q) (fun f s₁ hI => ?_) f ⟨ι, ρ, H, .refl _ _, S, hb, h⟩)
  obtain ⟨ι₁, ρ₁, H₁, M₁, S₁, hb₁, h⟩ := hI
  cases f with
  | zero => exact h.elim
  | succ f =>
    refine mono' (h1 at' S₁ hb₁ h) fun c s₂ ⟨ι₂, H₂, M₂, S₂, q₂⟩ => ?_
    cases c with
    | false =>
      rw [if_neg (by decide)]
      exact wpAny_execs_nil ⟨.next, ρ₁, ι₂, H₂, M₁.trans M₂, S₂, hb₁, trivial, q₂⟩
    | true =>
      rw [if_pos rfl]
      refine mono' (h2 at' S₂ hb₁ q₂) fun fl s₃ ⟨o, ρ₃, ι₃, H₃, M₃, S₃, hb₃, ho, q₃⟩ => ?_
      have M₄ := M₁.trans (M₂.trans M₃)
      cases o with
      | next =>
        cases fl with
        | next => exact ⟨f, Nat.lt_succ_self _, ι₃, ρ₃, H₃, M₄, S₃, hb₃, q₃⟩
        | _ => exact ho.elim
      | ret v =>
        cases fl with
        | ret val => exact ⟨.ret v, ρ₃, ι₃, H₃, M₄, S₃, hb₃, ho, q₃⟩
        | _ => exact ho.elim

theorem snd_for {t it : Expr} {b : List Stmt} {pos : Pos} {tgt : Tgt} {it' : E} {b' : List S} (h1 : SndE p sc it it') (hg : SndG p sc t tgt) (h2 : SndB p sc b b') (hset : ∀ env x, foldedSetIterable it env x = pure x) :
    SndS p sc (.For t it b [] pos) (.for tgt it' b') := fun {C d cx A ι ρ H s Q E} at' S hb h => by
  refine wpAny_For (mono' (h1 at' S hb h) fun x s₁ ⟨vi, ι₁, H₁, M₁, S₁, r₁, q₁⟩ => mono' (iter_sound S₁ at'.ok r₁ q₁) fun itv s₂ ⟨I, o, i, e, aI, S₂, M₂, ri, f, q₂⟩ => ?_) (hset _)
  subst e
  refine codeAny_forLoop_any (fun f s' => ∃ o i ι' ρ' H', Mono ι s ι' s' ∧ St (cx.keep I o) ι' ρ' H' s' ∧ Bnd sc.lim ρ' ∧ ItRep ι' s'.heap o i ∧ forN (fun v ρ h k => bindT tgt v ρ fun ρ' => wpB C b' ρ' h k) f i ρ' H' Q) (fun f s₁ hI => ?_) f
    ⟨o, i, ι₁, ρ, H₁, M₁.trans M₂, S₂, hb, ri, q₂⟩
  obtain ⟨o, i, ι₁, ρ₁, H₁, M₁, S₁, hb₁, ri, h⟩ := hI
  cases f with
  | zero => exact h.elim
  | succ f =>
    refine mono' (next_sound S₁ aI at'.ao.hd ri h) fun r s₂ h₂ => ?_
    cases r with
    | none =>
      obtain ⟨hq, S₂, M₂⟩ := h₂
      exact wpAny_execs_nil ⟨.next, ρ₁, ι₁, H₁, M₁.trans M₂, S₂, hb₁, trivial, hq⟩
    | some x =>
      obtain ⟨v, i', o', ht, S₂, M₂, rx, ri'⟩ := h₂
      refine owned_go S₂ ri' ?_
      have at₁ := at'.keep aI o'
      refine mono' (hg (cx := cx.keep I o') at₁ S₂ hb₁ rx ht) fun _ s₃ ⟨ρ₃, M₃, S₃, hb₃, hw⟩ => ?_
      refine mono' (h2 (cx := cx.keep I o') at₁ S₃ hb₃ hw) fun fl s₄ ⟨o₄, ρ₄, ι₄, H₄, M₄, S₄, hb₄, ho, q₄⟩ => ?_
      have M₅ := M₁.trans (M₂.trans (M₃.trans M₄))
      cases o₄ with
      | next =>
        cases fl with
        | next => exact ⟨f, Nat.lt_succ_self _, o', i', ι₄, ρ₄, H₄, M₅, S₄, hb₄, ri'.mono (M₃.trans M₄).pre (M₃.trans M₄).imm, q₄⟩
        | _ => exact ho.elim
      | ret v =>
        cases fl with
        | ret val => exact ⟨.ret v, ρ₄, ι₄, H₄, M₅, S₄.unkeep, hb₄, ho, q₄⟩
        | _ => exact ho.elim
end
end Tw
end

section
namespace Tw
open PySem PySem.SeqAt

noncomputable def sc0 : Sc := ⟨fun _ => none, fun _ => false, fun _ => false, fun _ => false, 0, false⟩
/-- the names that a function sees -/
noncomputable def fnSc (names : Nms) : Sc := { compSc sc0 names with top := true }

structure FnOk (p : Pg) (f : FnRec) (fn : Fn) : Prop where
  params : ∃ args, f.params = ⟨[], args, none, [], [], none, []⟩ ∧ (args.map (·.arg)).Nodup ∧ fn.arity = args.length ∧ (∀ (i : Nat) x, (args.map (·.arg))[i]? = some x → (fnSc f.scope.names).nm x = some i)
  kind : f.scope.kind = .function
  co : f.scope.isCoroutine = false
  gen : f.scope.isGenerator = false
  each : ∀ x k, (x, k) ∈ f.scope.names → f.scope.names.lookup x = some k
  plain : ∀ x k, (x, k) ∈ f.scope.names → plainName x = true
  free : ∀ x, (x, NameKind.free) ∉ f.scope.names
  body : SndB p (fnSc f.scope.names) f.body fn.body

theorem zip_lookup : ∀ {names : List Str} {vals : List Value}, names.Nodup → names.length = vals.length → ∀ x ∈ names, ((names.zip vals).lookup x).isSome = true
  | [], _, _, _, x, h => by simp at h
  | n :: r, [], _, hl, _, _ => by simp at hl
  | n :: r, v :: vs, hn, hl, x, h => by
    simp only [List.zip_cons_cons, List.lookup_cons]
    cases hx : x == n with
    | true => rfl
    | false =>
      rcases List.mem_cons.mp h with e | h
      · subst e; simp at hx
      · exact zip_lookup (List.nodup_cons.mp hn).2 (by simpa using hl) x h
theorem filterMap_eq {α β : Type} {f g : α → Option β} : ∀ {l : List α}, (∀ x ∈ l, f x = g x) → l.filterMap f = l.filterMap g
  | [], _ => rfl
  | a :: r, h => by rw [List.filterMap_cons, List.filterMap_cons, h a List.mem_cons_self, filterMap_eq fun x hx => h x (List.mem_cons_of_mem _ hx)]
theorem filter_zip : ∀ {names : List Str} {vals : List Value}, names.Nodup → names.length = vals.length → names.filterMap (fun n => ((names.zip vals).lookup n).map (n, ·)) = names.zip vals
  | [], _, _, _ => by simp
  | n :: r, [], _, hl => by simp at hl
  | n :: r, v :: vs, hn, hl => by
    obtain ⟨h1, h2⟩ := List.nodup_cons.mp hn
    have ih := filter_zip h2 (vals := vs) (by simpa using hl)
    rw [List.zip_cons_cons, List.filterMap_cons]
    simp only [List.lookup_cons, beq_self_eq_true, Option.map_some]
    congr 1
    refine Eq.trans ?_ ih
    exact filterMap_eq fun x hx => by
      have : (x == n) = false := beq_eq_false_iff_ne.mpr fun (e : x = n) => h1 (e ▸ hx)
      rw [this]

theorem bind_rfl {α β : Type} {m : Sem α} {a : α} {f : α → Sem β} (h : m = pure a) : (m >>= f) = f a := by rw [h, pure_bind]
theorem bind_plain {name : Str} {args : List Arg} {body : List Stmt} {scope : Scope} {pm code doc : Value} {vals : List Value} (hn : (args.map (·.arg)).Nodup) (hl : args.length = vals.length) :
    bindArgs (Calls.docDef name ⟨[], args, none, [], [], none, []⟩ body scope pm code doc) ⟨vals, []⟩ = pure ((args.map (·.arg)).zip vals) := by
  have hl' : (args.map (·.arg)).length = vals.length := by simpa using hl
  have hmiss : List.filter (fun n => (List.lookup n ((args.map (·.arg)).zip vals)).isNone) ((args.map (·.arg)).take (args.map (·.arg)).length) = [] := by
    rw [List.take_length, List.filter_eq_nil_iff]
    intro x hx
    have := zip_lookup hn hl' x hx
    simpa using Option.isSome_iff_ne_none.mp this
  have h1 : (decide (vals.length > (args.map (·.arg)).length) && (none : Option Arg).isNone) = false := by simp [hl']
  have hd : ((args.map (·.arg)).drop (args.map (·.arg)).length).zip ([] : List Value) = [] := by rw [List.drop_length]; rfl
  have hf := filter_zip hn hl'
  unfold bindArgs
  refine (bind_rfl rfl).trans ?_
  refine (bind_rfl rfl).trans ?_
  refine (if_neg (show ¬ (decide (vals.length > (args.map (·.arg)).length) && (none : Option Arg).isNone) = true by rw [h1]; exact Bool.false_ne_true)).trans ?_
  refine (if_neg ?a).trans ?_
  case a =>
    show ¬ (!(List.filter (fun n => (List.lookup n ((args.map (·.arg)).zip vals)).isNone) ((args.map (·.arg)).take ((args.map (·.arg)).length - (List.drop (0 - (args.map (·.arg)).length) ([] : List Value)).length))).isEmpty) = true
    rw [List.drop_nil, List.length_nil, Nat.sub_zero, hmiss]; exact Bool.false_ne_true
  refine (bind_rfl (a := (args.map (·.arg)).zip vals) ?a).trans ?_
  case a =>
    show forIn (((args.map (·.arg)).drop ((args.map (·.arg)).length - (List.drop (0 - (args.map (·.arg)).length) ([] : List Value)).length)).zip (List.drop (0 - (args.map (·.arg)).length) ([] : List Value))) _ _ = _
    rw [List.drop_nil, List.length_nil, Nat.sub_zero, hd]; rfl
  refine (bind_rfl rfl).trans ?_
  refine congrArg pure ?_
  show List.filterMap (fun n => Option.map (fun x => (n, x)) (List.lookup n ((args.map (·.arg)).zip vals))) (args.map (·.arg) ++ []) = _
  rw [List.append_nil]; exact hf

theorem bindL_out {kindOf : Str → Option NameKind} : ∀ {binds : List (Str × Value)} {m : Str → Option Value} {x : Str}, x ∉ binds.map (·.1) → bindL kindOf binds m x = m x ∧ bindC kindOf binds m x = m x
  | [], _, _, _ => ⟨rfl, rfl⟩
  | (n, v) :: r, m, x, h => by
    simp at h
    have hx : ∀ z, (x, z) ∉ r := by simpa using h.2
    have ih := fun m => bindL_out (kindOf := kindOf) (binds := r) (m := m) (x := x) (by simpa using h.2)
    unfold bindL bindC
    refine ⟨(ih _).1.trans ?_, (ih _).2.trans ?_⟩ <;> split <;> simp [h.1]
theorem bind_at {kindOf : Str → Option NameKind} : ∀ {binds : List (Str × Value)} {m : Str → Option Value} {x : Str} {v : Value}, (binds.map (·.1)).Nodup → (x, v) ∈ binds →
    (kindOf x = some .local → bindL kindOf binds m x = some v) ∧ (kindOf x ≠ some .local → bindC kindOf binds m x = some v)
  | [], _, _, _, _, h => by simp at h
  | (n, w) :: r, m, x, v, hn, h => by
    simp only [List.map_cons, List.nodup_cons] at hn
    unfold bindL bindC
    rcases List.mem_cons.mp h with e | h
    · cases e
      refine ⟨fun hk => ?_, fun hk => ?_⟩
      · rw [(bindL_out hn.1).1, if_pos hk]; simp
      · rw [(bindL_out hn.1).2, if_neg hk]; simp
    · exact ⟨(bind_at hn.2 h).1, (bind_at hn.2 h).2⟩

section
variable {p : Pg} {w : World} {P : Addr → Obj → Prop} {s0 : Shared} {scr : Addr} {ι : List Addr} {H : H} {s : Shared} {f : FnRec} {fn : Fn}

noncomputable def callCx (w : World) (P : Addr → Obj → Prop) (s0 : Shared) (scr : Addr) (fd : FuncData) (L a : Addr) : Cx where
  w := w
  env := callEnvC fd L a
  nm := (fnSc fd.scope.names).nm
  st := (fnSc fd.scope.names).st
  P := P
  s0 := s0
  scr := scr

theorem fn_slot {names : Nms} {x : Str} {i : Nat} (h : (fnSc names).nm x = some i) : ∃ k, names.lookup x = some k ∧ (k = .local ∨ k = .cell) ∧ i < names.length := by
  obtain ⟨k, l, h⟩ := slotOf_spec h
  rcases h with ⟨h, _, h3⟩ | ⟨_, h⟩
  · exact ⟨k, l, h, by simpa [sc0] using h3⟩
  · cases h
theorem call_has {fd : FuncData} {L a : Addr} {x : Str} (h : (x, NameKind.cell) ∈ fd.scope.names) : ∃ c, (callEnvC fd L a).cells.lookup x = some c := by
  obtain ⟨c, hc⟩ := cellsFrom_has fd.scope.names (L + 1) x h
  exact lookup_of_mem hc

theorem call_cxok (ok : FnOk p f fn) (G : Gd p.G p.T s0 scr) (hP : ∀ a o, s0.heap.get? a = some o → a ≠ scr → P a o) (W : Wd w P s0 scr ι H s) {pm code doc : Value} {a : Addr}
    (hap : (cellsFrom (s.heap.objs.size + 1) f.scope.names []).Pairwise fun x y => x.2 ≠ y.2) : CxOk (callCx w P s0 scr (Calls.docDef f.name f.params f.body f.scope pm code doc) s.heap.objs.size a) where
  fn := ok.kind
  gl := rfl
  bl := rfl
  inj := fun x y i hx hy => slotOf_inj (b0 := 0) (fun x y i h => by simp [sc0] at h) (fun x i h => by simp [sc0] at h) (Nat.le_refl _) hx hy
  kinds := fun x i hx => by
    obtain ⟨k, l, h, _⟩ := fn_slot hx
    rcases h with rfl | rfl
    · exact .inl l
    · exact .inr ⟨.inl l, call_has (mem_of_lookup l)⟩
  plain := fun x i hx => by
    obtain ⟨k, l, h, _⟩ := fn_slot hx
    have := ok.plain x k (mem_of_lookup l)
    simpa [plainName] using this
  cinj := fun x y c hx hy => name_of_addr hap (mem_of_lookup hx) (mem_of_lookup hy)
  own := fun x c o _ _ l q => by
    have h3 := (cellsFrom_of _ _ _ _ (mem_of_lookup l)).2
    exact absurd (W.prot c o q).lt (Nat.not_lt.mpr (Nat.le_of_succ_le h3))
  loc := fun o q => Nat.lt_irrefl _ (W.prot _ o q).lt
  base := hP
  lowL := by
    obtain ⟨o, g, hne⟩ := G.low
    exact (W.prot _ o (hP _ o g hne)).lt
theorem call_fit (w : World) (P : Addr → Obj → Prop) (s0 : Shared) (scr : Addr) (fd : FuncData) (L a : Addr) (hf : ∀ x, (x, NameKind.free) ∉ fd.scope.names) : Fit (fnSc fd.scope.names) (callCx w P s0 scr fd L a) where
  nm := fun _ => rfl
  st := fun _ => rfl
  gk := fun x hx => by
    simp [fnSc, compSc, plainName] at hx
    exact ⟨hx.1, by simpa using hx.2.1⟩
  ck := fun x hx => by
    simp [fnSc, compSc] at hx
    rcases hx with hx | hx
    · exact ⟨.inl hx, call_has (mem_of_lookup hx)⟩
    · exact absurd (mem_of_lookup hx) (hf x)
  stk := fun x hx => by
    simp [fnSc, compSc] at hx
    exact hx
  lim := fun x i hx => by
    obtain ⟨k, l, h, h2⟩ := fn_slot hx
    simpa [fnSc, compSc, sc0] using h2
  lo := fun x hx hc => by
    simp [fnSc, compSc] at hx hc
    rcases hx with hx | hx
    · exact hx
    · exact absurd hx hc.1

theorem call_st (ok : FnOk p f fn) (G : Gd p.G p.T s0 scr) (hP : ∀ a o, s0.heap.get? a = some o → a ≠ scr → P a o) (W : Wd w P s0 scr ι H s) {pm code doc : Value} {a : Addr} {names : List Str} {vals : List Value} {vs : List V} {s₁ : Shared}
    (hn : names.Nodup) (hl : names.length = vals.length) (hsl : ∀ (i : Nat) x, names[i]? = some x → (fnSc f.scope.names).nm x = some i) (r : RepVs ι s.heap vals vs) {fd : FuncData} (hfd : fd = Calls.docDef f.name f.params f.body f.scope pm code doc)
    (I : InCallC s (callEnvC fd s.heap.objs.size a).locals (bindL (callEnvC fd s.heap.objs.size a).kindOf (names.zip vals) fun _ => none) (callEnvC fd s.heap.objs.size a).cells (bindC (callEnvC fd s.heap.objs.size a).kindOf (names.zip vals) fun _ => none) s₁) :
    St (callCx w P s0 scr fd s.heap.objs.size a) ι (argsR vs) H s₁ ∧ Mono ι s ι s₁ := by
  have hk := I.toInCall.keep
  have hsc : fd.scope = f.scope := by rw [hfd]; rfl
  have fr : ∀ c, s.heap.objs.size ≤ c → c ∉ ι := fun c hc hm => by
    obtain ⟨n, hn⟩ := List.mem_iff_getElem?.mp hm
    have hlt : n < H.length := W.len ▸ (List.getElem?_eq_some_iff.mp hn).1
    obtain ⟨ob, g, _⟩ := (W.objs n c _ hn (List.getElem?_eq_getElem hlt)).get
    exact absurd (Heap.lt_size g) (Nat.not_lt.mpr hc)
  have hmap : (names.zip vals).map (·.1) = names := by rw [List.map_fst_zip]; omega
  refine ⟨?_, ⟨List.prefix_refl _, .of_ext hk⟩⟩
  exact {
    same := by
      obtain ⟨h, tk, e⟩ := I.toInCall.same
      obtain ⟨h', tk', e'⟩ := W.same
      exact ⟨h, tk, by rw [e]; subst e'; rfl⟩
    len := W.len
    nodup := W.nodup
    objs := fun n b o hb ho => (W.objs n b o hb ho).mono (List.prefix_refl _) (.of_ext hk) (hk _)
    low := W.low
    scr := fun o e => hk _ _ (W.scr o e)
    scrI := W.scrI
    scrIn := W.scrIn
    prot := fun b o q => (W.prot b o q).mono (hk _)
    protI := W.protI
    ns := ⟨_, I.toInCall.ns⟩
    nsI := fr _ (Nat.le_refl _)
    cells := fun x c l => by
      have h3 := I.above x c (mem_of_lookup l)
      exact ⟨⟨_, I.cell x c l⟩, fr c (Nat.le_of_lt h3), Nat.ne_of_gt h3⟩
    vars := fun x i v hx hv => by
      have hx' : (fnSc f.scope.names).nm x = some i := by rw [← hsc]; exact hx
      obtain ⟨k, l, hk2, _⟩ := fn_slot hx'
      have hv' : vs[i]? = some v := hv
      obtain ⟨val, hval, rv⟩ := r.get hv'
      have hi : i < names.length := by rw [hl]; exact (List.getElem?_eq_some_iff.mp hval).1
      have e1 := hsl i names[i] (List.getElem?_eq_getElem hi)
      have e2 : names[i] = x := slotOf_inj (b0 := 0) (fun x y i h => by simp [sc0] at h) (fun x i h => by simp [sc0] at h) (Nat.le_refl _) e1 hx'
      have hm : (x, val) ∈ names.zip vals := by
        refine List.mem_iff_getElem?.mpr ⟨i, ?_⟩
        rw [List.getElem?_zip_eq_some]
        exact ⟨by rw [List.getElem?_eq_getElem hi, e2], hval⟩
      have hb := bind_at (kindOf := (callEnvC fd s.heap.objs.size a).kindOf) (m := fun _ => none) (by rw [hmap]; exact hn) hm
      have hko : (callEnvC fd s.heap.objs.size a).kindOf x = some k := by show fd.scope.names.lookup x = some k; rw [hsc]; exact l
      refine ⟨val, ?_, rv.mono (List.prefix_refl _) (.of_ext hk)⟩
      rcases hk2 with rfl | rfl
      · exact .inl ⟨hko, _, I.toInCall.ns, hb.1 hko⟩
      · obtain ⟨c, lc⟩ := call_has (L := s.heap.objs.size) (a := a) (fd := fd) (x := x) (by rw [hsc]; exact mem_of_lookup l)
        have hc := I.cell x c lc
        rw [hb.2 (by rw [hko]; decide)] at hc
        exact .inr ⟨.inl hko, c, lc, hc⟩ }

theorem call_go {C : Ora} {d : Nat} {A : Around} {a : Addr} {vals : List Value} {vs : List V} {l : List Env} {Q : Value → Shared → Prop} {E : Value → Shared → Prop} (fo : FnOk p f fn) (G : Gd p.G p.T s0 scr) (hP : ∀ a o, s0.heap.get? a = some o → a ≠ scr → P a o)
    (W : Wd w P s0 scr ι H s) (hl : A.frames = some l) (fr : ∀ env ∈ l, FrOne P s0 env) (ao : AOk A (d + 1)) (hc : CallOk p.prog p.G p.T C d) (ht : TryOk p.prog p.G p.T C d) (hf : FnAt s0.heap a f) (r : RepVs ι s.heap vals vs) (har : fn.arity = vs.length)
    (k : ∀ (cx : Cx) (A' : Around) (s₁ : Shared), cx.w = w → cx.P = P → cx.s0 = s0 → cx.scr = scr → cx.env.frame = some cx.env.locals → A'.frames = some (cx.env :: l) → At p (fnSc f.scope.names) C d cx A' → St cx ι (argsR vs) H s₁ → Mono ι s ι s₁ → Bnd (fnSc f.scope.names).lim (argsR vs) →
      wpAny (model p.prog w) A' (execs f.body cx.env) (fun fl s' => Q (match fl with | .ret v => v | _ => .none) s') (fun e s' => wpAny (model p.prog w) A' (leaving cx.env e) (fun _ s'' => E e s'') (fun e' s'' => E e' s'') s') s₁) :
    wpAny (model p.prog w) A (call (.ref a) vals) Q E s := by
  obtain ⟨args, hpar, hnd, hlen, hsl⟩ := fo.params
  have hfa := hf
  obtain ⟨o, pm, code, doc, go, do', hcode⟩ := hf
  have keep : ∀ b o, s0.heap.get? b = some o → b ≠ scr → s.heap.get? b = some o := fun b o e hne => (W.prot _ _ (hP _ _ e hne)).base e
  have hll : args.length = vals.length := by rw [r.length, ← har, hlen]
  have hl' : (args.map (·.arg)).length = vals.length := by simpa using hll
  have hap : (cellsFrom (s.heap.objs.size + 1) f.scope.names []).Pairwise fun x y => x.2 ≠ y.2 := comp_apart (scope := f.scope) s.heap rfl
  refine wpAny_call (codeAny_call_cells (binds := (args.map (·.arg)).zip vals) (by have := ao.dp; omega) (keep _ _ go (G.notScr _ f hfa)) do' (G.lim' _ keep) (G.code _ _ hcode _ keep) rfl (by rw [hpar]; exact bind_plain hnd hll) rfl (fun x hx => ?_) (fun s₁ I => ?_) fo.co fo.gen fo.kind)
  · have hx1 : x.1 ∈ args.map (·.arg) := (List.of_mem_zip (a := x.1) (b := x.2) hx).1
    obtain ⟨i, hi⟩ := List.mem_iff_getElem?.mp hx1
    obtain ⟨k, l, hk2, _⟩ := fn_slot (hsl i x.1 hi)
    rcases hk2 with rfl | rfl
    · exact .inl l
    · refine .inr ⟨l, ?_⟩
      obtain ⟨c, hc⟩ := cellsFrom_has f.scope.names (s.heap.objs.size + 1) x.1 (mem_of_lookup l)
      obtain ⟨c', hc'⟩ := lookup_of_mem hc
      show ((cellsFrom (s.heap.objs.size + 1) f.scope.names []).lookup x.1).isSome = true
      rw [hc']; rfl
  · obtain ⟨S₁, M₁⟩ := call_st fo G hP W hnd hl' hsl r rfl I
    have cok := call_cxok (a := a) (pm := pm) (code := code) (doc := doc) fo G hP W hap
    have hfr : (A.deeper (callEnvC (Calls.docDef f.name f.params f.body f.scope pm code doc) s.heap.objs.size a)).frames = some (callEnvC (Calls.docDef f.name f.params f.body f.scope pm code doc) s.heap.objs.size a :: l) := Around.frames_deeper hl
    have at₁ : At p (fnSc f.scope.names) C d (callCx w P s0 scr (Calls.docDef f.name f.params f.body f.scope pm code doc) s.heap.objs.size a) (A.deeper (callEnvC (Calls.docDef f.name f.params f.body f.scope pm code doc) s.heap.objs.size a)) :=
      ⟨hc, ht, ⟨_, hfr, fun _ => ⟨l, rfl, rfl⟩, fun env he => by
        rcases List.mem_cons.mp he with rfl | he
        · exact ⟨(fun e => by rw [show (callEnvC (Calls.docDef f.name f.params f.body f.scope pm code doc) s.heap.objs.size a).scope.kind = f.scope.kind from rfl, fo.kind] at e; cases e), _, rfl, S₁.newL cok, .inl rfl⟩
        · obtain ⟨k1, L, k2, k3, k4⟩ := fr env he
          exact ⟨k1, L, k2, k3, .inr k4⟩⟩, cok, call_fit w P s0 scr (Calls.docDef f.name f.params f.body f.scope pm code doc) s.heap.objs.size a fo.free, G, ⟨ao.hd, by have := ao.dp; show A.depth + 1 + d < _; omega, by have := ao.un; show A.units + 3 + 4 * d + 100 < _; omega⟩⟩
    have hb : Bnd (fnSc f.scope.names).lim (argsR vs) := fun i hi => by
      show vs[i]? = none
      rw [List.getElem?_eq_none_iff]
      refine Nat.le_of_not_lt fun hlt => ?_
      have hi' : i < (args.map (·.arg)).length := by rw [hl', r.length]; exact hlt
      obtain ⟨k, l, hk2, h4⟩ := fn_slot (hsl i _ (List.getElem?_eq_getElem hi'))
      simp [fnSc, compSc, sc0] at hi
      omega
    exact k _ _ s₁ rfl rfl rfl rfl rfl hfr at₁ S₁ M₁ hb
end

inductive PostRz (cx : Cx) (ι : List Addr) (s : Shared) (Q : Out → Rho → H → Prop) (e : Value) (s' : Shared) : Prop
  | mk (a C : Addr) (mg : Str → Option Value) (vs : List Value) (ι' : List Addr) (ρ' : Rho) (H' : H) (h : Heap) (he : e = .ref a) (g : cx.s0.heap.Ns mainGlobals mg) (O : PyProof.Rows.OwnClsQ twoN C excM "ValueError.__new__" mg cx.s0.heap)
      (M : Mono ι s ι' { s' with heap := h }) (S : St cx ι' ρ' H' { s' with heap := h }) (X : Heap.MadeExcOf h s'.heap a (.ref C) vs) (q : Q (.ret (.bool true)) ρ' H')
/-- a body that may raise the program's own exception -/
noncomputable def SndR (p : Pg) (sc : Sc) (e : List Stmt) (e' : List S) : Prop :=
  ∀ {C : Ora} {d : Nat} {cx : Cx} {A : Around} {ι : List Addr} {ρ : Rho} {H : H} {s : Shared} {Q : Out → Rho → Tw.H → Prop},
    At p sc C d cx A → St cx ι ρ H s → Bnd sc.lim ρ → wpB C e' ρ H Q → wpAny (model p.prog cx.w) A (execs e cx.env) (PostS sc cx ι s fun _ ρ' H' => Q (.ret (.bool false)) ρ' H') (PostRz cx ι s Q) s
noncomputable def FnTry (p : Pg) (f : FnRec) (fn : Fn) : Prop := (∃ fn₀, FnOk p f fn₀ ∧ fn₀.arity = fn.arity) ∧ SndR p (fnSc f.scope.names) f.body fn.body

/-- a heap with some objects out of sight -/
noncomputable def hidF (h : Heap) (l : List Addr) : Heap := l.foldl Heap.hide h
theorem hidF_of : ∀ {l : List Addr} {h : Heap} {b : Addr} {o : Obj}, (hidF h l).get? b = some o → h.get? b = some o
  | [], _, _, _, e => e
  | _ :: r, _, _, _, e => Heap.of_hide (hidF_of (l := r) e)
theorem hidF_get : ∀ {l : List Addr} {h : Heap} {b : Addr} {o : Obj}, h.get? b = some o → b ∉ l → (hidF h l).get? b = some o
  | [], _, _, _, e, _ => e
  | a :: r, h, b, _, e, n => hidF_get (l := r) ((Heap.hide_ne h (fun (q : b = a) => n (by rw [q]; exact List.mem_cons_self))).trans e) fun q => n (List.mem_cons_of_mem _ q)
theorem hidF_none {l : List Addr} {h : Heap} {b : Addr} (hm : b ∈ l) : (hidF h l).get? b = none := by
  induction l generalizing h with
  | nil => cases hm
  | cons a r ih =>
    by_cases hb : b ∈ r
    · exact ih hb
    · rcases List.mem_cons.mp hm with e | hm
      · cases q : (hidF h (a :: r)).get? b with
        | none => rfl
        | some o =>
          have := hidF_of (l := r) q
          rw [e, Heap.hide_self] at this; cases this
      · exact absurd hm hb

theorem fun_frames {h base : Heap} : ∀ {l : List Env}, (∀ env ∈ l, env.scope.kind ≠ .module ∧ ∃ L o, env.frame = some L ∧ base.get? L = none ∧ h.get? L = some o ∧ ∃ es n, o.data = .dict es n) → h.FunFrames base l
  | [], _ => trivial
  | env :: r, x => by
    obtain ⟨k, L, o, e1, e2, e3, es, n, d⟩ := x env List.mem_cons_self
    exact ⟨k, ⟨L, o, e1, e2, e3, fun vs q => by rw [d] at q; cases q⟩, fun_frames fun env he => x env (List.mem_cons_of_mem _ he)⟩

theorem leave_try {prog : Program} {w : World} {P : Addr → Obj → Prop} {s0 : Shared} {scr : Addr} {ι : List Addr} {s : Shared} {cx : Cx} {A' : Around} {l : List Env} {s₁ : Shared} {Q : V → H → Prop} {e : Value} {s' : Shared} (e1 : cx.w = w) (e2 : cx.P = P) (e3 : cx.s0 = s0) (e4 : cx.scr = scr)
    (hf : cx.env.frame = some cx.env.locals) (hfr : A'.frames = some (cx.env :: l)) (ok : CxOk cx) (fr : ∀ env ∈ l, FrOne P s0 env) (M₁ : Mono ι s ι s₁) (x : PostRz cx ι s₁ (fun o _ h => Q o.val h) e s') :
    wpAny (model prog w) A' (leaving cx.env e) (fun _ s'' => PostE w P s0 scr l ι s Q e s'') (fun e' s'' => PostE w P s0 scr l ι s Q e' s'') s' := by
  subst e1; subst e2; subst e3; subst e4
  obtain ⟨a, C, mg, vs, ι', ρ', H', h, rfl, g, O, M, S, X, q⟩ := x
  obtain ⟨ob, gL, mkL⟩ := S.frL
  have dL : ∃ es n, ob.data = .dict es n := mkL.2
  have hfs : ∀ {b}, b ∈ cx.env.locals :: l.filterMap (·.frame) → b = cx.env.locals ∨ ∃ env ∈ l, env.frame = some b := fun {b} hm => by
    rcases List.mem_cons.mp hm with e | hm
    · exact .inl e
    · obtain ⟨env, he, e⟩ := List.mem_filterMap.mp hm
      exact .inr ⟨env, he, e⟩
  have at' : ∀ env ∈ l, ∃ L o, env.frame = some L ∧ cx.s0.heap.get? L = none ∧ h.get? L = some o ∧ (∃ es n, o.data = .dict es n) ∧ (∀ o, cx.P L o → Mk o) ∧ ∃ o, cx.P L o := fun env he => by
    obtain ⟨_, L, e1, e2, ⟨o, po⟩, all⟩ := fr env he
    obtain ⟨o', g', d'⟩ := (S.prot L o po).obj
    obtain ⟨_, es, n, d⟩ := all o po
    exact ⟨L, o', e1, e2, g', ⟨es, n, d'.trans d⟩, all, o, po⟩
  refine wpAny_leaves_madeW (base := hidF h (cx.env.locals :: l.filterMap (·.frame))) (h := h) hfr hf (fun b o e => hidF_of e) (fun_frames fun env he => ?_) X fun h' t F _ _ U => ?_
  · rcases List.mem_cons.mp he with rfl | he
    · exact ⟨(fun e => by rw [ok.fn] at e; cases e), _, ob, hf, hidF_none List.mem_cons_self, gL, dL⟩
    · obtain ⟨L, o, e1, e2, e3, d, _⟩ := at' env he
      exact ⟨(fr env he).1, L, o, e1, hidF_none (List.mem_cons_of_mem _ (List.mem_filterMap.mpr ⟨env, he, e1⟩)), e3, d⟩
  · refine ⟨a, C, mg, .ref t, ι', H', h, _, cx.env.locals :: l.filterMap (·.frame), rfl, g, O, M₁.trans M, S.wd, ?_, F, (Heap.UpToSlots.of_keeps X.keeps).trans U, q⟩
    refine ⟨fun b o e n => hidF_get e n, fun b hb => ?_, fun b hb o po => ?_, fun b hb o e => ?_⟩
    · rcases hfs hb with rfl | ⟨env, he, e⟩
      · exact S.nsI
      · obtain ⟨L, o, e1, _, _, _, _, o', po⟩ := at' env he
        rw [e] at e1; cases e1
        exact S.protI _ _ po
    · rcases hfs hb with rfl | ⟨env, he, e⟩
      · exact absurd po (ok.loc o)
      · obtain ⟨L, o', e1, e2, _, _, all, _⟩ := at' env he
        rw [e] at e1; cases e1
        exact ⟨e2, all o po⟩
    · rcases hfs hb with rfl | ⟨env, he, e'⟩
      · have e : h.get? _ = some o := e
        rw [show h.get? cx.env.locals = some ob from gL] at e; cases e; exact dL
      · obtain ⟨L, o', e1, _, e3, d, _⟩ := at' env he
        rw [e'] at e1; cases e1
        rw [e3] at e; cases e; exact d

/-- all functions of the table -/
noncomputable def TabOk (p : Pg) (Φ : Nat → Option Fn) : Prop := ∀ k f fn, p.T k = some f → (Φ k = some fn → FnOk p f fn) ∧ (Φ (1000 + k) = some fn → FnTry p f fn)

theorem calls_ok {p : Pg} {Φ : Nat → Option Fn} (ok : TabOk p Φ) (d : Nat) : CallOk p.prog p.G p.T (Calls Φ d) d ∧ TryOk p.prog p.G p.T (Calls Φ d) d := by
  induction d with
  | zero => exact ⟨fun _ _ _ _ _ _ _ _ h => h.elim, fun _ _ _ _ _ _ _ _ _ h => h.elim⟩
  | succ d ih =>
    refine ⟨?_, ?_⟩
    · intro w P s0 scr ι H s A k f a vals vs Q E G hP W fr ao ht hf r h
      obtain ⟨fn, hΦ, har, hw⟩ := h
      have fo := (ok k f fn ht).1 hΦ
      obtain ⟨l, hl, fr⟩ := fr
      refine call_go fo G hP W hl fr ao ih.1 ih.2 hf r har fun cx A' s₁ e1 e2 e3 e4 _ _ at₁ S₁ M₁ hb => ?_
      subst e1; subst e2; subst e3; subst e4
      refine mono' (fo.body at₁ S₁ hb hw) fun fl s₂ ⟨o₂, ρ₂, ι₂, H₂, M₂, S₂, _, ho, q₂⟩ => ?_
      cases o₂ with
      | next =>
        cases fl with
        | next => exact ⟨.none, ι₂, H₂, M₁.trans M₂, S₂.wd, .none, q₂⟩
        | _ => exact ho.elim
      | ret v =>
        cases fl with
        | ret val => exact ⟨v, ι₂, H₂, M₁.trans M₂, S₂.wd, ho, q₂⟩
        | _ => exact ho.elim
    · intro w P s0 scr ι H s A k f a vals vs Q l G hP W hl fr ao ht hf r h
      obtain ⟨fn, hΦ, har, hw⟩ := h
      obtain ⟨⟨fn₀, fo, ha⟩, hR⟩ := (ok k f fn ht).2 hΦ
      refine call_go fo G hP W hl fr ao ih.1 ih.2 hf r (ha.trans har) fun cx A' s₁ e1 e2 e3 e4 e5 e6 at₁ S₁ M₁ hb => ?_
      have hx := hR at₁ S₁ hb hw
      have e1' := e1
      subst e1
      refine wpAny_mono hx (fun fl s₂ hp => ?_) fun e s₂ hp => leave_try e1' e2 e3 e4 e5 e6 at₁.ok fr M₁ hp
      obtain ⟨o₂, ρ₂, ι₂, H₂, M₂, S₂, _, _, q₂⟩ := hp
      subst e2; subst e3; subst e4
      exact ⟨.none, .none, ι₂, H₂, M₁.trans M₂, S₂.wd, .none, q₂⟩
end Tw
end

section
namespace Tw
open PySem PySem.SeqAt

section
variable {p : Pg} {sc : Sc}

/-- all that was there at first is there -/
theorem St.all {cx : Cx} {ι : List Addr} {ρ : Rho} {H : H} {s : Shared} (S : St cx ι ρ H s) (ok : CxOk cx) : ∀ b o, cx.s0.heap.get? b = some o → s.heap.get? b = some o := fun b o e => by
  by_cases hb : b = cx.scr
  · subst hb; exact S.scr o e
  · exact (S.prot b o (ok.base b o e hb)).base e

/-- an exception class, opened -/
inductive ClsAt (h : Heap) (C : Addr) : Prop
  | mk (tl : List Value) (N : Addr) (nm q : Str) (bs : List Value) (hdct : Bool) (sn : List Str) (sub : List Value) (ab : Bool) (col : Option Bool) (dd : Option Addr) (k0 k1 k2 k3 k5 : Option Value) (mN : Str → Option Value)
      (hC : h.get? C = some (excClassObj nm q C N bs tl hdct sn sub ab col dd k0 k1 k2 k3 k5 "ValueError.__new__")) (hN : h.Ns N mN) (hni : mN "__init__" = none) (T : OwnTail h excM tl)
theorem ClsAt.of {x : Str} {C : Addr} {mg : Str → Option Value} {h : Heap} (O : PyProof.Rows.OwnClsQ x C excM "ValueError.__new__" mg h) : ClsAt h C := by
  obtain ⟨tl, N, nm, qn, bs, hdct, sn, sub, ab, col, dd, k0, k1, k2, k3, k5, mN, hC, hN, hni, T⟩ := O.own.obj
  exact ⟨tl, N, nm, qn, bs, hdct, sn, sub, ab, col, dd, k0, k1, k2, k3, k5, mN, hC, hN, hni, T⟩
/-- raise of the program's own exception -/
theorem raise_two {np cpos rp mp : Pos} {msg : Str} {k : Nat} (hk : sc.gk twoN = true) (hg : p.G twoN = some .exc) (hm : msg.length ≤ SZ) {C : Ora} {d : Nat} {cx : Cx} {A : Around} {ι : List Addr} {ρ : Rho} {H : H} {s : Shared} {Q : Out → Rho → Tw.H → Prop} {R : Flow → Shared → Prop}
    (at' : At p sc C d cx A) (S : St cx ι ρ H s) (hb : Bnd sc.lim ρ) (q : Q (.ret (.bool true)) ρ H) :
    wpAny (model p.prog cx.w) A (exec (.Raise (some (.Call (.Name twoN np) [.Constant (.str msg) k mp] [] cpos)) none rp) cx.env) R (PostRz cx ι s Q) s := by
  have hs : SndEs p sc [.Constant (.str msg) k mp] [.lit (.str msg.cps.toList)] := sndEs_cons (fun _ => rfl) (snd_str hm) sndEs_nil
  obtain ⟨mg, mb, _, _, n0, _, h3⟩ := S.globals at'.ok at'.gd
  obtain ⟨Cl, O⟩ := h3 twoN .exc hg
  obtain ⟨tl, N, nm, qn, bs, hdct, sn, sub, ab, col, dd, k0, k1, k2, k3, k5, mN, hC, hN, hni, T⟩ := ClsAt.of O
  refine wpAny_Raise_call_subT (C := Cl) (nm := nm) (q := qn) (N := N) (bs := bs) (bm := tl) (hdct := hdct) (sn := sn) (sub := sub) (ab := ab) (col := col) (dd := dd) (k0 := k0) (k1 := k1) (k2 := k2) (k3 := k3) (k5 := k5)
    PySem.F.excBase_ValueError (mN := mN) (T.hasType PySem.F.excBase_ValueError.hasBase) at'.ao.hd (back_any (hs.2.1 _)) hni (load_global at' S hk hg fun v e => ?_)
  obtain ⟨C', mg', rfl, n0', O'⟩ := e
  obtain rfl : C' = Cl := by
    have e1 := O'.bound
    rw [Ns.uniq n0' n0, O.bound] at e1
    injection e1 with e1; injection e1 with e1; exact e1.symm
  refine ⟨rfl, args_of (hs.2.1 _) (mono' (hs.2.2 (Q := fun _ H' => H' = H) cpos at' S hb rfl) fun xs s₁ ⟨hl, vs, ι₁, H₁, M₁, S₁, r₁, q₁⟩ => ?_)⟩
  subst q₁
  have hk₁ := S₁.all at'.ok
  exact ⟨rfl, by show xs.length ≤ _; rw [hl]; exact (by decide : 1 ≤ sizeLine), hk₁ _ _ hC, hN.keeps hk₁, T.keeps hk₁, fun h' e X => ⟨e, C', mg, xs, ι₁, ρ, H₁, s₁.heap, rfl, n0, O, M₁, S₁, X, q⟩⟩

/-- a body: names out of a call, a test, the exception; else a value -/
theorem sndR_three {es : List Expr} {k k' : Nat} {tp ap ip np cpos rp mp pos : Pos} {e1 t e : Expr} {e1' t' e' : E} {tgt : Tgt} {msg : Str} (h1 : SndE p sc e1 e1') (h2 : SndG p sc (.Tuple es k tp) tgt) (hs : ∀ env l t, swapsWith e1 (some t) l env = pure false) (hw : ∀ env, swappedStores [.Tuple es k tp] e1 env = pure none)
    (h3 : SndT p sc t t') (h4 : SndE p sc e e') (hk : sc.gk twoN = true) (hg : p.G twoN = some .exc) (hm : msg.length ≤ SZ) :
    SndR p sc [.Assign [.Tuple es k tp] e1 ap, .If t [.Raise (some (.Call (.Name twoN np) [.Constant (.str msg) k' mp] [] cpos)) none rp] [] ip, .Return (some e) pos]
      [.assign tgt e1', .ite t' [.ret (some (.lit (.bool true)))] [], .expr e', .ret (some (.lit (.bool false)))] := fun {C d cx A ι ρ H s Q} at' S hb h => by
  refine wpAny_execs_cons (wpAny_Assign_stores (mono' (h1 at' S hb h) fun x s₁ ⟨v, ι₁, H₁, M₁, S₁, r₁, q₁⟩ => ?_) (hs cx.env ap.line (.Tuple es k tp)) (hw _))
  show wpAny _ _ (assign (.Tuple es k tp) _ x) _ _ _
  refine mono' (h2 at' S₁ hb r₁ q₁) fun _ s₂ ⟨ρ₂, M₂, S₂, hb₂, q₂⟩ => ?_
  refine wpAny_execs_cons (wpAny_If (mono' (h3 at' S₂ hb₂ q₂) fun c s₃ ⟨ι₃, H₃, M₃, S₃, q₃⟩ => ?_))
  have M := M₁.trans (M₂.trans M₃)
  cases c with
  | true =>
    refine wpAny_execs_cons (wpAny_mono (raise_two hk hg hm at' S₃ hb₂ (Q := Q) q₃) (fun _ _ x => x) fun ev s₄ x => ?_)
    obtain ⟨a, C', mg, vs, ι₄, ρ₄, H₄, h₄, he, g, O, M₄, S₄, X, q⟩ := x
    exact ⟨a, C', mg, vs, ι₄, ρ₄, H₄, h₄, he, g, O, M.trans M₄, S₄, X, q⟩
  | false =>
    refine wpAny_execs_nil (wpAny_execs_cons (wpAny_Return_some (mono' (h4 at' S₃ hb₂ q₃) fun val s₄ ⟨v, ι₄, H₄, M₄, S₄, r, q⟩ => ?_)))
    exact ⟨.ret v, ρ₂, ι₄, H₄, M.trans M₄, S₄.ret, hb₂, r, q⟩

/-- an exception flies, from a call in this frame -/
inductive Fly (cx : Cx) (ι : List Addr) (ρ : Rho) (s : Shared) (l : List Env) (R : V → H → Prop) (e : Value) (s₂ : Shared) : Prop
  | mk (a Cl : Addr) (mg : Str → Option Value) (a0 : Value) (ι₂ : List Addr) (H₂ : H) (h₂ base : Heap) (he : e = .ref a) (g : cx.s0.heap.Ns mainGlobals mg) (O : PyProof.Rows.OwnClsQ twoN Cl excM "ValueError.__new__" mg cx.s0.heap)
      (back : ∀ h', base.StaysIn h' → h₂.UpToSlots h' → Mono ι s ι₂ { s₂ with heap := h' } ∧ St cx ι₂ ρ H₂ { s₂ with heap := h' }) (F : Heap.FlyingW base l a (.ref Cl) a0 s₂.heap) (U : h₂.UpToSlots s₂.heap) (q : R (.bool true) H₂)
/-- a call that may raise -/
theorem try_call {x : Str} {np cpos ep : Pos} {es : List Expr} {es' : List E} {j : Nat} {C : Ora} {d : Nat} {cx : Cx} {A : Around} {ι : List Addr} {ρ : Rho} {H : H} {s : Shared} {R : V → Tw.H → Prop} {l : List Env} {Qf : Flow → Shared → Prop} {E' : Value → Shared → Prop}
    (hk : sc.gk x = true) (hg : p.G x = some (.fn j)) (h1 : SndEs p sc es es') (at' : At p sc C d cx A) (S : St cx ι ρ H s) (hb : Bnd sc.lim ρ) (h : wpEs C es' ρ H fun vs h => C (1000 + j) vs h R) (hl : A.frames = some l)
    (q1 : ∀ ι' H' s', Mono ι s ι' s' → St cx ι' ρ H' s' → R (.bool false) H' → Qf .next s') (q2 : ∀ e s', Fly cx ι ρ s l R e s' → E' e s') :
    wpAny (model p.prog cx.w) A (execs [.Expr (.Call (.Name x np) es [] cpos) ep] cx.env) Qf E' s := by
  have hi : interactive cx.env = false := by unfold interactive; rw [at'.ok.fn]; rfl
  refine wpAny_execs_cons ?_
  rw [exec_Expr cx.env (.Call (.Name x np) es [] cpos) ep hi rfl]
  refine wpAny_bind (wpAny_standAt (wpAny_bind (wpAny_Call_ofName (load_global at' S hk hg fun v e => ?_))))
  obtain ⟨b, f, rfl, ht, hfn⟩ := e
  have hfa := hfn
  obtain ⟨o, pm, code, doc, go, do', hcode⟩ := hfn
  have hns := at'.gd.notScr _ f hfa
  refine Calls.callWith_function (o := o) (args_of (h1.2.1 _) (mono' (h1.2.2 cpos at' S hb h) fun xs s₁ ⟨_, vs, ι₁, H₁, M₁, S₁, r₁, q₁⟩ => ⟨⟨(S₁.prot _ _ (at'.ok.base _ _ go hns)).base go, do'⟩, ?_⟩))
  clear hcode go do'
  obtain ⟨l', hl', fr'⟩ := at'.fr.w S₁ at'.ok
  rw [hl] at hl'; cases hl'
  refine wpAny_mono (at'.try at'.gd (fun a o e h => Or.inl (at'.ok.base a o e h)) (S₁.wdF at'.ok) hl fr' at'.ao ht hfa r₁ q₁) (fun val s₂ hp => ?_) fun e s₂ hp => ?_
  · obtain ⟨_, v, ι₂, H₂, M₂, W₂, _, q₂⟩ := hp
    exact wpAny_dropValue (wpAny_execs_nil (q1 ι₂ H₂ s₂ (M₁.trans M₂) (S₁.back W₂ M₂) q₂))
  · obtain ⟨a, Cl, mg, a0, ι₂, H₂, h₂, base, fs, rfl, g, O, M₂, W₂, V, F, U, q₂⟩ := hp
    refine q2 _ _ ⟨a, Cl, mg, a0, ι₂, H₂, h₂, base, rfl, g, O, fun h' st up => ?_, F, U, q₂⟩
    obtain ⟨W', M'⟩ := V.wd W₂ st up
    exact ⟨M₁.trans (M₂.trans M'), S₁.back W' (M₂.trans M')⟩

end
end Tw
end

section
namespace Tw
open PySem PySem.SeqAt

/-! the program's exception classes: what isinstance says of one that was raised -/
theorem lk_class : typeLookup (.type "ValueError") "__class__" = pure (some (.builtin "object.__class__")) := by rw [typeLookup_type, builtinLookup_eq_fast]; kernel_rfl
theorem excM_obj : excM.contains (.type (".".intercalate ("object.__class__".cutAt '.').dropLast)) = true := by rw [F.owner_object_class]; rfl
theorem quiet_in : ∀ n ∈ quietNames, n ∈ quiet9 := fun n h => by
  simp only [quietNames, quiet9, List.mem_cons, List.not_mem_nil, or_false] at h ⊢
  rcases h with h | h | h | h <;> simp [h]

section
variable {prog : Program} {w : World} {A : Around} {E : Value → Shared → Prop} {h : Heap} {g : Array GenState} {d : Drawn} {t : Nat} {os : OsState} {a C M B : Addr} {o : Obj}

theorem lk9 {Md : Model} {n : Str} {y : Option Value} {Q : Option Value → Shared → Prop} (hn : n ∈ quiet9) (x : ExcAt h C (.ref M :: excM)) (xm : ExcAt h M excM) (hB : typeLookup (.type "ValueError") n = pure y) (hq : Q y ⟨h, g, d, t, os⟩) :
    wpAny Md A (typeLookup (.ref C) n) Q E ⟨h, g, d, t, os⟩ := by
  obtain ⟨N, nm, q, bs, hdct, sn, sub, ab, col, dd, k0, k1, k2, k3, k5, mN, hC, hN, r⟩ := id x
  obtain ⟨N', nm', q', bs', hdct', sn', sub', ab', col', dd', k0', k1', k2', k3', k5', mN', hC', hN', r'⟩ := id xm
  have hrest : lookupAlong excM n = pure y := by rw [typeLookup_eq, F.excBase_ValueError.mroIs] at hB; exact hB
  rw [typeLookup_eq]
  refine wpAny_bind (wpAny_mroOf_exc hC ?_)
  rw [lookupAlong_cons]
  refine wpAny_bind (wpAny_classOwn_exc hC hN ?_)
  rw [r n hn]
  show wpAny _ _ (lookupAlong (.ref M :: excM) n) _ _ _
  rw [lookupAlong_cons]
  refine wpAny_bind (wpAny_classOwn_exc hC' hN' ?_)
  rw [r' n hn]
  show wpAny _ _ (lookupAlong excM n) _ _ _
  rw [hrest]
  exact wpAny_pure hq

theorem cls_get9 {R : Result → Shared → Prop} (x : ExcAt h C (.ref M :: excM)) (hx : h.get? a = some o) (hc : o.cls = .ref C) (hq : R (.ok (.ret (.ref C))) ⟨h, g, d, t, os⟩) :
    codeAny (model prog w) A (.call (.builtin "getset_descriptor.__get__") ⟨[.builtin "object.__class__", .ref a, .ref C], []⟩) R ⟨h, g, d, t, os⟩ := by
  obtain ⟨N, nm, q, bs, hdct, sn, sub, ab, col, dd, k0, k1, k2, k3, k5, mN, hC, hN, r⟩ := id x
  have hT5 : (⟨h, g, d, t, os⟩ : Shared).TypeIs (.builtin "object.__class__") "getset_descriptor" := F.typeOf_object_class
  have hcB : (Value.ref C :: .ref M :: excM).contains (.type (".".intercalate ("object.__class__".cutAt '.').dropLast)) = true := by rw [List.contains_cons, List.contains_cons, excM_obj, Bool.or_true, Bool.or_true]
  refine codeAny_call_builtin F.slot_gs_get.plain F.entry_gs_get (F.slot_gs_get.check _ _ _ _ _ _ _ _ hT5 (F.args_gs_get _ _ _) ?_)
  repeat (any_goals (first | assumption | (with_reducible refine wpAny_loadPart_at hx ?_; rw [hc]) | (with_reducible refine wpAny_isSubtype_exc hC ?_; rw [hcB]) | wp_step))
  refine ⟨Code.quiet_builtin _ (by decide +kernel), codeAny_builtin F.entry_object_class ?_⟩
  repeat (any_goals (first | assumption | (with_reducible refine wpAny_loadPart_at hx ?_; rw [hc]) | wp_step))

theorem cls_entry9 {tk : Tok} {Q : PySem.Fin → Shared → Prop} (x : ExcAt h C (.ref M :: excM)) (xm : ExcAt h M excM) (hx : h.get? a = some o) (hc : o.cls = .ref C) (hq : Q (.done (.ret (.ref C))) ⟨h, g, d, t, os⟩) :
    wpAny (model prog w) A (Builtin.«object.__getattribute__» ⟨[.ref a, .str "__class__" tk], []⟩) Q E ⟨h, g, d, t, os⟩ := by
  have hT5 : (⟨h, g, d, t, os⟩ : Shared).TypeIs (.builtin "object.__class__") "getset_descriptor" := F.typeOf_object_class
  have f5 := F.typeOf_object_class
  have f6 := F.slot_gs_get.lookup
  have f7 := F.slot_gs_set.lookup
  have hm : ("__class__" : Str) ∈ quiet9 := by simp [quiet9]
  repeat (any_goals (first | assumption | (with_reducible refine wpAny_loadPart_at hx ?_; rw [hc]) | with_reducible refine lk9 hm x xm lk_class ?_ | wp_step))
  refine cls_get9 x hx hc ?_
  repeat (any_goals (first | assumption | wp_step))

theorem tailQ9 (xm : ExcAt h M excM) : OwnTailQ h excM (.ref M :: excM) := by
  obtain ⟨N', nm', q', bs', hdct', sn', sub', ab', col', dd', k0', k1', k2', k3', k5', mN', hC', hN', r'⟩ := id xm
  exact .own hC' hN' (fun n hn => r' n (quiet_in n hn)) .base
theorem cls_call9 {tk : Tok} {R : Result → Shared → Prop} (x : ExcAt h C (.ref M :: excM)) (xm : ExcAt h M excM) (hx : h.get? a = some o) (hc : o.cls = .ref C) (hq : R (.ok (.ret (.ref C))) ⟨h, g, d, t, os⟩) :
    codeAny (model prog w) A (.call (.builtin "BaseException.__getattribute__") ⟨[.ref a, .str "__class__" tk], []⟩) R ⟨h, g, d, t, os⟩ := by
  obtain ⟨N, nm, q, bs, hdct, sn, sub, ab, col, dd, k0, k1, k2, k3, k5, mN, hC, hN, r⟩ := id x
  exact codeAny_call_builtin F.attrBase_ValueError.ga.plain F.entry_bexc_ga (wpAny_check_ga_own F.attrBase_ValueError hC (tailQ9 xm) hx hc (cls_entry9 x xm hx hc hq))

theorem cls_by9 {tk : Tok} {Q : Value → Shared → Prop} (x : ExcAt h C (.ref M :: excM)) (xm : ExcAt h M excM) (hx : h.get? a = some o) (hc : o.cls = .ref C) (hq : Q (.ref C) ⟨h, g, d, t, os⟩) :
    wpAny (model prog w) A (getAttrBy (.ref a) (.str "__class__" tk) false) Q E ⟨h, g, d, t, os⟩ := by
  have f3 := F.attrBase_ValueError.ga.bind (.ref a)
  have hx2 : (Value.builtin "BaseException.__getattribute__" == Value.builtin "object.__getattribute__") = false := by decide +kernel
  have hx1 : (onTheHeap (Value.ref C) && Value.builtin "BaseException.__getattribute__" == Value.builtin "object.__getattribute__") = false := by rw [hx2]; rfl
  have hm1 : ("__getattribute__" : Str) ∈ quiet9 := by simp [quiet9]
  have hm2 : ("__getattr__" : Str) ∈ quiet9 := by simp [quiet9]
  repeat (any_goals (first | assumption | (with_reducible refine wpAny_loadPart_at hx ?_; rw [hc]) | with_reducible refine lk9 hm1 x xm F.attrBase_ValueError.ga.lookup ?_ | with_reducible refine lk9 hm2 x xm F.attrBase_ValueError.noGetattr ?_ | wp_step))
  refine cls_call9 x xm hx hc ?_
  repeat (any_goals (first | assumption | wp_step))

theorem cls_attr9 {Q : Option Value → Shared → Prop} (x : ExcAt h C (.ref M :: excM)) (xm : ExcAt h M excM) (hx : h.get? a = some o) (hc : o.cls = .ref C) (hq : Q (some (.ref C)) ⟨h, g, d, t + 1, os⟩) :
    wpAny (model prog w) A (getAttr? (.ref a) "__class__") Q E ⟨h, g, d, t, os⟩ := by
  unfold getAttr? getAttrBy?
  repeat (any_goals (first | assumption | with_reducible apply cls_by9 x xm hx hc | wp_step))

theorem nested9_no {tl : List Value} {dep : Int} {tk : Tok} {Q : PySem.Fin → Shared → Prop} (x : ExcAt h C (.ref M :: excM)) (xm : ExcAt h M excM) (xB : ExcAt h B tl) (hx : h.get? a = some o) (hc : o.cls = .ref C) (h1 : B ≠ C) (h2 : B ≠ M) (hq : Q (.done (.ret (.bool false))) ⟨h, g, d, t + 1, os⟩) :
    wpAny (model prog w) A (Builtin.«isinstance.nested» ⟨[.ref a, .ref B, .int dep tk], []⟩) Q E ⟨h, g, d, t, os⟩ := by
  obtain ⟨N, nm, q, bs, hdct, sn, sub, ab, col, dd, k0, k1, k2, k3, k5, mN, hC, hN, r⟩ := id x
  obtain ⟨N', nm', q', bs', hdct', sn', sub', ab', col', dd', k0', k1', k2', k3', k5', mN', hB, hN', r'⟩ := id xB
  have hne : (Value.ref C == Value.ref B) = false := Bool.eq_false_iff.mpr fun e => h1 (Value.ref.inj (beq_iff_eq.mp e)).symm
  have hcB : (Value.ref C :: .ref M :: excM).contains (.ref B) = false := Bool.eq_false_iff.mpr fun e => by
    rcases List.mem_cons.mp (List.contains_iff_mem.mp e) with e | e
    · exact h1 (Value.ref.inj e)
    · rcases List.mem_cons.mp e with e | e
      · exact h2 (Value.ref.inj e)
      · simp [excM] at e
  repeat (any_goals (first | assumption | (with_reducible refine wpAny_loadPart_at hx ?_; rw [hc]) | with_reducible refine wpAny_loadPart_at hB ?_ | with_reducible refine wpAny_loadPart_at hC ?_ | (with_reducible refine wpAny_isSubtype_exc hC ?_; rw [hcB]) | with_reducible apply cls_attr9 x xm hx hc | wp_step))

theorem nested9_self {dep : Int} {tk : Tok} {Q : PySem.Fin → Shared → Prop} (hx : h.get? a = some o) (hc : o.cls = .ref C) (hq : Q (.done (.ret (.bool true))) ⟨h, g, d, t, os⟩) :
    wpAny (model prog w) A (Builtin.«isinstance.nested» ⟨[.ref a, .ref C, .int dep tk], []⟩) Q E ⟨h, g, d, t, os⟩ := by
  have hne : (Value.ref C == Value.ref C) = true := by simp
  repeat (any_goals (first | assumption | (with_reducible refine wpAny_loadPart_at hx ?_; rw [hc]) | wp_step))
theorem nested9_type {dep : Int} {tk : Tok} {Q : PySem.Fin → Shared → Prop} (x : ExcAt h C (.ref M :: excM)) (hx : h.get? a = some o) (hc : o.cls = .ref C) (hq : Q (.done (.ret (.bool true))) ⟨h, g, d, t, os⟩) :
    wpAny (model prog w) A (Builtin.«isinstance.nested» ⟨[.ref a, .type "ValueError", .int dep tk], []⟩) Q E ⟨h, g, d, t, os⟩ := by
  obtain ⟨N, nm, q, bs, hdct, sn, sub, ab, col, dd, k0, k1, k2, k3, k5, mN, hC, hN, r⟩ := id x
  have hne : (Value.ref C == Value.type "ValueError") = false := rfl
  have hty : typeOf (.type "ValueError") = pure (.type "type") := by kernel_rfl
  have hcB : (Value.ref C :: .ref M :: excM).contains (.type "ValueError") = true := by rw [List.contains_cons, List.contains_cons, show excM.contains (.type "ValueError") = true from rfl, Bool.or_true, Bool.or_true]
  repeat (any_goals (first | assumption | (with_reducible refine wpAny_loadPart_at hx ?_; rw [hc]) | with_reducible refine wpAny_loadPart_at hC ?_ | (with_reducible refine wpAny_isSubtype_exc hC ?_; rw [hcB]) | wp_step))
end
section
variable {prog : Program} {w : World} {A : Around} {E : Value → Shared → Prop} {s : Shared} {a C M B : Addr}
noncomputable def IsExc (h : Heap) (a C M : Addr) : Prop := ExcAt h C (.ref M :: excM) ∧ ExcAt h M excM ∧ ∃ o, h.get? a = some o ∧ o.cls = .ref C
theorem isi9_no {tl : List Value} {Q : Value → Shared → Prop} (x : IsExc s.heap a C M) (xB : ExcAt s.heap B tl) (h1 : B ≠ C) (h2 : B ≠ M) (hq : Q (.bool false) { s with toks := s.toks + 1 }) : wpAny (model prog w) A (call (.builtin "isinstance") [.ref a, .ref B]) Q E s :=
  call_isinstance (S := fun _ R s => (IsExc s.heap a C M ∧ ExcAt s.heap B tl) ∧ R (.ok (.ret (.bool false))) { s with toks := s.toks + 1 })
    (fun _ _ _ _ s hs => by
      obtain ⟨h, g, d, t, os⟩ := s
      obtain ⟨⟨⟨x, xm, o, hx, hc⟩, xB⟩, hq⟩ := hs
      exact isinstance_outer (nested9_no x xm xB hx hc h1 h2 hq) (by intro q; cases q)) ⟨⟨x, xB⟩, hq⟩
theorem isi9_self {Q : Value → Shared → Prop} (x : IsExc s.heap a C M) (hq : Q (.bool true) s) : wpAny (model prog w) A (call (.builtin "isinstance") [.ref a, .ref C]) Q E s :=
  call_isinstance (S := fun _ R s => (IsExc s.heap a C M) ∧ R (.ok (.ret (.bool true))) s)
    (fun _ _ _ _ s hs => by
      obtain ⟨h, g, d, t, os⟩ := s
      obtain ⟨⟨x, xm, o, hx, hc⟩, hq⟩ := hs
      exact isinstance_outer (nested9_self hx hc hq) (by intro q; cases q)) ⟨x, hq⟩
theorem isi9_type {Q : Value → Shared → Prop} (x : IsExc s.heap a C M) (hq : Q (.bool true) s) : wpAny (model prog w) A (call (.builtin "isinstance") [.ref a, .type "ValueError"]) Q E s :=
  call_isinstance (S := fun _ R s => (IsExc s.heap a C M) ∧ R (.ok (.ret (.bool true))) s)
    (fun _ _ _ _ s hs => by
      obtain ⟨h, g, d, t, os⟩ := s
      obtain ⟨⟨x, xm, o, hx, hc⟩, hq⟩ := hs
      exact isinstance_outer (nested9_type x hx hc hq) (by intro q; cases q)) ⟨x, hq⟩

/-- except MachineError: the exception's class is one of its kind -/
theorem matches9 {Md : Model} {h : Heap} {g : Array GenState} {d : Drawn} {t : Nat} {os : OsState} {o : Obj} {Q : Bool → Shared → Prop} (x : ExcAt h C (.ref M :: excM)) (xm : ExcAt h M excM) (he : h.get? a = some o) (hcls : o.cls = .ref C)
    (hq : Q true ⟨h, g, d, t, os⟩) : wpAny Md A (excMatches (.ref a) (.ref M)) Q E ⟨h, g, d, t, os⟩ := by
  obtain ⟨N, nm, q, bs, hdct, sn, sub, ab, col, dd, k0, k1, k2, k3, k5, mN, hC, hN, r⟩ := id x
  obtain ⟨N', nm', q', bs', hdct', sn', sub', ab', col', dd', k0', k1', k2', k3', k5', mN', hM, hN', r'⟩ := id xm
  have hcB : (Value.ref M :: excM).contains (.type "BaseException") = true := by rw [List.contains_cons, show excM.contains (.type "BaseException") = true from rfl, Bool.or_true]
  have hcC : (Value.ref C :: .ref M :: excM).contains (.ref M) = true := by simp
  have f := tc_notTuple
  unfold excMatches
  repeat (first | (with_reducible refine wpAny_loadPart_at he ?_; rw [hcls]) | with_reducible refine wpAny_loadPart_at hM ?_ | with_reducible refine wpAny_loadPart_at hC ?_ | (with_reducible refine wpAny_isSubtype_exc hM ?_; rw [hcB]) | (with_reducible refine wpAny_isSubtype_exc hC ?_; rw [hcC]) | wp_step)
  exact hq
end
end Tw
end

section
namespace Tw
open PySem PySem.SeqAt

noncomputable def forget (ρ : Rho) (i : Nat) : Rho := fun j => if j = i then none else ρ j
section
variable {cx : Cx} {ι : List Addr} {ρ : Rho} {H : H} {s : Shared}
/-- a local name is stored, of which nothing is said -/
theorem St.localN (S : St cx ι ρ H s) (ok : CxOk cx) {x : Str} {i : Nat} {ov : Option Value} {h' : Heap} {m : Str → Option Value} (tk : Nat) (hx : cx.nm x = some i)
    (hm : s.heap.Ns cx.env.locals m) (hn : h'.Ns cx.env.locals (fun y => if y = x then ov else m y)) (hs : Heap.ExtBut cx.env.locals s.heap h') :
    St cx ι (forget ρ i) H { s with heap := h', toks := tk } ∧ Mono ι s ι { s with heap := h', toks := tk } := by
  have imm : Imm s.heap h' := .of_but hs (Ns.notImm hm)
  refine ⟨?_, ⟨List.prefix_refl _, imm⟩⟩
  exact {
    same := by obtain ⟨h, t, rfl⟩ := S.same; exact ⟨h', tk, rfl⟩
    len := S.len
    nodup := S.nodup
    objs := fun k b o₂ hb ho₂ => (S.objs k b o₂ hb ho₂).mono (List.prefix_refl _) imm fun ob e => hs _ _ (fun e' => S.nsI (e' ▸ List.mem_of_getElem? hb)) e
    low := S.low
    scr := fun o e => hs _ _ (fun e' => S.nsI (e' ▸ S.scrIn)) (S.scr o e)
    scrI := S.scrI
    scrIn := S.scrIn
    prot := fun b ob p => (S.prot b ob p).mono fun o => hs _ o fun e => ok.loc ob (e ▸ p)
    protI := S.protI
    ns := ⟨_, hn⟩
    nsI := S.nsI
    cells := fun y c l => by
      obtain ⟨⟨ov, oc, gc, dc⟩, h1, h2⟩ := S.cells y c l
      exact ⟨⟨ov, oc, hs _ _ h2 gc, dc⟩, h1, h2⟩
    vars := fun y j w hy hw => by
      unfold forget at hw
      by_cases hj : j = i
      · rw [if_pos hj] at hw; cases hw
      · rw [if_neg hj] at hw
        obtain ⟨val', va, rv⟩ := S.vars y j w hy hw
        refine ⟨val', ?_, rv.mono (List.prefix_refl _) imm⟩
        have hyx : y ≠ x := fun e => hj (by rw [e, hx] at hy; exact (Option.some.inj hy).symm)
        rcases va with ⟨k, m', n', e⟩ | ⟨k, c, l, o, g, d⟩
        · obtain rfl := Ns.uniq hm n'
          exact .inl ⟨k, _, hn, by simp [hyx, e]⟩
        · exact .inr ⟨k, c, l, o, hs _ _ (S.cells y c l).2.2 g, d⟩ }
theorem Bnd.forget {n : Nat} (b : Bnd n ρ) (i : Nat) : Bnd n (forget ρ i) := fun j hj => by
  unfold Tw.forget
  by_cases e : j = i
  · rw [if_pos e]
  · rw [if_neg e]; exact b j hj
end

section
variable {p : Pg} {sc : Sc} {C : Ora} {d : Nat} {cx : Cx} {A B : Around} {ι : List Addr} {ρ : Rho} {H : H} {s : Shared} {E : Value → Shared → Prop}
theorem load_raw {x : Str} {pos : Pos} {mg : Str → Option Value} {v : Value} {Q : Value → Shared → Prop} (a : At p sc C d cx A) (S : St cx ι ρ H s) (hk : sc.gk x = true) (n0 : cx.s0.heap.Ns mainGlobals mg) (e : mg x = some v) (q : Q v s) :
    wpAny (model p.prog cx.w) B (eval (.Name x pos) cx.env) Q E s := by
  obtain ⟨k1, k2⟩ := a.fit.gk x hk
  have n1 := n0.keeps (S.all a.ok)
  rw [← a.ok.gl] at n1
  exact Calls.Name_function_global a.ok.fn k1 (Calls.loadGlobal_global n1 e q) k2
theorem load_rawB {x : Str} {pos : Pos} {mg mb : Str → Option Value} {v : Value} {Q : Value → Shared → Prop} (a : At p sc C d cx A) (S : St cx ι ρ H s) (hk : sc.gk x = true) (n0 : cx.s0.heap.Ns mainGlobals mg) (nb : cx.s0.heap.Ns builtinsNs mb) (e : mg x = none) (e' : mb x = some v) (q : Q v s) :
    wpAny (model p.prog cx.w) B (eval (.Name x pos) cx.env) Q E s := by
  obtain ⟨k1, k2⟩ := a.fit.gk x hk
  have n1 := n0.keeps (S.all a.ok)
  have n2 := nb.keeps (S.all a.ok)
  rw [← a.ok.gl] at n1
  rw [← a.ok.bl] at n2
  exact Calls.Name_function_global a.ok.fn k1 (Calls.loadGlobal_builtin n1 e n2 e' q) k2
theorem load_local {x : Str} {i : Nat} {pos : Pos} {m : Str → Option Value} {v : Value} {Q : Value → Shared → Prop} (a : At p sc C d cx A) (hx : sc.nm x = some i) (hl : cx.env.kindOf x = some .local) (n : s.heap.Ns cx.env.locals m) (e : m x = some v) (q : Q v s) :
    wpAny (model p.prog cx.w) B (eval (.Name x pos) cx.env) Q E s :=
  wpAny_Name (wpAny_loadName_local a.ok.fn hl n e q) (a.ok.plain x i ((a.fit.nm x).trans hx)).1

/-- isinstance(name, class) -/
theorem isi_call9 {isn ne y : Str} {i : Nat} {np p1 p2 pos : Pos} {m : Str → Option Value} {v c : Value} {Q : Value → Shared → Prop} (a : At p sc C d cx A) (S : St cx ι ρ H s) (hk : sc.gk isn = true) (hg : p.G isn = some .isinst)
    (hx : sc.nm ne = some i) (hl : cx.env.kindOf ne = some .local) (n : s.heap.Ns cx.env.locals m) (e : m ne = some v)
    (ld : ∀ (R : Value → Shared → Prop) (E' : Value → Shared → Prop), R c s → wpAny (model p.prog cx.w) B (eval (.Name y p2) cx.env) R E' s) (q : wpAny (model p.prog cx.w) B (call (.builtin "isinstance") [v, c]) Q E s) :
    wpAny (model p.prog cx.w) B (eval (.Call (.Name isn np) [.Name ne p1, .Name y p2] [] pos) cx.env) Q E s := by
  refine wpAny_Call_ofName (load_global a S hk hg fun f e => ?_)
  subst e
  have hs : (starEach [.Name ne p1, .Name y p2] cx.env).any (·.1) = false := rfl
  refine Calls.callWith_builtin (back_any hs) (args_of hs ?_)
  refine wpAny_items_cons (load_local a hx hl n e ?_) rfl
  refine wpAny_items_cons (ld _ _ ?_) rfl
  exact wpAny_items_nil q


/-- the object of the exception -/
noncomputable def ExcO (h : Heap) (a C : Addr) : Prop := ∃ o vs, h.get? a = some o ∧ o.cls = .ref C ∧ o.data = .fields vs
theorem ExcO.is {h : Heap} {a Cc M Bb G : Addr} {mg : Str → Option Value} (x : ExcO h a Cc) {h0 : Heap} (F : Fam h0 mg Cc M Bb G) (hk : ∀ b o, h0.get? b = some o → h.get? b = some o) : IsExc h a Cc M :=
  let ⟨o, _, g, c, _⟩ := x; ⟨F.xC.keeps hk, F.xM.keeps hk, o, g, c⟩
theorem ExcO.but {h h' : Heap} {a C L : Addr} {m : Str → Option Value} (x : ExcO h a C) (n : h.Ns L m) (hs : Heap.ExtBut L h h') : ExcO h' a C := by
  obtain ⟨o, vs, g, c, dd⟩ := x
  refine ⟨o, vs, hs _ _ (fun e => ?_) g, c, dd⟩
  obtain ⟨o', es, ep, g', d', _⟩ := n
  rw [← e, g] at g'; cases g'
  rw [dd] at d'; cases d'

theorem suite9 {isn ne ox : Str} {ie io a : Nat} {Cc M Bb G : Addr} {mg mb m : Str → Option Value} {Q : Flow → Shared → Prop} {x1 x2 x3 x4 x5 x6 x7 x8 x9 y1 y2 y3 y4 y5 y6 y7 y8 y9 z1 z2 z3 z4 z5 : Pos}
    (at' : At p sc C d cx A) (S : St cx ι ρ H s) (hb : Bnd sc.lim ρ) (F : Fam cx.s0.heap mg Cc M Bb G) (nV : mg "ValueError" = none ∧ mb "ValueError" = some (.type "ValueError")) (n0 : cx.s0.heap.Ns mainGlobals mg) (nb : cx.s0.heap.Ns builtinsNs mb)
    (hk : sc.gk isn = true) (hg : p.G isn = some .isinst) (he : sc.nm ne = some ie) (hel : cx.env.kindOf ne = some .local) (ho : sc.nm ox = some io) (hol : cx.env.kindOf ox = some .local) (hne : ne ≠ ox)
    (k1 : sc.gk "BadMachine" = true) (k2 : sc.gk "TooGreat" = true) (k3 : sc.gk twoN = true) (k4 : sc.gk "ValueError" = true) (n : s.heap.Ns cx.env.locals m) (e : m ne = some (.ref a)) (X : ExcO s.heap a Cc)
    (q : ∀ s' ρ', Mono ι s ι s' → St cx ι ρ' H s' → Bnd sc.lim ρ' → Q (.ret (.bool true)) s') :
    wpAny (model p.prog cx.w) B (execs [.Assign [.Name ox x1] (.BoolOp .Or [.Call (.Name isn x2) [.Name ne x3, .Name "BadMachine" x4] [] x5, .Call (.Name isn x6) [.Name ne x7, .Name "TooGreat" x8] [] x9] y1) y2,
      .Return (some (.BoolOp .And [.Call (.Name isn y3) [.Name ne y4, .Name twoN y5] [] y6, .Call (.Name isn y7) [.Name ne y8, .Name "ValueError" y9] [] z1, .UnaryOp .Not (.Name ox z2) z3] z4)) z5] cx.env) Q E s := by
  have all := S.all at'.ok
  refine wpAny_execs_cons (wpAny_Assign_Name ?_ rfl)
  show wpAny _ _ (boolOp y1 .Or (evalEach [.Call (.Name isn x2) [.Name ne x3, .Name "BadMachine" x4] [] x5, .Call (.Name isn x6) [.Name ne x7, .Name "TooGreat" x8] [] x9] cx.env)) _ _ _
  refine boolOp_step (isi_call9 at' S hk hg he hel n e (fun R E' r => load_raw at' S k1 n0 F.nB r) (isi9_no (X.is F all) (F.xB.keeps all) F.dB.1 F.dB.2 (wpAny_truthy_bool ?_)))
  show wpAny _ _ (eval (.Call (.Name isn x6) [.Name ne x7, .Name "TooGreat" x8] [] x9) cx.env) _ _ _
  have S₁ := S.toks (s.toks + 1)
  refine isi_call9 at' S₁ hk hg he hel n e (fun R E' r => load_raw at' S₁ k2 n0 F.nG r) (isi9_no (s := { s with toks := s.toks + 1 }) (X.is F all) (F.xG.keeps all) F.dG.1 F.dG.2 ?_)
  have S₂ := S.toks (s.toks + 1 + 1)
  have M₂ : Mono ι s ι { s with toks := s.toks + 1 + 1 } := .tk _
  refine wpAny_storeName_local (s := { s with toks := s.toks + 1 + 1 }) hol n (fun h' hn hsb => ?_) (by rw [at'.ok.fn]; rfl)
  obtain ⟨S₃, M₃⟩ := S₂.local at'.ok (s.toks + 1 + 1 + 1) ((at'.fit.nm ox).trans ho) hol n hn hsb.extBut (.bool false)
  have X₃ := X.but n hsb.extBut
  have all₃ := S₃.all at'.ok
  have hb₃ : Bnd sc.lim (upd ρ io (.bool false)) := hb.upd (at'.fit.lim ox io ho)
  have e₃ : (fun y => if y = ox then some (Value.bool false) else m y) ne = some (.ref a) := by simp only; rw [if_neg hne]; exact e
  refine wpAny_execs_cons (wpAny_Return_some ?_)
  show wpAny _ _ (boolOp z4 .And (evalEach [.Call (.Name isn y3) [.Name ne y4, .Name twoN y5] [] y6, .Call (.Name isn y7) [.Name ne y8, .Name "ValueError" y9] [] z1, .UnaryOp .Not (.Name ox z2) z3] cx.env)) _ _ _
  refine boolOp_step (isi_call9 at' S₃ hk hg he hel hn e₃ (fun R E' r => load_raw at' S₃ k3 n0 F.nC r) (isi9_self (X₃.is F all₃) (wpAny_truthy_bool ?_)))
  show wpAny _ _ (boolOp z4 .And (evalEach [.Call (.Name isn y7) [.Name ne y8, .Name "ValueError" y9] [] z1, .UnaryOp .Not (.Name ox z2) z3] cx.env)) _ _ _
  refine boolOp_step (isi_call9 at' S₃ hk hg he hel hn e₃ (fun R E' r => load_rawB at' S₃ k4 n0 nb nV.1 nV.2 r) (isi9_type (X₃.is F all₃) (wpAny_truthy_bool ?_)))
  show wpAny _ _ (eval (.UnaryOp .Not (.Name ox z2) z3) cx.env) _ _ _
  have e₄ : (fun y => if y = ox then some (Value.bool false) else m y) ox = some (.bool false) := if_pos rfl
  refine wpAny_UnaryOp (load_local at' ho hol hn e₄ ?_)
  refine not_value (wpAny_truthy_bool ?_)
  exact q _ _ (M₂.trans M₃) S₃ hb₃

theorem matches9' {a Cc M : Addr} {Q : Bool → Shared → Prop} {Md : Model} (x : IsExc s.heap a Cc M) (hq : Q true s) : wpAny Md B (excMatches (.ref a) (.ref M)) Q E s := by
  obtain ⟨h, g, d, t, os⟩ := s
  obtain ⟨x, xm, o, ho, hc⟩ := x
  exact matches9 x xm ho hc hq
end
section
variable {p : Pg} {sc : Sc}
/-- try: a call; except the program's exceptions, by name: which of them it is -/
theorem snd_try9 {x isn ne ox : Str} {ie io : Nat} {np cpos ep tp hp pos x1 x2 x3 x4 x5 x6 x7 x8 x9 y1 y2 y3 y4 y5 y6 y7 y8 y9 z1 z2 z3 z4 z5 : Pos} {es : List Expr} {es' : List E} {j : Nat} (htop : sc.top = true) (hk : sc.gk x = true) (hg : p.G x = some (.fn j)) (h1 : SndEs p sc es es')
    (hkM : sc.gk "MachineError" = true) (hgM : p.G "MachineError" = some .fam) (hki : sc.gk isn = true) (hgi : p.G isn = some .isinst) (he : sc.nm ne = some ie) (hes : sc.st ne = true) (hec : sc.ck ne = false) (ho : sc.nm ox = some io) (hos : sc.st ox = true) (hoc : sc.ck ox = false) (hne : ne ≠ ox)
    (k1 : sc.gk "BadMachine" = true) (k2 : sc.gk "TooGreat" = true) (k3 : sc.gk twoN = true) (k4 : sc.gk "ValueError" = true) :
    SndS p sc (.Try [.Expr (.Call (.Name x np) es [] cpos) ep] [.ExceptHandler (some (.Name "MachineError" tp)) (some ne) [.Assign [.Name ox x1] (.BoolOp .Or [.Call (.Name isn x2) [.Name ne x3, .Name "BadMachine" x4] [] x5, .Call (.Name isn x6) [.Name ne x7, .Name "TooGreat" x8] [] x9] y1) y2,
      .Return (some (.BoolOp .And [.Call (.Name isn y3) [.Name ne y4, .Name twoN y5] [] y6, .Call (.Name isn y7) [.Name ne y8, .Name "ValueError" y9] [] z1, .UnaryOp .Not (.Name ox z2) z3] z4)) z5] hp] [] [] pos)
      (.ite (.call (1000 + j) es') [.ret (some (.lit (.bool true)))] []) := fun {C d cx A ι ρ H s Q E} at' S hb h => by
  have hel := at'.fit.lo ne hes hec
  have hol := at'.fit.lo ox hos hoc
  have hkd : (cx.env.scope.kind == .class || (cx.env.scope.kind == .module && cx.env.locals != cx.env.globals)) = false := by rw [at'.ok.fn]; rfl
  obtain ⟨l, hl, hr, _⟩ := at'.fr
  obtain ⟨r, rfl, hf⟩ := hr htop
  refine wpAny_Try_except (try_call hk hg h1 at' S hb h hl (fun ι' H' s' M' S' q' => wpAny_execs_nil ⟨.next, ρ, ι', H', M', S', hb, trivial, q'⟩) fun e s₂ hp => ?_)
  obtain ⟨a, Cl, mg, a0, ι₂, H₂, h₂, base, rfl, g, O, back, F, U, q₂⟩ := hp
  have exo : ∀ {h'}, Heap.FlyingW base (cx.env :: r) a (.ref Cl) a0 h' → ExcO h' a Cl := fun fl => by
    obtain ⟨_, _, _, oe, ws, T, oT, ts, h1, h2, h3, _⟩ := fl
    exact ⟨oe, ws, h1, h2.1, h3⟩
  refine wpAny_looks_onW hl hf F fun h₄ f₄ u₄ => wpAny_landsW f₄ fun h₅ f₅ u₅ => ?_
  obtain ⟨M₅, S₅⟩ := back h₅ f₅.1 (U.trans (u₄.trans u₅))
  refine wpAny_handleBy_cons (codeAny_handlers_test (load_global at' S₅ hkM hgM fun v e => ?_)) (by intro q; cases q)
  obtain ⟨C', M', B', G', mg', mb', rfl, n0', nb', Fm, nV⟩ := e
  obtain rfl : C' = Cl := by
    have e1 := Fm.nC
    rw [Ns.uniq n0' g, O.bound] at e1
    injection e1 with e1; injection e1 with e1; exact e1.symm
  refine matches9' ((exo f₅).is Fm (S₅.all at'.ok)) (codeAny_handlers_suite_as (PyProof.Rows.lands_againW f₅ fun h₆ f₆ u₆ => ?_))
  obtain ⟨M₆, S₆⟩ := back h₆ f₆.1 (U.trans (u₄.trans (u₅.trans u₆)))
  obtain ⟨m, n⟩ := S₆.ns
  refine wpAny_storeName_local (s := { s₂ with heap := h₆ }) hel n (fun h₇ hn hsb => ?_) hkd
  obtain ⟨S₇, M₇⟩ := S₆.localN at'.ok (s₂.toks + 1) ((at'.fit.nm ne).trans he) n hn hsb.extBut
  refine suite9 at' S₇ (hb.forget ie) Fm nV n0' nb' hki hgi he hel ho hol hne k1 k2 k3 k4 hn (if_pos rfl) ((exo f₆).but n hsb.extBut) fun s₈ ρ₈ M₈ S₈ hb₈ => ?_
  obtain ⟨m₈, n₈⟩ := S₈.ns
  refine wpAny_nameGoes_keeps hel n₈ hkd fun h₉ v hn₉ hs₉ => ?_
  obtain ⟨S₉, M₉⟩ := S₈.localN at'.ok (s₈.toks + 1) ((at'.fit.nm ne).trans he) n₈ hn₉ hs₉.extBut
  exact ⟨.ret (.bool true), ρ, ι₂, H₂, M₆.trans (M₇.trans (M₈.trans M₉)), S₉.ret, hb, .bool true, q₂⟩
end
end Tw
end

section
namespace Tw
open PySem PySem.SeqAt

/-! from the program's text to ours, with the proof -/
noncomputable def notSlice : Expr → Bool
  | .Slice .. => false
  | _ => true
theorem nosl_of {e : Expr} (h : notSlice e = true) : ∀ a b c q, e ≠ .Slice a b c q := fun a b c q x => by rw [x] at h; cases h
structure XP (p : Pg) (sc : Sc) (e : Expr) (e' : E) : Prop where
  sE : SndE p sc e e'
  sT : SndT p sc e e'
  star : ∀ es env, starEach (e :: es) env = (false, eval e env) :: starEach es env
  nosl : notSlice e = true
  set : ∀ env x, foldedSetIterable e env x = pure x
  marks : ∀ op, behindInMarks op e = false

abbrev RE (p : Pg) (sc : Sc) (e : Expr) := Option { e' : E // XP p sc e e' }
abbrev REs (p : Pg) (sc : Sc) (es : List Expr) := Option { es' : List E // SndEs p sc es es' }

noncomputable def bopOf : (op : Operator) → Option { b : Bop // b.py = op }
  | .Add => some ⟨.add, rfl⟩ | .Sub => some ⟨.sub, rfl⟩ | .Mult => some ⟨.mul, rfl⟩ | .FloorDiv => some ⟨.fdiv, rfl⟩ | .Mod => some ⟨.mod, rfl⟩ | _ => none
noncomputable def cmpOf : (op : CmpOp) → { c : Cmp // c.py = op }
  | .Eq => ⟨.eq, rfl⟩ | .NotEq => ⟨.ne, rfl⟩ | .Lt => ⟨.lt, rfl⟩ | .LtE => ⟨.le, rfl⟩ | .Gt => ⟨.gt, rfl⟩ | .GtE => ⟨.ge, rfl⟩ | .Is => ⟨.is, rfl⟩ | .IsNot => ⟨.isNot, rfl⟩ | .In => ⟨.isIn, rfl⟩ | .NotIn => ⟨.notIn, rfl⟩
noncomputable def mtOf (x : Str) (args : Nat) : Option { m : Mt // m.nm = x } :=
  if h : Mt.nm .append = x then some ⟨.append, h⟩
  else if h : Mt.nm .reverse = x then some ⟨.reverse, h⟩
  else if h : Mt.nm .clear = x then some ⟨.clear, h⟩
  else if h : Mt.nm .join = x then some ⟨.join, h⟩
  else if h : Mt.nm .pop = x then (if args = 0 then some ⟨.pop, h⟩ else some ⟨.dpop, h⟩)
  else if h : Mt.nm .index = x then some ⟨.index, h⟩
  else if h : Mt.nm .update = x then some ⟨.update, h⟩
  else if h : Mt.nm .get = x then some ⟨.get, h⟩
  else if h : Mt.nm .startswith = x then some ⟨.startswith, h⟩
  else none

section
variable {p : Pg} {sc : Sc}
noncomputable def trEs (tr : (e : Expr) → RE p sc e) : (es : List Expr) → REs p sc es
  | [] => some ⟨[], sndEs_nil⟩
  | e :: es => match tr e with
    | none => none
    | some x => match trEs tr es with
      | none => none
      | some xs => some ⟨x.1 :: xs.1, sndEs_cons (x.2.star es) x.2.sE xs.2⟩
noncomputable def trChain (and : Bool) (tr : (e : Expr) → RE p sc e) : (es : List Expr) → Option { e' : E // Chain p sc and es e' }
  | [] => none
  | e :: es => match es with
    | [] => match tr e with
      | none => none
      | some x => some ⟨x.1, .one x.2.sE x.2.sT⟩
    | e₂ :: r => match tr e with
      | none => none
      | some x => match trChain and tr (e₂ :: r) with
        | none => none
        | some y => some ⟨if and then .and x.1 y.1 else .or x.1 y.1, .more x.2.sE x.2.sT y.2⟩
noncomputable def trO (tr : (e : Expr) → RE p sc e) : (e : Option Expr) → Option { e' : E // SndO p sc e e' }
  | none => some ⟨.lit .none, sndO_none⟩
  | some e => match tr e with
    | none => none
    | some x => some ⟨x.1, sndO_some x.2.sE⟩
noncomputable def attrOk : (o : Expr) → Option (PLift (∀ nm env, attributeBase o nm env (eval o env) = eval o env))
  | .Name .. => some ⟨fun _ _ => rfl⟩
  | .Subscript .. => some ⟨fun _ _ => rfl⟩
  | .Constant .. => some ⟨fun _ _ => rfl⟩
  | _ => none
noncomputable def compOkB (sc : Sc) (scope : Scope) : Bool := scope.kind == .function && scope.names.all fun n => scope.names.lookup n.1 == some n.2 && plainName n.1 && (n.2 != .free || sc.ck n.1)
theorem compOk_of {scope : Scope} (h : compOkB sc scope = true) : CompOk sc scope := by
  simp only [compOkB, Bool.and_eq_true, beq_iff_eq, List.all_eq_true] at h
  obtain ⟨h1, h2⟩ := h
  refine ⟨h1, fun x k hm => (h2 _ hm).1.1, fun x k hm => (h2 _ hm).1.2, fun x hm => ?_⟩
  have := (h2 _ hm).2
  simpa using this
end

noncomputable def trNames (sc : Sc) : (es : List Expr) → Option { is : List Nat // NamesAre sc es is }
  | [] => some ⟨[], .nil⟩
  | .Name x pos :: es => match h : sc.nm x with
    | none => none
    | some i => if hs : sc.st x = true then (match trNames sc es with
      | none => none
      | some is => some ⟨i :: is.1, .cons h hs is.2⟩) else none
  | _ => none
noncomputable def trG (p : Pg) (sc : Sc) : (t : Expr) → Option { t' : Tgt // SndG p sc t t' }
  | .Name x pos => match h : sc.nm x with
    | none => none
    | some i => if hs : sc.st x = true then some ⟨.name i, sndG_name h hs⟩ else none
  | .Tuple es k pos => match trNames sc es with
    | none => none
    | some is => some ⟨.tup is.1, sndG_tup is.2⟩
  | _ => none

noncomputable def trC {p : Pg} {sc : Sc} (tr : (e : Expr) → RE p sc e) : (ifs : List Expr) → Option { c : Option E // SndC p sc ifs c }
  | [] => some ⟨none, .none⟩
  | [c] => match tr c with
    | none => none
    | some x => some ⟨some x.1, .one x.2.sT⟩
  | _ => none


section
variable {p : Pg} {sc : Sc} {pos : Pos} {k : Nat}
theorem xp_none : XP p sc (.Constant .none k pos) (.lit .none) := ⟨snd_none, sndT_value (e' := .lit .none) snd_none (fun _ _ => rfl) fun _ _ _ _ h => h, fun _ _ => rfl, rfl, fun _ _ => rfl, fun _ => rfl⟩
theorem xp_bool {b : Bool} : XP p sc (.Constant (.bool b) k pos) (.lit (.bool b)) := ⟨snd_bool, sndT_value (e' := .lit (.bool b)) snd_bool (fun _ _ => rfl) fun _ _ _ _ h => h, fun _ _ => rfl, rfl, fun _ _ => rfl, fun _ => rfl⟩
theorem xp_int {i : Int} : XP p sc (.Constant (.int i) k pos) (.lit (.int i)) := ⟨snd_int, sndT_value (e' := .lit (.int i)) snd_int (fun _ _ => rfl) fun _ _ _ _ h => h, fun _ _ => rfl, rfl, fun _ _ => rfl, fun _ => rfl⟩
theorem xp_str {x : Str} (h : x.length ≤ SZ) : XP p sc (.Constant (.str x) k pos) (.lit (.str x.cps.toList)) := ⟨snd_str h, sndT_value (e' := .lit (.str x.cps.toList)) (snd_str h) (fun _ _ => rfl) fun _ _ _ _ h => h, fun _ _ => rfl, rfl, fun _ _ => rfl, fun _ => rfl⟩
theorem xp_var {x : Str} {i : Nat} (h : sc.nm x = some i) : XP p sc (.Name x pos) (.var i) := ⟨snd_var h, sndT_value (e' := .var i) (snd_var h) (fun _ _ => rfl) fun _ _ _ _ h => h, fun _ _ => rfl, rfl, fun _ _ => rfl, fun _ => rfl⟩
theorem xp_const {x : Str} {i : Int} (hk : sc.gk x = true) (hg : p.G x = some (.const i)) : XP p sc (.Name x pos) (.lit (.int i)) := ⟨snd_const hk hg, sndT_value (e' := .lit (.int i)) (snd_const hk hg) (fun _ _ => rfl) fun _ _ _ _ h => h, fun _ _ => rfl, rfl, fun _ _ => rfl, fun _ => rfl⟩
theorem xp_bin {l r : Expr} {op : Operator} {o : Bop} {a b : E} (ho : o.py = op) (h1 : XP p sc l a) (h2 : XP p sc r b) : XP p sc (.BinOp l op r pos) (.bin o a b) := by
  subst ho; exact ⟨snd_bin h1.sE h2.sE, sndT_never (e' := .bin o a b) fun _ _ _ _ h => h, fun _ _ => rfl, rfl, fun _ _ => rfl, fun _ => rfl⟩
theorem xp_neg {l : Expr} {a : E} (h1 : XP p sc l a) : XP p sc (.UnaryOp .USub l pos) (.neg a) := ⟨snd_neg h1.sE, sndT_never (e' := .neg a) fun _ _ _ _ h => h, fun _ _ => rfl, rfl, fun _ _ => rfl, fun _ => rfl⟩
theorem xp_not {l : Expr} {a : E} (h1 : XP p sc l a) : XP p sc (.UnaryOp .Not l pos) (.not a) := ⟨snd_not h1.sE, sndT_not h1.sT, fun _ _ => rfl, rfl, fun _ _ => rfl, fun _ => rfl⟩
theorem xp_chain {and : Bool} {op : BoolOp} {es : List Expr} {e' : E} (ho : (if and then BoolOp.And else BoolOp.Or) = op) (c : Chain p sc and es e') : XP p sc (.BoolOp op es pos) e' := by
  subst ho; exact ⟨snd_chain c, sndT_chain c, fun _ _ => rfl, rfl, fun _ _ => rfl, fun _ => rfl⟩
theorem xp_cmp {l r : Expr} {op : CmpOp} {o : Cmp} {a b : E} (ho : o.py = op) (h1 : XP p sc l a) (h2 : XP p sc r b) : XP p sc (.Compare l [op] [r] pos) (.cmp o a b) := by
  subst ho; exact ⟨snd_cmp h1.sE h2.sE (h2.marks _), sndT_cmp h1.sE h2.sE (h2.marks _), fun _ _ => rfl, rfl, fun _ _ => rfl, fun _ => rfl⟩
theorem xp_cmp2 {l r r₂ : Expr} {op op₂ : CmpOp} {o o₂ : Cmp} {a b c : E} (ho : o.py = op) (ho₂ : o₂.py = op₂) (h1 : XP p sc l a) (h2 : XP p sc r b) (h3 : XP p sc r₂ c) : XP p sc (.Compare l [op, op₂] [r, r₂] pos) (.cmp2 o o₂ a b c) := by
  subst ho; subst ho₂; exact ⟨snd_cmp2 h1.sE h2.sE h3.sE (h3.marks _), sndT_cmp2 h1.sE h2.sE h3.sE (h3.marks _), fun _ _ => rfl, rfl, fun _ _ => rfl, fun _ => rfl⟩
theorem xp_slice {l : Expr} {lo hi : Option Expr} {q : Pos} {a b c : E} (h1 : XP p sc l a) (h2 : SndO p sc lo b) (h3 : SndO p sc hi c) : XP p sc (.Subscript l (.Slice lo hi none q) pos) (.slice a b c) :=
  ⟨snd_slice h1.sE h2 h3, sndT_never (e' := .slice a b c) fun _ _ _ _ h => h, fun _ _ => rfl, rfl, fun _ _ => rfl, fun _ => rfl⟩
theorem xp_sub {l r : Expr} {a b : E} (h1 : XP p sc l a) (h2 : XP p sc r b) : XP p sc (.Subscript l r pos) (.sub a b) :=
  ⟨snd_sub h1.sE h2.sE (nosl_of h2.nosl), sndT_never (e' := .sub a b) fun _ _ _ _ h => h, fun _ _ => rfl, rfl, fun _ _ => rfl, fun _ => rfl⟩
theorem xp_tup {es : List Expr} {es' : List E} (h1 : SndEs p sc es es') (hn : es.length ≤ 1000) : XP p sc (.Tuple es k pos) (.tup es') := ⟨snd_tup h1 hn, sndT_never (e' := .tup es') fun _ _ _ _ h => h, fun _ _ => rfl, rfl, fun _ _ => rfl, fun _ => rfl⟩
theorem xp_list {es : List Expr} {es' : List E} (h1 : SndEs p sc es es') (hn : es.length ≤ 1000) : XP p sc (.List es pos) (.list es') := ⟨snd_list h1 hn, sndT_never (e' := .list es') fun _ _ _ _ h => h, fun _ _ => rfl, rfl, fun _ _ => rfl, fun _ => rfl⟩
theorem xp_dict0 : XP p sc (.Dict [] [] pos) .dict0 := ⟨snd_dict0, sndT_never (e' := .dict0) fun _ _ _ _ h => h, fun _ _ => rfl, rfl, fun _ _ => rfl, fun _ => rfl⟩
theorem xp_dict1 {x y : Expr} {a b : E} (h1 : XP p sc x a) (h2 : XP p sc y b) : XP p sc (.Dict [some x] [y] pos) (.dict1 a b) := ⟨snd_dict1 h1.sE h2.sE, sndT_never (e' := .dict1 a b) fun _ _ _ _ h => h, fun _ _ => rfl, rfl, fun _ _ => rfl, fun _ => rfl⟩
theorem xp_comp {elt target iter : Expr} {ifs : List Expr} {scope : Scope} {elt' iter' : E} {tgt : Tgt} {cond : Option E} {z : Int} (hz : z = 0) (hi : XP p sc iter iter') (ok : compOkB sc scope = true) (hg : SndG p (compSc sc scope.names) target tgt) (hc : SndC p (compSc sc scope.names) ifs cond)
    (he : XP p (compSc sc scope.names) elt elt') (hsl : tgt.slots.all (fun i => decide (sc.lim ≤ i)) = true) : XP p sc (.ListComp elt [⟨target, iter, ifs, z⟩] scope pos) (.comp elt' tgt iter' cond) := by
  subst hz
  exact ⟨snd_comp hi.sE (compOk_of ok) hg hc he.sE (by simpa using hsl) hi.set, sndT_never (e' := .comp elt' tgt iter' cond) fun _ _ _ _ h => h, fun _ _ => rfl, rfl, fun _ _ => rfl, fun _ => rfl⟩
theorem xp_isinst {x y : Str} {np ny : Pos} {e : Expr} {a : E} {t : Ty} {g : Gl} (hk : sc.gk x = true) (hg : p.G x = some .isinst) (hk' : sc.gk y = true) (hg' : p.G y = some g) (hty : tyOf g = some t) (h1 : XP p sc e a) : XP p sc (.Call (.Name x np) [e, .Name y ny] [] pos) (.isinst a t) :=
  ⟨snd_isinst hk hg hk' hg' hty (h1.star _) h1.sE, sndT_value (e' := .isinst a t) (snd_isinst hk hg hk' hg' hty (h1.star _) h1.sE) (fun _ _ => rfl) fun _ _ _ _ h => h, fun _ _ => rfl, rfl, fun _ _ => rfl, fun _ => rfl⟩
theorem xp_call {x : Str} {np : Pos} {es : List Expr} {es' : List E} {j : Nat} (hk : sc.gk x = true) (hg : p.G x = some (.fn j)) (h1 : SndEs p sc es es') : XP p sc (.Call (.Name x np) es [] pos) (.call j es') :=
  ⟨snd_call hk hg h1, sndT_value (e' := .call j es') (snd_call hk hg h1) (fun _ _ => rfl) fun _ _ _ _ h => h, fun _ _ => rfl, rfl, fun _ _ => rfl, fun _ => rfl⟩
theorem xp_bi {x : Str} {np : Pos} {es : List Expr} {es' : List E} {b : Bi} (hk : sc.gk x = true) (hg : p.G x = some (.bi b)) (h1 : SndEs p sc es es') : XP p sc (.Call (.Name x np) es [] pos) (.bi b es') :=
  ⟨snd_bi hk hg h1, sndT_never (e' := .bi b es') fun _ _ _ _ h => h, fun _ _ => rfl, rfl, fun _ _ => rfl, fun _ => rfl⟩
theorem xp_meth {o : Expr} {x : Str} {apos : Pos} {es : List Expr} {m : Mt} {a : E} {es' : List E} (hm : m.nm = x) (ho : ∀ nm env, attributeBase o nm env (eval o env) = eval o env) (hl : (apos.endLine == pos.line) = true) (hn : es.length < 29) (h0 : XP p sc o a) (h1 : SndEs p sc es es') :
    XP p sc (.Call (.Attribute o x apos) es [] pos) (.meth m a es') := by
  subst hm
  exact ⟨snd_meth (ho _) hl hn h0.sE h1, sndT_value (e' := .meth m a es') (snd_meth (ho _) hl hn h0.sE h1) (fun _ _ => rfl) fun _ _ _ _ h => h, fun _ _ => rfl, rfl, fun _ _ => rfl, fun _ => rfl⟩
end

 set_option smartUnfolding false in
noncomputable def trE (p : Pg) : (n : Nat) → (sc : Sc) → (e : Expr) → RE p sc e
  | 0, _, _ => none
  | n + 1, sc, e => match e with
    | .Constant .none k pos => some ⟨.lit .none, xp_none⟩
    | .Constant (.bool b) k pos => some ⟨.lit (.bool b), xp_bool⟩
    | .Constant (.int i) k pos => some ⟨.lit (.int i), xp_int⟩
    | .Constant (.str x) k pos => if h : x.length ≤ SZ then some ⟨.lit (.str x.cps.toList), xp_str h⟩ else none
    | .Name x pos => match h : sc.nm x with
      | some i => some ⟨.var i, xp_var h⟩
      | none => if hk : sc.gk x = true then (match hg : p.G x with
        | some (.const i) => some ⟨.lit (.int i), xp_const hk hg⟩
        | _ => none) else none
    | .BinOp l op r pos => match bopOf op, trE p n sc l, trE p n sc r with
      | some o, some a, some b => some ⟨.bin o.1 a.1 b.1, xp_bin o.2 a.2 b.2⟩
      | _, _, _ => none
    | .UnaryOp .USub l pos => match trE p n sc l with
      | some a => some ⟨.neg a.1, xp_neg a.2⟩
      | _ => none
    | .UnaryOp .Not l pos => match trE p n sc l with
      | some a => some ⟨.not a.1, xp_not a.2⟩
      | _ => none
    | .BoolOp .And es pos => match trChain true (trE p n sc) es with
      | some c => some ⟨c.1, xp_chain rfl c.2⟩
      | none => none
    | .BoolOp .Or es pos => match trChain false (trE p n sc) es with
      | some c => some ⟨c.1, xp_chain rfl c.2⟩
      | none => none
    | .Compare l [op] [r] pos => match trE p n sc l, trE p n sc r with
      | some a, some b => some ⟨.cmp (cmpOf op).1 a.1 b.1, xp_cmp (cmpOf op).2 a.2 b.2⟩
      | _, _ => none
    | .Compare l [op, op₂] [r, r₂] pos => match trE p n sc l, trE p n sc r, trE p n sc r₂ with
      | some a, some b, some c => some ⟨.cmp2 (cmpOf op).1 (cmpOf op₂).1 a.1 b.1 c.1, xp_cmp2 (cmpOf op).2 (cmpOf op₂).2 a.2 b.2 c.2⟩
      | _, _, _ => none
    | .Subscript l (.Slice lo hi none q) pos => match trE p n sc l, trO (trE p n sc) lo, trO (trE p n sc) hi with
      | some a, some b, some c => some ⟨.slice a.1 b.1 c.1, xp_slice a.2 b.2 c.2⟩
      | _, _, _ => none
    | .Subscript l r pos => match trE p n sc l, trE p n sc r with
      | some a, some b => some ⟨.sub a.1 b.1, xp_sub a.2 b.2⟩
      | _, _ => none
    | .Tuple es k pos => match trEs (trE p n sc) es with
      | some xs => if h : es.length ≤ 1000 then some ⟨.tup xs.1, xp_tup xs.2 h⟩ else none
      | _ => none
    | .List es pos => match trEs (trE p n sc) es with
      | some xs => if h : es.length ≤ 1000 then some ⟨.list xs.1, xp_list xs.2 h⟩ else none
      | _ => none
    | .Dict [] [] pos => some ⟨.dict0, xp_dict0⟩
    | .Dict [some k] [v] pos => match trE p n sc k, trE p n sc v with
      | some a, some b => some ⟨.dict1 a.1 b.1, xp_dict1 a.2 b.2⟩
      | _, _ => none
    | .ListComp elt [⟨target, iter, ifs, z⟩] scope pos => match trE p n sc iter, trG p (compSc sc scope.names) target, trC (trE p n (compSc sc scope.names)) ifs, trE p n (compSc sc scope.names) elt with
      | some i, some t, some c, some e => if hz : z = 0 then (if h : compOkB sc scope = true then (if hs : t.1.slots.all (fun i => decide (sc.lim ≤ i)) = true then
          some ⟨.comp e.1 t.1 i.1 c.1, xp_comp hz i.2 h t.2 c.2 e.2 hs⟩ else none) else none) else none
      | _, _, _, _ => none
    | .Call (.Name x np) es [] pos => if hk : sc.gk x = true then (match hg : p.G x with
        | some .isinst => (match es with
          | [e, .Name y ny] => if hk' : sc.gk y = true then (match hg' : p.G y, trE p n sc e with
            | some g, some a => (match hty : tyOf g with
              | some t => some ⟨.isinst a.1 t, xp_isinst hk hg hk' hg' hty a.2⟩
              | none => none)
            | _, _ => none) else none
          | _ => none)
        | some (.fn k) => (match trEs (trE p n sc) es with
          | some xs => some ⟨.call k xs.1, xp_call hk hg xs.2⟩
          | none => none)
        | some (.bi b) => (match trEs (trE p n sc) es with
          | some xs => some ⟨.bi b xs.1, xp_bi hk hg xs.2⟩
          | none => none)
        | _ => none) else none
    | .Call (.Attribute o x apos) es [] pos => match trE p n sc o, trEs (trE p n sc) es, mtOf x es.length, attrOk o with
      | some a, some xs, some m, some ⟨ao⟩ => if hl : (apos.endLine == pos.line) = true then (if hn : es.length < 29 then
          some ⟨.meth m.1 a.1 xs.1, xp_meth m.2 ao hl hn a.2 xs.2⟩ else none) else none
      | _, _, _, _ => none
    | _ => none
end Tw
end

section
namespace Tw
open PySem PySem.SeqAt

noncomputable def swapOk : (e : Expr) → Option (PLift (∀ env l t, swapsWith e t l env = pure false))
  | .Constant .. => some ⟨fun _ _ _ => rfl⟩
  | .Name .. => some ⟨fun _ _ _ => rfl⟩
  | .BinOp .. => some ⟨fun _ _ _ => rfl⟩
  | .UnaryOp .. => some ⟨fun _ _ _ => rfl⟩
  | .BoolOp .. => some ⟨fun _ _ _ => rfl⟩
  | .Compare .. => some ⟨fun _ _ _ => rfl⟩
  | .Subscript .. => some ⟨fun _ _ _ => rfl⟩
  | .Tuple .. => some ⟨fun _ _ _ => rfl⟩
  | .List .. => some ⟨fun _ _ _ => rfl⟩
  | .Dict .. => some ⟨fun _ _ _ => rfl⟩
  | .Call .. => some ⟨fun _ _ _ => rfl⟩
  | _ => none
noncomputable def storesOk (t : List Expr) (k : Nat) (q : Pos) : (e : Expr) → Option (PLift (∀ env, swappedStores [.Tuple t k q] e env = pure none))
  | .Name .. => some ⟨fun _ => rfl⟩
  | .Subscript .. => some ⟨fun _ => rfl⟩
  | .Call .. => some ⟨fun _ => rfl⟩
  | _ => none

section
variable {p : Pg} {sc : Sc}
noncomputable def trB (tr : (s : Stmt) → Option { s' : S // SndS p sc s s' }) : (ss : List Stmt) → Option { ss' : List S // SndB p sc ss ss' }
  | [] => some ⟨[], sndB_nil⟩
  | s :: ss => match tr s with
    | none => none
    | some x => match trB tr ss with
      | none => none
      | some xs => some ⟨x.1 :: xs.1, sndB_cons x.2 xs.2⟩
theorem xs_comp {x : Str} {i : Nat} {xp ap pos : Pos} {elt target iter : Expr} {ifs : List Expr} {scope : Scope} {elt' iter' : E} {tgt : Tgt} {cond : Option E} {z : Int} (hz : z = 0) (hx : sc.nm x = some i) (hst : sc.st x = true) (hi : XP p sc iter iter') (ok : compOkB sc scope = true)
    (hg : SndG p (compSc sc scope.names) target tgt) (hc : SndC p (compSc sc scope.names) ifs cond) (he : XP p (compSc sc scope.names) elt elt') (hsl : tgt.slots.all (fun i => decide (sc.lim ≤ i)) = true) :
    SndS p sc (.Assign [.Name x xp] (.ListComp elt [⟨target, iter, ifs, z⟩] scope pos) ap) (.assign (.name i) (.comp elt' tgt iter' cond)) := by
  subst hz
  exact snd_assign_comp hx hst hi.sE (compOk_of ok) hg hc he.sE (by simpa using hsl) hi.set
theorem xs_expr {e : Expr} {e' : E} {pos : Pos} (h1 : XP p sc e e') (hs : ∀ env l t, swapsWith e t l env = pure false) : SndS p sc (.Expr e pos) (.expr e') := snd_expr h1.sE fun env l => hs env l none
theorem xs_assign {x : Str} {i : Nat} {xp pos : Pos} {e : Expr} {e' : E} (hx : sc.nm x = some i) (hst : sc.st x = true) (h1 : XP p sc e e') (hs : ∀ env l t, swapsWith e t l env = pure false) : SndS p sc (.Assign [.Name x xp] e pos) (.assign (.name i) e') :=
  snd_assign h1.sE hx hst fun env l t => hs env l (some t)
theorem xs_tup {es : List Expr} {k : Nat} {tp pos : Pos} {e : Expr} {e' : E} {tgt : Tgt} (h1 : XP p sc e e') (h2 : SndG p sc (.Tuple es k tp) tgt) (hs : ∀ env l t, swapsWith e t l env = pure false) (hw : ∀ env, swappedStores [.Tuple es k tp] e env = pure none) :
    SndS p sc (.Assign [.Tuple es k tp] e pos) (.assign tgt e') := snd_assign_tup h1.sE h2 (fun env l t => hs env l (some t)) hw
theorem xs_store {o i e : Expr} {pos pos' : Pos} {o' i' e' : E} (h1 : XP p sc e e') (h2 : XP p sc o o') (h3 : XP p sc i i') (hs : ∀ env l t, swapsWith e t l env = pure false) : SndS p sc (.Assign [.Subscript o i pos'] e pos) (.store o' i' e') :=
  snd_store h1.sE h2.sE h3.sE fun env l t => hs env l (some t)
theorem xs_ite {t : Expr} {a b : List Stmt} {pos : Pos} {t' : E} {a' b' : List S} (h1 : XP p sc t t') (h2 : SndB p sc a a') (h3 : SndB p sc b b') : SndS p sc (.If t a b pos) (.ite t' a' b') := snd_ite h1.sT h2 h3
theorem xs_while {t : Expr} {b : List Stmt} {pos : Pos} {t' : E} {b' : List S} (h1 : XP p sc t t') (h2 : SndB p sc b b') : SndS p sc (.While t b [] pos) (.while t' b') := snd_while h1.sT h2
theorem xs_for {t it : Expr} {b : List Stmt} {pos : Pos} {tgt : Tgt} {it' : E} {b' : List S} (h1 : XP p sc it it') (hg : SndG p sc t tgt) (h2 : SndB p sc b b') : SndS p sc (.For t it b [] pos) (.for tgt it' b') := snd_for h1.sE hg h2 h1.set
theorem xs_ret {e : Expr} {e' : E} {pos : Pos} (h1 : XP p sc e e') : SndS p sc (.Return (some e) pos) (.ret (some e')) := snd_ret h1.sE

noncomputable def isiOf (e : Expr) : Option { t : Str × Str × Str // ∃ a b c d, e = .Call (.Name t.1 a) [.Name t.2.1 b, .Name t.2.2 c] [] d } := match e with
  | .Call (.Name i a) [.Name n b, .Name y c] [] d => some ⟨(i, n, y), a, b, c, d, rfl⟩
  | _ => none
theorem xs_try9 {x y ne ox o2 isn : Str} {ie io : Nat} {np cpos ep tp hp pos x1 y1 y2 z2 z3 z4 z5 : Pos} {es : List Expr} {es' : List E} {j : Nat} {e1 e2 e3 e4 : Expr} (htop : sc.top = true) (hk : sc.gk x = true) (hg : p.G x = some (.fn j)) (h1 : SndEs p sc es es')
    (hy : y = "MachineError") (hkM : sc.gk y = true) (hgM : p.G y = some .fam) (hki : sc.gk isn = true) (hgi : p.G isn = some .isinst) (he : sc.nm ne = some ie) (hes : sc.st ne = true) (hec : sc.ck ne = false) (ho : sc.nm ox = some io) (hos : sc.st ox = true) (hoc : sc.ck ox = false) (hne : ne ≠ ox) (ho2 : o2 = ox)
    (k1 : sc.gk "BadMachine" = true) (k2 : sc.gk "TooGreat" = true) (k3 : sc.gk twoN = true) (k4 : sc.gk "ValueError" = true)
    (t1 : ∃ a b c d, e1 = .Call (.Name isn a) [.Name ne b, .Name "BadMachine" c] [] d) (t2 : ∃ a b c d, e2 = .Call (.Name isn a) [.Name ne b, .Name "TooGreat" c] [] d) (t3 : ∃ a b c d, e3 = .Call (.Name isn a) [.Name ne b, .Name twoN c] [] d) (t4 : ∃ a b c d, e4 = .Call (.Name isn a) [.Name ne b, .Name "ValueError" c] [] d) :
    SndS p sc (.Try [.Expr (.Call (.Name x np) es [] cpos) ep] [.ExceptHandler (some (.Name y tp)) (some ne) [.Assign [.Name ox x1] (.BoolOp .Or [e1, e2] y1) y2, .Return (some (.BoolOp .And [e3, e4, .UnaryOp .Not (.Name o2 z2) z3] z4)) z5] hp] [] [] pos)
      (.ite (.call (1000 + j) es') [.ret (some (.lit (.bool true)))] []) := by
  obtain ⟨a1, b1, c1, d1, rfl⟩ := t1
  obtain ⟨a2, b2, c2, d2, rfl⟩ := t2
  obtain ⟨a3, b3, c3, d3, rfl⟩ := t3
  obtain ⟨a4, b4, c4, d4, rfl⟩ := t4
  subst hy; subst ho2
  exact snd_try9 htop hk hg h1 hkM hgM hki hgi he hes hec ho hos hoc hne k1 k2 k3 k4
theorem isi_eq {e : Expr} {t u : Str × Str × Str} (h : ∃ a b c d, e = .Call (.Name t.1 a) [.Name t.2.1 b, .Name t.2.2 c] [] d) (hu : t = u) : ∃ a b c d, e = .Call (.Name u.1 a) [.Name u.2.1 b, .Name u.2.2 c] [] d := hu ▸ h
noncomputable def trTry9 (p : Pg) (n : Nat) (sc : Sc) (body : List Stmt) (hs : List ExceptHandler) (pos : Pos) : Option { s' : S // SndS p sc (.Try body hs [] [] pos) s' } :=
  match body with
  | [.Expr (.Call (.Name x np) es [] cpos) ep] => (match hs with
    | [.ExceptHandler (some (.Name y tp)) (some ne) [st1, st2] hp] => (match st1 with
      | .Assign [.Name ox x1] (.BoolOp .Or [e1, e2] y1) y2 => (match st2 with
        | .Return (some (.BoolOp .And [e3, e4, .UnaryOp .Not (.Name o2 z2) z3] z4)) z5 => (match isiOf e1, isiOf e2, isiOf e3, isiOf e4 with
          | some t1, some t2, some t3, some t4 => (match hg : p.G x with
            | some (.fn j) => (match trEs (trE p n sc) es with
              | some xs => (match hg2 : p.G y with
                | some .fam => (match hgi : p.G t1.1.1 with
                  | some .isinst => (match he : sc.nm ne with
                    | some ie => (match ho : sc.nm ox with
                      | some io => if h : (t1.1 = (t1.1.1, ne, ("BadMachine" : Str)) ∧ t2.1 = (t1.1.1, ne, ("TooGreat" : Str)) ∧ t3.1 = (t1.1.1, ne, twoN) ∧ t4.1 = (t1.1.1, ne, ("ValueError" : Str)) ∧ y = "MachineError" ∧ o2 = ox ∧ ne ≠ ox) ∧
                          sc.top = true ∧ sc.gk x = true ∧ sc.gk y = true ∧ sc.gk t1.1.1 = true ∧ (sc.st ne = true ∧ sc.ck ne = false ∧ sc.st ox = true ∧ sc.ck ox = false) ∧ sc.gk "BadMachine" = true ∧ sc.gk "TooGreat" = true ∧ sc.gk twoN = true ∧ sc.gk "ValueError" = true then
                          some ⟨.ite (.call (1000 + j) xs.1) [.ret (some (.lit (.bool true)))] [],
                            xs_try9 h.2.1 h.2.2.1 hg xs.2 h.1.2.2.2.2.1 h.2.2.2.1 hg2 h.2.2.2.2.1 hgi he h.2.2.2.2.2.1.1 h.2.2.2.2.2.1.2.1 ho h.2.2.2.2.2.1.2.2.1 h.2.2.2.2.2.1.2.2.2 h.1.2.2.2.2.2.2 h.1.2.2.2.2.2.1 h.2.2.2.2.2.2.1 h.2.2.2.2.2.2.2.1 h.2.2.2.2.2.2.2.2.1 h.2.2.2.2.2.2.2.2.2
                              (isi_eq t1.2 h.1.1) (isi_eq t2.2 h.1.2.1) (isi_eq t3.2 h.1.2.2.1) (isi_eq t4.2 h.1.2.2.2.1)⟩ else none
                      | none => none)
                    | none => none)
                  | _ => none)
                | _ => none)
              | none => none)
            | _ => none)
          | _, _, _, _ => none)
        | _ => none)
      | _ => none)
    | _ => none)
  | _ => none

noncomputable def trAssignComp (p : Pg) (n : Nat) (sc : Sc) (x : Str) (xp ap : Pos) (elt target iter : Expr) (ifs : List Expr) (z : Int) (scope : Scope) (pos : Pos) : Option { s' : S // SndS p sc (.Assign [.Name x xp] (.ListComp elt [⟨target, iter, ifs, z⟩] scope pos) ap) s' } :=
  match hx : sc.nm x with
  | none => none
  | some i => if hst : sc.st x = true then (match trE p n sc iter, trG p (compSc sc scope.names) target, trC (trE p n (compSc sc scope.names)) ifs, trE p n (compSc sc scope.names) elt with
      | some it, some t, some c, some e => if hz : z = 0 then (if h : compOkB sc scope = true then (if hs : t.1.slots.all (fun i => decide (sc.lim ≤ i)) = true then
          some ⟨.assign (.name i) (.comp e.1 t.1 it.1 c.1), xs_comp hz hx hst it.2 h t.2 c.2 e.2 hs⟩ else none) else none) else none
      | _, _, _, _ => none) else none
end

 set_option smartUnfolding false in
noncomputable def trS (p : Pg) : (n : Nat) → (sc : Sc) → (s : Stmt) → Option { s' : S // SndS p sc s s' }
  | 0, _, _ => none
  | n + 1, sc, s => match s with
    | .Return none pos => some ⟨.ret none, snd_ret0⟩
    | .Return (some e) pos => match trE p n sc e with
      | some a => some ⟨.ret (some a.1), xs_ret a.2⟩
      | none => none
    | .Raise e c pos => some ⟨.raise, snd_raise⟩
    | .Expr e pos => match trE p n sc e, swapOk e with
      | some a, some ⟨h⟩ => some ⟨.expr a.1, xs_expr a.2 h⟩
      | _, _ => none
    | .If t a b pos => match trE p n sc t, trB (trS p n sc) a, trB (trS p n sc) b with
      | some t, some a, some b => some ⟨.ite t.1 a.1 b.1, xs_ite t.2 a.2 b.2⟩
      | _, _, _ => none
    | .While t b [] pos => match trE p n sc t, trB (trS p n sc) b with
      | some t, some b => some ⟨.while t.1 b.1, xs_while t.2 b.2⟩
      | _, _ => none
    | .For t it b [] pos => match trG p sc t, trE p n sc it, trB (trS p n sc) b with
      | some t, some it, some b => some ⟨.for t.1 it.1 b.1, xs_for it.2 t.2 b.2⟩
      | _, _, _ => none
    | .Try body hs [] [] pos => trTry9 p n sc body hs pos
    | .Assign [.Name x xp] e ap => match e with
      | .ListComp elt [⟨target, iter, ifs, z⟩] scope pos => trAssignComp p n sc x xp ap elt target iter ifs z scope pos
      | e => match hx : sc.nm x with
        | none => none
        | some i => if hst : sc.st x = true then (match trE p n sc e, swapOk e with
          | some a, some ⟨h⟩ => some ⟨.assign (.name i) a.1, xs_assign hx hst a.2 h⟩
          | _, _ => none) else none
    | .Assign [.Tuple es k tp] e ap => match trG p sc (.Tuple es k tp), trE p n sc e, swapOk e, storesOk es k tp e with
      | some t, some a, some ⟨h⟩, some ⟨h'⟩ => some ⟨.assign t.1 a.1, xs_tup a.2 t.2 h h'⟩
      | _, _, _, _ => none
    | .Assign [.Subscript o i pos'] e ap => match trE p n sc o, trE p n sc i, trE p n sc e, swapOk e with
      | some o, some i, some e, some ⟨h⟩ => some ⟨.store o.1 i.1 e.1, xs_store e.2 o.2 i.2 h⟩
      | _, _, _, _ => none
    | _ => none

noncomputable def fnOkB (f : FnRec) : Bool :=
  f.scope.kind == .function && !f.scope.isCoroutine && !f.scope.isGenerator && f.scope.names.all (fun n => f.scope.names.lookup n.1 == some n.2 && plainName n.1 && n.2 != .free)
/-- names at their own slots, from k on -/
noncomputable def slotsOk (nm : Str → Option Nat) : Nat → List Arg → Bool
  | _, [] => true
  | k, a :: r => nm a.arg == some k && slotsOk nm (k + 1) r
theorem slotsOk_at {nm : Str → Option Nat} : ∀ {args : List Arg} {k : Nat}, slotsOk nm k args = true → ∀ (i : Nat) x, (args.map (·.arg))[i]? = some x → nm x = some (k + i)
  | [], _, _, _, _, h => by simp at h
  | a :: r, k, h, i, x, hx => by
    simp only [slotsOk, Bool.and_eq_true, beq_iff_eq] at h
    cases i with
    | zero => simp at hx; subst hx; exact h.1
    | succ i => have := slotsOk_at h.2 i x (by simpa using hx); rw [this]; congr 1; omega
theorem slotsOk_nodup {nm : Str → Option Nat} : ∀ {args : List Arg} {k : Nat}, slotsOk nm k args = true → (args.map (·.arg)).Nodup
  | [], _, _ => by simp
  | a :: r, k, h => by
    have h0 := h
    simp only [slotsOk, Bool.and_eq_true, beq_iff_eq] at h
    rw [List.map_cons, List.nodup_cons]
    refine ⟨fun hm => ?_, slotsOk_nodup h.2⟩
    obtain ⟨i, hi⟩ := List.mem_iff_getElem?.mp hm
    have := slotsOk_at h.2 i _ hi
    rw [h.1] at this
    injection this with this
    omega
theorem fnOk_of {p : Pg} {f : FnRec} {args : List Arg} {b : List S} (hb : SndB p (fnSc f.scope.names) f.body b) (h : fnOkB f = true) (hp : f.params = ⟨[], args, none, [], [], none, []⟩) (hs : slotsOk (fnSc f.scope.names).nm 0 args = true) : FnOk p f ⟨args.length, b⟩ := by
  simp only [fnOkB, Bool.and_eq_true, beq_iff_eq, List.all_eq_true, Bool.not_eq_true'] at h
  obtain ⟨⟨⟨h1, h2⟩, h3⟩, h4⟩ := h
  refine ⟨⟨args, hp, slotsOk_nodup hs, rfl, fun i x hx => by simpa using slotsOk_at hs i x hx⟩, h1, h2, h3, fun x k hm => (h4 _ hm).1.1, fun x k hm => (h4 _ hm).1.2, fun x hm => ?_, hb⟩
  have := (h4 _ hm).2
  simp at this

/-- a body that may raise the program's own exception -/
theorem xr_three {es : List Expr} {k k' : Nat} {tp ap ip np cpos rp mp pos : Pos} {e1 t e : Expr} {e1' t' e' : E} {tgt : Tgt} {msg y : Str} {p : Pg} {sc : Sc} (hy : y = twoN) (h1 : XP p sc e1 e1') (h2 : SndG p sc (.Tuple es k tp) tgt) (hs : ∀ env l t, swapsWith e1 t l env = pure false) (hw : ∀ env, swappedStores [.Tuple es k tp] e1 env = pure none)
    (h3 : XP p sc t t') (h4 : XP p sc e e') (hk : sc.gk y = true) (hg : p.G y = some .exc) (hm : msg.length ≤ SZ) :
    SndR p sc [.Assign [.Tuple es k tp] e1 ap, .If t [.Raise (some (.Call (.Name y np) [.Constant (.str msg) k' mp] [] cpos)) none rp] [] ip, .Return (some e) pos]
      [.assign tgt e1', .ite t' [.ret (some (.lit (.bool true)))] [], .expr e', .ret (some (.lit (.bool false)))] := by
  subst hy; exact sndR_three h1.sE h2 (fun env l t => hs env l (some t)) hw h3.sT h4.sE hk hg hm
noncomputable def trR3 (p : Pg) (n : Nat) (sc : Sc) (s1 s2 s3 : Stmt) : Option { b : List S // SndR p sc [s1, s2, s3] b } :=
  match s1 with
  | .Assign [.Tuple es k tp] e1 ap => (match s2 with
    | .If t [.Raise (some (.Call (.Name y np) [.Constant (.str msg) k' mp] [] cpos)) none rp] [] ip => (match s3 with
      | .Return (some e) pos => (match trG p sc (.Tuple es k tp), trE p n sc e1, trE p n sc t, trE p n sc e, swapOk e1, storesOk es k tp e1 with
        | some tg, some a, some t, some e, some ⟨h⟩, some ⟨h'⟩ => (match hg : p.G y with
          | some .exc => if hx : y = twoN ∧ sc.gk y = true ∧ msg.length ≤ SZ then some ⟨[.assign tg.1 a.1, .ite t.1 [.ret (some (.lit (.bool true)))] [], .expr e.1, .ret (some (.lit (.bool false)))], xr_three hx.1 a.2 tg.2 h h' t.2 e.2 hx.2.1 hg hx.2.2⟩ else none
          | _ => none)
        | _, _, _, _, _, _ => none)
      | _ => none)
    | _ => none)
  | _ => none
noncomputable def trR (p : Pg) (n : Nat) (sc : Sc) (b : List Stmt) : Option { b' : List S // SndR p sc b b' } :=
  match b with
  | [s1, s2, s3] => trR3 p n sc s1 s2 s3
  | _ => none

noncomputable def trF (p : Pg) (n : Nat) (f : FnRec) : Option { fn : Fn // FnOk p f fn } :=
  match trB (trS p n (fnSc f.scope.names)) f.body with
  | none => none
  | some b => if h : fnOkB f = true then (match hp : f.params with
    | ⟨[], args, none, [], [], none, []⟩ => if hs : slotsOk (fnSc f.scope.names).nm 0 args = true then some ⟨⟨args.length, b.1⟩, fnOk_of b.2 h hp hs⟩ else none
    | _ => none) else none
noncomputable def trFT (p : Pg) (n : Nat) (f : FnRec) : Option { fn : Fn // FnTry p f fn } :=
  match trF p n f with
  | none => none
  | some x => match trR p n (fnSc f.scope.names) f.body with
    | none => none
    | some b => some ⟨⟨x.1.arity, b.1⟩, ⟨x.1, x.2, rfl⟩, b.2⟩
end Tw
end

section
namespace Tw
open PySem PySem.W PyProof.Rows

noncomputable def tabOf (q : Program) (names : List Str) : Tab := fun k => match names[k]? with
  | none => none
  | some x => ((recsOf q).find? (fun d => d.name == x)).map fun d => ⟨d.name, d.params, d.body, d.scope⟩

noncomputable def biTab : List (Str × Gl) := [("len", .bi .len), ("range", .bi .range), ("list", .bi .list), ("dict", .bi .dict), ("sorted", .bi .sorted), ("int", .bi .int), ("min", .bi .min), ("max", .bi .max), ("isinstance", .isinst), ("bool", .ty .bool), ("tuple", .ty .tuple), ("str", .ty .str)]
noncomputable def glV : Gl → Value
  | .bi b => b.py
  | .ty t => t.py
  | _ => .builtin "isinstance"
noncomputable def glOf (T : Tab) (names : List Str) : Names := fun x => match biTab.lookup x with
  | some g => some g
  | none => match names.findIdx? (· == x) with
    | some k => if (T k).isSome then some (.fn k) else none
    | none => if x == twoN then some .exc
      else if x == "MachineError" then some .fam
      else if x == "MOST_STATES" then some (.const 100) else if x == "MOST_MOVES" then some (.const 1000) else none

theorem bi_boot : biTab.all (fun e => decide (bootBuiltins e.1 = some (glV e.2))) = true := by decide +kernel
theorem bi_none : biTab.all (fun e => match e.2 with | .bi _ => true | .isinst => true | .ty _ => true | _ => false) = true := by decide +kernel

noncomputable def freeB (q : Program) (loose : List Str) : Bool := biTab.all fun e =>
  !(startupNames.contains e.1) && !(loose.contains e.1) && !(((recsOf q).map (·.name)).contains e.1) && !(((litsOf q).map (·.1)).contains e.1) && !(((clssOf q loose).map (·.name)).contains e.1) && e.1 != "__name__"

/-- the program's exception classes, as the heap holds them -/
noncomputable def exc9 (h : Heap) (name : Str) (chain : List Str) : Bool := h.ownExcOk name chain excM "ValueError.__new__" && (match h.clsAt mainGlobals name with | some (_, _, cd) => quiet9.all fun n => (h.nsMap cd.ns n).isNone | none => false)
inductive OwnE (h : Heap) (name : Str) (tl : List Value) : Prop
  | mk (C N : Addr) (nm q : Str) (bs : List Value) (hdct : Bool) (sn : List Str) (sub : List Value) (ab : Bool) (col : Option Bool) (dd : Option Addr) (k0 k1 k2 k3 k5 : Option Value) (hb : h.nsMap mainGlobals name = some (.ref C))
      (hC : h.get? C = some (excClassObj nm q C N bs tl hdct sn sub ab col dd k0 k1 k2 k3 k5 "ValueError.__new__")) (hN : h.Ns N (h.nsMap N))
theorem ownE_of {h : Heap} {name : Str} {chain : List Str} (x : h.ownExcOk name chain excM "ValueError.__new__" = true) : OwnE h name ((chain.map fun n => (h.nsMap mainGlobals n).getD .none) ++ excM) := by
  obtain ⟨C, N, nm, q, bs, hdct, sn, sub, ab, col, dd, k0, k1, k2, k3, k5, hb, hC, hN, _⟩ := Heap.ownExc_of_ok x
  exact ⟨C, N, nm, q, bs, hdct, sn, sub, ab, col, dd, k0, k1, k2, k3, k5, hb, hC, hN⟩
theorem exc9_of {h : Heap} {name : Str} {chain : List Str} (x : exc9 h name chain = true) : ∃ C, h.nsMap mainGlobals name = some (.ref C) ∧ ExcAt h C ((chain.map fun n => (h.nsMap mainGlobals n).getD .none) ++ excM) := by
  obtain ⟨x, y⟩ := Bool.and_eq_true_iff.mp x
  have z := ownE_of x
  clear x
  generalize (chain.map fun n => (h.nsMap mainGlobals n).getD .none) ++ excM = tl at z ⊢
  obtain ⟨C, N, nm, q, bs, hdct, sn, sub, ab, col, dd, k0, k1, k2, k3, k5, hb, hC, hN⟩ := z
  refine ⟨C, hb, N, nm, q, bs, hdct, sn, sub, ab, col, dd, k0, k1, k2, k3, k5, _, hC, hN, fun n hn => ?_⟩
  cases hf : h.clsAt mainGlobals name with
  | none => rw [hf] at y; cases y
  | some z =>
    obtain ⟨C', o', cd'⟩ := z
    rw [hf] at y
    obtain ⟨hn', ho', hd'⟩ := Heap.clsAt_spec hf
    rw [hb] at hn'
    obtain rfl : C = C' := by injection hn' with q1; injection q1
    rw [hC] at ho'
    obtain rfl := Option.some.inj ho'
    obtain rfl : _ = cd' := by injection hd'
    exact Option.isNone_iff_eq_none.mp (List.all_eq_true.mp y n hn)
noncomputable def famB (h : Heap) : Bool := exc9 h twoN ["MachineError"] && exc9 h "MachineError" [] && exc9 h "BadMachine" ["MachineError"] && exc9 h "TooGreat" ["MachineError"] &&
  (decide (h.nsMap mainGlobals "BadMachine" ≠ h.nsMap mainGlobals twoN) && decide (h.nsMap mainGlobals "BadMachine" ≠ h.nsMap mainGlobals "MachineError") && decide (h.nsMap mainGlobals "TooGreat" ≠ h.nsMap mainGlobals twoN) && decide (h.nsMap mainGlobals "TooGreat" ≠ h.nsMap mainGlobals "MachineError"))
noncomputable def FamX (mg : Str → Option Value) (h : Heap) : Prop := ∃ C M B G, Fam h mg C M B G
theorem FamX.keeps (mg : Str → Option Value) (h h' : Heap) (x : FamX mg h) (hk : ∀ b o, h.get? b = some o → h'.get? b = some o) : FamX mg h' := by
  obtain ⟨C, M, B, G, x⟩ := x
  exact ⟨C, M, B, G, { x with xC := x.xC.keeps hk, xM := x.xM.keeps hk, xB := x.xB.keeps hk, xG := x.xG.keeps hk }⟩
theorem fam_of {h : Heap} (x : famB h = true) : FamX (h.nsMap mainGlobals) h := by
  simp only [famB, Bool.and_eq_true, decide_eq_true_eq] at x
  obtain ⟨⟨⟨⟨x1, x2⟩, x3⟩, x4⟩, ⟨⟨n1, n2⟩, n3⟩, n4⟩ := x
  obtain ⟨C, hC, xC⟩ := exc9_of x1
  obtain ⟨M, hM, xM⟩ := exc9_of x2
  obtain ⟨B, hB, xB⟩ := exc9_of x3
  obtain ⟨G, hG, xG⟩ := exc9_of x4
  have e : ((["MachineError"] : List Str).map fun n => (h.nsMap mainGlobals n).getD .none) ++ excM = .ref M :: excM := by
    show (h.nsMap mainGlobals "MachineError").getD .none :: ([] ++ excM) = _
    rw [hM]; rfl
  rw [e] at xC xB xG
  exact ⟨C, M, B, G, hC, hM, hB, hG, xC, xM, xB, xG, ⟨fun e => n1 (by rw [hB, hC, e]), fun e => n2 (by rw [hB, hM, e])⟩, fun e => n3 (by rw [hG, hC, e]), fun e => n4 (by rw [hG, hM, e])⟩
noncomputable def freeV (q : Program) (loose : List Str) : Bool := !(startupNames.contains ("ValueError" : Str)) && !(loose.contains ("ValueError" : Str)) && !(((recsOf q).map (·.name)).contains ("ValueError" : Str)) && !(((litsOf q).map (·.1)).contains ("ValueError" : Str)) && !(((clssOf q loose).map (·.name)).contains ("ValueError" : Str))
theorem names_gl {q : Program} {loose : List Str} {mean : ExcName → Option Value} {mg mb : Str → Option Value} {h : Heap} {names : List Str} (T : Top q loose mean mg mb h) (hf : freeB q loose = true)
    (c1 : valOf q "MOST_STATES" = some (.int 100)) (c2 : valOf q "MOST_MOVES" = some (.int 1000)) (c3 : specOf q twoN = some ("ValueError.__new__", excM))
    (c4 : FamX mg h) (c5 : freeV q loose = true)
    : ∀ x g, glOf (tabOf q names) names x = some g → IsGl (tabOf q names) h mg mb x g := by
  intro x g hg
  unfold glOf at hg
  split at hg
  · rename_i g' hl
    cases hg
    have hm := mem_of_lookup hl
    have h1 := List.all_eq_true.mp hf _ hm
    have h2 := of_decide_eq_true (List.all_eq_true.mp bi_boot _ hm)
    have h3 := List.all_eq_true.mp bi_none _ hm
    simp only [Bool.and_eq_true, Bool.not_eq_true', List.contains_eq_mem, decide_eq_false_iff_not, bne_iff_ne] at h1
    obtain ⟨⟨⟨⟨⟨a1, a2⟩, a3⟩, a4⟩, a5⟩, a6⟩ := h1
    have n1 := T.free x a1 a2 a3 a4 a5
    have n2 : mb x = some (glV g) := (T.builtins x a6).trans h2
    cases g with
    | bi b => exact ⟨n1, n2⟩
    | ty t => exact ⟨n1, n2⟩
    | isinst => exact ⟨n1, n2⟩
    | fn k => cases h3
    | const i => cases h3
    | exc => cases h3
    | fam => cases h3
  · split at hg
    · rename_i k hk
      split at hg
      · rename_i hs
        cases hg
        obtain ⟨f, hf'⟩ := Option.isSome_iff_exists.mp hs
        have hf0 := hf'
        unfold tabOf at hf'
        split at hf'
        · cases hf'
        · rename_i y hy
          obtain ⟨d, hd, e⟩ := Option.map_eq_some_iff.mp hf'
          have hdm := List.mem_of_find?_eq_some hd
          have hdn : d.name = y := beq_iff_eq.mp (List.find?_some (p := fun d : DefRec => d.name == y) hd)
          obtain ⟨hlt, hxy, _⟩ := List.findIdx?_eq_some_iff_getElem.mp hk
          have hxy : names[k] = x := beq_iff_eq.mp hxy
          rw [List.getElem?_eq_getElem hlt] at hy
          have hyx : y = x := by injection hy with hy; rw [← hy, hxy]
          obtain ⟨a, o, pm, code, doc, m1, m2, m3, m4⟩ := T.fn d hdm
          refine ⟨a, f, by rw [← hyx, ← hdn]; exact m1, hf0, o, pm, code, doc, m2, ?_, ?_⟩
          · rw [← e]; exact m3
          · rw [← e]; exact m4
      · cases hg
    · split at hg
      · rename_i he
        cases hg
        rw [beq_iff_eq.mp he]
        obtain ⟨C, O, _⟩ := T.ownAt c3
        exact ⟨C, O⟩
      split at hg
      · rename_i he
        cases hg
        rw [beq_iff_eq.mp he]
        obtain ⟨C, M, B, G, F⟩ := c4
        simp only [freeV, Bool.and_eq_true, Bool.not_eq_true', List.contains_eq_mem, decide_eq_false_iff_not] at c5
        obtain ⟨⟨⟨⟨a1, a2⟩, a3⟩, a4⟩, a5⟩ := c5
        exact ⟨C, M, B, G, F.nM, F, T.free "ValueError" a1 a2 a3 a4 a5, (T.builtins "ValueError" (by decide)).trans PyProof.Rows.Boot.«ValueError»⟩
      split at hg
      · rename_i he
        cases hg
        obtain ⟨v, m1, m2⟩ := T.const _ _ c1
        rw [beq_iff_eq.mp he]
        have := m2 h
        cases this with
        | int i t => exact ⟨t, m1⟩
      · split at hg
        · rename_i he
          cases hg
          obtain ⟨v, m1, m2⟩ := T.const _ _ c2
          rw [beq_iff_eq.mp he]
          have := m2 h
          cases this with
          | int i t => exact ⟨t, m1⟩
        · cases hg

theorem data_ne {h : Heap} {a b : Addr} {o o' : Obj} (ga : h.get? a = some o) (gb : h.get? b = some o') (hd : o.data ≠ o'.data) : a ≠ b := by
  rintro rfl
  rw [ga] at gb; cases gb; exact hd rfl

theorem gd_of {q : Program} {loose : List Str} {mean : ExcName → Option Value} {mg mb : Str → Option Value} {s : Shared} {names : List Str} (T : Top q loose mean mg mb s.heap) (hf : freeB q loose = true)
    (c1 : valOf q "MOST_STATES" = some (.int 100)) (c2 : valOf q "MOST_MOVES" = some (.int 1000)) (c3 : specOf q twoN = some ("ValueError.__new__", excM))
    (c4 : FamX mg s.heap) (c5 : freeV q loose = true)
    (him : importsNone q = true) {scr : Addr} {os : Obj} {vs : Array Value} {n : Nat} (gs : s.heap.get? scr = some os) (ds : os.data = .seq vs n) :
    Gd (glOf (tabOf q names) names) (tabOf q names) s scr := by
  have nsne : ∀ {a m}, s.heap.Ns a m → a ≠ scr := fun hn => by
    obtain ⟨o, es, ep, g, d, _⟩ := hn
    exact data_ne g gs (by rw [d, ds]; intro h; cases h)
  have nsk : ∀ {a m}, s.heap.Ns a m → ∀ h' : Heap, (∀ b o, s.heap.get? b = some o → b ≠ scr → h'.get? b = some o) → h'.Ns a m := fun hn h' hk => by
    have hne := nsne hn
    exact hn.at' fun o e => hk _ o e hne
  refine ⟨⟨mg, mb, T.g, T.b, names_gl T hf c1 c2 c3
    c4 c5
    ⟩, nsne T.g, nsne T.b, fun k f hk => ?_, fun a f hfa => ?_, T.nolimit, fun c nm hc h' hk => ?_, fun h' hk => ?_, ?_⟩
  · unfold tabOf at hk
    split at hk
    · cases hk
    · obtain ⟨d, hd, e⟩ := Option.map_eq_some_iff.mp hk
      obtain ⟨a, o, pm, code, doc, m1, m2, m3, m4⟩ := T.fn d (List.mem_of_find?_eq_some hd)
      exact ⟨a, o, pm, code, doc, m2, by rw [← e]; exact m3, by rw [← e]; exact m4⟩
  · obtain ⟨o, pm, code, doc, g, d, _⟩ := hfa
    exact data_ne g gs (by rw [d, ds]; intro h; cases h)
  · obtain ⟨b, o, fs, t, e, g, d, r⟩ := hc
    exact ⟨b, o, fs, t, e, hk _ _ g (data_ne g gs (by rw [d, ds]; intro h; cases h)), d, r⟩
  · obtain ⟨mc, hn, r⟩ := T.nolimit
    exact ⟨mc, nsk hn h' hk, r⟩
  · obtain ⟨mm, hn, _⟩ := (T.seer him).mods
    obtain ⟨o, g⟩ := Ns.obj hn
    exact ⟨o, g, nsne hn⟩
end Tw
end

section
namespace Tw
open PySem PySem.W PyProof.Rows

theorem ints_of {R : WRecords} : ∀ {ds : List WData}, WShape.hasItems R ds .int = true → ∃ xs : List Int, ds = xs.map WData.int
  | [], _ => ⟨[], rfl⟩
  | d :: r, h => by
    simp only [WShape.hasItems, Bool.and_eq_true] at h
    obtain ⟨xs, e⟩ := ints_of h.2
    obtain ⟨i, e'⟩ := hasW_int h.1
    exact ⟨i :: xs, by rw [e, e']; rfl⟩

theorem args_law {l : OpenLaw} {n : Nat} (hm : l.most = some n) (hb : l.bound = none) {args : List WData} (h : l.row.toRowW.claim.pre args = true) : ∃ xs : List Int, args = [.list (xs.map WData.int)] ∧ xs.length ≤ n := by
  obtain ⟨h1, h2⟩ := pre_splitW h
  obtain ⟨d, r, rfl, h3, h4⟩ := hasAllW_cons h1
  obtain rfl := hasAllW_nil h4
  obtain ⟨ds, rfl, h5⟩ := hasW_list h3
  obtain ⟨xs, rfl⟩ := ints_of h5
  refine ⟨xs, rfl, ?_⟩
  have h2 : l.pre.holds l.row.toRowW.records { args := [.list (xs.map WData.int)] } = true := h2
  unfold OpenLaw.pre at h2
  rw [hm, hb] at h2
  simp [WTm.holds, WTm.value, less?, Num.less?] at h2
  by_cases hlt : n < xs.length
  · rw [decide_eq_true hlt] at h2; cases h2
  · omega

theorem reps_ints_of {R : WRecords} {cl : Str → Option Addr} {h : Heap} {ι : List Addr} : ∀ {xs : List Int} {vs : List Value} {as : List Addr}, ReadsAllW R cl h vs (xs.map WData.int) as → RepVs ι h vs (xs.map V.int)
  | [], vs, as, r => by cases r; exact .nil
  | x :: xs, vs, as, r => by
    cases r with
    | cons h1 h2 => cases h1; exact .cons (.int _ _) (reps_ints_of h2)

theorem post_law {l : OpenLaw} {args : List WData} : l.row.toRowW.claim.post args (.bool true) args = true := by
  show WTm.holds _ (.eq .res (.lit (.bool true))) _ = true
  simp [WTm.holds, WTm.value, same]

/-- the script, as it lies in the heap -/
inductive ScrAt (h : Heap) (vals : List Value) (as : List Addr) (xs : List Int) : Prop
  | mk (scr : Addr) (os : Obj) (vs : Array Value) (m : Nat) (ev : vals = [.ref scr]) (gs : h.get? scr = some os) (cs : os.cls = .type "list") (ds : os.data = .seq vs m) (rs : ∀ ι, RepVs ι h vs.toList (xs.map V.int)) (hm : scr ∈ as)
theorem scr_at {R : WRecords} {cl : Str → Option Addr} {h : Heap} {vals : List Value} {as : List Addr} {xs : List Int} (hrd : ReadsAllW R cl h vals [.list (xs.map WData.int)] as) : ScrAt h vals as xs := by
  cases hrd with
  | cons h1 h2 =>
    cases h2
    cases h1 with
    | @list scr os vs m _ as' gs cs ds rs => exact ⟨scr, os, vs, m, rfl, gs, cs, ds, fun _ => reps_ints_of rs, by simp⟩
theorem walk_law {q : Program} {l : OpenLaw} {n D kl : Nat} {Φ : Nat → Option Fn} {names : List Str} {d : DefRec} {XP : (Str → Option Value) → Heap → Prop} {YP : World → Heap → Prop} (hm : l.most = some n) (hb : l.bound = none) (hn : n ≤ 1000)
    (hf : freeB q (looseW q []) = true) (c1 : valOf q "MOST_STATES" = some (.int 100)) (c2 : valOf q "MOST_MOVES" = some (.int 1000)) (c3 : specOf q twoN = some ("ValueError.__new__", excM))
    (c4 : ∀ mg h, XP mg h → FamX mg h) (c5 : freeV q (looseW q []) = true)
    (him : importsNone q = true)
    (ok : TabOk ⟨l.prog, glOf (tabOf q names) names, tabOf q names⟩ Φ) (hd : d ∈ recsOf q) (hk : tabOf q names kl = some ⟨d.name, d.params, d.body, d.scope⟩) (hD : D ≤ 100)
    (law : ∀ xs : List Int, xs.length ≤ n → Calls Φ D kl [.ref 0] [.frz (xs.map V.int)] fun v _ => v = .bool true) :
    WalkO q [] XP YP l.row.toRowW d [] fun f vs => PySem.call f vs := by
  intro w s₀ s₁ mg mb G Y a o pm cd doc dV kV ga da hcd hdf hmg hgens args vals as hpre hlay hrd hwell hlow
  obtain ⟨xs, rfl, hlen⟩ := args_law hm hb hpre
  obtain ⟨scr, os, vs, m, rfl, gs, cs, ds, rs, hm'⟩ := scr_at hrd
  have hGd := gd_of (names := names) G.T hf c1 c2 c3
    (c4 _ _ G.X) c5
    him gs ds
  obtain ⟨a', o', pm', code', doc', m1, m2, m3, m4⟩ := G.T.fn d hd
  have ea : a = a' := by rw [hmg] at m1; injection m1 with m1; injection m1
  subst ea
  have W : Wd w (fun b ob => s₁.heap.get? b = some ob ∧ b ≠ scr) s₁ scr [scr] [.frz (xs.map V.int)] s₁ := {
    same := ⟨_, _, rfl⟩
    len := rfl
    nodup := by simp
    objs := fun k b ob hb ho => by
      cases k with
      | zero =>
        simp at hb ho; subst hb; subst ho
        exact ⟨vs, ⟨os, gs, cs, m, ds⟩, rs _, by simp; exact Nat.le_trans hlen (Nat.le_trans hn (by decide))⟩
      | succ k => simp at hb
    low := fun b hb => by
      simp at hb; subst hb
      have := hlow b hm'
      simpa using this
    scr := fun _ e => e
    scrI := fun k hk => by
      cases k with
      | zero => exact ⟨_, rfl⟩
      | succ k => simp at hk
    scrIn := by simp
    prot := fun b ob p => .inl p.1
    protI := fun b ob p hb => by simp at hb; exact p.2 hb }
  have ao : AOk callerA D := ⟨rfl, by show 301 + D < 1000; omega, by show 4 + 4 * D + 100 < 9900; omega⟩
  refine mono' ((calls_ok ok D).1 hGd (fun b ob e hne => ⟨e, hne⟩) W ⟨[], rfl, fun _ h => nomatch h⟩ ao hk ⟨o', pm', code', doc', m2, m3, m4⟩ (vals := [.ref scr]) (vs := [.ref 0]) (.cons (.ref rfl) .nil) (law xs hlen)) fun v s' ⟨v', ι', H', M', W', rv, hq⟩ => ?_
  subst hq
  cases rv
  refine ⟨.inl ⟨_, .bool true, [], rfl, fun _ => rfl, .bool true, post_law, fun _ => ⟨List.nodup_nil, fun _ hm => nomatch hm⟩⟩, .of_keep fun b ob e => ?_, ?_, ?_⟩
  · by_cases hb : b = scr
    · subst hb; exact W'.scr _ e
    · exact (W'.prot _ _ ⟨e, hb⟩).base e
  · obtain ⟨h', tk, e⟩ := W'.same; rw [e]
  · obtain ⟨h', tk, e⟩ := W'.same; rw [e]; exact .of_eq hgens

/-- a function's number, its own form -/
noncomputable def trK (p : Pg) (k : Nat) : Option Fn := if k < 1000 then (p.T k).bind fun f => (trF p 60 f).map (·.1) else (p.T (k - 1000)).bind fun f => (trFT p 60 f).map (·.1)
theorem tab_of {p : Pg} {Φ : Nat → Option Fn} (hT : ∀ k f, p.T k = some f → k < 1000) (h : ∀ k fn, Φ k = some fn → trK p k = some fn) : TabOk p Φ := by
  intro k f fn hk
  refine ⟨fun hΦ => ?_, fun hΦ => ?_⟩
  · have := h k fn hΦ
    rw [trK, if_pos (hT k f hk), hk] at this
    simp only [Option.bind_some] at this
    obtain ⟨x, _, rfl⟩ := Option.map_eq_some_iff.mp this
    exact x.2
  · have := h _ fn hΦ
    rw [trK, if_neg (by omega), show 1000 + k - 1000 = k by omega, hk] at this
    simp only [Option.bind_some] at this
    obtain ⟨x, _, rfl⟩ := Option.map_eq_some_iff.mp this
    exact x.2
theorem tabOf_lt {q : Program} {names : List Str} (hn : names.length ≤ 1000) (k : Nat) (f : FnRec) (h : tabOf q names k = some f) : k < 1000 := by
  unfold tabOf at h
  split at h
  · cases h
  · rename_i x hx
    exact Nat.lt_of_lt_of_le (List.getElem?_eq_some_iff.mp hx).1 hn

theorem law_holds {q : Program} {l : OpenLaw} {n D kl : Nat} {Φ : Nat → Option Fn} {names : List Str} {d : DefRec} {XP : (Str → Option Value) → Heap → Prop} {YP : World → Heap → Prop} {x : Str} (hm : l.most = some n) (hb : l.bound = none) (hn : n ≤ 1000)
    (hf : freeB q (looseW q []) = true) (c1 : valOf q "MOST_STATES" = some (.int 100)) (c2 : valOf q "MOST_MOVES" = some (.int 1000)) (c3 : specOf q twoN = some ("ValueError.__new__", excM))
    (c4 : ∀ mg h, XP mg h → FamX mg h) (c5 : freeV q (looseW q []) = true)
    (him : importsNone q = true)
    (hnm : names.length ≤ 1000) (ok : ∀ k fn, Φ k = some fn → trK ⟨l.prog, glOf (tabOf q names) names, tabOf q names⟩ k = some fn)
    (hx : names[kl]? = some x) (hd : (recsOf q).find? (fun d => d.name == x) = some d) (hD : D ≤ 100)
    (law : ∀ xs : List Int, xs.length ≤ n → Calls Φ D kl [.ref 0] [.frz (xs.map V.int)] fun v _ => v = .bool true) :
    WalkO q [] XP YP l.row.toRowW d [] fun f vs => PySem.call f vs :=
  walk_law (Φ := Φ) (names := names) (kl := kl) hm hb hn hf c1 c2 c3
    c4 c5
    him (tab_of (tabOf_lt hnm) ok) (List.mem_of_find?_eq_some hd) (by unfold tabOf; rw [hx]; simp only; rw [hd]; rfl) hD law
/-- a law's functions, as a list -/
noncomputable def tabFn (l : List (Nat × Fn)) (k : Nat) : Option Fn := match l with
  | [] => none
  | (j, f) :: r => if k = j then some f else tabFn r k
theorem tab_all {P : Nat → Fn → Prop} : ∀ {l : List (Nat × Fn)}, (∀ x ∈ l, P x.1 x.2) → ∀ k fn, tabFn l k = some fn → P k fn
  | [], _, _, _, e => nomatch e
  | (j, f) :: r, h, k, fn, e => by
    unfold tabFn at e
    by_cases hk : k = j
    · rw [if_pos hk] at e; injection e with e; subst e; subst hk; exact h _ List.mem_cons_self
    · rw [if_neg hk] at e; exact tab_all (fun x hx => h x (List.mem_cons_of_mem _ hx)) k fn e
theorem all_nil {P : Nat × Fn → Prop} : ∀ x ∈ ([] : List (Nat × Fn)), P x := fun _ h => nomatch h
theorem all_cons {P : Nat × Fn → Prop} {y : Nat × Fn} {l : List (Nat × Fn)} (h1 : P y) (h2 : ∀ x ∈ l, P x) : ∀ x ∈ y :: l, P x := fun x h => by
  rcases List.mem_cons.mp h with rfl | h
  · exact h1
  · exact h2 x h
end Tw
end

section
namespace Tw
open PySem
/-- the functions' numbers -/
noncomputable def fnNames : List Str := (["need", "checked", "leaving", "gone_on", "told_back", "way", "reads", "writings", "turned", "joined", "nearer", "between", "steps", "led_from", "rests", "written", "lag", "path_to", "path_on", "shown", "gone_through", "unlike", "twofold", "ahead",
  "law", "_law_cell", "_law_signs", "_law_machine", "_law_whole", "_law_text", "_law_moves", "_law_steps", "_law_walk", "_law_is_plain", "_law_together", "_law_texts", "_law_ringed", "_law_is_way", "_law_is_refused", "_law_all", "_law_walked", "_law_turned", "_law_road", "_law_rests", "_law_refused", "_law_reader", "_law_plain", "_law_pairs", "_law_on", "_law_least", "_law_leads", "_law_layer", "_law_is_row", "_law_ends_so", "_law_due", "_law_alike"] : List String).map Str.ofString
end Tw
end

section
namespace Tw

/-! what holds after, may be weakened -/
noncomputable def MonoC (C : Ora) : Prop := ∀ f vs h (Q Q' : V → H → Prop), (∀ v h, Q v h → Q' v h) → C f vs h Q → C f vs h Q'

theorem BinW.mono {op : Bop} {a b : V} {h : H} {Q Q' : V → H → Prop} (m : ∀ v h, Q v h → Q' v h) (x : BinW op a b h Q) : BinW op a b h Q' := by
  cases op with
  | add =>
    cases a with
    | int => exact asInt.mono (fun _ x => m _ _ x) x
    | str => exact asStr.mono (fun _ x => ⟨x.1, m _ _ x.2⟩) x
    | ref => exact asRef.mono (fun _ ⟨a, b, h1, h2, h3, h4⟩ => ⟨a, b, h1, h2, h3, m _ _ h4⟩) x
    | _ => exact x
  | sub => exact asInt.mono (fun _ x => asInt.mono (fun _ x => m _ _ x) x) x
  | mul =>
    cases a with
    | int => exact asInt.mono (fun _ x => ⟨x.1, m _ _ x.2⟩) x
    | _ => exact x
  | fdiv => exact asInt.mono (fun _ x => asInt.mono (fun _ x => ⟨x.1, x.2.1, m _ _ x.2.2⟩) x) x
  | mod => exact asInt.mono (fun _ x => asInt.mono (fun _ x => ⟨x.1, m _ _ x.2⟩) x) x
theorem truth.mono {v : V} {h : H} {Q Q' : Bool → Prop} (m : ∀ b, Q b → Q' b) (x : truth v h Q) : truth v h Q' := by
  cases v with
  | none => exact m _ x
  | bool => exact m _ x
  | _ => exact x
theorem EqG.mono {a b : V} {h : H} {Q Q' : Bool → Prop} (m : ∀ b, Q b → Q' b) (x : EqG a b h Q) : EqG a b h Q' := by
  obtain ⟨d₁, d₂, h1, h2, h3, h4, h5⟩ := x; exact ⟨d₁, d₂, h1, h2, h3, h4, m _ h5⟩
theorem EqW.mono {a b : V} {h : H} {Q Q' : Bool → Prop} (m : ∀ b, Q b → Q' b) (x : EqW a b h Q) : EqW a b h Q' := by
  cases a with
  | bool => exact asBool.mono (fun _ x => m _ x) x
  | _ => exact EqG.mono m x
theorem InW.mono {a b : V} {h : H} {Q Q' : Bool → Prop} (m : ∀ b, Q b → Q' b) (x : InW a b h Q) : InW a b h Q' :=
  asRef.mono (fun n x => by
    revert x
    generalize h[n]? = o
    intro x
    match o, x with
    | some (.list _), ⟨d, ds, h1, h2, h3, h4, h5⟩ => exact ⟨d, ds, h1, h2, h3, h4, m _ h5⟩
    | some (.dict _ _), x => exact ⟨x.1, m _ x.2⟩) x
theorem SameW.mono {a b : V} {Q Q' : Bool → Prop} (m : ∀ b, Q b → Q' b) (x : SameW a b Q) : SameW a b Q' := by
  cases b with
  | none => exact m _ x
  | bool => exact asBool.mono (fun _ x => m _ x) x
  | _ => exact x
theorem CmpW.mono {op : Cmp} {a b : V} {h : H} {Q Q' : Bool → Prop} (m : ∀ b, Q b → Q' b) (x : CmpW op a b h Q) : CmpW op a b h Q' := by
  cases op with
  | eq => exact EqW.mono m x
  | ne => exact EqW.mono (fun b q => m _ q) x
  | isIn => exact InW.mono m x
  | notIn => exact InW.mono (fun b q => m _ q) x
  | is => exact SameW.mono m x
  | isNot => exact SameW.mono (fun b q => m _ q) x
  | _ => exact asInt.mono (fun _ x => asInt.mono (fun _ x => m _ x) x) x
theorem SubW.mono {a i : V} {h : H} {Q Q' : V → Prop} (m : ∀ b, Q b → Q' b) (x : SubW a i h Q) : SubW a i h Q' := by
  cases a with
  | tup => exact asInt.mono (fun _ ⟨v, h1, h2, h3⟩ => ⟨v, h1, h2, m _ h3⟩) x
  | str => exact asInt.mono (fun _ ⟨v, h1, h2, h3⟩ => ⟨v, h1, h2, m _ h3⟩) x
  | ref n =>
    revert x
    show (match h[n]? with | some (.list vs) => _ | some (.frz vs) => _ | some (.dict es _) => _ | none => _) → (match h[n]? with | some (.list vs) => _ | some (.frz vs) => _ | some (.dict es _) => _ | none => _)
    generalize h[n]? = o
    intro x
    match o, x with
    | some (.list _), x => exact asInt.mono (fun _ x => x.imp (fun ⟨v, h1, h2, h3⟩ => ⟨v, h1, h2, m _ h3⟩) fun ⟨v, h1, h2, h3⟩ => ⟨v, h1, h2, m _ h3⟩) x
    | some (.frz _), x => exact asInt.mono (fun _ ⟨v, h1, h2, h3⟩ => ⟨v, h1, h2, m _ h3⟩) x
    | some (.dict _ _), ⟨h1, v, h2, h3⟩ => exact ⟨h1, v, h2, m _ h3⟩
  | _ => exact x
theorem SliceW.mono {a lo hi : V} {h : H} {Q Q' : V → H → Prop} (m : ∀ v h, Q v h → Q' v h) (x : SliceW a lo hi h Q) : SliceW a lo hi h Q' := by
  cases a with
  | str => obtain ⟨i, j, h1, h2, h3⟩ := x; exact ⟨i, j, h1, h2, m _ _ h3⟩
  | ref => obtain ⟨vs, i, j, h1, h2, h3, h4⟩ := x; exact ⟨vs, i, j, h1, h2, h3, m _ _ h4⟩
  | _ => exact x
theorem LenW.mono {v : V} {h : H} {Q Q' : V → H → Prop} (m : ∀ v h, Q v h → Q' v h) (x : LenW v h Q) : LenW v h Q' := by
  cases v with
  | str => exact m _ _ x
  | tup => exact m _ _ x
  | ref n =>
    revert x
    unfold LenW
    dsimp only
    generalize h[n]? = o
    intro x
    match o, x with
    | some (.list _), x => exact m _ _ x
    | some (.frz _), x => exact m _ _ x
  | _ => exact x
theorem ListW.mono {v : V} {h : H} {Q Q' : V → H → Prop} (m : ∀ v h, Q v h → Q' v h) (x : ListW v h Q) : ListW v h Q' := by
  cases v with
  | rng => exact ⟨x.1, m _ _ x.2⟩
  | ref n =>
    revert x
    unfold ListW
    dsimp only
    generalize h[n]? = o
    intro x
    match o, x with
    | some (.list _), x => exact ⟨x.1, m _ _ x.2⟩
  | _ => exact x
theorem RangeW.mono {vs : List V} {h : H} {Q Q' : V → H → Prop} (m : ∀ v h, Q v h → Q' v h) (x : RangeW vs h Q) : RangeW vs h Q' := by
  match vs, x with
  | [a], x => exact asInt.mono (fun _ x => ⟨x.1, m _ _ x.2⟩) x
theorem SortW.mono {v : V} {h : H} {Q Q' : V → H → Prop} (m : ∀ v h, Q v h → Q' v h) (x : SortW v h Q) : SortW v h Q' :=
  asRef.mono (fun _ ⟨vs, h1, h2, h3⟩ => ⟨vs, h1, h2, h3.imp id fun h3 => h3.imp id fun h3 =>
    h3.imp (fun ⟨ks, h4, h5⟩ => ⟨ks, h4, fun ks' p o => m _ _ (h5 ks' p o)⟩) fun h3 =>
    h3⟩) x
theorem BiW.mono {b : Bi} {vs : List V} {h : H} {Q Q' : V → H → Prop} (m : ∀ v h, Q v h → Q' v h) (x : BiW b vs h Q) : BiW b vs h Q' := by
  cases b with
  | len => exact arg1.mono (fun _ x => LenW.mono m x) x
  | range => exact RangeW.mono m x
  | list => exact arg1.mono (fun _ x => ListW.mono m x) x
  | sorted => exact arg1.mono (fun _ x => SortW.mono m x) x
  | dict => exact x
  | int => exact arg1.mono (fun _ x => asBool.mono (fun _ x => m _ _ x) x) x
  | min => exact x
  | max => exact x
theorem IsW.mono {v : V} {t : Ty} {h : H} {Q Q' : Bool → Prop} (m : ∀ b, Q b → Q' b) (x : IsW v t h Q) : IsW v t h Q' := by
  cases v with
  | rng => exact x
  | ref n =>
    revert x
    unfold IsW
    dsimp only
    generalize h[n]? = o
    intro x
    match o, x with
    | some (.list _), x => exact m _ x
    | some (.dict _ _), x => exact m _ x
  | _ => exact m _ x
theorem MethW.mono {mt : Mt} {o : V} {as : List V} {h : H} {Q Q' : V → H → Prop} (m : ∀ v h, Q v h → Q' v h) (x : MethW mt o as h Q) : MethW mt o as h Q' := by
  cases mt with
  | append => exact asRef.mono (fun _ x => arg1.mono (fun _ ⟨vs, h1, h2, h3⟩ => ⟨vs, h1, h2, m _ _ h3⟩) x) x
  | reverse => exact asRef.mono (fun _ x => arg0.mono (fun ⟨vs, h1, h2⟩ => ⟨vs, h1, m _ _ h2⟩) x) x
  | pop => exact asRef.mono (fun _ x => arg0.mono (fun ⟨vs, v, h1, h2⟩ => ⟨vs, v, h1, m _ _ h2⟩) x) x
  | join => exact asStr.mono (fun _ x => arg1.mono (fun _ x => asRef.mono (fun _ ⟨vs, xs, h1, h2, h3, h4, h5⟩ => ⟨vs, xs, h1, h2, h3, h4, m _ _ h5⟩) x) x) x
  | startswith => exact asStr.mono (fun _ x => arg1.mono (fun _ x => asStr.mono (fun _ x => m _ _ x) x) x) x
  | _ => exact x
theorem StoreW.mono {o i v : V} {h : H} {Q Q' : H → Prop} (m : ∀ h, Q h → Q' h) (x : StoreW o i v h Q) : StoreW o i v h Q' :=
  asRef.mono (fun n x => by
    revert x
    generalize h[n]? = o
    intro x
    match o, x with
    | some (.dict _ _), x => exact ⟨x.1, x.2.1, fun ver => m _ (x.2.2 ver)⟩) x
theorem IterW.mono {v : V} {h : H} {Q Q' : It → Prop} (m : ∀ i, Q i → Q' i) (x : IterW v h Q) : IterW v h Q' := by
  cases v with
  | tup => exact m _ x
  | rng => exact m _ x
  | ref n =>
    revert x
    unfold IterW
    dsimp only
    generalize h[n]? = o
    intro x
    match o, x with
    | some (.list _), x => exact m _ x
    | some (.dict _ _), x => exact m _ x
  | _ => exact x
theorem NextW.mono {it : It} {h : H} {p p' : Prop} {Q Q' : V → It → Prop} (m : p → p') (m' : ∀ v i, Q v i → Q' v i) (x : NextW it h p Q) : NextW it h p' Q' := by
  cases it with
  | vals vs =>
    cases vs with
    | nil => exact m x
    | cons => exact m' _ _ x
  | seq n i =>
    revert x
    unfold NextW
    dsimp only
    generalize h[n]? = o
    intro x
    match o, x with
    | some (.list vs), x =>
      revert x
      dsimp only
      generalize vs[i]? = w
      intro x
      match w, x with
      | none, x => exact m x
      | some _, x => exact m' _ _ x
  | keys n ver len i =>
    revert x
    unfold NextW
    dsimp only
    generalize h[n]? = o
    intro x
    match o, x with
    | some (.dict es ver), ⟨x1, x2, x⟩ =>
      refine ⟨x1, x2, ?_⟩
      revert x
      generalize es[i]? = w
      intro x
      match w, x with
      | none, x => exact m x
      | some _, x => exact m' _ _ x
theorem bindT.mono {t : Tgt} {v : V} {ρ : Rho} {Q Q' : Rho → Prop} (m : ∀ r, Q r → Q' r) (x : bindT t v ρ Q) : bindT t v ρ Q' := by
  cases t with
  | name => exact m _ x
  | tup is => exact asTup.mono (fun _ x => ⟨x.1, m _ x.2⟩) x

noncomputable def MonoB (body : V → Rho → H → (Out → Rho → H → Prop) → Prop) : Prop := ∀ v ρ h Q Q', (∀ o r h, Q o r h → Q' o r h) → body v ρ h Q → body v ρ h Q'
noncomputable def MonoT (test : Rho → H → (Bool → H → Prop) → Prop) : Prop := ∀ ρ h Q Q', (∀ b h, Q b h → Q' b h) → test ρ h Q → test ρ h Q'
noncomputable def MonoS (body : Rho → H → (Out → Rho → H → Prop) → Prop) : Prop := ∀ ρ h Q Q', (∀ o r h, Q o r h → Q' o r h) → body ρ h Q → body ρ h Q'
noncomputable def MonoK (turn : V → H → (Option V → H → Prop) → Prop) : Prop := ∀ v h Q Q', (∀ o h, Q o h → Q' o h) → turn v h Q → turn v h Q'

theorem forN_mono {body : V → Rho → H → (Out → Rho → H → Prop) → Prop} (hb : MonoB body) {Q Q' : Out → Rho → H → Prop} (m : ∀ o r h, Q o r h → Q' o r h) : ∀ f it ρ h, forN body f it ρ h Q → forN body f it ρ h Q'
  | 0, _, _, _, x => x
  | f + 1, it, ρ, h, x => NextW.mono (m _ _ _) (fun v i y => hb _ _ _ _ _ (fun o r h z => by cases o with | next => exact forN_mono hb m f _ _ _ z | ret v => exact m _ _ _ z) y) x
theorem whileN_mono {test : Rho → H → (Bool → H → Prop) → Prop} {body : Rho → H → (Out → Rho → H → Prop) → Prop} (ht : MonoT test) (hb : MonoS body) {Q Q' : Out → Rho → H → Prop} (m : ∀ o r h, Q o r h → Q' o r h) : ∀ f ρ h, whileN test body f ρ h Q → whileN test body f ρ h Q'
  | 0, _, _, x => x
  | f + 1, ρ, h, x => ht _ _ _ _ (fun b h y => by
      cases b with
      | true => exact hb _ _ _ _ (fun o r h z => by cases o with | next => exact whileN_mono ht hb m f _ _ z | ret v => exact m _ _ _ z) y
      | false => exact m _ _ _ y) x
theorem compN_mono {turn : V → H → (Option V → H → Prop) → Prop} (ht : MonoK turn) {Q Q' : List V → H → Prop} (m : ∀ o h, Q o h → Q' o h) : ∀ f it h out, compN turn f it h out Q → compN turn f it h out Q'
  | 0, _, _, _, x => x
  | f + 1, it, h, out, x => NextW.mono (m _ _) (fun v i y => ht _ _ _ _ (fun o h z => by
      cases o with
      | some w => exact ⟨z.1, compN_mono ht m f _ _ _ z.2⟩
      | none => exact compN_mono ht m f _ _ _ z) y) x

section
variable {C : Ora}
mutual
theorem wpE_mono (hC : MonoC C) : ∀ (e : E) {ρ : Rho} {h : H} {Q Q' : V → H → Prop}, (∀ v h, Q v h → Q' v h) → wpE C e ρ h Q → wpE C e ρ h Q'
  | .lit v, ρ, h, Q, Q', m, x => m _ _ x
  | .var i, ρ, h, Q, Q', m, x => vK.mono (fun _ y => m _ _ y) x
  | .bin op a b, ρ, h, Q, Q', m, x => wpE_mono hC a (fun v h y => wpE_mono hC b (fun v h z => BinW.mono m z) y) x
  | .neg a, ρ, h, Q, Q', m, x => wpE_mono hC a (fun v h y => asInt.mono (fun _ x => m _ _ x) y) x
  | .not a, ρ, h, Q, Q', m, x => wpE_mono hC a (fun v h y => truth.mono (fun b z => m _ _ z) y) x
  | .and a b, ρ, h, Q, Q', m, x => wpE_mono hC a (fun v h y => truth.mono (fun t z => by cases t with | true => exact wpE_mono hC b m z | false => exact m _ _ z) y) x
  | .or a b, ρ, h, Q, Q', m, x => wpE_mono hC a (fun v h y => truth.mono (fun t z => by cases t with | true => exact m _ _ z | false => exact wpE_mono hC b m z) y) x
  | .cmp op a b, ρ, h, Q, Q', m, x => wpE_mono hC a (fun v h y => wpE_mono hC b (fun v h z => CmpW.mono (fun r w => m _ _ w) z) y) x
  | .cmp2 op1 op2 a b c, ρ, h, Q, Q', m, x => wpE_mono hC a (fun v h y => wpE_mono hC b (fun v h z => CmpW.mono (fun r w => by
      cases r with
      | true => exact wpE_mono hC c (fun v h u => CmpW.mono (fun r w => m _ _ w) u) w
      | false => exact m _ _ w) z) y) x
  | .sub a i, ρ, h, Q, Q', m, x => wpE_mono hC a (fun v h y => wpE_mono hC i (fun v h z => SubW.mono (fun v w => m _ _ w) z) y) x
  | .slice a lo hi, ρ, h, Q, Q', m, x => wpE_mono hC a (fun v h y => wpE_mono hC lo (fun v h z => wpE_mono hC hi (fun v h w => SliceW.mono m w) z) y) x
  | .tup es, ρ, h, Q, Q', m, x => wpEs_mono hC es (fun vs h y => m _ _ y) x
  | .list es, ρ, h, Q, Q', m, x => wpEs_mono hC es (fun vs h y => m _ _ y) x
  | .dict0, ρ, h, Q, Q', m, x => fun ver => m _ _ (x ver)
  | .dict1 k v, ρ, h, Q, Q', m, x => wpE_mono hC k (fun _ h y => wpE_mono hC v (fun _ h z => ⟨z.1, fun ver => m _ _ (z.2 ver)⟩) y) x
  | .comp elt tgt iter cond, ρ, h, Q, Q', m, x => wpE_mono hC iter (fun v h y => IterW.mono (fun i z => by
      obtain ⟨f, z⟩ := z
      refine ⟨f, compN_mono ?_ ?_ _ _ _ _ z⟩
      · intro v h K K' mk w
        refine bindT.mono (fun r u => ?_) w
        refine wpO_mono hC cond (fun b h t => ?_) u
        cases b with
        | true => exact wpE_mono hC elt (fun v h q => mk _ _ q) t
        | false => exact mk _ _ t
      · intro o h w; exact m _ _ w) y) x
  | .call f args, ρ, h, Q, Q', m, x => wpEs_mono hC args (fun vs h y => hC _ _ _ _ _ m y) x
  | .bi b args, ρ, h, Q, Q', m, x => wpEs_mono hC args (fun vs h y => BiW.mono m y) x
  | .isinst a t, ρ, h, Q, Q', m, x => wpE_mono hC a (fun v h y => IsW.mono (fun r z => m _ _ z) y) x
  | .meth mt o args, ρ, h, Q, Q', m, x => wpE_mono hC o (fun v h y => ⟨y.1, wpEs_mono hC args (fun vs h z => MethW.mono m z) y.2⟩) x
theorem wpEs_mono (hC : MonoC C) : ∀ (es : List E) {ρ : Rho} {h : H} {Q Q' : List V → H → Prop}, (∀ v h, Q v h → Q' v h) → wpEs C es ρ h Q → wpEs C es ρ h Q'
  | [], ρ, h, Q, Q', m, x => m _ _ x
  | e :: es, ρ, h, Q, Q', m, x => wpE_mono hC e (fun v h y => wpEs_mono hC es (fun vs h z => m _ _ z) y) x
theorem wpO_mono (hC : MonoC C) : ∀ (e : Option E) {ρ : Rho} {h : H} {Q Q' : Bool → H → Prop}, (∀ v h, Q v h → Q' v h) → wpO C e ρ h Q → wpO C e ρ h Q'
  | none, ρ, h, Q, Q', m, x => m _ _ x
  | some e, ρ, h, Q, Q', m, x => wpT_mono hC e m x
theorem wpT_mono (hC : MonoC C) : ∀ (e : E) {ρ : Rho} {h : H} {Q Q' : Bool → H → Prop}, (∀ v h, Q v h → Q' v h) → wpT C e ρ h Q → wpT C e ρ h Q'
  | .not a, ρ, h, Q, Q', m, x => wpT_mono hC a (fun b h y => m _ _ y) x
  | .and a b, ρ, h, Q, Q', m, x => wpT_mono hC a (fun t h y => by cases t with | true => exact wpT_mono hC b m y | false => exact m _ _ y) x
  | .or a b, ρ, h, Q, Q', m, x => wpT_mono hC a (fun t h y => by cases t with | true => exact m _ _ y | false => exact wpT_mono hC b m y) x
  | .cmp op a b, ρ, h, Q, Q', m, x => wpE_mono hC a (fun v h y => wpE_mono hC b (fun v h z => CmpW.mono (fun r w => m _ _ w) z) y) x
  | .cmp2 op1 op2 a b c, ρ, h, Q, Q', m, x => wpE_mono hC a (fun v h y => wpE_mono hC b (fun v h z => CmpW.mono (fun r w => by
      cases r with
      | true => exact wpE_mono hC c (fun v h u => CmpW.mono (fun r w => m _ _ w) u) w
      | false => exact m _ _ w) z) y) x
  | .lit v, ρ, h, Q, Q', m, x => truth.mono (fun b y => m _ _ y) x
  | .var i, ρ, h, Q, Q', m, x => vK.mono (fun _ y => truth.mono (fun b y => m _ _ y) y) x
  | .call f args, ρ, h, Q, Q', m, x => wpEs_mono hC args (fun vs h y => hC _ _ _ _ _ (fun v h z => truth.mono (fun b w => m _ _ w) z) y) x
  | .isinst a t, ρ, h, Q, Q', m, x => wpE_mono hC a (fun v h y => IsW.mono (fun r z => m _ _ z) y) x
  | .meth mt o args, ρ, h, Q, Q', m, x => wpE_mono hC o (fun v h y => ⟨y.1, wpEs_mono hC args (fun vs h z => MethW.mono (fun v h w => truth.mono (fun b u => m _ _ u) w) z) y.2⟩) x
  | .bin .., _, _, _, _, _, x => x
  | .neg .., _, _, _, _, _, x => x
  | .sub .., _, _, _, _, _, x => x
  | .slice .., _, _, _, _, _, x => x
  | .tup .., _, _, _, _, _, x => x
  | .list .., _, _, _, _, _, x => x
  | .dict0, _, _, _, _, _, x => x
  | .dict1 .., _, _, _, _, _, x => x
  | .comp .., _, _, _, _, _, x => x
  | .bi .., _, _, _, _, _, x => x
end
mutual
theorem wpS_mono (hC : MonoC C) : ∀ (e : S) {ρ : Rho} {h : H} {Q Q' : Out → Rho → H → Prop}, (∀ o r h, Q o r h → Q' o r h) → wpS C e ρ h Q → wpS C e ρ h Q'
  | .assign t e, ρ, h, Q, Q', m, x => wpE_mono hC e (fun v h y => bindT.mono (fun r z => m _ _ _ z) y) x
  | .store o i e, ρ, h, Q, Q', m, x => wpE_mono hC e (fun v h y => wpE_mono hC o (fun v h z => wpE_mono hC i (fun v h w => StoreW.mono (fun h u => m _ _ _ u) w) z) y) x
  | .expr e, ρ, h, Q, Q', m, x => wpE_mono hC e (fun v h y => m _ _ _ y) x
  | .ite t a b, ρ, h, Q, Q', m, x => wpT_mono hC t (fun c h y => by cases c with | true => exact wpB_mono hC a m y | false => exact wpB_mono hC b m y) x
  | .while t b, ρ, h, Q, Q', m, x => by
      obtain ⟨f, x⟩ := x
      refine ⟨f, whileN_mono ?_ ?_ m _ _ _ x⟩
      · intro ρ h Q Q' m x; exact wpT_mono hC t m x
      · intro ρ h Q Q' m x; exact wpB_mono hC b m x
  | .for t it b, ρ, h, Q, Q', m, x => wpE_mono hC it (fun v h y => IterW.mono (fun i z => by
      obtain ⟨f, z⟩ := z
      refine ⟨f, forN_mono ?_ m _ _ _ _ z⟩
      intro v ρ h Q Q' m x
      refine bindT.mono (fun r y => ?_) x
      exact wpB_mono hC b m y) y) x
  | .ret none, ρ, h, Q, Q', m, x => m _ _ _ x
  | .ret (some e), ρ, h, Q, Q', m, x => wpE_mono hC e (fun v h y => m _ _ _ y) x
  | .raise, ρ, h, Q, Q', m, x => x
theorem wpB_mono (hC : MonoC C) : ∀ (e : List S) {ρ : Rho} {h : H} {Q Q' : Out → Rho → H → Prop}, (∀ o r h, Q o r h → Q' o r h) → wpB C e ρ h Q → wpB C e ρ h Q'
  | [], ρ, h, Q, Q', m, x => m _ _ _ x
  | s :: r, ρ, h, Q, Q', m, x => wpS_mono hC s (fun o ρ h y => by cases o with | next => exact wpB_mono hC r m y | ret v => exact m _ _ _ y) x
end
end

theorem calls_mono {Φ : Nat → Option Fn} : ∀ d, MonoC (Calls Φ d)
  | 0 => fun _ _ _ _ _ _ x => x
  | d + 1 => fun f vs h Q Q' m x => by
    obtain ⟨fn, h1, h2, h3⟩ := x
    exact ⟨fn, h1, h2, wpB_mono (calls_mono d) _ (fun o r h y => m _ _ y) h3⟩

/-! loops with an invariant -/
/-- an iterator that goes through a list, as long as K holds of the heap -/
noncomputable def Goes (it : Nat → It) (vs : List V) (K : H → Prop) : Prop := ∀ i h (stop : Prop) (item : V → It → Prop), K h → (match vs[i]? with | none => stop | some v => item v (it (i + 1))) → NextW (it i) h stop item
theorem goes_vals (vs : List V) : Goes (fun i => .vals (vs.drop i)) vs fun _ => True := by
  intro i h stop item _ x
  dsimp only at x ⊢
  by_cases hi : i < vs.length
  · rw [List.getElem?_eq_getElem hi] at x; rw [List.drop_eq_getElem_cons hi]; exact x
  · rw [List.getElem?_eq_none (by omega)] at x; rw [List.drop_of_length_le (show vs.length ≤ i by omega)]; exact x
theorem goes_seq (n : Nat) (vs : List V) : Goes (fun i => .seq n i) vs fun h => h[n]? = some (.list vs) := by
  intro i h stop item hk x
  unfold NextW
  dsimp only
  rw [hk]
  exact x
theorem goes_keys (n ver : Nat) (es : List (V × V)) : Goes (fun i => .keys n ver es.length i) (es.map (·.1)) fun h => h[n]? = some (.dict es ver) := by
  intro i h stop item hk x
  unfold NextW
  dsimp only
  rw [hk]
  refine ⟨rfl, rfl, ?_⟩
  rw [List.getElem?_map] at x
  cases hv : es[i]? with
  | none => rw [hv] at x; exact x
  | some e => rw [hv] at x; exact x
theorem forN_it {body : V → Rho → H → (Out → Rho → H → Prop) → Prop} (hb : MonoB body) {Q : Out → Rho → H → Prop} {it : Nat → It} {vs : List V} {K : H → Prop} (g : Goes it vs K) (I : Nat → Rho → H → Prop)
    (hl : ∀ i ρ h, I i ρ h → K h) (step : ∀ i v ρ h, vs[i]? = some v → I i ρ h → body v ρ h fun o ρ' h' => match o with | .next => I (i + 1) ρ' h' | .ret w => Q (.ret w) ρ' h')
    (fin : ∀ ρ h, I vs.length ρ h → Q .next ρ h) : ∀ (f i : Nat) ρ h, i ≤ vs.length → vs.length < f + i → I i ρ h → forN body f (it i) ρ h Q
  | 0, i, _, _, h1, h2, _ => by omega
  | f + 1, i, ρ, h, h1, h2, hI => by
    refine g i h _ _ (hl i ρ h hI) ?_
    by_cases hi : i < vs.length
    · rw [List.getElem?_eq_getElem hi]
      refine hb _ _ _ _ _ (fun o ρ' h' y => ?_) (step i vs[i] ρ h (List.getElem?_eq_getElem hi) hI)
      cases o with
      | ret w => exact y
      | next => exact forN_it hb g I hl step fin f (i + 1) ρ' h' (by omega) (by omega) y
    · have : i = vs.length := by omega
      subst this
      rw [List.getElem?_eq_none (Nat.le_refl _)]
      exact fin ρ h hI
theorem for_it {body : V → Rho → H → (Out → Rho → H → Prop) → Prop} (hb : MonoB body) {Q : Out → Rho → H → Prop} {it : Nat → It} {vs : List V} {K : H → Prop} (g : Goes it vs K) {ρ : Rho} {h : H} (I : Nat → Rho → H → Prop) (h0 : I 0 ρ h)
    (hl : ∀ i ρ h, I i ρ h → K h) (step : ∀ i v ρ h, vs[i]? = some v → I i ρ h → body v ρ h fun o ρ' h' => match o with | .next => I (i + 1) ρ' h' | .ret w => Q (.ret w) ρ' h')
    (fin : ∀ ρ h, I vs.length ρ h → Q .next ρ h) : ∃ f, forN body f (it 0) ρ h Q := ⟨vs.length + 1, forN_it hb g I hl step fin _ 0 ρ h (Nat.zero_le _) (by omega) h0⟩

theorem while_inv {test : Rho → H → (Bool → H → Prop) → Prop} {body : Rho → H → (Out → Rho → H → Prop) → Prop} (ht : MonoT test) (hb : MonoS body) {Q : Out → Rho → H → Prop} (I : Nat → Rho → H → Prop)
    (step : ∀ n ρ h, I n ρ h → test ρ h fun b h' => match b with
      | true => body ρ h' fun o ρ'' h'' => match o with | .next => ∃ m, m < n ∧ I m ρ'' h'' | .ret w => Q (.ret w) ρ'' h''
      | false => Q .next ρ h') : ∀ (n : Nat) ρ h, I n ρ h → ∃ f, whileN test body f ρ h Q := by
  have key : ∀ (n f : Nat) ρ h, n < f → I n ρ h → whileN test body f ρ h Q := by
    intro n
    induction n using Nat.strongRecOn with
    | ind n ih =>
      intro f ρ h hf hI
      cases f with
      | zero => omega
      | succ f =>
        refine ht _ _ _ _ (fun b h' y => ?_) (step n ρ h hI)
        cases b with
        | false => exact y
        | true =>
          refine hb _ _ _ _ (fun o ρ'' h'' z => ?_) y
          cases o with
          | ret w => exact z
          | next => obtain ⟨m, hm, hI'⟩ := z; exact ih m hm f ρ'' h'' (by omega) hI'
  exact fun n ρ h hI => ⟨n + 1, key n (n + 1) ρ h (by omega) hI⟩

theorem compN_it {turn : V → H → (Option V → H → Prop) → Prop} (ht : MonoK turn) {Q : List V → H → Prop} {it : Nat → It} {vs : List V} {K : H → Prop} (g : Goes it vs K) (I : Nat → List V → H → Prop) (hl : ∀ i out h, I i out h → K h)
    (step : ∀ i v out h, vs[i]? = some v → I i out h → turn v h fun o h' => match o with | some x => out.length < SZ ∧ I (i + 1) (out ++ [x]) h' | none => I (i + 1) out h')
    (fin : ∀ out h, I vs.length out h → Q out h) : ∀ (f i : Nat) out h, i ≤ vs.length → vs.length < f + i → I i out h → compN turn f (it i) h out Q
  | 0, i, _, _, h1, h2, _ => by omega
  | f + 1, i, out, h, h1, h2, hI => by
    refine g i h _ _ (hl i out h hI) ?_
    by_cases hi : i < vs.length
    · rw [List.getElem?_eq_getElem hi]
      refine ht _ _ _ _ (fun o h' y => ?_) (step i vs[i] out h (List.getElem?_eq_getElem hi) hI)
      cases o with
      | some x => exact ⟨y.1, compN_it ht g I hl step fin f (i + 1) _ h' (by omega) (by omega) y.2⟩
      | none => exact compN_it ht g I hl step fin f (i + 1) _ h' (by omega) (by omega) y
    · have : i = vs.length := by omega
      subst this
      rw [List.getElem?_eq_none (Nat.le_refl _)]
      exact fin out h hI
theorem comp_it {turn : V → H → (Option V → H → Prop) → Prop} (ht : MonoK turn) {Q : List V → H → Prop} {it : Nat → It} {vs : List V} {K : H → Prop} (g : Goes it vs K) {h : H} (I : Nat → List V → H → Prop) (h0 : I 0 [] h) (hl : ∀ i out h, I i out h → K h)
    (step : ∀ i v out h, vs[i]? = some v → I i out h → turn v h fun o h' => match o with | some x => out.length < SZ ∧ I (i + 1) (out ++ [x]) h' | none => I (i + 1) out h') (fin : ∀ out h, I vs.length out h → Q out h) : ∃ f, compN turn f (it 0) h [] Q :=
  ⟨vs.length + 1, compN_it ht g I hl step fin _ 0 [] h (Nat.zero_le _) (by omega) h0⟩
end Tw
end

section
namespace Tw

theorem iter_list {n : Nat} {vs : List V} {h : H} {Q : It → Prop} (x : h[n]? = some (.list vs)) (q : Q (.seq n 0)) : IterW (.ref n) h Q := by
  unfold IterW; dsimp only; rw [x]; exact q
theorem iter_dict {n : Nat} {es : List (V × V)} {ver : Nat} {h : H} {Q : It → Prop} (x : h[n]? = some (.dict es ver)) (q : Q (.keys n ver es.length 0)) : IterW (.ref n) h Q := by
  unfold IterW; dsimp only; rw [x]; exact q

/-! rules, statement by statement -/
section
variable {C : Ora} {ρ : Rho} {h : H} {Q : Out → Rho → H → Prop} {r : List S}
theorem B_expr {e : E} (x : wpE C e ρ h fun _ h₁ => wpB C r ρ h₁ Q) : wpB C (.expr e :: r) ρ h Q := x
theorem B_store {o i e : E} (x : wpE C e ρ h fun v h₁ => wpE C o ρ h₁ fun vo h₂ => wpE C i ρ h₂ fun vi h₃ => StoreW vo vi v h₃ fun h₄ => wpB C r ρ h₄ Q) : wpB C (.store o i e :: r) ρ h Q := x
theorem B_ret {e : E} (x : wpE C e ρ h fun v h₁ => Q (.ret v) ρ h₁) : wpB C (.ret (some e) :: r) ρ h Q := x
/-- what comes behind a block -/
noncomputable def thenB (C : Ora) (r : List S) (Q : Out → Rho → H → Prop) : Out → Rho → H → Prop := fun o ρ h => match o with
  | .next => wpB C r ρ h Q
  | .ret v => Q (.ret v) ρ h
theorem B_ite {t : E} {a b : List S} (x : wpT C t ρ h fun c h₁ => match c with | true => wpB C a ρ h₁ (thenB C r Q) | false => wpB C b ρ h₁ (thenB C r Q)) : wpB C (.ite t a b :: r) ρ h Q := x

variable (hC : MonoC C)
include hC
theorem B_for_it {t : Tgt} {e : E} {b : List S} {it : Nat → It} {vs : List V} {K : H → Prop} (g : Goes it vs K) (I : Nat → Rho → H → Prop) (hit : wpE C e ρ h fun v h₁ => (∀ Q : It → Prop, Q (it 0) → IterW v h₁ Q) ∧ I 0 ρ h₁) (hl : ∀ i ρ h, I i ρ h → K h)
    (step : ∀ i v ρ h, vs[i]? = some v → I i ρ h → bindT t v ρ fun ρ' => wpB C b ρ' h fun o ρ' h' => match o with | .next => I (i + 1) ρ' h' | .ret w => Q (.ret w) ρ' h') (fin : ∀ ρ h, I vs.length ρ h → wpB C r ρ h Q) : wpB C (.for t e b :: r) ρ h Q := by
  refine wpE_mono hC e (fun v h₁ ⟨hv, hI⟩ => hv _ ?_) hit
  have mb : MonoB (fun v ρ h k => bindT t v ρ fun ρ' => wpB C b ρ' h k) := by intro v ρ h Q Q' m x; exact bindT.mono (fun r y => wpB_mono hC b m y) x
  have : ∃ f, forN (fun v ρ h k => bindT t v ρ fun ρ' => wpB C b ρ' h k) f (it 0) ρ h₁ (thenB C r Q) := by
    refine for_it mb g I hI hl ?_ fin
    intro i v ρ h hv hI
    refine bindT.mono (fun r y => ?_) (step i v ρ h hv hI)
    exact wpB_mono hC b (fun o _ _ z => by cases o <;> exact z) y
  exact this
theorem B_while {t : E} {b : List S} (I : Nat → Rho → H → Prop) (n : Nat) (h0 : I n ρ h)
    (step : ∀ n ρ h, I n ρ h → wpT C t ρ h fun c h₁ => match c with
      | true => wpB C b ρ h₁ fun o ρ' h' => match o with | .next => ∃ m, m < n ∧ I m ρ' h' | .ret w => Q (.ret w) ρ' h'
      | false => wpB C r ρ h₁ Q) : wpB C (.while t b :: r) ρ h Q := by
  have : ∃ f, whileN (fun ρ h k => wpT C t ρ h k) (fun ρ h k => wpB C b ρ h k) f ρ h (thenB C r Q) := by
    have mt : MonoT (fun ρ h k => wpT C t ρ h k) := by intro ρ h Q Q' m x; exact wpT_mono hC t m x
    have mb : MonoS (fun ρ h k => wpB C b ρ h k) := by intro ρ h Q Q' m x; exact wpB_mono hC b m x
    refine while_inv mt mb I (fun n ρ h hI => ?_) n ρ h h0
    refine wpT_mono hC t (fun c h₁ y => ?_) (step n ρ h hI)
    cases c with
    | true => exact wpB_mono hC b (fun o _ _ z => by cases o <;> exact z) y
    | false => exact y
  exact this
end

section
variable {C : Ora} {ρ : Rho} {h : H} {Q : V → H → Prop} (hC : MonoC C)
include hC
theorem turn_mono {elt : E} {tgt : Tgt} {cond : Option E} : MonoK (fun v h k => bindT tgt v ρ fun ρ' => wpO C cond ρ' h fun b h₂ => match b with
        | true => wpE C elt ρ' h₂ fun x h₃ => k (some x) h₃
        | false => k none h₂) := fun v h K K' mk w => bindT.mono (fun r u => wpO_mono hC cond (fun b h t => by
        cases b with
        | true => exact wpE_mono hC elt (fun v h q => mk _ _ q) t
        | false => exact mk _ _ t) u) w
theorem E_comp_it {elt e : E} {tgt : Tgt} {cond : Option E} {it : Nat → It} {vs : List V} {K : H → Prop} (g : Goes it vs K) (I : Nat → List V → H → Prop) (hit : wpE C e ρ h fun v h₁ => (∀ Q : It → Prop, Q (it 0) → IterW v h₁ Q) ∧ I 0 [] h₁) (hl : ∀ i out h, I i out h → K h)
    (step : ∀ i v out h, vs[i]? = some v → I i out h → bindT tgt v ρ fun ρ' => wpO C cond ρ' h fun b h₂ => match b with | true => wpE C elt ρ' h₂ fun x h₃ => out.length < SZ ∧ I (i + 1) (out ++ [x]) h₃ | false => I (i + 1) out h₂)
    (fin : ∀ out h, I vs.length out h → Q (.ref h.length) (h ++ [.list out])) : wpE C (.comp elt tgt e cond) ρ h Q := by
  refine wpE_mono hC e (fun v h₁ ⟨hv, hI⟩ => hv _ ?_) hit
  exact comp_it (turn_mono hC) g I hI hl (fun i v out h hv hI => bindT.mono (fun r u => wpO_mono hC cond (fun b h t => by cases b <;> exact t) u) (step i v out h hv hI)) fin
end

/-! ranges -/
theorem ints_get : ∀ (n : Nat) (a c : Int) (i : Nat), (intsV a c n)[i]? = if i < n then some (.int (a + i * c)) else none
  | 0, a, c, i => by simp [intsV]
  | n + 1, a, c, 0 => by simp [intsV]
  | n + 1, a, c, i + 1 => by
    rw [intsV, List.getElem?_cons_succ, ints_get n]
    by_cases h : i < n
    · simp [h]; grind
    · simp [h]
theorem rangeV_nat (n : Nat) : rangeV 0 n 1 = intsV 0 1 n := by
  unfold rangeV rangeLen
  by_cases h : (0 : Int) < n
  · rw [if_pos h]; congr 1; omega
  · rw [if_neg h]; congr 1; omega
end Tw
end

section
namespace Tw

/-! each operator at values of a known kind -/
section
variable {h : H} {Q : V → H → Prop} {P : Bool → Prop} {R : V → Prop} {n : Nat} {vs : List V}
theorem x_addi {a b : Int} : BinW .add (.int a) (.int b) h Q = Q (.int (a + b)) h := rfl
theorem x_adds {a b : List Nat} : BinW .add (.str a) (.str b) h Q = (a.length + b.length ≤ SZ ∧ Q (.str (a ++ b)) h) := rfl
theorem x_addl {m : Nat} {ws : List V} (h1 : h[n]? = some (.list vs)) (h2 : h[m]? = some (.list ws)) : BinW .add (.ref n) (.ref m) h Q = (vs.length + ws.length ≤ SZ ∧ Q (.ref h.length) (h ++ [.list (vs ++ ws)])) :=
  propext ⟨fun ⟨a, b, g1, g2, g⟩ => by rw [h1] at g1; rw [h2] at g2; cases g1; cases g2; exact g, fun g => ⟨vs, ws, h1, h2, g⟩⟩
theorem x_subi {a b : Int} : BinW .sub (.int a) (.int b) h Q = Q (.int (a - b)) h := rfl
theorem x_muli {a b : Int} : BinW .mul (.int a) (.int b) h Q = (mulOk a b ∧ Q (.int (a * b)) h) := rfl
theorem x_fdiv {a b : Int} : BinW .fdiv (.int a) (.int b) h Q = (b ≠ 0 ∧ b.natAbs < 1073741824 ∧ Q (.int (a.fdiv b)) h) := rfl
theorem x_mod {a b : Int} : BinW .mod (.int a) (.int b) h Q = (b ≠ 0 ∧ Q (.int (a.fmod b)) h) := rfl
theorem x_tb {b : Bool} : truth (.bool b) h P = P b := rfl
theorem x_tn : truth .none h P = P false := rfl
theorem x_eqG {a b : V} {d₁ d₂ : D} {p : Prop} [Decidable p] (h1 : Snap h a d₁) (h2 : Snap h b d₂) (u1 : ∀ d, Snap h a d → d = d₁) (u2 : ∀ d, Snap h b d → d = d₂) (o1 : D.ok 9 d₁ = true) (o2 : D.ok 9 d₂ = true) (hp : (d₁ = d₂) ↔ p) : EqG a b h P = P (decide p) :=
  have e : decide (d₁ = d₂) = decide p := decide_eq_decide.mpr hp
  propext ⟨fun ⟨x, y, s1, s2, _, _, q⟩ => by rw [u1 x s1, u2 y s2, e] at q; exact q, fun q => ⟨d₁, d₂, h1, h2, o1, o2, by rw [e]; exact q⟩⟩
theorem sn_int {a : Int} {d : D} (x : Snap h (.int a) d) : d = .int a := by cases x; rfl
theorem sn_str {a : List Nat} {d : D} (x : Snap h (.str a) d) : d = .str a := by cases x; rfl
theorem D_int {a b : Int} : (D.int a = D.int b) ↔ a = b := ⟨fun h => D.int.inj h, fun h => h ▸ rfl⟩
theorem D_str {a b : List Nat} : (D.str a = D.str b) ↔ a = b := ⟨fun h => D.str.inj h, fun h => h ▸ rfl⟩
theorem x_eqi {a b : Int} : CmpW .eq (.int a) (.int b) h P = P (decide (a = b)) := x_eqG (.int _) (.int _) (fun _ => sn_int) (fun _ => sn_int) rfl rfl D_int
theorem x_eqs {a b : List Nat} : CmpW .eq (.str a) (.str b) h P = P (decide (a = b)) := x_eqG (.str _) (.str _) (fun _ => sn_str) (fun _ => sn_str) rfl rfl D_str
theorem x_eqb {a b : Bool} : CmpW .eq (.bool a) (.bool b) h P = P (decide (a = b)) := rfl
theorem x_nei {a b : Int} : CmpW .ne (.int a) (.int b) h P = P (!decide (a = b)) := x_eqi (P := fun r => P (!r))
theorem x_nes {a b : List Nat} : CmpW .ne (.str a) (.str b) h P = P (!decide (a = b)) := x_eqs (P := fun r => P (!r))
theorem x_lt {a b : Int} : CmpW .lt (.int a) (.int b) h P = P (decide (a < b)) := rfl
theorem x_le {a b : Int} : CmpW .le (.int a) (.int b) h P = P (decide (a ≤ b)) := rfl
theorem x_gt {a b : Int} : CmpW .gt (.int a) (.int b) h P = P (decide (b < a)) := rfl
theorem x_ge {a b : Int} : CmpW .ge (.int a) (.int b) h P = P (decide (b ≤ a)) := rfl
theorem x_isn {a : V} : CmpW .is a .none h P = P (decide (a = .none)) := rfl
theorem x_isnn {a : V} : CmpW .isNot a .none h P = P (!decide (a = .none)) := rfl
theorem x_isb {a b : Bool} : CmpW .is (.bool a) (.bool b) h P = P (decide (a = b)) := rfl
theorem x_isnb {a b : Bool} : CmpW .isNot (.bool a) (.bool b) h P = P (!decide (a = b)) := rfl
theorem x_eqd {a b : V} {d₁ d₂ : D} (h1 : Snap h a d₁) (h2 : Snap h b d₂) (h3 : D.ok 9 d₁ = true) (h4 : D.ok 9 d₂ = true) (x : P (decide (d₁ = d₂))) : EqW a b h P := by
  cases a with
  | bool => cases h1; cases h3
  | _ => exact ⟨d₁, d₂, h1, h2, h3, h4, x⟩
theorem x_in (P : Bool → Prop) {a : V} : InW a (.ref n) h P = (match h[n]? with
    | some (.list vs) => ∃ d ds, Snap h a d ∧ Snaps h vs ds ∧ D.ok 9 d = true ∧ (∀ d ∈ ds, D.ok 9 d = true) ∧ P (decide (d ∈ ds))
    | some (.dict es _) => a.isKey = true ∧ P (decide (a ∈ es.map (·.1)))
    | some (.frz _) => False
    | none => False) := rfl
theorem x_ind {a : V} {es : List (V × V)} {ver : Nat} (h1 : h[n]? = some (.dict es ver)) : CmpW .isIn a (.ref n) h P = (a.isKey = true ∧ P (decide (a ∈ es.map (·.1)))) := by
  show InW _ _ _ _ = _
  rw [x_in, h1]
theorem x_nid {a : V} {es : List (V × V)} {ver : Nat} (h1 : h[n]? = some (.dict es ver)) : CmpW .notIn a (.ref n) h P = (a.isKey = true ∧ P (!decide (a ∈ es.map (·.1)))) := by
  show InW a (.ref n) h (fun r => P (!r)) = _
  rw [x_in, h1]
theorem x_inl {a : V} (h1 : h[n]? = some (.list vs)) : CmpW .isIn a (.ref n) h P = ∃ d ds, Snap h a d ∧ Snaps h vs ds ∧ D.ok 9 d = true ∧ (∀ d ∈ ds, D.ok 9 d = true) ∧ P (decide (d ∈ ds)) := by
  show InW _ _ _ _ = _
  rw [x_in, h1]
theorem st_ex {k : Int} {v : V} (h0 : 0 ≤ k ∧ k < 2 ^ 62) (h1 : vs[k.toNat]? = some v) : SubW (.tup vs) (.int k) h R = R v := propext ⟨fun ⟨w, _, e, q⟩ => by rw [h1] at e; cases e; exact q, fun q => ⟨v, h0, h1, q⟩⟩
theorem x_st0 {a : V} {l : List V} : SubW (.tup (a :: l)) (.int 0) h R = R a := st_ex (by decide) rfl
theorem x_st1 {a b : V} {l : List V} : SubW (.tup (a :: b :: l)) (.int 1) h R = R b := st_ex (by decide) rfl
theorem x_st2 {a b c : V} {l : List V} : SubW (.tup (a :: b :: c :: l)) (.int 2) h R = R c := st_ex (by decide) rfl
theorem x_st3 {a b c d : V} {l : List V} : SubW (.tup (a :: b :: c :: d :: l)) (.int 3) h R = R d := st_ex (by decide) rfl
theorem x_ss {s : List Nat} {k : Int} : SubW (.str s) (.int k) h R = ∃ c, (0 ≤ k ∧ k < 2 ^ 62) ∧ s[k.toNat]? = some c ∧ R (.str [c]) := rfl
theorem x_sub {i : V} : SubW (.ref n) i h R = (match h[n]? with
    | some (.list vs) => asInt i fun k => (∃ v, (0 ≤ k ∧ k < 2 ^ 62) ∧ vs[k.toNat]? = some v ∧ R v) ∨ (∃ v, k = -1 ∧ vs.getLast? = some v ∧ R v)
    | some (.frz vs) => asInt i fun k => ∃ v, (0 ≤ k ∧ k < 2 ^ 62) ∧ vs[k.toNat]? = some v ∧ R v
    | some (.dict es _) => i.isKey = true ∧ ∃ v, dget es i = some v ∧ R v
    | none => False) := rfl
theorem x_sl {k : Int} {v : V} (h1 : h[n]? = some (.list vs)) (h0 : 0 ≤ k) (h2 : k < 2 ^ 62) (h3 : vs[k.toNat]? = some v) (x : R v) : SubW (.ref n) (.int k) h R := by
  rw [x_sub, h1]; exact .inl ⟨v, ⟨h0, h2⟩, h3, x⟩
theorem x_sln {k : Nat} {v : V} (h1 : h[n]? = some (.list vs)) (h2 : k < 2 ^ 62) (h3 : vs[k]? = some v) (x : R v) : SubW (.ref n) (.int k) h R := x_sl h1 (by omega) (by omega) (by simpa using h3) x
theorem x_sf {k : Int} (h1 : h[n]? = some (.frz vs)) : SubW (.ref n) (.int k) h R = ∃ v, (0 ≤ k ∧ k < 2 ^ 62) ∧ vs[k.toNat]? = some v ∧ R v := by rw [x_sub, h1]; rfl
theorem x_sd {i : V} {es : List (V × V)} {ver : Nat} (h1 : h[n]? = some (.dict es ver)) : SubW (.ref n) i h R = (i.isKey = true ∧ ∃ v, dget es i = some v ∧ R v) := by rw [x_sub, h1]
theorem x_lens {s : List Nat} : BiW .len [.str s] h Q = Q (.int s.length) h := rfl
theorem x_lent : BiW .len [.tup vs] h Q = Q (.int vs.length) h := rfl
theorem x_len : BiW .len [.ref n] h Q = (match h[n]? with
    | some (.list vs) => Q (.int vs.length) h
    | some (.frz vs) => Q (.int vs.length) h
    | some (.dict _ _) => False
    | none => False) := rfl
theorem x_lenl (h1 : h[n]? = some (.list vs)) : BiW .len [.ref n] h Q = Q (.int vs.length) h := by rw [x_len, h1]
theorem x_lenf (h1 : h[n]? = some (.frz vs)) : BiW .len [.ref n] h Q = Q (.int vs.length) h := by rw [x_len, h1]
theorem x_r1 {b : Int} : BiW .range [.int b] h Q = (smallI b ∧ Q (.rng 0 b 1) h) := rfl
theorem x_li : BiW .list [.ref n] h Q = (match h[n]? with
    | some (.list vs) => vs.length ≤ SZ ∧ Q (.ref h.length) (h ++ [.list vs])
    | some (.frz _) => False
    | some (.dict _ _) => False
    | none => False) := rfl
theorem x_ll (h1 : h[n]? = some (.list vs)) : BiW .list [.ref n] h Q = (vs.length ≤ SZ ∧ Q (.ref h.length) (h ++ [.list vs])) := by rw [x_li, h1]
theorem x_lr {a b c : Int} : BiW .list [.rng a b c] h Q = (rangeLen a b c ≤ SZ ∧ Q (.ref h.length) (h ++ [.list (rangeV a b c)])) := rfl
theorem x_get {T : List V → Prop} (h1 : h[n]? = some (.list vs)) : (∃ ws, h[n]? = some (.list ws) ∧ T ws) = T vs :=
  propext ⟨fun ⟨w, g, t⟩ => by rw [h1] at g; cases g; exact t, fun t => ⟨vs, h1, t⟩⟩
theorem x_app {v : V} (h1 : h[n]? = some (.list vs)) : MethW .append (.ref n) [v] h Q = (vs.length < SZ ∧ Q .none (h.set n (.list (vs ++ [v])))) := x_get (T := fun vs => vs.length < SZ ∧ Q .none (h.set n (.list (vs ++ [v])))) h1
theorem x_rev (h1 : h[n]? = some (.list vs)) : MethW .reverse (.ref n) [] h Q = Q .none (h.set n (.list vs.reverse)) := x_get (T := fun vs => Q .none (h.set n (.list vs.reverse))) h1
theorem x_join {xs : List (List Nat)} (h1 : h[n]? = some (.list vs)) (h2 : isStrs vs = some xs) : MethW .join (.str []) [.ref n] h Q = ((xs.map List.length).sum ≤ SZ ∧ Q (.str (joinS [] xs)) h) :=
  propext ⟨fun ⟨ws, ys, g1, g2, _, g⟩ => by rw [h1] at g1; cases g1; rw [h2] at g2; cases g2; exact g, fun g => ⟨vs, xs, h1, h2, rfl, g⟩⟩
theorem x_pop {v : V} (h1 : h[n]? = some (.list (vs ++ [v]))) (q : Q v (h.set n (.list vs))) : MethW .pop (.ref n) [] h Q := ⟨vs, v, h1, q⟩
theorem x_rp (h1 : h[n]? = some (.list vs)) : recvOk .pop (.ref n) h := ⟨vs, h1⟩
theorem x_sw {a b : List Nat} : MethW .startswith (.str a) [.str b] h Q = Q (.bool (decide (b <+: a))) h := rfl
theorem x_rr (h1 : h[n]? = some (.list vs)) : recvOk .reverse (.ref n) h = True := propext ⟨fun _ => trivial, fun _ => ⟨vs, h1⟩⟩
theorem x_rj {s : List Nat} : recvOk .join (.str s) h = True := rfl
theorem x_sto {S : H → Prop} {i v : V} : StoreW (.ref n) i v h S = (match h[n]? with
    | some (.list _) => False
    | some (.dict es _) => i.isKey = true ∧ es.length < SZ ∧ ∀ ver, S (h.set n (.dict (dput es i v) ver))
    | some (.frz _) => False
    | none => False) := rfl
theorem x_std {S : H → Prop} {i v : V} {es : List (V × V)} {ver : Nat} (h1 : h[n]? = some (.dict es ver)) : StoreW (.ref n) i v h S = (i.isKey = true ∧ es.length < SZ ∧ ∀ ver, S (h.set n (.dict (dput es i v) ver))) := by rw [x_sto, h1]
theorem x_bn {v : V} {i : Nat} {ρ : Rho} {K : Rho → Prop} : bindT (.name i) v ρ K = K (upd ρ i v) := rfl
theorem x_bt {is : List Nat} {ρ : Rho} {K : Rho → Prop} : bindT (.tup is) (.tup vs) ρ K = (is.length = vs.length ∧ K (upds ρ is vs)) := rfl
theorem x_iil {a : Int} : IsW (.int a) .int h P = P true := rfl
theorem x_iib {a : Int} : IsW (.int a) .bool h P = P false := rfl
theorem x_iss {a : List Nat} : IsW (.str a) .str h P = P true := rfl
theorem x_itt : IsW (.tup vs) .tuple h P = P true := rfl
theorem x_is {t : Ty} : IsW (.ref n) t h P = (match h[n]? with
    | some (.list _) => P (tyEq t .list)
    | some (.dict _ _) => P false
    | some (.frz _) => False
    | none => False) := rfl
theorem x_ill (h1 : h[n]? = some (.list vs)) : IsW (.ref n) .list h P = P true := by rw [x_is, h1]; rfl
theorem x_inn : IsW .none .list h P = P false := rfl
end

section
variable {C : Ora} {ρ : Rho} {h : H} {Q : V → H → Prop}
theorem e_lit {v : V} : wpE C (.lit v) ρ h Q = Q v h := rfl
theorem e_vk {i : Nat} : wpE C (.var i) ρ h Q = vK (ρ i) fun v => Q v h := rfl
theorem vk_some {v : V} {k : V → Prop} : vK (some v) k = k v := rfl
theorem e_var {i : Nat} : wpE C (.var i) ρ h Q = ∃ v, ρ i = some v ∧ Q v h := propext ⟨vK.inv, fun ⟨v, e, q⟩ => by rw [e_vk, e]; exact q⟩
theorem e_bin {op : Bop} {a b : E} : wpE C (.bin op a b) ρ h Q = wpE C a ρ h fun va h₁ => wpE C b ρ h₁ fun vb h₂ => BinW op va vb h₂ Q := rfl
theorem e_neg {i : Int} : wpE C (.neg (.lit (.int i))) ρ h Q = Q (.int (-i)) h := rfl
theorem e_not {a : E} : wpE C (.not a) ρ h Q = wpE C a ρ h fun v h₁ => truth v h₁ fun b => Q (.bool (!b)) h₁ := rfl
theorem e_and {a b : E} : wpE C (.and a b) ρ h Q = wpE C a ρ h fun v h₁ => truth v h₁ fun t => match t with | true => wpE C b ρ h₁ Q | false => Q v h₁ := rfl
theorem e_or {a b : E} : wpE C (.or a b) ρ h Q = wpE C a ρ h fun v h₁ => truth v h₁ fun t => match t with | true => Q v h₁ | false => wpE C b ρ h₁ Q := rfl
theorem e_cmp {op : Cmp} {a b : E} : wpE C (.cmp op a b) ρ h Q = wpE C a ρ h fun va h₁ => wpE C b ρ h₁ fun vb h₂ => CmpW op va vb h₂ fun r => Q (.bool r) h₂ := rfl
theorem e_cmp2 {op1 op2 : Cmp} {a b c : E} : wpE C (.cmp2 op1 op2 a b c) ρ h Q = wpE C a ρ h fun va h₁ => wpE C b ρ h₁ fun vb h₂ => CmpW op1 va vb h₂ fun r => match r with
    | true => wpE C c ρ h₂ fun vc h₃ => CmpW op2 vb vc h₃ fun r => Q (.bool r) h₃
    | false => Q (.bool false) h₂ := rfl
theorem e_sub {a i : E} : wpE C (.sub a i) ρ h Q = wpE C a ρ h fun va h₁ => wpE C i ρ h₁ fun vi h₂ => SubW va vi h₂ fun v => Q v h₂ := rfl
theorem e_slice {a lo hi : E} : wpE C (.slice a lo hi) ρ h Q = wpE C a ρ h fun va h₁ => wpE C lo ρ h₁ fun vl h₂ => wpE C hi ρ h₂ fun vh h₃ => SliceW va vl vh h₃ Q := rfl
theorem e_tup {es : List E} : wpE C (.tup es) ρ h Q = wpEs C es ρ h fun vs h₁ => Q (.tup vs) h₁ := rfl
theorem e_list {es : List E} : wpE C (.list es) ρ h Q = wpEs C es ρ h fun vs h₁ => Q (.ref h₁.length) (h₁ ++ [.list vs]) := rfl
theorem e_dict0 : wpE C .dict0 ρ h Q = ∀ ver, Q (.ref h.length) (h ++ [.dict [] ver]) := rfl
theorem e_dict1 {k v : E} : wpE C (.dict1 k v) ρ h Q = wpE C k ρ h fun vk h₁ => wpE C v ρ h₁ fun vv h₂ => vk.isKey = true ∧ ∀ ver, Q (.ref h₂.length) (h₂ ++ [.dict [(vk, vv)] ver]) := rfl
theorem e_call {f : Nat} {args : List E} : wpE C (.call f args) ρ h Q = wpEs C args ρ h fun vs h₁ => C f vs h₁ Q := rfl
theorem e_bi {b : Bi} {args : List E} : wpE C (.bi b args) ρ h Q = wpEs C args ρ h fun vs h₁ => BiW b vs h₁ Q := rfl
theorem e_isinst {a : E} {t : Ty} : wpE C (.isinst a t) ρ h Q = wpE C a ρ h fun v h₁ => IsW v t h₁ fun r => Q (.bool r) h₁ := rfl
theorem e_meth {m : Mt} {o : E} {args : List E} : wpE C (.meth m o args) ρ h Q = wpE C o ρ h fun vo h₁ => recvOk m vo h₁ ∧ wpEs C args ρ h₁ fun vs h₂ => MethW m vo vs h₂ Q := rfl
end
theorem x_eq {h : H} {P : Bool → Prop} {a b : V} : CmpW .eq a b h P = EqW a b h P := rfl
theorem x_ne {h : H} {P : Bool → Prop} {a b : V} : CmpW .ne a b h P = EqW a b h (fun r => P (!r)) := rfl

theorem upd_eq {ρ : Rho} {i : Nat} {v : V} : upd ρ i v i = some v := by simp [upd]
theorem upd_ne {ρ : Rho} {i j : Nat} {v : V} (h : j ≠ i) : upd ρ i v j = ρ j := by simp [upd, h]

section
variable {C : Ora} {ρ : Rho} {h : H} {Q : Bool → H → Prop}
theorem es_nil {Q : List V → H → Prop} : wpEs C [] ρ h Q = Q [] h := rfl
theorem es_cons {e : E} {es : List E} {Q : List V → H → Prop} : wpEs C (e :: es) ρ h Q = wpE C e ρ h fun v h₁ => wpEs C es ρ h₁ fun vs h₂ => Q (v :: vs) h₂ := rfl
theorem o_none : wpO C none ρ h Q = Q true h := rfl
theorem o_some {t : E} : wpO C (some t) ρ h Q = wpT C t ρ h Q := rfl
theorem t_not {a : E} : wpT C (.not a) ρ h Q = wpT C a ρ h fun b h₁ => Q (!b) h₁ := rfl
theorem t_and {a b : E} : wpT C (.and a b) ρ h Q = wpT C a ρ h fun t h₁ => match t with | true => wpT C b ρ h₁ Q | false => Q false h₁ := rfl
theorem t_or {a b : E} : wpT C (.or a b) ρ h Q = wpT C a ρ h fun t h₁ => match t with | true => Q true h₁ | false => wpT C b ρ h₁ Q := rfl
theorem t_cmp {op : Cmp} {a b : E} : wpT C (.cmp op a b) ρ h Q = wpE C a ρ h fun va h₁ => wpE C b ρ h₁ fun vb h₂ => CmpW op va vb h₂ fun r => Q r h₂ := rfl
theorem t_cmp2 {op1 op2 : Cmp} {a b c : E} : wpT C (.cmp2 op1 op2 a b c) ρ h Q = wpE C a ρ h fun va h₁ => wpE C b ρ h₁ fun vb h₂ => CmpW op1 va vb h₂ fun r => match r with
    | true => wpE C c ρ h₂ fun vc h₃ => CmpW op2 vb vc h₃ fun r => Q r h₃
    | false => Q false h₂ := rfl
theorem t_lit {v : V} : wpT C (.lit v) ρ h Q = truth v h fun b => Q b h := rfl
theorem t_vk {i : Nat} : wpT C (.var i) ρ h Q = vK (ρ i) fun v => truth v h fun b => Q b h := rfl
theorem t_call {f : Nat} {args : List E} : wpT C (.call f args) ρ h Q = wpEs C args ρ h fun vs h₁ => C f vs h₁ fun v h₂ => truth v h₂ fun b => Q b h₂ := rfl
theorem t_isinst {a : E} {t : Ty} : wpT C (.isinst a t) ρ h Q = wpE C a ρ h fun v h₁ => IsW v t h₁ fun r => Q r h₁ := rfl
theorem t_meth {m : Mt} {o : E} {args : List E} : wpT C (.meth m o args) ρ h Q = wpE C o ρ h fun vo h₁ => recvOk m vo h₁ ∧ wpEs C args ρ h₁ fun vs h₂ => MethW m vo vs h₂ fun v h₃ => truth v h₃ fun b => Q b h₃ := rfl
end
theorem u_nil {ρ : Rho} {vs : List V} : upds ρ [] vs = ρ := rfl
theorem u_cons {ρ : Rho} {i : Nat} {is : List Nat} {v : V} {vs : List V} : upds ρ (i :: is) (v :: vs) = upds (upd ρ i v) is vs := rfl
section
variable {C : Ora} {ρ : Rho} {h : H} {Q : Out → Rho → H → Prop} {r : List S}
theorem b_nil : wpB C [] ρ h Q = Q .next ρ h := rfl
theorem b_ret {e : E} : wpB C (.ret (some e) :: r) ρ h Q = wpE C e ρ h fun v h₁ => Q (.ret v) ρ h₁ := rfl
theorem b_ite {t : E} {a b : List S} : wpB C (.ite t a b :: r) ρ h Q = wpT C t ρ h fun c h₁ => match c with | true => wpB C a ρ h₁ (thenB C r Q) | false => wpB C b ρ h₁ (thenB C r Q) := rfl
theorem th_next : thenB C r Q .next ρ h = wpB C r ρ h Q := rfl
theorem th_ret {v : V} : thenB C r Q (.ret v) ρ h = Q (.ret v) ρ h := rfl
theorem ov_ret {v : V} : Out.val (.ret v) = v := rfl
theorem ov_next : Out.val .next = V.none := rfl
end
end Tw
end

section
namespace Tw
/-! short steps -/
section
variable {ρ : Rho} {h : H} {R : V → Prop} {C : Ora} {Q : V → H → Prop} {P : Bool → Prop}
end
end Tw
end

section
namespace Tw

/-! loops that only gather -/
noncomputable def Tgt.has : Tgt → Nat → Bool
  | .name i, j => decide (j = i)
  | .tup is, j => decide (j ∈ is)
theorem upds_off : ∀ (is : List Nat) (vs : List V) (ρ : Rho) (j : Nat), j ∉ is → upds ρ is vs j = ρ j
  | [], _, _, _, _ => rfl
  | i :: is, [], _, _, _ => rfl
  | i :: is, v :: vs, ρ, j, h => by
    show upds (upd ρ i v) is vs j = ρ j
    rw [upds_off is vs _ j fun x => h (List.mem_cons_of_mem _ x), upd_ne (show j ≠ i from fun e => h (by rw [e]; exact List.mem_cons_self))]
theorem bindT_keep {t : Tgt} {v : V} {ρ₀ ρ : Rho} {Q : Rho → Prop} (h : ∀ j, t.has j = false → ρ j = ρ₀ j) (x : bindT t v ρ Q) : bindT t v ρ fun ρ' => (∀ j, t.has j = false → ρ' j = ρ₀ j) ∧ Q ρ' := by
  cases t with
  | name i => exact ⟨fun j hj => by rw [upd_ne (of_decide_eq_false hj)]; exact h j hj, x⟩
  | tup is => exact asTup.mono (fun vs y => ⟨y.1, fun j hj => by rw [upds_off _ _ _ _ (of_decide_eq_false hj)]; exact h j hj, y.2⟩) x

section
variable {C : Ora} {ρ : Rho} {H : Tw.H} {α : Type} {l : List α} {f : α → V} {g : α → Option V} (hC : MonoC C)
theorem fm_take {i : Nat} {a : α} (h : l[i]? = some a) : (l.take (i + 1)).filterMap g = (l.take i).filterMap g ++ (g a).toList := by
  rw [List.take_add_one, h, List.filterMap_append]
  cases hg : g a <;> simp [hg]
theorem fm_len (i : Nat) (h : i ≤ l.length) : ((l.take i).filterMap g).length ≤ i := Nat.le_trans (List.length_filterMap_le _ _) (by rw [List.length_take]; omega)
theorem map_at {i : Nat} {v : V} (h : (l.map f)[i]? = some v) : ∃ a, l[i]? = some a ∧ f a = v ∧ i < l.length := by
  rw [List.getElem?_map] at h
  obtain ⟨a, h1, h2⟩ := Option.map_eq_some_iff.mp h
  exact ⟨a, h1, h2, (List.getElem?_eq_some_iff.mp h1).1⟩
include hC
/-- a comprehension that changes no heap -/
theorem E_comp_pure {elt e : E} {tgt : Tgt} {cond : Option E} {it : Nat → It} {K : Tw.H → Prop} {Q : V → Tw.H → Prop} (go : Goes it (l.map f) K) (hit : wpE C e ρ H fun v h₁ => (∀ Q : It → Prop, Q (it 0) → IterW v H Q) ∧ h₁ = H) (hK : K H) (hl : l.length ≤ SZ)
    (step : ∀ a ∈ l, bindT tgt (f a) ρ fun ρ' => wpO C cond ρ' H fun b h₂ => h₂ = H ∧ b = (g a).isSome ∧ ∀ w, g a = some w → wpE C elt ρ' H fun x h₃ => x = w ∧ h₃ = H)
    (q : Q (.ref H.length) (H ++ [.list (l.filterMap g)])) : wpE C (.comp elt tgt e cond) ρ H Q := by
  refine E_comp_it hC go (fun i out h => h = H ∧ out = (l.take i).filterMap g) (wpE_mono hC e (fun v h₁ ⟨a, b⟩ => ⟨by rw [b]; exact a, b, by simp⟩) hit) (fun i out h ⟨a, _⟩ => by rw [a]; exact hK) ?_ ?_
  · rintro i v out h hv ⟨rfl, rfl⟩
    obtain ⟨a, ha, rfl, hil⟩ := map_at hv
    have hlen := fm_len (l := l) (g := g) i (by omega)
    rw [fm_take ha]
    refine bindT.mono (fun ρ' x => wpO_mono hC cond (fun b h₂ y => ?_) x) (step a (List.mem_of_getElem? ha))
    obtain ⟨rfl, rfl, y⟩ := y
    cases hg : g a with
    | none => exact ⟨rfl, by simp⟩
    | some w => exact wpE_mono hC elt (fun x h₃ ⟨a, b⟩ => ⟨by omega, b, by rw [a]; rfl⟩) (y w hg)
  · rintro out h ⟨rfl, rfl⟩
    rw [List.length_map, List.take_length]; exact q
omit hC in
theorem set_same {L : Nat} {o : MO} (h : H[L]? = some o) : H.set L o = H := by
  apply List.ext_getElem?
  intro i
  by_cases hi : i = L
  · subst hi; rw [List.getElem?_set_self (List.getElem?_eq_some_iff.mp h).1, h]
  · rw [List.getElem?_set_ne (Ne.symm hi)]
/-- a loop that appends at most one value a turn: for t in it: if tst: found.append(e) -/
theorem B_for_appG {t : Tgt} {it tst e : E} {go : Nat → It} {K : Tw.H → Prop} {r : List S} {fd L : Nat} {base : List V} {Q : Out → Rho → Tw.H → Prop} (hgo : Goes go (l.map f) K) (hK : ∀ out, K (H.set L (.list out))) (hL : H[L]? = some (.list base)) (hf : ρ fd = some (.ref L)) (hfs : t.has fd = false)
    (hlen : base.length + l.length ≤ SZ) (hit : wpE C it ρ H fun v h₁ => (∀ Q : It → Prop, Q (go 0) → IterW v H Q) ∧ h₁ = H)
    (step : ∀ a ∈ l, ∀ ρ' out, (∀ j, t.has j = false → ρ' j = ρ j) → bindT t (f a) ρ' fun ρ'' => wpT C tst ρ'' (H.set L (.list out)) fun c h₁ => h₁ = H.set L (.list out) ∧ c = (g a).isSome ∧ ∀ w, g a = some w → wpE C e ρ'' (H.set L (.list out)) fun x h₂ => x = w ∧ h₂ = H.set L (.list out))
    (fin : ∀ ρ', (∀ j, t.has j = false → ρ' j = ρ j) → wpB C r ρ' (H.set L (.list (base ++ l.filterMap g))) Q) : wpB C (.for t it [.ite tst [.expr (.meth .append (.var fd) [e])] []] :: r) ρ H Q := by
  have hLl := (List.getElem?_eq_some_iff.mp hL).1
  refine B_for_it hC hgo (fun i ρ' h => (∀ j, t.has j = false → ρ' j = ρ j) ∧ h = H.set L (.list (base ++ (l.take i).filterMap g))) (wpE_mono hC it (fun v h₁ ⟨a, b⟩ => ⟨by rw [b]; exact a, fun _ _ => rfl, by rw [b]; simp [set_same hL]⟩) hit) ?_ ?_ ?_
  · rintro i ρ' h ⟨_, rfl⟩; exact hK _
  · rintro i v ρ' h hv ⟨hρ, rfl⟩
    obtain ⟨a, ha, rfl, hil⟩ := map_at hv
    have hle : (base ++ (l.take i).filterMap g).length < SZ := by
      have := fm_len (l := l) (g := g) i (by omega)
      rw [List.length_append]; omega
    rw [fm_take ha]
    refine bindT.mono (fun ρ'' y => ?_) (bindT_keep hρ (step a (List.mem_of_getElem? ha) ρ' (base ++ (l.take i).filterMap g) hρ))
    obtain ⟨hk, y⟩ := y
    refine B_ite (wpT_mono hC tst (fun c h₁ z => ?_) y)
    obtain ⟨rfl, rfl, z⟩ := z
    cases hg : g a with
    | none => exact ⟨hk, by simp⟩
    | some w =>
      refine B_expr ?_
      rw [e_meth, e_var]
      have hb : (H.set L (MO.list (base ++ (l.take i).filterMap g)))[L]? = some (.list (base ++ (l.take i).filterMap g)) := List.getElem?_set_self hLl
      refine ⟨_, (hk fd hfs).trans hf, ⟨_, hb⟩, ?_⟩
      rw [es_cons]
      refine wpE_mono hC e (fun x h₂ ⟨a, b⟩ => ?_) (z w hg)
      subst a; subst b
      rw [es_nil, x_app hb]
      exact ⟨hle, hk, by simp⟩
  · rintro ρ' h ⟨hρ, rfl⟩
    rw [List.length_map, List.take_length]; exact fin ρ' hρ
end
end Tw
end

section
namespace Tw

/-! plain expressions, by evaluation. An environment is a list of what is known, the newest first. -/
abbrev Env := List (Nat × V)
noncomputable def lk : Env → Nat → Option V
  | [], _ => none
  | (j, v) :: r, i => match Nat.beq i j with
    | true => some v
    | false => lk r i
noncomputable def Ag (L : Env) (ρ : Rho) : Prop := ∀ i v, lk L i = some v → ρ i = some v
theorem Ag.push {L : Env} {ρ : Rho} {i : Nat} {v : V} (r : Ag L ρ) : Ag ((i, v) :: L) (upd ρ i v) := fun j w e => by
  unfold lk at e
  cases hb : Nat.beq j i with
  | true => rw [hb] at e; cases e; rw [Nat.eq_of_beq_eq_true hb]; exact upd_eq
  | false => rw [hb] at e; rw [upd_ne (Nat.ne_of_beq_eq_false hb)]; exact r j w e
noncomputable def pushs (L : Env) : List Nat → List V → Env
  | i :: is, v :: vs => pushs ((i, v) :: L) is vs
  | _, _ => L
theorem Ag.pushs : ∀ {L : Env} {ρ : Rho} (is : List Nat) (vs : List V), Ag L ρ → Ag (pushs L is vs) (upds ρ is vs)
  | _, _, [], _, r => r
  | _, _, _ :: _, [], r => r
  | _, _, _ :: is, _ :: vs, r => Ag.pushs is vs r.push
noncomputable def argsL (k : Nat) : List V → Env
  | [] => []
  | v :: vs => (k, v) :: argsL (k + 1) vs
theorem lk_args : ∀ (vs : List V) (k i : Nat) (v : V), lk (argsL k vs) i = some v → ∃ j, i = k + j ∧ vs[j]? = some v
  | [], _, _, _, e => nomatch e
  | w :: vs, k, i, v, e => by
    unfold argsL lk at e
    cases hb : Nat.beq i k with
    | true => rw [hb] at e; cases e; exact ⟨0, Nat.eq_of_beq_eq_true hb, rfl⟩
    | false => rw [hb] at e; obtain ⟨j, h1, h2⟩ := lk_args vs (k + 1) i v e; exact ⟨j + 1, by omega, h2⟩
theorem ag_args (vs : List V) : Ag (argsL 0 vs) (argsR vs) := fun i v e => by
  obtain ⟨j, h1, h2⟩ := lk_args vs 0 i v e
  rw [h1, Nat.zero_add]; exact h2
noncomputable def AllIn : Env → Env → Prop
  | [], _ => True
  | (i, v) :: r, L => lk L i = some v ∧ AllIn r L
theorem AllIn.ag {L : Env} {ρ : Rho} (a : Ag L ρ) : ∀ {L' : Env}, AllIn L' L → Ag L' ρ
  | [], _ => fun _ _ e => nomatch e
  | (j, w) :: r, h => fun i v e => by
    unfold lk at e
    cases hb : Nat.beq i j with
    | true => rw [hb] at e; cases e; rw [Nat.eq_of_beq_eq_true hb]; exact a j _ h.1
    | false => rw [hb] at e; exact AllIn.ag a h.2 i v e

noncomputable def AllP : List Prop → Prop
  | [] => True
  | p :: r => p ∧ AllP r
theorem allP_app {a b : List Prop} (h : AllP (a ++ b)) : AllP a ∧ AllP b := by
  induction a with
  | nil => exact ⟨trivial, h⟩
  | cons p a ih => exact ⟨⟨h.1, (ih h.2).1⟩, (ih h.2).2⟩

/-! evaluation: what the heap is asked is answered from a list, and stands among the conditions -/
noncomputable abbrev M (α : Type) := List V → Option (α × List Prop × List V)
section
variable {α β : Type}
noncomputable def M.ret (a : α) : M α := fun g => some (a, [], g)
noncomputable def M.fail : M α := fun _ => none
noncomputable def M.of (o : Option α) : M α := fun g => match o with
  | some a => some (a, [], g)
  | none => none
noncomputable def M.need (p : Prop) (a : α) : M α := fun g => some (a, [p], g)
noncomputable def next2 (c : List Prop) : Option (β × List Prop × List V) → Option (β × List Prop × List V)
  | some (b, c', g) => some (b, c ++ c', g)
  | none => none
noncomputable def M.bind (m : M α) (f : α → M β) : M β := fun g => match m g with
  | some (a, c, g) => next2 c (f a g)
  | none => none
noncomputable def M.ask (k : V → M α) : M α := fun g => match g with
  | v :: r => k v r
  | [] => none
noncomputable def evI (v : V) (k : Int → M α) : M α := match v with
  | .int i => k i
  | _ => M.fail
noncomputable def evS (v : V) (k : List Nat → M α) : M α := match v with
  | .str i => k i
  | _ => M.fail
noncomputable def evB (v : V) (k : Bool → M α) : M α := match v with
  | .bool i => k i
  | _ => M.fail
/-- sound: what comes out may be what goes on -/
noncomputable def Snd (m : M α) (W : (α → Prop) → Prop) : Prop := ∀ g a c g', m g = some (a, c, g') → AllP c → ∀ K : α → Prop, K a → W K
theorem Snd.fail {W : (α → Prop) → Prop} : Snd (M.fail : M α) W := fun _ _ _ _ e => nomatch e
theorem Snd.ret {a : α} {W : (α → Prop) → Prop} (h : ∀ K : α → Prop, K a → W K) : Snd (M.ret a) W := fun g b c g' e _ K q => by cases e; exact h K q
theorem Snd.need {p : Prop} {a : α} {W : (α → Prop) → Prop} (h : p → ∀ K : α → Prop, K a → W K) : Snd (M.need p a) W := fun g b c g' e hc K q => by cases e; exact h hc.1 K q
theorem Snd.of {o : Option α} {W : (α → Prop) → Prop} (h : ∀ a, o = some a → ∀ K : α → Prop, K a → W K) : Snd (M.of o) W := by
  cases o with
  | none => exact fun _ _ _ _ e => nomatch e
  | some x => exact fun g b c g' e _ K q => by cases e; exact h _ rfl K q
theorem Snd.bind {m : M α} {f : α → M β} {W1 : (α → Prop) → Prop} {W2 : α → (β → Prop) → Prop} (h1 : Snd m W1) (h2 : ∀ a, Snd (f a) (W2 a)) : Snd (M.bind m f) (fun K => W1 fun a => W2 a K) := fun g b c g' e hc K q => by
  unfold M.bind at e
  cases hm : m g with
  | none => rw [hm] at e; cases e
  | some x =>
    obtain ⟨a, c1, g1⟩ := x
    rw [hm] at e
    cases hf : f a g1 with
    | none => simp only [hf] at e; cases e
    | some y =>
      obtain ⟨b', c2, g2⟩ := y
      simp only [hf] at e
      cases e
      obtain ⟨p1, p2⟩ := allP_app hc
      exact h1 _ _ _ _ hm p1 _ (h2 a _ _ _ _ hf p2 K q)
theorem Snd.ask {k : V → M α} {W : (α → Prop) → Prop} (h : ∀ v, Snd (k v) W) : Snd (M.ask k) W := fun g b c g' e hc K q => by
  cases g with
  | nil => cases e
  | cons v r => exact h v _ _ _ _ e hc K q
theorem Snd.evI {v : V} {k : Int → M α} {W : (α → Prop) → Prop} (h : ∀ i, v = .int i → Snd (k i) W) : Snd (Tw.evI v k) W := by
  cases v with
  | int i => exact h i rfl
  | _ => exact Snd.fail
theorem Snd.evS {v : V} {k : List Nat → M α} {W : (α → Prop) → Prop} (h : ∀ i, v = .str i → Snd (k i) W) : Snd (Tw.evS v k) W := by
  cases v with
  | str i => exact h i rfl
  | _ => exact Snd.fail
theorem Snd.evB {v : V} {k : Bool → M α} {W : (α → Prop) → Prop} (h : ∀ i, v = .bool i → Snd (k i) W) : Snd (Tw.evB v k) W := by
  cases v with
  | bool i => exact h i rfl
  | _ => exact Snd.fail
theorem Snd.mono {m : M α} {W W' : (α → Prop) → Prop} (x : Snd m W) (h : ∀ K, W K → W' K) : Snd m W' := fun g a c g' e hc K q => h K (x g a c g' e hc K q)
end

/-! what the heap is asked -/
noncomputable def RdW (h : H) (a i v : V) : Prop := ∀ R : V → Prop, R v → SubW a i h R
noncomputable def LnW (h : H) (a v : V) : Prop := ∀ Q : V → H → Prop, Q v h → BiW .len [a] h Q
noncomputable def SlW (h : H) (a i j v : V) : Prop := ∀ Q : V → H → Prop, Q v h → SliceW a i j h Q
noncomputable def CmW (h : H) (op : Cmp) (a b : V) (r : Bool) : Prop := ∀ P : Bool → Prop, P r → CmpW op a b h P

/-! the operators -/
noncomputable def nthV : List V → Nat → Option V
  | [], _ => none
  | v :: r, k => match k with
    | 0 => some v
    | k + 1 => nthV r k
theorem nthV_get : ∀ (l : List V) (k : Nat), nthV l k = l[k]?
  | [], k => by simp [nthV]
  | v :: r, 0 => rfl
  | v :: r, k + 1 => by rw [nthV, nthV_get r k]; simp
noncomputable def isNoneB : V → Bool
  | .none => true
  | _ => false
theorem isNoneB_eq (v : V) : decide (v = .none) = isNoneB v := by
  cases v with
  | none => exact decide_eq_true rfl
  | _ => exact decide_eq_false (fun x => nomatch x)
noncomputable def mBin (op : Bop) (a b : V) : M V :=
  match op with
  | .add => match a with
    | .str a => evS b fun b => M.need (a.length + b.length ≤ SZ) (.str (a ++ b))
    | a => evI a fun a => evI b fun b => M.ret (.int (a + b))
  | .sub => evI a fun a => evI b fun b => M.ret (.int (a - b))
  | .mul => evI a fun a => evI b fun b => M.need (mulOk a b) (.int (a * b))
  | .fdiv => evI a fun a => evI b fun b => M.need (b ≠ 0 ∧ b.natAbs < 1073741824) (.int (a.fdiv b))
  | .mod => evI a fun a => evI b fun b => M.need (b ≠ 0) (.int (a.fmod b))
noncomputable def mSub (h : H) (a i : V) : M V :=
  match a with
  | .tup vs => evI i fun k => match k with
    | .ofNat k => match Nat.ble k 1000 with
      | true => M.of (nthV vs k)
      | false => M.fail
    | _ => M.fail
  | a => M.ask fun v => M.need (RdW h a i v) v
noncomputable def mEq (h : H) (op : Cmp) (f : Bool → Bool) (a b : V) : M Bool := match a with
  | .int a => evI b fun b => M.ret (f (decide (a = b)))
  | .str a => evS b fun b => M.ret (f (decide (a = b)))
  | .bool a => evB b fun b => M.ret (f (decide (a = b)))
  | a => M.ask fun r => evB r fun r => M.need (CmW h op a b r) r
noncomputable def mCmp (h : H) (op : Cmp) (a b : V) : M Bool :=
  match op with
  | .eq => mEq h .eq (fun r => r) a b
  | .ne => mEq h .ne (fun r => !r) a b
  | .lt => evI a fun a => evI b fun b => M.ret (decide (a < b))
  | .le => evI a fun a => evI b fun b => M.ret (decide (a ≤ b))
  | .gt => evI a fun a => evI b fun b => M.ret (decide (b < a))
  | .ge => evI a fun a => evI b fun b => M.ret (decide (b ≤ a))
  | .is => match b with
    | .none => M.ret (isNoneB a)
    | _ => M.fail
  | .isNot => match b with
    | .none => M.ret (!isNoneB a)
    | _ => M.fail
  | op => M.ask fun r => evB r fun r => M.need (CmW h op a b r) r
noncomputable def mLen (h : H) (v : V) : M V := match v with
  | .str s => M.ret (.int s.length)
  | .tup vs => M.ret (.int vs.length)
  | v => M.ask fun n => M.need (LnW h v n) n
noncomputable def mIs (v : V) (t : Ty) : M Bool := match v with
  | .none => M.ret false
  | .int _ => M.ret (tyEq t .int)
  | .str _ => M.ret (tyEq t .str)
  | .tup _ => M.ret (tyEq t .tuple)
  | _ => M.fail
noncomputable def guard (b : Bool) : List Prop → List Prop
  | [] => []
  | c => [b = true → AllP c]
theorem guard_ok {b : Bool} {c : List Prop} (h : AllP (guard b c)) (hb : b = true) : AllP c := by
  cases c with
  | nil => trivial
  | cons p r => exact h.1 hb
/-- the second only where the first says x -/
noncomputable def lazy2 (x : Bool) (f : Bool → Bool) (c : List Prop) : Option (Bool × List Prop × List V) → Option (Bool × List Prop × List V)
  | some (y, c', g) => some (f y, c ++ guard x c', g)
  | none => none
noncomputable def M.lazy (x : Bool) (f : Bool → Bool) (m : M Bool) : M Bool := fun g => lazy2 x f [] (m g)
theorem Snd.lazy {x : Bool} {f : Bool → Bool} {m : M Bool} {W W' : (Bool → Prop) → Prop} (h : Snd m W) (h1 : x = true → ∀ K, W (fun y => K (f y)) → W' K) (h2 : x = false → ∀ y K, K (f y) → W' K) : Snd (M.lazy x f m) W' := fun g a c g' e hc K q => by
  unfold M.lazy at e
  cases hm : m g with
  | none => rw [hm] at e; cases e
  | some z =>
    obtain ⟨y, c1, g1⟩ := z
    rw [hm] at e
    cases e
    cases hx : x with
    | true => exact h1 hx K (h _ _ _ _ hm (guard_ok hc hx) (fun y => K (f y)) q)
    | false => exact h2 hx y K q
noncomputable def mOne (vs : List V) (k : V → M V) : M V := match vs with
  | [v] => k v
  | _ => M.fail
theorem Snd.one {vs : List V} {k : V → M V} {W : (V → Prop) → Prop} (h : ∀ v, vs = [v] → Snd (k v) W) : Snd (mOne vs k) W := by
  match vs, h with
  | [], _ => exact Snd.fail
  | [v], h => exact h v rfl
  | _ :: _ :: _, _ => exact Snd.fail
mutual
noncomputable def ev (L : Env) (h : H) : E → M V
  | .lit v => M.ret v
  | .var i => M.of (lk L i)
  | .bin op a b => (ev L h a).bind fun x => (ev L h b).bind fun y => mBin op x y
  | .neg a => (ev L h a).bind fun x => evI x fun i => M.ret (.int (-i))
  | .sub a i => (ev L h a).bind fun x => (ev L h i).bind fun y => mSub h x y
  | .tup es => (evs L h es).bind fun vs => M.ret (.tup vs)
  | .bi b as => match b with
    | .len => (evs L h as).bind fun vs => mOne vs (mLen h)
    | .range => (evs L h as).bind fun vs => mOne vs fun v => evI v fun b => M.need (smallI b) (.rng 0 b 1)
    | .int => (evs L h as).bind fun vs => mOne vs fun v => evB v fun b => M.ret (.int (if b then 1 else 0))
    | _ => M.fail
  | .slice a lo hi => (ev L h a).bind fun x => (ev L h lo).bind fun y => (ev L h hi).bind fun z => M.ask fun w => M.need (SlW h x y z w) w
  | .not a => (ev L h a).bind fun x => evB x fun x => M.ret (.bool (!x))
  | .cmp op a b => (ev L h a).bind fun x => (ev L h b).bind fun y => (mCmp h op x y).bind fun r => M.ret (.bool r)
  | .isinst a t => (ev L h a).bind fun x => (mIs x t).bind fun r => M.ret (.bool r)
  | .and a b => (ev L h a).bind fun x => evB x fun x => (M.lazy x (fun y => x && y) ((ev L h b).bind fun y => evB y M.ret)).bind fun r => M.ret (.bool r)
  | .cmp2 o1 o2 a b c => (ev L h a).bind fun x => (ev L h b).bind fun y => (mCmp h o1 x y).bind fun r => (M.lazy r (fun z => r && z) ((ev L h c).bind fun z => mCmp h o2 y z)).bind fun r => M.ret (.bool r)
  | _ => M.fail
noncomputable def evs (L : Env) (h : H) : List E → M (List V)
  | [] => M.ret []
  | e :: es => (ev L h e).bind fun v => (evs L h es).bind fun vs => M.ret (v :: vs)
end
noncomputable def evT (L : Env) (h : H) : E → M Bool
  | .not a => (evT L h a).bind fun x => M.ret (!x)
  | .and a b => (evT L h a).bind fun x => M.lazy x (fun y => x && y) (evT L h b)
  | .or a b => (evT L h a).bind fun x => M.lazy (!x) (fun y => x || y) (evT L h b)
  | .cmp op a b => (ev L h a).bind fun x => (ev L h b).bind fun y => mCmp h op x y
  | .cmp2 o1 o2 a b c => (ev L h a).bind fun x => (ev L h b).bind fun y => (mCmp h o1 x y).bind fun r => M.lazy r (fun z => r && z) ((ev L h c).bind fun z => mCmp h o2 y z)
  | .lit v => evB v fun b => M.ret b
  | .var i => (M.of (lk L i)).bind fun v => match isNoneB v with
    | true => M.ret false
    | false => evB v fun b => M.ret b
  | .isinst a t => (ev L h a).bind fun x => mIs x t
  | _ => M.fail

/-! each is sound -/
section
variable {C : Ora} {ρ : Rho} {h : H}
noncomputable def WE (C : Ora) (ρ : Rho) (h : H) (e : E) (K : V → Prop) : Prop := ∀ Q : V → H → Prop, (∀ v, K v → Q v h) → wpE C e ρ h Q
noncomputable def WEs (C : Ora) (ρ : Rho) (h : H) (e : List E) (K : List V → Prop) : Prop := ∀ Q : List V → H → Prop, (∀ v, K v → Q v h) → wpEs C e ρ h Q
noncomputable def WT (C : Ora) (ρ : Rho) (h : H) (e : E) (K : Bool → Prop) : Prop := ∀ Q : Bool → H → Prop, (∀ v, K v → Q v h) → wpT C e ρ h Q
theorem mBin_ok (op : Bop) (a b : V) : Snd (mBin op a b) (fun K => ∀ Q : V → H → Prop, (∀ v, K v → Q v h) → BinW op a b h Q) := by
  cases op with
  | add =>
    cases a with
    | str a => exact .evS fun b e => .need fun p K k Q q => by subst e; exact ⟨p, q _ k⟩
    | int a => exact Snd.evI (v := b) fun b e' => .ret fun K k Q q => by subst e'; exact q _ k
    | _ => exact Snd.fail
  | sub => exact .evI fun a e => .evI fun b e' => .ret fun K k Q q => by subst e; subst e'; exact q _ k
  | mul => exact .evI fun a e => .evI fun b e' => .need fun p K k Q q => by subst e; subst e'; exact ⟨p, q _ k⟩
  | fdiv => exact .evI fun a e => .evI fun b e' => .need fun p K k Q q => by subst e; subst e'; exact ⟨p.1, p.2, q _ k⟩
  | mod => exact .evI fun a e => .evI fun b e' => .need fun p K k Q q => by subst e; subst e'; exact ⟨p, q _ k⟩
theorem mSub_ok (a i : V) : Snd (mSub h a i) (fun K => ∀ R : V → Prop, (∀ v, K v → R v) → SubW a i h R) := by
  have gen : Snd (M.ask fun v => M.need (RdW h a i v) v) (fun K => ∀ R : V → Prop, (∀ v, K v → R v) → SubW a i h R) := .ask fun v => .need fun p K k R q => p R (q v k)
  cases a with
  | tup vs =>
    refine .evI fun k e => ?_
    subst e
    cases k with
    | negSucc => exact Snd.fail
    | ofNat k =>
      show Snd (match Nat.ble k 1000 with | true => M.of (nthV vs k) | false => M.fail) _
      cases hb : Nat.ble k 1000 with
      | false => exact Snd.fail
      | true =>
        have hk := Nat.le_of_ble_eq_true hb
        exact .of fun v hv K kv R q => ⟨v, ⟨Int.natCast_nonneg k, by show (k : Int) < 4611686018427387904; omega⟩, (nthV_get vs k).symm.trans hv, q v kv⟩
  | _ => exact gen
theorem mEq_ok (op : Cmp) (f : Bool → Bool) (a b : V) (hf : ∀ P : Bool → Prop, EqW a b h (fun r => P (f r)) → CmpW op a b h P) : Snd (mEq h op f a b) (fun K => ∀ P : Bool → Prop, (∀ v, K v → P v) → CmpW op a b h P) := by
  have gen : Snd (M.ask fun r => Tw.evB r fun r => M.need (CmW h op a b r) r) (fun K => ∀ P : Bool → Prop, (∀ v, K v → P v) → CmpW op a b h P) := .ask fun v => .evB fun r e => .need fun p K k P q => p P (q r k)
  cases a with
  | int a => exact .evI fun b e => .ret fun K k P q => by subst e; exact hf P (by rw [← x_eq, x_eqi]; exact q _ k)
  | str a => exact .evS fun b e => .ret fun K k P q => by subst e; exact hf P (by rw [← x_eq, x_eqs]; exact q _ k)
  | bool a => exact .evB fun b e => .ret fun K k P q => by subst e; exact hf P (q _ k)
  | _ => exact gen
theorem mCmp_ok (op : Cmp) (a b : V) : Snd (mCmp h op a b) (fun K => ∀ P : Bool → Prop, (∀ v, K v → P v) → CmpW op a b h P) := by
  have gen : Snd (M.ask fun r => Tw.evB r fun r => M.need (CmW h op a b r) r) (fun K => ∀ P : Bool → Prop, (∀ v, K v → P v) → CmpW op a b h P) := .ask fun v => .evB fun r e => .need fun p K k P q => p P (q r k)
  cases op with
  | eq => exact mEq_ok .eq (fun r => r) a b fun P x => x
  | ne => exact mEq_ok .ne (fun r => !r) a b fun P x => x
  | lt => exact .evI fun a e => .evI fun b e' => .ret fun K k Q q => by subst e; subst e'; exact q _ k
  | le => exact .evI fun a e => .evI fun b e' => .ret fun K k Q q => by subst e; subst e'; exact q _ k
  | gt => exact .evI fun a e => .evI fun b e' => .ret fun K k Q q => by subst e; subst e'; exact q _ k
  | ge => exact .evI fun a e => .evI fun b e' => .ret fun K k Q q => by subst e; subst e'; exact q _ k
  | is =>
    cases b with
    | none => exact .ret fun K k P q => by rw [x_isn, isNoneB_eq]; exact q _ k
    | _ => exact Snd.fail
  | isNot =>
    cases b with
    | none => exact .ret fun K k P q => by rw [x_isnn, isNoneB_eq]; exact q _ k
    | _ => exact Snd.fail
  | isIn => exact gen
  | notIn => exact gen
theorem mLen_ok (v : V) : Snd (mLen h v) (fun K => ∀ Q : V → H → Prop, (∀ v, K v → Q v h) → BiW .len [v] h Q) := by
  have gen : Snd (M.ask fun n => M.need (LnW h v n) n) (fun K => ∀ Q : V → H → Prop, (∀ v, K v → Q v h) → BiW .len [v] h Q) := .ask fun n => .need fun p K k Q q => p Q (q n k)
  cases v with
  | str s => exact .ret fun K k Q q => q _ k
  | tup s => exact .ret fun K k Q q => q _ k
  | _ => exact gen
theorem mIs_ok (v : V) (t : Ty) : Snd (mIs v t) (fun K => ∀ P : Bool → Prop, (∀ v, K v → P v) → IsW v t h P) := by
  cases v with
  | bool => exact Snd.fail
  | rng => exact Snd.fail
  | ref => exact Snd.fail
  | _ => exact .ret fun K k Q q => q _ k
variable {L : Env} (ag : Ag L ρ)
include ag
mutual
theorem ev_snd : ∀ (e : E), Snd (ev L h e) (WE C ρ h e)
  | .lit v => .ret fun K k Q q => q _ k
  | .var i => .of fun v e K k Q q => by rw [e_vk, ag i v e]; exact q v k
  | .bin op a b => .mono (.bind (ev_snd a) fun x => .bind (ev_snd b) fun y => mBin_ok op x y) fun K w Q q => w _ fun x w => w _ fun y w => w Q q
  | .neg a => .mono (.bind (W2 := fun x K => ∀ Q : V → H → Prop, (∀ v, K v → Q v h) → asInt x fun i => Q (.int (-i)) h) (ev_snd a) fun x => .evI fun i e => .ret fun K k Q q => by subst e; exact q _ k) fun K w Q q => w _ fun x w => w Q q
  | .sub a b => .mono (.bind (ev_snd a) fun x => .bind (ev_snd b) fun y => mSub_ok x y) fun K w Q q => w _ fun x w => w _ fun y w => w _ q
  | .tup es => .mono (.bind (W2 := fun vs K => K (.tup vs)) (evs_snd es) fun vs => .ret fun K k => k) fun K w Q q => w _ fun vs k => q _ k
  | .bi b as => by
    cases b with
    | len =>
      exact .mono (.bind (W2 := fun vs K => ∀ Q : V → H → Prop, (∀ v, K v → Q v h) → BiW .len vs h Q) (evs_snd as) fun vs => .one fun v e => by subst e; exact mLen_ok v) fun K w Q q => w _ fun vs w => w Q q
    | range =>
      exact .mono (.bind (W2 := fun vs K => ∀ Q : V → H → Prop, (∀ v, K v → Q v h) → BiW .range vs h Q) (evs_snd as) fun vs => .one fun v e => .evI fun b e' => .need fun p K k Q q => by subst e; subst e'; exact ⟨p, q _ k⟩) fun K w Q q => w _ fun vs w => w Q q
    | int =>
      exact .mono (.bind (W2 := fun vs K => ∀ Q : V → H → Prop, (∀ v, K v → Q v h) → BiW .int vs h Q) (evs_snd as) fun vs => .one fun v e => .evB fun b e' => .ret fun K k Q q => by subst e; subst e'; exact q _ k) fun K w Q q => w _ fun vs w => w Q q
    | _ => exact Snd.fail
  | .not a => .mono (.bind (W2 := fun x K => ∀ Q : V → H → Prop, (∀ v, K v → Q v h) → truth x h fun b => Q (.bool (!b)) h) (ev_snd a) fun x => .evB fun i e => .ret fun K k Q q => by subst e; exact q _ k) fun K w Q q => w _ fun x w => w Q q
  | .cmp op a b => .mono (.bind (ev_snd a) fun x => .bind (ev_snd b) fun y => .bind (W2 := fun r K => K (.bool r)) (mCmp_ok op x y) fun r => .ret fun K k => k) fun K w Q q => w _ fun x w => w _ fun y w => w _ fun r k => q _ k
  | .isinst a t => .mono (.bind (ev_snd a) fun x => .bind (W2 := fun r K => K (.bool r)) (mIs_ok x t) fun r => .ret fun K k => k) fun K w Q q => w _ fun x w => w _ fun r k => q _ k
  | .and a b => .mono (.bind (W2 := fun x K => ∀ Q : V → H → Prop, (∀ v, K v → Q v h) → truth x h fun t => match t with | true => wpE C b ρ h Q | false => Q x h) (ev_snd a) fun x => .evB fun i e => by
      subst e
      refine .mono (.bind (W2 := fun r K => K (.bool r)) (.lazy (W := fun K => ∀ Q : V → H → Prop, (∀ r, K r → Q (.bool r) h) → wpE C b ρ h Q) (W' := fun K => ∀ Q : V → H → Prop, (∀ r, K r → Q (.bool r) h) → match i with | true => wpE C b ρ h Q | false => Q (.bool false) h) (.mono (.bind (W2 := fun y K => ∀ Q : V → H → Prop, (∀ r, K r → Q (.bool r) h) → Q y h) (ev_snd b) fun y => .evB fun j e => .ret fun K k Q q => by subst e; exact q _ k) fun K w Q q => w _ fun y w => w Q q) (fun e K w Q q => by subst e; exact w Q fun r k => q _ k) fun e y K k Q q => by subst e; exact q _ k) fun r => .ret fun K k => k) fun K w Q q => ?_
      cases i with
      | true => exact w Q fun r k => q _ k
      | false => exact w Q fun r k => q _ k) fun K w Q q => w _ fun x w => w Q q
  | .cmp2 o1 o2 a b c => .mono (.bind (ev_snd a) fun x => .bind (ev_snd b) fun y => .bind (W2 := fun r K => ∀ Q : V → H → Prop, (∀ v, K v → Q v h) → match r with | true => wpE C c ρ h fun vc h₃ => CmpW o2 y vc h₃ fun r => Q (.bool r) h₃ | false => Q (.bool false) h) (mCmp_ok o1 x y) fun r => .mono (.bind (W2 := fun r K => K (.bool r)) (.lazy (W := fun K => ∀ Q : V → H → Prop, (∀ r, K r → Q (.bool r) h) → wpE C c ρ h fun vc h₃ => CmpW o2 y vc h₃ fun r => Q (.bool r) h₃) (W' := fun K => ∀ Q : V → H → Prop, (∀ r, K r → Q (.bool r) h) → match r with | true => wpE C c ρ h fun vc h₃ => CmpW o2 y vc h₃ fun r => Q (.bool r) h₃ | false => Q (.bool false) h) (.mono (.bind (ev_snd c) fun z => mCmp_ok o2 y z) fun K w Q q => w _ fun z w => w _ q) (fun e K w Q q => by subst e; exact w Q fun v k => q _ k) fun e y K k Q q => by subst e; exact q _ k) fun r => .ret fun K k => k) fun K w Q q => w Q fun r k => q _ k) fun K w Q q => w _ fun x w => w _ fun y w => w _ fun r w => w Q q
  | .or .. => Snd.fail
  | .slice a lo hi => .mono (.bind (ev_snd a) fun x => .bind (ev_snd lo) fun y => .bind (W2 := fun z K => ∀ Q : V → H → Prop, (∀ v, K v → Q v h) → SliceW x y z h Q) (ev_snd hi) fun z => .ask fun w => .need fun p K k Q q => p Q (q w k)) fun K w Q q => w _ fun x w => w _ fun y w => w _ fun z w => w Q q
  | .list .. => Snd.fail
  | .dict0 => Snd.fail
  | .dict1 .. => Snd.fail
  | .comp .. => Snd.fail
  | .call .. => Snd.fail
  | .meth .. => Snd.fail
theorem evs_snd : ∀ (es : List E), Snd (evs L h es) (WEs C ρ h es)
  | [] => .ret fun K k Q q => q _ k
  | e :: es => .mono (.bind (ev_snd e) fun v => .bind (W2 := fun vs K => K (v :: vs)) (evs_snd es) fun vs => .ret fun K k => k) fun K w Q q => w _ fun v w => w _ fun vs k => q _ k
end
theorem evT_snd : ∀ (e : E), Snd (evT L h e) (WT C ρ h e)
  | .not a => .mono (.bind (W2 := fun x K => K (!x)) (evT_snd a) fun x => .ret fun K k => k) fun K w Q q => w _ fun x k => q _ k
  | .and a b => .mono (.bind (W2 := fun x K => ∀ Q : Bool → H → Prop, (∀ v, K v → Q v h) → match x with | true => wpT C b ρ h Q | false => Q false h) (evT_snd a) fun x => .lazy (evT_snd b) (fun e K w Q q => by subst e; exact w Q fun v k => q _ k) fun e y K k Q q => by subst e; exact q _ k) fun K w Q q => w _ fun x w => w Q q
  | .or a b => .mono (.bind (W2 := fun x K => ∀ Q : Bool → H → Prop, (∀ v, K v → Q v h) → match x with | true => Q true h | false => wpT C b ρ h Q) (evT_snd a) fun x => by
      cases x with
      | true => exact .lazy (evT_snd b) (fun e => nomatch e) fun e y K k Q q => q _ k
      | false => exact .lazy (evT_snd b) (fun e K w Q q => w Q fun v k => q _ k) fun e => nomatch e) fun K w Q q => w _ fun x w => w Q q
  | .cmp op a b => .mono (.bind (ev_snd ag a) fun x => .bind (ev_snd ag b) fun y => mCmp_ok op x y) fun K w Q q => w _ fun x w => w _ fun y w => w _ q
  | .cmp2 o1 o2 a b c => .mono (.bind (ev_snd ag a) fun x => .bind (ev_snd ag b) fun y => .bind (W2 := fun r K => ∀ Q : Bool → H → Prop, (∀ v, K v → Q v h) → match r with | true => wpE C c ρ h fun vc h₃ => CmpW o2 y vc h₃ fun r => Q r h₃ | false => Q false h) (mCmp_ok o1 x y) fun r => .lazy (W := fun K => ∀ Q : Bool → H → Prop, (∀ v, K v → Q v h) → wpE C c ρ h fun vc h₃ => CmpW o2 y vc h₃ fun r => Q r h₃) (.mono (.bind (ev_snd ag c) fun z => mCmp_ok o2 y z) fun K w Q q => w _ fun z w => w _ q) (fun e K w Q q => by subst e; exact w Q fun v k => q _ k) fun e y K k Q q => by subst e; exact q _ k) fun K w Q q => w _ fun x w => w _ fun y w => w _ fun r w => w Q q
  | .lit v => .evB fun i e => .ret fun K k Q q => by subst e; exact q _ k
  | .var i => .mono (.bind (W1 := fun K => ∃ v, lk L i = some v ∧ K v) (W2 := fun v K => ∀ Q : Bool → H → Prop, (∀ v, K v → Q v h) → truth v h fun b => Q b h) (.of fun v e K k => ⟨v, e, k⟩) fun v => by
      cases v with
      | none => exact .ret fun K k Q q => q _ k
      | bool => exact .ret fun K k Q q => q _ k
      | _ => exact Snd.fail) fun K ⟨v, e, w⟩ Q q => by rw [t_vk, ag i v e]; exact w Q q
  | .isinst a t => .mono (.bind (ev_snd ag a) fun x => mIs_ok x t) fun K w Q q => w _ fun x w => w _ q
  | .bin .. => Snd.fail
  | .neg .. => Snd.fail
  | .sub .. => Snd.fail
  | .slice .. => Snd.fail
  | .tup .. => Snd.fail
  | .list .. => Snd.fail
  | .dict0 => Snd.fail
  | .dict1 .. => Snd.fail
  | .comp .. => Snd.fail
  | .call .. => Snd.fail
  | .bi .. => Snd.fail
  | .meth .. => Snd.fail
end
end Tw
end

section
namespace Tw

noncomputable def natV (n : Nat) : V := .int n

/-! rules over known environments -/
noncomputable def AE (C : Ora) (L : Env) (h : H) (e : E) (Q : V → H → Prop) : Prop := ∀ ρ, Ag L ρ → wpE C e ρ h Q
noncomputable def AB (C : Ora) (L : Env) (h : H) (r : List S) (Q : Out → Rho → H → Prop) : Prop := ∀ ρ, Ag L ρ → wpB C r ρ h Q
noncomputable def bindA (t : Tgt) (v : V) (L : Env) (K : Env → Prop) : Prop := match t with
  | .name i => K ((i, v) :: L)
  | .tup is => asTup v fun vs => is.length = vs.length ∧ K (pushs L is vs)
theorem bindA_ok {t : Tgt} {v : V} {L : Env} {K : Env → Prop} {ρ : Rho} {Q : Rho → Prop} (a : Ag L ρ) (x : bindA t v L K) (q : ∀ L' ρ', Ag L' ρ' → K L' → Q ρ') : bindT t v ρ Q := by
  cases t with
  | name i => exact q _ _ a.push x
  | tup is => exact asTup.mono (fun vs y => ⟨y.1, q _ _ (Ag.pushs is vs a) y.2⟩) x

section
variable {C : Ora} {L : Env} {h : H} {r : List S} {Q : Out → Rho → H → Prop} {e : E} {g g' : List V} {c : List Prop} {v : V}
theorem A_fn {vs : List V} (x : AB C (argsL 0 vs) h r Q) : wpB C r (argsR vs) h Q := x _ (ag_args vs)
theorem A_ev {Q : V → H → Prop} (x : ev L h e g = some (v, c, g')) (hc : AllP c) (q : Q v h) : AE C L h e Q := fun ρ ag => ev_snd ag e g v c g' x hc (fun w => w = v) rfl Q fun w e => e ▸ q
theorem A_set {i : Nat} (x : ev L h e g = some (v, c, g')) (hc : AllP c) (q : AB C ((i, v) :: L) h r Q) : AB C L h (.assign (.name i) e :: r) Q := fun ρ ag => A_ev (C := C) (Q := fun w h₁ => bindT (.name i) w ρ fun ρ' => wpB C r ρ' h₁ Q) x hc (q _ ag.push) ρ ag
theorem A_sets {is : List Nat} {vs : List V} (x : ev L h e g = some (.tup vs, c, g')) (hc : AllP c) (hl : is.length = vs.length) (q : AB C (pushs L is vs) h r Q) : AB C L h (.assign (.tup is) e :: r) Q := fun ρ ag => A_ev (C := C) (Q := fun w h₁ => bindT (.tup is) w ρ fun ρ' => wpB C r ρ' h₁ Q) x hc ⟨hl, q _ (Ag.pushs is vs ag)⟩ ρ ag
theorem A_ret (x : ev L h e g = some (v, c, g')) (hc : AllP c) (q : ∀ ρ, Q (.ret v) ρ h) : AB C L h (.ret (some e) :: r) Q := fun ρ ag => A_ev (C := C) (Q := fun w h₁ => Q (.ret w) ρ h₁) x hc (q ρ) ρ ag
theorem A_nil (q : ∀ ρ, Ag L ρ → Q .next ρ h) : AB C L h [] Q := q
theorem A_then (q : AB C L h r Q) : AB C L h [] (thenB C r Q) := q
theorem A_if {t : E} {a b : List S} {x : Bool} (he : evT L h t g = some (x, c, g')) (hc : AllP c) (h1 : x = true → AB C L h a (thenB C r Q)) (h2 : x = false → AB C L h b (thenB C r Q)) : AB C L h (.ite t a b :: r) Q := fun ρ ag =>
  B_ite (evT_snd ag t g x c g' he hc (fun y => y = x) rfl _ fun y e => by
    subst e
    cases y with
    | true => exact h1 rfl ρ ag
    | false => exact h2 rfl ρ ag)
theorem A_list0 {i : Nat} (q : AB C ((i, .ref h.length) :: L) (h ++ [.list []]) r Q) : AB C L h (.assign (.name i) (.list []) :: r) Q := fun ρ ag => q _ ag.push
theorem A_dict0 {i : Nat} (q : ∀ ver, AB C ((i, .ref h.length) :: L) (h ++ [.dict [] ver]) r Q) : AB C L h (.assign (.name i) .dict0 :: r) Q := fun ρ ag ver => q ver _ ag.push
theorem A_app {i n : Nat} {vs : List V} (hi : lk L i = some (.ref n)) (hn : h[n]? = some (.list vs)) (hl : vs.length < SZ) (x : ev L h e g = some (v, c, g')) (hc : AllP c) (q : AB C L (h.set n (.list (vs ++ [v]))) r Q) : AB C L h (.expr (.meth .append (.var i) [e]) :: r) Q := fun ρ ag => by
  refine B_expr ?_
  rw [e_meth, e_vk, ag i _ hi]
  refine ⟨⟨vs, hn⟩, ?_⟩
  rw [es_cons]
  refine A_ev (C := C) (Q := fun v h₁ => wpEs C [] ρ h₁ fun vs h₂ => MethW .append (.ref n) (v :: vs) h₂ fun _ h₁ => wpB C r ρ h₁ Q) x hc ?_ ρ ag
  rw [es_nil, x_app hn]
  exact ⟨hl, q ρ ag⟩
/-- append to what an expression names -/
theorem A_appE {o : E} {n : Nat} {vs : List V} {g₂ g₂' : List V} {c₂ : List Prop} (y : ev L h o g₂ = some (.ref n, c₂, g₂')) (hc₂ : AllP c₂) (hn : h[n]? = some (.list vs)) (hl : vs.length < SZ) (x : ev L h e g = some (v, c, g')) (hc : AllP c) (q : AB C L (h.set n (.list (vs ++ [v]))) r Q) : AB C L h (.expr (.meth .append o [e]) :: r) Q := fun ρ ag => by
  refine B_expr ?_
  rw [e_meth]
  refine A_ev (C := C) (Q := fun vo h₁ => recvOk .append vo h₁ ∧ wpEs C [e] ρ h₁ fun vs h₂ => MethW .append vo vs h₂ fun _ h₁ => wpB C r ρ h₁ Q) y hc₂ ⟨⟨vs, hn⟩, ?_⟩ ρ ag
  rw [es_cons]
  refine A_ev (C := C) (Q := fun v h₁ => wpEs C [] ρ h₁ fun vs h₂ => MethW .append (.ref n) (v :: vs) h₂ fun _ h₁ => wpB C r ρ h₁ Q) x hc ?_ ρ ag
  rw [es_nil, x_app hn]
  exact ⟨hl, q ρ ag⟩
theorem A_callE {f : Nat} {as : List E} {vs : List V} {Q : V → H → Prop} (x : evs L h as g = some (vs, c, g')) (hc : AllP c) (q : C f vs h Q) : AE C L h (.call f as) Q := fun ρ ag => evs_snd ag as g vs c g' x hc (fun w => w = vs) rfl _ fun w e => by rw [e]; exact q
variable (hC : MonoC C)
include hC
theorem A_name {i : Nat} (x : AE C L h e fun v h₁ => AB C ((i, v) :: L) h₁ r Q) : AB C L h (.assign (.name i) e :: r) Q := fun ρ ag => wpE_mono hC e (fun v h₁ y => y _ ag.push) (x ρ ag)
theorem A_tup {is : List Nat} (x : AE C L h e fun v h₁ => ∃ vs, v = .tup vs ∧ is.length = vs.length ∧ AB C (pushs L is vs) h₁ r Q) : AB C L h (.assign (.tup is) e :: r) Q := fun ρ ag => wpE_mono hC e (fun v h₁ ⟨vs, e, hl, y⟩ => by rw [e]; exact ⟨hl, y _ (Ag.pushs is vs ag)⟩) (x ρ ag)
theorem A_call {i f : Nat} {as : List E} {vs : List V} (x : evs L h as g = some (vs, c, g')) (hc : AllP c) (q : C f vs h fun v h₁ => AB C ((i, v) :: L) h₁ r Q) : AB C L h (.assign (.name i) (.call f as) :: r) Q := A_name hC (A_callE x hc q)
theorem A_calls {is : List Nat} {f : Nat} {as : List E} {vs : List V} (x : evs L h as g = some (vs, c, g')) (hc : AllP c) (q : C f vs h fun v h₁ => ∃ vs, v = .tup vs ∧ is.length = vs.length ∧ AB C (pushs L is vs) h₁ r Q) : AB C L h (.assign (.tup is) (.call f as) :: r) Q := A_tup hC (A_callE x hc q)
theorem A_callX {f : Nat} {as : List E} {vs : List V} (x : evs L h as g = some (vs, c, g')) (hc : AllP c) (q : C f vs h fun v h₁ => AB C L h₁ r Q) : AB C L h (.expr (.call f as) :: r) Q := fun ρ ag => B_expr (wpE_mono hC _ (fun v h₁ y => y ρ ag) (A_callE (Q := fun v h₁ => AB C L h₁ r Q) x hc q ρ ag))
/-- a loop: at its head the environment is L₀ of some state -/
theorem A_for {σ : Type} {t : Tgt} {b : List S} {it : Nat → It} {vs : List V} {K : H → Prop} (go : Goes it vs K) (L₀ : σ → Env) (I : Nat → σ → H → Prop) (s₀ : σ) (hin : AllIn (L₀ s₀) L) (x : AE C L h e fun v h₁ => (∀ Q : It → Prop, Q (it 0) → IterW v h₁ Q) ∧ I 0 s₀ h₁) (hl : ∀ i s h, I i s h → K h)
    (step : ∀ i v s h, vs[i]? = some v → I i s h → bindA t v (L₀ s) fun L' => AB C L' h b fun o ρ' h' => match o with | .next => ∃ s', Ag (L₀ s') ρ' ∧ I (i + 1) s' h' | .ret w => Q (.ret w) ρ' h') (fin : ∀ s h, I vs.length s h → AB C (L₀ s) h r Q) : AB C L h (.for t e b :: r) Q := fun ρ ag => by
  refine B_for_it hC go (fun i ρ' h' => ∃ s, Ag (L₀ s) ρ' ∧ I i s h') (wpE_mono hC e (fun v h₁ y => ⟨y.1, s₀, AllIn.ag ag hin, y.2⟩) (x ρ ag)) (fun i ρ' h' ⟨s, _, y⟩ => hl i s h' y) ?_ fun ρ' h' ⟨s, a, y⟩ => fin s h' y ρ' a
  rintro i v ρ' h' hv ⟨s, a, y⟩
  exact bindA_ok a (step i v s h' hv y) fun L' ρ'' a' z => z ρ'' a'
theorem A_while {σ : Type} {t : E} {b : List S} (L₀ : σ → Env) (I : Nat → σ → H → Prop) (n : Nat) (s₀ : σ) (hin : AllIn (L₀ s₀) L) (h0 : I n s₀ h)
    (step : ∀ n s h, I n s h → ∀ ρ, Ag (L₀ s) ρ → wpT C t ρ h fun c h₁ => match c with
      | true => AB C (L₀ s) h₁ b fun o ρ' h' => match o with | .next => ∃ m s', m < n ∧ Ag (L₀ s') ρ' ∧ I m s' h' | .ret w => Q (.ret w) ρ' h'
      | false => AB C (L₀ s) h₁ r Q) : AB C L h (.while t b :: r) Q := fun ρ ag => by
  refine B_while hC (fun n ρ' h' => ∃ s, Ag (L₀ s) ρ' ∧ I n s h') n ⟨s₀, AllIn.ag ag hin, h0⟩ ?_
  rintro n ρ' h' ⟨s, a, y⟩
  refine wpT_mono hC t (fun c h₁ z => ?_) (step n s h' y ρ' a)
  cases c with
  | true =>
    refine wpB_mono hC b (fun o ρ'' h'' w => ?_) (z ρ' a)
    cases o with
    | next => obtain ⟨m, s', hm, a', w⟩ := w; exact ⟨m, hm, s', a', w⟩
    | ret => exact w
  | false => exact z ρ' a
omit hC in
theorem A_next {σ : Type} {L₀ : σ → Env} {P : σ → H → Prop} {R : V → Rho → H → Prop} (s : σ) (hin : AllIn (L₀ s) L) (x : P s h) : AB C L h [] (fun o ρ' h' => match o with | .next => ∃ s', Ag (L₀ s') ρ' ∧ P s' h' | .ret w => R w ρ' h') := fun ρ ag => ⟨s, AllIn.ag ag hin, x⟩
omit hC in
theorem A_again {σ : Type} {L₀ : σ → Env} {P : Nat → σ → H → Prop} {R : V → Rho → H → Prop} {n : Nat} (m : Nat) (s : σ) (hm : m < n) (hin : AllIn (L₀ s) L) (x : P m s h) : AB C L h [] (fun o ρ' h' => match o with | .next => ∃ m s', m < n ∧ Ag (L₀ s') ρ' ∧ P m s' h' | .ret w => R w ρ' h') := fun ρ ag => ⟨m, s, hm, AllIn.ag ag hin, x⟩

/-- a loop whose turn appends a list of values -/
theorem A_for_flat {α : Type} {l : List α} {f : α → V} {ff : α → List V} {t : Tgt} {it : Nat → It} {K : H → Prop} {b : List S} {ld : Nat} {base : List V} {L₀ : Env} (go : Goes it (l.map f) K) (hin : AllIn L₀ L) (hL : h[ld]? = some (.list base)) (he : ev L h e g = some (v, c, g')) (hc : AllP c) (hv : ∀ Q : It → Prop, Q (it 0) → IterW v h Q) (hK : ∀ out, K (h.set ld (.list out)))
    (step : ∀ i a, l[i]? = some a → bindA t (f a) L₀ fun L' => ∀ R : Out → Rho → H → Prop, (∀ ρ, Ag L₀ ρ → R .next ρ (h.set ld (.list (base ++ (l.take i).flatMap ff ++ ff a)))) → AB C L' (h.set ld (.list (base ++ (l.take i).flatMap ff))) b R)
    (fin : AB C L₀ (h.set ld (.list (base ++ l.flatMap ff))) r Q) : AB C L h (.for t e b :: r) Q := by
  refine A_for hC go (fun _ : Unit => L₀) (fun i _ h' => h' = h.set ld (.list (base ++ (l.take i).flatMap ff))) () hin (A_ev he hc ⟨hv, by simp [set_same hL]⟩) (fun i _ h' e => by rw [e]; exact hK _) ?_ fun _ h' e => by rw [e, List.length_map, List.take_length]; exact fin
  rintro i v _ h' hv' rfl
  obtain ⟨a, ha, rfl, hil⟩ := map_at hv'
  have et : base ++ (l.take (i + 1)).flatMap ff = base ++ (l.take i).flatMap ff ++ ff a := by rw [List.take_add_one, ha]; simp
  rw [et]
  have st := step i a ha
  cases t with
  | name j => exact st _ fun ρ ag => ⟨(), ag, rfl⟩
  | tup is => exact asTup.mono (fun vs y => ⟨y.1, y.2 _ fun ρ ag => ⟨(), ag, rfl⟩⟩) st
end
section
variable {C : Ora} {L : Env} {h : H} {r : List S} {Q : Out → Rho → H → Prop} {e : E} {g g' : List V} {c : List Prop} {v : V}
theorem A_bi {b : Bi} {as : List E} {vs : List V} {Q : V → H → Prop} (x : evs L h as g = some (vs, c, g')) (hc : AllP c) (q : BiW b vs h Q) : AE C L h (.bi b as) Q := fun ρ ag => evs_snd ag as g vs c g' x hc (fun w => w = vs) rfl _ fun w e => by rw [e]; exact q
theorem A_bin {op : Bop} {a b : E} {Q : V → H → Prop} (hC : MonoC C) (x : AE C L h a fun v h₁ => AE C L h₁ b fun w h₂ => BinW op v w h₂ Q) : AE C L h (.bin op a b) Q := fun ρ ag => wpE_mono hC a (fun v h₁ y => y ρ ag) (x ρ ag)
theorem A_list {i : Nat} {es : List E} {vs : List V} (x : evs L h es g = some (vs, c, g')) (hc : AllP c) (q : AB C ((i, .ref h.length) :: L) (h ++ [.list vs]) r Q) : AB C L h (.assign (.name i) (.list es) :: r) Q := fun ρ ag => evs_snd ag es g vs c g' x hc (fun w => w = vs) rfl _ fun w e => by rw [e]; exact q _ ag.push
theorem A_put {o n ver : Nat} {es : List (V × V)} {k : E} {vk : V} {g₂ g₂' : List V} {c₂ : List Prop} (ho : lk L o = some (.ref n)) (hn : h[n]? = some (.dict es ver)) (x : ev L h k g₂ = some (vk, c₂, g₂')) (hc₂ : AllP c₂) (y : ev L h e g = some (v, c, g')) (hc : AllP c) (hk : vk.isKey = true) (hl : es.length < SZ) (q : ∀ ver, AB C L (h.set n (.dict (dput es vk v) ver)) r Q) : AB C L h (.store (.var o) k e :: r) Q := fun ρ ag => by
  refine B_store (A_ev (C := C) (Q := fun v h₁ => wpE C (.var o) ρ h₁ fun vo h₂ => wpE C k ρ h₂ fun vi h₃ => StoreW vo vi v h₃ fun h₄ => wpB C r ρ h₄ Q) y hc ?_ ρ ag)
  rw [e_vk, ag o _ ho]
  refine A_ev (C := C) (Q := fun vi h₃ => StoreW (.ref n) vi v h₃ fun h₄ => wpB C r ρ h₄ Q) x hc₂ ?_ ρ ag
  rw [x_std hn]
  exact ⟨hk, hl, fun ver => q ver ρ ag⟩
variable (hC : MonoC C)
include hC
theorem A_retE (x : AE C L h e fun v h₁ => ∀ ρ, Q (.ret v) ρ h₁) : AB C L h (.ret (some e) :: r) Q := fun ρ ag => B_ret (wpE_mono hC e (fun v h₁ y => y ρ) (x ρ ag))
theorem A_forE {t : Tgt} {b : List S} (x : AE C L h e fun v h₁ => AB C L h₁ (.for t (.lit v) b :: r) Q) : AB C L h (.for t e b :: r) Q := fun ρ ag => wpE_mono hC e (fun v h₁ y => y ρ ag) (x ρ ag)
theorem A_whileT {σ : Type} {t : E} {b : List S} (L₀ : σ → Env) (I : Nat → σ → H → Prop) (n : Nat) (s₀ : σ) (hin : AllIn (L₀ s₀) L) (h0 : I n s₀ h)
    (step : ∀ n s h, I n s h → ∃ g x c g', evT (L₀ s) h t g = some (x, c, g') ∧ AllP c ∧ (x = true → AB C (L₀ s) h b fun o ρ' h' => match o with | .next => ∃ m s', m < n ∧ Ag (L₀ s') ρ' ∧ I m s' h' | .ret w => Q (.ret w) ρ' h') ∧ (x = false → AB C (L₀ s) h r Q)) : AB C L h (.while t b :: r) Q :=
  A_while hC L₀ I n s₀ hin h0 fun n s h hi ρ ag => by
    obtain ⟨g, x, c, g', h1, h2, h3, h4⟩ := step n s h hi
    refine evT_snd ag t _ _ _ _ h1 h2 (fun y => y = x) rfl _ fun y e => ?_
    subst e
    cases y with
    | true => exact h3 rfl
    | false => exact h4 rfl
theorem A_compE {elt : E} {tgt : Tgt} {cond : Option E} {Q : V → H → Prop} (x : AE C L h e fun v h₁ => AE C L h₁ (.comp elt tgt (.lit v) cond) Q) : AE C L h (.comp elt tgt e cond) Q := fun ρ ag => wpE_mono hC e (fun v h₁ y => y ρ ag) (x ρ ag)
theorem A_comp {α : Type} {l : List α} {f : α → V} {w : α → V} {elt : E} {tgt : Tgt} {it : Nat → It} {K : H → Prop} {Q : V → H → Prop} (go : Goes it (l.map f) K) (he : ev L h e g = some (v, c, g')) (hc : AllP c) (hv : ∀ Q : It → Prop, Q (it 0) → IterW v h Q) (hK : K h) (hl : l.length ≤ SZ)
    (step : ∀ a ∈ l, bindA tgt (f a) L fun L' => ∃ g₀ cs g₁, ev L' h elt g₀ = some (w a, cs, g₁) ∧ AllP cs) (q : Q (.ref h.length) (h ++ [.list (l.map w)])) : AE C L h (.comp elt tgt e none) Q := fun ρ ag => by
  refine E_comp_pure hC (g := fun a => some (w a)) go (A_ev (C := C) (Q := fun u h₁ => (∀ Q : It → Prop, Q (it 0) → IterW u h Q) ∧ h₁ = h) he hc ⟨hv, rfl⟩ ρ ag) hK hl (fun a ha => ?_) (by rw [List.filterMap_eq_map']; exact q)
  refine bindA_ok ag (step a ha) fun L' ρ' a' z => ⟨rfl, rfl, fun u hu => ?_⟩
  obtain ⟨g₀, cs, g₁, h1, h2⟩ := z
  cases hu
  exact ev_snd a' elt _ _ _ _ h1 h2 (fun y => y = w a) rfl _ fun y e => ⟨e, rfl⟩
theorem A_compIf {α : Type} {l : List α} {f : α → V} {ga : α → Option V} {elt t : E} {tgt : Tgt} {it : Nat → It} {K : H → Prop} {Q : V → H → Prop} (go : Goes it (l.map f) K) (he : ev L h e g = some (v, c, g')) (hc : AllP c) (hv : ∀ Q : It → Prop, Q (it 0) → IterW v h Q) (hK : K h) (hl : l.length ≤ SZ)
    (step : ∀ a ∈ l, bindA tgt (f a) L fun L' => ∃ g₀ b cs g₁, evT L' h t g₀ = some (b, cs, g₁) ∧ AllP cs ∧ b = (ga a).isSome ∧ ∀ w, ga a = some w → ∃ g₀ cs g₁, ev L' h elt g₀ = some (w, cs, g₁) ∧ AllP cs) (q : Q (.ref h.length) (h ++ [.list (l.filterMap ga)])) : AE C L h (.comp elt tgt e (some t)) Q := fun ρ ag => by
  refine E_comp_pure hC (g := ga) go (A_ev (C := C) (Q := fun u h₁ => (∀ Q : It → Prop, Q (it 0) → IterW u h Q) ∧ h₁ = h) he hc ⟨hv, rfl⟩ ρ ag) hK hl (fun a ha => ?_) q
  refine bindA_ok ag (step a ha) fun L' ρ' a' z => ?_
  obtain ⟨g₀, b, cs, g₁, h1, h2, h3, h4⟩ := z
  refine evT_snd a' t _ _ _ _ h1 h2 (fun y => y = b) rfl _ fun y e => ⟨rfl, e.trans h3, fun w hw => ?_⟩
  obtain ⟨g₀, cs, g₁, h5, h6⟩ := h4 w hw
  exact ev_snd a' elt _ _ _ _ h5 h6 (fun y => y = w) rfl _ fun y e => ⟨e, rfl⟩
end
theorem no_b {p : Prop} (h : false = true) : p := nomatch h
theorem isS_if {α : Type} {p : Prop} [Decidable p] {x : α} {b : Bool} (h : b = decide p) : b = (if p then some x else none).isSome := by
  rw [h]; by_cases hp : p <;> simp [hp]
theorem some_if {α : Type} {p : Prop} [Decidable p] {x w : α} (h : (if p then some x else none) = some w) : p ∧ x = w := by
  by_cases hp : p
  · rw [if_pos hp] at h; exact ⟨hp, Option.some.inj h⟩
  · rw [if_neg hp] at h; cases h
theorem fm_filter {α β : Type} {p : α → Prop} [DecidablePred p] {f : α → β} (l : List α) : l.filterMap (fun a => if p a then some (f a) else none) = (l.filter fun a => decide (p a)).map f := by
  induction l with
  | nil => rfl
  | cons a r ih => by_cases hp : p a <;> simp [hp, ih]
/-! what the heap answers -/
theorem ln_map {α : Type} {f : α → V} {l : List α} {h : H} {n : Nat} (x : h[n]? = some (.list (l.map f))) : LnW h (.ref n) (.int l.length) := fun Q q => by rw [x_lenl x, List.length_map]; exact q
theorem rd_list {h : H} {n k : Nat} {vs : List V} {v : V} (x : h[n]? = some (.list vs)) (hk : k < 2 ^ 62) (y : vs[k]? = some v) : RdW h (.ref n) (.int k) v := fun R q => x_sln x hk y q
theorem rd_dict {h : H} {n ver : Nat} {es : List (V × V)} {i v : V} (x : h[n]? = some (.dict es ver)) (hk : i.isKey = true) (y : dget es i = some v) : RdW h (.ref n) i v := fun R q => by rw [x_sd x]; exact ⟨hk, v, y, q⟩
theorem cm_in {h : H} {n ver : Nat} {es : List (V × V)} {a : V} {p : Prop} [Decidable p] (x : h[n]? = some (.dict es ver)) (hk : a.isKey = true) (hp : a ∈ es.map (·.1) ↔ p) : CmW h .isIn a (.ref n) (decide p) := fun P q => by rw [x_ind x]; exact ⟨hk, by rw [decide_eq_decide.mpr hp]; exact q⟩
theorem cm_nin {h : H} {n ver : Nat} {es : List (V × V)} {a : V} {p : Prop} [Decidable p] (x : h[n]? = some (.dict es ver)) (hk : a.isKey = true) (hp : a ∈ es.map (·.1) ↔ p) : CmW h .notIn a (.ref n) (!decide p) := fun P q => by rw [x_nid x]; exact ⟨hk, by rw [decide_eq_decide.mpr hp]; exact q⟩
theorem it_list {h : H} {n : Nat} {vs : List V} (x : h[n]? = some (.list vs)) : ∀ Q : It → Prop, Q (.seq n 0) → IterW (.ref n) h Q := fun Q q => iter_list x q
theorem range_map (n : Nat) : rangeV 0 n 1 = (List.range n).map natV := by
  rw [rangeV_nat]
  apply List.ext_getElem?
  intro i
  rw [ints_get, List.getElem?_map]
  by_cases h : i < n
  · rw [if_pos h, List.getElem?_range h]; simp [natV]
  · rw [if_neg h, List.getElem?_eq_none (by simpa using h)]; rfl
theorem goes_range (n : Nat) : Goes (fun i => .vals ((rangeV 0 n 1).drop i)) ((List.range n).map natV) fun _ => True := range_map n ▸ goes_vals (rangeV 0 n 1)
end Tw
end

section
namespace Tw

noncomputable def sgA : List Nat := [32, 33, 34, 35, 36, 38, 39, 40, 41, 42, 43, 44, 45, 46, 47, 48, 49, 50, 51, 52, 53, 54, 55, 56, 57, 58, 59, 60, 61, 62, 63, 64, 65, 66, 67, 68, 69, 70, 71, 72, 73, 74, 75, 76, 77, 78, 79, 80, 81, 82, 83, 84, 85, 86, 87, 88, 89, 90, 91, 92, 93, 94, 95, 96]
noncomputable def sgB : List Nat := [97, 98, 99, 100, 101, 102, 103, 104, 105, 106, 107, 108, 109, 110, 111, 112, 113, 114, 115, 116, 117, 118, 119, 120, 121, 122, 123, 124, 125, 126]

noncomputable def fn_need : Fn := ⟨1, [
  .ite (.not (.var 0)) [
    .raise] []]⟩
noncomputable def fn_checked : Fn := ⟨1, [
  .assign (.tup [1, 2, 3, 4]) (.var 0),
  .expr (.call 0 [(.and (.cmp2 .le .le (.lit (.int 1)) (.var 1) (.lit (.int 100))) (.and (.cmp2 .le .lt (.lit (.int 0)) (.var 2) (.var 1)) (.cmp .le (.bi .len [(.var 4)]) (.lit (.int 1000)))))]),
  .assign (.name 5) .dict0,
  .for (.name 6) (.var 3) [
    .expr (.call 0 [(.cmp2 .le .lt (.lit (.int 0)) (.var 6) (.var 1))]),
    .store (.var 5) (.var 6) (.lit (.bool true))],
  .for (.tup [7, 8, 9, 10]) (.var 4) [
    .expr (.call 0 [(.and (.cmp2 .le .lt (.lit (.int 0)) (.var 7) (.var 1)) (.and (.cmp2 .le .lt (.lit (.int 0)) (.var 10) (.var 1)) (.and (.cmp .le (.bi .len [(.var 8)]) (.lit (.int 1))) (.cmp .le (.bi .len [(.var 9)]) (.lit (.int 1))))))])],
  .ret (some (.tup [(.var 1), (.var 2), (.var 5), (.bi .list [(.var 4)])]))]⟩
noncomputable def fn_leaving : Fn := ⟨2, [
  .assign (.name 2) (.comp (.list []) (.name 7) (.bi .range [(.var 0)]) none),
  .for (.name 3) (.bi .range [(.bi .len [(.var 1)])]) [
    .expr (.meth .append (.sub (.var 2) (.sub (.sub (.var 1) (.var 3)) (.lit (.int 0)))) [(.var 3)])],
  .ret (some (.var 2))]⟩
noncomputable def fn__law_cell : Fn := ⟨2, [
  .ite (.cmp .lt (.var 1) (.bi .len [(.var 0)])) [
    .ret (some (.sub (.var 0) (.var 1)))] [],
  .ret (some (.lit (.int 0)))]⟩
noncomputable def fn__law_signs : Fn := ⟨1, [
  .assign (.name 1) (.lit (.str sgA)),
  .assign (.name 1) (.bin .add (.var 1) (.lit (.str sgB))),
  .assign (.name 2) (.bin .mod (.bin .add (.bin .add (.var 0) (.lit (.int 1))) (.bin .mod (.bin .fdiv (.var 0) (.lit (.int 94))) (.lit (.int 46)))) (.lit (.int 94))),
  .assign (.name 3) (.bin .mod (.bin .add (.bin .add (.var 0) (.lit (.int 47))) (.bin .mod (.bin .fdiv (.var 0) (.lit (.int 4324))) (.lit (.int 46)))) (.lit (.int 94))),
  .ret (some (.list [(.lit (.str [])), (.sub (.var 1) (.bin .mod (.var 0) (.lit (.int 94)))), (.sub (.var 1) (.var 2)), (.sub (.var 1) (.var 3))]))]⟩
noncomputable def fn__law_whole : Fn := ⟨1, [
  .ret (some (.and (.isinst (.var 0) .int) (.not (.isinst (.var 0) .bool))))]⟩
noncomputable def fnMach (a b : Int) : Fn := ⟨3, [
  .assign (.name 3) (.bin .add (.lit (.int 1)) (.bin .mod (.var 0) (.lit (.int a)))),
  .assign (.name 4) (.list []),
  .assign (.name 5) (.bin .fdiv (.bin .mod (.bin .mul (.var 0) (.lit (.int 48271))) (.lit (.int 2147483647))) (.lit (.int b))),
  .for (.name 6) (.bi .range [(.var 3)]) [
    .ite (.or (.cmp .eq (.bin .mod (.var 5) (.lit (.int 3))) (.lit (.int 0))) (.and (.cmp .eq (.bin .add (.var 6) (.lit (.int 1))) (.var 3)) (.cmp .eq (.var 4) (.list [])))) [
      .expr (.meth .append (.var 4) [(.var 6)])] [],
    .assign (.name 5) (.bin .fdiv (.var 5) (.lit (.int 3)))],
  .assign (.name 7) (.list []),
  .for (.name 8) (.var 1) [
    .assign (.name 8) (.bin .mod (.bin .mul (.var 8) (.lit (.int 48271))) (.lit (.int 2147483647))),
    .assign (.name 9) (.sub (.var 2) (.bin .mod (.var 8) (.lit (.int 4)))),
    .assign (.name 10) (.sub (.var 2) (.bin .mod (.bin .fdiv (.var 8) (.lit (.int 4))) (.lit (.int 4)))),
    .expr (.meth .append (.var 7) [(.tup [(.bin .mod (.bin .fdiv (.var 8) (.lit (.int 16))) (.var 3)), (.var 9), (.var 10), (.bin .mod (.bin .fdiv (.bin .fdiv (.var 8) (.lit (.int 16))) (.var 3)) (.var 3))])])],
  .ret (some (.tup [(.var 3), (.bin .mod (.bin .fdiv (.var 0) (.lit (.int a))) (.var 3)), (.var 4), (.var 7)]))]⟩
end Tw
end

section
namespace Tw

/-! machines, plain -/
structure Mv where
  s : Nat
  t : List Nat
  g : List Nat
  q : Nat
structure Ma where
  n : Nat
  b : Nat
  ends : List Nat
  moves : List Mv
noncomputable def Mv.v (m : Mv) : V := .tup [.int m.s, .str m.t, .str m.g, .int m.q]
structure Ma.ok (M : Ma) : Prop where
  n1 : 1 ≤ M.n
  n2 : M.n ≤ 100
  b1 : M.b < M.n
  l1 : M.moves.length ≤ 1000
  l2 : M.ends.length ≤ 1000
  e1 : ∀ e ∈ M.ends, e < M.n
  m1 : ∀ m ∈ M.moves, m.s < M.n ∧ m.q < M.n ∧ m.t.length ≤ 1 ∧ m.g.length ≤ 1
noncomputable def IsMa (h : H) (v : V) (M : Ma) : Prop := ∃ e m : Nat, v = .tup [.int M.n, .int M.b, .ref e, .ref m] ∧ h[e]? = some (.list (M.ends.map natV)) ∧ h[m]? = some (.list (M.moves.map Mv.v))

theorem IsMa.app {h : H} {v : V} {M : Ma} (x : IsMa h v M) (t : H) : IsMa (h ++ t) v M := by
  obtain ⟨e, m, h1, h2, h3⟩ := x
  refine ⟨e, m, h1, ?_, ?_⟩
  · rw [List.getElem?_append_left (List.getElem?_eq_some_iff.mp h2).1]; exact h2
  · rw [List.getElem?_append_left (List.getElem?_eq_some_iff.mp h3).1]; exact h3
theorem get_last (h : H) (o : MO) : (h ++ [o])[h.length]? = some o := by simp
theorem get_app {h t : H} {n : Nat} {o : MO} (x : h[n]? = some o) : (h ++ t)[n]? = some o := by
  rw [List.getElem?_append_left (List.getElem?_eq_some_iff.mp x).1]; exact x

section
variable {Φ : Nat → Option Fn} {d : Nat} {h : H} {Q : V → H → Prop}

theorem SZ_val : SZ = 16777216 := rfl
theorem need_ok (hΦ : Φ 0 = some fn_need) (q : Q .none h) : Calls Φ (d + 1) 0 [.bool true] h Q := by
  refine ⟨fn_need, hΦ, rfl, ?_⟩
  simpa [fn_need, b_nil, b_ret, b_ite, th_next, th_ret, ov_ret, ov_next, e_lit, e_vk, vk_some, e_bin, e_neg, e_not, e_and, e_or, e_cmp, e_cmp2, e_sub, e_slice, e_tup, e_list, e_dict0, e_dict1, e_call, e_bi, e_isinst, e_meth, es_nil, es_cons, o_none, o_some, t_not, t_and, t_or, t_cmp, t_cmp2, t_lit, t_vk, t_call, t_isinst, t_meth, x_bn, x_bt, u_nil, u_cons, upd_eq, upd_ne, argsR, x_addi, x_adds, x_subi, x_muli, x_fdiv, x_mod, x_tb, x_tn, x_eqi, x_eqs, x_eqb, x_nei, x_nes, x_lt, x_le, x_gt, x_ge, x_isn, x_isnn, x_isb, x_isnb, x_st0, x_st1, x_st2, x_st3, x_ss, x_lens, x_lent, x_r1, x_lr, x_rj, x_iil, x_iib, x_iss, x_itt, x_inn] using q

theorem cell_ok {n k : Nat} {xs : List Int} (hΦ : Φ 25 = some fn__law_cell) (hn : h[n]? = some (.frz (xs.map V.int))) (hk : k < 1000) (q : Q (.int (xs.getD k 0)) h) :
    Calls Φ (d + 1) 25 [.ref n, .int k] h Q := by
  refine ⟨fn__law_cell, hΦ, rfl, ?_⟩
  simp [fn__law_cell, b_nil, b_ret, b_ite, th_next, th_ret, ov_ret, ov_next, e_lit, e_vk, vk_some, e_bin, e_neg, e_not, e_and, e_or, e_cmp, e_cmp2, e_sub, e_slice, e_tup, e_list, e_dict0, e_dict1, e_call, e_bi, e_isinst, e_meth, es_nil, es_cons, o_none, o_some, t_not, t_and, t_or, t_cmp, t_cmp2, t_lit, t_vk, t_call, t_isinst, t_meth, x_bn, x_bt, u_nil, u_cons, upd_eq, upd_ne, argsR, x_addi, x_adds, x_subi, x_muli, x_fdiv, x_mod, x_tb, x_tn, x_eqi, x_eqs, x_eqb, x_nei, x_nes, x_lt, x_le, x_gt, x_ge, x_isn, x_isnn, x_isb, x_isnb, x_st0, x_st1, x_st2, x_st3, x_ss, x_lens, x_lent, x_r1, x_lr, x_rj, x_iil, x_iib, x_iss, x_itt, x_inn, x_lenf hn, x_sf hn]
  by_cases hlt : k < xs.length
  · simp only [decide_eq_true hlt]
    refine ⟨by omega, _, ⟨xs[k], by simp [hlt], rfl⟩, ?_⟩
    simpa [List.getD, hlt] using q
  · simp only [decide_eq_false hlt]
    simpa [List.getD, hlt] using q

/-- the ends as a dict -/
noncomputable def finD (es : List Nat) : List (V × V) := es.foldl (fun a e => dput a (natV e) (.bool true)) []
theorem dput_len (es : List (V × V)) (k v : V) : (dput es k v).length ≤ es.length + 1 := by
  unfold dput; split <;> simp
theorem finD_take {es : List Nat} {i e : Nat} (h : es[i]? = some e) : finD (es.take (i + 1)) = dput (finD (es.take i)) (natV e) (.bool true) := by
  unfold finD; rw [List.take_add_one, h]; simp
theorem finD_len (es : List Nat) : (finD es).length ≤ es.length := by
  have : ∀ (es : List Nat) a, (es.foldl (fun a e => dput a (natV e) (V.bool true)) a).length ≤ a.length + es.length := by
    intro es
    induction es with
    | nil => intro a; simp
    | cons e r ih => intro a; have := ih (dput a (natV e) (.bool true)); have := dput_len a (natV e) (.bool true); simp; omega
  exact Nat.le_trans (this es []) (by simp)

theorem len2 (h : H) (a b : MO) : (h ++ [a, b])[h.length + 1]? = some b := by
  rw [List.getElem?_append_right (by omega)]; simp
theorem checked_ok {v : V} {M : Ma} (h0 : Φ 0 = some fn_need) (h1 : Φ 1 = some fn_checked) (hm : IsMa h v M) (ok : M.ok)
    (q : ∀ ver, Q (.tup [.int M.n, .int M.b, .ref h.length, .ref (h.length + 1)]) (h ++ [.dict (finD M.ends) ver, .list (M.moves.map Mv.v)])) : Calls Φ (d + 2) 1 [v] h Q := by
  obtain ⟨e, m, rfl, he, hmv⟩ := hm
  refine ⟨fn_checked, h1, rfl, A_fn ?_⟩
  have mC := calls_mono (Φ := Φ) (d + 1)
  have hz := SZ_val
  have n1 := ok.n1
  have n2 := ok.n2
  have b1 := ok.b1
  have l1 := ok.l1
  have l2 := ok.l2
  have need : ∀ {b : Bool} {h : H} {Q : V → H → Prop}, b = true → Q .none h → Calls Φ (d + 1) 0 [.bool b] h Q := fun e q => by subst e; exact need_ok h0 q
  refine A_sets (g := []) (vs := [.int M.n, .int M.b, .ref e, .ref m]) rfl trivial rfl (A_callX mC (g := [.int M.moves.length]) rfl ⟨fun _ => ⟨fun _ => ⟨ln_map hmv, trivial⟩, trivial⟩, trivial⟩ (need (by simp; omega) (A_dict0 fun ver => ?_)))
  refine A_for mC (goes_seq e (M.ends.map natV)) (fun _ : Unit => [(1, .int M.n), (2, .int M.b), (4, .ref m), (5, .ref h.length)]) (fun i _ H => ∃ ver, H = h ++ [.dict (finD (M.ends.take i)) ver]) () (by repeat (first | exact trivial | refine ⟨rfl, ?_⟩)) (A_ev (g := []) rfl trivial ⟨it_list (get_app he), ver, rfl⟩) (fun i _ H ⟨ver, x⟩ => by rw [x]; exact get_app he) ?_ ?_
  · rintro i v _ H hv ⟨ver, rfl⟩
    obtain ⟨x, hx, rfl, hil⟩ := map_at hv
    have hxn := ok.e1 x (List.mem_of_getElem? hx)
    refine A_callX mC (g := []) rfl trivial (need (by simp; omega) (A_put (g := []) (g₂ := []) rfl (get_last _ _) rfl trivial rfl trivial rfl ?_ fun ver => ?_))
    · have h5 := finD_len (M.ends.take i); rw [List.length_take] at h5; omega
    · exact A_next () (by repeat (first | exact trivial | refine ⟨rfl, ?_⟩)) ⟨ver, by rw [finD_take hx, List.set_append_right _ _ (Nat.le_refl _)]; simp⟩
  · rintro _ H ⟨ver, rfl⟩
    rw [List.length_map, List.take_length]
    have hmv' := get_app (t := [.dict (finD M.ends) ver]) hmv
    refine A_for mC (goes_seq m (M.moves.map Mv.v)) (fun _ : Unit => [(1, .int M.n), (2, .int M.b), (4, .ref m), (5, .ref h.length)]) (fun i _ H => H = h ++ [.dict (finD M.ends) ver]) () (by repeat (first | exact trivial | refine ⟨rfl, ?_⟩)) (A_ev (g := []) rfl trivial ⟨it_list hmv', rfl⟩) (fun i _ H x => by rw [x]; exact hmv') ?_ ?_
    · rintro i v _ H hv rfl
      obtain ⟨x, hx, rfl, hil⟩ := map_at hv
      obtain ⟨m1, m2, m3, m4⟩ := ok.m1 x (List.mem_of_getElem? hx)
      exact ⟨rfl, A_callX mC (g := []) rfl trivial (need (by simp; omega) (A_next () (by repeat (first | exact trivial | refine ⟨rfl, ?_⟩)) rfl))⟩
    · rintro _ H rfl
      refine fun ρ ag => B_ret ?_
      simp [e_lit, e_vk, vk_some, e_bin, e_neg, e_not, e_and, e_or, e_cmp, e_cmp2, e_sub, e_slice, e_tup, e_list, e_dict0, e_dict1, e_call, e_bi, e_isinst, e_meth, es_nil, es_cons, o_none, o_some, t_not, t_and, t_or, t_cmp, t_cmp2, t_lit, t_vk, t_call, t_isinst, t_meth, x_bn, x_bt, u_nil, u_cons, upd_eq, upd_ne, argsR, x_addi, x_adds, x_subi, x_muli, x_fdiv, x_mod, x_tb, x_tn, x_eqi, x_eqs, x_eqb, x_nei, x_nes, x_lt, x_le, x_gt, x_ge, x_isn, x_isnn, x_isb, x_isnb, x_st0, x_st1, x_st2, x_st3, x_ss, x_lens, x_lent, x_r1, x_lr, x_rj, x_iil, x_iib, x_iss, x_itt, x_inn, ag 1 _ rfl, ag 2 _ rfl, ag 4 _ rfl, ag 5 _ rfl, x_ll hmv']
      exact ⟨by omega, q ver⟩
end
end Tw
end

section
namespace Tw

section
variable {Φ : Nat → Option Fn} {d : Nat} {h : H} {Q : V → H → Prop}

theorem fmod_nat (a : Int) {b : Int} (hb : 0 < b) : ∃ k : Nat, a.fmod b = k ∧ (k : Int) < b := by
  have h1 := Int.fmod_nonneg_of_pos a hb
  have h2 := Int.fmod_lt_of_pos a hb
  exact ⟨(a.fmod b).toNat, by omega, by omega⟩

theorem sign_at {s : List Nat} {k : Nat} (hk : k < s.length) : ∃ c, s[k]? = some c := ⟨s[k], List.getElem?_eq_getElem hk⟩

theorem sg_a : sgA.length = 64 := rfl
theorem sg_b : sgB.length = 30 := rfl
theorem rd_str {s : List Nat} {k c : Nat} (hk : k < 1000) (y : s[k]? = some c) : RdW h (.str s) (.int k) (.str [c]) := fun R q => ⟨c, ⟨Int.natCast_nonneg k, by show (k : Int) < 4611686018427387904; omega⟩, y, q⟩
theorem A_retL {C : Ora} (hC : MonoC C) {L : Env} {r es : List S} {ls : List E} {vs g g' : List V} {c : List Prop} {Q : Out → Rho → H → Prop} (x : evs L h ls g = some (vs, c, g')) (hc : AllP c) (q : ∀ ρ, Q (.ret (.ref h.length)) ρ (h ++ [.list vs])) : AB C L h (.ret (some (.list ls)) :: r) Q :=
  A_retE hC fun ρ ag => by
    rw [e_list]
    exact evs_snd ag ls g vs c g' x hc (fun w => w = vs) rfl _ fun w e => by rw [e]; exact q
theorem signs_ok {c : Int} (hΦ : Φ 26 = some fn__law_signs) (q : ∀ a b e : Nat, Q (.ref h.length) (h ++ [.list [.str [], .str [a], .str [b], .str [e]]])) : Calls Φ (d + 1) 26 [.int c] h Q := by
  have mC := calls_mono (Φ := Φ) d
  have hS := SZ_val
  refine ⟨fn__law_signs, hΦ, rfl, A_fn (A_set (g := []) rfl trivial (A_set (g := []) rfl ⟨by rw [hS, sg_a, sg_b]; decide, trivial⟩ ?_))⟩
  have hl : (sgA ++ sgB).length = 94 := by rw [List.length_append, sg_a, sg_b]
  generalize sgA ++ sgB = sg at hl ⊢
  refine A_set (g := []) rfl ⟨by decide, by decide, by decide, trivial⟩ (A_set (g := []) rfl ⟨by decide, by decide, by decide, trivial⟩ ?_)
  obtain ⟨k1, e1, l1⟩ := fmod_nat c (b := 94) (by decide)
  obtain ⟨k2, e2, l2⟩ := fmod_nat (c + 1 + (c.fdiv 94).fmod 46) (b := 94) (by decide)
  obtain ⟨k3, e3, l3⟩ := fmod_nat (c + 47 + (c.fdiv 4324).fmod 46) (b := 94) (by decide)
  have lt : ∀ {k : Nat}, (k : Int) < 94 → k < sg.length ∧ k < 1000 := fun h => by omega
  obtain ⟨x1, g1⟩ := sign_at (s := sg) (k := k1) (lt l1).1
  obtain ⟨x2, g2⟩ := sign_at (s := sg) (k := k2) (lt l2).1
  obtain ⟨x3, g3⟩ := sign_at (s := sg) (k := k3) (lt l3).1
  rw [e2, e3]
  exact A_retL (es := []) mC (g := [.str [x1], .str [x2], .str [x3]]) rfl ⟨by decide, by rw [e1]; exact rd_str (lt l1).2 g1, rd_str (lt l2).2 g2, rd_str (lt l3).2 g3, trivial⟩ fun ρ => q x1 x2 x3

/-! one move, out of a cell -/
theorem mulOk_r (a : Int) {b : Int} (hb : b.natAbs < 2 ^ 63) : mulOk a b := .inr hb
theorem four3 {a b e : Nat} {k : Nat} (hk : (k : Int) < 4) : ∃ s : List Nat, ([V.str [], V.str [a], V.str [b], V.str [e]] : List V)[k]? = some (.str s) ∧ s.length ≤ 1 ∧ ∀ c ∈ s, c ∈ [a, b, e] := by
  have : k = 0 ∨ k = 1 ∨ k = 2 ∨ k = 3 := by omega
  rcases this with rfl | rfl | rfl | rfl
  · exact ⟨[], rfl, by simp⟩
  · exact ⟨[a], rfl, by simp⟩
  · exact ⟨[b], rfl, by simp⟩
  · exact ⟨[e], rfl, by simp⟩
theorem four {a b e : Nat} {k : Nat} (hk : (k : Int) < 4) : ∃ s : List Nat, ([V.str [], V.str [a], V.str [b], V.str [e]] : List V)[k]? = some (.str s) ∧ s.length ≤ 1 := by
  obtain ⟨s, h1, h2, _⟩ := four3 (a := a) (b := b) (e := e) hk
  exact ⟨s, h1, h2⟩

/-- where the signs lie -/
noncomputable def SignsAt (h : H) (v : V) : Prop := ∃ n a b e : Nat, v = .ref n ∧ h[n]? = some (.list [.str [], .str [a], .str [b], .str [e]])
theorem SignsAt.pre {h h' : H} {v : V} (x : SignsAt h v) (p : h <+: h') : SignsAt h' v := by
  obtain ⟨n, a, b, e, rfl, g⟩ := x
  obtain ⟨t, rfl⟩ := p
  exact ⟨n, a, b, e, rfl, get_app g⟩
noncomputable def okMv (n : Nat) (m : Mv) : Prop := m.s < n ∧ m.q < n ∧ m.t.length ≤ 1 ∧ m.g.length ≤ 1

theorem pre_get {h h' : H} (p : h <+: h') {n : Nat} {o : MO} (x : h[n]? = some o) : h'[n]? = some o := by obtain ⟨t, rfl⟩ := p; exact get_app x
theorem IsMa.pre {h h' : H} (p : h <+: h') {v : V} {M : Ma} (x : IsMa h v M) : IsMa h' v M := by obtain ⟨t, rfl⟩ := p; exact x.app t
theorem set_last (h : H) (a b : MO) : (h ++ [a]).set h.length b = h ++ [b] := by simp

/-! is it whole -/
theorem whole_ok {k : Int} (h28 : Φ 28 = some fn__law_whole) (q : Q (.bool true) h) : Calls Φ (d + 1) 28 [.int k] h Q := by
  refine ⟨fn__law_whole, h28, rfl, ?_⟩
  simp [fn__law_whole, b_nil, b_ret, b_ite, th_next, th_ret, ov_ret, ov_next, e_lit, e_vk, vk_some, e_bin, e_neg, e_not, e_and, e_or, e_cmp, e_cmp2, e_sub, e_slice, e_tup, e_list, e_dict0, e_dict1, e_call, e_bi, e_isinst, e_meth, es_nil, es_cons, o_none, o_some, t_not, t_and, t_or, t_cmp, t_cmp2, t_lit, t_vk, t_call, t_isinst, t_meth, x_bn, x_bt, u_nil, u_cons, upd_eq, upd_ne, argsR, x_addi, x_adds, x_subi, x_muli, x_fdiv, x_mod, x_tb, x_tn, x_eqi, x_eqs, x_eqb, x_nei, x_nes, x_lt, x_le, x_gt, x_ge, x_isn, x_isnn, x_isb, x_isnb, x_st0, x_st1, x_st2, x_st3, x_ss, x_lens, x_lent, x_r1, x_lr, x_rj, x_iil, x_iib, x_iss, x_itt, x_inn]
  exact q

/-! machines seen through the heap -/
noncomputable def natD (n : Nat) : D := .int n
noncomputable def Mv.sn (m : Mv) : D := .tup [.int m.s, .str m.t, .str m.g, .int m.q]
noncomputable def Ma.sn (M : Ma) : D := .tup [.int M.n, .int M.b, .list (M.ends.map natD), .list (M.moves.map Mv.sn)]
theorem snaps_map {α : Type} {f : α → V} {g : α → D} (hf : ∀ x, Snap h (f x) (g x)) : ∀ (l : List α), Snaps h (l.map f) (l.map g)
  | [] => .nil
  | x :: r => .cons (hf x) (snaps_map hf r)
theorem snap_mv (m : Mv) : Snap h m.v m.sn := .tup (.cons (.int _) (.cons (.str _) (.cons (.str _) (.cons (.int _) .nil))))
theorem snap_ma {v : V} {M : Ma} (x : IsMa h v M) : Snap h v M.sn := by
  obtain ⟨e, m, rfl, he, hm⟩ := x
  exact .tup (.cons (.int _) (.cons (.int _) (.cons (.list he (snaps_map (fun _ => .int _) _)) (.cons (.list hm (snaps_map snap_mv _)) .nil))))
theorem okD_nat (n : Nat) : ∀ (l : List Nat), (l.map natD).all (D.ok (n + 1)) = true
  | [] => rfl
  | x :: r => by simp [natD, D.ok]
theorem okD_mv (m : Mv) (n : Nat) : D.ok (n + 2) m.sn = true := by simp [Mv.sn, D.ok]
theorem okD_ma (M : Ma) (n : Nat) : D.ok (n + 4) M.sn = true := by
  simp [Ma.sn, D.ok, natD, okD_mv]

theorem eq_mas {v w : V} {M : Ma} {P : Bool → Prop} (hv : IsMa h v M) (hw : IsMa h w M) (x : P true) : EqW v w h P := x_eqd (snap_ma hv) (snap_ma hw) (okD_ma M 5) (okD_ma M 5) (by simpa using x)

end
end Tw
end

section
namespace Tw

/-! breadth first search, plain -/
theorem nodup_le {α : Type} [DecidableEq α] : ∀ (l m : List α), l.Nodup → (∀ x ∈ l, x ∈ m) → l.length ≤ m.length
  | [], m, _, _ => Nat.zero_le _
  | a :: l, m, h, s => by
    have ha := s a (by simp)
    have := nodup_le l (m.erase a) (List.nodup_cons.mp h).2 fun x hx => by
      have hne : x ≠ a := fun e => (List.nodup_cons.mp h).1 (e ▸ hx)
      exact (List.mem_erase_of_ne hne).mpr (s x (by simp [hx]))
    have h2 := List.length_erase_of_mem ha
    have h3 := List.length_pos_of_mem ha
    simp; omega

structure Sys (N : Type) where
  b : N
  out : N → List Nat
  nx : N → Nat → Option N
  fin : N → Prop

inductive Run {N : Type} (s : Sys N) : List Nat → N → Prop
  | nil : Run s [] s.b
  | snoc {p : List Nat} {x y : N} {k : Nat} : Run s p x → k ∈ s.out x → s.nx x k = some y → Run s (p ++ [k]) y

/-- what was met: the node, a way to it, what the program noted -/
structure Ent (N : Type) where
  x : N
  p : List Nat
  w : V

structure Met {N : Type} (s : Sys N) (T : List (Ent N)) (a : Nat) : Prop where
  head : ∃ w, T[0]? = some ⟨s.b, [], w⟩
  runs : ∀ e ∈ T, Run s e.p e.x
  nodup : (T.map (·.x)).Nodup
  mono : T.Pairwise fun e f => e.p.length ≤ f.p.length
  idx : ∀ (i : Nat) (e : Ent N), T[i]? = some e → e.p.length ≤ i
  proc : ∀ (i : Nat) (e : Ent N), i < a → T[i]? = some e → ¬ s.fin e.x ∧ ∀ k ∈ s.out e.x, ∀ z, s.nx e.x k = some z → ∃ f ∈ T, f.x = z ∧ f.p.length ≤ e.p.length + 1

/-- the outer loop -/
structure MetO {N : Type} (s : Sys N) (T : List (Ent N)) (a : Nat) : Prop extends Met s T a where
  le : a ≤ T.length
  top : ∀ c : Ent N, T[a]? = some c → ∀ e ∈ T, e.p.length ≤ c.p.length + 1

/-- the inner loop: at c, i of its moves are done -/
structure MetI {N : Type} (s : Sys N) (T : List (Ent N)) (a : Nat) (c : Ent N) (i : Nat) : Prop extends Met s T a where
  here : T[a]? = some c
  top : ∀ e ∈ T, e.p.length ≤ c.p.length + 1
  part : ∀ j k, j < i → (s.out c.x)[j]? = some k → ∀ z, s.nx c.x k = some z → ∃ f ∈ T, f.x = z ∧ f.p.length ≤ c.p.length + 1

section
variable {N : Type} {s : Sys N} {T : List (Ent N)} {a i : Nat} {c : Ent N}
end
end Tw
end

section
--down
namespace Tw

section
variable {Φ : Nat → Option Fn} {d : Nat} {h : H} {Q : V → H → Prop}

theorem small_nat {n : Nat} (h : n < 2147483648) : smallI n := by unfold smallI; omega
theorem pre_set {h h' : H} (p : h <+: h') {k : Nat} (hk : h.length ≤ k) (o : MO) : h <+: h'.set k o := by
  obtain ⟨t, rfl⟩ := p
  exact ⟨t.set (k - h.length) o, by rw [List.set_append_right _ _ hk]⟩

/-! the moves that leave a state -/
noncomputable def outK (ms : List Mv) (i s : Nat) : List Nat := (List.range i).filter fun p => decide ((ms[p]?.map Mv.s) = some s)
noncomputable def outs (ms : List Mv) (s : Nat) : List Nat := outK ms ms.length s
theorem outK_len (ms : List Mv) (i s : Nat) : (outK ms i s).length ≤ i := by
  have := List.length_filter_le (fun p => decide ((ms[p]?.map Mv.s) = some s)) (List.range i)
  rw [List.length_range] at this; exact this
theorem mem_outs {ms : List Mv} {s k : Nat} : k ∈ outs ms s ↔ ∃ m, ms[k]? = some m ∧ m.s = s := by
  unfold outs outK
  rw [List.mem_filter, List.mem_range]
  constructor
  · intro ⟨h1, h2⟩
    simp at h2; exact h2
  · intro ⟨m, h1, h2⟩
    exact ⟨(List.getElem?_eq_some_iff.mp h1).1, by simp [h1, h2]⟩
theorem outK_succ {ms : List Mv} {i : Nat} {m : Mv} (hm : ms[i]? = some m) (s : Nat) : outK ms (i + 1) s = if m.s = s then outK ms i s ++ [i] else outK ms i s := by
  unfold outK
  rw [List.range_succ, List.filter_append]
  by_cases h : m.s = s <;> simp [hm, h]
noncomputable def OutAt (h : H) (v : V) (M : Ma) : Prop := ∃ L r : Nat, v = .ref L ∧ h[L]? = some (.list ((List.range M.n).map fun s => V.ref (r + s))) ∧ ∀ s, s < M.n → h[r + s]? = some (.list ((outs M.moves s).map natV))
theorem OutAt.pre {h h' : H} {v : V} {M : Ma} (x : OutAt h v M) (p : h <+: h') : OutAt h' v M := by
  obtain ⟨L, r, e, h1, h2⟩ := x
  exact ⟨L, r, e, pre_get p h1, fun s hs => pre_get p (h2 s hs)⟩

theorem leaving_ok {m : Nat} {M : Ma} (h2 : Φ 2 = some fn_leaving) (hm : h[m]? = some (.list (M.moves.map Mv.v))) (ok : M.ok) (q : ∀ v h', h <+: h' → OutAt h' v M → Q v h') : Calls Φ (d + 1) 2 [.int M.n, .ref m] h Q := by
  have mC := calls_mono (Φ := Φ) d
  have hz := SZ_val
  have n2 := ok.n2
  have l1 := ok.l1
  refine ⟨fn_leaving, h2, rfl, A_fn (A_name mC fun ρ ag => ?_)⟩
  refine E_comp_it mC (goes_range M.n) (fun i out H => H = h ++ List.replicate i (.list []) ∧ out = (List.range i).map fun s => V.ref (h.length + s)) (A_ev (C := Calls Φ d) (L := argsL 0 [.int M.n, .ref m]) (e := .bi .range [.var 0]) (v := .rng 0 M.n 1) (c := [smallI M.n]) (Q := fun w h₁ => (∀ Q : It → Prop, Q (.vals ((rangeV 0 M.n 1).drop 0)) → IterW w h₁ Q) ∧ h₁ = h ++ List.replicate 0 (.list []) ∧ ([] : List V) = (List.range 0).map fun s => V.ref (h.length + s)) (g := []) rfl ⟨small_nat (n := M.n) (by omega), trivial⟩ ⟨fun _ q => q, (List.append_nil _).symm, rfl⟩ ρ ag) (fun _ _ _ _ => trivial) ?_ ?_
  · rintro i v out H hv ⟨rfl, rfl⟩
    obtain ⟨k', hk', rfl, hkm⟩ := map_at hv
    rw [List.length_range] at hkm
    rw [x_bn, o_none]
    show wpE _ (.list []) _ _ _
    rw [e_list, es_nil]
    refine ⟨by rw [List.length_map, List.length_range]; omega, by rw [List.append_assoc, List.replicate_succ'], ?_⟩
    rw [List.range_succ, List.map_append, List.length_append, List.length_replicate]; rfl
  rintro out H ⟨rfl, rfl⟩
  rw [List.length_map, List.length_range]
  have hpre : h <+: h ++ List.replicate M.n (MO.list []) ++ [MO.list ((List.range M.n).map fun s => V.ref (h.length + s))] := by rw [List.append_assoc]; exact List.prefix_append _ _
  have q3 : (h ++ List.replicate M.n (MO.list [])).length = h.length + M.n := by rw [List.length_append, List.length_replicate]
  have q1 : (h ++ List.replicate M.n (MO.list []) ++ [MO.list ((List.range M.n).map fun s => V.ref (h.length + s))])[h.length + M.n]? = some (.list ((List.range M.n).map fun s => V.ref (h.length + s))) := by rw [← q3]; exact get_last _ _
  have q2 : ∀ s, s < M.n → (h ++ List.replicate M.n (MO.list []) ++ [MO.list ((List.range M.n).map fun s => V.ref (h.length + s))])[h.length + s]? = some (.list ((outK M.moves 0 s).map natV)) := fun s hs => by
    refine get_app ?_
    rw [List.getElem?_append_right (Nat.le_add_right ..), Nat.add_sub_cancel_left, List.getElem?_replicate, if_pos hs]; rfl
  rw [q3]
  generalize h ++ List.replicate M.n (MO.list []) ++ [MO.list ((List.range M.n).map fun s => V.ref (h.length + s))] = B at hpre q1 q2 ⊢
  clear ag ρ
  refine A_for mC (goes_range M.moves.length) (fun _ : Unit => [(1, .ref m), (2, .ref (h.length + M.n))]) (fun i _ H => h <+: H ∧ H[h.length + M.n]? = some (.list ((List.range M.n).map fun s => V.ref (h.length + s))) ∧ ∀ s, s < M.n → H[h.length + s]? = some (.list ((outK M.moves i s).map natV))) () (by repeat (first | exact trivial | refine ⟨rfl, ?_⟩)) (A_ev (g := [.int M.moves.length]) rfl ⟨ln_map (pre_get hpre hm), small_nat (by omega), trivial⟩ ⟨fun _ q => q, hpre, q1, q2⟩) (fun _ _ _ _ => trivial) ?_ fun _ H x => A_ret (g := []) rfl trivial fun ρ => q _ _ x.1 ⟨_, _, rfl, x.2.1, by rw [List.length_map, List.length_range] at x; exact x.2.2⟩
  rintro i v _ H hv ⟨p, g1, g2⟩
  obtain ⟨k', hk', rfl, hkm⟩ := map_at hv
  have : k' = i := by rw [List.getElem?_range (by simpa using hkm)] at hk'; exact (Option.some.inj hk').symm
  subst this
  rw [List.length_range] at hkm
  obtain ⟨x, hx⟩ : ∃ x, M.moves[k']? = some x := ⟨_, List.getElem?_eq_getElem hkm⟩
  have hxs := (ok.m1 x (List.mem_of_getElem? hx)).1
  have g3 := g2 x.s hxs
  have ol := outK_len M.moves k' x.s
  refine A_appE (g₂ := [x.v, .ref (h.length + x.s)]) rfl ⟨rd_list (pre_get p hm) (by omega) (by rw [List.getElem?_map, hx]; rfl), rd_list g1 (by omega) (by rw [List.getElem?_map, List.getElem?_range hxs]; rfl), trivial⟩ g3 (by rw [List.length_map]; omega) (g := []) rfl trivial (A_next () (by repeat (first | exact trivial | refine ⟨rfl, ?_⟩)) ⟨pre_set p (Nat.le_add_right ..) _, ?_, fun s hs => ?_⟩)
  · rw [List.getElem?_set_ne (by omega)]; exact g1
  · rw [outK_succ hx]
    by_cases e : x.s = s
    · subst e
      rw [List.getElem?_set_self (List.getElem?_eq_some_iff.mp g3).1, if_pos rfl, List.map_append]; rfl
    · rw [List.getElem?_set_ne (by omega), if_neg e]; exact g2 s hs

/-! the dict of what was met -/
section
variable {N : Type} {nv : N → V} (inj : ∀ a b, nv a = nv b → a = b)
include inj
end
end
end Tw
end

section
namespace Tw

/-! ways of a machine, plain -/
inductive Path (M : Ma) : List Nat → Nat → Prop
  | nil : Path M [] M.b
  | snoc {p : List Nat} {k : Nat} {m : Mv} : Path M p m.s → M.moves[k]? = some m → Path M (p ++ [k]) m.q
noncomputable def rdOf (M : Ma) (p : List Nat) : List Nat := p.flatMap fun k => (M.moves[k]?.map Mv.t).getD []
noncomputable def wrOf (M : Ma) (p : List Nat) : List Nat := p.flatMap fun k => (M.moves[k]?.map Mv.g).getD []
theorem rd_snoc {M : Ma} {k : Nat} {m : Mv} (h : M.moves[k]? = some m) (p : List Nat) : rdOf M (p ++ [k]) = rdOf M p ++ m.t := by simp [rdOf, h]
theorem wr_snoc {M : Ma} {k : Nat} {m : Mv} (h : M.moves[k]? = some m) (p : List Nat) : wrOf M (p ++ [k]) = wrOf M p ++ m.g := by simp [wrOf, h]
structure IsWay (M : Ma) (text writing p : List Nat) : Prop where
  path : ∃ s, Path M p s ∧ s ∈ M.ends
  rd : rdOf M p = text
  wr : wrOf M p = writing

section
variable {M : Ma} {t w : List Nat} (ok : M.ok)
include ok
end

/-! all places that there are -/
noncomputable def box2 (n a : Nat) : List (Nat × Nat) := (List.range n).flatMap fun s => (List.range a).map fun i => (s, i)
theorem len_flat {α β : Type} (f : α → List β) (c : Nat) (h : ∀ x, (f x).length = c) : ∀ l : List α, (l.flatMap f).length = l.length * c
  | [] => by simp
  | x :: r => by rw [List.flatMap_cons, List.length_append, h, len_flat f c h r, List.length_cons, Nat.add_mul]; omega
theorem box2_len (n a : Nat) : (box2 n a).length = n * a := by
  unfold box2; rw [len_flat _ a (fun s => by simp)]; simp
theorem box2_mem {n a : Nat} {x : Nat × Nat} (h1 : x.1 < n) (h2 : x.2 < a) : x ∈ box2 n a := by
  obtain ⟨s, i⟩ := x
  simp only [box2, List.mem_flatMap, List.mem_map, List.mem_range]
  exact ⟨s, h1, i, h2, rfl⟩

noncomputable def nv2 (x : Nat × Nat) : V := .tup [.int x.1, .int x.2]
theorem nv2_inj (a b : Nat × Nat) (h : nv2 a = nv2 b) : a = b := by
  obtain ⟨a1, a2⟩ := a
  obtain ⟨b1, b2⟩ := b
  simp [nv2] at h
  have h1 : a1 = b1 := by omega
  have h2 : a2 = b2 := by omega
  rw [h1, h2]
theorem dput_mem {es : List (V × V)} {k k' v : V} : k' ∈ (dput es k v).map (·.1) ↔ k' ∈ es.map (·.1) ∨ k' = k := by
  unfold dput
  by_cases h : (dget es k).isSome
  · rw [if_pos h]
    have e : (es.map fun e => if e.1 = k then (e.1, v) else e).map (·.1) = es.map (·.1) := by
      rw [List.map_map]; apply List.map_congr_left; intro e _; simp only [Function.comp]; split <;> rfl
    rw [e]
    constructor
    · exact .inl
    · rintro (h' | rfl)
      · exact h'
      · obtain ⟨v', hv⟩ := Option.isSome_iff_exists.mp h
        obtain ⟨e, he, _⟩ := Option.map_eq_some_iff.mp hv
        have := List.find?_some he
        exact List.mem_map.mpr ⟨e, List.mem_of_find?_eq_some he, of_decide_eq_true this⟩
  · rw [if_neg h]; simp
theorem fin_mem {es : List Nat} {s : Nat} : natV s ∈ (finD es).map (·.1) ↔ s ∈ es := by
  have : ∀ (es : List Nat) (a : List (V × V)), natV s ∈ (es.foldl (fun a e => dput a (natV e) (V.bool true)) a).map (·.1) ↔ natV s ∈ a.map (·.1) ∨ s ∈ es := by
    intro es
    induction es with
    | nil => intro a; simp
    | cons e r ih =>
      intro a
      rw [List.foldl_cons, ih, dput_mem, List.mem_cons]
      have : natV s = natV e ↔ s = e := by simp [natV]; omega
      rw [this, or_assoc]
  unfold finD
  rw [this]; simp
end Tw
end

section
namespace Tw

section
variable {Φ : Nat → Option Fn} {d : Nat} {h : H} {Q : V → H → Prop}

theorem last2a (h : H) (a b : MO) : (h ++ [a, b])[h.length]? = some a := by simp
theorem set2a (h : H) (a b c : MO) : (h ++ [a, b]).set h.length c = h ++ [c, b] := by simp
end
end Tw
end

section
namespace Tw

section
variable {Φ : Nat → Option Fn} {d : Nat} {h : H} {Q : V → H → Prop}

end
end Tw
end

section
namespace Tw

section
variable {Φ : Nat → Option Fn} {d : Nat} {h : H} {Q : V → H → Prop}

end
end Tw
end

section
namespace Tw

section
variable {Φ : Nat → Option Fn} {d : Nat} {h : H} {Q : V → H → Prop}

theorem snaps_nat (h : H) (l : List Nat) : Snaps h (l.map natV) (l.map natD) := snaps_map (fun _ => .int _) l
theorem natD_inj {a b : Nat} (e : natD a = natD b) : a = b := by injection e with e; omega
theorem natD_mem {s : Nat} {es : List Nat} : natD s ∈ es.map natD ↔ s ∈ es := by
  rw [List.mem_map]
  exact ⟨fun ⟨x, hx, e⟩ => natD_inj e ▸ hx, fun hx => ⟨s, hx, rfl⟩⟩
theorem natD_ok (l : List Nat) : ∀ d ∈ l.map natD, D.ok 9 d = true := by
  intro d hd
  obtain ⟨x, _, rfl⟩ := List.mem_map.mp hd
  rfl
/-- is a whole number in a list of them -/
theorem x_inN {n s : Nat} {es : List Nat} {P : Bool → Prop} (h1 : h[n]? = some (.list (es.map natV))) (x : P (decide (s ∈ es))) : CmpW .isIn (.int s) (.ref n) h P := by
  rw [x_inl h1]
  exact ⟨natD s, es.map natD, .int _, snaps_nat h es, rfl, natD_ok es, by rw [decide_eq_decide.mpr natD_mem]; exact x⟩
/-- is a list of whole numbers empty -/
theorem x_nil {n m : Nat} {es : List Nat} {P : Bool → Prop} (h1 : h[n]? = some (.list (es.map natV))) (h2 : h[m]? = some (.list [])) (x : P (decide (es = []))) : CmpW .eq (.ref n) (.ref m) h P := by
  refine x_eqd (d₁ := .list (es.map natD)) (d₂ := .list []) (.list h1 (snaps_nat h es)) (.list h2 .nil) (okD_nat 7 es) rfl ?_
  rw [show decide (D.list (es.map natD) = D.list []) = decide (es = []) from decide_eq_decide.mpr ⟨fun e => by injection e with e; exact List.map_eq_nil_iff.mp e, fun e => by rw [e]; rfl⟩]
  exact x

/-! the texts of a way -/
theorem isStrs_map {α : Type} (f : α → List Nat) : ∀ l : List α, isStrs (l.map fun x => V.str (f x)) = some (l.map f)
  | [] => rfl
  | x :: r => by show (isStrs (r.map fun x => V.str (f x))).map _ = _; rw [isStrs_map f r]; rfl
theorem joinS_flat : ∀ l : List (List Nat), joinS [] l = l.flatten
  | [] => rfl
  | [x] => by simp [joinS]
  | x :: y :: r => by
    show x ++ [] ++ joinS [] (y :: r) = _
    rw [joinS_flat (y :: r)]; simp
theorem sum_le1 : ∀ l : List (List Nat), (∀ x ∈ l, x.length ≤ 1) → (l.map List.length).sum ≤ l.length
  | [], _ => Nat.le_refl _
  | x :: r, h => by
    have h1 := h x (by simp)
    have h2 := sum_le1 r fun y hy => h y (by simp [hy])
    simp; omega
noncomputable def tOf (M : Ma) (k : Nat) : List Nat := (M.moves[k]?.map Mv.t).getD []
noncomputable def gOf (M : Ma) (k : Nat) : List Nat := (M.moves[k]?.map Mv.g).getD []
theorem tOf_le {M : Ma} (ok : M.ok) (k : Nat) : (tOf M k).length ≤ 1 := by
  unfold tOf
  cases h : M.moves[k]? with
  | none => simp
  | some m => exact (ok.m1 m (List.mem_of_getElem? h)).2.2.1
theorem gOf_le {M : Ma} (ok : M.ok) (k : Nat) : (gOf M k).length ≤ 1 := by
  unfold gOf
  cases h : M.moves[k]? with
  | none => simp
  | some m => exact (ok.m1 m (List.mem_of_getElem? h)).2.2.2
theorem rd_flat (M : Ma) (p : List Nat) : rdOf M p = (p.map (tOf M)).flatten := by rw [← List.flatMap_def]; rfl
theorem wr_flat (M : Ma) (p : List Nat) : wrOf M p = (p.map (gOf M)).flatten := by rw [← List.flatMap_def]; rfl
theorem rd_len {M : Ma} (ok : M.ok) (p : List Nat) : (rdOf M p).length ≤ p.length := by
  rw [rd_flat, List.length_flatten]
  have := sum_le1 (p.map (tOf M)) (fun x hx => by obtain ⟨k, _, rfl⟩ := List.mem_map.mp hx; exact tOf_le ok k)
  simpa using this
theorem wr_len {M : Ma} (ok : M.ok) (p : List Nat) : (wrOf M p).length ≤ p.length := by
  rw [wr_flat, List.length_flatten]
  have := sum_le1 (p.map (gOf M)) (fun x hx => by obtain ⟨k, _, rfl⟩ := List.mem_map.mp hx; exact gOf_le ok k)
  simpa using this
/-! is it a way -/
theorem Path.get {M : Ma} {p : List Nat} {s : Nat} (h : Path M p s) : ∀ (i k : Nat), p[i]? = some k → ∃ m, M.moves[k]? = some m ∧ Path M (p.take i) m.s ∧ Path M (p.take (i + 1)) m.q := by
  induction h with
  | nil => intro i k hk; simp at hk
  | @snoc p j m hp hm ih =>
    intro i k hk
    by_cases hi : i < p.length
    · rw [List.getElem?_append_left hi] at hk
      obtain ⟨m', h1, h2, h3⟩ := ih i k hk
      exact ⟨m', h1, by rw [List.take_append_of_le_length (by omega)]; exact h2, by rw [List.take_append_of_le_length (by omega)]; exact h3⟩
    · have hil : i < (p ++ [j]).length := (List.getElem?_eq_some_iff.mp hk).1
      have : i = p.length := by simp at hil; omega
      subst this
      simp at hk; subst hk
      exact ⟨m, hm, by simpa using hp, by rw [List.take_of_length_le (by simp)]; exact .snoc hp hm⟩
theorem Path.fn {M : Ma} {p : List Nat} {s s' : Nat} (h : Path M p s) (h' : Path M p s') : s = s' := by
  cases h with
  | nil => generalize e : ([] : List Nat) = l at h'; cases h' with
    | nil => rfl
    | snoc a b => simp at e
  | @snoc p k m hp hm =>
    generalize e : p ++ [k] = l at h'
    cases h' with
    | nil => simp at e
    | @snoc p' k' m' hp' hm' =>
      obtain ⟨_, e2⟩ := List.append_inj' e rfl
      simp at e2; subst e2
      rw [hm] at hm'; cases hm'; rfl

end
end Tw
end

section
namespace Tw

section
variable {Φ : Nat → Option Fn} {d : Nat} {h : H} {Q : V → H → Prop}

theorem get_lt {h : H} {n : Nat} {o : MO} (x : h[n]? = some o) : n < h.length := (List.getElem?_eq_some_iff.mp x).1

end
end Tw
end

section
--down
namespace Tw

section
variable {Φ : Nat → Option Fn} {d : Nat} {h : H} {Q : V → H → Prop}

/-! turned -/
end
end Tw
end

section
namespace Tw

/-! the ends, as a dict's keys -/
theorem dget_keys (es : List (V × V)) (k : V) : (dget es k).isSome = decide (k ∈ es.map (·.1)) := by
  unfold dget
  rw [Option.isSome_map, Bool.eq_iff_iff, List.find?_isSome, decide_eq_true_iff, List.mem_map]
  exact ⟨fun ⟨e, h1, h2⟩ => ⟨e, h1, of_decide_eq_true h2⟩, fun ⟨e, h1, h2⟩ => ⟨e, h1, decide_eq_true h2⟩⟩
section
variable {h : H} {Q : V → H → Prop}
end

/-! the joined machine -/
noncomputable def j1 (nb : Nat) (a : Mv) (q : Nat) : Mv := ⟨a.s * nb + q, a.t, [], a.q * nb + q⟩
noncomputable def j2 (nb : Nat) (b : Mv) (p : Nat) : Mv := ⟨p * nb + b.s, [], b.g, p * nb + b.q⟩
noncomputable def j3 (nb : Nat) (a b : Mv) : Mv := ⟨a.s * nb + b.s, a.t, b.g, a.q * nb + b.q⟩
noncomputable def J1 (nb : Nat) (k : Nat) (a : Mv) : List Mv := if a.g = [] then (List.range k).map (j1 nb a) else []
noncomputable def J2 (nb : Nat) (k : Nat) (b : Mv) : List Mv := if b.t = [] then (List.range k).map (j2 nb b) else []
noncomputable def J3 (nb : Nat) (bs : List Mv) (a : Mv) : List Mv := (bs.filter fun b => decide (a.g ≠ [] ∧ a.g = b.t)).map (j3 nb a)
noncomputable def Jm (A B : Ma) : List Mv := A.moves.flatMap (J1 B.n B.n) ++ B.moves.flatMap (J2 B.n A.n) ++ A.moves.flatMap (J3 B.n B.moves)

section
variable {Φ : Nat → Option Fn} {d : Nat} {h : H} {Q : V → H → Prop}
/-- what joined gives -/
structure IsJ (A B J : Ma) : Prop where
  n : J.n = A.n * B.n
  b : J.b = A.b * B.n + B.b
  moves : J.moves = Jm A B
  ends : ∀ x, x ∈ J.ends ↔ ∃ p ∈ A.ends, ∃ q ∈ B.ends, x = p * B.n + q
  len : J.ends.length ≤ A.ends.length * B.ends.length

end
end Tw
end

section
namespace Tw
namespace L08

noncomputable def fn_law : Fn := ⟨1, [
  .assign (.name 1) (.call 26 [(.call 25 [(.var 0), (.lit (.int 0))])]),
  .assign (.name 2) (.call 27 [(.call 25 [(.var 0), (.lit (.int 1))]), (.slice (.var 0) (.lit (.int 5)) (.lit (.int 14))), (.var 1)]),
  .assign (.name 3) (.call 27 [(.call 25 [(.var 0), (.lit (.int 2))]), (.slice (.var 0) (.lit (.int 14)) (.lit (.int 23))), (.var 1)]),
  .assign (.name 4) (.call 29 [(.call 25 [(.var 0), (.lit (.int 4))]), (.var 1), (.lit (.int 4))]),
  .assign (.name 5) (.call 29 [(.bin .fdiv (.call 25 [(.var 0), (.lit (.int 4))]) (.lit (.int 256))), (.var 1), (.lit (.int 4))]),
  .assign (.name 6) (.call 8 [(.var 2)]),
  .ite (.cmp .ne (.call 30 [(.call 5 [(.var 2), (.var 4), (.var 5)])]) (.call 30 [(.call 5 [(.var 6), (.var 5), (.var 4)])])) [
    .ret (some (.lit (.bool false)))] [],
  .assign (.name 7) (.call 34 [(.var 2), (.var 3), (.call 25 [(.var 0), (.lit (.int 3))]), (.bin .mod (.bin .fdiv (.call 25 [(.var 0), (.lit (.int 3))]) (.lit (.int 7))) (.lit (.int 11)))]),
  .ite (.cmp .is (.var 7) (.lit .none)) [
    .ret (some (.lit (.bool true)))] [],
  .assign (.name 8) (.call 9 [(.call 8 [(.var 3)]), (.var 6)]),
  .ite (.or (.cmp .is (.call 5 [(.var 8), (.sub (.var 7) (.lit (.int 1))), (.sub (.var 7) (.lit (.int 0)))]) (.lit .none)) (.cmp .isNot (.call 6 [(.var 8), (.sub (.var 7) (.lit (.int 1)))]) (.lit (.bool true)))) [
    .ret (some (.lit (.bool false)))] [],
  .ret (some (.cmp .isNot (.call 5 [(.call 8 [(.call 9 [(.var 2), (.var 3)])]), (.sub (.var 7) (.lit (.int 1))), (.sub (.var 7) (.lit (.int 0)))]) (.lit .none)))]⟩
noncomputable def fn__law_text : Fn := ⟨3, [
  .assign (.name 3) (.lit (.str [])),
  .for (.name 4) (.bi .range [(.bin .mod (.var 0) (.var 2))]) [
    .assign (.name 0) (.bin .fdiv (.var 0) (.var 2)),
    .assign (.name 3) (.bin .add (.var 3) (.sub (.var 1) (.bin .add (.lit (.int 1)) (.bin .mod (.var 0) (.lit (.int 3))))))],
  .ret (some (.var 3))]⟩
noncomputable def fn__law_steps : Fn := ⟨4, [
  .assign (.name 4) (.list []),
  .for (.name 5) (.sub (.var 0) (.lit (.int 3))) [
    .ite (.and (.cmp .eq (.sub (.var 5) (.lit (.int 0))) (.var 2)) (.cmp .eq (.sub (.var 5) (.lit (.int 2))) (.lit (.str [])))) [
      .expr (.meth .append (.var 4) [(.tup [(.sub (.var 5) (.lit (.int 3))), (.var 3), (.sub (.var 5) (.lit (.int 1))), (.lit (.str []))])])] [],
    .ite (.and (.cmp .eq (.sub (.var 5) (.lit (.int 0))) (.var 2)) (.cmp .ne (.sub (.var 5) (.lit (.int 2))) (.lit (.str [])))) [
      .for (.name 6) (.sub (.var 1) (.lit (.int 3))) [
        .ite (.and (.cmp .eq (.sub (.var 6) (.lit (.int 0))) (.var 3)) (.cmp .eq (.sub (.var 6) (.lit (.int 1))) (.sub (.var 5) (.lit (.int 2))))) [
          .expr (.meth .append (.var 4) [(.tup [(.sub (.var 5) (.lit (.int 3))), (.sub (.var 6) (.lit (.int 3))), (.sub (.var 5) (.lit (.int 1))), (.sub (.var 6) (.lit (.int 2)))])])] []]] []],
  .for (.name 6) (.sub (.var 1) (.lit (.int 3))) [
    .ite (.and (.cmp .eq (.sub (.var 6) (.lit (.int 0))) (.var 3)) (.cmp .eq (.sub (.var 6) (.lit (.int 1))) (.lit (.str [])))) [
      .expr (.meth .append (.var 4) [(.tup [(.var 2), (.sub (.var 6) (.lit (.int 3))), (.lit (.str [])), (.sub (.var 6) (.lit (.int 2)))])])] []],
  .ret (some (.var 4))]⟩
noncomputable def fn__law_together : Fn := ⟨4, [
  .assign (.name 4) (.sub (.var 0) (.lit (.int 1))),
  .assign (.name 5) (.sub (.var 1) (.lit (.int 1))),
  .assign (.name 6) (.tup [(.lit (.str [])), (.lit (.str []))]),
  .assign (.name 7) (.lit .none),
  .for (.name 8) (.bi .range [(.bin .add (.var 3) (.lit (.int 1)))]) [
    .ite (.and (.cmp .isIn (.var 4) (.sub (.var 0) (.lit (.int 2)))) (.cmp .isIn (.var 5) (.sub (.var 1) (.lit (.int 2))))) [
      .assign (.name 7) (.var 6)] [],
    .assign (.name 9) (.call 31 [(.var 0), (.var 1), (.var 4), (.var 5)]),
    .ite (.cmp .eq (.var 9) (.list [])) [
      .ret (some (.var 7))] [],
    .assign (.name 10) (.sub (.var 9) (.bin .mod (.bin .mod (.bin .mul (.bin .add (.var 2) (.bin .mul (.bin .mul (.lit (.int 7919)) (.var 8)) (.var 8))) (.lit (.int 48271))) (.lit (.int 2147483647))) (.bi .len [(.var 9)]))),
    .assign (.name 4) (.sub (.var 10) (.lit (.int 0))),
    .assign (.name 5) (.sub (.var 10) (.lit (.int 1))),
    .assign (.name 6) (.tup [(.bin .add (.sub (.var 6) (.lit (.int 0))) (.sub (.var 10) (.lit (.int 2)))), (.bin .add (.sub (.var 6) (.lit (.int 1))) (.sub (.var 10) (.lit (.int 3))))])],
  .ret (some (.var 7))]⟩
noncomputable def fn__law_moves : Fn := ⟨1, [
  .ite (.cmp .is (.var 0) (.lit .none)) [
    .ret (some (.neg (.lit (.int 1))))] [],
  .ret (some (.bi .len [(.var 0)]))]⟩
noncomputable def fn__law_machine : Fn := fnMach 4 16
end L08
end Tw
end

section
namespace Tw

/-! two machines that walk together -/
inductive PStep (A B : Ma) : Nat → Nat → List Nat → List Nat → Nat → Nat → Prop
  | one {a : Mv} {q : Nat} : a ∈ A.moves → a.g = [] → q < B.n → PStep A B a.s q a.t [] a.q q
  | two {b : Mv} {p : Nat} : b ∈ B.moves → b.t = [] → p < A.n → PStep A B p b.s [] b.g p b.q
  | both {a b : Mv} : a ∈ A.moves → b ∈ B.moves → a.g ≠ [] → a.g = b.t → PStep A B a.s b.s a.t b.g a.q b.q
inductive PWalk (A B : Ma) : Nat → List Nat → List Nat → Nat → Nat → Prop
  | nil : PWalk A B 0 [] [] A.b B.b
  | snoc {n : Nat} {t w r g : List Nat} {p q p' q' : Nat} : PWalk A B n t w p q → PStep A B p q r g p' q' → PWalk A B (n + 1) (t ++ r) (w ++ g) p' q'

/-! a way of the turned machine -/
section
variable {Φ : Nat → Option Fn} {d : Nat} {h : H} {Q : V → H → Prop}

/-- one step, as a value -/
structure St4 where
  p : Nat
  q : Nat
  r : List Nat
  g : List Nat
noncomputable def St4.v (x : St4) : V := .tup [.int x.p, .int x.q, .str x.r, .str x.g]
noncomputable def s3 (q : Nat) (a b : Mv) : Option V := if b.s = q ∧ b.t = a.g then some (St4.v ⟨a.q, b.q, a.t, b.g⟩) else none
noncomputable def s2 (p q : Nat) (b : Mv) : Option V := if b.s = q ∧ b.t = [] then some (St4.v ⟨p, b.q, [], b.g⟩) else none
end
end Tw
end

section
namespace Tw

section
variable {Φ : Nat → Option Fn} {d : Nat} {h : H} {Q : V → H → Prop}

end
end Tw
end

section
namespace Tw

/-! all that a machine writes, plain -/
section
variable {M : Ma} {t : List Nat} {most : Nat} (ok : M.ok)
include ok
end

/-! all strs up to a length -/
/-! the heap of the loop: the dict of what was met, the row, the dict of what was found -/
section
variable (B : H) (T : List (Ent (Nat × Nat × List Nat))) (ver : Nat) (fe : List (V × V)) (fv : Nat)
end
end Tw
end

section
namespace Tw

section
variable {Φ : Nat → Option Fn} {d : Nat} {h : H} {Q : V → H → Prop}

end
end Tw
end

section
namespace Tw
/-- a branch that is not taken -/
theorem A_skip {C : Ora} (hC : MonoC C) {L : Env} {h : H} {r : List S} {Q : Out → Rho → H → Prop} {t : E} {a : List S} (x : ∀ ρ, Ag L ρ → wpT C t ρ h fun b h₁ => b = false ∧ AB C L h₁ r Q) : AB C L h (.ite t a [] :: r) Q := fun ρ ag =>
  B_ite (wpT_mono hC t (fun b h₁ ⟨e, y⟩ => by subst e; exact y ρ ag) (x ρ ag))
end Tw
end

section
namespace Tw

/-! search with a stack, plain -/
inductive Reach {N : Type} (b : N) (sc : N → List N) : N → Prop
  | nil : Reach b sc b
  | step {x y : N} : Reach b sc x → y ∈ sc x → Reach b sc y
structure Dfs {N : Type} (b : N) (sc : N → List N) (T W : List N) (P : N → Prop) : Prop where
  head : b ∈ T
  nodup : T.Nodup
  reach : ∀ x ∈ T, Reach b sc x
  sub : ∀ x ∈ W, x ∈ T
  clos : ∀ x ∈ T, x ∈ W ∨ P x ∨ ∀ y ∈ sc x, y ∈ T
structure DfI {N : Type} (b : N) (sc : N → List N) (T W : List N) (c : N) (i : Nat) : Prop extends Dfs b sc T W (fun x => x = c) where
  here : c ∈ T
  part : ∀ y ∈ (sc c).take i, y ∈ T
section
variable {N : Type} {b : N} {sc : N → List N} {T W : List N} {c : N} {i : Nat}
end

/-! a dict whose values are all True -/
section
variable {N : Type} {nv : N → V} (inj : ∀ a b, nv a = nv b → a = b)
include inj
theorem nv_mem {T : List N} {z : N} : nv z ∈ T.map nv ↔ z ∈ T := by
  rw [List.mem_map]
  exact ⟨fun ⟨e, he, h⟩ => inj _ _ h ▸ he, fun h => ⟨z, h, rfl⟩⟩
end

/-! a text's part -/
/-! lists of strs in order are the same where their items are -/
noncomputable abbrev fits (t r : List Nat) (i : Nat) : Prop := (t.take (i + r.length)).drop i = r
end Tw
end

section
namespace Tw
theorem it_dict {h : H} {n ver : Nat} {es : List (V × V)} (x : h[n]? = some (.dict es ver)) : ∀ Q : It → Prop, Q (.keys n ver es.length 0) → IterW (.ref n) h Q := fun Q q => iter_dict x q
theorem rd_last {h : H} {n : Nat} {vs : List V} {v : V} (x : h[n]? = some (.list (vs ++ [v]))) : RdW h (.ref n) (.int (-1)) v := fun R q => by
  unfold SubW; dsimp only; rw [x]; exact .inr ⟨v, rfl, by simp, q⟩
end Tw
end

section
namespace Tw
section
variable {C : Ora} {L : Env} {h : H} {r : List S} {Q : Out → Rho → H → Prop} {e : E} {g g' : List V} {c : List Prop} {v : V}
/-- a new list into a dict -/
theorem A_putL {o n ver : Nat} {es : List (V × V)} {k : E} {vk : V} {g₂ g₂' : List V} {c₂ : List Prop} (ho : lk L o = some (.ref n)) (hn : h[n]? = some (.dict es ver)) (x : ev L (h ++ [MO.list []]) k g₂ = some (vk, c₂, g₂')) (hc₂ : AllP c₂) (hk : vk.isKey = true) (hl : es.length < SZ) (q : ∀ ver, AB C L ((h ++ [MO.list []]).set n (.dict (dput es vk (.ref h.length)) ver)) r Q) : AB C L h (.store (.var o) k (.list []) :: r) Q := fun ρ ag => by
  refine B_store ?_
  rw [e_list, es_nil, e_vk, ag o _ ho]
  refine A_ev (C := C) (Q := fun vi h₃ => StoreW (.ref n) vi (.ref h.length) h₃ fun h₄ => wpB C r ρ h₄ Q) x hc₂ ?_ ρ ag
  rw [x_std (get_app hn)]
  exact ⟨hk, hl, fun ver => q ver ρ ag⟩
variable (hC : MonoC C)
include hC
/-- a loop that appends at most one value a turn, and may read the heap -/
theorem A_for_app2 {α : Type} {l : List α} {f : α → V} {ga : α → Option V} {t : Tgt} {it : Nat → It} {K : H → Prop} {tst x : E} {fd ld : Nat} {base : List V} {L₀ : Env} (go : Goes it (l.map f) K) (hin : AllIn L₀ L) (hno : (L₀.all fun p => !t.has p.1) = true) (hf : lk L₀ fd = some (.ref ld)) (hL : h[ld]? = some (.list base)) (hlen : base.length + l.length ≤ SZ)
    (he : ev L h e g = some (v, c, g')) (hc : AllP c) (hv : ∀ Q : It → Prop, Q (it 0) → IterW v h Q) (hK : ∀ out, K (h.set ld (.list out)))
    (step : ∀ a ∈ l, ∀ out, bindA t (f a) L₀ fun L' => ∃ g₀ b cs g₁, evT L' (h.set ld (.list out)) tst g₀ = some (b, cs, g₁) ∧ AllP cs ∧ b = (ga a).isSome ∧ ∀ w, ga a = some w → ∃ g₀ cs g₁, ev L' (h.set ld (.list out)) x g₀ = some (w, cs, g₁) ∧ AllP cs)
    (fin : AB C L₀ (h.set ld (.list (base ++ l.filterMap ga))) r Q) : AB C L h (.for t e [.ite tst [.expr (.meth .append (.var fd) [x])] []] :: r) Q := fun ρ ag => by
  have clean : ∀ i v, lk L₀ i = some v → t.has i = false := by
    clear hin hf step fin
    intro i v
    induction L₀ with
    | nil => intro e; cases e
    | cons p r ih =>
      obtain ⟨j, w⟩ := p
      rw [List.all_cons, Bool.and_eq_true, Bool.not_eq_true'] at hno
      intro e
      unfold lk at e
      cases hb : Nat.beq i j with
      | true => rw [Nat.eq_of_beq_eq_true hb]; exact hno.1
      | false => rw [hb] at e; exact ih hno.2 e
  have a₀ := AllIn.ag ag hin
  have agree : ∀ {ρ'}, (∀ j, t.has j = false → ρ' j = ρ j) → Ag L₀ ρ' := fun hρ i v e => by rw [hρ i (clean i v e)]; exact a₀ i v e
  refine B_for_appG hC go hK hL (a₀ fd _ hf) (clean fd _ hf) hlen (A_ev (C := C) (Q := fun w h₁ => (∀ Q : It → Prop, Q (it 0) → IterW w h Q) ∧ h₁ = h) he hc ⟨hv, rfl⟩ ρ ag) (fun a ha ρ' out hρ => ?_) fun ρ' hρ => fin ρ' (agree hρ)
  refine bindA_ok (agree hρ) (step a ha out) fun L' ρ'' a' z => ?_
  obtain ⟨g₀, b, cs, g₁, h1, h2, h3, h4⟩ := z
  refine evT_snd a' tst _ _ _ _ h1 h2 (fun y => y = b) rfl _ fun y e => ⟨rfl, e.trans h3, fun w hw => ?_⟩
  obtain ⟨g₀, cs, g₁, h5, h6⟩ := h4 w hw
  exact ev_snd a' x _ _ _ _ h5 h6 (fun y => y = w) rfl _ fun y e => ⟨e, rfl⟩
end
theorem nd_true {p : Prop} [Decidable p] (h : (!decide p) = true) : ¬ p := fun k => by rw [decide_eq_true k] at h; cases h
theorem nd_false {p : Prop} [Decidable p] (h : (!decide p) = false) : p := Classical.byContradiction fun k => by rw [decide_eq_false k] at h; cases h
theorem cat1 {a b : List Nat} (h : a.length ≤ 10000) (hb : b.length ≤ 1) : a.length + b.length ≤ SZ := Nat.le_trans (Nat.add_le_add h hb) (by decide)
theorem cat2 {a b : List Nat} (h : a.length ≤ 10000) (hb : b.length ≤ 1) : (a ++ b).length < 2 ^ 62 := by rw [List.length_append]; exact Nat.lt_of_le_of_lt (Nat.add_le_add h hb) (by decide)
theorem leM {n : Nat} (h : n ≤ 10000) : n ≤ 1000000 := Nat.le_trans h (by decide)
theorem lt_of_dec {a b : Nat} (h : decide ((a : Int) < b) = true) : a < b := Int.ofNat_lt.mp (of_decide_eq_true h)
theorem ge_of_dec {a b : Nat} (h : decide ((a : Int) < b) = false) : b ≤ a := Nat.not_lt.mp fun k => of_decide_eq_false h (Int.ofNat_lt.mpr k)
theorem ltSZ {n : Nat} (h : n ≤ 10000) : n < SZ := Nat.lt_of_le_of_lt h (by decide)
theorem leSZ {n : Nat} (h : n ≤ 10000) : n ≤ SZ := Nat.le_of_lt (ltSZ h)
theorem lt62 {n : Nat} (h : n ≤ 10000) : n < 2 ^ 62 := Nat.lt_of_le_of_lt h (by decide)
theorem ne01 (n : Nat) : n ≠ n + 1 := Nat.ne_of_lt (Nat.lt_succ_self n)
theorem ne02 (n : Nat) : n ≠ n + 2 := Nat.ne_of_lt (Nat.lt_add_of_pos_right (by decide))
theorem ne12 (n : Nat) : n + 1 ≠ n + 2 := Nat.ne_of_lt (Nat.lt_succ_self _)
theorem map_fm {α β : Type} {p : α → Prop} [DecidablePred p] {f : α → β} (l : List α) : (l.filter fun a => decide (p a)).map f = l.filterMap (fun a => if p a then some (f a) else none) := (fm_filter l).symm
theorem filter_fm {α β γ : Type} {p : α → Prop} [DecidablePred p] {f : α → β} {v : β → γ} (l : List α) : ((l.filter fun a => decide (p a)).map f).map v = l.filterMap (fun a => if p a then some (v (f a)) else none) := by rw [List.map_map]; exact map_fm l
theorem map_flat {α β γ : Type} {f : α → List β} {v : β → γ} : ∀ (l : List α), (l.flatMap f).map v = l.flatMap fun a => (f a).map v
  | [] => rfl
  | a :: r => by rw [List.flatMap_cons, List.map_append, List.flatMap_cons, map_flat r]
end Tw
end

section
namespace Tw

/-! pairs of states, plain -/
abbrev N2 := Nat × Nat
structure Stp where
  a : Option Nat
  b : Option Nat
  to : N2
noncomputable def onV (o : Option Nat) : V := match o with | none => .none | some k => .int k
noncomputable def Stp.v (s : Stp) : V := .tup [onV s.a, onV s.b, nv2 s.to]
noncomputable def rdO (ms : List Mv) (o : Option Nat) : List Nat := match o with | none => [] | some i => (ms[i]?.map Mv.t).getD []
noncomputable def wrO (ms : List Mv) (o : Option Nat) : List Nat := match o with | none => [] | some i => (ms[i]?.map Mv.g).getD []
noncomputable def qO (ms : List Mv) (i : Nat) : Nat := (ms[i]?.map Mv.q).getD 0
noncomputable def pA (ms : List Mv) (x : N2) (i : Nat) : List Stp :=
  if rdO ms (some i) = [] then [⟨some i, none, (qO ms i, x.2)⟩] else ((outs ms x.2).filter fun j => decide (rdO ms (some j) = rdO ms (some i))).map fun j => ⟨some i, some j, (qO ms i, qO ms j)⟩
noncomputable def pB (ms : List Mv) (x : N2) : List Stp := ((outs ms x.2).filter fun j => decide (rdO ms (some j) = [])).map fun j => ⟨none, some j, (x.1, qO ms j)⟩
noncomputable def stps (ms : List Mv) (x : N2) : List Stp := (outs ms x.1).flatMap (pA ms x) ++ pB ms x
theorem rdO_at {ms : List Mv} {i : Nat} {m : Mv} (h : ms[i]? = some m) : rdO ms (some i) = m.t := by show (ms[i]?.map Mv.t).getD [] = _; rw [h]; rfl
theorem wrO_at {ms : List Mv} {i : Nat} {m : Mv} (h : ms[i]? = some m) : wrO ms (some i) = m.g := by show (ms[i]?.map Mv.g).getD [] = _; rw [h]; rfl
theorem qO_at {ms : List Mv} {i : Nat} {m : Mv} (h : ms[i]? = some m) : qO ms i = m.q := by unfold qO; rw [h]; rfl
inductive IsStp (ms : List Mv) (x : N2) : Stp → Prop
  | one {i : Nat} {m : Mv} : ms[i]? = some m → m.s = x.1 → m.t = [] → IsStp ms x ⟨some i, none, (m.q, x.2)⟩
  | both {i j : Nat} {m n : Mv} : ms[i]? = some m → m.s = x.1 → m.t ≠ [] → ms[j]? = some n → n.s = x.2 → n.t = m.t → IsStp ms x ⟨some i, some j, (m.q, n.q)⟩
  | two {j : Nat} {n : Mv} : ms[j]? = some n → n.s = x.2 → n.t = [] → IsStp ms x ⟨none, some j, (x.1, n.q)⟩
theorem mem_stps {ms : List Mv} {x : N2} {s : Stp} : s ∈ stps ms x ↔ IsStp ms x s := by
  unfold stps
  rw [List.mem_append, List.mem_flatMap]
  constructor
  · rintro (⟨i, hi, hs⟩ | hs)
    · obtain ⟨m, hm, ms'⟩ := mem_outs.mp hi
      unfold pA at hs
      rw [rdO_at hm, qO_at hm] at hs
      by_cases ht : m.t = []
      · rw [if_pos ht, List.mem_singleton] at hs
        rw [hs]; exact .one hm ms' ht
      · rw [if_neg ht] at hs
        obtain ⟨j, hj, rfl⟩ := List.mem_map.mp hs
        obtain ⟨hj, he⟩ := List.mem_filter.mp hj
        obtain ⟨n, hn, ns⟩ := mem_outs.mp hj
        rw [rdO_at hn, decide_eq_true_eq] at he
        rw [qO_at hn]
        exact .both hm ms' ht hn ns he
    · obtain ⟨j, hj, rfl⟩ := List.mem_map.mp hs
      obtain ⟨hj, he⟩ := List.mem_filter.mp hj
      obtain ⟨n, hn, ns⟩ := mem_outs.mp hj
      rw [rdO_at hn, decide_eq_true_eq] at he
      rw [qO_at hn]
      exact .two hn ns he
  · intro hs
    cases hs with
    | @one i m hm ms' ht =>
      refine .inl ⟨i, mem_outs.mpr ⟨m, hm, ms'⟩, ?_⟩
      unfold pA
      rw [rdO_at hm, if_pos ht, qO_at hm]; exact List.mem_singleton.mpr rfl
    | @both i j m n hm ms' ht hn ns he =>
      refine .inl ⟨i, mem_outs.mpr ⟨m, hm, ms'⟩, ?_⟩
      unfold pA
      rw [rdO_at hm, if_neg ht, qO_at hm]
      exact List.mem_map.mpr ⟨j, List.mem_filter.mpr ⟨mem_outs.mpr ⟨n, hn, ns⟩, by rw [rdO_at hn, he]; exact decide_eq_true rfl⟩, by rw [qO_at hn]⟩
    | @two j n hn ns he =>
      exact .inr (List.mem_map.mpr ⟨j, List.mem_filter.mpr ⟨mem_outs.mpr ⟨n, hn, ns⟩, by rw [rdO_at hn, he]; exact decide_eq_true rfl⟩, by rw [qO_at hn]⟩)
theorem flat_le {α β : Type} {f : α → List β} {k : Nat} : ∀ (l : List α), (∀ a ∈ l, (f a).length ≤ k) → (l.flatMap f).length ≤ l.length * k
  | [], _ => by simp
  | a :: r, h => by
    rw [List.flatMap_cons, List.length_append, List.length_cons, Nat.succ_mul]
    have := flat_le r fun b hb => h b (List.mem_cons_of_mem _ hb)
    have := h a (List.mem_cons_self ..)
    omega
theorem stps_len {ms : List Mv} {x : N2} {k : Nat} (h : ms.length ≤ k) (h1 : 1 ≤ k) : (stps ms x).length ≤ k * k + k := by
  have o1 := outK_len ms ms.length x.1
  have o2 := outK_len ms ms.length x.2
  unfold stps
  rw [List.length_append]
  have a : ((outs ms x.1).flatMap (pA ms x)).length ≤ k * k := by
    refine Nat.le_trans (flat_le (k := k) _ fun i _ => ?_) (Nat.mul_le_mul_right k (Nat.le_trans o1 h))
    unfold pA
    split
    · exact h1
    · rw [List.length_map]
      exact Nat.le_trans (List.length_filter_le _ _) (Nat.le_trans o2 h)
  have b : (pB ms x).length ≤ k := by
    unfold pB
    rw [List.length_map]
    exact Nat.le_trans (List.length_filter_le _ _) (Nat.le_trans o2 h)
  omega

/-! paths of steps -/
inductive Pth (ms : List Mv) : N2 → List Stp → N2 → Prop
  | nil {x : N2} : Pth ms x [] x
  | cons {x y : N2} {s : Stp} {p : List Stp} : s ∈ stps ms x → Pth ms s.to p y → Pth ms x (s :: p) y
theorem Pth.app {ms : List Mv} {x y z : N2} {p q : List Stp} (a : Pth ms x p y) (b : Pth ms y q z) : Pth ms x (p ++ q) z := by
  induction a with
  | nil => exact b
  | cons h _ ih => exact .cons h (ih b)
theorem Pth.one {ms : List Mv} {x : N2} {s : Stp} (h : s ∈ stps ms x) : Pth ms x [s] s.to := .cons h .nil
noncomputable def w1 (ms : List Mv) (p : List Stp) : List Nat := p.flatMap fun s => wrO ms s.a
noncomputable def w2 (ms : List Mv) (p : List Stp) : List Nat := p.flatMap fun s => wrO ms s.b
theorem w1_app (ms : List Mv) (p q : List Stp) : w1 ms (p ++ q) = w1 ms p ++ w1 ms q := List.flatMap_append
theorem w2_app (ms : List Mv) (p q : List Stp) : w2 ms (p ++ q) = w2 ms p ++ w2 ms q := List.flatMap_append
theorem w1_one (ms : List Mv) (s : Stp) : w1 ms [s] = wrO ms s.a := by simp [w1]
theorem w2_one (ms : List Mv) (s : Stp) : w2 ms [s] = wrO ms s.b := by simp [w2]

/-! what the one is ahead of the other -/
noncomputable def lagF (a b : List Nat) : Option (List Nat × List Nat) := if b <+: a then some (a.drop b.length, []) else if a <+: b then some ([], b.drop a.length) else none
noncomputable def Lags (a b : List Nat) (l : List Nat × List Nat) : Prop := (l.1 = [] ∨ l.2 = []) ∧ ∃ c, a = c ++ l.1 ∧ b = c ++ l.2
theorem lagF_some {a b : List Nat} {l : List Nat × List Nat} (h : lagF a b = some l) : Lags a b l := by
  unfold lagF at h
  by_cases h1 : b <+: a
  · rw [if_pos h1] at h
    obtain ⟨t, rfl⟩ := h1
    cases h
    exact ⟨.inr rfl, b, by simp, by simp⟩
  · rw [if_neg h1] at h
    by_cases h2 : a <+: b
    · rw [if_pos h2] at h
      obtain ⟨t, rfl⟩ := h2
      cases h
      exact ⟨.inl rfl, a, by simp, by simp⟩
    · rw [if_neg h2] at h; cases h
theorem Lags.add {a b u w : List Nat} {l l' : List Nat × List Nat} (h : Lags a b l) (h' : Lags (l.1 ++ u) (l.2 ++ w) l') : Lags (a ++ u) (b ++ w) l' := by
  obtain ⟨_, c, rfl, rfl⟩ := h
  obtain ⟨h0, d, h1, h2⟩ := h'
  exact ⟨h0, c ++ d, by rw [List.append_assoc, h1, List.append_assoc], by rw [List.append_assoc, h2, List.append_assoc]⟩
theorem Lags.eq {a b : List Nat} {l : List Nat × List Nat} (h : Lags a b l) : a = b ↔ l = ([], []) := by
  obtain ⟨h0, c, rfl, rfl⟩ := h
  obtain ⟨u, w⟩ := l
  constructor
  · intro e
    have e := List.append_cancel_left e
    dsimp only at h0 e ⊢
    rcases h0 with rfl | rfl
    · rw [← e]
    · rw [e]
  · intro e
    cases e; rfl
theorem Lags.len {a b : List Nat} {l : List Nat × List Nat} (h : Lags a b l) : l.1.length ≤ a.length ∧ l.2.length ≤ b.length := by
  obtain ⟨_, c, rfl, rfl⟩ := h
  rw [List.length_append, List.length_append]; omega
/-- two unlike lags cannot both be made up by the same texts behind -/
theorem Lags.uniq {a b a' b' u w : List Nat} {l l' : List Nat × List Nat} (h : Lags a b l) (h' : Lags a' b' l') (e : a ++ u = b ++ w) (e' : a' ++ u = b' ++ w) : l = l' := by
  obtain ⟨h0, c, rfl, rfl⟩ := h
  obtain ⟨h0', c', rfl, rfl⟩ := h'
  obtain ⟨l1, l2⟩ := l
  obtain ⟨k1, k2⟩ := l'
  rw [List.append_assoc, List.append_assoc] at e e'
  have e := List.append_cancel_left e
  have e' := List.append_cancel_left e'
  dsimp only at h0 h0' e e'
  have n1 := congrArg List.length e
  have n2 := congrArg List.length e'
  rw [List.length_append, List.length_append] at n1 n2
  have nl : ∀ x : List Nat, x = [] → x.length = 0 := fun x h => by rw [h]; rfl
  have ln : ∀ x : List Nat, x.length = 0 → x = [] := fun x h => List.length_eq_zero_iff.mp h
  rcases h0 with rfl | rfl <;> rcases h0' with rfl | rfl
  · rw [List.nil_append] at e e'
    rw [e] at e'
    rw [List.append_cancel_right e']
  · have := ln l2 (by simp at n1 n2; omega)
    have := ln k1 (by simp at n1 n2; omega)
    subst l2; subst k1; rfl
  · have := ln l1 (by simp at n1 n2; omega)
    have := ln k2 (by simp at n1 n2; omega)
    subst l1; subst k2; rfl
  · rw [List.nil_append] at e e'
    rw [← e] at e'
    rw [List.append_cancel_right e']
/-- where no lag is, the texts cannot become alike -/
theorem lagF_none {a b u w : List Nat} (h : lagF a b = none) : a ++ u ≠ b ++ w := by
  intro e
  have : a <+: b ∨ b <+: a := by
    have h1 : a <+: a ++ u := List.prefix_append _ _
    have h2 : b <+: a ++ u := e ▸ List.prefix_append _ _
    exact List.prefix_or_prefix_of_prefix h1 h2
  unfold lagF at h
  by_cases h1 : b <+: a
  · rw [if_pos h1] at h; cases h
  · rw [if_neg h1] at h
    rcases this with h2 | h2
    · rw [if_pos h2] at h; cases h
    · exact h1 h2
end Tw
end

section
namespace Tw
noncomputable def fn_steps : Fn := ⟨3, [
  .assign (.name 3) (.list []),
  .for (.name 4) (.sub (.var 1) (.sub (.var 2) (.lit (.int 0)))) [
    .ite (.cmp .eq (.sub (.sub (.var 0) (.var 4)) (.lit (.int 1))) (.lit (.str []))) [
      .expr (.meth .append (.var 3) [(.tup [(.var 4), (.lit .none), (.tup [(.sub (.sub (.var 0) (.var 4)) (.lit (.int 3))), (.sub (.var 2) (.lit (.int 1)))])])])] [
      .for (.name 5) (.sub (.var 1) (.sub (.var 2) (.lit (.int 1)))) [
        .ite (.cmp .eq (.sub (.sub (.var 0) (.var 5)) (.lit (.int 1))) (.sub (.sub (.var 0) (.var 4)) (.lit (.int 1)))) [
          .expr (.meth .append (.var 3) [(.tup [(.var 4), (.var 5), (.tup [(.sub (.sub (.var 0) (.var 4)) (.lit (.int 3))), (.sub (.sub (.var 0) (.var 5)) (.lit (.int 3)))])])])] []]]],
  .for (.name 5) (.sub (.var 1) (.sub (.var 2) (.lit (.int 1)))) [
    .ite (.cmp .eq (.sub (.sub (.var 0) (.var 5)) (.lit (.int 1))) (.lit (.str []))) [
      .expr (.meth .append (.var 3) [(.tup [(.lit .none), (.var 5), (.tup [(.sub (.var 2) (.lit (.int 0))), (.sub (.sub (.var 0) (.var 5)) (.lit (.int 3)))])])])] []],
  .ret (some (.var 3))]⟩
noncomputable def fn_led_from : Fn := ⟨3, [
  .assign (.name 3) (.dict1 (.tup [(.var 2), (.var 2)]) (.list [])),
  .assign (.name 4) (.list [(.tup [(.var 2), (.var 2)])]),
  .assign (.name 5) (.lit (.int 0)),
  .while (.cmp .lt (.var 5) (.bi .len [(.var 4)])) [
    .assign (.name 6) (.sub (.var 4) (.var 5)),
    .assign (.name 5) (.bin .add (.var 5) (.lit (.int 1))),
    .for (.name 7) (.call 12 [(.var 0), (.var 1), (.var 6)]) [
      .ite (.cmp .notIn (.sub (.var 7) (.lit (.int 2))) (.var 3)) [
        .store (.var 3) (.sub (.var 7) (.lit (.int 2))) (.list []),
        .expr (.meth .append (.var 4) [(.sub (.var 7) (.lit (.int 2)))])] [],
      .expr (.meth .append (.sub (.var 3) (.sub (.var 7) (.lit (.int 2)))) [(.tup [(.var 6), (.var 7)])])]],
  .ret (some (.var 3))]⟩
noncomputable def fn_rests : Fn := ⟨2, [
  .assign (.name 2) .dict0,
  .assign (.name 3) (.list []),
  .for (.name 4) (.var 0) [
    .ite (.and (.cmp .isIn (.sub (.var 4) (.lit (.int 0))) (.var 1)) (.cmp .isIn (.sub (.var 4) (.lit (.int 1))) (.var 1))) [
      .store (.var 2) (.var 4) (.lit .none),
      .expr (.meth .append (.var 3) [(.var 4)])] []],
  .assign (.name 5) (.lit (.int 0)),
  .while (.cmp .lt (.var 5) (.bi .len [(.var 3)])) [
    .assign (.name 6) (.sub (.var 0) (.sub (.var 3) (.var 5))),
    .assign (.name 5) (.bin .add (.var 5) (.lit (.int 1))),
    .for (.tup [4, 7]) (.var 6) [
      .ite (.cmp .notIn (.var 4) (.var 2)) [
        .store (.var 2) (.var 4) (.var 7),
        .expr (.meth .append (.var 3) [(.var 4)])] []]],
  .ret (some (.var 2))]⟩
noncomputable def fn_written : Fn := ⟨2, [
  .ite (.cmp .is (.var 1) (.lit .none)) [
    .ret (some (.lit (.str [])))] [],
  .ret (some (.sub (.sub (.var 0) (.var 1)) (.lit (.int 2))))]⟩
noncomputable def fn_lag : Fn := ⟨2, [
  .ite (.meth .startswith (.var 0) [(.var 1)]) [
    .ret (some (.tup [(.slice (.var 0) (.bi .len [(.var 1)]) (.lit .none)), (.lit (.str []))]))] [],
  .ite (.meth .startswith (.var 1) [(.var 0)]) [
    .ret (some (.tup [(.lit (.str [])), (.slice (.var 1) (.bi .len [(.var 0)]) (.lit .none))]))] [],
  .ret (some (.lit .none))]⟩
noncomputable def fn_path_to : Fn := ⟨2, [
  .assign (.name 2) (.list []),
  .while (.cmp .isNot (.sub (.var 0) (.var 1)) (.lit .none)) [
    .assign (.tup [1, 3]) (.sub (.var 0) (.var 1)),
    .expr (.meth .append (.var 2) [(.var 3)])],
  .expr (.meth .reverse (.var 2) []),
  .ret (some (.var 2))]⟩
noncomputable def fn_path_on : Fn := ⟨2, [
  .assign (.name 2) (.list []),
  .while (.cmp .isNot (.sub (.var 0) (.var 1)) (.lit .none)) [
    .expr (.meth .append (.var 2) [(.sub (.var 0) (.var 1))]),
    .assign (.name 1) (.sub (.sub (.var 0) (.var 1)) (.lit (.int 2)))],
  .ret (some (.var 2))]⟩
noncomputable def fn_shown : Fn := ⟨2, [
  .assign (.name 2) (.comp (.comp (.sub (.var 9) (.var 6)) (.name 9) (.var 1) (some (.cmp .isNot (.sub (.var 9) (.var 6)) (.lit .none)))) (.name 6) (.tup [(.lit (.int 0)), (.lit (.int 1))]) none),
  .assign (.name 3) (.meth .join (.lit (.str [])) [(.comp (.sub (.sub (.var 0) (.var 6)) (.lit (.int 1))) (.name 6) (.sub (.var 2) (.lit (.int 0))) none)]),
  .assign (.name 4) (.comp (.meth .join (.lit (.str [])) [(.comp (.sub (.sub (.var 0) (.var 9)) (.lit (.int 2))) (.name 9) (.var 6) none)]) (.name 6) (.var 2) none),
  .ret (some (.tup [(.tup [(.var 3), (.sub (.var 2) (.lit (.int 0))), (.sub (.var 2) (.lit (.int 1)))]), (.cmp .ne (.sub (.var 4) (.lit (.int 0))) (.sub (.var 4) (.lit (.int 1))))]))]⟩
noncomputable def fn_gone_through : Fn := ⟨1, [
  .assign (.tup [1, 2, 3, 4]) (.call 1 [(.var 0)]),
  .assign (.name 5) (.call 2 [(.var 1), (.var 4)]),
  .assign (.name 6) (.call 14 [(.call 13 [(.var 4), (.var 5), (.var 2)]), (.var 3)]),
  .assign (.name 7) .dict0,
  .assign (.name 8) .dict0,
  .assign (.name 9) (.list []),
  .ite (.cmp .isIn (.tup [(.var 2), (.var 2)]) (.var 6)) [
    .store (.var 7) (.tup [(.var 2), (.var 2)]) (.tup [(.lit (.str [])), (.lit (.str []))]),
    .store (.var 8) (.tup [(.var 2), (.var 2)]) (.lit .none),
    .expr (.meth .append (.var 9) [(.tup [(.var 2), (.var 2)])])] [],
  .assign (.name 10) (.lit (.int 0)),
  .while (.cmp .lt (.var 10) (.bi .len [(.var 9)])) [
    .assign (.name 11) (.sub (.var 9) (.var 10)),
    .assign (.name 10) (.bin .add (.var 10) (.lit (.int 1))),
    .ite (.and (.cmp .is (.sub (.var 6) (.var 11)) (.lit .none)) (.cmp .ne (.sub (.var 7) (.var 11)) (.tup [(.lit (.str [])), (.lit (.str []))]))) [
      .ret (some (.tup [(.var 7), (.sub (.call 19 [(.var 4), (.call 17 [(.var 8), (.var 11)])]) (.lit (.int 0)))]))] [],
    .for (.name 12) (.comp (.var 26) (.name 26) (.call 12 [(.var 4), (.var 5), (.var 11)]) (some (.cmp .isIn (.sub (.var 26) (.lit (.int 2))) (.var 6)))) [
      .assign (.name 13) (.call 16 [(.bin .add (.sub (.sub (.var 7) (.var 11)) (.lit (.int 0))) (.call 15 [(.var 4), (.sub (.var 12) (.lit (.int 0)))])), (.bin .add (.sub (.sub (.var 7) (.var 11)) (.lit (.int 1))) (.call 15 [(.var 4), (.sub (.var 12) (.lit (.int 1)))]))]),
      .ite (.or (.cmp .is (.var 13) (.lit .none)) (.and (.cmp .isIn (.sub (.var 12) (.lit (.int 2))) (.var 7)) (.cmp .ne (.sub (.var 7) (.sub (.var 12) (.lit (.int 2)))) (.var 13)))) [
        .ret (some (.tup [(.var 7), (.call 21 [(.var 4), (.var 6), (.var 8), (.var 11), (.var 12)])]))] [],
      .ite (.cmp .notIn (.sub (.var 12) (.lit (.int 2))) (.var 7)) [
        .store (.var 7) (.sub (.var 12) (.lit (.int 2))) (.var 13),
        .store (.var 8) (.sub (.var 12) (.lit (.int 2))) (.tup [(.var 11), (.var 12)]),
        .expr (.meth .append (.var 9) [(.sub (.var 12) (.lit (.int 2)))])] []]],
  .ret (some (.tup [(.var 7), (.lit .none)]))]⟩
noncomputable def fn_unlike : Fn := ⟨5, [
  .assign (.name 5) (.call 18 [(.var 1), (.sub (.var 4) (.lit (.int 2)))]),
  .assign (.tup [6, 7]) (.call 19 [(.var 0), (.bin .add (.bin .add (.call 17 [(.var 2), (.var 3)]) (.list [(.var 4)])) (.var 5))]),
  .ite (.var 7) [
    .ret (some (.var 6))] [],
  .ret (some (.sub (.call 19 [(.var 0), (.bin .add (.call 17 [(.var 2), (.sub (.var 4) (.lit (.int 2)))]) (.var 5))]) (.lit (.int 0))))]⟩
noncomputable def fn_twofold : Fn := ⟨1, [
  .ret (some (.sub (.call 20 [(.var 0)]) (.lit (.int 1))))]⟩
noncomputable def fn_ahead : Fn := ⟨1, [
  .assign (.tup [1, 2]) (.call 20 [(.var 0)]),
  .ite (.cmp .isNot (.var 2) (.lit .none)) [
    .raise] [],
  .ret (some (.comp (.tup [(.sub (.var 7) (.lit (.int 0))), (.sub (.var 7) (.lit (.int 1))), (.sub (.sub (.var 1) (.var 7)) (.lit (.int 0))), (.sub (.sub (.var 1) (.var 7)) (.lit (.int 1)))]) (.name 7) (.bi .sorted [(.var 1)]) none))]⟩
end Tw
end

section
namespace Tw

noncomputable def spL (m : Nat) (ov : V) (x : N2) (l : Nat) : Env := [(0, .ref m), (1, ov), (2, nv2 x), (3, .ref l)]
section
variable {Φ : Nat → Option Fn} {d : Nat} {h : H} {Q : V → H → Prop}
theorem rd_mv {m i : Nat} {ms : List Mv} {mv : Mv} (hm : h[m]? = some (.list (ms.map Mv.v))) (hl : ms.length ≤ 1000) (hi : ms[i]? = some mv) : RdW h (.ref m) (.int i) mv.v := rd_list hm (by have := (List.getElem?_eq_some_iff.mp hi).1; omega) (by rw [List.getElem?_map, hi]; rfl)
theorem stps_ok {m : Nat} {ov : V} {M : Ma} {x : N2} (h12 : Φ 12 = some fn_steps) (ok : M.ok) (hm : h[m]? = some (.list (M.moves.map Mv.v))) (ho : OutAt h ov M) (hx1 : x.1 < M.n) (hx2 : x.2 < M.n) (hK : M.moves.length ≤ 1000)
    (hb : (stps M.moves x).length < 10000000) (q : Q (.ref h.length) (h ++ [.list ((stps M.moves x).map Stp.v)])) : Calls Φ (d + 1) 12 [.ref m, ov, nv2 x] h Q := by
  obtain ⟨Lo, ro, rfl, ho1, ho2⟩ := ho
  refine ⟨fn_steps, h12, rfl, A_fn ?_⟩
  have mC := calls_mono (Φ := Φ) d
  have hz := SZ_val
  have hn2 := ok.n2
  have hset : ∀ a b, (h ++ [MO.list a]).set h.length (.list b) = h ++ [MO.list b] := fun a b => set_last ..
  have ro1 : ∀ t, RdW (h ++ t) (.ref Lo) (.int x.1) (.ref (ro + x.1)) := fun t => rd_list (get_app ho1) (lt62 (Nat.le_trans (Nat.le_of_lt hx1) (Nat.le_trans hn2 (by decide)))) (by rw [List.getElem?_map, List.getElem?_range hx1]; rfl)
  have ro2 : ∀ t, RdW (h ++ t) (.ref Lo) (.int x.2) (.ref (ro + x.2)) := fun t => rd_list (get_app ho1) (lt62 (Nat.le_trans (Nat.le_of_lt hx2) (Nat.le_trans hn2 (by decide)))) (by rw [List.getElem?_map, List.getElem?_range hx2]; rfl)
  have lo := outK_len M.moves M.moves.length x.2
  have lt0 : ((outs M.moves x.1).flatMap (pA M.moves x)).length ≤ (stps M.moves x).length := by unfold stps; rw [List.length_append]; exact Nat.le_add_right ..
  have lt : ∀ i, ((outs M.moves x.1).take i |>.flatMap (pA M.moves x)).length ≤ (stps M.moves x).length := fun i => by
    refine Nat.le_trans ?_ lt0
    conv => rhs; rw [← List.take_append_drop i (outs M.moves x.1), List.flatMap_append, List.length_append]
    exact Nat.le_add_right ..
  refine A_list0 (A_for_flat mC (goes_seq (ro + x.1) _) (l := outs M.moves x.1) (f := natV) (ff := fun i => (pA M.moves x i).map Stp.v) (L₀ := spL m (.ref Lo) x h.length) (g := [.ref (ro + x.1)]) (by repeat (first | exact trivial | refine ⟨rfl, ?_⟩)) (get_last _ _) rfl ⟨ro1 _, trivial⟩ (it_list (get_app (ho2 _ hx1))) (fun out => by rw [hset]; exact get_app (ho2 _ hx1)) (fun k i hi R hR => ?_) ?_)
  · have l0 := lt k
    obtain ⟨mv, hmv, hs⟩ := mem_outs.mp (List.mem_of_getElem? hi)
    rw [hset, List.nil_append] at hR
    rw [hset, List.nil_append]
    rw [← map_flat] at hR
    rw [← map_flat]
    have l1 : (((outs M.moves x.1).take k |>.flatMap (pA M.moves x)).map Stp.v).length ≤ (stps M.moves x).length := by rw [List.length_map]; exact l0
    generalize ((outs M.moves x.1).take k |>.flatMap (pA M.moves x)).map Stp.v = base at hR l1
    have fin : ∀ {L' : Env} {vs : List V}, AllIn (spL m (.ref Lo) x h.length) L' → vs = base ++ (pA M.moves x i).map Stp.v → AB (Calls Φ d) L' (h ++ [MO.list vs]) [] R := fun hin e => A_nil fun ρ ag => by rw [e]; exact hR ρ (AllIn.ag ag hin)
    unfold pA at fin
    rw [rdO_at hmv, qO_at hmv] at fin
    refine A_if (g := [mv.v]) rfl ⟨rd_mv (get_app hm) hK hmv, trivial⟩ (fun hc => ?_) fun hc => ?_
    · have ht : mv.t = [] := of_decide_eq_true hc
      rw [if_pos ht] at fin
      refine A_app rfl (get_last _ _) (Nat.lt_of_le_of_lt l1 (Nat.lt_trans hb (by decide))) (g := [mv.v]) rfl ⟨rd_mv (get_app hm) hK hmv, trivial⟩ ?_
      rw [hset]
      exact A_then (fin (by repeat (first | exact trivial | refine ⟨rfl, ?_⟩)) rfl)
    · have ht : mv.t ≠ [] := of_decide_eq_false hc
      rw [if_neg ht] at fin
      refine A_for_app2 mC (goes_seq (ro + x.2) _) (l := outs M.moves x.2) (f := natV) (ga := fun j => if rdO M.moves (some j) = mv.t then some (Stp.v ⟨some i, some j, (mv.q, qO M.moves j)⟩) else none) (L₀ := (4, .int i) :: spL m (.ref Lo) x h.length) (g := [.ref (ro + x.2)]) (by repeat (first | exact trivial | refine ⟨rfl, ?_⟩)) rfl rfl (get_last _ _) (Nat.le_trans (Nat.add_le_add (Nat.le_trans l1 (Nat.le_of_lt hb)) (Nat.le_trans lo hK)) (by decide)) rfl ⟨ro2 _, trivial⟩ (it_list (get_app (ho2 _ hx2))) (fun out => by rw [hset]; exact get_app (ho2 _ hx2)) (fun j hj out => ?_) ?_
      · obtain ⟨nv, hnv, hns⟩ := mem_outs.mp hj
        rw [hset]
        refine ⟨[nv.v, mv.v], _, _, _, rfl, ⟨rd_mv (get_app hm) hK hnv, rd_mv (get_app hm) hK hmv, trivial⟩, isS_if (by rw [rdO_at hnv]), fun w hw => ?_⟩
        obtain ⟨_, rfl⟩ := some_if hw
        rw [qO_at hnv]
        exact ⟨[mv.v, nv.v], _, _, rfl, rd_mv (get_app hm) hK hmv, rd_mv (get_app hm) hK hnv, trivial⟩
      · rw [hset]
        exact A_then (fin (by repeat (first | exact trivial | refine ⟨rfl, ?_⟩)) (by rw [filter_fm]))
  · rw [hset, List.nil_append, ← map_flat]
    have l1 : (((outs M.moves x.1).flatMap (pA M.moves x)).map Stp.v).length ≤ (stps M.moves x).length := by rw [List.length_map]; exact lt0
    have e2 : (stps M.moves x).map Stp.v = ((outs M.moves x.1).flatMap (pA M.moves x)).map Stp.v ++ (outs M.moves x.2).filterMap (fun j => if rdO M.moves (some j) = [] then some (Stp.v ⟨none, some j, (x.1, qO M.moves j)⟩) else none) := by
      unfold stps pB; rw [List.map_append, filter_fm]
    rw [e2] at q
    generalize ((outs M.moves x.1).flatMap (pA M.moves x)).map Stp.v = base at q l1
    refine A_for_app2 mC (goes_seq (ro + x.2) _) (l := outs M.moves x.2) (f := natV) (ga := fun j => if rdO M.moves (some j) = [] then some (Stp.v ⟨none, some j, (x.1, qO M.moves j)⟩) else none) (L₀ := spL m (.ref Lo) x h.length) (g := [.ref (ro + x.2)]) (by repeat (first | exact trivial | refine ⟨rfl, ?_⟩)) rfl rfl (get_last _ _) (Nat.le_trans (Nat.add_le_add (Nat.le_trans l1 (Nat.le_of_lt hb)) (Nat.le_trans lo hK)) (by decide)) rfl ⟨ro2 _, trivial⟩ (it_list (get_app (ho2 _ hx2))) (fun out => by rw [hset]; exact get_app (ho2 _ hx2)) (fun j hj out => ?_) ?_
    · obtain ⟨nv, hnv, hns⟩ := mem_outs.mp hj
      rw [hset]
      refine ⟨[nv.v], _, _, _, rfl, ⟨rd_mv (get_app hm) hK hnv, trivial⟩, isS_if (by rw [rdO_at hnv]), fun w hw => ?_⟩
      obtain ⟨_, rfl⟩ := some_if hw
      rw [qO_at hnv]
      exact ⟨[nv.v], _, _, rfl, rd_mv (get_app hm) hK hnv, trivial⟩
    · rw [hset]
      exact A_ret (g := []) rfl trivial fun ρ => q
end
end Tw
end

section
namespace Tw

theorem nd_inj {α β : Type} {f : α → β} : ∀ {l : List α}, (l.map f).Nodup → ∀ {a b : α}, a ∈ l → b ∈ l → f a = f b → a = b
  | [], _, _, _, h, _, _ => nomatch h
  | x :: r, nd, a, b, ha, hb, e => by
    rw [List.map_cons, List.nodup_cons] at nd
    rcases List.mem_cons.mp ha with ha | ha <;> rcases List.mem_cons.mp hb with hb | hb
    · rw [ha, hb]
    · exact absurd (List.mem_map.mpr ⟨b, hb, by rw [← e, ha]⟩) nd.1
    · exact absurd (List.mem_map.mpr ⟨a, ha, by rw [e, hb]⟩) nd.1
    · exact nd_inj nd.2 ha hb e
/-! dicts whose keys are pairs -/
section
variable {α : Type} {k : α → N2} {w : α → V}
theorem keys_map (l : List α) : (l.map fun e => (nv2 (k e), w e)).map (·.1) = (l.map k).map nv2 := by rw [List.map_map, List.map_map]; rfl
theorem keys_in {l : List α} {z : N2} : nv2 z ∈ (l.map fun e => (nv2 (k e), w e)).map (·.1) ↔ z ∈ l.map k := by rw [keys_map]; exact nv_mem nv2_inj
theorem dget_map : ∀ {l : List α}, (l.map k).Nodup → ∀ {e : α}, e ∈ l → dget (l.map fun e => (nv2 (k e), w e)) (nv2 (k e)) = some (w e)
  | [], _, _, h => nomatch h
  | f :: r, nd, e, h => by
    rw [List.map_cons, List.nodup_cons] at nd
    unfold dget
    rw [List.map_cons, List.find?_cons]
    by_cases hk : k f = k e
    · rw [decide_eq_true (show nv2 (k f) = nv2 (k e) by rw [hk])]
      rcases List.mem_cons.mp h with rfl | h
      · rfl
      · exact absurd (hk ▸ List.mem_map.mpr ⟨e, h, rfl⟩) nd.1
    · rw [decide_eq_false (fun x => hk (nv2_inj _ _ x))]
      rcases List.mem_cons.mp h with rfl | h
      · exact absurd rfl hk
      · exact dget_map nd.2 h
theorem dput_map {l : List α} {z : N2} {v : V} (hz : z ∉ l.map k) : dput (l.map fun e => (nv2 (k e), w e)) (nv2 z) v = (l.map fun e => (nv2 (k e), w e)) ++ [(nv2 z, v)] := by
  unfold dput
  rw [dget_keys, decide_eq_false fun h => hz (keys_in.mp h), if_neg Bool.false_ne_true]
end

noncomputable def pv (y : N2 × Stp) : V := .tup [nv2 y.1, y.2.v]
noncomputable def kvE (E : List (N2 × Nat)) : List (V × V) := E.map fun e => (nv2 e.1, .ref e.2)
noncomputable def into (T : List (N2 × Stp)) (z : N2) : List (N2 × Stp) := T.filter fun y => decide (y.2.to = z)
structure LedH (h H : Tw.H) (dn rn : Nat) (E : List (N2 × Nat)) (T : List (N2 × Stp)) : Prop where
  pre : h <+: H
  dict : ∃ ver, H[dn]? = some (.dict (kvE E) ver)
  row : H[rn]? = some (.list (E.map fun e => nv2 e.1))
  nd : (E.map (·.2)).Nodup
  off : ∀ e ∈ E, h.length ≤ e.2 ∧ e.2 ≠ dn ∧ e.2 ≠ rn
  cell : ∀ e ∈ E, H[e.2]? = some (.list ((into T e.1).map pv))
section
variable {h H : Tw.H} {dn rn : Nat} {E : List (N2 × Nat)} {T : List (N2 × Stp)}
theorem LedH.app (x : LedH h H dn rn E T) (t : Tw.H) : LedH h (H ++ t) dn rn E T := ⟨x.pre.trans (List.prefix_append _ _), x.dict.imp fun _ => get_app, get_app x.row, x.nd, x.off, fun e he => get_app (x.cell e he)⟩
theorem LedH.new (x : LedH h H dn rn E T) (hd : h.length ≤ dn) (hr : h.length ≤ rn) (hdr : dn ≠ rn) {z : N2} (hz : z ∉ E.map (·.1)) (hT : ∀ y ∈ T, y.2.to ≠ z) (ver : Nat) : LedH h (((H ++ [MO.list []]).set dn (MO.dict (dput (kvE E) (nv2 z) (.ref H.length)) ver)).set rn (MO.list ((E.map fun e : N2 × Nat => nv2 e.1) ++ [nv2 z]))) dn rn (E ++ [(z, H.length)]) T := by
  obtain ⟨v0, hdict⟩ := x.dict
  have ld := get_lt hdict
  have lr := get_lt x.row
  have lh := x.pre.length_le
  have le : ∀ e ∈ E, e.2 < H.length := fun e he => get_lt (x.cell e he)
  refine ⟨pre_set (pre_set (x.pre.trans (List.prefix_append _ _)) hd _) hr _, ⟨ver, ?_⟩, ?_, ?_, ?_, ?_⟩
  · rw [List.getElem?_set_ne (Ne.symm hdr), List.getElem?_set_self (by rw [List.length_append]; omega)]
    unfold kvE
    rw [dput_map (k := fun e : N2 × Nat => e.1) hz, List.map_append]; rfl
  · rw [List.getElem?_set_self (by rw [List.length_set, List.length_append]; omega), List.map_append]; rfl
  · rw [List.map_append, List.nodup_append]
    refine ⟨x.nd, by simp, fun a ha b hb e => ?_⟩
    obtain ⟨f, hf, rfl⟩ := List.mem_map.mp ha
    have := le f hf
    simp at hb
    omega
  · intro e he
    rcases List.mem_append.mp he with he | he
    · exact x.off e he
    · rw [List.mem_singleton.mp he]; exact ⟨lh, by show H.length ≠ dn; omega, by show H.length ≠ rn; omega⟩
  · intro e he
    rcases List.mem_append.mp he with he | he
    · have o := x.off e he
      rw [List.getElem?_set_ne (Ne.symm o.2.2), List.getElem?_set_ne (Ne.symm o.2.1)]
      exact get_app (x.cell e he)
    · rw [List.mem_singleton.mp he]
      rw [List.getElem?_set_ne (by show rn ≠ H.length; omega), List.getElem?_set_ne (by show dn ≠ H.length; omega)]
      have : into T z = [] := by
        unfold into
        rw [List.filter_eq_nil_iff]
        intro y hy h
        exact hT y hy (of_decide_eq_true h)
      show (H ++ [MO.list []])[H.length]? = some (.list ((into T z).map pv))
      rw [this]; exact get_last _ _
theorem LedH.log (x : LedH h H dn rn E T) (kd : (E.map (·.1)).Nodup) {e : N2 × Nat} (he : e ∈ E) {y : N2 × Stp} (hy : y.2.to = e.1) : LedH h (H.set e.2 (.list ((into T e.1).map pv ++ [pv y]))) dn rn E (T ++ [y]) := by
  have o := x.off e he
  refine ⟨pre_set x.pre o.1 _, x.dict.imp fun v hv => by rw [List.getElem?_set_ne o.2.1]; exact hv, by rw [List.getElem?_set_ne o.2.2]; exact x.row, x.nd, x.off, fun f hf => ?_⟩
  have happ : ∀ z, into (T ++ [y]) z = into T z ++ if y.2.to = z then [y] else [] := fun z => by
    unfold into
    rw [List.filter_append]
    by_cases h : y.2.to = z <;> simp [h]
  by_cases hfe : f.2 = e.2
  · have : f = e := nd_inj x.nd hf he hfe
    subst this
    rw [List.getElem?_set_self (get_lt (x.cell f hf)), happ, if_pos hy, List.map_append]; rfl
  · rw [List.getElem?_set_ne (Ne.symm hfe), x.cell f hf, happ]
    by_cases hyf : y.2.to = f.1
    · exfalso
      apply hfe
      rw [nd_inj kd hf he (by rw [← hyf, hy])]
    · rw [if_neg hyf, List.append_nil]
end
noncomputable def nxt (ms : List Mv) (x : N2) : List N2 := (stps ms x).map (·.to)
theorem mem_nxt {ms : List Mv} {x y : N2} : y ∈ nxt ms x ↔ ∃ s ∈ stps ms x, s.to = y := List.mem_map
theorem stps_in {M : Ma} (ok : M.ok) {x : N2} {s : Stp} (hs : s ∈ stps M.moves x) (h1 : x.1 < M.n) (h2 : x.2 < M.n) : s.to.1 < M.n ∧ s.to.2 < M.n := by
  cases mem_stps.mp hs with
  | one hm _ _ => exact ⟨(ok.m1 _ (List.mem_of_getElem? hm)).2.1, h2⟩
  | both hm _ _ hn _ _ => exact ⟨(ok.m1 _ (List.mem_of_getElem? hm)).2.1, (ok.m1 _ (List.mem_of_getElem? hn)).2.1⟩
  | two hn _ _ => exact ⟨h1, (ok.m1 _ (List.mem_of_getElem? hn)).2.1⟩
theorem reach_in {M : Ma} (ok : M.ok) {b x : N2} (hb : b.1 < M.n ∧ b.2 < M.n) (r : Reach b (nxt M.moves) x) : x.1 < M.n ∧ x.2 < M.n := by
  induction r with
  | nil => exact hb
  | step _ hy ih =>
    obtain ⟨s, hs, rfl⟩ := mem_nxt.mp hy
    exact stps_in ok hs ih.1 ih.2
/-- what led_from has found -/
structure Led (h : Tw.H) (dn : Nat) (ms : List Mv) (b : N2) (E : List (N2 × Nat)) (T : List (N2 × Stp)) : Prop where
  dict : ∃ ver, h[dn]? = some (.dict (kvE E) ver)
  kd : (E.map (·.1)).Nodup
  reach : ∀ x, x ∈ E.map (·.1) ↔ Reach b (nxt ms) x
  cell : ∀ e ∈ E, h[e.2]? = some (.list ((into T e.1).map pv))
  tr : ∀ y, y ∈ T ↔ y.1 ∈ E.map (·.1) ∧ y.2 ∈ stps ms y.1
noncomputable def ldL (m : Nat) (ov : V) (dn rn a : Nat) : Env := [(0, .ref m), (1, ov), (3, .ref dn), (4, .ref rn), (5, .int a)]
structure Bf (ms : List Mv) (b : N2) (R : List N2) (a : Nat) : Prop where
  nd : R.Nodup
  head : b ∈ R
  reach : ∀ x ∈ R, Reach b (nxt ms) x
  clos : ∀ i x, i < a → R[i]? = some x → ∀ y ∈ nxt ms x, y ∈ R
theorem Bf.done {ms : List Mv} {b : N2} {R : List N2} {a : Nat} (m : Bf ms b R a) (ha : R.length ≤ a) (x : N2) : x ∈ R ↔ Reach b (nxt ms) x := by
  refine ⟨m.reach x, fun r => ?_⟩
  induction r with
  | nil => exact m.head
  | step _ hy ih =>
    obtain ⟨i, hi⟩ := List.mem_iff_getElem?.mp ih
    exact m.clos i _ (by have := (List.getElem?_eq_some_iff.mp hi).1; omega) hi _ hy
noncomputable def LdI (h : Tw.H) (ms : List Mv) (b : N2) (K a rr : Nat) (x : N2) (E : List (N2 × Nat)) (i : Nat) (H : Tw.H) : Prop := ∃ E' T', E <+: E' ∧ LedH h H (h.length + 1) (h.length + 2) E' T' ∧ Bf ms b (E'.map (·.1)) a ∧ (∀ y ∈ (stps ms x).take i, y.to ∈ E'.map (·.1)) ∧ T'.length ≤ a * K + i ∧ (∀ y, y ∈ T' ↔ (y.1 ∈ (E'.map (·.1)).take a ∧ y.2 ∈ stps ms y.1) ∨ (y.1 = x ∧ y.2 ∈ (stps ms x).take i)) ∧ (∀ f ∈ E', f.2 ≠ rr) ∧ H[rr]? = some (.list ((stps ms x).map Stp.v))
noncomputable def LwI (h : Tw.H) (M : Ma) (b K n a : Nat) (H : Tw.H) : Prop := ∃ E T, n = M.n * M.n - a ∧ a ≤ E.length ∧ LedH h H (h.length + 1) (h.length + 2) E T ∧ Bf M.moves (b, b) (E.map (·.1)) a ∧ T.length ≤ a * K ∧ (∀ y, y ∈ T ↔ y.1 ∈ (E.map (·.1)).take a ∧ y.2 ∈ stps M.moves y.1)
theorem LdI.row {h : Tw.H} {ms : List Mv} {b : N2} {K a rr : Nat} {x : N2} {E : List (N2 × Nat)} {i : Nat} {H : Tw.H} (z : LdI h ms b K a rr x E i H) : H[rr]? = some (.list ((stps ms x).map Stp.v)) := by
  obtain ⟨_, _, _, _, _, _, _, _, _, g⟩ := z
  exact g
section
variable {Φ : Nat → Option Fn} {d : Nat} {h : H} {Q : V → H → Prop}
theorem led_ok {m : Nat} {ov : V} {M : Ma} {b K : Nat} (h12 : Φ 12 = some fn_steps) (h13 : Φ 13 = some fn_led_from) (ok : M.ok) (hm : h[m]? = some (.list (M.moves.map Mv.v))) (ho : OutAt h ov M) (hb : b < M.n) (hK : ∀ x, (stps M.moves x).length ≤ K) (hB : M.n * M.n * K < 10000000)
    (q : ∀ h' dn E T, h <+: h' → Led h' dn M.moves (b, b) E T → Q (.ref dn) h') : Calls Φ (d + 2) 13 [.ref m, ov, .int b] h Q := by
  have hn2 := ok.n2
  have hz := SZ_val
  have mC := calls_mono (Φ := Φ) (d + 1)
  have hnn : M.n * M.n ≤ 10000 := Nat.mul_le_mul hn2 hn2
  have inB : ∀ {R : List N2}, R.Nodup → (∀ x ∈ R, Reach (b, b) (nxt M.moves) x) → R.length ≤ M.n * M.n := fun {R} nd hr => by
    have := nodup_le R (box2 M.n M.n) nd fun x hx => by
      obtain ⟨h1, h2⟩ := reach_in ok ⟨hb, hb⟩ (hr x hx)
      exact box2_mem h1 h2
    rw [box2_len] at this; exact this
  refine ⟨fn_led_from, h13, rfl, A_fn (A_name mC fun ρ ag => ?_)⟩
  rw [e_dict1, e_tup, es_cons, e_vk, ag 2 _ rfl, vk_some, es_cons, e_vk, ag 2 _ rfl, vk_some, es_nil, e_list, es_nil]
  refine ⟨rfl, fun ver => A_list (g := []) rfl trivial (A_set (g := []) rfl trivial ?_)⟩
  generalize hH0 : h ++ [MO.list []] ++ [MO.dict [(V.tup [.int b, .int b], .ref h.length)] ver] ++ [MO.list [V.tup [.int b, .int b]]] = H0
  have l1 : (h ++ [MO.list []]).length = h.length + 1 := by simp
  have l2 : (h ++ [MO.list []] ++ [MO.dict [(V.tup [.int b, .int b], .ref h.length)] ver]).length = h.length + 2 := by simp
  rw [l1, l2]
  have x0 : LedH h H0 (h.length + 1) (h.length + 2) [((b, b), h.length)] [] := by
    subst hH0
    refine ⟨by rw [List.append_assoc, List.append_assoc]; exact List.prefix_append _ _, ⟨ver, ?_⟩, ?_, by simp, ?_, ?_⟩
    · exact get_app (by rw [← l1]; exact get_last _ _)
    · rw [← l2]; exact get_last _ _
    · intro e he; rw [List.mem_singleton.mp he]; exact ⟨Nat.le_refl _, ne01 _, ne02 _⟩
    · intro e he; rw [List.mem_singleton.mp he]; exact get_app (get_app (get_last _ _))
  clear hH0
  refine A_whileT mC (fun a : Nat => ldL m ov (h.length + 1) (h.length + 2) a) (fun n a H => LwI h M b K n a H) (M.n * M.n) 0 (by repeat (first | exact trivial | refine ⟨rfl, ?_⟩)) ⟨_, _, rfl, Nat.zero_le _, x0, ⟨by simp, by simp, fun x hx => by simp at hx; rw [hx]; exact .nil, fun i x hi => absurd hi (Nat.not_lt_zero _)⟩, by simp, fun y => by simp⟩ ?_
  rintro n a H ⟨E, T, rfl, ha, x, bf, hT, tr⟩
  have hE := inB bf.nd bf.reach
  rw [List.length_map] at hE
  refine ⟨[.int E.length], _, _, _, rfl, ⟨fun Q q => by rw [x_lenl x.row, List.length_map]; exact q, trivial⟩, fun hlt => ?_, fun hge => ?_⟩
  · have hlt : a < E.length := lt_of_dec hlt
    obtain ⟨e, he⟩ : ∃ e, E[a]? = some e := ⟨_, List.getElem?_eq_getElem hlt⟩
    have hem := List.mem_of_getElem? he
    have hek : (E.map (·.1))[a]? = some e.1 := by rw [List.getElem?_map, he]; rfl
    obtain ⟨i1, i2⟩ := reach_in ok ⟨hb, hb⟩ (bf.reach e.1 (List.mem_of_getElem? hek))
    refine A_set (g := [nv2 e.1]) rfl ⟨rd_list x.row (lt62 (Nat.le_trans (Nat.le_of_lt hlt) (Nat.le_trans hE hnn))) (by rw [List.getElem?_map, he]; rfl), trivial⟩ (A_set (g := []) rfl trivial (A_forE mC (A_callE (g := []) rfl trivial ?_)))
    have hKe := hK e.1
    have hKb : K < 10000000 := by
      have : K ≤ M.n * M.n * K := Nat.le_mul_of_pos_left _ (Nat.mul_pos ok.n1 ok.n1)
      omega
    refine stps_ok h12 ok (pre_get x.pre hm) (ho.pre x.pre) i1 i2 ok.l1 (by omega) ?_
    have x := x.app [.list ((stps M.moves e.1).map Stp.v)]
    generalize hHr : H ++ [MO.list ((stps M.moves e.1).map Stp.v)] = H1 at x
    have g1 : H1[H.length]? = some (.list ((stps M.moves e.1).map Stp.v)) := by rw [← hHr]; exact get_last _ _
    have nr : ∀ f ∈ E, f.2 ≠ H.length := fun f hf => Nat.ne_of_lt (get_lt (‹LedH h H _ _ E T›.cell f hf))
    have lH : h.length + 2 < H.length := get_lt ‹LedH h H _ _ E T›.row
    clear hHr
    generalize H.length = rr at g1 nr lH ⊢
    refine A_for mC (goes_seq rr ((stps M.moves e.1).map Stp.v)) (fun _ : Unit => (6, nv2 e.1) :: ldL m ov (h.length + 1) (h.length + 2) (a + 1)) (fun i _ H => LdI h M.moves (b, b) K a rr e.1 E i H) () (by repeat (first | exact trivial | refine ⟨rfl, ?_⟩)) (A_ev (g := []) rfl trivial ⟨it_list g1, E, T, List.prefix_refl _, x, bf, fun y hy => (nomatch hy), hT, fun y => by rw [tr y]; exact ⟨.inl, fun z => z.elim id fun z => nomatch z.2⟩, nr, g1⟩) (fun i _ H x => LdI.row x) ?_ ?_
    · rintro i v _ H hv ⟨E', T', pE, x, bf', hin, hT', tr', nr', g1⟩
      obtain ⟨s, hs, rfl, hil⟩ := map_at hv
      have hE' := inB bf'.nd bf'.reach
      rw [List.length_map] at hE'
      have hsm := List.mem_of_getElem? hs
      have hst : ∀ y, y ∈ (stps M.moves e.1).take (i + 1) ↔ y ∈ (stps M.moves e.1).take i ∨ y = s := fun y => by rw [List.take_add_one, hs, List.mem_append]; exact or_congr Iff.rfl List.mem_singleton
      have haK : (a + 1) * K ≤ M.n * M.n * K := Nat.mul_le_mul_right K (by omega)
      rw [Nat.succ_mul] at haK
      have tgt : ∀ y ∈ T', y.2.to ∈ E'.map (·.1) := fun y hy => by
        rcases (tr' y).mp hy with ⟨h1, h2⟩ | ⟨h1, h2⟩
        · obtain ⟨j, hj⟩ := List.mem_iff_getElem?.mp h1
          have lj := (List.getElem?_eq_some_iff.mp hj).1
          rw [List.length_take] at lj
          rw [List.getElem?_take_of_lt (by omega)] at hj
          exact bf'.clos j _ (by omega) hj _ (mem_nxt.mpr ⟨_, h2, rfl⟩)
        · exact hin _ h2
      have fin : ∀ {R : V → Rho → Tw.H → Prop} {H2 : Tw.H} {E2 : List (N2 × Nat)}, E <+: E2 → E' <+: E2 → LedH h H2 (h.length + 1) (h.length + 2) E2 T' → Bf M.moves (b, b) (E2.map (·.1)) a → s.to ∈ E2.map (·.1) → (∀ f ∈ E2, f.2 ≠ rr) → H2[rr]? = some (.list ((stps M.moves e.1).map Stp.v)) →
          AB (Calls Φ (d + 1)) ((7, s.v) :: (6, nv2 e.1) :: ldL m ov (h.length + 1) (h.length + 2) (a + 1)) H2 [.expr (.meth .append (.sub (.var 3) (.sub (.var 7) (.lit (.int 2)))) [(.tup [(.var 6), (.var 7)])])] (fun o ρ' h' => match o with | .next => ∃ s' : Unit, Ag ((6, nv2 e.1) :: ldL m ov (h.length + 1) (h.length + 2) (a + 1)) ρ' ∧ LdI h M.moves (b, b) K a rr e.1 E (i + 1) h' | .ret w => R w ρ' h') := by
        intro R H2 E2 p1 p2 x2 bf2 hto nr2 g2
        obtain ⟨f, hf, hft⟩ := List.mem_map.mp hto
        obtain ⟨ver2, hd2⟩ := x2.dict
        have tk : (E2.map (·.1)).take a = (E'.map (·.1)).take a := by
          obtain ⟨t, rfl⟩ := p2
          have : a ≤ (E'.map (·.1)).length := by have := pE.length_le; rw [List.length_map]; omega
          rw [List.map_append, List.take_append_of_le_length this]
        refine A_appE (g₂ := [.ref f.2]) rfl ⟨rd_dict hd2 rfl ?_, trivial⟩ (x2.cell f hf) ?_ (g := []) rfl trivial ?_
        · rw [← hft]; exact dget_map (k := fun e : N2 × Nat => e.1) bf2.nd hf
        · rw [List.length_map]
          have := List.length_filter_le (fun y : N2 × Stp => decide (y.2.to = f.1)) T'
          unfold into; omega
        have x3 := x2.log bf2.nd hf (y := (e.1, s)) hft.symm
        refine A_next () (by repeat (first | exact trivial | refine ⟨rfl, ?_⟩)) ⟨E2, T' ++ [(e.1, s)], p1, x3, bf2, fun y hy => ?_, by rw [List.length_append]; show _ + 1 ≤ _; omega, fun y => ?_, nr2, by rw [List.getElem?_set_ne (nr2 f hf)]; exact g2⟩
        · rcases (hst y).mp hy with hy | hy
          · obtain ⟨t, rfl⟩ := p2
            rw [List.map_append]; exact List.mem_append_left _ (hin y hy)
          · rw [hy]; exact hto
        · rw [List.mem_append, tr' y, tk, or_assoc, hst y.2]
          refine or_congr Iff.rfl ⟨fun z => ?_, fun z => ?_⟩
          · rcases z with z | z
            · exact ⟨z.1, .inl z.2⟩
            · rw [List.mem_singleton.mp z]; exact ⟨rfl, .inr rfl⟩
          · rcases z with ⟨z1, z2 | z2⟩
            · exact .inl ⟨z1, z2⟩
            · exact .inr (List.mem_singleton.mpr (Prod.ext z1 z2))
      obtain ⟨ver', hd'⟩ := x.dict
      refine A_if (g := [.bool (!decide (s.to ∈ E'.map (·.1)))]) rfl ⟨cm_nin hd' rfl keys_in, trivial⟩ (fun hc => ?_) fun hc => A_then (fin pE (List.prefix_refl _) x bf' (nd_false hc) nr' g1)
      have hnew : s.to ∉ E'.map (·.1) := nd_true hc
      refine A_putL rfl hd' (g₂ := []) rfl trivial rfl (by unfold kvE; rw [List.length_map]; exact ltSZ (Nat.le_trans hE' hnn)) fun ver2 => A_app rfl (by rw [List.getElem?_set_ne (ne12 _)]; exact get_app x.row) (by rw [List.length_map]; exact ltSZ (Nat.le_trans hE' hnn)) (g := []) rfl trivial (A_then ?_)
      have lH2 := get_lt g1
      have xn := x.new (Nat.le_add_right ..) (Nat.le_add_right ..) (ne12 _) hnew (fun y hy e => hnew (e ▸ tgt y hy)) ver2
      refine fin (pE.trans (List.prefix_append _ _)) (List.prefix_append _ _) xn ?_ ?_ ?_ ?_
      · rw [List.map_append]
        refine ⟨List.nodup_append.mpr ⟨bf'.nd, by simp, fun u hu w hw e => hnew ?_⟩, List.mem_append_left _ bf'.head, fun u hu => ?_, fun j u hj hu w hw => List.mem_append_left _ ?_⟩
        · have : w = s.to := by simpa using hw
          rw [← this, ← e]; exact hu
        · rcases List.mem_append.mp hu with hu | hu
          · exact bf'.reach u hu
          · have : u = s.to := by simpa using hu
            rw [this]
            exact .step (bf.reach e.1 (List.mem_of_getElem? hek)) (mem_nxt.mpr ⟨s, hsm, rfl⟩)
        · rw [List.getElem?_append_left (by have := pE.length_le; rw [List.length_map]; omega)] at hu
          exact bf'.clos j u hj hu w hw
      · rw [List.map_append]; exact List.mem_append_right _ (List.mem_singleton.mpr rfl)
      · intro f hf
        rcases List.mem_append.mp hf with hf | hf
        · exact nr' f hf
        · rw [List.mem_singleton.mp hf]; exact Nat.ne_of_gt lH2
      · rw [List.getElem?_set_ne (Nat.ne_of_lt lH), List.getElem?_set_ne (Nat.ne_of_lt (Nat.lt_trans (Nat.lt_succ_self _) lH))]
        exact get_app g1
    · rintro _ H ⟨E', T', pE, x, bf', hin, hT', tr', nr', g1⟩
      rw [List.length_map] at hin hT' tr'
      rw [List.take_length] at hin tr'
      have hE' := inB bf'.nd bf'.reach
      rw [List.length_map] at hE'
      have lE := pE.length_le
      have he' : (E'.map (·.1))[a]? = some e.1 := by
        obtain ⟨t, rfl⟩ := pE
        rw [List.map_append, List.getElem?_append_left (by rw [List.length_map]; exact hlt)]; exact hek
      refine A_again (M.n * M.n - (a + 1)) (a + 1) (by omega) (by repeat (first | exact trivial | refine ⟨rfl, ?_⟩)) ⟨E', T', rfl, by omega, x, ⟨bf'.nd, bf'.head, bf'.reach, fun j u hj hu w hw => ?_⟩, by rw [Nat.succ_mul]; omega, fun y => ?_⟩
      · by_cases hja : j = a
        · rw [hja, he'] at hu
          cases hu
          obtain ⟨s, hs, rfl⟩ := mem_nxt.mp hw
          exact hin s hs
        · exact bf'.clos j u (by omega) hu w hw
      · rw [tr' y, List.take_add_one, he', List.mem_append]
        constructor
        · rintro (⟨z1, z2⟩ | ⟨z1, z2⟩)
          · exact ⟨.inl z1, z2⟩
          · exact ⟨.inr (List.mem_singleton.mpr z1), z1 ▸ z2⟩
        · rintro ⟨z1 | z1, z2⟩
          · exact .inl ⟨z1, z2⟩
          · have z1 := List.mem_singleton.mp z1
            exact .inr ⟨z1, z1 ▸ z2⟩
  · have hge : E.length ≤ a := ge_of_dec hge
    have : a = E.length := Nat.le_antisymm ha hge
    subst this
    have hl : (E.map (·.1)).length = E.length := List.length_map ..
    refine A_ret (g := []) rfl trivial fun ρ => q H _ E T x.pre ⟨x.dict, bf.nd, bf.done (by omega), x.cell, fun y => ?_⟩
    rw [tr y, ← hl, List.take_length]
end
end Tw
end

section
namespace Tw

noncomputable def osV (o : Option Stp) : V := match o with | none => .none | some s => s.v
noncomputable def kvF (F : List (N2 × Option Stp)) : List (V × V) := F.map fun e => (nv2 e.1, osV e.2)
noncomputable def rowF (F : List (N2 × Option Stp)) : List V := F.map fun e => nv2 e.1
noncomputable def Fin2 (es : List Nat) (x : N2) : Prop := x.1 ∈ es ∧ x.2 ∈ es
noncomputable instance (es : List Nat) : DecidablePred (Fin2 es) := fun _ => Classical.propDecidable _
/-- from here a pair of ends is come to -/
inductive Co (ms : List Mv) (es : List Nat) : N2 → Prop
  | fin {x : N2} : Fin2 es x → Co ms es x
  | step {x : N2} {s : Stp} : s ∈ stps ms x → Co ms es s.to → Co ms es x
structure Rs (ms : List Mv) (es : List Nat) (R : List N2) (F : List (N2 × Option Stp)) (a : Nat) : Prop where
  nd : (F.map (·.1)).Nodup
  sub : ∀ e ∈ F, e.1 ∈ R
  fin : ∀ x ∈ R, Fin2 es x → x ∈ F.map (·.1)
  val : ∀ (i : Nat) x o, F[i]? = some (x, o) → (o = none ∧ Fin2 es x) ∨ ∃ s, o = some s ∧ ¬ Fin2 es x ∧ s ∈ stps ms x ∧ ∃ (j : Nat) (o' : Option Stp), j < i ∧ F[j]? = some (s.to, o')
  clos : ∀ (i : Nat) x o, i < a → F[i]? = some (x, o) → ∀ p ∈ R, ∀ s ∈ stps ms p, s.to = x → p ∈ F.map (·.1)
/-- what rests has found -/
structure Rst (h : Tw.H) (fd : Nat) (ms : List Mv) (es : List Nat) (b : N2) (F : List (N2 × Option Stp)) : Prop where
  dict : ∃ ver, h[fd]? = some (.dict (kvF F) ver)
  nd : (F.map (·.1)).Nodup
  val : ∀ (i : Nat) x o, F[i]? = some (x, o) → (o = none ∧ Fin2 es x) ∨ ∃ s, o = some s ∧ ¬ Fin2 es x ∧ s ∈ stps ms x ∧ ∃ (j : Nat) (o' : Option Stp), j < i ∧ F[j]? = some (s.to, o')
  mem : ∀ x, x ∈ F.map (·.1) ↔ Reach b (nxt ms) x ∧ Co ms es x
theorem Rs.done {ms : List Mv} {es : List Nat} {R : List N2} {F : List (N2 × Option Stp)} {a : Nat} {b : N2} (r : Rs ms es R F a) (ha : F.length ≤ a) (hR : ∀ x, x ∈ R ↔ Reach b (nxt ms) x) (x : N2) : x ∈ F.map (·.1) ↔ Reach b (nxt ms) x ∧ Co ms es x := by
  have co : ∀ (n i : Nat) x o, i < n → F[i]? = some (x, o) → Co ms es x := by
    intro n
    induction n with
    | zero => intro i x o hi; exact absurd hi (Nat.not_lt_zero _)
    | succ n ih =>
      intro i x o hi hx
      rcases r.val i x o hx with ⟨_, hf⟩ | ⟨s, _, _, hs, j, o', hj, hjx⟩
      · exact .fin hf
      · exact .step hs (ih j s.to o' (by omega) hjx)
  constructor
  · intro hx
    obtain ⟨e, he, rfl⟩ := List.mem_map.mp hx
    refine ⟨(hR _).mp (r.sub e he), ?_⟩
    obtain ⟨i, hi⟩ := List.mem_iff_getElem?.mp he
    exact co (i + 1) i e.1 e.2 (by omega) hi
  · rintro ⟨h1, h2⟩
    induction h2 with
    | fin hf => exact r.fin _ ((hR _).mpr h1) hf
    | step hs _ ih =>
      have := ih (.step h1 (mem_nxt.mpr ⟨_, hs, rfl⟩))
      obtain ⟨e, he, hee⟩ := List.mem_map.mp this
      obtain ⟨i, hi⟩ := List.mem_iff_getElem?.mp he
      exact r.clos i e.1 e.2 (by have := (List.getElem?_eq_some_iff.mp hi).1; omega) hi _ ((hR _).mpr h1) _ hs hee.symm
theorem Rs.put {ms : List Mv} {es : List Nat} {R : List N2} {F : List (N2 × Option Stp)} {a : Nat} (r : Rs ms es R F a) {x y : N2} {s : Stp} {o : Option Stp} (ha : a < F.length) (hx : F[a]? = some (x, o)) (hy : y ∈ R) (hs : s ∈ stps ms y) (hto : s.to = x) (hn : y ∉ F.map (·.1)) : Rs ms es R (F ++ [(y, some s)]) a where
  nd := by
    rw [List.map_append]
    refine List.nodup_append.mpr ⟨r.nd, by simp, fun u hu w hw e => hn ?_⟩
    have : w = y := by simpa using hw
    rw [← this, ← e]; exact hu
  sub := fun e he => by
    rcases List.mem_append.mp he with he | he
    · exact r.sub e he
    · rw [List.mem_singleton.mp he]; exact hy
  fin := fun z hz hf => by rw [List.map_append]; exact List.mem_append_left _ (r.fin z hz hf)
  val := fun i z o' hz => by
    rcases Nat.lt_or_ge i F.length with h1 | h1
    · rw [List.getElem?_append_left h1] at hz
      rcases r.val i z o' hz with h | ⟨s', e1, e2, e3, j, o2, hj, hj2⟩
      · exact .inl h
      · exact .inr ⟨s', e1, e2, e3, j, o2, hj, by rw [List.getElem?_append_left (by omega)]; exact hj2⟩
    · rw [List.getElem?_append_right h1] at hz
      have h2 := (List.getElem?_eq_some_iff.mp hz).1
      have : i = F.length := by simp at h2; omega
      subst this
      rw [Nat.sub_self] at hz
      cases hz
      refine .inr ⟨s, rfl, fun hf => hn (r.fin y hy hf), hs, a, o, ha, ?_⟩
      rw [List.getElem?_append_left ha, hto]; exact hx
  clos := fun i z o' hi hz p hp s' hs' e => by
    rw [List.getElem?_append_left (by omega)] at hz
    rw [List.map_append]; exact List.mem_append_left _ (r.clos i z o' hi hz p hp s' hs' e)
noncomputable def rsL (dn fd rd a : Nat) : Env := [(0, .ref dn), (2, .ref fd), (3, .ref rd), (5, .int a)]
noncomputable def RwI (h : Tw.H) (M : Ma) (E : List (N2 × Nat)) (n a : Nat) (H : Tw.H) : Prop := ∃ F ver, n = 10000 - a ∧ a ≤ F.length ∧ Rs M.moves M.ends (E.map (·.1)) F a ∧ H = h ++ [.dict (kvF F) ver, .list (rowF F)]
noncomputable def RwJ (h : Tw.H) (M : Ma) (E : List (N2 × Nat)) (T : List (N2 × Stp)) (F : List (N2 × Option Stp)) (x : N2) (a i : Nat) (H : Tw.H) : Prop := ∃ F' ver, F <+: F' ∧ Rs M.moves M.ends (E.map (·.1)) F' a ∧ (∀ y ∈ (into T x).take i, y.1 ∈ F'.map (·.1)) ∧ H = h ++ [.dict (kvF F') ver, .list (rowF F')]
section
variable {Φ : Nat → Option Fn} {d : Nat} {h : H} {Q : V → H → Prop}
theorem rests_ok {dn fn : Nat} {M : Ma} {b : N2} {E : List (N2 × Nat)} {T : List (N2 × Stp)} (h14 : Φ 14 = some fn_rests) (ok : M.ok) (hb : b.1 < M.n ∧ b.2 < M.n) (le : Led h dn M.moves b E T) (hf : ∃ ver, h[fn]? = some (.dict (finD M.ends) ver))
    (q : ∀ h' fd F, h <+: h' → Rst h' fd M.moves M.ends b F → Q (.ref fd) h') : Calls Φ (d + 1) 14 [.ref dn, .ref fn] h Q := by
  have hn2 := ok.n2
  have hz := SZ_val
  have mC := calls_mono (Φ := Φ) d
  have hnn : M.n * M.n ≤ 10000 := Nat.mul_le_mul hn2 hn2
  obtain ⟨dv, hd⟩ := le.dict
  obtain ⟨fv, hf⟩ := hf
  have inB : ∀ {R : List N2}, R.Nodup → (∀ x ∈ R, x ∈ E.map (·.1)) → R.length ≤ 10000 := fun {R} nd hr => by
    have := nodup_le R (box2 M.n M.n) nd fun x hx => by
      obtain ⟨h1, h2⟩ := reach_in ok hb ((le.reach x).mp (hr x hx))
      exact box2_mem h1 h2
    rw [box2_len] at this; omega
  have hEl := inB le.kd fun x hx => hx
  rw [List.length_map] at hEl
  have hset : ∀ (a c a' : MO), (h ++ [a, c]).set h.length a' = h ++ [a', c] := fun a c a' => set2a ..
  have hset2 : ∀ (a c c' : MO), (h ++ [a, c]).set (h.length + 1) c' = h ++ [a, c'] := fun a c c' => by simp
  refine ⟨fn_rests, h14, rfl, A_fn (A_dict0 fun ver0 => A_list0 ?_)⟩
  rw [List.append_assoc, List.length_append]
  have kE : (kvE E).map (·.1) = (E.map (·.1)).map nv2 := keys_map (k := fun e : N2 × Nat => e.1) E
  refine A_for mC (kE ▸ goes_keys dn dv (kvE E)) (fun _ : Unit => [(0, .ref dn), (1, .ref fn), (2, .ref h.length), (3, .ref (h.length + 1))]) (fun i _ H => ∃ ver, H = h ++ [.dict (kvF (((E.map (·.1)).take i |>.filter fun x => decide (Fin2 M.ends x)).map fun x => (x, none))) ver, .list (rowF (((E.map (·.1)).take i |>.filter fun x => decide (Fin2 M.ends x)).map fun x => (x, none)))]) () (by repeat (first | exact trivial | refine ⟨rfl, ?_⟩)) (A_ev (g := []) rfl trivial ⟨it_dict (get_app hd), ver0, rfl⟩) (fun i _ H ⟨ver, e⟩ => by rw [e]; exact get_app hd) ?_ ?_
  · rintro i v _ H hv ⟨ver, rfl⟩
    obtain ⟨x, hx, rfl, hil⟩ := map_at hv
    have et : ((E.map (·.1)).take (i + 1) |>.filter fun x => decide (Fin2 M.ends x)) = ((E.map (·.1)).take i |>.filter fun x => decide (Fin2 M.ends x)) ++ if Fin2 M.ends x then [x] else [] := by
      rw [List.take_add_one, hx, List.filter_append]
      by_cases h : Fin2 M.ends x <;> simp [h]
    rw [et]
    have ln : ((E.map (·.1)).take i |>.filter fun x => decide (Fin2 M.ends x)).length ≤ 10000 := inB (le.kd.sublist (List.filter_sublist.trans (List.take_sublist ..))) fun x hx => List.mem_of_mem_take (List.mem_filter.mp hx).1
    have hnx : x ∉ ((E.map (·.1)).take i |>.filter fun x => decide (Fin2 M.ends x)) := fun hm => by
      have := (List.mem_filter.mp hm).1
      have nd := le.kd
      rw [← List.take_append_drop i (E.map (·.1)), List.nodup_append] at nd
      refine nd.2.2 x this x ?_ rfl
      rw [List.mem_iff_getElem?]
      exact ⟨0, by rw [List.getElem?_drop]; exact hx⟩
    generalize ((E.map (·.1)).take i |>.filter fun x => decide (Fin2 M.ends x)) = F0 at ln hnx
    refine A_if (g := [.bool (decide (x.1 ∈ M.ends)), .bool (decide (x.2 ∈ M.ends))]) rfl ⟨cm_in (get_app hf) rfl fin_mem, fun _ => ⟨cm_in (get_app hf) rfl fin_mem, trivial⟩, trivial⟩ (fun hc => ?_) fun hc => A_then (A_next () (by repeat (first | exact trivial | refine ⟨rfl, ?_⟩)) ⟨ver, ?_⟩)
    · have hF : Fin2 M.ends x := (Bool.and_eq_true_iff.mp hc).imp of_decide_eq_true of_decide_eq_true
      rw [if_pos hF]
      refine A_put (g := []) (g₂ := []) rfl (last2a ..) rfl trivial rfl trivial rfl (by unfold kvF; rw [List.length_map, List.length_map]; exact ltSZ ln) fun ver' => ?_
      rw [hset]
      refine A_app (g := []) rfl (len2 ..) (by unfold rowF; rw [List.length_map, List.length_map]; exact ltSZ ln) rfl trivial ?_
      rw [hset2]
      refine A_then (A_next () (by repeat (first | exact trivial | refine ⟨rfl, ?_⟩)) ⟨ver', ?_⟩)
      have : kvF ((F0 ++ [x]).map fun x => (x, none)) = dput (kvF (F0.map fun x => (x, none))) (nv2 x) .none := by
        unfold kvF
        rw [dput_map (k := fun e : N2 × Option Stp => e.1) (by rw [List.map_map]; simpa using hnx), List.map_append, List.map_append]; rfl
      rw [this]
      have : rowF ((F0 ++ [x]).map fun x => (x, none)) = rowF (F0.map fun x => (x, none)) ++ [nv2 x] := by unfold rowF; rw [List.map_append, List.map_append]; rfl
      rw [this]
    · have hF : ¬ Fin2 M.ends x := fun hF => by
        have : (decide (x.1 ∈ M.ends) && decide (x.2 ∈ M.ends)) = true := by rw [decide_eq_true hF.1, decide_eq_true hF.2]; rfl
        exact absurd (this.symm.trans hc) (fun e => nomatch e)
      rw [if_neg hF, List.append_nil]
  rintro _ H ⟨ver, rfl⟩
  rw [List.length_map, List.take_length]
  have rs0 : Rs M.moves M.ends (E.map (·.1)) (((E.map (·.1)).filter fun x => decide (Fin2 M.ends x)).map fun x => (x, none)) 0 := by
    refine ⟨?_, fun e he => ?_, fun x hx hf => ?_, fun i x o hx => ?_, fun i _ _ hi => absurd hi (Nat.not_lt_zero _)⟩
    · rw [List.map_map, show ((fun e : N2 × Option Stp => e.1) ∘ fun x => (x, none)) = id from rfl, List.map_id]
      exact le.kd.sublist List.filter_sublist
    · obtain ⟨x, hx, rfl⟩ := List.mem_map.mp he
      exact (List.mem_filter.mp hx).1
    · rw [List.map_map, show ((fun e : N2 × Option Stp => e.1) ∘ fun x => (x, none)) = id from rfl, List.map_id]
      exact List.mem_filter.mpr ⟨hx, decide_eq_true hf⟩
    · obtain ⟨y, hy, hyx⟩ := List.mem_map.mp (List.mem_of_getElem? hx)
      cases hyx
      exact .inl ⟨rfl, of_decide_eq_true (List.mem_filter.mp hy).2⟩
  generalize (((E.map (·.1)).filter fun x => decide (Fin2 M.ends x)).map fun x => ((x, none) : N2 × Option Stp)) = F0 at rs0
  refine A_set (g := []) rfl trivial (A_whileT mC (fun a : Nat => rsL dn h.length (h.length + 1) a) (fun n a H => RwI h M E n a H) 10000 0 (by repeat (first | exact trivial | refine ⟨rfl, ?_⟩)) ⟨F0, ver, rfl, Nat.zero_le _, rs0, rfl⟩ ?_)
  rintro n a H ⟨F, ver, rfl, ha, rs, rfl⟩
  have hFl : F.length ≤ 10000 := by
    have := inB rs.nd fun x hx => by obtain ⟨e, he, rfl⟩ := List.mem_map.mp hx; exact rs.sub e he
    rw [List.length_map] at this; exact this
  refine ⟨[.int F.length], _, _, _, rfl, ⟨fun Q q => by rw [x_lenl (len2 ..), rowF, List.length_map]; exact q, trivial⟩, fun hlt => ?_, fun hge => ?_⟩
  · have hlt : a < F.length := lt_of_dec hlt
    obtain ⟨⟨x, o⟩, hx⟩ : ∃ e, F[a]? = some e := ⟨_, List.getElem?_eq_getElem hlt⟩
    obtain ⟨e, he, hex⟩ := List.mem_map.mp (rs.sub _ (List.mem_of_getElem? hx))
    have hex : e.1 = x := hex
    have hg := dget_map (k := fun e : N2 × Nat => e.1) (w := fun e => .ref e.2) le.kd he
    refine A_set (g := [nv2 x, .ref e.2]) rfl ⟨rd_list (len2 ..) (lt62 (Nat.le_trans (Nat.le_of_lt hlt) hFl)) (by unfold rowF; rw [List.getElem?_map, hx]; rfl), rd_dict (get_app hd) rfl (hex ▸ hg), trivial⟩ (A_set (g := []) rfl trivial ?_)
    refine A_for mC (goes_seq e.2 ((into T e.1).map pv)) (fun _ : Unit => rsL dn h.length (h.length + 1) (a + 1)) (fun i _ H => RwJ h M E T F e.1 a i H) () (by repeat (first | exact trivial | refine ⟨rfl, ?_⟩)) (A_ev (g := []) rfl trivial ⟨it_list (get_app (le.cell e he)), F, ver, List.prefix_refl _, rs, fun y hy => (nomatch hy), rfl⟩) (fun i _ H z => by obtain ⟨_, _, _, _, _, g⟩ := z; rw [g]; exact get_app (le.cell e he)) ?_ ?_
    · rintro i v _ H hv ⟨F', ver', pF, rs', hin, rfl⟩
      obtain ⟨y, hy, rfl, hil⟩ := map_at hv
      have hyt : ∀ z, z ∈ (into T e.1).take (i + 1) ↔ z ∈ (into T e.1).take i ∨ z = y := fun z => by rw [List.take_add_one, hy, List.mem_append]; exact or_congr Iff.rfl List.mem_singleton
      have hF'l : F'.length ≤ 10000 := by
        have := inB rs'.nd fun x hx => by obtain ⟨e, he, rfl⟩ := List.mem_map.mp hx; exact rs'.sub e he
        rw [List.length_map] at this; exact this
      obtain ⟨hyT, hye⟩ := List.mem_filter.mp (List.mem_of_getElem? hy)
      obtain ⟨hy1, hy2⟩ := (le.tr y).mp hyT
      have hye : y.2.to = x := by rw [of_decide_eq_true hye, hex]
      refine ⟨rfl, A_if (g := [.bool (!decide (y.1 ∈ F'.map (·.1)))]) rfl ⟨cm_nin (last2a ..) rfl keys_in, trivial⟩ (fun hc => ?_) fun hc => A_then (A_next () (by repeat (first | exact trivial | refine ⟨rfl, ?_⟩)) ⟨F', ver', pF, rs', fun z hz => ?_, rfl⟩)⟩
      · have hnew : y.1 ∉ F'.map (·.1) := nd_true hc
        refine A_put (g := []) (g₂ := []) rfl (last2a ..) rfl trivial rfl trivial rfl (by unfold kvF; rw [List.length_map]; exact ltSZ hF'l) fun ver2 => ?_
        rw [hset]
        refine A_app (g := []) rfl (len2 ..) (by unfold rowF; rw [List.length_map]; exact ltSZ hF'l) rfl trivial ?_
        rw [hset2]
        have lF := pF.length_le
        have hx' : F'[a]? = some (x, o) := by obtain ⟨t, rfl⟩ := pF; rw [List.getElem?_append_left hlt]; exact hx
        refine A_then (A_next () (by repeat (first | exact trivial | refine ⟨rfl, ?_⟩)) ⟨F' ++ [(y.1, some y.2)], ver2, pF.trans (List.prefix_append _ _), rs'.put (by omega) hx' hy1 hy2 hye hnew, fun z hz => ?_, ?_⟩)
        · rw [List.map_append]
          rcases (hyt z).mp hz with hz | hz
          · exact List.mem_append_left _ (hin z hz)
          · rw [hz]; exact List.mem_append_right _ (List.mem_singleton.mpr rfl)
        · unfold kvF rowF
          rw [dput_map (k := fun e : N2 × Option Stp => e.1) hnew, List.map_append, List.map_append]; rfl
      · rcases (hyt z).mp hz with hz | hz
        · exact hin z hz
        · rw [hz]; exact nd_false hc
    · rintro _ H ⟨F', ver', pF, rs', hin, rfl⟩
      rw [List.length_map, List.take_length] at hin
      have lF := pF.length_le
      refine A_again (10000 - (a + 1)) (a + 1) (by omega) (by repeat (first | exact trivial | refine ⟨rfl, ?_⟩)) ⟨F', ver', rfl, by omega, { rs' with clos := fun i z o' hi hz p hp s hs e' => ?_ }, rfl⟩
      by_cases hia : i = a
      · subst hia
        have hx' : F'[i]? = some (x, o) := by obtain ⟨t, rfl⟩ := pF; rw [List.getElem?_append_left hlt]; exact hx
        rw [hx'] at hz
        cases hz
        exact hin (p, s) (List.mem_filter.mpr ⟨(le.tr _).mpr ⟨hp, hs⟩, decide_eq_true (e'.trans hex.symm)⟩)
      · exact rs'.clos i z o' (by omega) hz p hp s hs e'
  · have hge : F.length ≤ a := ge_of_dec hge
    exact A_ret (g := []) rfl trivial fun ρ => q _ _ F (List.prefix_append _ _) ⟨⟨ver, last2a ..⟩, rs.nd, rs.val, rs.done hge le.reach⟩
end
end Tw
end

section
namespace Tw

section
variable {C : Ora} {L : Env} {h : H} {Q : V → H → Prop} {e : E} {g g' : List V} {c : List Prop} {v : V}
/-- a comprehension over two values -/
theorem A_comp2 (hC : MonoC C) {elt : E} {i : Nat} {a b : V} {it : Nat → It} {K : H → Prop} (go : Goes it [a, b] K) (he : ev L h e g = some (v, c, g')) (hc : AllP c) (hv : ∀ Q : It → Prop, Q (it 0) → IterW v h Q) (hK : ∀ h', h <+: h' → K h')
    (x : AE C ((i, a) :: L) h elt fun v1 h1 => h <+: h1 ∧ AE C ((i, b) :: L) h1 elt fun v2 h2 => h <+: h2 ∧ Q (.ref h2.length) (h2 ++ [.list [v1, v2]])) : AE C L h (.comp elt (.name i) e none) Q := fun ρ ag => by
  obtain ⟨I, h0, h1, h2⟩ : ∃ I : Nat → List V → H → Prop, (∀ out h', I 0 out h' ↔ out = [] ∧ h' = h) ∧ (∀ out h', I 1 out h' ↔ h <+: h' ∧ ∃ v1, out = [v1] ∧ AE C ((i, b) :: L) h' elt fun v2 h2 => h <+: h2 ∧ Q (.ref h2.length) (h2 ++ [.list [v1, v2]])) ∧ ∀ k out h', I (k + 2) out h' ↔ h <+: h' ∧ Q (.ref h'.length) (h' ++ [.list out]) :=
    ⟨fun k => Nat.rec (fun out h' => out = [] ∧ h' = h) (fun k _ => Nat.rec (fun out h' => h <+: h' ∧ ∃ v1, out = [v1] ∧ AE C ((i, b) :: L) h' elt fun v2 h2 => h <+: h2 ∧ Q (.ref h2.length) (h2 ++ [.list [v1, v2]])) (fun _ _ out h' => h <+: h' ∧ Q (.ref h'.length) (h' ++ [.list out])) k) k, fun _ _ => Iff.rfl, fun _ _ => Iff.rfl, fun _ _ _ => Iff.rfl⟩
  have pr : ∀ k out h', I k out h' → h <+: h' := fun k out h' z => by
    cases k with
    | zero => rw [((h0 out h').mp z).2]; exact List.prefix_refl _
    | succ k =>
      cases k with
      | zero => exact ((h1 out h').mp z).1
      | succ k => exact ((h2 k out h').mp z).1
  refine E_comp_it hC go I (A_ev (C := C) (Q := fun w h₁ => (∀ Q : It → Prop, Q (it 0) → IterW w h₁ Q) ∧ I 0 [] h₁) he hc ⟨hv, (h0 _ _).mpr ⟨rfl, rfl⟩⟩ ρ ag) (fun k out h' y => hK h' (pr k out h' y)) ?_ fun out h' y => ((h2 0 out h').mp y).2
  intro k w out h' hw y
  cases k with
  | zero =>
    obtain ⟨rfl, rfl⟩ := (h0 out h').mp y
    cases hw
    exact wpE_mono hC elt (fun v1 h1' z => ⟨leSZ (Nat.succ_le_of_lt (by decide)), (h1 _ _).mpr ⟨z.1, v1, rfl, z.2⟩⟩) (x _ ag.push)
  | succ k =>
    cases k with
    | zero =>
      obtain ⟨_, v1, rfl, y'⟩ := (h1 out h').mp y
      cases hw
      exact wpE_mono hC elt (fun v2 h2' z => ⟨ltSZ (show 1 ≤ 10000 by decide), (h2 0 _ _).mpr ⟨z.1, z.2⟩⟩) (y' _ ag.push)
    | succ k => cases hw
theorem A_ifW (hC : MonoC C) {t : E} {a b r : List S} {Q : Out → Rho → H → Prop} (x : ∀ ρ, Ag L ρ → wpT C t ρ h fun c h₁ => match c with | true => AB C L h₁ a (thenB C r Q) | false => AB C L h₁ b (thenB C r Q)) : AB C L h (.ite t a b :: r) Q := fun ρ ag =>
  B_ite (wpT_mono hC t (fun c h₁ y => by
    cases c with
    | true => exact y ρ ag
    | false => exact y ρ ag) (x ρ ag))
theorem A_join (hC : MonoC C) {α : Type} {e : E} (f : α → List Nat) (x : AE C L h e fun v h1 => ∃ (n : Nat) (l : List α), v = .ref n ∧ h1[n]? = some (.list (l.map fun x => .str (f x))) ∧ ((l.map f).map List.length).sum ≤ SZ ∧ Q (.str (l.flatMap f)) h1) : AE C L h (.meth .join (.lit (.str [])) [e]) Q := fun ρ ag => by
  rw [e_meth, e_lit, x_rj, es_cons]
  refine ⟨trivial, wpE_mono hC e (fun v h1 z => ?_) (x ρ ag)⟩
  obtain ⟨n, l, e1, hn, hl, q⟩ := z
  rw [e1, es_nil, x_join hn (isStrs_map f l)]
  refine ⟨hl, ?_⟩
  rw [joinS_flat, ← List.flatMap_def]; exact q
end
theorem fm_flat {ms : List Mv} {f : Stp → Option Nat} {g : Option Nat → List Nat} (g0 : g none = []) : ∀ (p : List Stp), (p.filterMap f).flatMap (fun k => g (some k)) = p.flatMap fun s => g (f s)
  | [] => rfl
  | s :: r => by
    rw [List.filterMap_cons, List.flatMap_cons]
    cases hf : f s with
    | none => rw [g0, List.nil_append]; exact fm_flat (ms := ms) g0 r
    | some k => dsimp only; rw [List.flatMap_cons, fm_flat (ms := ms) g0 r]

noncomputable def r1 (ms : List Mv) (p : List Stp) : List Nat := p.flatMap fun s => rdO ms s.a
noncomputable def lgV (o : Option (List Nat × List Nat)) : V := match o with | none => .none | some l => .tup [.str l.1, .str l.2]
section
variable {Φ : Nat → Option Fn} {d : Nat} {h : H} {Q : V → H → Prop}
theorem written_ok {m : Nat} {ms : List Mv} {o : Option Nat} (h15 : Φ 15 = some fn_written) (hm : h[m]? = some (.list (ms.map Mv.v))) (hl : ms.length ≤ 1000) (ho : ∀ i, o = some i → i < ms.length) (q : Q (.str (wrO ms o)) h) : Calls Φ (d + 1) 15 [.ref m, onV o] h Q := by
  refine ⟨fn_written, h15, rfl, A_fn ?_⟩
  cases o with
  | none => exact A_if (g := []) rfl trivial (fun _ => A_ret (g := []) rfl trivial fun ρ => q) fun e => nomatch e
  | some i =>
    obtain ⟨mv, hi⟩ : ∃ mv, ms[i]? = some mv := ⟨_, List.getElem?_eq_getElem (ho i rfl)⟩
    rw [wrO_at hi] at q
    exact A_if (g := []) rfl trivial (fun e => nomatch e) fun _ => A_then (A_ret (g := [mv.v]) rfl ⟨rd_mv hm hl hi, trivial⟩ fun ρ => q)
theorem sl_end {s : List Nat} {i : Nat} (hi : i < 2 ^ 62) : SlW h (.str s) (.int i) .none (.str (s.drop i)) := fun Q q => by
  refine ⟨i, s.length, ?_, rfl, ?_⟩
  · unfold loOf; dsimp only; rw [if_pos (by omega)]; simp
  · rw [List.take_length]; exact q
theorem lag_ok {a b : List Nat} (h16 : Φ 16 = some fn_lag) (ha : a.length < 2 ^ 62) (hb : b.length < 2 ^ 62) (q : Q (lgV (lagF a b)) h) : Calls Φ (d + 1) 16 [.str a, .str b] h Q := by
  refine ⟨fn_lag, h16, rfl, A_fn ?_⟩
  have mC := calls_mono (Φ := Φ) d
  unfold lagF at q
  refine A_ifW mC fun ρ ag => ?_
  rw [t_meth, e_vk, ag 0 _ rfl, vk_some, es_cons, e_vk, ag 1 _ rfl, vk_some, es_nil, x_sw]
  refine ⟨trivial, ?_⟩
  show (match decide (b <+: a) with | true => _ | false => _)
  by_cases h1 : b <+: a
  · rw [if_pos h1] at q
    rw [decide_eq_true h1]
    exact A_ret (g := [.str (a.drop b.length)]) rfl ⟨sl_end hb, trivial⟩ fun ρ => q
  · rw [if_neg h1] at q
    rw [decide_eq_false h1]
    refine A_then (A_ifW mC fun ρ ag => ?_)
    rw [t_meth, e_vk, ag 1 _ rfl, vk_some, es_cons, e_vk, ag 0 _ rfl, vk_some, es_nil, x_sw]
    refine ⟨trivial, ?_⟩
    show (match decide (a <+: b) with | true => _ | false => _)
    by_cases h2 : a <+: b
    · rw [if_pos h2] at q
      rw [decide_eq_true h2]
      exact A_ret (g := [.str (b.drop a.length)]) rfl ⟨sl_end ha, trivial⟩ fun ρ => q
    · rw [if_neg h2] at q
      rw [decide_eq_false h2]
      exact A_then (A_ret (g := []) rfl trivial fun ρ => q)
end
end Tw
end

section
namespace Tw

structure GE where
  x : N2
  l : List Nat × List Nat
  c : Option (N2 × Stp)
  p : List Stp
noncomputable def cV (c : Option (N2 × Stp)) : V := match c with | none => .none | some y => .tup [nv2 y.1, y.2.v]
noncomputable def kvC (G : List GE) : List (V × V) := G.map fun g => (nv2 g.x, cV g.c)
noncomputable def kvL (G : List GE) : List (V × V) := G.map fun g => (nv2 g.x, .tup [.str g.l.1, .str g.l.2])
noncomputable def rowG (G : List GE) : List V := G.map fun g => nv2 g.x
noncomputable def ChainG (G : List GE) : Prop := ∀ g ∈ G, (g.c = none ∧ g.p = []) ∨ ∃ g' ∈ G, ∃ s, g.c = some (g'.x, s) ∧ g.p = g'.p ++ [s]
theorem cut1 {α : Type} {f : α → List Nat} (l : List α) (h : ∀ x ∈ l, (f x).length ≤ 1) : ((l.map f).map List.length).sum ≤ l.length := by
  have := sum_le1 (l.map f) fun x hx => by obtain ⟨a, ha, rfl⟩ := List.mem_map.mp hx; exact h a ha
  rw [List.length_map] at this; exact this

theorem A_rev {C : Ora} {L : Env} {h : H} {r : List S} {Q : Out → Rho → H → Prop} {i n : Nat} {vs : List V} (hi : lk L i = some (.ref n)) (hn : h[n]? = some (.list vs)) (q : AB C L (h.set n (.list vs.reverse)) r Q) : AB C L h (.expr (.meth .reverse (.var i) []) :: r) Q := fun ρ ag => by
  refine B_expr ?_
  rw [e_meth, e_vk, ag i _ hi, vk_some, x_rr hn, es_nil, x_rev hn]
  exact ⟨trivial, q ρ ag⟩
section
variable {Φ : Nat → Option Fn} {d : Nat} {h : H} {Q : V → H → Prop}
theorem pathto_ok {cn : Nat} {G : List GE} {e : GE} (h17 : Φ 17 = some fn_path_to) (nd : (G.map (·.x)).Nodup) (ch : ChainG G) (hc : ∃ ver, h[cn]? = some (.dict (kvC G) ver)) (he : e ∈ G) (hl : e.p.length < SZ) (q : Q (.ref h.length) (h ++ [.list (e.p.map Stp.v)])) : Calls Φ (d + 1) 17 [.ref cn, nv2 e.x] h Q := by
  obtain ⟨ver, hc⟩ := hc
  have mC := calls_mono (Φ := Φ) d
  refine ⟨fn_path_to, h17, rfl, A_fn (A_list0 ?_)⟩
  refine A_whileT mC (fun g : GE => [(0, .ref cn), (1, nv2 g.x), (2, .ref h.length)]) (fun n g H => g ∈ G ∧ n = g.p.length ∧ ∃ ps, e.p = g.p ++ ps.reverse ∧ H = h ++ [.list (ps.map Stp.v)]) e.p.length e (by repeat (first | exact trivial | refine ⟨rfl, ?_⟩)) ⟨he, rfl, [], by simp, rfl⟩ ?_
  rintro n g H ⟨hg, rfl, ps, hps, rfl⟩
  have hr : RdW (h ++ [.list (ps.map Stp.v)]) (.ref cn) (nv2 g.x) (cV g.c) := rd_dict (get_app hc) rfl (dget_map (k := fun g : GE => g.x) nd hg)
  refine ⟨[cV g.c], _, _, _, rfl, ⟨hr, trivial⟩, fun hb => ?_, fun hb => ?_⟩
  · rcases ch g hg with ⟨c1, c2⟩ | ⟨g', hg', s, c1, c2⟩
    · rw [c1] at hb; cases hb
    rw [c1] at hr
    refine A_sets (g := [cV (some (g'.x, s))]) rfl ⟨hr, trivial⟩ rfl (A_app rfl (get_last _ _) ?_ (g := []) rfl trivial ?_)
    · have := congrArg List.length hps
      rw [List.length_append, List.length_reverse] at this
      rw [List.length_map]; omega
    rw [set_last]
    refine A_again g'.p.length g' (by rw [c2, List.length_append]; simp) (by repeat (first | exact trivial | refine ⟨rfl, ?_⟩)) ⟨hg', rfl, ps ++ [s], ?_, ?_⟩
    · rw [hps, c2]; simp
    · rw [List.map_append]; rfl
  · rcases ch g hg with ⟨c1, c2⟩ | ⟨g', hg', s, c1, c2⟩
    · refine A_rev rfl (get_last _ _) ?_
      rw [set_last]
      refine A_ret (g := []) rfl trivial fun ρ => ?_
      rw [c2, List.nil_append] at hps
      rw [← List.map_reverse, ← hps]; exact q
    · rw [c1] at hb; cases hb
theorem pathon_ok {fd : Nat} {ms : List Mv} {es : List Nat} {b x : N2} {F : List (N2 × Option Stp)} (h18 : Φ 18 = some fn_path_on) (r : Rst h fd ms es b F) (hx : x ∈ F.map (·.1)) (hF : F.length < SZ) (q : ∀ p y, Pth ms x p y → Fin2 es y → p.length ≤ F.length → Q (.ref h.length) (h ++ [.list (p.map Stp.v)])) : Calls Φ (d + 1) 18 [.ref fd, nv2 x] h Q := by
  obtain ⟨ver, hd⟩ := r.dict
  have mC := calls_mono (Φ := Φ) d
  obtain ⟨⟨x', o⟩, he, rfl⟩ := List.mem_map.mp hx
  obtain ⟨i, hi⟩ := List.mem_iff_getElem?.mp he
  have il := (List.getElem?_eq_some_iff.mp hi).1
  refine ⟨fn_path_on, h18, rfl, A_fn (A_list0 ?_)⟩
  refine A_whileT mC (fun y : N2 => [(0, .ref fd), (1, nv2 y), (2, .ref h.length)]) (fun n y H => ∃ o ps, F[n]? = some (y, o) ∧ Pth ms x' ps y ∧ ps.length + n ≤ i ∧ H = h ++ [.list (ps.map Stp.v)]) i x' (by repeat (first | exact trivial | refine ⟨rfl, ?_⟩)) ⟨o, [], hi, .nil, by simp, rfl⟩ ?_
  rintro n y H ⟨o, ps, hn, hp, hl, rfl⟩
  have hr : RdW (h ++ [.list (ps.map Stp.v)]) (.ref fd) (nv2 y) (osV o) := rd_dict (get_app hd) rfl (dget_map (k := fun e : N2 × Option Stp => e.1) (w := fun e => osV e.2) r.nd (List.mem_of_getElem? hn))
  refine ⟨[osV o], _, _, _, rfl, ⟨hr, trivial⟩, fun hb => ?_, fun hb => ?_⟩
  · rcases r.val n y o hn with ⟨rfl, _⟩ | ⟨s, rfl, _, hs, j, o', hj, hjx⟩
    · cases hb
    refine A_app rfl (get_last _ _) (by rw [List.length_map]; omega) (g := [s.v]) rfl ⟨hr, trivial⟩ ?_
    rw [set_last]
    have hr2 : RdW (h ++ [.list (ps.map Stp.v ++ [s.v])]) (.ref fd) (nv2 y) (osV (some s)) := rd_dict (get_app hd) rfl (dget_map (k := fun e : N2 × Option Stp => e.1) (w := fun e => osV e.2) r.nd (List.mem_of_getElem? hn))
    refine A_set (g := [s.v]) rfl ⟨hr2, trivial⟩ (A_again j s.to hj (by repeat (first | exact trivial | refine ⟨rfl, ?_⟩)) ⟨o', ps ++ [s], hjx, hp.app (.one hs), by rw [List.length_append]; show _ + 1 + _ ≤ _; omega, by rw [List.map_append]; rfl⟩)
  · rcases r.val n y o hn with ⟨rfl, hf⟩ | ⟨s, rfl, _, hs, j, o', hj, hjx⟩
    · exact A_ret (g := []) rfl trivial fun ρ => q ps y hp hf (by omega)
    · cases hb
theorem shown_ok {m a : Nat} {M : Ma} {p : List Stp} (h19 : Φ 19 = some fn_shown) (ok : M.ok) (hm : h[m]? = some (.list (M.moves.map Mv.v))) (ha : h[a]? = some (.list (p.map Stp.v))) (hp : p.length ≤ 1000000) (hv : ∀ s ∈ p, (∀ k, s.a = some k → k < M.moves.length) ∧ (∀ k, s.b = some k → k < M.moves.length))
    (q : ∀ h' u w, h <+: h' → h'[u]? = some (.list ((p.filterMap (·.a)).map natV)) → h'[w]? = some (.list ((p.filterMap (·.b)).map natV)) → Q (.tup [.tup [.str (r1 M.moves p), .ref u, .ref w], .bool (!decide (w1 M.moves p = w2 M.moves p))]) h') : Calls Φ (d + 1) 19 [.ref m, .ref a] h Q := by
  have mC := calls_mono (Φ := Φ) d
  have hz := SZ_val
  have l1 := ok.l1
  have la : (p.filterMap (·.a)).length ≤ p.length := List.length_filterMap_le ..
  have lb : (p.filterMap (·.b)).length ≤ p.length := List.length_filterMap_le ..
  have one : ∀ {k : Nat}, k < M.moves.length → ∃ mv, M.moves[k]? = some mv ∧ mv.t.length ≤ 1 ∧ mv.g.length ≤ 1 := fun {k} hk => by
    have hmk := List.getElem?_eq_getElem hk
    have := ok.m1 _ (List.mem_of_getElem? hmk)
    exact ⟨_, hmk, this.2.2.1, this.2.2.2⟩
  have va : ∀ k ∈ p.filterMap (·.a), k < M.moves.length := fun k hk => by
    obtain ⟨s, hs, e⟩ := List.mem_filterMap.mp hk; exact (hv s hs).1 k e
  have vb : ∀ k ∈ p.filterMap (·.b), k < M.moves.length := fun k hk => by
    obtain ⟨s, hs, e⟩ := List.mem_filterMap.mp hk; exact (hv s hs).2 k e
  have mp : ∀ (f : Stp → Option Nat), p.filterMap (fun s => (f s).map natV) = (p.filterMap f).map natV := fun f => by rw [List.map_filterMap]
  refine ⟨fn_shown, h19, rfl, A_fn (A_name mC (A_comp2 mC (goes_vals [.int 0, .int 1]) (g := []) rfl trivial (fun _ q => q) (fun _ _ => trivial) ?_))⟩
  refine A_compIf mC (goes_seq a _) (l := p) (f := Stp.v) (ga := fun s => s.a.map natV) (g := []) rfl trivial (it_list ha) ha (by omega) (fun s hs => ⟨[], _, _, _, rfl, trivial, ?_, fun w hw => ?_⟩) ?_
  · cases s.a <;> rfl
  · obtain ⟨sa, sb, st⟩ := s
    cases sa with
    | none => cases hw
    | some k => cases hw; exact ⟨[], _, _, rfl, trivial⟩
  rw [mp]
  refine ⟨List.prefix_append _ _, ?_⟩
  refine A_compIf mC (goes_seq a _) (l := p) (f := Stp.v) (ga := fun s => s.b.map natV) (g := []) rfl trivial (it_list (get_app ha)) (get_app ha) (by omega) (fun s hs => ⟨[], _, _, _, rfl, trivial, ?_, fun w hw => ?_⟩) ?_
  · cases s.b <;> rfl
  · obtain ⟨sa, sb, st⟩ := s
    cases sb with
    | none => cases hw
    | some k => cases hw; exact ⟨[], _, _, rfl, trivial⟩
  rw [mp]
  refine ⟨by rw [List.append_assoc]; exact List.prefix_append _ _, ?_⟩
  generalize hH : h ++ [MO.list ((p.filterMap (·.a)).map natV)] ++ [MO.list ((p.filterMap (·.b)).map natV)] = H1
  have lH : (h ++ [MO.list ((p.filterMap (·.a)).map natV)]).length = h.length + 1 := by simp
  rw [lH]
  have pH : h <+: H1 := by rw [← hH, List.append_assoc]; exact List.prefix_append _ _
  have gA : H1[h.length]? = some (.list ((p.filterMap (·.a)).map natV)) := by rw [← hH]; exact get_app (get_last _ _)
  have gB : H1[h.length + 1]? = some (.list ((p.filterMap (·.b)).map natV)) := by rw [← hH, ← lH]; exact get_last _ _
  clear hH
  have pH2 : h <+: H1 ++ [MO.list [.ref h.length, .ref (h.length + 1)]] := pH.trans (List.prefix_append _ _)
  have gA := get_app (t := [MO.list [.ref h.length, .ref (h.length + 1)]]) gA
  have gB := get_app (t := [MO.list [.ref h.length, .ref (h.length + 1)]]) gB
  have gW : (H1 ++ [MO.list [.ref h.length, .ref (h.length + 1)]])[H1.length]? = _ := get_last _ _
  generalize H1.length = wn at gW ⊢
  generalize H1 ++ [MO.list [.ref h.length, .ref (h.length + 1)]] = H2 at pH2 gA gB gW ⊢
  refine A_name mC (A_join mC (fun k => rdO M.moves (some k)) (A_comp mC (goes_seq h.length _) (l := p.filterMap (·.a)) (f := natV) (w := fun k => .str (rdO M.moves (some k))) (g := [.ref h.length]) rfl ⟨rd_list (k := 0) gW (by decide) rfl, trivial⟩ (it_list gA) gA (by omega) (fun k hk => ?_) ⟨H2.length, p.filterMap (·.a), rfl, get_last _ _, ?_, ?_⟩))
  · obtain ⟨mv, hmv, _⟩ := one (va k hk)
    rw [rdO_at hmv]
    exact ⟨[mv.v], _, _, rfl, rd_mv (pre_get pH2 hm) l1 hmv, trivial⟩
  · have := cut1 (f := fun k => rdO M.moves (some k)) (p.filterMap (·.a)) fun k hk => by obtain ⟨mv, hmv, h1, _⟩ := one (va k hk); rw [rdO_at hmv]; exact h1
    omega
  rw [show (p.filterMap (·.a)).flatMap (fun k => rdO M.moves (some k)) = r1 M.moves p from fm_flat (ms := M.moves) (f := (·.a)) (g := rdO M.moves) rfl p]
  generalize hX : H2 ++ [MO.list ((p.filterMap (·.a)).map fun k => V.str (rdO M.moves (some k)))] = H3
  have p3 : H2 <+: H3 := by rw [← hX]; exact List.prefix_append _ _
  clear hX
  have gA := pre_get p3 gA
  have gB := pre_get p3 gB
  have gW := pre_get p3 gW
  have pH := pH2.trans p3
  have hm3 := pre_get pH hm
  have jn : ∀ {Q : V → H → Prop} {L : Env} {H' : H} {r : Nat} {ks : List Nat}, lk L 0 = some (.ref m) → H'[m]? = some (.list (M.moves.map Mv.v)) → H'[r]? = some (.list (ks.map natV)) → ks.length ≤ p.length → (∀ k ∈ ks, k < M.moves.length) → Q (.str (ks.flatMap fun k => wrO M.moves (some k))) (H' ++ [.list (ks.map fun k => .str (wrO M.moves (some k)))]) → AE (Calls Φ d) ((6, .ref r) :: L) H' (.meth .join (.lit (.str [])) [(.comp (.sub (.sub (.var 0) (.var 9)) (.lit (.int 2))) (.name 9) (.var 6) none)]) Q := by
    intro Q L H' r ks l0 hm' hr hl hk q
    refine A_join mC (fun k => wrO M.moves (some k)) (A_comp mC (goes_seq r _) (l := ks) (f := natV) (w := fun k => .str (wrO M.moves (some k))) (g := []) rfl trivial (it_list hr) hr (by omega) (fun k hkk => ?_) ⟨H'.length, ks, rfl, get_last _ _, ?_, q⟩)
    · obtain ⟨mv, hmv, _⟩ := one (hk k hkk)
      rw [wrO_at hmv]
      have e : ev ((9, natV k) :: (6, .ref r) :: L) H' (.sub (.sub (.var 0) (.var 9)) (.lit (.int 2))) [mv.v] = some (.str mv.g, [RdW H' (.ref m) (natV k) mv.v], []) := by
        show (Tw.M.bind (Tw.M.bind (Tw.M.of (lk L 0)) _) _) _ = _
        rw [l0]; rfl
      exact ⟨[mv.v], _, _, e, rd_mv hm' l1 hmv, trivial⟩
    · have := cut1 (f := fun k => wrO M.moves (some k)) ks fun k hkk => by obtain ⟨mv, hmv, _, h1⟩ := one (hk k hkk); rw [wrO_at hmv]; exact h1
      omega
  refine A_name mC (A_comp2 mC (goes_seq wn [.ref h.length, .ref (h.length + 1)]) (g := []) rfl trivial (it_list gW) (fun h' ph => pre_get ph gW) ?_)
  refine jn rfl hm3 gA la va ⟨List.prefix_append _ _, ?_⟩
  refine jn rfl (get_app hm3) (get_app gB) lb vb ⟨by rw [List.append_assoc]; exact List.prefix_append _ _, ?_⟩
  rw [show (p.filterMap (·.a)).flatMap (fun k => wrO M.moves (some k)) = w1 M.moves p from fm_flat (ms := M.moves) (f := (·.a)) (g := wrO M.moves) rfl p]
  rw [show (p.filterMap (·.b)).flatMap (fun k => wrO M.moves (some k)) = w2 M.moves p from fm_flat (ms := M.moves) (f := (·.b)) (g := wrO M.moves) rfl p]
  generalize hX : H3 ++ [MO.list ((p.filterMap (·.a)).map fun k => V.str (wrO M.moves (some k)))] ++ [MO.list ((p.filterMap (·.b)).map fun k => V.str (wrO M.moves (some k)))] = H4
  have p4 : H3 <+: H4 := by rw [← hX, List.append_assoc]; exact List.prefix_append _ _
  clear hX
  have gA := get_app (t := [MO.list [.str (w1 M.moves p), .str (w2 M.moves p)]]) (pre_get p4 gA)
  have gB := get_app (t := [MO.list [.str (w1 M.moves p), .str (w2 M.moves p)]]) (pre_get p4 gB)
  have gW := get_app (t := [MO.list [.str (w1 M.moves p), .str (w2 M.moves p)]]) (pre_get p4 gW)
  have gT : (H4 ++ [MO.list [.str (w1 M.moves p), .str (w2 M.moves p)]])[H4.length]? = _ := get_last _ _
  have pH := (pH.trans p4).trans (List.prefix_append H4 [MO.list [.str (w1 M.moves p), .str (w2 M.moves p)]])
  exact A_ret (g := [.ref h.length, .ref (h.length + 1), .str (w1 M.moves p), .str (w2 M.moves p)]) rfl ⟨rd_list (k := 0) gW (by decide) rfl, rd_list (k := 1) gW (by decide) rfl, rd_list (k := 0) gT (by decide) rfl, rd_list (k := 1) gT (by decide) rfl, trivial⟩ fun ρ => q _ _ _ pH gA gB
end
end Tw
end

section
namespace Tw

section
variable {C : Ora} {L : Env} {h : H} {Q : V → H → Prop}
theorem A_call2 (hC : MonoC C) {f : Nat} {a b : E} (x : AE C L h a fun v h1 => AE C L h1 b fun w h2 => C f [v, w] h2 Q) : AE C L h (.call f [a, b]) Q := fun ρ ag => by
  rw [e_call, es_cons]
  refine wpE_mono hC a (fun v h1 y => ?_) (x ρ ag)
  rw [es_cons]
  exact wpE_mono hC b (fun w h2 z => z) (y ρ ag)
theorem A_tup2 (hC : MonoC C) {a b : E} (x : AE C L h a fun v h1 => AE C L h1 b fun w h2 => Q (.tup [v, w]) h2) : AE C L h (.tup [a, b]) Q := fun ρ ag => by
  rw [e_tup, es_cons]
  refine wpE_mono hC a (fun v h1 y => ?_) (x ρ ag)
  rw [es_cons]
  exact wpE_mono hC b (fun w h2 z => z) (y ρ ag)
theorem A_sub0 (hC : MonoC C) {a : E} (x : AE C L h a fun v h1 => ∃ u r, v = .tup (u :: r) ∧ Q u h1) : AE C L h (.sub a (.lit (.int 0))) Q := fun ρ ag => by
  rw [e_sub]
  refine wpE_mono hC a (fun v h1 ⟨u, r, e, q⟩ => ?_) (x ρ ag)
  rw [e, e_lit, x_st0]; exact q
theorem A_sub1 (hC : MonoC C) {a : E} (x : AE C L h a fun v h1 => ∃ t u r, v = .tup (t :: u :: r) ∧ Q u h1) : AE C L h (.sub a (.lit (.int 1))) Q := fun ρ ag => by
  rw [e_sub]
  refine wpE_mono hC a (fun v h1 ⟨t, u, r, e, q⟩ => ?_) (x ρ ag)
  rw [e, e_lit, x_st1]; exact q
theorem A_list1 {a : E} {v : V} {g g' : List V} {c : List Prop} (x : ev L h a g = some (v, c, g')) (hc : AllP c) (q : Q (.ref h.length) (h ++ [.list [v]])) : AE C L h (.list [a]) Q := fun ρ ag => by
  rw [e_list, es_cons]
  exact A_ev (C := C) (Q := fun v h1 => wpEs C [] ρ h1 fun vs h2 => Q (.ref h2.length) (h2 ++ [.list (v :: vs)])) x hc (by rw [es_nil]; exact q) ρ ag
end
theorem app3 {α : Type} {a b : List α} {s : α} (ha : a.length ≤ 10000) (hb : b.length ≤ 10000) : (a ++ [s] ++ b).length ≤ 20001 := by rw [List.length_append, List.length_append]; exact Nat.add_le_add (Nat.add_le_add_right ha 1) hb
theorem app2 {α : Type} {a b : List α} (ha : a.length ≤ 10000) (hb : b.length ≤ 10000) : (a ++ b).length ≤ 20000 := by rw [List.length_append]; exact Nat.add_le_add ha hb
noncomputable def lgD (l : List Nat × List Nat) : D := .tup [.str l.1, .str l.2]
theorem cm_lg {h : H} {l k : List Nat × List Nat} : CmW h .ne (.tup [.str l.1, .str l.2]) (.tup [.str k.1, .str k.2]) (!decide (l = k)) := fun P x => by
  rw [x_ne]
  refine x_eqd (d₁ := lgD l) (d₂ := lgD k) (.tup (.cons (.str _) (.cons (.str _) .nil))) (.tup (.cons (.str _) (.cons (.str _) .nil))) rfl rfl ?_
  have : decide (lgD l = lgD k) = decide (l = k) := decide_eq_decide.mpr ⟨fun e => by
    obtain ⟨a, b⟩ := l
    obtain ⟨a', b'⟩ := k
    simp [lgD] at e
    rw [e.1, e.2], fun e => by rw [e]⟩
  rw [this]; exact x

theorem pth_in {ms : List Mv} {x y : N2} {p : List Stp} (h : Pth ms x p y) : ∀ s ∈ p, (∀ k, s.a = some k → k < ms.length) ∧ (∀ k, s.b = some k → k < ms.length) := by
  induction h with
  | nil => exact fun _ h => nomatch h
  | cons hs _ ih =>
    intro s hsm
    rcases List.mem_cons.mp hsm with rfl | hsm
    · have lt : ∀ {i : Nat} {m : Mv}, ms[i]? = some m → i < ms.length := fun h => (List.getElem?_eq_some_iff.mp h).1
      cases mem_stps.mp hs with
      | one hm _ _ => exact ⟨fun k e => by cases e; exact lt hm, fun k e => nomatch e⟩
      | both hm _ _ hn _ _ => exact ⟨fun k e => by cases e; exact lt hm, fun k e => by cases e; exact lt hn⟩
      | two hn _ _ => exact ⟨fun k e => (nomatch e), fun k e => by cases e; exact lt hn⟩
    · exact ih s hsm
structure Gn (M : Ma) (b : N2) (F : List (N2 × Option Stp)) (G : List GE) : Prop where
  nd : (G.map (·.x)).Nodup
  sub : ∀ g ∈ G, g.x ∈ F.map (·.1)
  ch : ChainG G
  pth : ∀ g ∈ G, Pth M.moves b g.p g.x
  lag : ∀ g ∈ G, Lags (w1 M.moves g.p) (w2 M.moves g.p) g.l
  idx : ∀ (i : Nat) g, G[i]? = some g → g.p.length ≤ i
  head : b ∈ F.map (·.1) → ∃ g ∈ G, g.x = b ∧ g.l = ([], [])
/-- this step's lag is told -/
noncomputable def Told (ms : List Mv) (G : List GE) (g : GE) (s : Stp) : Prop := ∃ g' ∈ G, g'.x = s.to ∧ lagF (g.l.1 ++ wrO ms s.a) (g.l.2 ++ wrO ms s.b) = some g'.l
noncomputable def GnD (M : Ma) (F : List (N2 × Option Stp)) (G : List GE) (a : Nat) : Prop := ∀ (i : Nat) g, i < a → G[i]? = some g → (Fin2 M.ends g.x → g.l = ([], [])) ∧ ∀ s ∈ stps M.moves g.x, s.to ∈ F.map (·.1) → Told M.moves G g s
/-- two unlike writings of one text -/
structure Two (M : Ma) (b : N2) (h : H) (v : V) : Prop where
  ex : ∃ p y u w, Pth M.moves b p y ∧ Fin2 M.ends y ∧ w1 M.moves p ≠ w2 M.moves p ∧ p.length ≤ 100000 ∧ v = .tup [.str (r1 M.moves p), .ref u, .ref w] ∧ h[u]? = some (.list ((p.filterMap (·.a)).map natV)) ∧ h[w]? = some (.list ((p.filterMap (·.b)).map natV))
section
variable {Φ : Nat → Option Fn} {d : Nat} {h : H} {Q : V → H → Prop}
theorem unlike_ok {m fd cn : Nat} {M : Ma} {b : N2} {F : List (N2 × Option Stp)} {G : List GE} {e : GE} {s : Stp} (h17 : Φ 17 = some fn_path_to) (h18 : Φ 18 = some fn_path_on) (h19 : Φ 19 = some fn_shown) (h21 : Φ 21 = some fn_unlike) (ok : M.ok)
    (hm : h[m]? = some (.list (M.moves.map Mv.v))) (r : Rst h fd M.moves M.ends b F) (gn : Gn M b F G) (hc : ∃ ver, h[cn]? = some (.dict (kvC G) ver)) (he : e ∈ G) (hs : s ∈ stps M.moves e.x) (hto : s.to ∈ F.map (·.1)) (hF : F.length ≤ 10000) (hG : G.length ≤ 10000)
    (bad : lagF (e.l.1 ++ wrO M.moves s.a) (e.l.2 ++ wrO M.moves s.b) = none ∨ ∃ g ∈ G, ∃ k, g.x = s.to ∧ lagF (e.l.1 ++ wrO M.moves s.a) (e.l.2 ++ wrO M.moves s.b) = some k ∧ g.l ≠ k)
    (q : ∀ h' v, h <+: h' → Two M b h' v → Q v h') : Calls Φ (d + 2) 21 [.ref m, .ref fd, .ref cn, nv2 e.x, s.v] h Q := by
  have mC := calls_mono (Φ := Φ) (d + 1)
  have hz := SZ_val
  have pl : ∀ g ∈ G, g.p.length ≤ 10000 := fun g hg => by
    obtain ⟨i, hi⟩ := List.mem_iff_getElem?.mp hg
    have := gn.idx i g hi
    have := (List.getElem?_eq_some_iff.mp hi).1
    omega
  have pe := pl e he
  refine ⟨fn_unlike, h21, rfl, A_fn (A_call mC (g := []) rfl trivial (pathon_ok h18 r hto (ltSZ hF) fun on y hon hfin hol => ?_))⟩
  have hon4 : on.length ≤ 10000 := Nat.le_trans hol hF
  have path1 := (gn.pth e he).app ((Pth.one hs).app hon)
  rw [← List.append_assoc] at path1
  obtain ⟨cver, hc⟩ := hc
  refine A_tup mC (A_call2 mC (A_ev (g := []) rfl trivial (A_bin mC (A_bin mC (A_callE (g := []) rfl trivial (pathto_ok h17 gn.nd gn.ch ⟨cver, get_app hc⟩ he (ltSZ pe) (A_list1 (g := []) rfl trivial ?_)))))))
  rw [x_addl (get_app (get_last _ _)) (get_last _ _)]
  refine ⟨by rw [List.length_map]; exact Nat.le_trans (Nat.add_le_add_right pe 1) (by decide), A_ev (g := []) rfl trivial ?_⟩
  have hon' : ((((h ++ [MO.list (on.map Stp.v)]) ++ [MO.list (e.p.map Stp.v)]) ++ [MO.list [s.v]]) ++ [MO.list (e.p.map Stp.v ++ [s.v])])[h.length]? = some (.list (on.map Stp.v)) := get_app (get_app (get_app (get_last _ _)))
  rw [x_addl (get_last _ _) hon']
  refine ⟨by simp; omega, ?_⟩
  generalize hX : ((((h ++ [MO.list (on.map Stp.v)]) ++ [MO.list (e.p.map Stp.v)]) ++ [MO.list [s.v]]) ++ [MO.list (e.p.map Stp.v ++ [s.v])]) = H1 at hon'
  have p1 : h <+: H1 := by rw [← hX]; simp only [List.append_assoc]; exact List.prefix_append _ _
  clear hX
  have eL : e.p.map Stp.v ++ [s.v] ++ on.map Stp.v = (e.p ++ [s] ++ on).map Stp.v := by simp
  rw [eL]
  have p2 : h <+: H1 ++ [MO.list ((e.p ++ [s] ++ on).map Stp.v)] := p1.trans (List.prefix_append _ _)
  refine shown_ok h19 ok (pre_get p2 hm) (get_last _ _) (Nat.le_trans (app3 pe hon4) (by decide)) (pth_in path1) fun H2 u w pH gu gw => ⟨_, rfl, rfl, ?_⟩
  have pH := p2.trans pH
  have hon2 : H2[h.length]? = some (.list (on.map Stp.v)) := pre_get ‹_ <+: H2› (get_app hon')
  refine A_if (g := []) rfl trivial (fun hne => A_ret (g := []) rfl trivial fun ρ => q _ _ pH ⟨_, y, u, w, path1, hfin, by simpa using hne, Nat.le_trans (app3 pe hon4) (by decide), rfl, gu, gw⟩) fun heq => A_then ?_
  have heq : w1 M.moves (e.p ++ [s] ++ on) = w2 M.moves (e.p ++ [s] ++ on) := by simpa using heq
  rw [w1_app, w1_app, w2_app, w2_app, w1_one, w2_one] at heq
  obtain ⟨c0, d0, e1, e2⟩ := gn.lag e he
  have heq' : (e.l.1 ++ wrO M.moves s.a) ++ w1 M.moves on = (e.l.2 ++ wrO M.moves s.b) ++ w2 M.moves on := by
    rw [e1, e2] at heq
    simp only [List.append_assoc] at heq ⊢
    exact List.append_cancel_left heq
  rcases bad with bad | ⟨g, hg, k, hgx, hk, hne⟩
  · exact absurd heq' (lagF_none bad)
  have path2 : Pth M.moves b (g.p ++ on) y := (gn.pth g hg).app (hgx ▸ hon)
  have hun : w1 M.moves (g.p ++ on) ≠ w2 M.moves (g.p ++ on) := fun e3 => by
    rw [w1_app, w2_app] at e3
    exact hne (Lags.uniq (gn.lag g hg) (lagF_some hk) e3 heq')
  have pg := pl g hg
  refine A_retE mC (A_sub0 mC (A_call2 mC (A_ev (g := []) rfl trivial (A_bin mC (A_callE (g := []) (vs := [.ref cn, nv2 s.to]) rfl trivial ?_)))))
  rw [← hgx]
  refine pathto_ok h17 gn.nd gn.ch ⟨cver, pre_get pH hc⟩ hg (ltSZ pg) (A_ev (g := []) rfl trivial ?_)
  rw [x_addl (get_last _ _) (get_app hon2)]
  refine ⟨by simp; omega, ?_⟩
  rw [← List.map_append]
  generalize hX : H2 ++ [MO.list (g.p.map Stp.v)] = H3
  have p3 : h <+: H3 ++ [MO.list ((g.p ++ on).map Stp.v)] := by rw [← hX]; exact (pH.trans (List.prefix_append _ _)).trans (List.prefix_append _ _)
  clear hX
  exact shown_ok h19 ok (pre_get p3 hm) (get_last _ _) (Nat.le_trans (app2 pg hon4) (by decide)) (pth_in path2) fun H4 u w pH4 gu gw => ⟨_, _, rfl, fun ρ => q _ _ (p3.trans pH4) ⟨_, y, u, w, path2, hfin, hun, Nat.le_trans (app2 pg hon4) (by decide), rfl, gu, gw⟩⟩
end
end Tw
end

section
namespace Tw

structure GnH (H0 H : Tw.H) (G : List GE) : Prop where
  pre : H0 <+: H
  l : ∃ ver, H[H0.length]? = some (.dict (kvL G) ver)
  c : ∃ ver, H[H0.length + 1]? = some (.dict (kvC G) ver)
  r : H[H0.length + 2]? = some (.list (rowG G))
theorem GnH.app {H0 H : Tw.H} {G : List GE} (x : GnH H0 H G) (t : Tw.H) : GnH H0 (H ++ t) G := ⟨x.pre.trans (List.prefix_append _ _), x.l.imp fun _ => get_app, x.c.imp fun _ => get_app, get_app x.r⟩
theorem GnH.new {H0 H : Tw.H} {G : List GE} (x : GnH H0 H G) {g : GE} (hn : g.x ∉ G.map (·.x)) (v1 v2 : Nat) : GnH H0 (((H.set H0.length (.dict (dput (kvL G) (nv2 g.x) (.tup [.str g.l.1, .str g.l.2])) v1)).set (H0.length + 1) (.dict (dput (kvC G) (nv2 g.x) (cV g.c)) v2)).set (H0.length + 2) (.list (rowG G ++ [nv2 g.x]))) (G ++ [g]) := by
  have l2 := get_lt x.r
  have e1 : kvL (G ++ [g]) = dput (kvL G) (nv2 g.x) (.tup [.str g.l.1, .str g.l.2]) := by unfold kvL; rw [dput_map (k := fun g : GE => g.x) hn, List.map_append]; rfl
  have e2 : kvC (G ++ [g]) = dput (kvC G) (nv2 g.x) (cV g.c) := by unfold kvC; rw [dput_map (k := fun g : GE => g.x) hn, List.map_append]; rfl
  have e3 : rowG (G ++ [g]) = rowG G ++ [nv2 g.x] := by unfold rowG; rw [List.map_append]; rfl
  refine ⟨pre_set (pre_set (pre_set x.pre (by omega) _) (by omega) _) (by omega) _, ⟨v1, ?_⟩, ⟨v2, ?_⟩, ?_⟩
  · rw [List.getElem?_set_ne (by omega), List.getElem?_set_ne (by omega), List.getElem?_set_self (by omega), e1]
  · rw [List.getElem?_set_ne (by omega), List.getElem?_set_self (by rw [List.length_set]; omega), e2]
  · rw [List.getElem?_set_self (by rw [List.length_set, List.length_set]; omega), e3]
theorem Told.mono {ms : List Mv} {G G' : List GE} {g : GE} {s : Stp} (t : Told ms G g s) (p : G <+: G') : Told ms G' g s := by
  obtain ⟨g', h1, h2⟩ := t
  obtain ⟨r, rfl⟩ := p
  exact ⟨g', List.mem_append_left _ h1, h2⟩
theorem GnD.app {M : Ma} {F : List (N2 × Option Stp)} {G G' : List GE} {a : Nat} (x : GnD M F G a) (ha : a ≤ G.length) (p : G <+: G') : GnD M F G' a := fun i g hi hg => by
  have hp := p
  obtain ⟨r, rfl⟩ := p
  rw [List.getElem?_append_left (by omega)] at hg
  obtain ⟨h1, h2⟩ := x i g hi hg
  exact ⟨h1, fun s hs ht => (h2 s hs ht).mono hp⟩
theorem Gn.new {M : Ma} {b : N2} {F : List (N2 × Option Stp)} {G : List GE} (x : Gn M b F G) {e : GE} (he : e ∈ G) {s : Stp} (hs : s ∈ stps M.moves e.x) (hto : s.to ∈ F.map (·.1)) (hn : s.to ∉ G.map (·.x)) {k : List Nat × List Nat} (hk : lagF (e.l.1 ++ wrO M.moves s.a) (e.l.2 ++ wrO M.moves s.b) = some k) : Gn M b F (G ++ [⟨s.to, k, some (e.x, s), e.p ++ [s]⟩]) where
  nd := by
    rw [List.map_append]
    refine List.nodup_append.mpr ⟨x.nd, by simp, fun u hu w hw e => hn ?_⟩
    have : w = s.to := by simpa using hw
    rw [← this, ← e]; exact hu
  sub := fun g hg => by
    rcases List.mem_append.mp hg with hg | hg
    · exact x.sub g hg
    · rw [List.mem_singleton.mp hg]; exact hto
  ch := fun g hg => by
    rcases List.mem_append.mp hg with hg | hg
    · rcases x.ch g hg with h | ⟨g', h1, h2⟩
      · exact .inl h
      · exact .inr ⟨g', List.mem_append_left _ h1, h2⟩
    · rw [List.mem_singleton.mp hg]; exact .inr ⟨e, List.mem_append_left _ he, s, rfl, rfl⟩
  pth := fun g hg => by
    rcases List.mem_append.mp hg with hg | hg
    · exact x.pth g hg
    · rw [List.mem_singleton.mp hg]; exact (x.pth e he).app (.one hs)
  lag := fun g hg => by
    rcases List.mem_append.mp hg with hg | hg
    · exact x.lag g hg
    · rw [List.mem_singleton.mp hg]
      show Lags (w1 M.moves (e.p ++ [s])) (w2 M.moves (e.p ++ [s])) k
      rw [w1_app, w2_app, w1_one, w2_one]
      exact (x.lag e he).add (lagF_some hk)
  idx := fun i g hg => by
    rcases Nat.lt_or_ge i G.length with h1 | h1
    · rw [List.getElem?_append_left h1] at hg; exact x.idx i g hg
    · rw [List.getElem?_append_right h1] at hg
      have := List.mem_singleton.mp (List.mem_of_getElem? hg)
      rw [this]
      obtain ⟨j, hj⟩ := List.mem_iff_getElem?.mp he
      have := x.idx j e hj
      have := (List.getElem?_eq_some_iff.mp hj).1
      show (e.p ++ [s]).length ≤ i
      rw [List.length_append]; show _ + 1 ≤ i; omega
  head := fun hb => by
    obtain ⟨g, h1, h2⟩ := x.head hb
    exact ⟨g, List.mem_append_left _ h1, h2⟩
/-- what gone_through has found where nothing is twofold -/
structure Gone (M : Ma) (b : N2) (G : List GE) : Prop where
  nd : (G.map (·.x)).Nodup
  mem : ∀ x, x ∈ G.map (·.x) ↔ Reach b (nxt M.moves) x ∧ Co M.moves M.ends x
  pth : ∀ g ∈ G, Pth M.moves b g.p g.x
  lag : ∀ g ∈ G, Lags (w1 M.moves g.p) (w2 M.moves g.p) g.l
  head : b ∈ G.map (·.x) → ∃ g ∈ G, g.x = b ∧ g.l = ([], [])
  fin : ∀ g ∈ G, Fin2 M.ends g.x → g.l = ([], [])
  step : ∀ g ∈ G, ∀ s ∈ stps M.moves g.x, Co M.moves M.ends s.to → Told M.moves G g s
  len : ∀ g ∈ G, g.p.length ≤ G.length
theorem Gn.done {M : Ma} {b : N2} {F : List (N2 × Option Stp)} {G : List GE} {a : Nat} (x : Gn M b F G) (dn : GnD M F G a) (ha : G.length ≤ a) (mem : ∀ x, x ∈ F.map (·.1) ↔ Reach b (nxt M.moves) x ∧ Co M.moves M.ends x) : Gone M b G := by
  have at' : ∀ g ∈ G, (Fin2 M.ends g.x → g.l = ([], [])) ∧ ∀ s ∈ stps M.moves g.x, s.to ∈ F.map (·.1) → Told M.moves G g s := fun g hg => by
    obtain ⟨i, hi⟩ := List.mem_iff_getElem?.mp hg
    exact dn i g (by have := (List.getElem?_eq_some_iff.mp hi).1; omega) hi
  have st : ∀ g ∈ G, ∀ s ∈ stps M.moves g.x, Co M.moves M.ends s.to → Told M.moves G g s := fun g hg s hs hc => by
    obtain ⟨h1, _⟩ := (mem g.x).mp (x.sub g hg)
    exact (at' g hg).2 s hs ((mem _).mpr ⟨.step h1 (mem_nxt.mpr ⟨s, hs, rfl⟩), hc⟩)
  have key : ∀ y, Reach b (nxt M.moves) y → Co M.moves M.ends y → y ∈ G.map (·.x) := by
    intro y h1
    induction h1 with
    | nil =>
      intro h2
      obtain ⟨g, hg, e, _⟩ := x.head ((mem _).mpr ⟨.nil, h2⟩)
      exact List.mem_map.mpr ⟨g, hg, e⟩
    | step hr hy ih =>
      intro h2
      obtain ⟨s, hs, rfl⟩ := mem_nxt.mp hy
      obtain ⟨g, hg, e⟩ := List.mem_map.mp (ih (.step hs h2))
      obtain ⟨g', hg', e', _⟩ := st g hg s (by rw [e]; exact hs) h2
      exact List.mem_map.mpr ⟨g', hg', e'⟩
  refine ⟨x.nd, fun y => ⟨fun hy => ?_, fun ⟨h1, h2⟩ => key y h1 h2⟩, x.pth, x.lag, fun hb => x.head ?_, fun g hg => (at' g hg).1, st, fun g hg => ?_⟩
  · obtain ⟨g, hg, rfl⟩ := List.mem_map.mp hy
    exact (mem _).mp (x.sub g hg)
  · obtain ⟨g, hg, e⟩ := List.mem_map.mp hb
    exact e ▸ x.sub g hg
  · obtain ⟨i, hi⟩ := List.mem_iff_getElem?.mp hg
    have := x.idx i g hi
    have := (List.getElem?_eq_some_iff.mp hi).1
    omega
noncomputable def gtL (m : Nat) (ov : V) (r k : Nat) : Env := [(4, .ref m), (5, ov), (6, .ref r), (7, .ref k), (8, .ref (k + 1)), (9, .ref (k + 2))]
noncomputable def GwI (M : Ma) (F : List (N2 × Option Stp)) (H0 : Tw.H) (n a : Nat) (H : Tw.H) : Prop := ∃ G, n = M.n * M.n - a ∧ a ≤ G.length ∧ GnH H0 H G ∧ Gn M (M.b, M.b) F G ∧ GnD M F G a
noncomputable def GwJ (M : Ma) (F : List (N2 × Option Stp)) (H0 : Tw.H) (G : List GE) (e : GE) (SS : List Stp) (rr i : Nat) (H : Tw.H) : Prop := ∃ G', G <+: G' ∧ GnH H0 H G' ∧ Gn M (M.b, M.b) F G' ∧ (∀ s ∈ SS.take i, Told M.moves G' e s) ∧ H[rr]? = some (.list (SS.map Stp.v))
section
variable {Φ : Nat → Option Fn} {d : Nat} {h : H} {Q : V → H → Prop}
theorem through_ok {v : V} {M : Ma} {K : Nat} (h0 : Φ 0 = some fn_need) (h1 : Φ 1 = some fn_checked) (h2 : Φ 2 = some fn_leaving) (h12 : Φ 12 = some fn_steps) (h13 : Φ 13 = some fn_led_from) (h14 : Φ 14 = some fn_rests) (h15 : Φ 15 = some fn_written) (h16 : Φ 16 = some fn_lag) (h17 : Φ 17 = some fn_path_to) (h18 : Φ 18 = some fn_path_on) (h19 : Φ 19 = some fn_shown) (h20 : Φ 20 = some fn_gone_through) (h21 : Φ 21 = some fn_unlike)
    (hv : IsMa h v M) (ok : M.ok) (hK : ∀ x, (stps M.moves x).length ≤ K) (hB : M.n * M.n * K < 10000000)
    (qn : ∀ h' k G, h <+: h' → (∃ ver, h'[k]? = some (.dict (kvL G) ver)) → Gone M (M.b, M.b) G → G.length ≤ M.n * M.n → Q (.tup [.ref k, .none]) h')
    (qs : ∀ h' k w, h <+: h' → Two M (M.b, M.b) h' w → Q (.tup [.ref k, w]) h') : Calls Φ (d + 3) 20 [v] h Q := by
  have mC := calls_mono (Φ := Φ) (d + 2)
  have hz := SZ_val
  have hn2 := ok.n2
  have hb := ok.b1
  have l1 := ok.l1
  have hnn : M.n * M.n ≤ 10000 := Nat.mul_le_mul hn2 hn2
  have hKb : K < 10000000 := by
    have : K ≤ M.n * M.n * K := Nat.le_mul_of_pos_left _ (Nat.mul_pos ok.n1 ok.n1)
    omega
  refine ⟨fn_gone_through, h20, rfl, A_fn (A_calls mC (g := []) rfl trivial (checked_ok h0 h1 hv ok fun fver => ⟨_, rfl, rfl, ?_⟩))⟩
  generalize hA : h ++ [MO.dict (finD M.ends) fver, MO.list (M.moves.map Mv.v)] = A
  have pA : h <+: A := ⟨_, hA⟩
  have gF : A[h.length]? = some (.dict (finD M.ends) fver) := by rw [← hA]; exact last2a ..
  have gM : A[h.length + 1]? = some (.list (M.moves.map Mv.v)) := by rw [← hA]; exact len2 ..
  clear hA
  refine A_call mC (g := []) rfl trivial (leaving_ok h2 gM ok fun ov B pB ho => ?_)
  refine A_name mC (A_call2 mC (A_callE (g := []) rfl trivial (led_ok h12 h13 ok (pre_get pB gM) ho hb hK hB fun D dn E T pD le => A_ev (g := []) rfl trivial (rests_ok h14 ok ⟨hb, hb⟩ le ⟨fver, pre_get (pB.trans pD) gF⟩ fun H0 fd F pH rs => ?_))))
  have p0 : h <+: H0 := pA.trans (pB.trans (pD.trans pH))
  have gM := pre_get (pB.trans (pD.trans pH)) gM
  have ho := ho.pre (pD.trans pH)
  clear pA gF pB pD pH le
  have inB : ∀ {R : List N2}, R.Nodup → (∀ x ∈ R, x ∈ F.map (·.1)) → R.length ≤ M.n * M.n := fun {R} nd hr => by
    have := nodup_le R (box2 M.n M.n) nd fun x hx => by
      obtain ⟨h1, h2⟩ := reach_in ok ⟨hb, hb⟩ ((rs.mem x).mp (hr x hx)).1
      exact box2_mem h1 h2
    rw [box2_len] at this; exact this
  have hFl := inB rs.nd fun x hx => hx
  rw [List.length_map] at hFl
  obtain ⟨rver, gR⟩ := rs.dict
  refine A_dict0 fun ver1 => A_dict0 fun ver2 => A_list0 ?_
  have n1 : (H0 ++ [MO.dict [] ver1]).length = H0.length + 1 := by simp
  have n2 : (H0 ++ [MO.dict [] ver1] ++ [MO.dict [] ver2]).length = H0.length + 2 := by simp
  rw [n1, n2]
  generalize hX : H0 ++ [MO.dict [] ver1] ++ [MO.dict [] ver2] ++ [MO.list []] = H1
  have x0 : GnH H0 H1 [] := by
    subst hX
    refine ⟨by simp only [List.append_assoc]; exact List.prefix_append _ _, ⟨ver1, get_app (get_app (get_last _ _))⟩, ⟨ver2, get_app ?_⟩, ?_⟩
    · rw [← n1]; exact get_last _ _
    · rw [← n2]; exact get_last _ _
  clear hX
  -- the loop
  have loop : ∀ {L : Env} {H : Tw.H} {G : List GE} {Q' : Out → Rho → Tw.H → Prop}, AllIn ((10, .int 0) :: gtL (h.length + 1) ov fd H0.length) ((10, .int 0) :: L) → GnH H0 H G → Gn M (M.b, M.b) F G →
      (∀ ρ h' k G, h <+: h' → (∃ ver, h'[k]? = some (.dict (kvL G) ver)) → Gone M (M.b, M.b) G → G.length ≤ M.n * M.n → Q' (.ret (.tup [.ref k, .none])) ρ h') → (∀ ρ h' k w, h <+: h' → Two M (M.b, M.b) h' w → Q' (.ret (.tup [.ref k, w])) ρ h') →
      AB (Calls Φ (d + 2)) L H (fn_gone_through.body.drop 7) Q' := by
    clear qn qs
    intro L H G Q' hin x gn qn qs
    show AB _ _ _ (.assign (.name 10) (.lit (.int 0)) :: _) _
    refine A_set (g := []) rfl trivial (A_whileT mC (fun a : Nat => (10, .int a) :: gtL (h.length + 1) ov fd H0.length) (fun n a H => GwI M F H0 n a H) (M.n * M.n) 0 hin ⟨G, rfl, Nat.zero_le _, x, gn, fun i g hi => absurd hi (Nat.not_lt_zero _)⟩ ?_)
    clear x gn hin
    rintro n a H ⟨G, rfl, ha, x, gn, dn⟩
    have hGb : ∀ {G : List GE}, Gn M (M.b, M.b) F G → G.length ≤ M.n * M.n := fun {G} gn => by
      have := inB gn.nd fun x hx => by obtain ⟨g, hg, rfl⟩ := List.mem_map.mp hx; exact gn.sub g hg
      rw [List.length_map] at this; exact this
    have hGl := hGb gn
    refine ⟨[.int G.length], _, _, _, rfl, ⟨fun Q q => by rw [x_lenl x.r, rowG, List.length_map]; exact q, trivial⟩, fun hlt => ?_, fun hge => ?_⟩
    · have hlt : a < G.length := lt_of_dec hlt
      obtain ⟨e, he⟩ : ∃ e, G[a]? = some e := ⟨_, List.getElem?_eq_getElem hlt⟩
      have hem := List.mem_of_getElem? he
      have hpe := gn.idx a e he
      have hle := (gn.lag e hem).len
      have gone1 : ∀ p : List Stp, Pth M.moves (M.b, M.b) p e.x → (w1 M.moves p).length ≤ p.length ∧ (w2 M.moves p).length ≤ p.length := fun p hp => by
        have wl : ∀ o : Option Nat, (wrO M.moves o).length ≤ 1 := fun o => by
          cases o with
          | none => exact Nat.zero_le _
          | some i =>
            show ((M.moves[i]?.map Mv.g).getD []).length ≤ 1
            cases hi : M.moves[i]? with
            | none => exact Nat.zero_le _
            | some mv => exact (ok.m1 mv (List.mem_of_getElem? hi)).2.2.2
        exact ⟨by have := flat_le (k := 1) p fun s _ => wl s.a; rw [Nat.mul_one] at this; exact this, by have := flat_le (k := 1) p fun s _ => wl s.b; rw [Nat.mul_one] at this; exact this⟩
      obtain ⟨lw1, lw2⟩ := gone1 e.p (gn.pth e hem)
      have hp4 : e.p.length ≤ 10000 := Nat.le_trans hpe (Nat.le_trans (Nat.le_of_lt hlt) (Nat.le_trans hGl hnn))
      have ll1 : e.l.1.length ≤ 10000 := Nat.le_trans hle.1 (Nat.le_trans lw1 hp4)
      have ll2 : e.l.2.length ≤ 10000 := Nat.le_trans hle.2 (Nat.le_trans lw2 hp4)
      refine A_set (g := [nv2 e.x]) rfl ⟨rd_list x.r (lt62 (Nat.le_trans (Nat.le_of_lt hlt) (Nat.le_trans hGl hnn))) (by unfold rowG; rw [List.getElem?_map, he]; rfl), trivial⟩ (A_set (g := []) rfl trivial ?_)
      obtain ⟨⟨fx, o⟩, hfo, hfx⟩ := List.mem_map.mp (gn.sub e hem)
      have hfx : fx = e.x := hfx
      subst hfx
      have rdR : ∀ {H' : Tw.H}, H0 <+: H' → RdW H' (.ref fd) (nv2 e.x) (osV o) := fun p => rd_dict (pre_get p gR) rfl (dget_map (k := fun e : N2 × Option Stp => e.1) (w := fun e => osV e.2) rs.nd hfo)
      have rdL : ∀ {H' : Tw.H} {G' : List GE}, GnH H0 H' G' → Gn M (M.b, M.b) F G' → ∀ {g : GE}, g ∈ G' → RdW H' (.ref H0.length) (nv2 g.x) (.tup [.str g.l.1, .str g.l.2]) := fun {H' G'} x gn {g} hg => by
        obtain ⟨lv, gl⟩ := x.l
        exact rd_dict gl rfl (dget_map (k := fun g : GE => g.x) (w := fun g => .tup [.str g.l.1, .str g.l.2]) gn.nd hg)
      have hfin : isNoneB (osV o) = true ↔ Fin2 M.ends e.x := by
        obtain ⟨i, hi⟩ := List.mem_iff_getElem?.mp hfo
        rcases rs.val i e.x o hi with ⟨rfl, hf⟩ | ⟨s, rfl, hf, _⟩
        · exact ⟨fun _ => hf, fun _ => rfl⟩
        · exact ⟨fun h => (nomatch h), fun h => absurd h hf⟩
      refine A_if (g := [osV o, .tup [.str e.l.1, .str e.l.2], .bool (!decide (e.l = ([], [])))]) rfl ⟨rdR x.pre, fun _ => ⟨rdL x gn hem, cm_lg (k := ([], [])), trivial⟩, trivial⟩ (fun hc => ?_) fun hc => A_then ?_
      · have hc : isNoneB (osV o) = true ∧ e.l ≠ ([], []) := by simpa using hc
        have pp := x.pre.trans (List.prefix_append H [MO.list (e.p.map Stp.v)])
        refine A_retE mC (A_tup2 mC (A_ev (g := []) rfl trivial (A_sub0 mC (A_call2 mC (A_ev (g := []) rfl trivial (A_callE (g := []) rfl trivial (pathto_ok h17 gn.nd gn.ch x.c hem (ltSZ hp4) (shown_ok h19 ok (pre_get pp gM) (get_last _ _) (leM hp4) (pth_in (gn.pth e hem)) fun H2 u w pH gu gw => ⟨_, _, rfl, fun ρ => qs ρ _ _ _ (p0.trans (pp.trans pH)) ⟨_, _, u, w, gn.pth e hem, hfin.mp hc.1, fun ee => hc.2 ((gn.lag e hem).eq.mp ee), Nat.le_trans hp4 (by decide), rfl, gu, gw⟩⟩))))))))
      have hf0 : Fin2 M.ends e.x → e.l = ([], []) := fun hf => by
        by_cases h : e.l = ([], [])
        · exact h
        · have : (isNoneB (osV o) && !decide (e.l = ([], []))) = true := by rw [hfin.mpr hf, decide_eq_false h]; rfl
          exact absurd (this.symm.trans hc) (fun e => nomatch e)
      obtain ⟨i1, i2⟩ := reach_in ok ⟨hb, hb⟩ ((rs.mem e.x).mp (gn.sub e hem)).1
      have hKe := hK e.x
      refine A_forE mC (A_compE mC (A_callE (g := []) rfl trivial (stps_ok h12 ok (pre_get x.pre gM) (ho.pre x.pre) i1 i2 l1 (by omega) ?_)))
      have gS := get_last H (.list ((stps M.moves e.x).map Stp.v))
      refine A_compIf mC (goes_seq H.length _) (l := stps M.moves e.x) (f := Stp.v) (ga := fun s => if s.to ∈ F.map (·.1) then some s.v else none) (g := []) rfl trivial (it_list gS) gS (by omega) (fun s hs => ⟨[.bool (decide (s.to ∈ F.map (·.1)))], _, _, _, rfl, ⟨cm_in (get_app (pre_get x.pre gR)) rfl keys_in, trivial⟩, isS_if rfl, fun w hw => ?_⟩) ?_
      · obtain ⟨_, rfl⟩ := some_if hw
        exact ⟨[], _, _, rfl, trivial⟩
      rw [fm_filter]
      have hSS : ∀ s, s ∈ (stps M.moves e.x).filter (fun s => decide (s.to ∈ F.map (·.1))) ↔ s ∈ stps M.moves e.x ∧ s.to ∈ F.map (·.1) := fun s => by rw [List.mem_filter, decide_eq_true_eq]
      generalize (stps M.moves e.x).filter (fun s => decide (s.to ∈ F.map (·.1))) = SS at hSS
      have x2 := (x.app [MO.list ((stps M.moves e.x).map Stp.v)]).app [MO.list (SS.map Stp.v)]
      have g1 := get_last (H ++ [MO.list ((stps M.moves e.x).map Stp.v)]) (.list (SS.map Stp.v))
      have lr : H0.length + 2 < (H ++ [MO.list ((stps M.moves e.x).map Stp.v)]).length := by
        have := get_lt x.r
        rw [List.length_append]; omega
      generalize (H ++ [MO.list ((stps M.moves e.x).map Stp.v)]).length = rr at g1 lr ⊢
      generalize H ++ [MO.list ((stps M.moves e.x).map Stp.v)] ++ [MO.list (SS.map Stp.v)] = H2 at x2 g1 ⊢
      refine A_for mC (goes_seq rr (SS.map Stp.v)) (fun _ : Unit => (11, nv2 e.x) :: (10, .int (a + 1)) :: gtL (h.length + 1) ov fd H0.length) (fun i _ H => GwJ M F H0 G e SS rr i H) () (by repeat (first | exact trivial | refine ⟨rfl, ?_⟩)) (A_ev (g := []) rfl trivial ⟨it_list g1, G, List.prefix_refl _, x2, gn, fun s hs => (nomatch hs), g1⟩) (fun i _ H z => by obtain ⟨_, _, _, _, _, g⟩ := z; exact g) ?_ ?_
      · clear x x2 g1 gS H2 H
        rintro i v _ H hv ⟨G', pG, x, gn', told, g1⟩
        obtain ⟨s, hs, rfl, hil⟩ := map_at hv
        obtain ⟨hs1, hs2⟩ := (hSS s).mp (List.mem_of_getElem? hs)
        have hst : ∀ y, y ∈ SS.take (i + 1) ↔ y ∈ SS.take i ∨ y = s := fun y => by rw [List.take_add_one, hs, List.mem_append]; exact or_congr Iff.rfl List.mem_singleton
        have hem' : e ∈ G' := pG.subset hem
        have hGl' := hGb gn'
        have gM' := pre_get x.pre gM
        obtain ⟨v1, v2⟩ := pth_in (Pth.one hs1) s (List.mem_singleton.mpr rfl)
        have wl : ∀ o : Option Nat, (wrO M.moves o).length ≤ 1 := fun o => by
          cases o with
          | none => exact Nat.zero_le _
          | some i =>
            show ((M.moves[i]?.map Mv.g).getD []).length ≤ 1
            cases hi : M.moves[i]? with
            | none => exact Nat.zero_le _
            | some mv => exact (ok.m1 mv (List.mem_of_getElem? hi)).2.2.2
        have wa := wl s.a
        have wb := wl s.b
        refine A_name mC (A_call2 mC (A_bin mC (A_ev (g := [.tup [.str e.l.1, .str e.l.2]]) rfl ⟨rdL x gn' hem', trivial⟩ (A_callE (g := []) rfl trivial (written_ok h15 gM' l1 v1 ?_)))))
        rw [x_adds]
        refine ⟨cat1 ll1 wa, A_bin mC (A_ev (g := [.tup [.str e.l.1, .str e.l.2]]) rfl ⟨rdL x gn' hem', trivial⟩ (A_callE (g := []) rfl trivial (written_ok h15 gM' l1 v2 ?_)))⟩
        rw [x_adds]
        refine ⟨cat1 ll2 wb, lag_ok h16 (cat2 ll1 wa) (cat2 ll2 wb) ?_⟩
        obtain ⟨lv, gl⟩ := x.l
        obtain ⟨cv, gc⟩ := x.c
        have rs' : Rst H fd M.moves M.ends (M.b, M.b) F := ⟨⟨rver, pre_get x.pre gR⟩, rs.nd, rs.val, rs.mem⟩
        cases hlag : lagF (e.l.1 ++ wrO M.moves s.a) (e.l.2 ++ wrO M.moves s.b) with
        | none =>
          exact A_if (g := [.bool false, .none, .bool false]) rfl ⟨fun h => no_b h, trivial⟩ (fun _ => A_retE mC (A_tup2 mC (A_ev (g := []) rfl trivial (A_callE (g := []) rfl trivial (unlike_ok h17 h18 h19 h21 ok gM' rs' gn' ⟨cv, gc⟩ hem' hs1 hs2 (Nat.le_trans hFl hnn) (Nat.le_trans hGl' hnn) (.inl hlag) fun h' v pH two => fun ρ => qs ρ _ _ _ (p0.trans (x.pre.trans pH)) two))))) fun h => nomatch h
        | some k =>
          by_cases hin : s.to ∈ G'.map (·.x)
          · obtain ⟨g', hg', hgx⟩ := List.mem_map.mp hin
            refine A_if (g := [.bool (decide (s.to ∈ G'.map (·.x))), .tup [.str g'.l.1, .str g'.l.2], .bool (!decide (g'.l = k))]) rfl ⟨fun _ => ⟨cm_in gl rfl keys_in, fun _ => ⟨hgx ▸ rdL x gn' hg', cm_lg, trivial⟩, trivial⟩, trivial⟩ (fun hc => ?_) fun hc => A_then ?_
            · have hc : g'.l ≠ k := by
                have hc : (false || (decide (s.to ∈ G'.map (·.x)) && !decide (g'.l = k))) = true := hc
                rw [decide_eq_true hin] at hc
                simpa using hc
              exact A_retE mC (A_tup2 mC (A_ev (g := []) rfl trivial (A_callE (g := []) rfl trivial (unlike_ok h17 h18 h19 h21 ok gM' rs' gn' ⟨cv, gc⟩ hem' hs1 hs2 (Nat.le_trans hFl hnn) (Nat.le_trans hGl' hnn) (.inr ⟨g', hg', k, hgx, hlag, hc⟩) fun h' v pH two => fun ρ => qs ρ _ _ _ (p0.trans (x.pre.trans pH)) two))))
            · have hgk : g'.l = k := by
                have hc : (false || (decide (s.to ∈ G'.map (·.x)) && !decide (g'.l = k))) = false := hc
                rw [decide_eq_true hin] at hc
                simpa using hc
              refine A_if (g := [.bool (!decide (s.to ∈ G'.map (·.x)))]) rfl ⟨cm_nin gl rfl keys_in, trivial⟩ (fun h => ?_) fun _ => A_then (A_next () (by repeat (first | exact trivial | refine ⟨rfl, ?_⟩)) ⟨G', pG, x, gn', fun y hy => ?_, g1⟩)
              · rw [decide_eq_true hin] at h; cases h
              · rcases (hst y).mp hy with hy | rfl
                · exact told y hy
                · exact ⟨g', hg', hgx, by rw [hlag, hgk]⟩
          · refine A_if (g := [.bool (decide (s.to ∈ G'.map (·.x))), .none, .bool false]) rfl ⟨fun _ => ⟨cm_in gl rfl keys_in, fun h => absurd (of_decide_eq_true h) hin, trivial⟩, trivial⟩ (fun hc => ?_) fun hc => A_then ?_
            · have hc : (false || (decide (s.to ∈ G'.map (·.x)) && false)) = true := hc
              rw [Bool.and_false] at hc; cases hc
            refine A_if (g := [.bool (!decide (s.to ∈ G'.map (·.x)))]) rfl ⟨cm_nin gl rfl keys_in, trivial⟩ (fun _ => ?_) fun h => ?_
            · refine A_put (g := []) (g₂ := []) rfl gl rfl trivial rfl trivial rfl (by unfold kvL; rw [List.length_map]; exact ltSZ (Nat.le_trans hGl' hnn)) fun ver1 => A_put (g := []) (g₂ := []) rfl (by rw [List.getElem?_set_ne (ne01 _)]; exact gc) rfl trivial rfl trivial rfl (by unfold kvC; rw [List.length_map]; exact ltSZ (Nat.le_trans hGl' hnn)) fun ver2 => A_app (g := []) rfl (by rw [List.getElem?_set_ne (ne12 _), List.getElem?_set_ne (ne02 _)]; exact x.r) (by unfold rowG; rw [List.length_map]; exact ltSZ (Nat.le_trans hGl' hnn)) rfl trivial (A_then ?_)
              have xn := x.new (g := ⟨s.to, k, some (e.x, s), e.p ++ [s]⟩) hin ver1 ver2
              refine A_next () (by repeat (first | exact trivial | refine ⟨rfl, ?_⟩)) ⟨_, pG.trans (List.prefix_append _ _), xn, gn'.new hem' hs1 hs2 hin hlag, fun y hy => ?_, ?_⟩
              · rcases (hst y).mp hy with hy | rfl
                · exact (told y hy).mono (List.prefix_append _ _)
                · exact ⟨_, List.mem_append_right _ (List.mem_singleton.mpr rfl), rfl, hlag⟩
              · rw [List.getElem?_set_ne (Nat.ne_of_lt lr), List.getElem?_set_ne (Nat.ne_of_lt (Nat.lt_trans (Nat.lt_succ_self _) lr)), List.getElem?_set_ne (Nat.ne_of_lt (Nat.lt_of_le_of_lt (Nat.le_add_right ..) lr))]; exact g1
            · rw [decide_eq_false hin] at h; cases h
      · clear x x2 g1 gS H2 H
        rintro _ H ⟨G', pG, x, gn', told, g1⟩
        rw [List.length_map, List.take_length] at told
        have lG := pG.length_le
        have hGl' := hGb gn'
        have he' : G'[a]? = some e := by obtain ⟨t, rfl⟩ := pG; rw [List.getElem?_append_left hlt]; exact he
        refine A_again (M.n * M.n - (a + 1)) (a + 1) (Nat.sub_lt_sub_left (Nat.lt_of_lt_of_le hlt hGl) (Nat.lt_succ_self a)) (by repeat (first | exact trivial | refine ⟨rfl, ?_⟩)) ⟨G', rfl, Nat.le_trans hlt lG, x, gn', fun i g hi hg => ?_⟩
        by_cases hia : i = a
        · rw [hia, he'] at hg
          cases hg
          exact ⟨hf0, fun s hs ht => told s ((hSS s).mpr ⟨hs, ht⟩)⟩
        · exact dn.app ha pG i g (Nat.lt_of_le_of_ne (Nat.le_of_lt_succ hi) hia) hg
    · have hge : G.length ≤ a := ge_of_dec hge
      exact A_ret (g := []) rfl trivial fun ρ => qn ρ H _ G (p0.trans x.pre) x.l (gn.done dn hge rs.mem) hGl
  refine A_if (g := [.bool (decide (((M.b, M.b) : N2) ∈ F.map (fun e : N2 × Option Stp => e.1)))]) rfl ⟨cm_in (pre_get x0.pre gR) rfl (keys_in (k := fun e : N2 × Option Stp => e.1) (w := fun e => osV e.2) (l := F) (z := (M.b, M.b))), trivial⟩ (fun hc => ?_) fun hc => A_then (loop (by repeat (first | exact trivial | refine ⟨rfl, ?_⟩)) x0 ⟨List.nodup_nil, fun _ h => (nomatch h), fun _ h => (nomatch h), fun _ h => (nomatch h), fun _ h => (nomatch h), fun _ _ h => (nomatch h), fun h => absurd h (of_decide_eq_false hc)⟩ (fun ρ => qn) fun ρ => qs)
  obtain ⟨lv, gl⟩ := x0.l
  obtain ⟨cv, gc⟩ := x0.c
  refine A_put (g := []) (g₂ := []) rfl gl rfl trivial rfl trivial rfl (ltSZ (Nat.zero_le _)) fun ver1 => A_put (g := []) (g₂ := []) rfl (by rw [List.getElem?_set_ne (ne01 _)]; exact gc) rfl trivial rfl trivial rfl (ltSZ (Nat.zero_le _)) fun ver2 => A_app (g := []) rfl (by rw [List.getElem?_set_ne (ne12 _), List.getElem?_set_ne (ne02 _)]; exact x0.r) (ltSZ (Nat.zero_le _)) rfl trivial (A_then ?_)
  have xn := x0.new (g := ⟨(M.b, M.b), ([], []), none, []⟩) (fun h => nomatch h) ver1 ver2
  refine loop (by repeat (first | exact trivial | refine ⟨rfl, ?_⟩)) xn ⟨by simp, fun g hg => ?_, fun g hg => ?_, fun g hg => ?_, fun g hg => ?_, fun i g hg => ?_, fun _ => ⟨_, List.mem_singleton.mpr rfl, rfl, rfl⟩⟩ (fun ρ => qn) fun ρ => qs
  · rw [List.mem_singleton.mp hg]; exact of_decide_eq_true hc
  · rw [List.mem_singleton.mp hg]; exact .inl ⟨rfl, rfl⟩
  · rw [List.mem_singleton.mp hg]; exact .nil
  · rw [List.mem_singleton.mp hg]; exact ⟨.inl rfl, [], rfl, rfl⟩
  · rw [List.mem_singleton.mp (List.mem_of_getElem? hg)]; exact Nat.zero_le _
end
end Tw
end

section
namespace Tw

theorem Co.path {ms : List Mv} {es : List Nat} {x y : N2} {p : List Stp} (h : Pth ms x p y) (hc : Co ms es y) : Co ms es x := by
  induction h with
  | nil => exact hc
  | cons hs _ ih => exact .step hs (ih hc)
theorem Gone.along {M : Ma} {b : N2} {G : List GE} (gn : Gone M b G) {x y : N2} {p : List Stp} (h : Pth M.moves x p y) (hc : Co M.moves M.ends y) : ∀ g ∈ G, g.x = x → ∀ u w, Lags u w g.l → ∃ g' ∈ G, g'.x = y ∧ Lags (u ++ w1 M.moves p) (w ++ w2 M.moves p) g'.l := by
  induction h with
  | nil => intro g hg e u w l; exact ⟨g, hg, e, by simp only [w1, w2, List.flatMap_nil, List.append_nil]; exact l⟩
  | @cons x y s p hs hp ih =>
    intro g hg e u w l
    obtain ⟨g1, hg1, e1, hl1⟩ := gn.step g hg s (by rw [e]; exact hs) (hc.path hp)
    obtain ⟨g2, hg2, e2, l2⟩ := ih hc g1 hg1 e1 _ _ (l.add (lagF_some hl1))
    refine ⟨g2, hg2, e2, ?_⟩
    rw [List.append_assoc, List.append_assoc] at l2
    exact l2
theorem Gone.from {M : Ma} {b : N2} {G : List GE} (gn : Gone M b G) {y : N2} {p : List Stp} (h : Pth M.moves b p y) (hc : Co M.moves M.ends y) : ∃ g ∈ G, g.x = y ∧ Lags (w1 M.moves p) (w2 M.moves p) g.l := by
  obtain ⟨g, hg, e, el⟩ := gn.head ((gn.mem b).mpr ⟨.nil, hc.path h⟩)
  have := gn.along h hc g hg e [] [] (by rw [el]; exact ⟨.inl rfl, [], rfl, rfl⟩)
  simpa using this
theorem Gone.no {M : Ma} {b : N2} {G : List GE} (gn : Gone M b G) {h : H} {v : V} : ¬ Two M b h v := fun t => by
  obtain ⟨p, y, u, w, h1, h2, h3, _⟩ := t.ex
  obtain ⟨g, hg, e, l⟩ := gn.from h1 (.fin h2)
  exact h3 (l.eq.mpr (gn.fin g hg (by rw [e]; exact h2)))
/-- the lag that is told of a pair -/
noncomputable def lagOf (G : List GE) (x : N2) : List Nat × List Nat := ((G.find? fun g => decide (g.x = x)).map (·.l)).getD ([], [])
theorem lagOf_at {G : List GE} (nd : (G.map (·.x)).Nodup) {g : GE} (hg : g ∈ G) : lagOf G g.x = g.l := by
  unfold lagOf
  cases hf : G.find? fun g' => decide (g'.x = g.x) with
  | none => exact absurd (decide_eq_true rfl) (List.find?_eq_none.mp hf g hg)
  | some g' =>
    have h1 := List.mem_of_find?_eq_some hf
    have h2 := List.find?_some hf
    have h2 : g'.x = g.x := of_decide_eq_true h2
    rw [nd_inj nd h1 hg h2]; rfl
noncomputable def rowV (G : List GE) (x : N2) : V := .tup [.int x.1, .int x.2, .str (lagOf G x).1, .str (lagOf G x).2]
/-- the functions that gone_through calls -/
structure FnsP (Φ : Nat → Option Fn) : Prop where
  h0 : Φ 0 = some fn_need
  h1 : Φ 1 = some fn_checked
  h2 : Φ 2 = some fn_leaving
  h12 : Φ 12 = some fn_steps
  h13 : Φ 13 = some fn_led_from
  h14 : Φ 14 = some fn_rests
  h15 : Φ 15 = some fn_written
  h16 : Φ 16 = some fn_lag
  h17 : Φ 17 = some fn_path_to
  h18 : Φ 18 = some fn_path_on
  h19 : Φ 19 = some fn_shown
  h20 : Φ 20 = some fn_gone_through
  h21 : Φ 21 = some fn_unlike
  h22 : Φ 22 = some fn_twofold
section
variable {Φ : Nat → Option Fn} {d : Nat} {h : H} {Q : V → H → Prop}
theorem twofold_ok {v : V} {M : Ma} {K : Nat} (F : FnsP Φ) (hv : IsMa h v M) (ok : M.ok) (hK : ∀ x, (stps M.moves x).length ≤ K) (hB : M.n * M.n * K < 10000000)
    (qn : ∀ h' G, h <+: h' → Gone M (M.b, M.b) G → G.length ≤ M.n * M.n → Q .none h') (qs : ∀ h' w, h <+: h' → Two M (M.b, M.b) h' w → Q w h') : Calls Φ (d + 4) 22 [v] h Q := by
  have mC := calls_mono (Φ := Φ) (d + 3)
  refine ⟨fn_twofold, F.h22, rfl, A_fn (A_retE mC (A_sub1 mC (A_callE (g := []) rfl trivial (through_ok F.h0 F.h1 F.h2 F.h12 F.h13 F.h14 F.h15 F.h16 F.h17 F.h18 F.h19 F.h20 F.h21 hv ok hK hB ?_ ?_))))⟩
  · exact fun h' k G p _ gn hl => ⟨_, _, _, rfl, fun ρ => qn h' G p gn hl⟩
  · exact fun h' k w p t => ⟨_, _, _, rfl, fun ρ => qs h' w p t⟩
theorem ahead_ok {v : V} {M : Ma} {K : Nat} (F : FnsP Φ) (h23 : Φ 23 = some fn_ahead) (hv : IsMa h v M) (ok : M.ok) (hK : ∀ x, (stps M.moves x).length ≤ K) (hB : M.n * M.n * K < 10000000) (h64 : M.n * M.n < 64) {G0 : List GE} (g0 : Gone M (M.b, M.b) G0)
    (q : ∀ h' r G (ks : List N2), h <+: h' → Gone M (M.b, M.b) G → ks.Perm (G.map (·.x)) → ks.Pairwise (fun a b => ¬ pairLt b a) → h'[r]? = some (.list (ks.map (rowV G))) → Q (.ref r) h') : Calls Φ (d + 4) 23 [v] h Q := by
  have mC := calls_mono (Φ := Φ) (d + 3)
  have hz := SZ_val
  refine ⟨fn_ahead, h23, rfl, A_fn (A_calls mC (g := []) rfl trivial (through_ok F.h0 F.h1 F.h2 F.h12 F.h13 F.h14 F.h15 F.h16 F.h17 F.h18 F.h19 F.h20 F.h21 hv ok hK hB ?_ ?_))⟩
  · rintro h' k G p ⟨ver, hk⟩ gn hl
    refine ⟨_, rfl, rfl, A_if (g := []) rfl trivial (fun e => nomatch e) fun _ => A_then (A_retE mC (A_compE mC (A_bi (g := []) rfl trivial ?_)))⟩
    refine ⟨(G.map (·.x)).map pairV, .inl ⟨_, ver, hk, ?_⟩, by rw [List.length_map, List.length_map]; omega, .inr (.inr (.inl ⟨G.map (·.x), rfl, fun ks hp hs => ?_⟩))⟩
    · exact keys_map (k := fun g : GE => g.x) G
    have hlen := hp.length_eq
    rw [List.length_map] at hlen
    have g1 := get_last h' (.list (ks.map pairV))
    refine A_comp mC (goes_seq h'.length _) (l := ks) (f := pairV) (w := rowV G) (g := []) rfl trivial (it_list g1) g1 (by omega) (fun x hx => ?_) fun ρ => q _ _ G ks ((p.trans (List.prefix_append _ _)).trans (List.prefix_append _ _)) gn hp hs (get_last _ _)
    obtain ⟨g, hg, rfl⟩ := List.mem_map.mp (hp.mem_iff.mp hx)
    have hr : RdW (h' ++ [.list (ks.map pairV)]) (.ref k) (nv2 g.x) (.tup [.str g.l.1, .str g.l.2]) := rd_dict (get_app hk) rfl (dget_map (k := fun g : GE => g.x) (w := fun g => .tup [.str g.l.1, .str g.l.2]) gn.nd hg)
    unfold rowV
    rw [lagOf_at gn.nd hg]
    exact ⟨[.tup [.str g.l.1, .str g.l.2], .tup [.str g.l.1, .str g.l.2]], _, _, rfl, hr, hr, trivial⟩
  · exact fun h' k w p t => absurd t g0.no
end
end Tw
end

section
namespace Tw
namespace L10
noncomputable def fn__law_is_plain : Fn := ⟨2, [
  .for (.name 2) (.var 0) [
    .ite (.and (.cmp .eq (.sub (.var 2) (.lit (.int 0))) (.sub (.var 1) (.lit (.int 0)))) (.or (.cmp .eq (.sub (.var 2) (.lit (.int 1))) (.sub (.var 1) (.lit (.int 1)))) (.or (.cmp .eq (.sub (.var 2) (.lit (.int 1))) (.lit (.str []))) (.cmp .eq (.sub (.var 1) (.lit (.int 1))) (.lit (.str [])))))) [
      .ret (some (.lit (.bool false)))] []],
  .ret (some (.lit (.bool true)))]⟩
noncomputable def fn__law_moves : Fn := ⟨4, [
  .assign (.name 4) (.list []),
  .for (.name 5) (.var 1) [
    .assign (.name 5) (.bin .mod (.bin .mul (.var 5) (.lit (.int 48271))) (.lit (.int 2147483647))),
    .assign (.name 6) (.sub (.var 3) (.bin .mod (.var 5) (.lit (.int 4)))),
    .assign (.name 7) (.sub (.var 3) (.bin .mod (.bin .fdiv (.var 5) (.lit (.int 4))) (.lit (.int 4)))),
    .ite (.cmp .eq (.var 0) (.lit (.int 2))) [
      .assign (.name 7) (.sub (.var 3) (.bin .mod (.bin .add (.bin .mod (.var 5) (.lit (.int 4))) (.bi .int [(.cmp .gt (.bin .mod (.var 5) (.lit (.int 4))) (.lit (.int 0)))])) (.lit (.int 4))))] [],
    .assign (.name 8) (.tup [(.bin .mod (.bin .fdiv (.var 5) (.lit (.int 16))) (.var 2)), (.var 6), (.var 7), (.bin .mod (.bin .fdiv (.bin .fdiv (.var 5) (.lit (.int 16))) (.var 2)) (.var 2))]),
    .ite (.or (.cmp .ne (.var 0) (.lit (.int 1))) (.call 33 [(.var 4), (.var 8)])) [
      .expr (.meth .append (.var 4) [(.var 8)])] []],
  .ret (some (.var 4))]⟩
noncomputable def fn__law_machine : Fn := ⟨1, [
  .assign (.name 1) (.call 26 [(.call 25 [(.var 0), (.lit (.int 1))])]),
  .assign (.name 2) (.call 25 [(.var 0), (.lit (.int 2))]),
  .assign (.name 3) (.bin .add (.lit (.int 1)) (.bin .mod (.var 2) (.lit (.int 4)))),
  .assign (.name 4) (.list []),
  .assign (.name 5) (.bin .fdiv (.bin .mod (.bin .mul (.var 2) (.lit (.int 48271))) (.lit (.int 2147483647))) (.lit (.int 16))),
  .for (.name 6) (.bi .range [(.var 3)]) [
    .ite (.or (.cmp .eq (.bin .mod (.var 5) (.lit (.int 3))) (.lit (.int 0))) (.and (.cmp .eq (.bin .add (.var 6) (.lit (.int 1))) (.var 3)) (.cmp .eq (.var 4) (.list [])))) [
      .expr (.meth .append (.var 4) [(.var 6)])] [],
    .assign (.name 5) (.bin .fdiv (.var 5) (.lit (.int 3)))],
  .ite (.cmp .eq (.bin .mod (.var 5) (.lit (.int 2))) (.lit (.int 1))) [
    .assign (.name 4) (.bin .add (.var 4) (.slice (.var 4) (.lit .none) (.lit (.int 1))))] [],
  .assign (.name 7) (.call 30 [(.bin .mod (.call 25 [(.var 0), (.lit (.int 0))]) (.lit (.int 3))), (.slice (.var 0) (.lit (.int 3)) (.lit (.int 11))), (.var 3), (.var 1)]),
  .ite (.and (.cmp .eq (.bin .mod (.call 25 [(.var 0), (.lit (.int 0))]) (.lit (.int 6))) (.lit (.int 5))) (.cmp .ne (.var 7) (.list []))) [
    .assign (.name 8) (.meth .pop (.var 7) []),
    .expr (.meth .append (.var 7) [(.tup [(.sub (.var 8) (.lit (.int 0))), (.sub (.var 8) (.lit (.int 1))), (.sub (.var 1) (.bin .mod (.bin .fdiv (.call 25 [(.var 0), (.lit (.int 0))]) (.lit (.int 6))) (.lit (.int 4)))), (.sub (.var 8) (.lit (.int 3)))])])] [],
  .ite (.and (.cmp .eq (.bin .mod (.call 25 [(.var 0), (.lit (.int 0))]) (.lit (.int 12))) (.lit (.int 4))) (.cmp .ne (.var 7) (.list []))) [
    .expr (.meth .append (.var 7) [(.tup [(.sub (.sub (.var 7) (.neg (.lit (.int 1)))) (.lit (.int 0))), (.sub (.sub (.var 7) (.neg (.lit (.int 1)))) (.lit (.int 1))), (.lit (.str [])), (.bin .mod (.bin .add (.sub (.sub (.var 7) (.neg (.lit (.int 1)))) (.lit (.int 3))) (.lit (.int 1))) (.var 3))])]),
    .assign (.name 4) (.bi .list [(.bi .range [(.var 3)])])] [],
  .ret (some (.tup [(.var 3), (.bin .mod (.bin .fdiv (.var 2) (.lit (.int 4))) (.var 3)), (.var 4), (.var 7)]))]⟩
noncomputable def fn__law_steps : Fn := ⟨3, [
  .assign (.name 3) (.list []),
  .for (.name 4) (.var 0) [
    .ite (.and (.cmp .eq (.sub (.var 4) (.lit (.int 0))) (.var 1)) (.cmp .eq (.sub (.var 4) (.lit (.int 1))) (.lit (.str [])))) [
      .expr (.meth .append (.var 3) [(.tup [(.sub (.var 4) (.lit (.int 3))), (.var 2), (.sub (.var 4) (.lit (.int 2))), (.lit (.str []))])])] [],
    .ite (.and (.cmp .eq (.sub (.var 4) (.lit (.int 0))) (.var 1)) (.cmp .ne (.sub (.var 4) (.lit (.int 1))) (.lit (.str [])))) [
      .for (.name 5) (.var 0) [
        .ite (.and (.cmp .eq (.sub (.var 5) (.lit (.int 0))) (.var 2)) (.cmp .eq (.sub (.var 5) (.lit (.int 1))) (.sub (.var 4) (.lit (.int 1))))) [
          .expr (.meth .append (.var 3) [(.tup [(.sub (.var 4) (.lit (.int 3))), (.sub (.var 5) (.lit (.int 3))), (.sub (.var 4) (.lit (.int 2))), (.sub (.var 5) (.lit (.int 2)))])])] []]] []],
  .for (.name 5) (.var 0) [
    .ite (.and (.cmp .eq (.sub (.var 5) (.lit (.int 0))) (.var 2)) (.cmp .eq (.sub (.var 5) (.lit (.int 1))) (.lit (.str [])))) [
      .expr (.meth .append (.var 3) [(.tup [(.var 1), (.sub (.var 5) (.lit (.int 3))), (.lit (.str [])), (.sub (.var 5) (.lit (.int 2)))])])] []],
  .ret (some (.var 3))]⟩
noncomputable def fn__law_pairs : Fn := ⟨1, [
  .assign (.name 1) .dict0,
  .assign (.name 2) (.list [(.tup [(.sub (.var 0) (.lit (.int 1))), (.sub (.var 0) (.lit (.int 1)))])]),
  .while (.cmp .ne (.var 2) (.list [])) [
    .assign (.name 3) (.meth .pop (.var 2) []),
    .ite (.cmp .notIn (.var 3) (.var 1)) [
      .store (.var 1) (.var 3) (.call 31 [(.sub (.var 0) (.lit (.int 3))), (.sub (.var 3) (.lit (.int 0))), (.sub (.var 3) (.lit (.int 1)))]),
      .for (.name 4) (.sub (.var 1) (.var 3)) [
        .expr (.meth .append (.var 2) [(.tup [(.sub (.var 4) (.lit (.int 0))), (.sub (.var 4) (.lit (.int 1)))])])]] []],
  .assign (.name 5) (.bi .dict [(.comp (.tup [(.var 13), (.lit (.bool true))]) (.name 13) (.var 1) (some (.and (.cmp .isIn (.sub (.var 13) (.lit (.int 0))) (.sub (.var 0) (.lit (.int 2)))) (.cmp .isIn (.sub (.var 13) (.lit (.int 1))) (.sub (.var 0) (.lit (.int 2)))))))]),
  .for (.name 6) (.bi .range [(.bi .len [(.var 1)])]) [
    .for (.name 3) (.var 1) [
      .ite (.cmp .ne (.comp (.var 13) (.name 13) (.sub (.var 1) (.var 3)) (some (.cmp .isIn (.tup [(.sub (.var 13) (.lit (.int 0))), (.sub (.var 13) (.lit (.int 1)))]) (.var 5)))) (.list [])) [
        .store (.var 5) (.var 3) (.lit (.bool true))] []]],
  .for (.name 3) (.bi .list [(.var 1)]) [
    .ite (.cmp .notIn (.var 3) (.var 5)) [
      .expr (.meth .dpop (.var 1) [(.var 3)])] []],
  .ret (some (.var 1))]⟩
noncomputable def fn__law_is_row : Fn := ⟨1, [
  .ite (.or (.not (.isinst (.var 0) .tuple)) (.or (.cmp .ne (.bi .len [(.var 0)]) (.lit (.int 4))) (.or (.not (.call 28 [(.sub (.var 0) (.lit (.int 0)))])) (.not (.call 28 [(.sub (.var 0) (.lit (.int 1)))]))))) [
    .ret (some (.lit (.bool false)))] [],
  .ret (some (.and (.isinst (.sub (.var 0) (.lit (.int 2))) .str) (.and (.isinst (.sub (.var 0) (.lit (.int 3))) .str) (.or (.cmp .eq (.sub (.var 0) (.lit (.int 2))) (.lit (.str []))) (.cmp .eq (.sub (.var 0) (.lit (.int 3))) (.lit (.str [])))))))]⟩
noncomputable def fn__law_leads : Fn := ⟨3, [
  .assign (.name 3) (.bin .add (.sub (.var 0) (.lit (.int 0))) (.sub (.var 1) (.lit (.int 2)))),
  .assign (.name 4) (.bin .add (.sub (.var 0) (.lit (.int 1))) (.sub (.var 1) (.lit (.int 3)))),
  .ite (.not (.call 53 [(.var 3), (.sub (.var 2) (.lit (.int 0))), (.var 4), (.sub (.var 2) (.lit (.int 1)))])) [
    .ret (some (.lit (.bool false)))] [],
  .ret (some (.cmp .eq (.slice (.var 3) (.lit .none) (.bin .sub (.bi .len [(.var 3)]) (.bi .len [(.sub (.var 2) (.lit (.int 0)))]))) (.slice (.var 4) (.lit .none) (.bin .sub (.bi .len [(.var 4)]) (.bi .len [(.sub (.var 2) (.lit (.int 1)))])))))]⟩
noncomputable def fn__law_ends_so : Fn := ⟨4, [
  .ite (.or (.cmp .lt (.bi .len [(.var 0)]) (.bi .len [(.var 1)])) (.cmp .lt (.bi .len [(.var 2)]) (.bi .len [(.var 3)]))) [
    .ret (some (.lit (.bool false)))] [],
  .ret (some (.and (.cmp .eq (.slice (.var 0) (.bin .sub (.bi .len [(.var 0)]) (.bi .len [(.var 1)])) (.lit .none)) (.var 1)) (.cmp .eq (.slice (.var 2) (.bin .sub (.bi .len [(.var 2)]) (.bi .len [(.var 3)])) (.lit .none)) (.var 3))))]⟩
noncomputable def fn_law : Fn := ⟨1, [
  .assign (.name 1) (.call 27 [(.var 0)]),
  .ite (.cmp .isNot (.call 22 [(.var 1)]) (.lit .none)) [
    .ret (some (.lit (.bool true)))] [],
  .assign (.name 2) (.call 23 [(.var 1)]),
  .assign (.name 3) (.call 47 [(.var 1)]),
  .ite (.or (.not (.isinst (.var 2) .list)) (.cmp .ne (.comp (.var 19) (.name 19) (.var 2) (some (.not (.call 52 [(.var 19)])))) (.list []))) [
    .ret (some (.lit (.bool false)))] [],
  .ite (.cmp .ne (.comp (.tup [(.sub (.var 19) (.lit (.int 0))), (.sub (.var 19) (.lit (.int 1)))]) (.name 19) (.var 2) none) (.bi .sorted [(.bi .list [(.var 3)])])) [
    .ret (some (.lit (.bool false)))] [],
  .assign (.name 4) (.bi .dict [(.comp (.tup [(.tup [(.sub (.var 19) (.lit (.int 0))), (.sub (.var 19) (.lit (.int 1)))]), (.tup [(.sub (.var 19) (.lit (.int 2))), (.sub (.var 19) (.lit (.int 3)))])]) (.name 19) (.var 2) none)]),
  .for (.name 5) (.var 4) [
    .assign (.name 6) (.and (.cmp .isIn (.sub (.var 5) (.lit (.int 0))) (.sub (.var 1) (.lit (.int 2)))) (.cmp .isIn (.sub (.var 5) (.lit (.int 1))) (.sub (.var 1) (.lit (.int 2))))),
    .ite (.and (.cmp .ne (.sub (.var 4) (.var 5)) (.tup [(.lit (.str [])), (.lit (.str []))])) (.or (.var 6) (.cmp .eq (.var 5) (.tup [(.sub (.var 1) (.lit (.int 1))), (.sub (.var 1) (.lit (.int 1)))])))) [
      .ret (some (.lit (.bool false)))] [],
    .for (.name 7) (.sub (.var 3) (.var 5)) [
      .assign (.name 8) (.tup [(.sub (.var 7) (.lit (.int 0))), (.sub (.var 7) (.lit (.int 1)))]),
      .ite (.and (.cmp .isIn (.var 8) (.var 4)) (.not (.call 50 [(.sub (.var 4) (.var 5)), (.var 7), (.sub (.var 4) (.var 8))]))) [
        .ret (some (.lit (.bool false)))] []]],
  .ret (some (.lit (.bool true)))]⟩
end L10
end Tw
end

section
namespace Tw

noncomputable def AEs (C : Ora) (L : Env) (h : H) (es : List E) (Q : List V → H → Prop) : Prop := ∀ ρ, Ag L ρ → wpEs C es ρ h Q
section
variable {C : Ora} {L : Env} {h : H} {Q : V → H → Prop}
theorem As_nil {Q : List V → H → Prop} (q : Q [] h) : AEs C L h [] Q := fun ρ ag => q
theorem As_cons (hC : MonoC C) {e : E} {es : List E} {Q : List V → H → Prop} (x : AE C L h e fun v h1 => AEs C L h1 es fun vs h2 => Q (v :: vs) h2) : AEs C L h (e :: es) Q := fun ρ ag => by
  rw [es_cons]; exact wpE_mono hC e (fun v h1 y => y ρ ag) (x ρ ag)
theorem A_callG {f : Nat} {as : List E} (x : AEs C L h as fun vs h1 => C f vs h1 Q) : AE C L h (.call f as) Q := fun ρ ag => by rw [e_call]; exact x ρ ag
theorem A_tupG {as : List E} (x : AEs C L h as fun vs h1 => Q (.tup vs) h1) : AE C L h (.tup as) Q := fun ρ ag => by rw [e_tup]; exact x ρ ag
theorem A_sliceE (hC : MonoC C) {a : E} {lo hi : V} (x : AE C L h a fun v h1 => SliceW v lo hi h1 Q) : AE C L h (.slice a (.lit lo) (.lit hi)) Q := fun ρ ag => by
  rw [e_slice]; exact wpE_mono hC a (fun v h1 y => y) (x ρ ag)
theorem A_expr {e : E} (hC : MonoC C) {r : List S} {Q : Out → Rho → H → Prop} (x : AE C L h e fun _ h1 => AB C L h1 r Q) : AB C L h (.expr e :: r) Q := fun ρ ag => B_expr (wpE_mono hC e (fun v h1 y => y ρ ag) (x ρ ag))
end
theorem A_appX {C : Ora} (hC : MonoC C) {L : Env} {h : H} {r : List S} {Q : Out → Rho → H → Prop} {i n : Nat} {e : E} (hi : lk L i = some (.ref n)) (h0 : ∃ vs, h[n]? = some (.list vs)) (x : AE C L h e fun v h1 => ∃ vs, h1[n]? = some (.list vs) ∧ vs.length < SZ ∧ AB C L (h1.set n (.list (vs ++ [v]))) r Q) : AB C L h (.expr (.meth .append (.var i) [e]) :: r) Q := fun ρ ag => by
  refine B_expr ?_
  rw [e_meth, e_vk, ag i _ hi, vk_some, es_cons]
  refine ⟨h0, wpE_mono hC e (fun v h1 z => ?_) (x ρ ag)⟩
  obtain ⟨vs, h2, h3, h4⟩ := z
  rw [es_nil, x_app h2]
  exact ⟨h3, h4 ρ ag⟩
theorem A_subG {C : Ora} (hC : MonoC C) {L : Env} {h : H} {Q : V → H → Prop} {a i : E} (x : AE C L h a fun v h1 => AE C L h1 i fun w h2 => SubW v w h2 fun u => Q u h2) : AE C L h (.sub a i) Q := fun ρ ag => by
  rw [e_sub]
  exact wpE_mono hC a (fun v h1 y => wpE_mono hC i (fun w h2 z => z) (y ρ ag)) (x ρ ag)
theorem AB_in {C : Ora} {L L' : Env} {h : H} {r : List S} {Q : Out → Rho → H → Prop} (hin : AllIn L L') (x : AB C L h r Q) : AB C L' h r Q := fun ρ ag => x ρ (AllIn.ag ag hin)
theorem nel_mv {h : H} {n m : Nat} {ms : List Mv} {P : Bool → Prop} (h1 : h[n]? = some (.list (ms.map Mv.v))) (h2 : h[m]? = some (.list [])) (x : P (!decide (ms = []))) : CmpW .ne (.ref n) (.ref m) h P := by
  rw [x_ne]
  refine x_eqd (d₁ := .list (ms.map Mv.sn)) (d₂ := .list []) (.list h1 (snaps_map snap_mv ms)) (.list h2 .nil) ?_ rfl ?_
  · show (ms.map Mv.sn).all (D.ok 8) = true
    rw [List.all_eq_true]; intro d hd; obtain ⟨y, _, rfl⟩ := List.mem_map.mp hd; rfl
  · rw [show decide (D.list (ms.map Mv.sn) = D.list []) = decide (ms = []) from decide_eq_decide.mpr ⟨fun e => by injection e with e; exact List.map_eq_nil_iff.mp e, fun e => by rw [e]; rfl⟩]
    exact x

section
variable {Φ : Nat → Option Fn} {d : Nat} {h : H} {Q : V → H → Prop}
theorem plain_ok {k : Nat} {ms : List Mv} {mv : Mv} (h33 : Φ 33 = some L10.fn__law_is_plain) (hk : h[k]? = some (.list (ms.map Mv.v))) (q : ∀ b, Q (.bool b) h) : Calls Φ (d + 1) 33 [.ref k, mv.v] h Q := by
  have mC := calls_mono (Φ := Φ) d
  refine ⟨L10.fn__law_is_plain, h33, rfl, A_fn (A_for mC (goes_seq k _) (fun _ : Unit => [(1, mv.v)]) (fun i _ H => H = h) () (by repeat (first | exact trivial | refine ⟨rfl, ?_⟩)) (A_ev (g := []) rfl trivial ⟨it_list hk, rfl⟩) (fun i _ H e => by rw [e]; exact hk) ?_ ?_)⟩
  · rintro i v _ H hv rfl
    obtain ⟨m, hm, rfl, _⟩ := map_at hv
    exact A_if (g := []) rfl trivial (fun _ => A_ret (g := []) rfl trivial fun ρ => q false) fun _ => A_then (A_next () (by repeat (first | exact trivial | refine ⟨rfl, ?_⟩)) rfl)
  · rintro _ H rfl
    exact A_ret (g := []) rfl trivial fun ρ => q true
noncomputable def mvL (kd : Int) (n s l : Nat) : Env := [(0, .int kd), (2, .int n), (3, .ref s), (4, .ref l)]
theorem moves_ok {kd : Int} {k n : Nat} {ys : List Int} {sv : V} (h30 : Φ 30 = some L10.fn__law_moves) (h33 : Φ 33 = some L10.fn__law_is_plain) (hk : h[k]? = some (.list (ys.map V.int))) (hyl : ys.length ≤ 100) (hn1 : 1 ≤ n) (hn2 : n ≤ 100) (hS : SignsAt h sv)
    (q : ∀ ms : List Mv, ms.length ≤ ys.length → (∀ m ∈ ms, okMv n m) → Q (.ref h.length) (h ++ [.list (ms.map Mv.v)])) : Calls Φ (d + 2) 30 [.int kd, .ref k, .int n, sv] h Q := by
  have mC := calls_mono (Φ := Φ) (d + 1)
  have hz := SZ_val
  obtain ⟨sn, a, b, e, rfl, hsg⟩ := hS
  have n0 : (n : Int) ≠ 0 := by omega
  refine ⟨L10.fn__law_moves, h30, rfl, A_fn (A_list0 (A_for mC (goes_seq k _) (fun _ : Unit => mvL kd n sn h.length) (fun i _ H => ∃ ms : List Mv, H = h ++ [.list (ms.map Mv.v)] ∧ ms.length ≤ i ∧ ∀ m ∈ ms, okMv n m) () (by repeat (first | exact trivial | refine ⟨rfl, ?_⟩)) (A_ev (g := []) rfl trivial ⟨it_list (get_app hk), [], rfl, Nat.le_refl _, fun m h => (nomatch h)⟩) (fun i _ H ⟨ms, e, _⟩ => by rw [e]; exact get_app hk) ?_ ?_))⟩
  · rintro i v _ H hv ⟨ms, rfl, hml, hmo⟩
    obtain ⟨c, hc, rfl, hil⟩ := map_at hv
    refine A_set (g := []) rfl ⟨mulOk_r _ (by decide), by decide, trivial⟩ ?_
    generalize (c * 48271).fmod 2147483647 = y
    have hsg' : (h ++ [MO.list (ms.map Mv.v)])[sn]? = _ := get_app hsg
    obtain ⟨k1, e1, l1⟩ := fmod_nat y (b := 4) (by decide)
    obtain ⟨k2, e2, l2⟩ := fmod_nat (y.fdiv 4) (b := 4) (by decide)
    obtain ⟨s1, g1, z1⟩ := four (a := a) (b := b) (e := e) (k := k1) (by omega)
    obtain ⟨s2, g2, z2⟩ := four (a := a) (b := b) (e := e) (k := k2) (by omega)
    refine A_set (g := [.str s1]) rfl ⟨by decide, by rw [e1]; exact rd_list hsg' (by omega) g1, trivial⟩ (A_set (g := [.str s2]) rfl ⟨by decide, by decide, by rw [e2]; exact rd_list hsg' (by omega) g2, trivial⟩ ?_)
    have rest : ∀ {L' : Env} {R : Out → Rho → Tw.H → Prop} (s3 : List Nat), s3.length ≤ 1 → AllIn [(0, .int kd), (2, .int n), (3, .ref sn), (4, .ref h.length), (5, .int y), (6, .str s1), (7, .str s3)] L' → (∀ ρ (ms' : List Mv), Ag (mvL kd n sn h.length) ρ → ms'.length ≤ i + 1 → (∀ m ∈ ms', okMv n m) → R .next ρ (h ++ [.list (ms'.map Mv.v)])) →
        AB (Calls Φ (d + 1)) L' (h ++ [MO.list (ms.map Mv.v)]) [
          .assign (.name 8) (.tup [(.bin .mod (.bin .fdiv (.var 5) (.lit (.int 16))) (.var 2)), (.var 6), (.var 7), (.bin .mod (.bin .fdiv (.bin .fdiv (.var 5) (.lit (.int 16))) (.var 2)) (.var 2))]),
          .ite (.or (.cmp .ne (.var 0) (.lit (.int 1))) (.call 33 [(.var 4), (.var 8)])) [.expr (.meth .append (.var 4) [(.var 8)])] []] R := by
      intro L' R s3 h3 hin done
      have np : (0 : Int) < n := Int.ofNat_lt.mpr hn1
      obtain ⟨p, ep, lp⟩ := fmod_nat (y.fdiv 16) (b := n) np
      obtain ⟨p', ep', lp'⟩ := fmod_nat ((y.fdiv 16).fdiv n) (b := n) np
      refine AB_in hin (A_set (g := []) rfl ⟨by decide, n0, by decide, ⟨n0, by omega⟩, n0, trivial⟩ ?_)
      rw [ep, ep']
      have yes : ∀ {L' : Env}, AllIn (mvL kd n sn h.length) L' → lk L' 4 = some (.ref h.length) → lk L' 8 = some (Mv.v ⟨p, s1, s3, p'⟩) → AB (Calls Φ (d + 1)) L' (h ++ [MO.list (ms.map Mv.v)]) [.expr (.meth .append (.var 4) [(.var 8)])] (thenB (Calls Φ (d + 1)) [] R) := by
        intro L' hin l4 l8
        refine A_appX mC l4 ⟨_, get_last _ _⟩ fun ρ ag => ?_
        rw [e_vk, ag 8 _ l8, vk_some]
        refine ⟨_, get_last _ _, by rw [List.length_map]; exact ltSZ (Nat.le_trans hml (Nat.le_trans (Nat.le_of_lt hil) (Nat.le_trans hyl (by decide)))), ?_⟩
        rw [set_last]
        have em : ms.map Mv.v ++ [Mv.v ⟨p, s1, s3, p'⟩] = (ms ++ [(⟨p, s1, s3, p'⟩ : Mv)]).map Mv.v := by rw [List.map_append]; rfl
        rw [em]
        refine A_then (A_nil fun ρ ag => done ρ _ (AllIn.ag ag hin) (by rw [List.length_append]; exact Nat.succ_le_succ hml) fun m hm => ?_)
        rcases List.mem_append.mp hm with hm | hm
        · exact hmo m hm
        · rw [List.mem_singleton.mp hm]; exact ⟨Int.ofNat_lt.mp lp, Int.ofNat_lt.mp lp', z1, h3⟩
      have no : ∀ {L' : Env}, AllIn (mvL kd n sn h.length) L' → AB (Calls Φ (d + 1)) L' (h ++ [MO.list (ms.map Mv.v)]) [] (thenB (Calls Φ (d + 1)) [] R) := fun hin => A_then (A_nil fun ρ ag => done ρ ms (AllIn.ag ag hin) (Nat.le_succ_of_le hml) hmo)
      refine A_ifW mC fun ρ ag => ?_
      rw [t_or, t_cmp, e_vk, ag 0 _ rfl, vk_some, e_lit, x_nei]
      by_cases hkd : kd = 1
      · rw [decide_eq_true hkd]
        show wpT _ _ _ _ _
        rw [t_call, es_cons, e_vk, ag 4 _ rfl, vk_some, es_cons, e_vk, ag 8 _ rfl, vk_some, es_nil]
        refine plain_ok h33 (mv := ⟨p, s1, s3, p'⟩) (get_last _ _) fun b => ?_
        rw [x_tb]
        cases b with
        | true => exact yes (by repeat (first | exact trivial | refine ⟨rfl, ?_⟩)) rfl rfl
        | false => exact no (by repeat (first | exact trivial | refine ⟨rfl, ?_⟩))
      · rw [decide_eq_false hkd]
        exact yes (by repeat (first | exact trivial | refine ⟨rfl, ?_⟩)) rfl rfl
    refine A_if (g := []) rfl trivial (fun _ => ?_) fun _ => A_then (rest s2 z2 (by repeat (first | exact trivial | refine ⟨rfl, ?_⟩)) fun ρ ms' ag a b => ⟨(), ag, ms', rfl, a, b⟩)
    have hk3 : ∃ k3 : Nat, (y.fmod 4 + (if decide (0 < y.fmod 4) = true then 1 else 0)).fmod 4 = k3 ∧ (k3 : Int) < 4 := fmod_nat _ (by decide)
    obtain ⟨k3, e3, l3⟩ := hk3
    obtain ⟨s3, g3, z3⟩ := four (a := a) (b := b) (e := e) (k := k3) l3
    refine A_set (g := [.str s3]) rfl ⟨by decide, by decide, by decide, by rw [e3]; exact rd_list hsg' (by omega) g3, trivial⟩ (A_then (rest s3 z3 (by repeat (first | exact trivial | refine ⟨rfl, ?_⟩)) fun ρ ms' ag a b => ⟨(), ag, ms', rfl, a, b⟩))
  · rintro _ H ⟨ms, rfl, hml, hmo⟩
    rw [List.length_map] at hml
    exact A_ret (g := []) rfl trivial fun ρ => q ms hml hmo
end
end Tw
end

section
namespace Tw

theorem lo_nat {k : Nat} (h : k < 1000) : loOf (.int k) = some k := by unfold loOf; dsimp only; rw [if_pos (by omega)]; simp
theorem hi_nat {k n : Nat} (h : k < 1000) : hiOf n (.int k) = some k := by unfold hiOf; dsimp only; rw [if_pos (by omega)]; simp
/-- the machine of the pairs' laws -/
structure MaP (h : H) (v : V) (M : Ma) : Prop where
  is : IsMa h v M
  ok : M.ok
  n4 : M.n ≤ 4
  m9 : M.moves.length ≤ 9
  e8 : M.ends.length ≤ 8
noncomputable def eaL (sc s : Nat) (c : Int) (n l : Nat) (bits : Int) : Env := [(0, .ref sc), (1, .ref s), (2, .int c), (3, .int n), (4, .ref l), (5, .int bits)]
noncomputable def sEnds : S := .for (.name 6) (.bi .range [(.var 3)]) [
    .ite (.or (.cmp .eq (.bin .mod (.var 5) (.lit (.int 3))) (.lit (.int 0))) (.and (.cmp .eq (.bin .add (.var 6) (.lit (.int 1))) (.var 3)) (.cmp .eq (.var 4) (.list [])))) [
      .expr (.meth .append (.var 4) [(.var 6)])] [],
    .assign (.name 5) (.bin .fdiv (.var 5) (.lit (.int 3)))]
noncomputable def sTail (lo hi : Int) : List S := [
  .assign (.name 7) (.call 30 [(.bin .mod (.call 25 [(.var 0), (.lit (.int 0))]) (.lit (.int 3))), (.slice (.var 0) (.lit (.int lo)) (.lit (.int hi))), (.var 3), (.var 1)]),
  .ite (.and (.cmp .eq (.bin .mod (.call 25 [(.var 0), (.lit (.int 0))]) (.lit (.int 6))) (.lit (.int 5))) (.cmp .ne (.var 7) (.list []))) [
    .assign (.name 8) (.meth .pop (.var 7) []),
    .expr (.meth .append (.var 7) [(.tup [(.sub (.var 8) (.lit (.int 0))), (.sub (.var 8) (.lit (.int 1))), (.sub (.var 1) (.bin .mod (.bin .fdiv (.call 25 [(.var 0), (.lit (.int 0))]) (.lit (.int 6))) (.lit (.int 4)))), (.sub (.var 8) (.lit (.int 3)))])])] [],
  .ite (.and (.cmp .eq (.bin .mod (.call 25 [(.var 0), (.lit (.int 0))]) (.lit (.int 12))) (.lit (.int 4))) (.cmp .ne (.var 7) (.list []))) [
    .expr (.meth .append (.var 7) [(.tup [(.sub (.sub (.var 7) (.neg (.lit (.int 1)))) (.lit (.int 0))), (.sub (.sub (.var 7) (.neg (.lit (.int 1)))) (.lit (.int 1))), (.lit (.str [])), (.bin .mod (.bin .add (.sub (.sub (.var 7) (.neg (.lit (.int 1)))) (.lit (.int 3))) (.lit (.int 1))) (.var 3))])]),
    .assign (.name 4) (.bi .list [(.bi .range [(.var 3)])])] [],
  .ret (some (.tup [(.var 3), (.bin .mod (.bin .fdiv (.var 2) (.lit (.int 4))) (.var 3)), (.var 4), (.var 7)]))]
section
variable {Φ : Nat → Option Fn} {d : Nat} {h : H}
theorem ends_A {g : H} {sc s n l : Nat} {c bits : Int} {r : List S} {Q : Out → Rho → H → Prop} (hg : g <+: h) (hgl : g.length ≤ l) (hl : h[l]? = some (.list [])) (hn2 : n ≤ 100)
    (q : ∀ bits h' (es : List Nat), g <+: h' → h'[l]? = some (.list (es.map natV)) → es.length ≤ n → (∀ e ∈ es, e < n) → AB (Calls Φ d) (eaL sc s c n l bits) h' r Q) : AB (Calls Φ d) (eaL sc s c n l bits) h (sEnds :: r) Q := by
  have mC := calls_mono (Φ := Φ) d
  have hz := SZ_val
  refine A_for mC (goes_range n) (eaL sc s c n l) (fun i bits H => ∃ es : List Nat, g <+: H ∧ H[l]? = some (.list (es.map natV)) ∧ es.length ≤ i ∧ ∀ e ∈ es, e < n) bits (by repeat (first | exact trivial | refine ⟨rfl, ?_⟩)) (A_ev (g := []) rfl ⟨small_nat (by omega), trivial⟩ ⟨fun _ q => q, [], hg, hl, Nat.le_refl _, fun e h => (nomatch h)⟩) (fun _ _ _ _ => trivial) ?_ ?_
  · rintro i v bits H hv ⟨es, hk, hL, hel, hen⟩
    obtain ⟨k', hk', rfl, hkm⟩ := map_at hv
    have : k' = i := by rw [List.getElem?_range (by simpa using hkm)] at hk'; exact (Option.some.inj hk').symm
    subst this
    rw [List.length_range] at hkm
    have gen : ∀ {R : Out → Rho → Tw.H → Prop}, (∀ ρ bits h' (es : List Nat), Ag (eaL sc s c n l bits) ρ → g <+: h' → h'[l]? = some (.list (es.map natV)) → es.length ≤ k' + 1 → (∀ e ∈ es, e < n) → R .next ρ h') →
        (∀ {H' : Tw.H}, g <+: H' → H'[l]? = some (.list (es.map natV)) → AB (Calls Φ d) ((6, .int k') :: eaL sc s c n l bits) H' [.expr (.meth .append (.var 4) [(.var 6)])] (thenB (Calls Φ d) [.assign (.name 5) (.bin .fdiv (.var 5) (.lit (.int 3)))] R)) ∧
        (∀ {H' : Tw.H}, g <+: H' → H'[l]? = some (.list (es.map natV)) → AB (Calls Φ d) ((6, .int k') :: eaL sc s c n l bits) H' [] (thenB (Calls Φ d) [.assign (.name 5) (.bin .fdiv (.var 5) (.lit (.int 3)))] R)) := by
      intro R done
      refine ⟨fun {H'} hk' hL' => ?_, fun hk' hL' => A_then (A_set (g := []) rfl ⟨by decide, trivial⟩ (A_nil fun ρ ag => done ρ (bits.fdiv 3) _ es (AllIn.ag ag (by repeat (first | exact trivial | refine ⟨rfl, ?_⟩))) hk' hL' (Nat.le_succ_of_le hel) hen))⟩
      have em : es.map natV ++ [.int k'] = (es ++ [k']).map natV := by rw [List.map_append]; rfl
      refine A_app rfl hL' (by rw [List.length_map]; omega) (g := []) rfl trivial (A_then (A_set (g := []) rfl ⟨by decide, trivial⟩ (A_nil fun ρ ag => done ρ (bits.fdiv 3) _ (es ++ [k']) (AllIn.ag ag (by repeat (first | exact trivial | refine ⟨rfl, ?_⟩))) (pre_set hk' hgl _) (by rw [List.getElem?_set_self (get_lt hL'), em]) (by rw [List.length_append]; exact Nat.succ_le_succ hel) fun e he => ?_)))
      rcases List.mem_append.mp he with he | he
      · exact hen e he
      · rw [List.mem_singleton.mp he]; exact hkm
    refine A_ifW mC fun ρ ag => ?_
    rw [t_or, t_cmp, e_bin, e_vk, ag 5 _ rfl, vk_some, e_lit, x_mod, e_lit, x_eqi]
    refine ⟨by decide, ?_⟩
    by_cases h3 : bits.fmod 3 = 0
    · rw [decide_eq_true h3]; exact (gen fun ρ bits h' es a b c d e => ⟨bits, a, es, b, c, d, e⟩).1 hk hL
    · rw [decide_eq_false h3]
      show wpT _ _ _ _ _
      rw [t_and, t_cmp, e_bin, e_vk, ag 6 (.int k') rfl, vk_some, e_lit, x_addi, e_vk, ag 3 _ rfl, vk_some, x_eqi]
      by_cases h4 : ((k' : Int) + 1 = n)
      · rw [decide_eq_true h4]
        show wpT _ _ _ _ _
        rw [t_cmp, e_vk, ag 4 _ rfl, vk_some, e_list, es_nil]
        refine x_nil (get_app hL) (get_last _ _) ?_
        have hk2 : g <+: H ++ [MO.list []] := hk.trans (List.prefix_append _ _)
        cases hes : decide (es = []) with
        | true => exact (gen fun ρ bits h' es a b c d e => ⟨bits, a, es, b, c, d, e⟩).1 hk2 (get_app hL)
        | false => exact (gen fun ρ bits h' es a b c d e => ⟨bits, a, es, b, c, d, e⟩).2 hk2 (get_app hL)
      · rw [decide_eq_false h4]; exact (gen fun ρ bits h' es a b c d e => ⟨bits, a, es, b, c, d, e⟩).2 hk hL
  · rintro bits H ⟨es, hk, hL, hel, hen⟩
    rw [List.length_map, List.length_range] at hel
    exact q bits H es hk hL hel hen
theorem tst_T {Q : Bool → H → Prop} {L : Env} {ρ : Rho} {sc m : Nat} {xs : List Int} {ms : List Mv} {k : Nat} {r : Int} (h25 : Φ 25 = some fn__law_cell) (hx : h[sc]? = some (.frz (xs.map V.int))) (ag : Ag L ρ) (l0 : lk L 0 = some (.ref sc)) (l7 : lk L 7 = some (.ref m)) (hm : h[m]? = some (.list (ms.map Mv.v))) (hk : k ≠ 0)
    (q : ∀ c h', h <+: h' → (c = true → ms ≠ []) → Q c h') : wpT (Calls Φ (d + 1)) (.and (.cmp .eq (.bin .mod (.call 25 [(.var 0), (.lit (.int 0))]) (.lit (.int k))) (.lit (.int r))) (.cmp .ne (.var 7) (.list []))) ρ h Q := by
  rw [t_and, t_cmp, e_bin, e_call, es_cons, e_vk, ag 0 _ l0, vk_some, es_cons, e_lit, es_nil]
  refine cell_ok (k := 0) h25 hx (by decide) ?_
  rw [e_lit, x_mod, e_lit, x_eqi]
  refine ⟨by omega, ?_⟩
  cases hb : decide ((xs.getD 0 0).fmod k = r) with
  | false => exact q false h (List.prefix_refl _) fun h => nomatch h
  | true =>
    show wpT _ _ _ _ _
    rw [t_cmp, e_vk, ag 7 _ l7, vk_some, e_list, es_nil]
    exact nel_mv (get_app hm) (get_last _ _) (q _ _ (List.prefix_append _ _) fun h => by simpa using h)
theorem tail_A {sc s n l : Nat} {c bits : Int} {xs : List Int} {es : List Nat} {lo hi : Nat} {Q : Out → Rho → H → Prop} (h25 : Φ 25 = some fn__law_cell) (h30 : Φ 30 = some L10.fn__law_moves) (h33 : Φ 33 = some L10.fn__law_is_plain) (hx : h[sc]? = some (.frz (xs.map V.int))) (hS : SignsAt h (.ref s)) (hl : h[l]? = some (.list (es.map natV)))
    (hn1 : 1 ≤ n) (hn4 : n ≤ 4) (hel : es.length ≤ 8) (hen : ∀ e ∈ es, e < n) (hlo : hi = lo + 8) (hlo2 : lo < 100) (q : ∀ ρ v h' M, h <+: h' → MaP h' v M → Q (.ret v) ρ h') : AB (Calls Φ (d + 2)) (eaL sc s c n l bits) h (sTail lo hi) Q := by
  have mC := calls_mono (Φ := Φ) (d + 2)
  have hz := SZ_val
  refine A_name mC (A_callG (As_cons mC (A_bin mC (A_callE (g := []) rfl trivial (cell_ok (k := 0) h25 hx (by decide) (A_ev (g := []) rfl trivial ?_))))))
  rw [x_mod]
  refine ⟨by decide, As_cons mC (A_sliceE mC (A_ev (g := []) rfl trivial ⟨xs.map V.int, lo, hi, .inr hx, ?_, ?_, As_cons mC (A_ev (g := []) rfl trivial (As_cons mC (A_ev (g := []) rfl trivial (As_nil ?_))))⟩))⟩
  · exact lo_nat (Nat.lt_trans hlo2 (by decide))
  · exact hi_nat (by omega)
  rw [← List.map_take, ← List.map_drop]
  have yl : ((xs.take hi).drop lo).length ≤ 8 := by rw [List.length_drop, List.length_take]; omega
  generalize (xs.take hi).drop lo = ys at yl
  refine moves_ok h30 h33 (get_last _ _) (by omega) hn1 (by omega) (hS.pre (List.prefix_append _ _)) fun ms hml hmo => ?_
  generalize hX : h ++ [MO.list (ys.map V.int)] = H0
  have p1 : h <+: H0 ++ [MO.list (ms.map Mv.v)] := by rw [← hX, List.append_assoc]; exact List.prefix_append _ _
  have lm : h.length ≤ H0.length := by rw [← hX, List.length_append]; omega
  clear hX
  have hm : (H0 ++ [MO.list (ms.map Mv.v)])[H0.length]? = _ := get_last _ _
  generalize H0.length = m at lm hm ⊢
  generalize H0 ++ [MO.list (ms.map Mv.v)] = H1 at p1 hm ⊢
  -- the last statements
  have last : ∀ {Q : Out → Rho → Tw.H → Prop} {L : Env} {H : Tw.H} {m l : Nat} {ms : List Mv} {es : List Nat}, AllIn [(2, .int c), (3, .int n), (4, .ref l), (7, .ref m)] L → H[m]? = some (.list (ms.map Mv.v)) → H[l]? = some (.list (es.map natV)) → ms.length ≤ 9 → (∀ x ∈ ms, okMv n x) → es.length ≤ 8 → (∀ e ∈ es, e < n) → (∀ ρ v M, MaP H v M → Q (.ret v) ρ H) →
      AB (Calls Φ (d + 2)) L H [.ret (some (.tup [(.var 3), (.bin .mod (.bin .fdiv (.var 2) (.lit (.int 4))) (.var 3)), (.var 4), (.var 7)]))] Q := by
    intro Q L H m l ms es hin hm hl h9 hmo h8 hen q
    obtain ⟨k2, e2, l2⟩ := fmod_nat (c.fdiv 4) (b := n) (by omega)
    refine AB_in hin (A_ret (g := []) rfl ⟨by decide, by omega, trivial⟩ fun ρ => ?_)
    rw [e2]
    exact q ρ _ ⟨n, k2, es, ms⟩ ⟨⟨l, m, rfl, hl, hm⟩, ⟨hn1, by show n ≤ 100; omega, by show k2 < n; omega, by show ms.length ≤ 1000; omega, by show es.length ≤ 1000; omega, hen, hmo⟩, hn4, h9, h8⟩
  have two : ∀ {Q : Out → Rho → Tw.H → Prop} {L : Env} {H : Tw.H} {ms : List Mv}, AllIn [(0, .ref sc), (2, .int c), (3, .int n), (4, .ref l), (7, .ref m)] L → h <+: H → H[m]? = some (.list (ms.map Mv.v)) → h.length ≤ m → ms.length ≤ 8 → (∀ x ∈ ms, okMv n x) → (∀ ρ v h' M, h <+: h' → MaP h' v M → Q (.ret v) ρ h') →
      AB (Calls Φ (d + 2)) L H ((sTail lo hi).drop 2) Q := by
    intro Q L H ms hin pH hm hml h8 hmo q
    refine AB_in hin ?_
    refine A_ifW mC fun ρ ag => tst_T (k := 12) h25 (pre_get pH hx) ag rfl rfl hm (by decide) fun b H2 p2 hb => ?_
    have hm2 := pre_get p2 hm
    have pH2 := pH.trans p2
    cases b with
    | false => exact A_then (last (by repeat (first | exact trivial | refine ⟨rfl, ?_⟩)) hm2 (pre_get pH2 hl) (by omega) hmo hel hen fun ρ v M x => q ρ v H2 M pH2 x)
    | true =>
      obtain ⟨ms0, x, rfl⟩ : ∃ ms0 x, ms = ms0 ++ [x] := ⟨ms.dropLast, ms.getLast (hb rfl), (List.dropLast_concat_getLast (hb rfl)).symm⟩
      have hxo := hmo x (List.mem_append_right _ (List.mem_singleton.mpr rfl))
      have hr : RdW H2 (.ref m) (.int (-1)) x.v := rd_last (vs := ms0.map Mv.v) (by rw [List.map_append] at hm2; exact hm2)
      obtain ⟨k3, e3, l3⟩ := fmod_nat ((x.q : Int) + 1) (b := n) (by omega)
      refine A_app rfl hm2 (by rw [List.length_map]; omega) (g := [x.v, x.v, x.v]) rfl ⟨hr, hr, hr, by omega, trivial⟩ ?_
      rw [e3]
      refine A_name mC (A_bi (g := []) (vs := [.rng 0 n 1]) rfl ⟨small_nat (by omega), trivial⟩ ?_)
      rw [x_lr, range_map]
      refine ⟨?_, A_then ?_⟩
      · unfold rangeLen; split <;> omega
      have pH3 : h <+: H2.set m (.list ((ms0 ++ [x]).map Mv.v ++ [Mv.v ⟨x.s, x.t, [], k3⟩])) := pre_set pH2 hml _
      refine last (ms := ms0 ++ [x] ++ [⟨x.s, x.t, [], k3⟩]) (es := List.range n) (by repeat (first | exact trivial | refine ⟨rfl, ?_⟩)) (get_app ?_) (get_last _ _) (by rw [List.length_append]; show _ + 1 ≤ _; omega) (fun y hy => ?_) (by rw [List.length_range]; omega) (fun e he => List.mem_range.mp he) fun ρ v M x => q ρ v _ M (pH3.trans (List.prefix_append _ _)) x
      · rw [List.getElem?_set_self (get_lt hm2)]; simp only [List.map_append]; rfl
      · rcases List.mem_append.mp hy with hy | hy
        · exact hmo y hy
        · rw [List.mem_singleton.mp hy]; exact ⟨hxo.1, by show k3 < n; omega, hxo.2.2.1, Nat.zero_le _⟩
  refine A_ifW mC fun ρ ag => tst_T (k := 6) h25 (pre_get p1 hx) ag rfl rfl hm (by decide) fun b H2 p2 hb => ?_
  have hm2 := pre_get p2 hm
  have pH2 := p1.trans p2
  cases b with
  | false => exact A_then (two (by repeat (first | exact trivial | refine ⟨rfl, ?_⟩)) pH2 hm2 lm (by omega) hmo q)
  | true =>
    obtain ⟨ms0, x, rfl⟩ : ∃ ms0 x, ms = ms0 ++ [x] := ⟨ms.dropLast, ms.getLast (hb rfl), (List.dropLast_concat_getLast (hb rfl)).symm⟩
    have hxo := hmo x (List.mem_append_right _ (List.mem_singleton.mpr rfl))
    have hl0 : ms0.length + 1 ≤ 8 := by rw [List.length_append] at hml; exact Nat.le_trans hml yl
    rw [List.map_append] at hm2
    refine A_name mC fun ρ ag => ?_
    rw [e_meth, e_vk, ag 7 _ rfl, vk_some, es_nil]
    refine ⟨x_rp hm2, x_pop hm2 ?_⟩
    have hm3 : (H2.set m (.list (ms0.map Mv.v)))[m]? = some (.list (ms0.map Mv.v)) := List.getElem?_set_self (get_lt hm2)
    have pH3 : h <+: H2.set m (.list (ms0.map Mv.v)) := pre_set pH2 lm _
    generalize H2.set m (.list (ms0.map Mv.v)) = H3 at hm3 pH3 ⊢
    obtain ⟨sn, sa, sb, se, hsn, hsg⟩ := hS.pre pH3
    cases hsn
    obtain ⟨k3, e3, l3⟩ := fmod_nat ((xs.getD 0 0).fdiv 6) (b := 4) (by decide)
    obtain ⟨s3, g3, z3⟩ := four (a := sa) (b := sb) (e := se) (k := k3) (by omega)
    refine A_appX mC rfl ⟨_, hm3⟩ (A_tupG (As_cons mC (A_ev (g := []) rfl trivial (As_cons mC (A_ev (g := []) rfl trivial (As_cons mC (A_subG mC (A_ev (g := []) rfl trivial (A_bin mC (A_bin mC (A_callE (g := []) rfl trivial (cell_ok (k := 0) h25 (pre_get pH3 hx) (by decide) (A_ev (g := []) rfl trivial ?_)))))))))))))
    rw [x_fdiv]
    refine ⟨by decide, by decide, A_ev (g := []) rfl trivial ?_⟩
    rw [x_mod, e3]
    refine ⟨by decide, rd_list hsg (by omega) g3 _ (As_cons mC (A_ev (g := []) rfl trivial (As_nil ⟨_, hm3, by rw [List.length_map]; omega, A_then ?_⟩)))⟩
    refine two (ms := ms0 ++ [⟨x.s, x.t, s3, x.q⟩]) (by repeat (first | exact trivial | refine ⟨rfl, ?_⟩)) (pre_set pH3 lm _) ?_ lm (by rw [List.length_append]; exact hl0) (fun y hy => ?_) q
    · rw [List.getElem?_set_self (get_lt hm3)]; simp only [List.map_append]; rfl
    · rcases List.mem_append.mp hy with hy | hy
      · exact hmo y (List.mem_append_left _ hy)
      · rw [List.mem_singleton.mp hy]; exact ⟨hxo.1, hxo.2.1, hxo.2.2.1, z3⟩
theorem machine10_ok {Q : V → H → Prop} {xs : List Int} {sc : Nat} (h25 : Φ 25 = some fn__law_cell) (h26 : Φ 26 = some fn__law_signs) (h27 : Φ 27 = some L10.fn__law_machine) (h30 : Φ 30 = some L10.fn__law_moves) (h33 : Φ 33 = some L10.fn__law_is_plain) (hx : h[sc]? = some (.frz (xs.map V.int)))
    (q : ∀ v h' M, h <+: h' → MaP h' v M → Q v h') : Calls Φ (d + 3) 27 [.ref sc] h Q := by
  have mC := calls_mono (Φ := Φ) (d + 2)
  have hz := SZ_val
  refine ⟨L10.fn__law_machine, h27, rfl, A_fn (A_name mC (A_callG (As_cons mC (A_callE (g := []) rfl trivial (cell_ok (k := 1) h25 hx (by decide) (As_nil (signs_ok h26 fun a b e => ?_)))))))⟩
  have hx1 := get_app (t := [.list [.str [], .str [a], .str [b], .str [e]]]) hx
  have p1 : h <+: h ++ [MO.list [.str [], .str [a], .str [b], .str [e]]] := List.prefix_append _ _
  have hS : SignsAt (h ++ [MO.list [.str [], .str [a], .str [b], .str [e]]]) (.ref h.length) := ⟨_, a, b, e, rfl, get_last _ _⟩
  generalize h.length = sn at hS ⊢
  generalize h ++ [MO.list [.str [], .str [a], .str [b], .str [e]]] = H1 at hx1 p1 hS ⊢
  refine A_call mC (g := []) rfl trivial (cell_ok (k := 2) h25 hx1 (by decide) ?_)
  generalize xs.getD 2 0 = c
  obtain ⟨k1, e1, l1⟩ := fmod_nat c (b := 4) (by decide)
  refine A_set (g := []) rfl ⟨by decide, trivial⟩ ?_
  rw [e1, show (1 : Int) + k1 = ((k1 + 1 : Nat) : Int) from by omega]
  refine A_list0 (A_set (g := []) rfl ⟨mulOk_r _ (by decide), by decide, by decide, trivial⟩ ?_)
  refine AB_in (L := eaL sc sn c (k1 + 1) H1.length _) (by repeat (first | exact trivial | refine ⟨rfl, ?_⟩)) (ends_A (List.prefix_append _ _) (Nat.le_refl _) (get_last _ _) (by omega) fun bits H2 es p2 hL hel hen => ?_)
  have fin : ∀ {L : Env} {H3 : Tw.H} {l : Nat} {es : List Nat} {bits : Int} {Q' : Out → Rho → Tw.H → Prop}, H1 <+: H3 → H3[l]? = some (.list (es.map natV)) → es.length ≤ 8 → (∀ e ∈ es, e < k1 + 1) → AllIn (eaL sc sn c (k1 + 1) l bits) L → (∀ ρ v h' M, h <+: h' → MaP h' v M → Q' (.ret v) ρ h') → AB (Calls Φ (d + 2)) L H3 (sTail 3 11) Q' := fun p3 hL hel hen hin q =>
    AB_in hin (tail_A (lo := 3) (hi := 11) h25 h30 h33 (pre_get p3 hx1) (hS.pre p3) hL (by omega) (by omega) hel hen rfl (by decide) fun ρ v h' M p x => q ρ v h' M (p1.trans (p3.trans p)) x)
  refine A_if (g := []) rfl ⟨by decide, trivial⟩ (fun _ => A_name mC (A_bin mC (A_ev (g := []) rfl trivial (A_sliceE mC (A_ev (g := []) rfl trivial ⟨es.map natV, 0, 1, .inl hL, rfl, rfl, ?_⟩))))) fun _ => A_then (fin (l := H1.length) (es := es) (bits := bits) p2 hL (by omega) hen (by repeat (first | exact trivial | refine ⟨rfl, ?_⟩)) fun ρ v h' M p x => q v h' M p x)
  show BinW .add _ _ _ _
  rw [x_addl (get_app hL) (get_last _ _)]
  rw [List.drop_zero, ← List.map_take, ← List.map_append]
  have hl : (es ++ es.take 1).length ≤ 8 := by rw [List.length_append, List.length_take]; omega
  refine ⟨by rw [List.length_map, List.length_map, ← List.length_append]; omega, A_then (fin (es := es ++ es.take 1) (bits := bits) ?_ (get_last _ _) hl (fun e he => ?_) (by repeat (first | exact trivial | refine ⟨rfl, ?_⟩)) fun ρ v h' M p x => q v h' M p x)⟩
  · rw [List.append_assoc]; exact p2.trans (List.prefix_append _ _)
  · rcases List.mem_append.mp he with he | he
    · exact hen e he
    · exact hen e (List.mem_of_mem_take he)
end
end Tw
end

section
namespace Tw

abbrev Q4 := N2 × List Nat × List Nat
noncomputable def q4V (y : Q4) : V := .tup [.int y.1.1, .int y.1.2, .str y.2.1, .str y.2.2]
noncomputable def lA (ms : List Mv) (x : N2) (m : Mv) : List Q4 :=
  if m.s = x.1 then (if m.t = [] then [((m.q, x.2), m.g, [])] else (ms.filter fun n => decide (n.s = x.2 ∧ n.t = m.t)).map fun n => ((m.q, n.q), m.g, n.g)) else []
noncomputable def lB (ms : List Mv) (x : N2) : List Q4 := (ms.filter fun n => decide (n.s = x.2 ∧ n.t = [])).map fun n => ((x.1, n.q), [], n.g)
noncomputable def lst (ms : List Mv) (x : N2) : List Q4 := ms.flatMap (lA ms x) ++ lB ms x
section
variable {Φ : Nat → Option Fn} {d : Nat} {h : H} {Q : V → H → Prop}
end
end Tw
end

section
namespace Tw

structure PaH (h H : Tw.H) (dn : Nat) (ms : List Mv) (E : List (N2 × Nat)) : Prop where
  pre : h <+: H
  dict : ∃ ver, H[dn]? = some (.dict (kvE E) ver)
  cell : ∀ e ∈ E, H[e.2]? = some (.list ((lst ms e.1).map q4V))
structure Wk (ms : List Mv) (b : N2) (R W : List N2) : Prop where
  nd : R.Nodup
  reach : ∀ x ∈ R, Reach b (nxt ms) x
  wait : ∀ x ∈ W, Reach b (nxt ms) x
  clos : ∀ x ∈ R, ∀ y ∈ nxt ms x, y ∈ R ∨ y ∈ W
  head : b ∈ R ∨ b ∈ W
/-- what is good so far -/
structure GdS (ms : List Mv) (es : List Nat) (R D : List N2) : Prop where
  nd : D.Nodup
  sub : ∀ x ∈ D, x ∈ R
  co : ∀ x ∈ D, Co ms es x
  fin : ∀ x ∈ R, Fin2 es x → x ∈ D
section
variable {Φ : Nat → Option Fn} {d : Nat} {h : H} {Q : V → H → Prop}
end
end Tw
end

section
namespace Tw

section
variable {Φ : Nat → Option Fn} {d : Nat} {h : H} {Q : V → H → Prop}
end
end Tw
end

section
namespace Tw

theorem len4 {M : Ma} (m9 : M.moves.length ≤ 9) (x : N2) : (stps M.moves x).length ≤ 90 := stps_len m9 (by decide)
theorem bnd4 {M : Ma} (n4 : M.n ≤ 4) : M.n * M.n * 90 < 10000000 ∧ M.n * M.n < 64 := by
  have : M.n * M.n ≤ 4 * 4 := Nat.mul_le_mul n4 n4
  omega
section
variable {Φ : Nat → Option Fn} {d : Nat} {h : H} {Q : V → H → Prop}
end
end Tw
end

section
namespace Tw
/-- ahead, asked whether it raises -/
noncomputable def fn_ahead_try : Fn := ⟨1, [
  .assign (.tup [1, 2]) (.call 20 [(.var 0)]),
  .ite (.cmp .isNot (.var 2) (.lit .none)) [
    .ret (some (.lit (.bool true)))] [],
  .expr (.comp (.tup [(.sub (.var 7) (.lit (.int 0))), (.sub (.var 7) (.lit (.int 1))), (.sub (.sub (.var 1) (.var 7)) (.lit (.int 0))), (.sub (.sub (.var 1) (.var 7)) (.lit (.int 1)))]) (.name 7) (.bi .sorted [(.var 1)]) none),
  .ret (some (.lit (.bool false)))]⟩
namespace L11
noncomputable def fn__law_machine : Fn := ⟨1, [
  .assign (.name 1) (.call 26 [(.call 25 [(.var 0), (.lit (.int 2))])]),
  .assign (.name 2) (.call 25 [(.var 0), (.lit (.int 3))]),
  .assign (.name 3) (.bin .add (.lit (.int 1)) (.bin .mod (.var 2) (.lit (.int 4)))),
  .assign (.name 4) (.list []),
  .assign (.name 5) (.bin .fdiv (.bin .mod (.bin .mul (.var 2) (.lit (.int 48271))) (.lit (.int 2147483647))) (.lit (.int 16))),
  .for (.name 6) (.bi .range [(.var 3)]) [
    .ite (.or (.cmp .eq (.bin .mod (.var 5) (.lit (.int 3))) (.lit (.int 0))) (.and (.cmp .eq (.bin .add (.var 6) (.lit (.int 1))) (.var 3)) (.cmp .eq (.var 4) (.list [])))) [
      .expr (.meth .append (.var 4) [(.var 6)])] [],
    .assign (.name 5) (.bin .fdiv (.var 5) (.lit (.int 3)))],
  .assign (.name 7) (.call 30 [(.bin .mod (.call 25 [(.var 0), (.lit (.int 0))]) (.lit (.int 3))), (.slice (.var 0) (.lit (.int 4)) (.lit (.int 12))), (.var 3), (.var 1)]),
  .ite (.and (.cmp .eq (.bin .mod (.call 25 [(.var 0), (.lit (.int 0))]) (.lit (.int 6))) (.lit (.int 5))) (.cmp .ne (.var 7) (.list []))) [
    .assign (.name 8) (.meth .pop (.var 7) []),
    .expr (.meth .append (.var 7) [(.tup [(.sub (.var 8) (.lit (.int 0))), (.sub (.var 8) (.lit (.int 1))), (.sub (.var 1) (.bin .mod (.bin .fdiv (.call 25 [(.var 0), (.lit (.int 0))]) (.lit (.int 6))) (.lit (.int 4)))), (.sub (.var 8) (.lit (.int 3)))])])] [],
  .ite (.and (.cmp .eq (.bin .mod (.call 25 [(.var 0), (.lit (.int 0))]) (.lit (.int 12))) (.lit (.int 4))) (.cmp .ne (.var 7) (.list []))) [
    .expr (.meth .append (.var 7) [(.tup [(.sub (.sub (.var 7) (.neg (.lit (.int 1)))) (.lit (.int 0))), (.sub (.sub (.var 7) (.neg (.lit (.int 1)))) (.lit (.int 1))), (.lit (.str [])), (.bin .mod (.bin .add (.sub (.sub (.var 7) (.neg (.lit (.int 1)))) (.lit (.int 3))) (.lit (.int 1))) (.var 3))])]),
    .assign (.name 4) (.bi .list [(.bi .range [(.var 3)])])] [],
  .ret (some (.tup [(.var 3), (.bin .mod (.bin .fdiv (.var 2) (.lit (.int 4))) (.var 3)), (.var 4), (.var 7)]))]⟩
noncomputable def fn__law_walked : Fn := ⟨3, [
  .assign (.name 3) (.list [(.tup [(.sub (.var 0) (.lit (.int 1))), (.sub (.var 0) (.lit (.int 1))), (.lit (.str [])), (.lit (.str []))])]),
  .assign (.name 4) (.lit (.int 0)),
  .for (.name 5) (.bi .range [(.bin .add (.var 2) (.lit (.int 1)))]) [
    .assign (.tup [6, 7, 8, 9]) (.sub (.var 3) (.neg (.lit (.int 1)))),
    .ite (.and (.cmp .isIn (.var 6) (.sub (.var 0) (.lit (.int 2)))) (.cmp .isIn (.var 7) (.sub (.var 0) (.lit (.int 2))))) [
      .assign (.name 4) (.bi .len [(.var 3)])] [],
    .assign (.name 10) (.call 31 [(.sub (.var 0) (.lit (.int 3))), (.var 6), (.var 7)]),
    .ite (.cmp .eq (.var 10) (.list [])) [
      .ret (some (.slice (.var 3) (.lit .none) (.var 4)))] [],
    .assign (.name 11) (.sub (.var 10) (.bin .mod (.bin .mod (.bin .mul (.bin .add (.var 1) (.bin .mul (.bin .mul (.lit (.int 7919)) (.var 5)) (.var 5))) (.lit (.int 48271))) (.lit (.int 2147483647))) (.bi .len [(.var 10)]))),
    .expr (.meth .append (.var 3) [(.tup [(.sub (.var 11) (.lit (.int 0))), (.sub (.var 11) (.lit (.int 1))), (.bin .add (.var 8) (.sub (.var 11) (.lit (.int 2)))), (.bin .add (.var 9) (.sub (.var 11) (.lit (.int 3))))])])],
  .ret (some (.slice (.var 3) (.lit .none) (.var 4)))]⟩
noncomputable def fn__law_rests : Fn := ⟨2, [
  .ite (.cmp .eq (.slice (.var 0) (.lit .none) (.bi .len [(.var 1)])) (.var 1)) [
    .ret (some (.tup [(.slice (.var 0) (.bi .len [(.var 1)]) (.lit .none)), (.lit (.str []))]))] [],
  .ite (.cmp .eq (.slice (.var 1) (.lit .none) (.bi .len [(.var 0)])) (.var 0)) [
    .ret (some (.tup [(.lit (.str [])), (.slice (.var 1) (.bi .len [(.var 0)]) (.lit .none))]))] [],
  .ret (some (.lit .none))]⟩
noncomputable def fn__law_is_refused : Fn := ⟨1, [
  .ite (.call 1023 [(.var 0)]) [
    .ret (some (.lit (.bool true)))] [],
  .ret (some (.lit (.bool false)))]⟩
noncomputable def fn_law : Fn := ⟨1, [
  .assign (.name 1) (.call 27 [(.var 0)]),
  .assign (.name 2) (.call 40 [(.var 1), (.call 25 [(.var 0), (.lit (.int 1))]), (.bin .mod (.bin .fdiv (.call 25 [(.var 0), (.lit (.int 1))]) (.lit (.int 11))) (.lit (.int 61)))]),
  .ite (.cmp .eq (.var 2) (.list [])) [
    .ret (some (.cmp .eq (.cmp .isNot (.call 22 [(.var 1)]) (.lit .none)) (.call 38 [(.var 1)])))] [],
  .ite (.cmp .ne (.sub (.sub (.var 2) (.neg (.lit (.int 1)))) (.lit (.int 2))) (.sub (.sub (.var 2) (.neg (.lit (.int 1)))) (.lit (.int 3)))) [
    .ret (some (.and (.cmp .isNot (.call 22 [(.var 1)]) (.lit .none)) (.call 38 [(.var 1)])))] [],
  .ite (.cmp .isNot (.call 22 [(.var 1)]) (.lit .none)) [
    .ret (some (.call 38 [(.var 1)]))] [],
  .assign (.name 4) (.bi .dict [(.comp (.tup [(.tup [(.sub (.var 18) (.lit (.int 0))), (.sub (.var 18) (.lit (.int 1)))]), (.tup [(.sub (.var 18) (.lit (.int 2))), (.sub (.var 18) (.lit (.int 3)))])]) (.name 18) (.call 23 [(.var 1)]) none)]),
  .for (.tup [5, 6, 3, 7]) (.var 2) [
    .assign (.name 8) (.call 43 [(.var 3), (.var 7)]),
    .ite (.or (.cmp .is (.var 8) (.lit .none)) (.cmp .ne (.meth .get (.var 4) [(.tup [(.var 5), (.var 6)])]) (.var 8))) [
      .ret (some (.lit (.bool false)))] []],
  .ret (some (.lit (.bool true)))]⟩
end L11
end Tw
end

section
namespace Tw

section
variable {Φ : Nat → Option Fn} {d : Nat} {h : H} {Q : V → H → Prop}
/-- does ahead raise -/
theorem try_ok {v : V} {M : Ma} {K : Nat} (F : FnsP Φ) (h1023 : Φ 1023 = some fn_ahead_try) (hv : IsMa h v M) (ok : M.ok) (hK : ∀ x, (stps M.moves x).length ≤ K) (hB : M.n * M.n * K < 10000000) (h64 : M.n * M.n < 64)
    (qn : ∀ h' G, h <+: h' → Gone M (M.b, M.b) G → Q (.bool false) h') (qs : ∀ h' w, h <+: h' → Two M (M.b, M.b) h' w → Q (.bool true) h') : Calls Φ (d + 4) 1023 [v] h Q := by
  have mC := calls_mono (Φ := Φ) (d + 3)
  have hz := SZ_val
  refine ⟨fn_ahead_try, h1023, rfl, A_fn (A_calls mC (g := []) rfl trivial (through_ok F.h0 F.h1 F.h2 F.h12 F.h13 F.h14 F.h15 F.h16 F.h17 F.h18 F.h19 F.h20 F.h21 hv ok hK hB ?_ ?_))⟩
  · rintro h' k G p ⟨ver, hk⟩ gn hl
    refine ⟨_, rfl, rfl, A_if (g := []) rfl trivial (fun e => nomatch e) fun _ => A_then (A_expr mC (A_compE mC (A_bi (g := []) rfl trivial ?_)))⟩
    refine ⟨(G.map (·.x)).map pairV, .inl ⟨_, ver, hk, ?_⟩, by rw [List.length_map, List.length_map]; omega, .inr (.inr (.inl ⟨G.map (·.x), rfl, fun ks hp hs => ?_⟩))⟩
    · exact keys_map (k := fun g : GE => g.x) G
    have hlen := hp.length_eq
    rw [List.length_map] at hlen
    have g1 := get_last h' (.list (ks.map pairV))
    refine A_comp mC (goes_seq h'.length _) (l := ks) (f := pairV) (w := rowV G) (g := []) rfl trivial (it_list g1) g1 (by omega) (fun x hx => ?_) (A_ret (g := []) rfl trivial fun ρ => qn _ G ((p.trans (List.prefix_append _ _)).trans (List.prefix_append _ _)) gn)
    obtain ⟨g, hg, rfl⟩ := List.mem_map.mp (hp.mem_iff.mp hx)
    have hr : RdW (h' ++ [.list (ks.map pairV)]) (.ref k) (nv2 g.x) (.tup [.str g.l.1, .str g.l.2]) := rd_dict (get_app hk) rfl (dget_map (k := fun g : GE => g.x) (w := fun g => .tup [.str g.l.1, .str g.l.2]) gn.nd hg)
    unfold rowV
    rw [lagOf_at gn.nd hg]
    exact ⟨[.tup [.str g.l.1, .str g.l.2], .tup [.str g.l.1, .str g.l.2]], _, _, rfl, hr, hr, trivial⟩
  · rintro h' k w p t
    refine ⟨_, rfl, rfl, ?_⟩
    obtain ⟨_, _, _, _, _, _, _, _, e, _⟩ := t.ex
    have t := t
    subst e
    exact A_if (g := []) rfl trivial (fun _ => A_ret (g := []) rfl trivial fun ρ => qs _ _ p t) fun e => nomatch e
end
end Tw
end

section
namespace Tw
namespace L09
noncomputable def fn__law_texts : Fn := ⟨2, [
  .ite (.not (.isinst (.var 1) .list)) [
    .ret (some (.lit .none))] [],
  .assign (.name 2) (.sub (.var 0) (.lit (.int 1))),
  .assign (.name 3) (.lit (.str [])),
  .assign (.name 4) (.lit (.str [])),
  .for (.name 5) (.var 1) [
    .ite (.or (.not (.call 28 [(.var 5)])) (.or (.not (.cmp2 .le .lt (.lit (.int 0)) (.var 5) (.bi .len [(.sub (.var 0) (.lit (.int 3)))]))) (.cmp .ne (.sub (.sub (.sub (.var 0) (.lit (.int 3))) (.var 5)) (.lit (.int 0))) (.var 2)))) [
      .ret (some (.lit .none))] [],
    .assign (.name 2) (.sub (.sub (.sub (.var 0) (.lit (.int 3))) (.var 5)) (.lit (.int 3))),
    .assign (.name 3) (.bin .add (.var 3) (.sub (.sub (.sub (.var 0) (.lit (.int 3))) (.var 5)) (.lit (.int 1)))),
    .assign (.name 4) (.bin .add (.var 4) (.sub (.sub (.sub (.var 0) (.lit (.int 3))) (.var 5)) (.lit (.int 2))))],
  .ite (.cmp .notIn (.var 2) (.sub (.var 0) (.lit (.int 2)))) [
    .ret (some (.lit .none))] [],
  .ret (some (.tup [(.var 3), (.var 4)]))]⟩
noncomputable def fn__law_refused : Fn := ⟨1, [
  .ite (.call 1023 [(.var 0)]) [
    .ret (some (.lit (.bool true)))] [],
  .ret (some (.lit (.bool false)))]⟩
noncomputable def fn_law : Fn := ⟨1, [
  .assign (.name 1) (.call 27 [(.var 0)]),
  .assign (.name 2) (.tup [(.sub (.var 1) (.lit (.int 0))), (.sub (.var 1) (.lit (.int 1))), (.bi .list [(.sub (.var 1) (.lit (.int 2)))]), (.bi .list [(.sub (.var 1) (.lit (.int 3)))])]),
  .assign (.name 3) (.call 22 [(.var 2)]),
  .ite (.cmp .ne (.var 2) (.var 1)) [
    .ret (some (.lit (.bool false)))] [],
  .ite (.cmp .is (.var 3) (.lit .none)) [
    .ret (some (.and (.isinst (.call 23 [(.var 2)]) .list) (.cmp .eq (.var 2) (.var 1))))] [],
  .ite (.or (.not (.isinst (.var 3) .tuple)) (.or (.cmp .ne (.bi .len [(.var 3)]) (.lit (.int 3))) (.not (.isinst (.sub (.var 3) (.lit (.int 0))) .str)))) [
    .ret (some (.lit (.bool false)))] [],
  .assign (.name 4) (.call 35 [(.var 1), (.sub (.var 3) (.lit (.int 1)))]),
  .assign (.name 5) (.call 35 [(.var 1), (.sub (.var 3) (.lit (.int 2)))]),
  .ite (.or (.cmp .is (.var 4) (.lit .none)) (.or (.cmp .is (.var 5) (.lit .none)) (.or (.cmp .ne (.sub (.var 4) (.lit (.int 0))) (.sub (.var 3) (.lit (.int 0)))) (.or (.cmp .ne (.sub (.var 5) (.lit (.int 0))) (.sub (.var 3) (.lit (.int 0)))) (.cmp .eq (.sub (.var 4) (.lit (.int 1))) (.sub (.var 5) (.lit (.int 1)))))))) [
    .ret (some (.lit (.bool false)))] [],
  .ret (some (.and (.call 44 [(.var 2)]) (.cmp .eq (.var 2) (.var 1))))]⟩
end L09
end Tw
end

section
namespace Tw

/-! the two ways of a path of pairs -/
theorem pth_ways {M : Ma} {x y : N2} {p : List Stp} (h : Pth M.moves x p y) : ∀ {u w : List Nat}, Path M u x.1 → Path M w x.2 → Path M (u ++ p.filterMap (·.a)) y.1 ∧ Path M (w ++ p.filterMap (·.b)) y.2 := by
  induction h with
  | nil => intro u w hu hw; simpa using ⟨hu, hw⟩
  | @cons x y s p hs _ ih =>
    intro u w hu hw
    cases mem_stps.mp hs with
    | @one i m h1 h2 h3 =>
      have := ih (u := u ++ [i]) (w := w) (.snoc (h2 ▸ hu) h1) hw
      simpa using this
    | @both i j m n h1 h2 h3 h4 h5 h6 =>
      have := ih (u := u ++ [i]) (w := w ++ [j]) (.snoc (h2 ▸ hu) h1) (.snoc (h5 ▸ hw) h4)
      simpa using this
    | @two j n h1 h2 h3 =>
      have := ih (u := u) (w := w ++ [j]) hu (.snoc (h2 ▸ hw) h1)
      simpa using this
theorem rd_a (M : Ma) (p : List Stp) : rdOf M (p.filterMap (·.a)) = r1 M.moves p := by
  unfold rdOf r1
  induction p with
  | nil => rfl
  | cons s p ih =>
    obtain ⟨a, b, t⟩ := s
    cases a with
    | none => simpa [rdO] using ih
    | some i => simpa [rdO] using ih
theorem wr_a (M : Ma) (p : List Stp) : wrOf M (p.filterMap (·.a)) = w1 M.moves p := by
  unfold wrOf w1
  induction p with
  | nil => rfl
  | cons s p ih =>
    obtain ⟨a, b, t⟩ := s
    cases a with
    | none => simpa [wrO] using ih
    | some i => simpa [wrO] using ih
theorem wr_b (M : Ma) (p : List Stp) : wrOf M (p.filterMap (·.b)) = w2 M.moves p := by
  unfold wrOf w2
  induction p with
  | nil => rfl
  | cons s p ih =>
    obtain ⟨a, b, t⟩ := s
    cases b with
    | none => simpa [wrO] using ih
    | some i => simpa [wrO] using ih
theorem rd_b {M : Ma} {x y : N2} {p : List Stp} (h : Pth M.moves x p y) : rdOf M (p.filterMap (·.b)) = r1 M.moves p := by
  induction h with
  | nil => rfl
  | @cons x y s p hs _ ih =>
    unfold rdOf r1 at *
    cases mem_stps.mp hs with
    | @one i m h1 h2 h3 => simpa [rdO, h1, h3] using ih
    | @both i j m n h1 h2 h3 h4 h5 h6 => simpa [rdO, h1, h4, h6] using ih
    | @two j n h1 h2 h3 => simpa [rdO, h1, h3] using ih

noncomputable def txL (v : V) (r s : Nat) (a b : List Nat) : Env := [(0, v), (1, .ref r), (2, .int s), (3, .str a), (4, .str b)]
section
variable {Φ : Nat → Option Fn} {d : Nat} {h : H} {Q : V → H → Prop}
theorem texts9_ok {v : V} {M : Ma} {r s : Nat} {p : List Nat} (h28 : Φ 28 = some fn__law_whole) (h35 : Φ 35 = some L09.fn__law_texts) (hm : IsMa h v M) (ok : M.ok) (hr : h[r]? = some (.list (p.map natV))) (hp : Path M p s) (hs : s ∈ M.ends) (hl : p.length ≤ 100000)
    (q : Q (.tup [.str (rdOf M p), .str (wrOf M p)]) h) : Calls Φ (d + 2) 35 [v, .ref r] h Q := by
  obtain ⟨e, m, rfl, he, hmv⟩ := hm
  have mC := calls_mono (Φ := Φ) (d + 1)
  have hz := SZ_val
  have l1 := ok.l1
  refine ⟨L09.fn__law_texts, h35, rfl, A_fn (A_ifW mC fun ρ ag => ?_)⟩
  have r1' : ρ 1 = some (.ref r) := ag 1 _ rfl
  simp [e_lit, e_vk, vk_some, e_bin, e_neg, e_not, e_and, e_or, e_cmp, e_cmp2, e_sub, e_slice, e_tup, e_list, e_dict0, e_dict1, e_call, e_bi, e_isinst, e_meth, es_nil, es_cons, o_none, o_some, t_not, t_and, t_or, t_cmp, t_cmp2, t_lit, t_vk, t_call, t_isinst, t_meth, x_bn, x_bt, u_nil, u_cons, upd_eq, upd_ne, argsR, x_addi, x_adds, x_subi, x_muli, x_fdiv, x_mod, x_tb, x_tn, x_eqi, x_eqs, x_eqb, x_nei, x_nes, x_lt, x_le, x_gt, x_ge, x_isn, x_isnn, x_isb, x_isnb, x_st0, x_st1, x_st2, x_st3, x_ss, x_lens, x_lent, x_r1, x_lr, x_rj, x_iil, x_iib, x_iss, x_itt, x_inn, r1', x_ill hr]
  refine A_then (A_set (g := []) rfl trivial (A_set (g := []) rfl trivial (A_set (g := []) rfl trivial ?_)))
  refine A_for mC (goes_seq r (p.map natV)) (fun x : Nat × List Nat × List Nat => txL (.tup [.int M.n, .int M.b, .ref e, .ref m]) r x.1 x.2.1 x.2.2) (fun i x H => H = h ∧ Path M (p.take i) x.1 ∧ x.2.1 = rdOf M (p.take i) ∧ x.2.2 = wrOf M (p.take i)) (M.b, [], []) (by repeat (first | exact trivial | refine ⟨rfl, ?_⟩)) (A_ev (g := []) rfl trivial ⟨it_list hr, rfl, .nil, rfl, rfl⟩) (fun i x H y => by rw [y.1]; exact hr) ?_ ?_
  · rintro i v ⟨s', a, b⟩ H hv ⟨rfl, hp', ea, eb⟩
    obtain ⟨k, hk, rfl⟩ : ∃ k, p[i]? = some k ∧ natV k = v := by simpa using hv
    obtain ⟨x, hx, p1, p2⟩ := hp.get i k hk
    obtain rfl := hp'.fn p1
    dsimp only at ea eb
    have hkl := (List.getElem?_eq_some_iff.mp hx).1
    have hil := (List.getElem?_eq_some_iff.mp hk).1
    have rd : RdW H (.ref m) (.int k) x.v := rd_list hmv (by omega) (by rw [List.getElem?_map, hx]; rfl)
    have tk : p.take (i + 1) = p.take i ++ [k] := by rw [List.take_add_one, hk]; rfl
    have la : a.length ≤ i := by rw [ea]; exact Nat.le_trans (rd_len ok _) (by rw [List.length_take]; omega)
    have lb : b.length ≤ i := by rw [eb]; exact Nat.le_trans (wr_len ok _) (by rw [List.length_take]; omega)
    have ht := (ok.m1 x (List.mem_of_getElem? hx)).2.2.1
    have hg := (ok.m1 x (List.mem_of_getElem? hx)).2.2.2
    have key : ∀ (P : Bool → Tw.H → Prop), P false H → ∀ ρ, Ag ((5, natV k) :: txL (.tup [.int M.n, .int M.b, .ref e, .ref m]) r x.s a b) ρ → wpT (Calls Φ (d + 1)) (.or (.not (.call 28 [(.var 5)])) (.or (.not (.cmp2 .le .lt (.lit (.int 0)) (.var 5) (.bi .len [(.sub (.var 0) (.lit (.int 3)))]))) (.cmp .ne (.sub (.sub (.sub (.var 0) (.lit (.int 3))) (.var 5)) (.lit (.int 0))) (.var 2)))) ρ H P := fun P hP ρ ag => by
      have r0 : ρ 0 = some (.tup [.int M.n, .int M.b, .ref e, .ref m]) := ag 0 _ rfl
      have r2 : ρ 2 = some (.int x.s) := ag 2 _ rfl
      have r5 : ρ 5 = some (.int k) := ag 5 _ rfl
      simp [e_lit, e_vk, vk_some, e_bin, e_neg, e_not, e_and, e_or, e_cmp, e_cmp2, e_sub, e_slice, e_tup, e_list, e_dict0, e_dict1, e_call, e_bi, e_isinst, e_meth, es_nil, es_cons, o_none, o_some, t_not, t_and, t_or, t_cmp, t_cmp2, t_lit, t_vk, t_call, t_isinst, t_meth, x_bn, x_bt, u_nil, u_cons, upd_eq, upd_ne, argsR, x_addi, x_adds, x_subi, x_muli, x_fdiv, x_mod, x_tb, x_tn, x_eqi, x_eqs, x_eqb, x_nei, x_nes, x_lt, x_le, x_gt, x_ge, x_isn, x_isnn, x_isb, x_isnb, x_st0, x_st1, x_st2, x_st3, x_ss, x_lens, x_lent, x_r1, x_lr, x_rj, x_iil, x_iib, x_iss, x_itt, x_inn, natV, r5]
      refine whole_ok h28 ?_
      simp [e_lit, e_vk, vk_some, e_bin, e_neg, e_not, e_and, e_or, e_cmp, e_cmp2, e_sub, e_slice, e_tup, e_list, e_dict0, e_dict1, e_call, e_bi, e_isinst, e_meth, es_nil, es_cons, o_none, o_some, t_not, t_and, t_or, t_cmp, t_cmp2, t_lit, t_vk, t_call, t_isinst, t_meth, x_bn, x_bt, u_nil, u_cons, upd_eq, upd_ne, argsR, x_addi, x_adds, x_subi, x_muli, x_fdiv, x_mod, x_tb, x_tn, x_eqi, x_eqs, x_eqb, x_nei, x_nes, x_lt, x_le, x_gt, x_ge, x_isn, x_isnn, x_isb, x_isnb, x_st0, x_st1, x_st2, x_st3, x_ss, x_lens, x_lent, x_r1, x_lr, x_rj, x_iil, x_iib, x_iss, x_itt, x_inn, r0, r5, x_lenl hmv, hkl]
      refine x_sln hmv (by omega) (v := x.v) (by simp [hx]) ?_
      simp [e_lit, e_vk, vk_some, e_bin, e_neg, e_not, e_and, e_or, e_cmp, e_cmp2, e_sub, e_slice, e_tup, e_list, e_dict0, e_dict1, e_call, e_bi, e_isinst, e_meth, es_nil, es_cons, o_none, o_some, t_not, t_and, t_or, t_cmp, t_cmp2, t_lit, t_vk, t_call, t_isinst, t_meth, x_bn, x_bt, u_nil, u_cons, upd_eq, upd_ne, argsR, x_addi, x_adds, x_subi, x_muli, x_fdiv, x_mod, x_tb, x_tn, x_eqi, x_eqs, x_eqb, x_nei, x_nes, x_lt, x_le, x_gt, x_ge, x_isn, x_isnn, x_isb, x_isnb, x_st0, x_st1, x_st2, x_st3, x_ss, x_lens, x_lent, x_r1, x_lr, x_rj, x_iil, x_iib, x_iss, x_itt, x_inn, Mv.v, r2]
      exact hP
    refine A_skip mC fun ρ ag => key _ ⟨rfl, ?_⟩ ρ ag
    have g1 : a.length + x.t.length ≤ SZ := by omega
    have g2 : b.length + x.g.length ≤ SZ := by omega
    refine A_set (g := [x.v]) rfl ⟨rd, trivial⟩ ?_
    refine A_set (g := [x.v]) rfl ⟨rd, g1, trivial⟩ ?_
    refine A_set (g := [x.v]) rfl ⟨rd, g2, trivial⟩ ?_
    exact A_next (x.q, a ++ x.t, b ++ x.g) (by repeat (first | exact trivial | refine ⟨rfl, ?_⟩)) ⟨rfl, p2, by rw [tk, rd_snoc hx, ← ea], by rw [tk, wr_snoc hx, ← eb]⟩
  · rintro ⟨s', a, b⟩ H ⟨rfl, hp', ea, eb⟩
    rw [List.length_map, List.take_length] at hp' ea eb
    obtain rfl := hp'.fn hp
    dsimp only at ea eb
    refine A_if (g := [.bool false]) rfl ⟨?_, trivial⟩ (fun e => nomatch e) fun _ => A_then (A_ret (g := []) rfl trivial fun ρ => ?_)
    · intro P x
      exact x_inN (P := fun r => P (!r)) he (by simpa [hs] using x)
    · rw [ea, eb]; exact q
end
end Tw
end

section
namespace Tw
theorem A_tupE {C : Ora} {L : Env} {h : H} {es : List E} {Q : V → H → Prop} (x : AEs C L h es fun vs h1 => Q (.tup vs) h1) : AE C L h (.tup es) Q := fun ρ ag => by rw [e_tup]; exact x ρ ag
section
variable {Φ : Nat → Option Fn} {d : Nat} {h : H} {Q : V → H → Prop}
theorem refused9_ok {v : V} {M : Ma} {K : Nat} (F : FnsP Φ) (h1023 : Φ 1023 = some fn_ahead_try) (h44 : Φ 44 = some L09.fn__law_refused) (hv : IsMa h v M) (ok : M.ok) (hK : ∀ x, (stps M.moves x).length ≤ K) (hB : M.n * M.n * K < 10000000) (h64 : M.n * M.n < 64)
    (qn : ∀ h' G, h <+: h' → Gone M (M.b, M.b) G → Q (.bool false) h') (qs : ∀ h' w, h <+: h' → Two M (M.b, M.b) h' w → Q (.bool true) h') : Calls Φ (d + 5) 44 [v] h Q := by
  have mC := calls_mono (Φ := Φ) (d + 4)
  refine ⟨L09.fn__law_refused, h44, rfl, A_fn (A_ifW mC fun ρ ag => ?_)⟩
  rw [t_call, es_cons, e_vk, ag 0 _ rfl, vk_some, es_nil]
  refine try_ok F h1023 hv ok hK hB h64 (fun h' G p gn => ?_) fun h' w p t => ?_
  · rw [x_tb]; exact A_then (A_ret (g := []) rfl trivial fun ρ => qn h' G p gn)
  · rw [x_tb]; exact A_ret (g := []) rfl trivial fun ρ => qs h' w p t
theorem cm_ma {v w : V} {M : Ma} (hv : IsMa h v M) (hw : IsMa h w M) : CmW h .ne v w false := fun P x => by
  show EqW _ _ _ (fun r => P (!r))
  exact eq_mas hv hw x
theorem cm_mas {v w : V} {M : Ma} (hv : IsMa h v M) (hw : IsMa h w M) : CmW h .eq v w true := fun P x => by
  show EqW _ _ _ P
  exact eq_mas hv hw x
theorem law09 {xs : List Int} {sc : Nat} (F : FnsP Φ) (h23 : Φ 23 = some fn_ahead) (h1023 : Φ 1023 = some fn_ahead_try) (h24 : Φ 24 = some L09.fn_law) (h25 : Φ 25 = some fn__law_cell) (h26 : Φ 26 = some fn__law_signs) (h27 : Φ 27 = some L10.fn__law_machine) (h28 : Φ 28 = some fn__law_whole) (h30 : Φ 30 = some L10.fn__law_moves) (h33 : Φ 33 = some L10.fn__law_is_plain) (h35 : Φ 35 = some L09.fn__law_texts) (h44 : Φ 44 = some L09.fn__law_refused)
    (hx : h[sc]? = some (.frz (xs.map V.int))) (q : ∀ h', Q (.bool true) h') : Calls Φ (d + 6) 24 [.ref sc] h Q := by
  have mC := calls_mono (Φ := Φ) (d + 5)
  have hz := SZ_val
  refine ⟨L09.fn_law, h24, rfl, A_fn (A_call mC (g := []) rfl trivial (machine10_ok h25 h26 h27 h30 h33 hx fun v H1 M p1 mp => ?_))⟩
  obtain ⟨bd, b64⟩ := bnd4 mp.n4
  have ok := mp.ok
  have e8 := mp.e8
  have m9 := mp.m9
  obtain ⟨e, m, rfl, he, hmv⟩ := mp.is
  refine A_name mC (A_tupE (As_cons mC (A_ev (g := []) rfl trivial (As_cons mC (A_ev (g := []) rfl trivial (As_cons mC (A_bi (g := []) rfl trivial ?_)))))))
  rw [x_ll he]
  refine ⟨by rw [List.length_map]; omega, As_cons mC (A_bi (g := []) rfl trivial ?_)⟩
  rw [x_ll (get_app hmv)]
  refine ⟨by rw [List.length_map]; omega, As_nil ?_⟩
  have hM : IsMa (H1 ++ [MO.list (M.ends.map natV)] ++ [MO.list (M.moves.map Mv.v)]) (.tup [.int M.n, .int M.b, .ref e, .ref m]) M := ⟨e, m, rfl, get_app (get_app he), get_app (get_app hmv)⟩
  have hN : IsMa (H1 ++ [MO.list (M.ends.map natV)] ++ [MO.list (M.moves.map Mv.v)]) (.tup [.int M.n, .int M.b, .ref H1.length, .ref (H1 ++ [MO.list (M.ends.map natV)]).length]) M := ⟨_, _, rfl, get_app (get_last _ _), get_last _ _⟩
  generalize (H1 ++ [MO.list (M.ends.map natV)]).length = hm at hN ⊢
  generalize H1.length = hE at hN ⊢
  generalize H1 ++ [MO.list (M.ends.map natV)] ++ [MO.list (M.moves.map Mv.v)] = H2 at hM hN ⊢
  clear he hmv
  refine A_call mC (g := []) rfl trivial (twofold_ok F hN ok (len4 m9) bd (fun H3 G p3 gn _ => ?_) fun H3 w p3 two => ?_)
  · refine A_if (g := [.bool false]) rfl ⟨cm_ma (hN.pre p3) (hM.pre p3), trivial⟩ (fun e => nomatch e) fun _ => A_then (A_if (g := []) rfl trivial (fun _ => ?_) fun e => nomatch e)
    refine A_retE mC fun ρ ag => ?_
    rw [e_and, e_isinst, e_call, es_cons, e_vk, ag 2 _ rfl, vk_some, es_nil]
    refine ahead_ok F h23 (hN.pre p3) ok (len4 m9) bd b64 gn fun H5 rr G' ks p5 gn' hpm hs hrr => ?_
    rw [x_ill hrr, x_tb]
    show wpE _ _ _ _ _
    rw [e_cmp, e_vk, ag 2 _ rfl, vk_some, e_vk, ag 1 _ rfl, vk_some]
    refine cm_mas (hN.pre (p3.trans p5)) (hM.pre (p3.trans p5)) _ ?_
    exact fun ρ => q _
  · obtain ⟨p, y, u, w', hp, hy, hne, hl, rfl, hu, hw⟩ := two.ex
    have two := two
    obtain ⟨w1', w2'⟩ := pth_ways hp (u := []) (w := []) .nil .nil
    rw [List.nil_append] at w1' w2'
    have l1 : (p.filterMap (·.a)).length ≤ 100000 := Nat.le_trans (List.length_filterMap_le _ _) hl
    have l2 : (p.filterMap (·.b)).length ≤ 100000 := Nat.le_trans (List.length_filterMap_le _ _) hl
    refine A_if (g := [.bool false]) rfl ⟨cm_ma (hN.pre p3) (hM.pre p3), trivial⟩ (fun e => nomatch e) fun _ => A_then (A_if (g := []) rfl trivial (fun e => nomatch e) fun _ => A_then (A_if (g := []) rfl trivial (fun e => nomatch e) fun _ => A_then ?_))
    refine A_call mC (g := []) rfl trivial (texts9_ok h28 h35 (hM.pre p3) ok hu w1' hy.1 l1 ?_)
    refine A_call mC (g := []) rfl trivial (texts9_ok h28 h35 (hM.pre p3) ok hw w2' hy.2 l2 ?_)
    rw [rd_a, wr_a, rd_b hp, wr_b]
    refine A_if (g := []) rfl trivial (fun e => ?_) fun _ => A_then ?_
    · exfalso
      simp [isNoneB, hne] at e
    · refine A_retE mC fun ρ ag => ?_
      rw [e_and, e_call, es_cons, e_vk, ag 2 _ rfl, vk_some, es_nil]
      refine refused9_ok F h1023 h44 (hN.pre p3) ok (len4 m9) bd b64 (fun h' G p' gn => absurd two gn.no) fun h' w'' p' t => ?_
      rw [x_tb]
      show wpE _ _ _ _ _
      rw [e_cmp, e_vk, ag 2 _ rfl, vk_some, e_vk, ag 1 _ rfl, vk_some]
      refine cm_mas (hN.pre (p3.trans p')) (hM.pre (p3.trans p')) _ ?_
      exact fun ρ => q _
end
end Tw
end

open PySem PySem.W PyProof.Rows
set_option Elab.async false
namespace Tw
noncomputable def Φ09 : Nat → Option Fn := tabFn [(0, fn_need), (1, fn_checked), (2, fn_leaving), (12, fn_steps), (13, fn_led_from), (14, fn_rests), (15, fn_written), (16, fn_lag), (17, fn_path_to), (18, fn_path_on), (19, fn_shown), (20, fn_gone_through), (21, fn_unlike), (22, fn_twofold), (23, fn_ahead), (24, L09.fn_law), (25, fn__law_cell), (26, fn__law_signs), (27, L10.fn__law_machine), (28, fn__law_whole), (30, L10.fn__law_moves), (33, L10.fn__law_is_plain), (35, L09.fn__law_texts), (44, L09.fn__law_refused), (1023, fn_ahead_try)]
noncomputable def view09 : PySem.Program := { PySem.Challenge.pw_uf030022_09 with main := { PySem.Challenge.pw_uf030022_09.main with body := (PySem.Challenge.pw_uf030022_09.main.body.drop 1).take 4 ++ (PySem.Challenge.pw_uf030022_09.main.body.drop 6).take 5 ++ (PySem.Challenge.pw_uf030022_09.main.body.drop 12).take 12 ++ (PySem.Challenge.pw_uf030022_09.main.body.drop 25).take 9 } }
end Tw
theorem PySem.Challenge.cw_uf030022_09_holds : PySem.Challenge.rw_uf030022_09.Holds := by
  w_on
  refine holds_law (by decide +kernel) fun said => ?_
  refine holds_open (q := Tw.view09) (loose := []) (Xt := fun s => Tw.famB s.heap && recOk (RowW.records (OpenRow.toRowW _)) s) (XP := Tw.FamX) (Yf := Hook.obs Hook.none) (Ya := Hook.val Hook.none) (YP := Hook.says Hook.none) (N := 3406) ?hl (Hook.of Hook.none) (Hook.keeps Hook.none) (fun s e => Tw.fam_of (Bool.and_eq_true_iff.mp e).1) Tw.FamX.keeps (by rfl) (by rfl) (by rfl) (fun s e => recFacts_of (Bool.and_eq_true_iff.mp e).2) (by rfl) (by first | assumption | decide +kernel) (by decide +kernel) ⟨rfl, rfl, rfl, rfl, rfl, by decide +kernel⟩ ?hw ?hc
  case hl => intro w; kernel_rfl
  (case hw => w_witness2)
  refine (Tw.law_holds (D := 6) (kl := 24) (Φ := Tw.Φ09) (names := Tw.fnNames) rfl rfl (by decide) ?_ ?_ ?_ ?_ (fun _ _ x => x) ?_ ?_ (by decide) ?_ rfl ?_ (by decide) fun xs hxs => Tw.law09 (d := 0) ⟨rfl, rfl, rfl, rfl, rfl, rfl, rfl, rfl, rfl, rfl, rfl, rfl, rfl, rfl⟩ rfl rfl rfl rfl rfl rfl rfl rfl rfl rfl rfl rfl fun _ => rfl)
  · kernel_rfl
  · kernel_rfl
  · kernel_rfl
  · kernel_rfl
  · kernel_rfl
  · kernel_rfl
  · exact Tw.tab_all (Tw.all_cons (by kernel_rfl) (Tw.all_cons (by kernel_rfl) (Tw.all_cons (by kernel_rfl) (Tw.all_cons (by kernel_rfl) (Tw.all_cons (by kernel_rfl) (Tw.all_cons (by kernel_rfl) (Tw.all_cons (by kernel_rfl) (Tw.all_cons (by kernel_rfl) (Tw.all_cons (by kernel_rfl) (Tw.all_cons (by kernel_rfl) (Tw.all_cons (by kernel_rfl) (Tw.all_cons (by kernel_rfl) (Tw.all_cons (by kernel_rfl) (Tw.all_cons (by kernel_rfl) (Tw.all_cons (by kernel_rfl) (Tw.all_cons (by kernel_rfl) (Tw.all_cons (by kernel_rfl) (Tw.all_cons (by kernel_rfl) (Tw.all_cons (by kernel_rfl) (Tw.all_cons (by kernel_rfl) (Tw.all_cons (by kernel_rfl) (Tw.all_cons (by kernel_rfl) (Tw.all_cons (by kernel_rfl) (Tw.all_cons (by kernel_rfl) (Tw.all_cons (by kernel_rfl) (Tw.all_nil))))))))))))))))))))))))))
  · kernel_rfl

