import PyProof.Rows.All
import PyProof.Cells
import PyProof.CompFree
import PyProof.DictKinds
import PyProof.RangeIter
import PyProof.NeKinds
import PyProof.TupleKey
import PyProof.DictRoadsH
import PyProof.Rows.StrRules
import PyProof.Rows.TupSub
import PyProof.Rows.StrTemp
import PyProof.Rows.RuleB_mod
import PyProof.Rows.RuleB_floordiv
import PyProof.Rows.RuleB_mul
import PyProof.Rows.Lst
import PyProof.ListOps
import PyProof.TupleOps
import PyProof.ListMulRoad
import PyProof.ListIndexNeg
import PyProof.SliceMore
import PyProof.SliceStr2
import PyProof.PureInt
import PyProof.DictIter
import PyProof.RangeFor
import PyProof.TupleIter
import PyProof.IsiHeapPairs
import PyProof.IsiPairs
import PyProof.IsiNone
import PyProof.ListCopy
import PyProof.ListRange
import PyProof.Rows.StrJoin2
import PyProof.Rows.Range3
import PyProof.DictWalks
import PyProof.CollectWalk
import PyProof.Rows.SortShell
import PyProof.DictUpdate
import PyProof.ListNew
import PyProof.AttrMissHeap
import PyProof.Rows.SeqRoads
import PyProof.MeetsDictList
import PyProof.StrCalls
import PyProof.StrLaws
import KE.KSortTup
import PyProof.Rows.SortShellK
import KE.KSortAsk
import PyProof.Rows.SortStr
import PyProof.Rows.SortWalk
import PyProof.WalkInts
import PyProof.MeetsSeq
import PyProof.Conv_int_bool
import PyProof.MakeMany
import PyProof.DictDisplay
import PyProof.Methods
import PyProof.CallRoads
import PyProof.Rows.OwnQ
import PyProof.StationsW
import PyProof.RulesDelMore
import PyProof.RulesAssignMore
import PyProof.RulesMatch
import PyProof.WalksMore
import PyProof.Raises
import PyProof.CompUse
import PyProof.ForAny
import PyProof.Rows.PlainStore
import PyProof.ExcBaseAll.ValueError
import PyProof.Rows.CatchBare
import PyProof.ExcAttrAll.ValueError
import PyProof.IsiBase
import PyProof.IsInstance
import PyProof.NsDelKeeps
import Wide.All
import Open.Line
import PySem.Challenge.RW_uf030022_05
set_option Elab.async false
set_option autoImplicit false
set_option maxRecDepth 100000
set_option maxHeartbeats 8000000
set_option linter.all false
set_option genSizeOf false
section
namespace Tw
noncomputable def qA := Nat.Internal.Linear.Expr.add
noncomputable def qM := Nat.Internal.Linear.Expr.mulL
noncomputable def qR := Nat.Internal.Linear.Expr.mulR
noncomputable def qv0 := Nat.Internal.Linear.Expr.var 0
noncomputable def qv1 := Nat.Internal.Linear.Expr.var 1
noncomputable def qv2 := Nat.Internal.Linear.Expr.var 2
noncomputable def qv3 := Nat.Internal.Linear.Expr.var 3
noncomputable def qv4 := Nat.Internal.Linear.Expr.var 4
noncomputable def qv5 := Nat.Internal.Linear.Expr.var 5
noncomputable def qv6 := Nat.Internal.Linear.Expr.var 6
noncomputable def qv7 := Nat.Internal.Linear.Expr.var 7
noncomputable def qv8 := Nat.Internal.Linear.Expr.var 8
noncomputable def qv9 := Nat.Internal.Linear.Expr.var 9
noncomputable def qv10 := Nat.Internal.Linear.Expr.var 10
noncomputable def qv11 := Nat.Internal.Linear.Expr.var 11
noncomputable def qs0 := Nat.Internal.Linear.Expr.add (.var 0) (.num 1)
noncomputable def qs1 := Nat.Internal.Linear.Expr.add (.var 1) (.num 1)
noncomputable def qs2 := Nat.Internal.Linear.Expr.add (.var 2) (.num 1)
noncomputable def qs3 := Nat.Internal.Linear.Expr.add (.var 3) (.num 1)
noncomputable def qs4 := Nat.Internal.Linear.Expr.add (.var 4) (.num 1)
noncomputable def qs5 := Nat.Internal.Linear.Expr.add (.var 5) (.num 1)
noncomputable def qs6 := Nat.Internal.Linear.Expr.add (.var 6) (.num 1)
noncomputable def qs7 := Nat.Internal.Linear.Expr.add (.var 7) (.num 1)
noncomputable def qs8 := Nat.Internal.Linear.Expr.add (.var 8) (.num 1)
noncomputable def qs9 := Nat.Internal.Linear.Expr.add (.var 9) (.num 1)
noncomputable def qs10 := Nat.Internal.Linear.Expr.add (.var 10) (.num 1)
noncomputable def qs11 := Nat.Internal.Linear.Expr.add (.var 11) (.num 1)
noncomputable def qk0 := Nat.Internal.Linear.Expr.num 0
noncomputable def qk1 := Nat.Internal.Linear.Expr.num 1
noncomputable def qk2 := Nat.Internal.Linear.Expr.num 2
noncomputable def qk3 := Nat.Internal.Linear.Expr.num 3
noncomputable def qk4 := Nat.Internal.Linear.Expr.num 4
noncomputable def qN := Nat.Internal.Linear.Expr.num
noncomputable def qc1 {x0 : Nat} : Nat.Internal.Linear.Context := .leaf x0
noncomputable def qc2 {x0 x1 : Nat} : Nat.Internal.Linear.Context := .branch 1 (.leaf x0) (.leaf x1)
noncomputable def qc3 {x0 x1 x2 : Nat} : Nat.Internal.Linear.Context := .branch 1 (.leaf x0) (.branch 2 (.leaf x1) (.leaf x2))
noncomputable def qc4 {x0 x1 x2 x3 : Nat} : Nat.Internal.Linear.Context := .branch 1 (.leaf x0) (.branch 2 (.leaf x1) (.branch 3 (.leaf x2) (.leaf x3)))
noncomputable def qc5 {x0 x1 x2 x3 x4 : Nat} : Nat.Internal.Linear.Context := .branch 1 (.leaf x0) (.branch 2 (.leaf x1) (.branch 3 (.leaf x2) (.branch 4 (.leaf x3) (.leaf x4))))
noncomputable def qc6 {x0 x1 x2 x3 x4 x5 : Nat} : Nat.Internal.Linear.Context := .branch 1 (.leaf x0) (.branch 2 (.leaf x1) (.branch 3 (.leaf x2) (.branch 4 (.leaf x3) (.branch 5 (.leaf x4) (.leaf x5)))))
noncomputable def qc7 {x0 x1 x2 x3 x4 x5 x6 : Nat} : Nat.Internal.Linear.Context := .branch 1 (.leaf x0) (.branch 2 (.leaf x1) (.branch 3 (.leaf x2) (.branch 4 (.leaf x3) (.branch 5 (.leaf x4) (.branch 6 (.leaf x5) (.leaf x6))))))
noncomputable def qc8 {x0 x1 x2 x3 x4 x5 x6 x7 : Nat} : Nat.Internal.Linear.Context := .branch 1 (.leaf x0) (.branch 2 (.leaf x1) (.branch 3 (.leaf x2) (.branch 4 (.leaf x3) (.branch 5 (.leaf x4) (.branch 6 (.leaf x5) (.branch 7 (.leaf x6) (.leaf x7)))))))
noncomputable def qc9 {x0 x1 x2 x3 x4 x5 x6 x7 x8 : Nat} : Nat.Internal.Linear.Context := .branch 1 (.leaf x0) (.branch 2 (.leaf x1) (.branch 3 (.leaf x2) (.branch 4 (.leaf x3) (.branch 5 (.leaf x4) (.branch 6 (.leaf x5) (.branch 7 (.leaf x6) (.branch 8 (.leaf x7) (.leaf x8))))))))
noncomputable def qc10 {x0 x1 x2 x3 x4 x5 x6 x7 x8 x9 : Nat} : Nat.Internal.Linear.Context := .branch 1 (.leaf x0) (.branch 2 (.leaf x1) (.branch 3 (.leaf x2) (.branch 4 (.leaf x3) (.branch 5 (.leaf x4) (.branch 6 (.leaf x5) (.branch 7 (.leaf x6) (.branch 8 (.leaf x7) (.branch 9 (.leaf x8) (.leaf x9)))))))))
noncomputable def qc11 {x0 x1 x2 x3 x4 x5 x6 x7 x8 x9 x10 : Nat} : Nat.Internal.Linear.Context := .branch 1 (.leaf x0) (.branch 2 (.leaf x1) (.branch 3 (.leaf x2) (.branch 4 (.leaf x3) (.branch 5 (.leaf x4) (.branch 6 (.leaf x5) (.branch 7 (.leaf x6) (.branch 8 (.leaf x7) (.branch 9 (.leaf x8) (.branch 10 (.leaf x9) (.leaf x10))))))))))
noncomputable def qc12 {x0 x1 x2 x3 x4 x5 x6 x7 x8 x9 x10 x11 : Nat} : Nat.Internal.Linear.Context := .branch 1 (.leaf x0) (.branch 2 (.leaf x1) (.branch 3 (.leaf x2) (.branch 4 (.leaf x3) (.branch 5 (.leaf x4) (.branch 6 (.leaf x5) (.branch 7 (.leaf x6) (.branch 8 (.leaf x7) (.branch 9 (.leaf x8) (.branch 10 (.leaf x9) (.branch 11 (.leaf x10) (.leaf x11)))))))))))
noncomputable def qV (l r : Nat.Internal.Linear.Expr) : Bool := (Nat.Internal.Linear.ExprCnstr.mk false l r).toNormPoly.isValid
theorem qz (c : Nat.Internal.Linear.Context) (l r L R : Nat.Internal.Linear.Expr) (h : qV (.add l R) (.add r L) = true) (H : L.denote c ≤ R.denote c) : l.denote c ≤ r.denote c :=
  Nat.le_of_add_le_add_right (Nat.le_trans (of_eq_true (Nat.Internal.Linear.ExprCnstr.eq_true_of_isValid c _ h)) (Nat.add_le_add_left H (r.denote c)))
theorem qp1 (c : Nat.Internal.Linear.Context) (l r a1 b1 : Nat.Internal.Linear.Expr) (h : qV (.add l b1) (.add r a1) = true) (h1 : a1.denote c ≤ b1.denote c) : l.denote c ≤ r.denote c :=
  qz c l r a1 b1 h h1
theorem qf1 (c : Nat.Internal.Linear.Context) (a1 b1 : Nat.Internal.Linear.Expr) (h : qV (.add (.num 1) b1) (.add (.num 0) a1) = true) (h1 : a1.denote c ≤ b1.denote c) {p : Prop} : p :=
  absurd (qz c (.num 1) (.num 0) a1 b1 h h1) (Nat.not_succ_le_zero 0)
theorem qp2 (c : Nat.Internal.Linear.Context) (l r a1 b1 a2 b2 : Nat.Internal.Linear.Expr) (h : qV (.add l (.add b1 b2)) (.add r (.add a1 a2)) = true) (h1 : a1.denote c ≤ b1.denote c) (h2 : a2.denote c ≤ b2.denote c) : l.denote c ≤ r.denote c :=
  qz c l r (.add a1 a2) (.add b1 b2) h (Nat.add_le_add h1 h2)
theorem qf2 (c : Nat.Internal.Linear.Context) (a1 b1 a2 b2 : Nat.Internal.Linear.Expr) (h : qV (.add (.num 1) (.add b1 b2)) (.add (.num 0) (.add a1 a2)) = true) (h1 : a1.denote c ≤ b1.denote c) (h2 : a2.denote c ≤ b2.denote c) {p : Prop} : p :=
  absurd (qz c (.num 1) (.num 0) (.add a1 a2) (.add b1 b2) h (Nat.add_le_add h1 h2)) (Nat.not_succ_le_zero 0)
theorem qp3 (c : Nat.Internal.Linear.Context) (l r a1 b1 a2 b2 a3 b3 : Nat.Internal.Linear.Expr) (h : qV (.add l (.add (.add b1 b2) b3)) (.add r (.add (.add a1 a2) a3)) = true) (h1 : a1.denote c ≤ b1.denote c) (h2 : a2.denote c ≤ b2.denote c) (h3 : a3.denote c ≤ b3.denote c) : l.denote c ≤ r.denote c :=
  qz c l r (.add (.add a1 a2) a3) (.add (.add b1 b2) b3) h (Nat.add_le_add (Nat.add_le_add h1 h2) h3)
theorem qf3 (c : Nat.Internal.Linear.Context) (a1 b1 a2 b2 a3 b3 : Nat.Internal.Linear.Expr) (h : qV (.add (.num 1) (.add (.add b1 b2) b3)) (.add (.num 0) (.add (.add a1 a2) a3)) = true) (h1 : a1.denote c ≤ b1.denote c) (h2 : a2.denote c ≤ b2.denote c) (h3 : a3.denote c ≤ b3.denote c) {p : Prop} : p :=
  absurd (qz c (.num 1) (.num 0) (.add (.add a1 a2) a3) (.add (.add b1 b2) b3) h (Nat.add_le_add (Nat.add_le_add h1 h2) h3)) (Nat.not_succ_le_zero 0)
theorem qp4 (c : Nat.Internal.Linear.Context) (l r a1 b1 a2 b2 a3 b3 a4 b4 : Nat.Internal.Linear.Expr) (h : qV (.add l (.add (.add (.add b1 b2) b3) b4)) (.add r (.add (.add (.add a1 a2) a3) a4)) = true) (h1 : a1.denote c ≤ b1.denote c) (h2 : a2.denote c ≤ b2.denote c) (h3 : a3.denote c ≤ b3.denote c) (h4 : a4.denote c ≤ b4.denote c) : l.denote c ≤ r.denote c :=
  qz c l r (.add (.add (.add a1 a2) a3) a4) (.add (.add (.add b1 b2) b3) b4) h (Nat.add_le_add (Nat.add_le_add (Nat.add_le_add h1 h2) h3) h4)
theorem qf4 (c : Nat.Internal.Linear.Context) (a1 b1 a2 b2 a3 b3 a4 b4 : Nat.Internal.Linear.Expr) (h : qV (.add (.num 1) (.add (.add (.add b1 b2) b3) b4)) (.add (.num 0) (.add (.add (.add a1 a2) a3) a4)) = true) (h1 : a1.denote c ≤ b1.denote c) (h2 : a2.denote c ≤ b2.denote c) (h3 : a3.denote c ≤ b3.denote c) (h4 : a4.denote c ≤ b4.denote c) {p : Prop} : p :=
  absurd (qz c (.num 1) (.num 0) (.add (.add (.add a1 a2) a3) a4) (.add (.add (.add b1 b2) b3) b4) h (Nat.add_le_add (Nat.add_le_add (Nat.add_le_add h1 h2) h3) h4)) (Nat.not_succ_le_zero 0)
theorem qp5 (c : Nat.Internal.Linear.Context) (l r a1 b1 a2 b2 a3 b3 a4 b4 a5 b5 : Nat.Internal.Linear.Expr) (h : qV (.add l (.add (.add (.add (.add b1 b2) b3) b4) b5)) (.add r (.add (.add (.add (.add a1 a2) a3) a4) a5)) = true) (h1 : a1.denote c ≤ b1.denote c) (h2 : a2.denote c ≤ b2.denote c) (h3 : a3.denote c ≤ b3.denote c) (h4 : a4.denote c ≤ b4.denote c) (h5 : a5.denote c ≤ b5.denote c) : l.denote c ≤ r.denote c :=
  qz c l r (.add (.add (.add (.add a1 a2) a3) a4) a5) (.add (.add (.add (.add b1 b2) b3) b4) b5) h (Nat.add_le_add (Nat.add_le_add (Nat.add_le_add (Nat.add_le_add h1 h2) h3) h4) h5)
theorem qf5 (c : Nat.Internal.Linear.Context) (a1 b1 a2 b2 a3 b3 a4 b4 a5 b5 : Nat.Internal.Linear.Expr) (h : qV (.add (.num 1) (.add (.add (.add (.add b1 b2) b3) b4) b5)) (.add (.num 0) (.add (.add (.add (.add a1 a2) a3) a4) a5)) = true) (h1 : a1.denote c ≤ b1.denote c) (h2 : a2.denote c ≤ b2.denote c) (h3 : a3.denote c ≤ b3.denote c) (h4 : a4.denote c ≤ b4.denote c) (h5 : a5.denote c ≤ b5.denote c) {p : Prop} : p :=
  absurd (qz c (.num 1) (.num 0) (.add (.add (.add (.add a1 a2) a3) a4) a5) (.add (.add (.add (.add b1 b2) b3) b4) b5) h (Nat.add_le_add (Nat.add_le_add (Nat.add_le_add (Nat.add_le_add h1 h2) h3) h4) h5)) (Nat.not_succ_le_zero 0)
theorem qp6 (c : Nat.Internal.Linear.Context) (l r a1 b1 a2 b2 a3 b3 a4 b4 a5 b5 a6 b6 : Nat.Internal.Linear.Expr) (h : qV (.add l (.add (.add (.add (.add (.add b1 b2) b3) b4) b5) b6)) (.add r (.add (.add (.add (.add (.add a1 a2) a3) a4) a5) a6)) = true) (h1 : a1.denote c ≤ b1.denote c) (h2 : a2.denote c ≤ b2.denote c) (h3 : a3.denote c ≤ b3.denote c) (h4 : a4.denote c ≤ b4.denote c) (h5 : a5.denote c ≤ b5.denote c) (h6 : a6.denote c ≤ b6.denote c) : l.denote c ≤ r.denote c :=
  qz c l r (.add (.add (.add (.add (.add a1 a2) a3) a4) a5) a6) (.add (.add (.add (.add (.add b1 b2) b3) b4) b5) b6) h (Nat.add_le_add (Nat.add_le_add (Nat.add_le_add (Nat.add_le_add (Nat.add_le_add h1 h2) h3) h4) h5) h6)
theorem qf6 (c : Nat.Internal.Linear.Context) (a1 b1 a2 b2 a3 b3 a4 b4 a5 b5 a6 b6 : Nat.Internal.Linear.Expr) (h : qV (.add (.num 1) (.add (.add (.add (.add (.add b1 b2) b3) b4) b5) b6)) (.add (.num 0) (.add (.add (.add (.add (.add a1 a2) a3) a4) a5) a6)) = true) (h1 : a1.denote c ≤ b1.denote c) (h2 : a2.denote c ≤ b2.denote c) (h3 : a3.denote c ≤ b3.denote c) (h4 : a4.denote c ≤ b4.denote c) (h5 : a5.denote c ≤ b5.denote c) (h6 : a6.denote c ≤ b6.denote c) {p : Prop} : p :=
  absurd (qz c (.num 1) (.num 0) (.add (.add (.add (.add (.add a1 a2) a3) a4) a5) a6) (.add (.add (.add (.add (.add b1 b2) b3) b4) b5) b6) h (Nat.add_le_add (Nat.add_le_add (Nat.add_le_add (Nat.add_le_add (Nat.add_le_add h1 h2) h3) h4) h5) h6)) (Nat.not_succ_le_zero 0)
theorem qp7 (c : Nat.Internal.Linear.Context) (l r a1 b1 a2 b2 a3 b3 a4 b4 a5 b5 a6 b6 a7 b7 : Nat.Internal.Linear.Expr) (h : qV (.add l (.add (.add (.add (.add (.add (.add b1 b2) b3) b4) b5) b6) b7)) (.add r (.add (.add (.add (.add (.add (.add a1 a2) a3) a4) a5) a6) a7)) = true) (h1 : a1.denote c ≤ b1.denote c) (h2 : a2.denote c ≤ b2.denote c) (h3 : a3.denote c ≤ b3.denote c) (h4 : a4.denote c ≤ b4.denote c) (h5 : a5.denote c ≤ b5.denote c) (h6 : a6.denote c ≤ b6.denote c) (h7 : a7.denote c ≤ b7.denote c) : l.denote c ≤ r.denote c :=
  qz c l r (.add (.add (.add (.add (.add (.add a1 a2) a3) a4) a5) a6) a7) (.add (.add (.add (.add (.add (.add b1 b2) b3) b4) b5) b6) b7) h (Nat.add_le_add (Nat.add_le_add (Nat.add_le_add (Nat.add_le_add (Nat.add_le_add (Nat.add_le_add h1 h2) h3) h4) h5) h6) h7)
theorem qf7 (c : Nat.Internal.Linear.Context) (a1 b1 a2 b2 a3 b3 a4 b4 a5 b5 a6 b6 a7 b7 : Nat.Internal.Linear.Expr) (h : qV (.add (.num 1) (.add (.add (.add (.add (.add (.add b1 b2) b3) b4) b5) b6) b7)) (.add (.num 0) (.add (.add (.add (.add (.add (.add a1 a2) a3) a4) a5) a6) a7)) = true) (h1 : a1.denote c ≤ b1.denote c) (h2 : a2.denote c ≤ b2.denote c) (h3 : a3.denote c ≤ b3.denote c) (h4 : a4.denote c ≤ b4.denote c) (h5 : a5.denote c ≤ b5.denote c) (h6 : a6.denote c ≤ b6.denote c) (h7 : a7.denote c ≤ b7.denote c) {p : Prop} : p :=
  absurd (qz c (.num 1) (.num 0) (.add (.add (.add (.add (.add (.add a1 a2) a3) a4) a5) a6) a7) (.add (.add (.add (.add (.add (.add b1 b2) b3) b4) b5) b6) b7) h (Nat.add_le_add (Nat.add_le_add (Nat.add_le_add (Nat.add_le_add (Nat.add_le_add (Nat.add_le_add h1 h2) h3) h4) h5) h6) h7)) (Nat.not_succ_le_zero 0)
theorem qp8 (c : Nat.Internal.Linear.Context) (l r a1 b1 a2 b2 a3 b3 a4 b4 a5 b5 a6 b6 a7 b7 a8 b8 : Nat.Internal.Linear.Expr) (h : qV (.add l (.add (.add (.add (.add (.add (.add (.add b1 b2) b3) b4) b5) b6) b7) b8)) (.add r (.add (.add (.add (.add (.add (.add (.add a1 a2) a3) a4) a5) a6) a7) a8)) = true) (h1 : a1.denote c ≤ b1.denote c) (h2 : a2.denote c ≤ b2.denote c) (h3 : a3.denote c ≤ b3.denote c) (h4 : a4.denote c ≤ b4.denote c) (h5 : a5.denote c ≤ b5.denote c) (h6 : a6.denote c ≤ b6.denote c) (h7 : a7.denote c ≤ b7.denote c) (h8 : a8.denote c ≤ b8.denote c) : l.denote c ≤ r.denote c :=
  qz c l r (.add (.add (.add (.add (.add (.add (.add a1 a2) a3) a4) a5) a6) a7) a8) (.add (.add (.add (.add (.add (.add (.add b1 b2) b3) b4) b5) b6) b7) b8) h (Nat.add_le_add (Nat.add_le_add (Nat.add_le_add (Nat.add_le_add (Nat.add_le_add (Nat.add_le_add (Nat.add_le_add h1 h2) h3) h4) h5) h6) h7) h8)
theorem qf8 (c : Nat.Internal.Linear.Context) (a1 b1 a2 b2 a3 b3 a4 b4 a5 b5 a6 b6 a7 b7 a8 b8 : Nat.Internal.Linear.Expr) (h : qV (.add (.num 1) (.add (.add (.add (.add (.add (.add (.add b1 b2) b3) b4) b5) b6) b7) b8)) (.add (.num 0) (.add (.add (.add (.add (.add (.add (.add a1 a2) a3) a4) a5) a6) a7) a8)) = true) (h1 : a1.denote c ≤ b1.denote c) (h2 : a2.denote c ≤ b2.denote c) (h3 : a3.denote c ≤ b3.denote c) (h4 : a4.denote c ≤ b4.denote c) (h5 : a5.denote c ≤ b5.denote c) (h6 : a6.denote c ≤ b6.denote c) (h7 : a7.denote c ≤ b7.denote c) (h8 : a8.denote c ≤ b8.denote c) {p : Prop} : p :=
  absurd (qz c (.num 1) (.num 0) (.add (.add (.add (.add (.add (.add (.add a1 a2) a3) a4) a5) a6) a7) a8) (.add (.add (.add (.add (.add (.add (.add b1 b2) b3) b4) b5) b6) b7) b8) h (Nat.add_le_add (Nat.add_le_add (Nat.add_le_add (Nat.add_le_add (Nat.add_le_add (Nat.add_le_add (Nat.add_le_add h1 h2) h3) h4) h5) h6) h7) h8)) (Nat.not_succ_le_zero 0)
theorem qp9 (c : Nat.Internal.Linear.Context) (l r a1 b1 a2 b2 a3 b3 a4 b4 a5 b5 a6 b6 a7 b7 a8 b8 a9 b9 : Nat.Internal.Linear.Expr) (h : qV (.add l (.add (.add (.add (.add (.add (.add (.add (.add b1 b2) b3) b4) b5) b6) b7) b8) b9)) (.add r (.add (.add (.add (.add (.add (.add (.add (.add a1 a2) a3) a4) a5) a6) a7) a8) a9)) = true) (h1 : a1.denote c ≤ b1.denote c) (h2 : a2.denote c ≤ b2.denote c) (h3 : a3.denote c ≤ b3.denote c) (h4 : a4.denote c ≤ b4.denote c) (h5 : a5.denote c ≤ b5.denote c) (h6 : a6.denote c ≤ b6.denote c) (h7 : a7.denote c ≤ b7.denote c) (h8 : a8.denote c ≤ b8.denote c) (h9 : a9.denote c ≤ b9.denote c) : l.denote c ≤ r.denote c :=
  qz c l r (.add (.add (.add (.add (.add (.add (.add (.add a1 a2) a3) a4) a5) a6) a7) a8) a9) (.add (.add (.add (.add (.add (.add (.add (.add b1 b2) b3) b4) b5) b6) b7) b8) b9) h (Nat.add_le_add (Nat.add_le_add (Nat.add_le_add (Nat.add_le_add (Nat.add_le_add (Nat.add_le_add (Nat.add_le_add (Nat.add_le_add h1 h2) h3) h4) h5) h6) h7) h8) h9)
theorem qf9 (c : Nat.Internal.Linear.Context) (a1 b1 a2 b2 a3 b3 a4 b4 a5 b5 a6 b6 a7 b7 a8 b8 a9 b9 : Nat.Internal.Linear.Expr) (h : qV (.add (.num 1) (.add (.add (.add (.add (.add (.add (.add (.add b1 b2) b3) b4) b5) b6) b7) b8) b9)) (.add (.num 0) (.add (.add (.add (.add (.add (.add (.add (.add a1 a2) a3) a4) a5) a6) a7) a8) a9)) = true) (h1 : a1.denote c ≤ b1.denote c) (h2 : a2.denote c ≤ b2.denote c) (h3 : a3.denote c ≤ b3.denote c) (h4 : a4.denote c ≤ b4.denote c) (h5 : a5.denote c ≤ b5.denote c) (h6 : a6.denote c ≤ b6.denote c) (h7 : a7.denote c ≤ b7.denote c) (h8 : a8.denote c ≤ b8.denote c) (h9 : a9.denote c ≤ b9.denote c) {p : Prop} : p :=
  absurd (qz c (.num 1) (.num 0) (.add (.add (.add (.add (.add (.add (.add (.add a1 a2) a3) a4) a5) a6) a7) a8) a9) (.add (.add (.add (.add (.add (.add (.add (.add b1 b2) b3) b4) b5) b6) b7) b8) b9) h (Nat.add_le_add (Nat.add_le_add (Nat.add_le_add (Nat.add_le_add (Nat.add_le_add (Nat.add_le_add (Nat.add_le_add (Nat.add_le_add h1 h2) h3) h4) h5) h6) h7) h8) h9)) (Nat.not_succ_le_zero 0)
theorem qp10 (c : Nat.Internal.Linear.Context) (l r a1 b1 a2 b2 a3 b3 a4 b4 a5 b5 a6 b6 a7 b7 a8 b8 a9 b9 a10 b10 : Nat.Internal.Linear.Expr) (h : qV (.add l (.add (.add (.add (.add (.add (.add (.add (.add (.add b1 b2) b3) b4) b5) b6) b7) b8) b9) b10)) (.add r (.add (.add (.add (.add (.add (.add (.add (.add (.add a1 a2) a3) a4) a5) a6) a7) a8) a9) a10)) = true) (h1 : a1.denote c ≤ b1.denote c) (h2 : a2.denote c ≤ b2.denote c) (h3 : a3.denote c ≤ b3.denote c) (h4 : a4.denote c ≤ b4.denote c) (h5 : a5.denote c ≤ b5.denote c) (h6 : a6.denote c ≤ b6.denote c) (h7 : a7.denote c ≤ b7.denote c) (h8 : a8.denote c ≤ b8.denote c) (h9 : a9.denote c ≤ b9.denote c) (h10 : a10.denote c ≤ b10.denote c) : l.denote c ≤ r.denote c :=
  qz c l r (.add (.add (.add (.add (.add (.add (.add (.add (.add a1 a2) a3) a4) a5) a6) a7) a8) a9) a10) (.add (.add (.add (.add (.add (.add (.add (.add (.add b1 b2) b3) b4) b5) b6) b7) b8) b9) b10) h (Nat.add_le_add (Nat.add_le_add (Nat.add_le_add (Nat.add_le_add (Nat.add_le_add (Nat.add_le_add (Nat.add_le_add (Nat.add_le_add (Nat.add_le_add h1 h2) h3) h4) h5) h6) h7) h8) h9) h10)
theorem qf10 (c : Nat.Internal.Linear.Context) (a1 b1 a2 b2 a3 b3 a4 b4 a5 b5 a6 b6 a7 b7 a8 b8 a9 b9 a10 b10 : Nat.Internal.Linear.Expr) (h : qV (.add (.num 1) (.add (.add (.add (.add (.add (.add (.add (.add (.add b1 b2) b3) b4) b5) b6) b7) b8) b9) b10)) (.add (.num 0) (.add (.add (.add (.add (.add (.add (.add (.add (.add a1 a2) a3) a4) a5) a6) a7) a8) a9) a10)) = true) (h1 : a1.denote c ≤ b1.denote c) (h2 : a2.denote c ≤ b2.denote c) (h3 : a3.denote c ≤ b3.denote c) (h4 : a4.denote c ≤ b4.denote c) (h5 : a5.denote c ≤ b5.denote c) (h6 : a6.denote c ≤ b6.denote c) (h7 : a7.denote c ≤ b7.denote c) (h8 : a8.denote c ≤ b8.denote c) (h9 : a9.denote c ≤ b9.denote c) (h10 : a10.denote c ≤ b10.denote c) {p : Prop} : p :=
  absurd (qz c (.num 1) (.num 0) (.add (.add (.add (.add (.add (.add (.add (.add (.add a1 a2) a3) a4) a5) a6) a7) a8) a9) a10) (.add (.add (.add (.add (.add (.add (.add (.add (.add b1 b2) b3) b4) b5) b6) b7) b8) b9) b10) h (Nat.add_le_add (Nat.add_le_add (Nat.add_le_add (Nat.add_le_add (Nat.add_le_add (Nat.add_le_add (Nat.add_le_add (Nat.add_le_add (Nat.add_le_add h1 h2) h3) h4) h5) h6) h7) h8) h9) h10)) (Nat.not_succ_le_zero 0)
theorem qp0 (c : Nat.Internal.Linear.Context) (l r : Nat.Internal.Linear.Expr) (h : qV l r = true) : l.denote c ≤ r.denote c :=
  of_eq_true (Nat.Internal.Linear.ExprCnstr.eq_true_of_isValid c _ h)
theorem qg (c : Nat.Internal.Linear.Context) (l r : Nat.Internal.Linear.Expr) (g : Nat) (L R : Nat.Internal.Linear.Expr) (h : qV (.add (.mulL (g + 1) l) R) (.add (.add (.mulL (g + 1) r) (.num g)) L) = true) (H : L.denote c ≤ R.denote c) : l.denote c ≤ r.denote c :=
  Nat.le_of_lt_succ (Nat.lt_of_mul_lt_mul_left (a := g + 1) (Nat.lt_of_le_of_lt (Nat.le_of_add_le_add_right (Nat.le_trans (of_eq_true (Nat.Internal.Linear.ExprCnstr.eq_true_of_isValid c _ h)) (Nat.add_le_add_left H _))) (Nat.lt_succ_self _)))
theorem qt : true = true := rfl
theorem qe {a b : Nat} (h : a = b) : a ≤ b := Nat.le_of_eq h
theorem qi {a b : Nat} (h : a = b) : b ≤ a := Nat.le_of_eq h.symm
theorem qn {a b : Nat} (h : ¬ a ≤ b) : b < a := Nat.lt_of_not_le h
theorem qm {a b : Nat} (h : ¬ a < b) : b ≤ a := Nat.le_of_not_lt h
theorem qx {a b : Nat} (h : b ≤ a) : a - b + b ≤ a := Nat.le_of_eq (Nat.sub_add_cancel h)
theorem qy {a b : Nat} (h : a ≤ b) : a - b ≤ 0 := Nat.le_of_eq (Nat.sub_eq_zero_of_le h)
theorem qu {a b : Nat} : a - b ≤ a := Nat.sub_le a b
theorem qw {a b : Nat} : a ≤ a - b + b := Nat.le_add_of_sub_le (Nat.le_refl _)
end Tw
end
section
namespace Tw
theorem oq0 {x0 : Nat} {x1 : Nat} (h0 : x0 = x1) (h1 : x1 - 1 < x1) : -((x0 : Nat) : Int) ≤ -1 := by omega
theorem oq1 {x0 : Nat} : ¬((x0 : Nat) : Int) < 0 := fun k1 => qf1 (@qc1 x0) qs0 qk0 qt (show x0 < 0 from Int.ofNat_lt.mp k1)
theorem oq2 {x0 : Int} (h0 : 0 < x0) : 0 ≤ x0 := by omega
theorem oq3 {x0 : Int} {x1 : Int} (h0 : x0 < x1) : 0 ≤ x1 - x0 - 1 := by omega
theorem oq4 {x0 : Nat} : 0 ≤ ((x0 : Nat) : Int) := Int.ofNat_le.mpr (show 0 ≤ x0 from qp0 (@qc1 x0) qk0 qv0 qt )
theorem oq5 {x0 : Nat} {x1 : Nat} {x2 : Nat} (h0 : x0 - x1 = x2 + 1) : x1 < x0 := Or.elim (Nat.le_total x0 x1) (fun k1 => qf2 (@qc2 x2 (x0 - x1)) qs0 qv1 qv1 qk0 qt (qi h0) (qy (k1))) (fun k2 => qp2 (@qc4 x1 x0 x2 (x0 - x1)) qs0 qv1 qs2 qv3 (qA qv3 qv0) qv1 qt (qi h0) (qx (k2)))
theorem oq6 {x0 : Nat} {x1 : Nat} (h0 : x0 < x1) : x0 + (x1 - x0) / 2 + 1 ≤ x1 := qg (@qc4 x0 ((x1 - x0) / 2) x1 (x1 - x0)) (qA (qA qv0 qv1) qk1) qv2 1 (qA (qA qs0 (qA qv3 qv0)) (qM 2 qv1)) (qA (qA qv2 qv2) qv3) qt (Nat.add_le_add (Nat.add_le_add h0 (qx (qp1 (@qc2 x0 x1) qv0 qv1 qs0 qv1 qt h0))) (Nat.mul_div_le _ 2))
theorem oq7 {x0 : Nat} {x1 : Nat} {x2 : Nat} {x3 : Nat} (h0 : x0 - x1 ≤ x2 - x3) : x0 - (x1 + (x0 - x1) / 2 + 1) ≤ x2 - (x3 + 1) := Or.elim (Nat.le_total x0 x1) (fun k1 => qp1 (@qc2 (x0 - ((x1 + ((x0 - x1) / 2)) + 1)) (x2 - (x3 + 1))) qv0 qv1 qv0 qk0 qt (qy (qp1 (@qc3 x0 x1 ((x0 - x1) / 2)) qv0 (qA (qA qv1 qv2) qk1) qv0 qv1 qt k1))) (fun k2 => Or.elim (Nat.le_total x2 x3) (fun k3 => qp1 (@qc2 (x0 - ((x1 + ((x0 - x1) / 2)) + 1)) (x2 - (x3 + 1))) qv0 qv1 qv0 qk0 qt (qy (qp3 (@qc5 x0 x1 ((x0 - x1) / 2) (x0 - x1) (x2 - x3)) qv0 (qA (qA qv1 qv2) qk1) qv3 qv4 qv0 (qA qv3 qv1) qv4 qk0 qt h0 qw (qy (k3))))) (fun k4 => Or.elim (Nat.le_total x0 ((x1 + ((x0 - x1) / 2)) + 1)) (fun k5 => qp1 (@qc2 (x0 - ((x1 + ((x0 - x1) / 2)) + 1)) (x2 - (x3 + 1))) qv0 qv1 qv0 qk0 qt (qy (k5))) (fun k6 => qp5 (@qc9 (x0 - ((x1 + ((x0 - x1) / 2)) + 1)) (x2 - (x3 + 1)) (x0 - x1) (x2 - x3) x0 x1 x3 x2 ((x0 - x1) / 2)) qv0 qv1 qv2 qv3 qv4 (qA qv2 qv5) (qA qv3 qv6) qv7 (qA qv0 (qA (qA qv5 qv8) qk1)) qv4 qv7 (qA qv1 qs6) qt h0 qw (qx (k4)) (qx (k6)) qw)))
theorem oq8 {x0 : Nat} {x1 : Nat} {x2 : Nat} (h0 : x0 < x1 + (x2 - x1) / 2 + 1) : x0 ≤ x1 + (x2 - x1) / 2 := qp1 (@qc3 x0 x1 ((x2 - x1) / 2)) qv0 (qA qv1 qv2) qs0 (qA (qA qv1 qv2) qk1) qt h0
theorem oq9 {x0 : Nat} {x1 : Nat} {x2 : Nat} (h0 : x0 ≤ x1) (h1 : x2 < x0) : x2 + (x0 - x2) / 2 < x1 := qg (@qc5 x2 ((x0 - x2) / 2) x1 x0 (x0 - x2)) (qA (qA qv0 qv1) qk1) qv2 1 (qA (qA (qA (qM 2 qv3) qs0) (qA qv4 qv0)) (qM 2 qv1)) (qA (qA (qA (qM 2 qv2) qv3) qv3) qv4) qt (Nat.add_le_add (Nat.add_le_add (Nat.add_le_add (Nat.mul_le_mul_left 2 h0) h1) (qx (qp1 (@qc2 x2 x0) qv0 qv1 qs0 qv1 qt h1))) (Nat.mul_div_le _ 2))
theorem oq10 {x0 : Nat} {x1 : Nat} : x0 ≤ x0 + (x1 - x0) / 2 := qp0 (@qc2 x0 ((x1 - x0) / 2)) qv0 (qA qv0 qv1) qt 
theorem oq11 {x0 : Nat} {x1 : Nat} {x2 : Nat} (h0 : x0 ≤ x1) (h1 : x2 < x0) : x2 + (x0 - x2) / 2 ≤ x1 := qg (@qc5 x2 ((x0 - x2) / 2) x1 x0 (x0 - x2)) (qA qv0 qv1) qv2 1 (qA (qA (qM 2 qv3) (qM 2 (qA qv4 qv0))) (qM 2 qv1)) (qA (qA (qM 2 qv2) (qM 2 qv3)) qv4) qt (Nat.add_le_add (Nat.add_le_add (Nat.mul_le_mul_left 2 h0) (Nat.mul_le_mul_left 2 (qx (qp1 (@qc2 x2 x0) qv0 qv1 qs0 qv1 qt h1)))) (Nat.mul_div_le _ 2))
theorem oq12 {x0 : Nat} {x1 : Nat} {x2 : Nat} {x3 : Nat} (h0 : x0 - x1 ≤ x2 - x3) : x1 + (x0 - x1) / 2 - x1 ≤ x2 - (x3 + 1) := Or.elim (Nat.le_total x0 x1) (fun k1 => qg (@qc5 ((x1 + ((x0 - x1) / 2)) - x1) (x2 - (x3 + 1)) (x0 - x1) ((x0 - x1) / 2) x1) qv0 qv1 1 (qA (qA qv2 (qM 2 qv3)) (qM 2 (qA qv0 qv4))) (qA (qA qk0 qv2) (qM 2 (qA qv4 qv3))) qt (Nat.add_le_add (Nat.add_le_add (qy (k1)) (Nat.mul_div_le _ 2)) (Nat.mul_le_mul_left 2 (qx (qp0 (@qc2 x1 ((x0 - x1) / 2)) qv0 (qA qv0 qv1) qt ))))) (fun k2 => Or.elim (Nat.le_total x2 x3) (fun k3 => qg (@qc6 ((x1 + ((x0 - x1) / 2)) - x1) (x2 - (x3 + 1)) (x0 - x1) (x2 - x3) ((x0 - x1) / 2) x1) qv0 qv1 1 (qA (qA (qA qv2 qv3) (qM 2 qv4)) (qM 2 (qA qv0 qv5))) (qA (qA (qA qv3 qk0) qv2) (qM 2 (qA qv5 qv4))) qt (Nat.add_le_add (Nat.add_le_add (Nat.add_le_add h0 (qy (k3))) (Nat.mul_div_le _ 2)) (Nat.mul_le_mul_left 2 (qx (qp0 (@qc2 x1 ((x0 - x1) / 2)) qv0 (qA qv0 qv1) qt ))))) (fun k4 => qg (@qc8 ((x1 + ((x0 - x1) / 2)) - x1) (x2 - (x3 + 1)) (x0 - x1) (x2 - x3) x3 x2 ((x0 - x1) / 2) x1) qv0 qv1 1 (qA (qA (qA (qA qv2 (qA qv3 qv4)) (qM 2 qv6)) (qM 2 (qA qv0 qv7))) qv5) (qA (qA (qA (qA qv3 qv5) qv2) (qM 2 (qA qv7 qv6))) (qA qv1 qs4)) qt (Nat.add_le_add (Nat.add_le_add (Nat.add_le_add (Nat.add_le_add h0 (qx (k4))) (Nat.mul_div_le _ 2)) (Nat.mul_le_mul_left 2 (qx (qp0 (@qc2 x1 ((x0 - x1) / 2)) qv0 (qA qv0 qv1) qt )))) qw)))
theorem oq13 {x0 : Nat} {x1 : Nat} {x2 : Nat} (h0 : ¬x0 ≥ x1 - x2) : x2 + x0 < x1 := Or.elim (Nat.le_total x1 x2) (fun k1 => qf2 (@qc2 x0 (x1 - x2)) qs0 qv1 qv1 qk0 qt (qn h0) (qy (k1))) (fun k2 => qp2 (@qc4 x2 x0 x1 (x1 - x2)) (qA (qA qv0 qv1) qk1) qv2 qs1 qv3 (qA qv3 qv0) qv2 qt (qn h0) (qx (k2)))
theorem oq14 {x0 : Nat} {x1 : Nat} {x2 : Nat} {x3 : Nat} (h0 : x0 < x1) (h1 : x0 < x2 - x3) : x3 + x0 + 1 ≤ x3 + min x1 (x2 - x3) := Or.elim (Nat.le_total x2 x3) (fun k1 => qf2 (@qc2 x0 (x2 - x3)) qs0 qv1 qv1 qk0 qt h1 (qy (k1))) (fun k2 => Or.elim (Nat.le_total x1 (x2 - x3)) (fun k3 => qp2 (@qc4 x3 x0 (min x1 (x2 - x3)) x1) (qA (qA qv0 qv1) qk1) (qA qv0 qv2) qs1 qv3 qv3 qv2 qt h0 (Nat.le_of_eq (Eq.symm (Nat.min_eq_left (k3))))) (fun k4 => qp2 (@qc4 x3 x0 (min x1 (x2 - x3)) (x2 - x3)) (qA (qA qv0 qv1) qk1) (qA qv0 qv2) qs1 qv3 qv3 qv2 qt h1 (Nat.le_of_eq (Eq.symm (Nat.min_eq_right (k4))))))
theorem oq15 {x0 : Nat} {x1 : Nat} {x2 : Nat} {x3 : Nat} (h0 : x0 < x1 - x2) : x2 + min x3 (x1 - x2) ≤ x1 := Or.elim (Nat.le_total x1 x2) (fun k1 => qf2 (@qc2 x0 (x1 - x2)) qs0 qv1 qv1 qk0 qt h0 (qy (k1))) (fun k2 => qp2 (@qc4 x2 (min x3 (x1 - x2)) x1 (x1 - x2)) (qA qv0 qv1) qv2 (qA qv3 qv0) qv2 qv1 qv3 qt (qx (k2)) (Nat.min_le_right _ _))
theorem oq16 {x0 : Nat} {x1 : Nat} {x2 : Nat} (h0 : x0 < x1 - x2) : x2 + x0 < x1 := Or.elim (Nat.le_total x1 x2) (fun k1 => qf2 (@qc2 x0 (x1 - x2)) qs0 qv1 qv1 qk0 qt h0 (qy (k1))) (fun k2 => qp2 (@qc4 x2 x0 x1 (x1 - x2)) (qA (qA qv0 qv1) qk1) qv2 qs1 qv3 (qA qv3 qv0) qv2 qt h0 (qx (k2)))
theorem oq17 {x0 : Nat} {x1 : Nat} {x2 : Nat} {x3 : Nat} (h0 : x0 + min x1 (x2 - x0) ≤ x3) (h1 : x3 < x2) (h2 : x2 - x0 ≤ x1) : False := qf4 (@qc5 x0 (min x1 (x2 - x0)) x3 x2 (x2 - x0)) (qA qv0 qv1) qv2 qs2 qv3 qv3 (qA qv4 qv0) qv4 qv1 qt h0 h1 qw (Nat.le_of_eq (Eq.symm (Nat.min_eq_right (h2))))
theorem oq18 {x0 : Nat} {x1 : Nat} {x2 : Nat} {x3 : Nat} (h0 : x0 + min x1 (x2 - x0) ≤ x3) (h1 : x3 < x2) : x0 + x1 ≤ x3 := Or.elim (Nat.le_total x1 (x2 - x0)) (fun k1 => qp2 (@qc4 x0 x1 x3 (min x1 (x2 - x0))) (qA qv0 qv1) qv2 (qA qv0 qv3) qv2 qv1 qv3 qt h0 (Nat.le_of_eq (Eq.symm (Nat.min_eq_left (k1))))) (fun k2 => qf4 (@qc5 x0 (min x1 (x2 - x0)) x3 x2 (x2 - x0)) (qA qv0 qv1) qv2 qs2 qv3 qv3 (qA qv4 qv0) qv4 qv1 qt h0 h1 qw (Nat.le_of_eq (Eq.symm (Nat.min_eq_right (k2)))))
theorem oq19 {x0 : Nat} {x1 : Nat} {x2 : Nat} (h0 : x0 < x1) (h1 : x1 ≤ x2) : x0 + (x1 - x0) / 2 < x2 := qg (@qc5 x0 ((x1 - x0) / 2) x2 x1 (x1 - x0)) (qA (qA qv0 qv1) qk1) qv2 1 (qA (qA (qA qs0 (qM 2 qv3)) (qA qv4 qv0)) (qM 2 qv1)) (qA (qA (qA qv3 (qM 2 qv2)) qv3) qv4) qt (Nat.add_le_add (Nat.add_le_add (Nat.add_le_add h0 (Nat.mul_le_mul_left 2 h1)) (qx (qp1 (@qc2 x0 x1) qv0 qv1 qs0 qv1 qt h0))) (Nat.mul_div_le _ 2))
theorem oq20 {x0 : Nat} {x1 : Nat} {x2 : Nat} (h0 : x0 < x1) : x2 + 1 - min x1 (x2 + 1) ≤ x2 - x0 := Or.elim (Nat.le_total x1 (x2 + 1)) (fun k1 => qp4 (@qc6 ((x2 + 1) - (min x1 (x2 + 1))) (x2 - x0) x0 x1 (min x1 (x2 + 1)) x2) qv0 qv1 qs2 qv3 qv3 qv4 (qA qv0 qv4) qs5 qv5 (qA qv1 qv2) qt h0 (Nat.le_of_eq (Eq.symm (Nat.min_eq_left (k1)))) (qx (Nat.min_le_right _ _)) qw) (fun k2 => qp2 (@qc4 ((x2 + 1) - (min x1 (x2 + 1))) (x2 - x0) x2 (min x1 (x2 + 1))) qv0 qv1 qs2 qv3 (qA qv0 qv3) qs2 qt (Nat.le_of_eq (Eq.symm (Nat.min_eq_right (k2)))) (qx (Nat.min_le_right _ _)))
theorem oq21 {x0 : Nat} {x1 : Nat} {x2 : Nat} (h0 : x0 < x1 + 1 - min x2 (x1 + 1)) (h1 : x1 + 1 ≤ x2) : False := qf3 (@qc4 x0 ((x1 + 1) - (min x2 (x1 + 1))) x1 (min x2 (x1 + 1))) qs0 qv1 qs2 qv3 (qA qv1 qv3) qs2 qt h0 (Nat.le_of_eq (Eq.symm (Nat.min_eq_right (h1)))) (qx (Nat.min_le_right _ _))
theorem oq22 {x0 : Nat} {x1 : Nat} {x2 : Nat} (h0 : x0 < x1 + 1 - min x2 (x1 + 1)) : x0 ≤ x1 - x2 := Or.elim (Nat.le_total x2 (x1 + 1)) (fun k1 => qp4 (@qc6 x0 (x1 - x2) ((x1 + 1) - (min x2 (x1 + 1))) x2 (min x2 (x1 + 1)) x1) qv0 qv1 qs0 qv2 qv3 qv4 (qA qv2 qv4) qs5 qv5 (qA qv1 qv3) qt h0 (Nat.le_of_eq (Eq.symm (Nat.min_eq_left (k1)))) (qx (Nat.min_le_right _ _)) qw) (fun k2 => qf2 (@qc3 x1 x2 (x1 - x2)) qs0 qv1 (qA qv2 qv1) qv0 qt k2 (qx (qf3 (@qc4 x0 ((x1 + 1) - (min x2 (x1 + 1))) x1 (min x2 (x1 + 1))) qs0 qv1 qs2 qv3 (qA qv1 qv3) qs2 qt h0 (Nat.le_of_eq (Eq.symm (Nat.min_eq_right (k2)))) (qx (Nat.min_le_right _ _)))))
theorem oq23 {x0 : Nat} {x1 : Nat} {x2 : Nat} (h0 : x0 < min x1 x2) : x0 < x1 := qp2 (@qc3 x0 x1 (min x1 x2)) qs0 qv1 qs0 qv2 qv2 qv1 qt h0 (Nat.min_le_left _ _)
theorem oq24 {x0 : Nat} {x1 : Nat} (h0 : ¬x0 + 1 = x1) (h1 : x0 < x1) : x0 + 1 < x1 := Or.elim (Nat.lt_or_gt_of_ne h0) (fun k1 => k1) (fun k2 => qf2 (@qc2 x0 x1) qs0 qv1 qs1 qs0 qt h1 k2)
theorem oq25 {x0 : Nat} {x1 : Nat} (h0 : x0 + 1 < x1) (h1 : ¬x0 + 1 + 1 = x1) : x0 + 1 + 1 < x1 := Or.elim (Nat.lt_or_gt_of_ne h1) (fun k1 => k1) (fun k2 => qf2 (@qc2 x0 x1) (qA qs0 qk1) qv1 qs1 (qA qs0 qk1) qt h0 k2)
theorem oq26 {x0 : Nat} {x1 : Nat} (h0 : x0 < x1) (h1 : ¬x0 + 1 = x1) : x0 + 1 < x1 := Or.elim (Nat.lt_or_gt_of_ne h1) (fun k1 => k1) (fun k2 => qf2 (@qc2 x0 x1) qs0 qv1 qs1 qs0 qt h0 k2)
theorem oq27 {x0 : Nat} {x1 : Nat} {x2 : Nat} (h0 : x0 + 1 + x1 ≤ x2) (h1 : ¬x0 + 1 + x1 = x2) : x0 + 1 + x1 < x2 := Or.elim (Nat.lt_or_gt_of_ne h1) (fun k1 => k1) (fun k2 => qf2 (@qc3 x0 x1 x2) (qA qs0 qv1) qv2 qs2 (qA qs0 qv1) qt h0 k2)
theorem oq28 {x0 : Nat} {x1 : Nat} (h0 : ¬x0 + 1 = x1) (h1 : x0 + 1 + 0 ≤ x1) : x0 + 1 < x1 := Or.elim (Nat.lt_or_gt_of_ne h0) (fun k1 => k1) (fun k2 => qf2 (@qc2 x0 x1) (qA qs0 qk0) qv1 qs1 qs0 qt h1 k2)
theorem oq29 {x0 : Nat} {x1 : Nat} (h0 : ¬x0 + 1 = x1) (h1 : x0 + 1 + 0 ≤ x1) : x0 + 1 + 0 < x1 := Or.elim (Nat.lt_or_gt_of_ne h0) (fun k1 => qp1 (@qc2 x0 x1) (qA (qA qs0 qk0) qk1) qv1 (qA qs0 qk1) qv1 qt k1) (fun k2 => qf2 (@qc2 x0 x1) (qA qs0 qk0) qv1 qs1 qs0 qt h1 k2)
theorem oq30 {x0 : Nat} {x1 : Nat} {x2 : Nat} (h0 : x0 + x1 ≤ x2) (h1 : ¬x0 + x1 + 1 = x2) (h2 : ¬x0 + x1 = x2) : x0 + x1 + 1 < x2 := Or.elim (Nat.lt_or_gt_of_ne h1) (fun k1 => k1) (fun k2 => Or.elim (Nat.lt_or_gt_of_ne h2) (fun k3 => qf2 (@qc3 x2 x0 x1) qs0 (qA (qA qv1 qv2) qk1) (qA (qA qv1 qv2) qk1) qv0 qt k2 k3) (fun k4 => qf2 (@qc3 x0 x1 x2) (qA qv0 qv1) qv2 qs2 (qA qv0 qv1) qt h0 k4))
theorem oq31 {x0 : Nat} {x1 : Nat} {x2 : Nat} (h0 : x0 + x1 ≤ x2) (h1 : ¬x0 + x1 = x2) : x0 + x1 < x2 := Or.elim (Nat.lt_or_gt_of_ne h1) (fun k1 => k1) (fun k2 => qf2 (@qc3 x0 x1 x2) (qA qv0 qv1) qv2 qs2 (qA qv0 qv1) qt h0 k2)
theorem oq32 {x0 : Nat} {x1 : Nat} {x2 : Nat} (h0 : x0 ≤ x1) (h1 : x2 ≤ x0) : min x0 x1 - (x0 - x2) = x2 := Nat.le_antisymm (qp3 (@qc5 ((min x0 x1) - (x0 - x2)) x2 (min x0 x1) x0 (x0 - x2)) qv0 qv1 qv2 qv3 qv3 (qA qv4 qv1) (qA qv0 qv4) qv2 qt (Nat.min_le_left _ _) qw (qx (qp2 (@qc3 (x0 - x2) (min x0 x1) x0) qv0 qv1 qv2 qv1 qv0 qv2 qt (Nat.le_of_eq (Eq.symm (Nat.min_eq_left (h0)))) qu))) (qp3 (@qc5 x2 ((min x0 x1) - (x0 - x2)) x0 (min x0 x1) (x0 - x2)) qv0 qv1 qv2 qv3 (qA qv4 qv0) qv2 qv3 (qA qv1 qv4) qt (Nat.le_of_eq (Eq.symm (Nat.min_eq_left (h0)))) (qx (h1)) qw)
theorem oq33 {x0 : Nat} {x1 : Nat} (h0 : x0 ≤ x1) : x1 - 1 - (x1 - x0) = x0 - 1 := Or.elim (Nat.le_total x1 1) (fun k1 => Nat.le_antisymm (qp1 (@qc2 ((x1 - 1) - (x1 - x0)) (x0 - 1)) qv0 qv1 qv0 qk0 qt (qy (qp1 (@qc2 (x1 - 1) (x1 - x0)) qv0 qv1 qv0 qk0 qt (qy (k1))))) (qp1 (@qc2 (x0 - 1) ((x1 - 1) - (x1 - x0))) qv0 qv1 qv0 qk0 qt (qy (qp2 (@qc2 x0 x1) qv0 qk1 qv0 qv1 qv1 qk1 qt h0 k1)))) (fun k2 => Or.elim (Nat.le_total (x1 - 1) (x1 - x0)) (fun k3 => Nat.le_antisymm (qp1 (@qc2 ((x1 - 1) - (x1 - x0)) (x0 - 1)) qv0 qv1 qv0 qk0 qt (qy (k3))) (qp1 (@qc2 (x0 - 1) ((x1 - 1) - (x1 - x0))) qv0 qv1 qv0 qk0 qt (qy (qp3 (@qc4 x0 (x1 - 1) (x1 - x0) x1) qv0 qk1 qv1 qv2 qv3 qs1 (qA qv2 qv0) qv3 qt k3 qw (qx (h0)))))) (fun k4 => Nat.le_antisymm (qp4 (@qc6 ((x1 - 1) - (x1 - x0)) (x0 - 1) x1 (x1 - x0) x0 (x1 - 1)) qv0 qv1 qv2 (qA qv3 qv4) qs5 qv2 (qA qv0 qv3) qv5 qv4 qs1 qt qw (qx (k2)) (qx (k4)) qw) (qp4 (@qc6 (x0 - 1) ((x1 - 1) - (x1 - x0)) (x1 - x0) x0 x1 (x1 - 1)) qv0 qv1 (qA qv2 qv3) qv4 qv4 qs5 qv5 (qA qv1 qv2) qs0 qv3 qt (qx (h0)) qw qw (qx (qp3 (@qc4 x0 (x1 - x0) (x1 - 1) x1) qk1 qv0 qv1 qv2 qv3 (qA qv1 qv0) qs2 qv3 qt k4 qw (qx (k2)))))))
theorem oq34 {x0 : Nat} {x1 : Nat} {x2 : Nat} {x3 : Nat} (h0 : x0 ≤ x1) (h1 : x2 < x0 - x3) : x3 ≤ x1 - 1 - (x1 - x0 + x2) := Or.elim (Nat.le_total x0 x3) (fun k1 => qf2 (@qc2 x2 (x0 - x3)) qs0 qv1 qv1 qk0 qt h1 (qy (k1))) (fun k2 => qp5 (@qc8 x3 ((x1 - 1) - ((x1 - x0) + x2)) x2 (x0 - x3) x0 x1 (x1 - 1) (x1 - x0)) qv0 qv1 qs2 qv3 (qA qv3 qv0) qv4 qv5 qs6 (qA qv7 qv4) qv5 qv6 (qA qv1 (qA qv7 qv2)) qt h1 (qx (k2)) qw (qx (h0)) qw)
theorem oq35 {x0 : Nat} {x1 : Nat} {x2 : Nat} {x3 : Nat} (h0 : x0 < x1 - x2) : x3 - 1 - (x3 - x1 + x0) < x1 := Or.elim (Nat.le_total x1 x2) (fun k1 => qf2 (@qc2 x0 (x1 - x2)) qs0 qv1 qv1 qk0 qt h0 (qy (k1))) (fun k2 => Or.elim (Nat.le_total x3 1) (fun k3 => qp3 (@qc4 ((x3 - 1) - ((x3 - x1) + x0)) x1 x0 (x1 - x2)) qs0 qv1 qs2 qv3 qv3 qv1 qv0 qk0 qt h0 qu (qy (qp1 (@qc3 (x3 - 1) (x3 - x1) x0) qv0 (qA qv1 qv2) qv0 qk0 qt (qy (k3))))) (fun k4 => Or.elim (Nat.le_total x3 x1) (fun k5 => qp3 (@qc4 ((x3 - 1) - ((x3 - x1) + x0)) x1 x3 (x3 - 1)) qs0 qv1 qv2 qv1 qs3 qv2 qv0 qv3 qt k5 (qx (k4)) qu) (fun k6 => qp3 (@qc6 ((x3 - 1) - ((x3 - x1) + x0)) x1 (x3 - 1) x3 (x3 - x1) x0) qs0 qv1 qs2 qv3 qv3 (qA qv4 qv1) (qA qv0 (qA qv4 qv5)) qv2 qt (qx (k4)) qw (qx (qp4 (@qc6 (x3 - x1) x0 (x3 - 1) (x1 - x2) x1 x3) (qA qv0 qv1) qv2 qs1 qv3 qv3 qv4 qv5 qs2 (qA qv0 qv4) qv5 qt h0 qu qw (qx (k6)))))))
theorem oq36 {x0 : Nat} {x1 : Nat} {x2 : Nat} (h0 : x0 = 1) (h1 : x1 < min x0 x2) : x1 = 0 := Nat.le_antisymm (qp3 (@qc3 x1 x0 (min x0 x2)) qv0 qk0 qv1 qk1 qs0 qv2 qv2 qv1 qt (qe h0) h1 (Nat.min_le_left _ _)) (qp0 (@qc1 x1) qk0 qv0 qt )
theorem oq37 {x0 : Nat} {x1 : Nat} (h0 : 0 < min x0 x1) : 0 < x0 := qp2 (@qc2 x0 (min x0 x1)) (qA qk0 qk1) qv0 (qA qk0 qk1) qv1 qv1 qv0 qt h0 (Nat.min_le_left _ _)
theorem oq38 {x0 : Nat} (h0 : ¬x0 - 1 = 0) : 0 < x0 - 1 := qp1 (@qc1 (x0 - 1)) (qA qk0 qk1) qv0 qk1 qv0 qt (Nat.pos_of_ne_zero h0)
theorem oq39 {x0 : Nat} (h0 : 1 ≤ x0) (h1 : ¬x0 = 1) : 1 < x0 := Or.elim (Nat.lt_or_gt_of_ne h1) (fun k1 => qf2 (@qc1 x0) qk1 qv0 qs0 qk1 qt h0 k1) (fun k2 => k2)
theorem oq40 {x0 : Nat} {x1 : Nat} (h0 : 1 ≤ x0) (h1 : x1 ≤ x0) : x1 - 1 < x0 := Or.elim (Nat.le_total x1 1) (fun k1 => qp2 (@qc2 (x1 - 1) x0) qs0 qv1 qk1 qv1 qv0 qk0 qt h0 (qy (k1))) (fun k2 => qp2 (@qc3 (x1 - 1) x0 x1) qs0 qv1 qv2 qv1 qs0 qv2 qt h1 (qx (k2)))
theorem oq41 {x0 : Nat} (h0 : 1 < x0) (h1 : ¬x0 - 1 = 1) : 1 < x0 - 1 := Or.elim (Nat.lt_or_gt_of_ne h1) (fun k1 => qf3 (@qc2 x0 (x0 - 1)) (qA qk1 qk1) qv0 qs1 qk1 qv0 qs1 qt h0 k1 qw) (fun k2 => k2)
theorem oq42 {x0 : Nat} (h0 : ¬x0 = 1) (h1 : ¬x0 = 0) : 1 < x0 := Or.elim (Nat.lt_or_gt_of_ne h0) (fun k1 => qf2 (@qc1 x0) qk1 qv0 qs0 qk1 qt (Nat.pos_of_ne_zero h1) k1) (fun k2 => k2)
theorem oq43 {x0 : Nat} {x1 : Nat} {x2 : Nat} (h0 : x0 ≤ x1) (h1 : x0 - 1 - x2 > 0) : x2 ≤ x1 := Or.elim (Nat.le_total (x0 - 1) x2) (fun k1 => qf2 (@qc1 ((x0 - 1) - x2)) (qA qk0 qk1) qv0 qv0 qk0 qt h1 (qy (k1))) (fun k2 => qp3 (@qc4 x2 x1 x0 (x0 - 1)) qv0 qv1 qv2 qv1 qv0 qv3 qv3 qv2 qt h0 k2 qu)
theorem oq44 {x0 : Nat} (h0 : ¬x0 = 0) : 0 < x0 := qp1 (@qc1 x0) (qA qk0 qk1) qv0 qk1 qv0 qt (Nat.pos_of_ne_zero h0)
theorem oq45 {x0 : Nat} {x1 : Nat} {x2 : Nat} (h0 : x0 ≤ x1) (h1 : x0 - x2 > 0) : x2 ≤ x1 := Or.elim (Nat.le_total x0 x2) (fun k1 => qf2 (@qc1 (x0 - x2)) (qA qk0 qk1) qv0 qv0 qk0 qt h1 (qy (k1))) (fun k2 => qp2 (@qc3 x2 x1 x0) qv0 qv1 qv2 qv1 qv0 qv2 qt h0 k2)
theorem oq46 {x0 : Nat} {x1 : Nat} (h0 : ¬x0 - x1 = 0) : x0 - 1 < x0 := qx (qp2 (@qc2 x0 (x0 - x1)) qk1 qv0 qk1 qv1 qv1 qv0 qt (Nat.pos_of_ne_zero h0) qu)
theorem oq47 {x0 : Nat} {x1 : Nat} {x2 : Nat} (h0 : ¬x0 - x1 = 0) : x2 + x1 + (x0 - x1) - 1 = x2 + (x0 - 1) := Or.elim (Nat.le_total x0 x1) (fun k1 => Nat.le_antisymm (qf2 (@qc1 (x0 - x1)) qk1 qv0 qv0 qk0 qt (Nat.pos_of_ne_zero h0) (qy (k1))) (qf2 (@qc1 (x0 - x1)) qk1 qv0 qv0 qk0 qt (Nat.pos_of_ne_zero h0) (qy (k1)))) (fun k2 => Nat.le_antisymm (qp3 (@qc6 (((x2 + x1) + (x0 - x1)) - 1) x2 (x0 - 1) (x0 - x1) x1 x0) qv0 (qA qv1 qv2) (qA qv3 qv4) qv5 qs0 (qA (qA qv1 qv4) qv3) qv5 qs2 qt (qx (k2)) (qx (qp1 (@qc3 x2 x1 (x0 - x1)) qk1 (qA (qA qv0 qv1) qv2) qk1 qv2 qt (Nat.pos_of_ne_zero h0))) qw) (qp3 (@qc6 x2 (x0 - 1) (((x2 + x1) + (x0 - x1)) - 1) x0 (x0 - x1) x1) (qA qv0 qv1) qv2 qv3 (qA qv4 qv5) (qA (qA qv0 qv5) qv4) qs2 qs1 qv3 qt qw qw (qx (qp2 (@qc2 x0 (x0 - x1)) qk1 qv0 qk1 qv1 qv1 qv0 qt (Nat.pos_of_ne_zero h0) qu))))
theorem oq48 {x0 : Nat} {x1 : Nat} {x2 : Nat} {x3 : Nat} (h0 : x0 = x1 + x2) (h1 : ¬x2 - x3 = 0) : x0 = x1 + x3 + (x2 - x3) := Or.elim (Nat.le_total x2 x3) (fun k1 => Nat.le_antisymm (qf2 (@qc1 (x2 - x3)) qk1 qv0 qv0 qk0 qt (Nat.pos_of_ne_zero h1) (qy (k1))) (qf2 (@qc1 (x2 - x3)) qk1 qv0 qv0 qk0 qt (Nat.pos_of_ne_zero h1) (qy (k1)))) (fun k2 => Nat.le_antisymm (qp2 (@qc5 x0 x1 x3 (x2 - x3) x2) qv0 (qA (qA qv1 qv2) qv3) qv0 (qA qv1 qv4) qv4 (qA qv3 qv2) qt (qe h0) qw) (qp2 (@qc5 x1 x3 (x2 - x3) x0 x2) (qA (qA qv0 qv1) qv2) qv3 (qA qv0 qv4) qv3 (qA qv2 qv1) qv4 qt (qi h0) (qx (k2))))
theorem oq49 {x0 : Nat} {x1 : Nat} {x2 : Nat} (h0 : x0 = x1) (h1 : ¬x1 - x2 = 0) : x2 ≤ x0 := Or.elim (Nat.le_total x1 x2) (fun k1 => qf2 (@qc1 (x1 - x2)) qk1 qv0 qv0 qk0 qt (Nat.pos_of_ne_zero h1) (qy (k1))) (fun k2 => qp2 (@qc3 x2 x0 x1) qv0 qv1 qv2 qv1 qv0 qv2 qt (qi h0) k2)
theorem oq50 {x0 : Nat} {x1 : Nat} {x2 : Nat} (h0 : x0 = x1) : x1 - x2 ≤ x0 - x2 := Or.elim (Nat.le_total x1 x2) (fun k1 => qp1 (@qc2 (x1 - x2) (x0 - x2)) qv0 qv1 qv0 qk0 qt (qy (k1))) (fun k2 => qp3 (@qc5 (x1 - x2) (x0 - x2) x1 x0 x2) qv0 qv1 qv2 qv3 (qA qv0 qv4) qv2 qv3 (qA qv1 qv4) qt (qi h0) (qx (k2)) qw)
theorem oq51 {x0 : Nat} {x1 : Nat} {x2 : Nat} (h0 : x0 = x1) : x0 - x2 ≤ x1 - x2 := Or.elim (Nat.le_total x0 x2) (fun k1 => qp1 (@qc2 (x0 - x2) (x1 - x2)) qv0 qv1 qv0 qk0 qt (qy (k1))) (fun k2 => qp3 (@qc5 (x0 - x2) (x1 - x2) x0 x1 x2) qv0 qv1 qv2 qv3 (qA qv0 qv4) qv2 qv3 (qA qv1 qv4) qt (qe h0) (qx (k2)) qw)
theorem oq52 {x0 : Nat} {x1 : Nat} {x2 : Nat} (h0 : x0 = x1) (h1 : x2 ≤ x1) : min x2 x0 = x2 := Nat.le_antisymm (Nat.min_le_left _ _) (Nat.le_of_eq (Eq.symm (Nat.min_eq_left (qp2 (@qc3 x2 x0 x1) qv0 qv1 qv2 qv1 qv0 qv2 qt (qi h0) h1))))
theorem oq53 {x0 : Nat} {x1 : Nat} (h0 : ¬x0 - x1 = 0) : x1 + (x0 - x1 - 1) = x0 - 1 := Or.elim (Nat.le_total x0 x1) (fun k1 => Nat.le_antisymm (qf2 (@qc1 (x0 - x1)) qk1 qv0 qv0 qk0 qt (Nat.pos_of_ne_zero h0) (qy (k1))) (qf2 (@qc1 (x0 - x1)) qk1 qv0 qv0 qk0 qt (Nat.pos_of_ne_zero h0) (qy (k1)))) (fun k2 => Nat.le_antisymm (qp3 (@qc5 x1 ((x0 - x1) - 1) (x0 - 1) (x0 - x1) x0) (qA qv0 qv1) qv2 (qA qv3 qv0) qv4 qs1 qv3 qv4 qs2 qt (qx (k2)) (qx (Nat.pos_of_ne_zero h0)) qw) (qp3 (@qc5 (x0 - 1) x1 ((x0 - x1) - 1) x0 (x0 - x1)) qv0 (qA qv1 qv2) qv3 (qA qv4 qv1) qv4 qs2 qs0 qv3 qt qw qw (qx (qp2 (@qc2 x0 (x0 - x1)) qk1 qv0 qk1 qv1 qv1 qv0 qt (Nat.pos_of_ne_zero h0) qu))))
theorem oq54 {x0 : Nat} {x1 : Nat} {x2 : Nat} {x3 : Nat} {x4 : Nat} {x5 : Nat} {x6 : Nat} (h0 : x0 = x1) (h1 : x2 = x3) (h2 : x4 ≤ x3) (h3 : x5 = x0 - x6 + min x4 x2) : x5 = x1 - x6 + x4 := Or.elim (Nat.le_total x0 x6) (fun k1 => Nat.le_antisymm (qp3 (@qc5 x5 (x1 - x6) x4 (x0 - x6) (min x4 x2)) qv0 (qA qv1 qv2) qv0 (qA qv3 qv4) qv3 qk0 qv4 qv2 qt (qe h3) (qy (k1)) (Nat.min_le_left _ _)) (qp3 (@qc5 (x1 - x6) x4 x5 (x0 - x6) (min x4 x2)) (qA qv0 qv1) qv2 (qA qv3 qv4) qv2 qv1 qv4 qv0 qk0 qt (qi h3) (Nat.le_of_eq (Eq.symm (Nat.min_eq_left (qp2 (@qc3 x4 x2 x3) qv0 qv1 qv2 qv1 qv0 qv2 qt (qi h1) h2)))) (qy (qp2 (@qc3 x1 x6 x0) qv0 qv1 qv0 qv2 qv2 qv1 qt (qi h0) k1)))) (fun k2 => Nat.le_antisymm (qp5 (@qc8 x5 (x1 - x6) x4 x0 x1 (x0 - x6) (min x4 x2) x6) qv0 (qA qv1 qv2) qv3 qv4 qv0 (qA qv5 qv6) (qA qv5 qv7) qv3 qv6 qv2 qv4 (qA qv1 qv7) qt (qe h0) (qe h3) (qx (k2)) (Nat.min_le_left _ _) qw) (qp5 (@qc8 (x1 - x6) x4 x5 x1 x0 (x0 - x6) (min x4 x2) x6) (qA qv0 qv1) qv2 qv3 qv4 (qA qv5 qv6) qv2 qv4 (qA qv5 qv7) qv1 qv6 (qA qv0 qv7) qv3 qt (qi h0) (qi h3) qw (Nat.le_of_eq (Eq.symm (Nat.min_eq_left (qp2 (@qc3 x4 x2 x3) qv0 qv1 qv2 qv1 qv0 qv2 qt (qi h1) h2)))) (qx (qp2 (@qc3 x6 x1 x0) qv0 qv1 qv2 qv1 qv0 qv2 qt (qe h0) k2))))
theorem oq55 {x0 : Nat} {x1 : Nat} {x2 : Nat} {x3 : Nat} {x4 : Nat} {x5 : Nat} {x6 : Nat} {x7 : Nat} {x8 : Nat} {x9 : Nat} {x10 : Nat} (h0 : x0 = x1) (h1 : x2 = x3) (h2 : x4 = x5) (h3 : ¬x3 - x6 = 0) (h4 : x7 ≤ x5) (h5 : x8 = x3 - x6 + x7) (h6 : x9 = x0 + (x2 + (x4 + x10))) : x1 + x6 + 0 + x8 ≤ x9 := Or.elim (Nat.le_total x3 x6) (fun k1 => qf2 (@qc1 (x3 - x6)) qk1 qv0 qv0 qk0 qt (Nat.pos_of_ne_zero h3) (qy (k1))) (fun k2 => qp7 (@qc12 x1 x6 x8 x9 x0 x3 x2 x5 x4 x7 (x3 - x6) x10) (qA (qA (qA qv0 qv1) qk0) qv2) qv3 qv0 qv4 qv5 qv6 qv7 qv8 qv9 qv7 qv2 (qA qv10 qv9) (qA qv4 (qA qv6 (qA qv8 qv11))) qv3 (qA qv10 qv1) qv5 qt (qi h0) (qi h1) (qi h2) h4 (qe h5) (qi h6) (qx (k2)))
theorem oq56 {x0 : Nat} {x1 : Nat} {x2 : Nat} {x3 : Nat} (h0 : ¬x0 - x1 = 0) : x2 + x1 + (x0 - x1 + x3) = x2 + (x0 + x3) := Or.elim (Nat.le_total x0 x1) (fun k1 => Nat.le_antisymm (qf2 (@qc1 (x0 - x1)) qk1 qv0 qv0 qk0 qt (Nat.pos_of_ne_zero h0) (qy (k1))) (qp1 (@qc5 x2 x0 x3 x1 (x0 - x1)) (qA qv0 (qA qv1 qv2)) (qA (qA qv0 qv3) (qA qv4 qv2)) qv1 (qA qv4 qv3) qt qw)) (fun k2 => Nat.le_antisymm (qp1 (@qc5 x2 x1 (x0 - x1) x3 x0) (qA (qA qv0 qv1) (qA qv2 qv3)) (qA qv0 (qA qv4 qv3)) (qA qv2 qv1) qv4 qt (qx (k2))) (qp1 (@qc5 x2 x0 x3 x1 (x0 - x1)) (qA qv0 (qA qv1 qv2)) (qA (qA qv0 qv3) (qA qv4 qv2)) qv1 (qA qv4 qv3) qt qw))
theorem oq57 {x0 : Nat} {x1 : Nat} {x2 : Nat} (h0 : ¬x0 - x1 = 0) (h1 : x2 = x0 - x1) : 1 ≤ x2 := qp2 (@qc2 x2 (x0 - x1)) qk1 qv0 qk1 qv1 qv1 qv0 qt (Nat.pos_of_ne_zero h0) (qi h1)
theorem oq58 {x0 : Nat} {x1 : Nat} (h0 : ¬x0 = 0) (h1 : x1 = x0) : 1 ≤ x1 := qp2 (@qc2 x1 x0) qk1 qv0 qk1 qv1 qv1 qv0 qt (Nat.pos_of_ne_zero h0) (qi h1)
theorem oq59 {x0 : Nat} {x1 : Nat} {x2 : Nat} {x3 : Nat} (h0 : x0 ≤ x1) : x2 + (x2 + x3) - 1 - x1 ≤ x2 + (x2 + x3) - 1 - x0 := Or.elim (Nat.le_total (x2 + (x2 + x3)) 1) (fun k1 => qp1 (@qc2 (((x2 + (x2 + x3)) - 1) - x1) (((x2 + (x2 + x3)) - 1) - x0)) qv0 qv1 qv0 qk0 qt (qy (qp1 (@qc2 ((x2 + (x2 + x3)) - 1) x1) qv0 qv1 qv0 qk0 qt (qy (k1))))) (fun k2 => Or.elim (Nat.le_total ((x2 + (x2 + x3)) - 1) x1) (fun k3 => qp1 (@qc2 (((x2 + (x2 + x3)) - 1) - x1) (((x2 + (x2 + x3)) - 1) - x0)) qv0 qv1 qv0 qk0 qt (qy (k3))) (fun k4 => qp3 (@qc5 (((x2 + (x2 + x3)) - 1) - x1) (((x2 + (x2 + x3)) - 1) - x0) x0 x1 ((x2 + (x2 + x3)) - 1)) qv0 qv1 qv2 qv3 (qA qv0 qv3) qv4 qv4 (qA qv1 qv2) qt h0 (qx (k4)) qw))
theorem oq60 {x0 : Nat} {x1 : Nat} {x2 : Nat} {x3 : Nat} (h0 : x0 ≤ x1) (h1 : x2 < x0 + x3) : x0 + (x0 + x3) - 1 - x1 < x0 + x3 := Or.elim (Nat.le_total ((x0 + (x0 + x3)) - 1) x1) (fun k1 => qp2 (@qc4 (((x0 + (x0 + x3)) - 1) - x1) x0 x3 x2) qs0 (qA qv1 qv2) qs3 (qA qv1 qv2) qv0 qk0 qt h1 (qy (k1))) (fun k2 => qp3 (@qc5 (((x0 + (x0 + x3)) - 1) - x1) x0 x3 x1 ((x0 + (x0 + x3)) - 1)) qs0 (qA qv1 qv2) qv1 qv3 qs4 (qA qv1 (qA qv1 qv2)) (qA qv0 qv3) qv4 qt h0 (qx (qp1 (@qc3 x0 x3 x2) qk1 (qA qv0 (qA qv0 qv1)) qs2 (qA qv0 qv1) qt h1)) (qx (k2)))
theorem oq61 {x0 : Nat} {x1 : Nat} {x2 : Nat} {x3 : Nat} {x4 : Nat} (h0 : x0 ≤ x1) (h1 : x2 ≤ x0 ∧ x0 < x3 + x4) : x2 + (x3 + x4) - 1 - x1 < x3 + x4 := Or.elim (Nat.le_total ((x2 + (x3 + x4)) - 1) x1) (fun k1 => qp2 (@qc4 (((x2 + (x3 + x4)) - 1) - x1) x3 x4 x0) qs0 (qA qv1 qv2) qs3 (qA qv1 qv2) qv0 qk0 qt (And.right h1) (qy (k1))) (fun k2 => qp4 (@qc7 (((x2 + (x3 + x4)) - 1) - x1) x3 x4 x0 x1 x2 ((x2 + (x3 + x4)) - 1)) qs0 (qA qv1 qv2) qv3 qv4 qv5 qv3 qs6 (qA qv5 (qA qv1 qv2)) (qA qv0 qv4) qv6 qt h0 (And.left h1) (qx (qp1 (@qc4 x2 x3 x4 x0) qk1 (qA qv0 (qA qv1 qv2)) qs3 (qA qv1 qv2) qt (And.right h1))) (qx (k2)))
theorem oq62 {x0 : Nat} {x1 : Nat} {x2 : Nat} (h0 : x0 < x1 - x2) : x2 + (x0 + 1) ≤ x1 := Or.elim (Nat.le_total x1 x2) (fun k1 => qf2 (@qc2 x0 (x1 - x2)) qs0 qv1 qv1 qk0 qt h0 (qy (k1))) (fun k2 => qp2 (@qc4 x2 x0 x1 (x1 - x2)) (qA qv0 qs1) qv2 qs1 qv3 (qA qv3 qv0) qv2 qt h0 (qx (k2)))
theorem oq63 {x0 : Nat} {x1 : Nat} {x2 : Nat} {x3 : Nat} {x4 : Nat} (h0 : x0 + x1 - (x2 + 1) ≤ x3) (h1 : x4 < x0 + x1) : x0 + x1 - (x2 + 1) + (x0 + x1) - 1 - x3 < x0 + x1 := Or.elim (Nat.le_total (x0 + x1) (x2 + 1)) (fun k1 => qp3 (@qc5 (((((x0 + x1) - (x2 + 1)) + (x0 + x1)) - 1) - x3) x0 x1 ((x0 + x1) - (x2 + 1)) ((((x0 + x1) - (x2 + 1)) + (x0 + x1)) - 1)) qs0 (qA qv1 qv2) qv3 qk0 qs4 (qA qv3 (qA qv1 qv2)) qv0 qv4 qt (qy (k1)) (qx (qp1 (@qc4 ((x0 + x1) - (x2 + 1)) x0 x1 x4) qk1 (qA qv0 (qA qv1 qv2)) qs3 (qA qv1 qv2) qt h1)) qu) (fun k2 => Or.elim (Nat.le_total ((((x0 + x1) - (x2 + 1)) + (x0 + x1)) - 1) x3) (fun k3 => qp2 (@qc4 (((((x0 + x1) - (x2 + 1)) + (x0 + x1)) - 1) - x3) x0 x1 x4) qs0 (qA qv1 qv2) qs3 (qA qv1 qv2) qv0 qk0 qt h1 (qy (k3))) (fun k4 => qp3 (@qc6 (((((x0 + x1) - (x2 + 1)) + (x0 + x1)) - 1) - x3) x0 x1 ((x0 + x1) - (x2 + 1)) x3 ((((x0 + x1) - (x2 + 1)) + (x0 + x1)) - 1)) qs0 (qA qv1 qv2) qv3 qv4 qs5 (qA qv3 (qA qv1 qv2)) (qA qv0 qv4) qv5 qt h0 (qx (qp1 (@qc4 ((x0 + x1) - (x2 + 1)) x0 x1 x4) qk1 (qA qv0 (qA qv1 qv2)) qs3 (qA qv1 qv2) qt h1)) (qx (k4))))
theorem oq64 {x0 : Nat} {x1 : Nat} {x2 : Nat} : x0 + (x1 + 1) - (x2 + 1 + 1) = x0 + x1 - (x2 + 1) := Or.elim (Nat.le_total (x0 + (x1 + 1)) ((x2 + 1) + 1)) (fun k1 => Nat.le_antisymm (qp1 (@qc2 ((x0 + (x1 + 1)) - ((x2 + 1) + 1)) ((x0 + x1) - (x2 + 1))) qv0 qv1 qv0 qk0 qt (qy (k1))) (qp1 (@qc2 ((x0 + x1) - (x2 + 1)) ((x0 + (x1 + 1)) - ((x2 + 1) + 1))) qv0 qv1 qv0 qk0 qt (qy (qp1 (@qc3 x0 x1 x2) (qA qv0 qv1) qs2 (qA qv0 qs1) (qA qs2 qk1) qt k1)))) (fun k2 => Nat.le_antisymm (qp2 (@qc5 ((x0 + (x1 + 1)) - ((x2 + 1) + 1)) ((x0 + x1) - (x2 + 1)) x2 x0 x1) qv0 qv1 (qA qv0 (qA qs2 qk1)) (qA qv3 qs4) (qA qv3 qv4) (qA qv1 qs2) qt (qx (k2)) qw) (qp2 (@qc5 ((x0 + x1) - (x2 + 1)) ((x0 + (x1 + 1)) - ((x2 + 1) + 1)) x0 x1 x2) qv0 qv1 (qA qv2 qs3) (qA qv1 (qA qs4 qk1)) (qA qv0 qs4) (qA qv2 qv3) qt qw (qx (qp1 (@qc3 x2 x0 x1) qs0 (qA qv1 qv2) (qA qs0 qk1) (qA qv1 qs2) qt k2))))
theorem oq65 {x0 : Nat} {x1 : Nat} {x2 : Nat} : x0 + x1 - (x2 + 1) ≤ x0 + x1 - 1 := Or.elim (Nat.le_total (x0 + x1) (x2 + 1)) (fun k1 => qp1 (@qc2 ((x0 + x1) - (x2 + 1)) ((x0 + x1) - 1)) qv0 qv1 qv0 qk0 qt (qy (k1))) (fun k2 => qp2 (@qc5 ((x0 + x1) - (x2 + 1)) ((x0 + x1) - 1) x2 x0 x1) qv0 qv1 (qA qv0 qs2) (qA qv3 qv4) (qA qv3 qv4) qs1 qt (qx (k2)) qw)
theorem oq66 {x0 : Nat} {x1 : Nat} {x2 : Nat} (h0 : x0 < x1 + (x2 + 1)) (h1 : ¬x0 = x1 + x2) : x0 < x1 + x2 := Or.elim (Nat.lt_or_gt_of_ne h1) (fun k1 => k1) (fun k2 => qf2 (@qc3 x0 x1 x2) qs0 (qA qv1 qs2) (qA (qA qv1 qv2) qk1) qv0 qt h0 k2)
theorem oq67 {x0 : Nat} {x1 : Nat} {x2 : Nat} {x3 : Nat} {x4 : Nat} {x5 : Nat} {x6 : Nat} (h0 : x0 + x1 ≤ x2) (h1 : x3 < x1 - (x4 + 1)) (h2 : x5 = x2) (h3 : x4 + 1 + x3 = x6) : x0 + x6 < x5 := Or.elim (Nat.le_total x1 (x4 + 1)) (fun k1 => qf2 (@qc2 x3 (x1 - (x4 + 1))) qs0 qv1 qv1 qk0 qt h1 (qy (k1))) (fun k2 => qp5 (@qc8 x0 x6 x5 x1 x2 x3 (x1 - (x4 + 1)) x4) (qA (qA qv0 qv1) qk1) qv2 (qA qv0 qv3) qv4 qs5 qv6 qv4 qv2 qv1 (qA qs7 qv5) (qA qv6 qs7) qv3 qt h0 h1 (qi h2) (qi h3) (qx (k2)))
theorem oq68 {x0 : Nat} {x1 : Nat} {x2 : Nat} (h0 : x0 < x1 - (x2 + 1)) : x2 + 1 + (x0 + 1) ≤ x1 := Or.elim (Nat.le_total x1 (x2 + 1)) (fun k1 => qf2 (@qc2 x0 (x1 - (x2 + 1))) qs0 qv1 qv1 qk0 qt h0 (qy (k1))) (fun k2 => qp2 (@qc4 x2 x0 x1 (x1 - (x2 + 1))) (qA qs0 qs1) qv2 qs1 qv3 (qA qv3 qs0) qv2 qt h0 (qx (k2)))
theorem oq69 {x0 : Nat} {x1 : Nat} {x2 : Nat} {x3 : Nat} {x4 : Nat} {x5 : Nat} (h0 : x0 + x1 ≤ x2) (h1 : x3 < x1 - (x4 + 1)) (h2 : x4 + 1 + (x3 + 1) = x5 + 1) : x0 + x5 < x2 := Or.elim (Nat.le_total x1 (x4 + 1)) (fun k1 => qf2 (@qc2 x3 (x1 - (x4 + 1))) qs0 qv1 qv1 qk0 qt h1 (qy (k1))) (fun k2 => qp4 (@qc7 x0 x5 x2 x1 x3 (x1 - (x4 + 1)) x4) (qA (qA qv0 qv1) qk1) qv2 (qA qv0 qv3) qv2 qs4 qv5 qs1 (qA qs6 qs4) (qA qv5 qs6) qv3 qt h0 h1 (qi h2) (qx (k2)))
theorem oq70 {x0 : Nat} {x1 : Nat} {x2 : Nat} {x3 : Nat} {x4 : Nat} (h0 : x0 + 1 + (x1 + 1) = x2 + 1) : x3 + x2 - (x4 + 1) < x3 + x2 := Or.elim (Nat.le_total (x3 + x2) (x4 + 1)) (fun k1 => qp2 (@qc5 ((x3 + x2) - (x4 + 1)) x3 x2 x0 x1) qs0 (qA qv1 qv2) (qA qs3 qs4) qs2 qv0 qk0 qt (qe h0) (qy (k1))) (fun k2 => qp1 (@qc4 ((x3 + x2) - (x4 + 1)) x3 x2 x4) qs0 (qA qv1 qv2) (qA qv0 qs3) (qA qv1 qv2) qt (qx (k2)))
theorem oq71 {x0 : Nat} {x1 : Nat} {x2 : Nat} : x0 + x1 - (x2 + 1) + (x0 + x1) - 1 - (x0 + x1 - 1) = x0 + x1 - (x2 + 1) := Or.elim (Nat.le_total (x0 + x1) (x2 + 1)) (fun k1 => Or.elim (Nat.le_total (((x0 + x1) - (x2 + 1)) + (x0 + x1)) 1) (fun k3 => Nat.le_antisymm (qp2 (@qc3 (((((x0 + x1) - (x2 + 1)) + (x0 + x1)) - 1) - ((x0 + x1) - 1)) ((x0 + x1) - (x2 + 1)) ((((x0 + x1) - (x2 + 1)) + (x0 + x1)) - 1)) qv0 qv1 qv2 qk0 qv0 qv2 qt (qy (k3)) qu) (qp1 (@qc2 ((x0 + x1) - (x2 + 1)) (((((x0 + x1) - (x2 + 1)) + (x0 + x1)) - 1) - ((x0 + x1) - 1))) qv0 qv1 qv0 qk0 qt (qy (k1)))) (fun k4 => Nat.le_antisymm (qp3 (@qc6 (((((x0 + x1) - (x2 + 1)) + (x0 + x1)) - 1) - ((x0 + x1) - 1)) ((x0 + x1) - (x2 + 1)) ((((x0 + x1) - (x2 + 1)) + (x0 + x1)) - 1) x0 x1 ((x0 + x1) - 1)) qv0 qv1 qs2 (qA qv1 (qA qv3 qv4)) (qA qv3 qv4) qs5 (qA qv0 qv5) qv2 qt (qx (k4)) qw (qx (qp2 (@qc5 ((x0 + x1) - 1) ((((x0 + x1) - (x2 + 1)) + (x0 + x1)) - 1) ((x0 + x1) - (x2 + 1)) x0 x1) qv0 qv1 (qA qv2 (qA qv3 qv4)) qs1 qs0 (qA qv3 qv4) qt qw (qx (qp2 (@qc3 x0 x1 ((x0 + x1) - (x2 + 1))) qk1 (qA qv0 qv1) qk1 (qA qv2 (qA qv0 qv1)) qv2 qk0 qt k4 (qy (k1))))))) (qp1 (@qc2 ((x0 + x1) - (x2 + 1)) (((((x0 + x1) - (x2 + 1)) + (x0 + x1)) - 1) - ((x0 + x1) - 1))) qv0 qv1 qv0 qk0 qt (qy (k1))))) (fun k2 => Nat.le_antisymm (qp3 (@qc6 (((((x0 + x1) - (x2 + 1)) + (x0 + x1)) - 1) - ((x0 + x1) - 1)) ((x0 + x1) - (x2 + 1)) ((((x0 + x1) - (x2 + 1)) + (x0 + x1)) - 1) x0 x1 ((x0 + x1) - 1)) qv0 qv1 qs2 (qA qv1 (qA qv3 qv4)) (qA qv3 qv4) qs5 (qA qv0 qv5) qv2 qt (qx (qp1 (@qc4 ((x0 + x1) - (x2 + 1)) x0 x1 x2) qk1 (qA qv0 (qA qv1 qv2)) qs3 (qA qv1 qv2) qt k2)) qw (qx (qp2 (@qc5 ((x0 + x1) - 1) ((((x0 + x1) - (x2 + 1)) + (x0 + x1)) - 1) ((x0 + x1) - (x2 + 1)) x0 x1) qv0 qv1 (qA qv2 (qA qv3 qv4)) qs1 qs0 (qA qv3 qv4) qt qw (qx (qp1 (@qc3 x0 x1 x2) qk1 (qA qv0 qv1) qs2 (qA qv0 qv1) qt k2))))) (qp3 (@qc6 ((x0 + x1) - (x2 + 1)) (((((x0 + x1) - (x2 + 1)) + (x0 + x1)) - 1) - ((x0 + x1) - 1)) x0 x1 ((((x0 + x1) - (x2 + 1)) + (x0 + x1)) - 1) ((x0 + x1) - 1)) qv0 qv1 (qA qv0 (qA qv2 qv3)) qs4 qs5 (qA qv2 qv3) qv4 (qA qv1 qv5) qt qw (qx (qp1 (@qc3 x0 x1 x2) qk1 (qA qv0 qv1) qs2 (qA qv0 qv1) qt k2)) qw))
theorem oq72 {x0 : Nat} {x1 : Nat} {x2 : Nat} {x3 : Nat} {x4 : Nat} {x5 : Nat} {x6 : Nat} (h0 : x0 + x1 ≤ x2) (h1 : x3 < x1 - (x4 + 1)) (h2 : x5 = x2) (h3 : x4 + 1 + (x3 + 1) = x6 + 1) : x0 + x6 < x5 := Or.elim (Nat.le_total x1 (x4 + 1)) (fun k1 => qf2 (@qc2 x3 (x1 - (x4 + 1))) qs0 qv1 qv1 qk0 qt h1 (qy (k1))) (fun k2 => qp5 (@qc8 x0 x6 x5 x1 x2 x3 (x1 - (x4 + 1)) x4) (qA (qA qv0 qv1) qk1) qv2 (qA qv0 qv3) qv4 qs5 qv6 qv4 qv2 qs1 (qA qs7 qs5) (qA qv6 qs7) qv3 qt h0 h1 (qi h2) (qi h3) (qx (k2)))
theorem oq73 {x0 : Nat} {x1 : Nat} : x0 + (x0 + x1) - 1 - (x0 + x1 - 1) = x0 := Or.elim (Nat.le_total (x0 + (x0 + x1)) 1) (fun k1 => Nat.le_antisymm (qp2 (@qc3 (((x0 + (x0 + x1)) - 1) - ((x0 + x1) - 1)) x0 ((x0 + (x0 + x1)) - 1)) qv0 qv1 qv2 qk0 qv0 qv2 qt (qy (k1)) qu) (qg (@qc3 x0 (((x0 + (x0 + x1)) - 1) - ((x0 + x1) - 1)) x1) qv0 qv1 1 (qA qv0 (qA qv0 qv2)) qk1 qt k1)) (fun k2 => Nat.le_antisymm (qp3 (@qc5 (((x0 + (x0 + x1)) - 1) - ((x0 + x1) - 1)) x0 ((x0 + (x0 + x1)) - 1) x1 ((x0 + x1) - 1)) qv0 qv1 qs2 (qA qv1 (qA qv1 qv3)) (qA qv1 qv3) qs4 (qA qv0 qv4) qv2 qt (qx (k2)) qw (qx (qp2 (@qc4 ((x0 + x1) - 1) ((x0 + (x0 + x1)) - 1) x0 x1) qv0 qv1 (qA qv2 (qA qv2 qv3)) qs1 qs0 (qA qv2 qv3) qt qw (qx (qg (@qc2 x0 x1) qk1 (qA qv0 qv1) 1 qk1 (qA qv0 (qA qv0 qv1)) qt k2))))) (qp3 (@qc5 x0 (((x0 + (x0 + x1)) - 1) - ((x0 + x1) - 1)) x1 ((x0 + (x0 + x1)) - 1) ((x0 + x1) - 1)) qv0 qv1 (qA qv0 (qA qv0 qv2)) qs3 qs4 (qA qv0 qv2) qv3 (qA qv1 qv4) qt qw (qx (qg (@qc2 x0 x1) qk1 (qA qv0 qv1) 1 qk1 (qA qv0 (qA qv0 qv1)) qt k2)) qw))
theorem oq74 {x0 : Nat} {x1 : Nat} (h0 : x0 ≤ x1) : x0 - 1 ≤ x1 - 1 := Or.elim (Nat.le_total x0 1) (fun k1 => qp1 (@qc2 (x0 - 1) (x1 - 1)) qv0 qv1 qv0 qk0 qt (qy (k1))) (fun k2 => qp3 (@qc4 (x0 - 1) (x1 - 1) x0 x1) qv0 qv1 qv2 qv3 qs0 qv2 qv3 qs1 qt h0 (qx (k2)) qw)
theorem oq75 {x0 : Nat} (h0 : 1 ≤ x0) : max x0 1 = x0 := Nat.le_antisymm (Nat.le_of_eq (Nat.max_eq_left (h0))) (Nat.le_max_left _ _)
theorem oq76 {x0 : Nat} {x1 : Nat} {x2 : Nat} {x3 : Nat} {x4 : Nat} {x5 : Nat} {x6 : Nat} (h0 : x0 + x1 ≤ x2) (h1 : x3 < x1 - x4) (h2 : x4 + x3 = x5) (h3 : x6 = x2) : x0 + x5 < x6 := Or.elim (Nat.le_total x1 x4) (fun k1 => qf2 (@qc2 x3 (x1 - x4)) qs0 qv1 qv1 qk0 qt h1 (qy (k1))) (fun k2 => qp5 (@qc8 x0 x5 x6 x1 x2 x3 (x1 - x4) x4) (qA (qA qv0 qv1) qk1) qv2 (qA qv0 qv3) qv4 qs5 qv6 qv1 (qA qv7 qv5) qv4 qv2 (qA qv6 qv7) qv3 qt h0 h1 (qi h2) (qi h3) (qx (k2)))
theorem oq77 {x0 : Nat} {x1 : Nat} {x2 : Nat} {x3 : Nat} {x4 : Nat} {x5 : Nat} {x6 : Nat} {x7 : Nat} {x8 : Nat} (h0 : x0 + x1 ≤ x2) (h1 : x3 < x1 - x4) (h2 : x4 + x3 = x5) (h3 : x6 = x2) (h4 : x7 ≤ x8) (h5 : x8 ≤ x5) : x0 + (x7 + x8) / 2 < x6 := Or.elim (Nat.le_total x1 x4) (fun k1 => qf2 (@qc2 x3 (x1 - x4)) qs0 qv1 qv1 qk0 qt h1 (qy (k1))) (fun k2 => qg (@qc11 x0 ((x7 + x8) / 2) x6 x1 x2 x3 (x1 - x4) x5 x4 x7 x8) (qA (qA qv0 qv1) qk1) qv2 1 (qA (qA (qA (qA (qA (qA (qA (qM 2 (qA qv0 qv3)) (qM 2 qs5)) (qM 2 qv7)) (qM 2 qv4)) qv9) (qM 2 qv10)) (qM 2 (qA qv6 qv8))) (qM 2 qv1)) (qA (qA (qA (qA (qA (qA (qA (qM 2 qv4) (qM 2 qv6)) (qM 2 (qA qv8 qv5))) (qM 2 qv2)) qv10) (qM 2 qv7)) (qM 2 qv3)) (qA qv9 qv10)) qt (Nat.add_le_add (Nat.add_le_add (Nat.add_le_add (Nat.add_le_add (Nat.add_le_add (Nat.add_le_add (Nat.add_le_add (Nat.mul_le_mul_left 2 h0) (Nat.mul_le_mul_left 2 h1)) (Nat.mul_le_mul_left 2 (qi h2))) (Nat.mul_le_mul_left 2 (qi h3))) h4) (Nat.mul_le_mul_left 2 h5)) (Nat.mul_le_mul_left 2 (qx (k2)))) (Nat.mul_div_le _ 2)))
theorem oq78 {x0 : Nat} {x1 : Nat} (h0 : ¬x0 ≥ x1) : x0 ≤ (x0 + x1) / 2 := qg (@qc3 x0 ((x0 + x1) / 2) x1) qv0 qv1 1 (qA qs0 (qA (qA qv0 qv2) qk1)) (qA qv2 (qM 2 qs1)) qt (Nat.add_le_add (qn h0) (Nat.lt_mul_div_succ _ (Nat.succ_pos 1)))
theorem oq79 {x0 : Nat} {x1 : Nat} {x2 : Nat} (h0 : x0 ≤ x1) (h1 : x1 ≤ x2) : (x0 + x1) / 2 ≤ x2 := qg (@qc4 ((x0 + x1) / 2) x2 x0 x1) qv0 qv1 1 (qA (qA qv2 (qM 2 qv3)) (qM 2 qv0)) (qA (qA qv3 (qM 2 qv1)) (qA qv2 qv3)) qt (Nat.add_le_add (Nat.add_le_add h0 (Nat.mul_le_mul_left 2 h1)) (Nat.mul_div_le _ 2))
theorem oq80 {x0 : Nat} {x1 : Nat} {x2 : Nat} {x3 : Nat} (h0 : x0 - x1 ≤ x2 - x3) : (x1 + x0) / 2 - x1 ≤ x2 - (x3 + 1) := Or.elim (Nat.le_total x0 x1) (fun k1 => qp1 (@qc2 (((x1 + x0) / 2) - x1) (x2 - (x3 + 1))) qv0 qv1 qv0 qk0 qt (qy (qg (@qc3 ((x1 + x0) / 2) x1 x0) qv0 qv1 1 (qA qv2 (qM 2 qv0)) (qA qv1 (qA qv1 qv2)) qt (Nat.add_le_add k1 (Nat.mul_div_le _ 2))))) (fun k2 => Or.elim (Nat.le_total x2 x3) (fun k3 => qg (@qc7 (((x1 + x0) / 2) - x1) (x2 - (x3 + 1)) (x0 - x1) (x2 - x3) x0 x1 ((x1 + x0) / 2)) qv0 qv1 1 (qA (qA (qA (qA qv2 qv4) qv3) (qM 2 qv6)) (qM 2 (qA qv0 qv5))) (qA (qA (qA (qA qv3 (qA qv2 qv5)) qk0) (qA qv5 qv4)) (qM 2 qv6)) qt (Nat.add_le_add (Nat.add_le_add (Nat.add_le_add (Nat.add_le_add h0 qw) (qy (k3))) (Nat.mul_div_le _ 2)) (Nat.mul_le_mul_left 2 (qx (qg (@qc3 x1 ((x1 + x0) / 2) x0) qv0 qv1 1 (qA qv0 (qA (qA qv0 qv2) qk1)) (qA qv2 (qM 2 qs1)) qt (Nat.add_le_add k2 (Nat.lt_mul_div_succ _ (Nat.succ_pos 1)))))))) (fun k4 => qg (@qc9 (((x1 + x0) / 2) - x1) (x2 - (x3 + 1)) (x0 - x1) (x2 - x3) x0 x1 x3 x2 ((x1 + x0) / 2)) qv0 qv1 1 (qA (qA (qA (qA (qA qv2 qv4) (qA qv3 qv6)) (qM 2 qv8)) (qM 2 (qA qv0 qv5))) qv7) (qA (qA (qA (qA (qA qv3 (qA qv2 qv5)) qv7) (qA qv5 qv4)) (qM 2 qv8)) (qA qv1 qs6)) qt (Nat.add_le_add (Nat.add_le_add (Nat.add_le_add (Nat.add_le_add (Nat.add_le_add h0 qw) (qx (k4))) (Nat.mul_div_le _ 2)) (Nat.mul_le_mul_left 2 (qx (qg (@qc3 x1 ((x1 + x0) / 2) x0) qv0 qv1 1 (qA qv0 (qA (qA qv0 qv2) qk1)) (qA qv2 (qM 2 qs1)) qt (Nat.add_le_add k2 (Nat.lt_mul_div_succ _ (Nat.succ_pos 1))))))) qw)))
theorem oq81 {x0 : Nat} {x1 : Nat} {x2 : Nat} {x3 : Nat} {x4 : Nat} {x5 : Nat} {x6 : Nat} {x7 : Nat} {x8 : Nat} (h0 : x0 + x1 ≤ x2) (h1 : x3 < x1 - x4) (h2 : x4 + x3 = x5) (h3 : x6 = x2) (h4 : x7 ≤ x5) (h5 : ¬x8 ≥ x7) : x0 + (x8 + x7) / 2 < x6 := Or.elim (Nat.le_total x1 x4) (fun k1 => qf2 (@qc2 x3 (x1 - x4)) qs0 qv1 qv1 qk0 qt h1 (qy (k1))) (fun k2 => qg (@qc11 x0 ((x8 + x7) / 2) x6 x1 x2 x3 (x1 - x4) x5 x4 x7 x8) (qA (qA qv0 qv1) qk1) qv2 1 (qA (qA (qA (qA (qA (qA (qA (qM 2 (qA qv0 qv3)) (qM 2 qs5)) (qM 2 qv7)) (qM 2 qv4)) (qM 2 qv9)) qs10) (qM 2 (qA qv6 qv8))) (qM 2 qv1)) (qA (qA (qA (qA (qA (qA (qA (qM 2 qv4) (qM 2 qv6)) (qM 2 (qA qv8 qv5))) (qM 2 qv2)) (qM 2 qv7)) qv9) (qM 2 qv3)) (qA qv10 qv9)) qt (Nat.add_le_add (Nat.add_le_add (Nat.add_le_add (Nat.add_le_add (Nat.add_le_add (Nat.add_le_add (Nat.add_le_add (Nat.mul_le_mul_left 2 h0) (Nat.mul_le_mul_left 2 h1)) (Nat.mul_le_mul_left 2 (qi h2))) (Nat.mul_le_mul_left 2 (qi h3))) (Nat.mul_le_mul_left 2 h4)) (qn h5)) (Nat.mul_le_mul_left 2 (qx (k2)))) (Nat.mul_div_le _ 2)))
theorem oq82 {x0 : Nat} {x1 : Nat} {x2 : Nat} : x0 ≤ x0 + (x1 + x2) / 2 := qp0 (@qc2 x0 ((x1 + x2) / 2)) qv0 (qA qv0 qv1) qt 
theorem oq83 {x0 : Nat} {x1 : Nat} {x2 : Nat} {x3 : Nat} (h0 : (x0 + x1) / 2 ≤ x2) : x3 + (x0 + x1) / 2 ≤ x3 + x2 := qp1 (@qc3 x3 ((x0 + x1) / 2) x2) (qA qv0 qv1) (qA qv0 qv2) qv1 qv2 qt h0
theorem oq84 {x0 : Nat} {x1 : Nat} (h0 : ¬x0 ≥ x1) : (x0 + x1) / 2 + 1 ≤ x1 := qg (@qc3 ((x0 + x1) / 2) x1 x0) qs0 qv1 1 (qA qs2 (qM 2 qv0)) (qA qv1 (qA qv2 qv1)) qt (Nat.add_le_add (qn h0) (Nat.mul_div_le _ 2))
theorem oq85 {x0 : Nat} {x1 : Nat} {x2 : Nat} {x3 : Nat} (h0 : x0 - x1 ≤ x2 - x3) : x0 - ((x1 + x0) / 2 + 1) ≤ x2 - (x3 + 1) := Or.elim (Nat.le_total x0 x1) (fun k1 => qp1 (@qc2 (x0 - (((x1 + x0) / 2) + 1)) (x2 - (x3 + 1))) qv0 qv1 qv0 qk0 qt (qy (qg (@qc3 x0 ((x1 + x0) / 2) x1) qv0 qs1 1 (qA qv0 (qA (qA qv2 qv0) qk1)) (qA qv2 (qM 2 qs1)) qt (Nat.add_le_add k1 (Nat.lt_mul_div_succ _ (Nat.succ_pos 1)))))) (fun k2 => Or.elim (Nat.le_total x2 x3) (fun k3 => qp1 (@qc2 (x0 - (((x1 + x0) / 2) + 1)) (x2 - (x3 + 1))) qv0 qv1 qv0 qk0 qt (qy (qg (@qc5 x0 ((x1 + x0) / 2) (x0 - x1) (x2 - x3) x1) qv0 qs1 1 (qA (qA (qA qv2 qv0) qv3) (qA (qA qv4 qv0) qk1)) (qA (qA (qA qv3 (qA qv2 qv4)) qk0) (qM 2 qs1)) qt (Nat.add_le_add (Nat.add_le_add (Nat.add_le_add h0 qw) (qy (k3))) (Nat.lt_mul_div_succ _ (Nat.succ_pos 1)))))) (fun k4 => Or.elim (Nat.le_total x0 (((x1 + x0) / 2) + 1)) (fun k5 => qp1 (@qc2 (x0 - (((x1 + x0) / 2) + 1)) (x2 - (x3 + 1))) qv0 qv1 qv0 qk0 qt (qy (k5))) (fun k6 => qp7 (@qc9 (x0 - (((x1 + x0) / 2) + 1)) (x2 - (x3 + 1)) (x0 - x1) (x2 - x3) ((x1 + x0) / 2) x0 x1 x3 x2) qv0 qv1 qv2 qv3 qs4 qv5 qv5 (qA qv2 qv6) (qA qv3 qv7) qv8 (qA (qA qv6 qv5) qk1) (qM 2 qs4) (qA qv0 qs4) qv5 qv8 (qA qv1 qs7) qt h0 k6 qw (qx (k4)) (Nat.lt_mul_div_succ _ (Nat.succ_pos 1)) (qx (k6)) qw)))
theorem oq86 {x0 : Nat} {x1 : Nat} {x2 : Nat} {x3 : Nat} (h0 : x0 < (x1 + x2) / 2 + 1) : x3 + x0 ≤ x3 + (x1 + x2) / 2 := qp1 (@qc3 x3 x0 ((x1 + x2) / 2)) (qA qv0 qv1) (qA qv0 qv2) qs1 qs2 qt h0
theorem oq87 {x0 : Nat} {x1 : Nat} {x2 : Nat} {x3 : Nat} (h0 : x0 ≤ x1) (h1 : ¬x2 ≥ x0) : x3 + (x2 + x0) / 2 < x3 + x1 := qg (@qc5 x3 ((x2 + x0) / 2) x1 x0 x2) (qA (qA qv0 qv1) qk1) (qA qv0 qv2) 1 (qA (qA (qM 2 qv3) qs4) (qM 2 qv1)) (qA (qA (qM 2 qv2) qv3) (qA qv4 qv3)) qt (Nat.add_le_add (Nat.add_le_add (Nat.mul_le_mul_left 2 h0) (qn h1)) (Nat.mul_div_le _ 2))
theorem oq88 {x0 : Nat} {x1 : Nat} {x2 : Nat} {x3 : Nat} (h0 : x0 < x1) : ¬x0 = x1 + x2 - (x1 + x2 - (x1 + x3)) := fun k1 => Or.elim (Nat.le_total (x1 + x2) (x1 + x3)) (fun k2 => qf4 (@qc5 x0 x1 ((x1 + x2) - ((x1 + x2) - (x1 + x3))) ((x1 + x2) - (x1 + x3)) x2) qs0 qv1 qv2 qv0 qv3 qk0 (qA qv1 qv4) (qA qv2 qv3) qt h0 (qi k1) (qy (k2)) qw) (fun k3 => qf4 (@qc6 x0 x1 ((x1 + x2) - ((x1 + x2) - (x1 + x3))) ((x1 + x2) - (x1 + x3)) x3 x2) qs0 qv1 qv2 qv0 (qA qv3 (qA qv1 qv4)) (qA qv1 qv5) (qA qv1 qv5) (qA qv2 qv3) qt h0 (qi k1) (qx (k3)) qw)
theorem oq89 {x0 : Nat} {x1 : Nat} {x2 : Nat} {x3 : Nat} (h0 : x0 < x1) : ¬(x1 + x2 - (x1 + x2 - (x1 + x3)) < x0 ∧ x0 ≤ x1 + x2) := fun k1 => Or.elim (Nat.le_total (x1 + x2) (x1 + x3)) (fun k2 => qf4 (@qc5 ((x1 + x2) - ((x1 + x2) - (x1 + x3))) x0 x1 x2 ((x1 + x2) - (x1 + x3))) qs0 qv1 qv1 (qA qv2 qv3) qv4 qk0 (qA qv2 qv3) (qA qv0 qv4) qt (And.left k1) (And.right k1) (qy (k2)) qw) (fun k3 => qf4 (@qc6 x0 x1 ((x1 + x2) - ((x1 + x2) - (x1 + x3))) ((x1 + x2) - (x1 + x3)) x3 x2) qs0 qv1 qs2 qv0 (qA qv3 (qA qv1 qv4)) (qA qv1 qv5) (qA qv1 qv5) (qA qv2 qv3) qt h0 (And.left k1) (qx (k3)) qw)
theorem oq90 {x0 : Nat} {x1 : Nat} (h0 : x0 + 1 < x1) : min x0 x1 = x0 := Nat.le_antisymm (Nat.min_le_left _ _) (Nat.le_of_eq (Eq.symm (Nat.min_eq_left (qp1 (@qc2 x0 x1) qv0 qv1 (qA qs0 qk1) qv1 qt h0))))
theorem oq91 {x0 : Nat} {x1 : Nat} {x2 : Nat} {x3 : Nat} (h0 : x0 < min x1 (x2 - x3)) : x3 + x0 < x3 + x1 := qp2 (@qc4 x3 x0 x1 (min x1 (x2 - x3))) (qA (qA qv0 qv1) qk1) (qA qv0 qv2) qs1 qv3 qv3 qv2 qt h0 (Nat.min_le_left _ _)
theorem oq92 {x0 : Nat} {x1 : Nat} {x2 : Nat} {x3 : Nat} {x4 : Nat} {x5 : Nat} (h0 : x0 = x1) (h1 : x2 = x3) (h2 : x4 ≤ x0 - x3) (h3 : x2 + x5 = x1) : min x4 x5 = x4 := Nat.le_antisymm (Nat.min_le_left _ _) (Nat.le_of_eq (Eq.symm (Nat.min_eq_left (qp5 (@qc7 x4 x5 x0 x1 x2 x3 (x0 - x3)) qv0 qv1 qv2 qv3 qv4 qv5 qv0 qv6 qv3 (qA qv4 qv1) (qA qv6 qv5) qv2 qt (qe h0) (qe h1) h2 (qi h3) (qx (qp3 (@qc5 x3 x0 x1 x2 x5) qv0 qv1 qv2 qv1 qv0 qv3 (qA qv3 qv4) qv2 qt (qi h0) (qi h1) (qe h3)))))))
theorem oq93 {x0 : Nat} {x1 : Nat} {x2 : Nat} {x3 : Nat} {x4 : Nat} {x5 : Nat} (h0 : x0 = x1) (h1 : x2 = x1) (h2 : ¬x3 ≥ x0) (h3 : x4 = x2) : x3 + min (x0 - x3) x5 ≤ x4 := qp5 (@qc7 x3 (min (x0 - x3) x5) x4 x0 x1 x2 (x0 - x3)) (qA qv0 qv1) qv2 qv3 qv4 qv4 qv5 qv5 qv2 (qA qv6 qv0) qv3 qv1 qv6 qt (qe h0) (qi h1) (qi h3) (qx (qp1 (@qc2 x3 x0) qv0 qv1 qs0 qv1 qt (qn h2))) (Nat.min_le_left _ _)
theorem oq94 {x0 : Int} {x1 : Int} {x2 : Int} : x0 + x1 + x2 = x0 + (x2 + x1) := by omega
theorem oq95 {x0 : Int} (h0 : 0 < x0) : x0 ≠ 0 := by omega
theorem oq96 {x0 : Int} {x1 : Int} (h0 : x0 < x1) : min x1 x0 = x0 := by omega
theorem oq97 {x0 : Int} {x1 : Int} (h0 : ¬x0 < x1) : min x1 x0 = x1 := by omega
theorem oq98 {x0 : Int} {x1 : Int} (h0 : x0 > x1) : max x1 x0 = x0 := by omega
theorem oq99 {x0 : Int} {x1 : Int} (h0 : ¬x0 > x1) : max x1 x0 = x1 := by omega
theorem oq100 {x0 : Nat} {x1 : Nat} {x2 : Nat} {x3 : Nat} (h0 : x0 ≤ x1) : min x2 x0 - x3 ≤ x1 := qp3 (@qc4 ((min x2 x0) - x3) x1 x0 (min x2 x0)) qv0 qv1 qv2 qv1 qv3 qv2 qv0 qv3 qt h0 (Nat.min_le_right _ _) qu
theorem oq101 {x0 : Nat} (h0 : ¬0 < ((x0 : Nat) : Int)) : 0 = x0 := Nat.le_antisymm (qp0 (@qc1 x0) qk0 qv0 qt ) (qm (fun z => h0 (Int.ofNat_lt.mpr z)))
theorem oq102 {x0 : Nat} {x1 : Nat} : min x0 x1 ≤ x0 := Nat.min_le_left _ _
theorem oq103 {x0 : Nat} (h0 : x0 ≤ 1000) : ((x0 : Nat) : Int) < 4611686018427387904 := Int.ofNat_lt.mpr (show x0 < 4611686018427387904 from qp1 (@qc1 x0) qs0 (qN 4611686018427387904) qv0 (qN 1000) qt h0)
theorem oq104 {x0 : Nat} (h0 : x0 < 1000) : ((x0 : Nat) : Int) < 4611686018427387904 := Int.ofNat_lt.mpr (show x0 < 4611686018427387904 from qp1 (@qc1 x0) qs0 (qN 4611686018427387904) qs0 (qN 1000) qt h0)
theorem oq105 {x0 : Nat} {x1 : Nat} {x2 : Nat} (h0 : x0 ≤ 100) (h1 : x1 < x0) (h2 : x2 ≤ 1000) : (1 ≤ ((x0 : Nat) : Int) ∧ ((x0 : Nat) : Int) ≤ 100) ∧ x1 < x0 ∧ ((x2 : Nat) : Int) ≤ 1000 := ⟨⟨Int.ofNat_le.mpr (show 1 ≤ x0 from qp1 (@qc2 x0 x1) qk1 qv0 qs1 qv0 qt h1), Int.ofNat_le.mpr (show x0 ≤ 100 from h0)⟩, ⟨h1, Int.ofNat_le.mpr (show x2 ≤ 1000 from h2)⟩⟩
theorem oq106 {x0 : Nat} {x1 : Nat} {x2 : Nat} {x3 : Nat} (h0 : x0 = 16777216) (h1 : x1 ≤ 1000) (h2 : x2 ≤ min x3 x1) : x2 < x0 := qp4 (@qc4 x2 x0 x1 (min x3 x1)) qs0 qv1 (qN 16777216) qv1 qv2 (qN 1000) qv0 qv3 qv3 qv2 qt (qi h0) h1 h2 (Nat.min_le_right _ _)
theorem oq107 {x0 : Nat} {x1 : Nat} {x2 : Nat} {x3 : Nat} {x4 : Nat} (h0 : x0 < x1) (h1 : x2 < x1) (h2 : x3 ≤ 1) (h3 : x4 ≤ 1) : x0 < x1 ∧ x2 < x1 ∧ ((x3 : Nat) : Int) ≤ 1 ∧ ((x4 : Nat) : Int) ≤ 1 := ⟨h0, ⟨h1, ⟨Int.ofNat_le.mpr (show x3 ≤ 1 from h2), Int.ofNat_le.mpr (show x4 ≤ 1 from h3)⟩⟩⟩
theorem oq108 {x0 : Nat} {x1 : Nat} (h0 : x0 = 94) (h1 : ((x1 : Nat) : Int) < 94) : x1 < x0 ∧ x1 < 1000 := ⟨qp2 (@qc2 x1 x0) qs0 qv1 (qN 94) qv1 qs0 (qN 94) qt (qi h0) (show x1 < 94 from Int.ofNat_lt.mp h1), qp1 (@qc1 x1) qs0 (qN 1000) qs0 (qN 94) qt (show x1 < 94 from Int.ofNat_lt.mp h1)⟩
theorem oq109 {x0 : Nat} (h0 : ((x0 : Nat) : Int) < 4) : x0 = 0 ∨ x0 = 1 ∨ x0 = 2 ∨ x0 = 3 := (Classical.em (x0 = 0)).elim (fun k1 => Or.inl k1) (fun k2 => Or.inr ((Classical.em (x0 = 1)).elim (fun k3 => Or.inl k3) (fun k4 => Or.inr ((Classical.em (x0 = 2)).elim (fun k5 => Or.inl k5) (fun k6 => Or.inr (Or.elim (Nat.lt_or_gt_of_ne k4) (fun k7 => Nat.le_antisymm (qf2 (@qc1 x0) qk1 qv0 qs0 qk1 qt (Nat.pos_of_ne_zero k2) k7) (qf2 (@qc1 x0) qk1 qv0 qs0 qk1 qt (Nat.pos_of_ne_zero k2) k7)) (fun k8 => Or.elim (Nat.lt_or_gt_of_ne k6) (fun k9 => Nat.le_antisymm (qf2 (@qc1 x0) (qA qk1 qk1) qv0 qs0 qk2 qt k8 k9) (qf2 (@qc1 x0) (qA qk1 qk1) qv0 qs0 qk2 qt k8 k9)) (fun k10 => Nat.le_antisymm (qp1 (@qc1 x0) qv0 qk3 qs0 qk4 qt (show x0 < 4 from Int.ofNat_lt.mp h0)) (qp1 (@qc1 x0) qk3 qv0 (qA qk2 qk1) qv0 qt k10)))))))))
theorem oq110 {x0 : Nat} {x1 : Nat} (h0 : ¬x0 < x1) (h1 : ¬x0 = x1) : x0 - x1 = x0 - x1 - 1 + 1 := Or.elim (Nat.lt_or_gt_of_ne h1) (fun k1 => Nat.le_antisymm (qw) (qx (qf2 (@qc2 x1 x0) qv0 qv1 qs1 qv0 qt (qm h0) k1))) (fun k2 => Nat.le_antisymm (qw) (qx (qp2 (@qc3 (x0 - x1) x1 x0) qk1 qv0 qs1 qv2 qv2 (qA qv0 qv1) qt k2 qw)))
theorem oq111 {x0 : Nat} {x1 : Nat} {x2 : Nat} (h0 : ¬x0 = x1) : x2 + x0 ≠ x2 + x1 := fun k1 => Or.elim (Nat.lt_or_gt_of_ne h0) (fun k2 => qf2 (@qc3 x2 x1 x0) (qA qv0 qv1) (qA qv0 qv2) qs2 qv1 qt (qi k1) k2) (fun k3 => qf2 (@qc3 x2 x0 x1) (qA qv0 qv1) (qA qv0 qv2) qs2 qv1 qt (qe k1) k3)
theorem oq112 {x0 : Nat} {x1 : Nat} : ((x0 : Nat) : Int) = ((x1 : Nat) : Int) ↔ x0 = x1 := ⟨fun k1 => Nat.le_antisymm (qe (show x0 = x1 from Int.ofNat_inj.mp k1)) (qi (show x0 = x1 from Int.ofNat_inj.mp k1)), fun k2 => Int.ofNat_inj.mpr (show x0 = x1 from Nat.le_antisymm (qe k2) (qi k2))⟩
theorem oq113 {x0 : Nat} {x1 : Nat} (h0 : ((x0 : Nat) : Int) = ((x1 : Nat) : Int)) : x0 = x1 := Nat.le_antisymm (qe (show x0 = x1 from Int.ofNat_inj.mp h0)) (qi (show x0 = x1 from Int.ofNat_inj.mp h0))
theorem oq114 {x0 : Nat} {x1 : Nat} (h0 : ¬x0 ≤ x1) : ¬((x0 : Nat) : Int) ≤ ((x1 : Nat) : Int) := fun k1 => qf2 (@qc2 x1 x0) qs0 qv1 qv1 qv0 qt (qn h0) (show x0 ≤ x1 from Int.ofNat_le.mp k1)
theorem oq115 {x0 : Nat} {x1 : Nat} (h0 : x0 ≤ x1) : x0 ≤ min x0 x1 := Nat.le_of_eq (Eq.symm (Nat.min_eq_left (h0)))
theorem oq116 {x0 : Nat} {x1 : Nat} {x2 : Nat} (h0 : x0 ≤ min x1 x2) : x0 ≤ x2 := qp2 (@qc3 x0 x2 (min x1 x2)) qv0 qv1 qv0 qv2 qv2 qv1 qt h0 (Nat.min_le_right _ _)
theorem oq117 {x0 : Nat} {x1 : Nat} {x2 : Nat} {x3 : Nat} {x4 : Nat} (h0 : x0 < 1000000) (h1 : x1 = 16777216) (h2 : x2 ≤ x0) (h3 : x3 ≤ min x4 x2) : x3 < x1 := qp5 (@qc5 x3 x1 x0 x2 (min x4 x2)) qs0 qv1 qs2 (qN 1000000) (qN 16777216) qv1 qv3 qv2 qv0 qv4 qv4 qv3 qt h0 (qi h1) h2 h3 (Nat.min_le_right _ _)
theorem oq118 {x0 : Nat} {x1 : Nat} (h0 : ((x0 : Nat) : Int) ≤ ((x1 : Nat) : Int)) : x0 ≤ x1 := show x0 ≤ x1 from Int.ofNat_le.mp h0
theorem oq119 {x0 : Nat} (h0 : ((x0 : Nat) : Int) < 5) : x0 < 2147483648 := qp1 (@qc1 x0) qs0 (qN 2147483648) qs0 (qN 5) qt (show x0 < 5 from Int.ofNat_lt.mp h0)
theorem oq120 {x0 : Nat} (h0 : ((x0 : Nat) : Int) < 3) : ((x0 + 1 : Nat) : Int) < 4 := Int.ofNat_lt.mpr (show (x0 + 1) < 4 from qp1 (@qc1 x0) (qA qs0 qk1) qk4 qs0 qk3 qt (show x0 < 3 from Int.ofNat_lt.mp h0))
theorem oq121 {x0 : Nat} {x1 : Nat} {x2 : Nat} {x3 : Nat} {x4 : Nat} (h0 : x0 = 16777216) (h1 : ((x1 : Nat) : Int) < 5) (h2 : x2 ≤ x3) (h3 : x3 < x1) (h4 : x4 ≤ 1) : x2 + x4 ≤ x0 := qp5 (@qc5 x2 x4 x0 x1 x3) (qA qv0 qv1) qv2 (qN 16777216) qv2 qs3 (qN 5) qv0 qv4 qs4 qv3 qv1 qk1 qt (qi h0) (show x1 < 5 from Int.ofNat_lt.mp h1) h2 h3 h4
theorem oq122 {x0 : Nat} : 1 + ((x0 : Nat) : Int) = ((x0 + 1 : Nat) : Int) := Int.ofNat_inj.mpr (show (1 + x0) = (x0 + 1) from Nat.le_antisymm (qp0 (@qc1 x0) (qA qk1 qv0) qs0 qt ) (qp0 (@qc1 x0) qs0 (qA qk1 qv0) qt ))
theorem oq123 {x0 : Nat} {x1 : Nat} (h0 : ((x0 : Nat) : Int) < 5) (h1 : x1 ≤ x0) : x1 < 5 := qp2 (@qc2 x1 x0) qs0 (qN 5) qs1 (qN 5) qv0 qv1 qt (show x0 < 5 from Int.ofNat_lt.mp h0) h1
theorem oq124 {x0 : Nat} (h0 : 0 < x0) : 0 < ((x0 : Nat) : Int) := Int.ofNat_lt.mpr (show 0 < x0 from h0)
theorem oq125 {x0 : Nat} {x1 : Nat} (h0 : ((x0 : Nat) : Int) < ((x1 : Nat) : Int)) : x0 < x1 := show x0 < x1 from Int.ofNat_lt.mp h0
theorem oq126 {x0 : Nat} {x1 : Nat} (h0 : ((x0 : Nat) : Int) < ((x1 : Nat) : Int)) : ((x1 : Nat) : Int) ≠ 0 := fun k1 => qf2 (@qc2 x0 x1) qs0 qv1 qv1 qk0 qt (show x0 < x1 from Int.ofNat_lt.mp h0) (qe (show x1 = 0 from Int.ofNat_inj.mp k1))
theorem oq127 {x0 : Nat} (h0 : ((x0 : Nat) : Int) < 5) : x0 + 1 ≤ 5 := show x0 < 5 from Int.ofNat_lt.mp h0
theorem oq128 {x0 : Nat} (h0 : 1 ≤ x0) : 0 < ((x0 : Nat) : Int) := Int.ofNat_lt.mpr (show 0 < x0 from qp1 (@qc1 x0) (qA qk0 qk1) qv0 qk1 qv0 qt h0)
theorem oq129 {x0 : Nat} (h0 : 1 ≤ x0) : ((x0 : Nat) : Int) ≠ 0 := fun k1 => qf2 (@qc1 x0) qk1 qv0 qv0 qk0 qt h0 (qe (show x0 = 0 from Int.ofNat_inj.mp k1))
theorem oq130 {x0 : Nat} {x1 : Nat} (h0 : x0 ≤ 5) (h1 : x1 ≤ x0) : x1 + min 1 x1 ≤ 10 := qp3 (@qc3 x1 (min 1 x1) x0) (qA qv0 qv1) (qN 10) qv2 (qN 5) qv0 qv2 qv1 qk1 qt h0 h1 (Nat.min_le_left _ _)
theorem oq131 {x0 : Nat} {x1 : Nat} (h0 : ¬x0 = x1) (h1 : ((x0 : Nat) : Int) = ((x1 : Nat) : Int)) : False := Or.elim (Nat.lt_or_gt_of_ne h0) (fun k1 => qf2 (@qc2 x1 x0) qv0 qv1 qs1 qv0 qt (qi (show x0 = x1 from Int.ofNat_inj.mp h1)) k1) (fun k2 => qf2 (@qc2 x0 x1) qv0 qv1 qs1 qv0 qt (qe (show x0 = x1 from Int.ofNat_inj.mp h1)) k2)
theorem oq132 {x0 : Nat} {x1 : Nat} {x2 : Nat} {x3 : Nat} {x4 : Nat} {x5 : Nat} (h0 : x0 ≤ 100) (h1 : x1 = 16777216) (h2 : x2 ≤ x3) (h3 : x3 < x0) (h4 : x4 ≤ min x5 x2) : x4 < x1 := qp6 (@qc6 x4 x1 x0 x2 x3 (min x5 x2)) qs0 qv1 qv2 (qN 100) (qN 16777216) qv1 qv3 qv4 qs4 qv2 qv0 qv5 qv5 qv3 qt h0 (qi h1) h2 h3 h4 (Nat.min_le_right _ _)
theorem oq133 {x0 : Nat} (h0 : x0 < 3) : x0 = 0 ∨ x0 = 1 ∨ x0 = 2 := (Classical.em (x0 = 0)).elim (fun k1 => Or.inl k1) (fun k2 => Or.inr ((Classical.em (x0 = 1)).elim (fun k3 => Or.inl k3) (fun k4 => Or.inr (Or.elim (Nat.lt_or_gt_of_ne k4) (fun k5 => Nat.le_antisymm (qf2 (@qc1 x0) qk1 qv0 qs0 qk1 qt (Nat.pos_of_ne_zero k2) k5) (qf2 (@qc1 x0) qk1 qv0 qs0 qk1 qt (Nat.pos_of_ne_zero k2) k5)) (fun k6 => Nat.le_antisymm (qp1 (@qc1 x0) qv0 qk2 qs0 qk3 qt h0) (qp1 (@qc1 x0) qk2 qv0 (qA qk1 qk1) qv0 qt k6))))))
theorem oq134 {x0 : Nat} (h0 : x0 ≤ 5) : x0 = 0 ∨ x0 = 1 ∨ x0 = 2 ∨ x0 = 3 ∨ x0 = 4 ∨ x0 = 5 := (Classical.em (x0 = 0)).elim (fun k1 => Or.inl k1) (fun k2 => Or.inr ((Classical.em (x0 = 1)).elim (fun k3 => Or.inl k3) (fun k4 => Or.inr ((Classical.em (x0 = 2)).elim (fun k5 => Or.inl k5) (fun k6 => Or.inr ((Classical.em (x0 = 3)).elim (fun k7 => Or.inl k7) (fun k8 => Or.inr ((Classical.em (x0 = 4)).elim (fun k9 => Or.inl k9) (fun k10 => Or.inr (Or.elim (Nat.lt_or_gt_of_ne k4) (fun k11 => Nat.le_antisymm (qf2 (@qc1 x0) qk1 qv0 qs0 qk1 qt (Nat.pos_of_ne_zero k2) k11) (qf2 (@qc1 x0) qk1 qv0 qs0 qk1 qt (Nat.pos_of_ne_zero k2) k11)) (fun k12 => Or.elim (Nat.lt_or_gt_of_ne k6) (fun k13 => Nat.le_antisymm (qf2 (@qc1 x0) (qA qk1 qk1) qv0 qs0 qk2 qt k12 k13) (qf2 (@qc1 x0) (qA qk1 qk1) qv0 qs0 qk2 qt k12 k13)) (fun k14 => Or.elim (Nat.lt_or_gt_of_ne k8) (fun k15 => Nat.le_antisymm (qf2 (@qc1 x0) (qA qk2 qk1) qv0 qs0 qk3 qt k14 k15) (qf2 (@qc1 x0) (qA qk2 qk1) qv0 qs0 qk3 qt k14 k15)) (fun k16 => Or.elim (Nat.lt_or_gt_of_ne k10) (fun k17 => Nat.le_antisymm (qf2 (@qc1 x0) (qA qk3 qk1) qv0 qs0 qk4 qt k16 k17) (qf2 (@qc1 x0) (qA qk3 qk1) qv0 qs0 qk4 qt k16 k17)) (fun k18 => Nat.le_antisymm (h0) (qp1 (@qc1 x0) (qN 5) qv0 (qA qk4 qk1) qv0 qt k18)))))))))))))))
theorem oq135 {x0 : Nat} {x1 : Nat} (h0 : x0 = 0 ∧ x1 = 6 ∨ x0 = 1 ∧ x1 = 6 ∨ x0 = 2 ∧ x1 = 61) : 1 ≤ x1 ∧ x1 ≤ 61 := ⟨Or.elim h0 (fun k1 => qp1 (@qc1 x1) qk1 qv0 (qN 6) qv0 qt (qi (And.right k1))) (fun k2 => Or.elim k2 (fun k3 => qp1 (@qc1 x1) qk1 qv0 (qN 6) qv0 qt (qi (And.right k3))) (fun k4 => qp1 (@qc1 x1) qk1 qv0 (qN 61) qv0 qt (qi (And.right k4)))), Or.elim h0 (fun k5 => qp1 (@qc1 x1) qv0 (qN 61) qv0 (qN 6) qt (qe (And.right k5))) (fun k6 => Or.elim k6 (fun k7 => qp1 (@qc1 x1) qv0 (qN 61) qv0 (qN 6) qt (qe (And.right k7))) (fun k8 => qe (And.right k8)))⟩
theorem oq136 {x0 : Nat} (h0 : 1 ≤ x0 ∧ x0 ≤ 61) : 0 < ((x0 : Nat) : Int) := Int.ofNat_lt.mpr (show 0 < x0 from qp1 (@qc1 x0) (qA qk0 qk1) qv0 qk1 qv0 qt (And.left h0))
theorem oq137 {x0 : Nat} {x1 : Nat} (h0 : 1 ≤ x0 ∧ x0 ≤ 61) (h1 : ((x1 : Nat) : Int) < ((x0 : Nat) : Int)) : x1 ≤ 200 := qp2 (@qc2 x1 x0) qv0 (qN 200) qv1 (qN 61) qs0 qv1 qt (And.right h0) (show x1 < x0 from Int.ofNat_lt.mp h1)
theorem oq138 {x0 : Nat} {x1 : Nat} {x2 : Nat} (h0 : 1 ≤ x0 ∧ x0 ≤ 61) (h1 : ((x1 : Nat) : Int) < ((x0 : Nat) : Int)) (h2 : x2 ≤ x1) : x2 ≤ 1000 := qp3 (@qc3 x2 x0 x1) qv0 (qN 1000) qv1 (qN 61) qs2 qv1 qv0 qv2 qt (And.right h0) (show x1 < x0 from Int.ofNat_lt.mp h1) h2
theorem oq139 {x0 : Nat} {x1 : Nat} {x2 : Nat} {x3 : Nat} (h0 : 1 ≤ x0 ∧ x0 ≤ 61) (h1 : ((x1 : Nat) : Int) < ((x0 : Nat) : Int)) (h2 : x2 ≤ x1) (h3 : x3 ≤ x2) : x3 ≤ 60 := qp4 (@qc4 x3 x0 x1 x2) qv0 (qN 60) qv1 (qN 61) qs2 qv1 qv3 qv2 qv0 qv3 qt (And.right h0) (show x1 < x0 from Int.ofNat_lt.mp h1) h2 h3
theorem oq140 {x0 : Nat} {x1 : Nat} {x2 : Nat} {x3 : Nat} {x4 : Nat} (h0 : x0 = 0 ∧ x1 = 6 ∨ x0 = 1 ∧ x1 = 6 ∨ x0 = 2 ∧ x1 = 61) (h1 : ((x2 : Nat) : Int) < ((x1 : Nat) : Int)) (h2 : x3 ≤ x2) (h3 : x4 ≤ x3) (h4 : x0 ≠ 2) : x4 ≤ 5 := Or.elim h0 (fun k1 => qp4 (@qc4 x4 x2 x1 x3) qv0 (qN 5) qs1 qv2 qv3 qv1 qv0 qv3 qv2 (qN 6) qt (show x2 < x1 from Int.ofNat_lt.mp h1) h2 h3 (qe (And.right k1))) (fun k2 => Or.elim k2 (fun k3 => qp4 (@qc4 x4 x2 x1 x3) qv0 (qN 5) qs1 qv2 qv3 qv1 qv0 qv3 qv2 (qN 6) qt (show x2 < x1 from Int.ofNat_lt.mp h1) h2 h3 (qe (And.right k3))) (fun k4 => Or.elim (Nat.lt_or_gt_of_ne h4) (fun k5 => qf2 (@qc1 x0) qk2 qv0 qs0 qk2 qt (qi (And.left k4)) k5) (fun k6 => qf2 (@qc1 x0) qv0 qk2 (qA qk2 qk1) qv0 qt (qe (And.left k4)) k6)))
theorem oq141 {x0 : Nat} (h0 : ((x0 : Nat) : Int) = 2) : x0 = 2 := Nat.le_antisymm (qe (show x0 = 2 from Int.ofNat_inj.mp h0)) (qi (show x0 = 2 from Int.ofNat_inj.mp h0))
theorem oq142 {x0 : Nat} {x1 : Nat} : min (((x0 : Nat) : Int)) (80 * ((x1 : Nat) : Int)) = ((min x0 (80 * x1) : Nat) : Int) := by omega
theorem oq143 {x0 : Nat} {x1 : Nat} (h0 : x0 < 80) : min x0 (80 * x1) < 80 := qp2 (@qc2 (min x0 (80 * x1)) x0) qs0 (qN 80) qs1 (qN 80) qv0 qv1 qt h0 (Nat.min_le_left _ _)
theorem oq144 {x0 : Nat} : min 12 x0 - 4 ≤ 14 := qp2 (@qc2 ((min 12 x0) - 4) (min 12 x0)) qv0 (qN 14) qv1 (qN 12) qv0 qv1 qt (Nat.min_le_left _ _) qu
theorem oq145 {x0 : Nat} (h0 : ((x0 : Nat) : Int) < 3) : x0 < 3 := show x0 < 3 from Int.ofNat_lt.mp h0
theorem oq146 {x0 : Nat} {x1 : Nat} (h0 : x0 = 0 ∧ x1 = 3 ∨ x0 = 1 ∧ x1 = 9 ∨ x0 = 2 ∧ x1 = 80) : 1 ≤ x1 ∧ x1 ≤ 80 := ⟨Or.elim h0 (fun k1 => qp1 (@qc1 x1) qk1 qv0 qk3 qv0 qt (qi (And.right k1))) (fun k2 => Or.elim k2 (fun k3 => qp1 (@qc1 x1) qk1 qv0 (qN 9) qv0 qt (qi (And.right k3))) (fun k4 => qp1 (@qc1 x1) qk1 qv0 (qN 80) qv0 qt (qi (And.right k4)))), Or.elim h0 (fun k5 => qp1 (@qc1 x1) qv0 (qN 80) qv0 qk3 qt (qe (And.right k5))) (fun k6 => Or.elim k6 (fun k7 => qp1 (@qc1 x1) qv0 (qN 80) qv0 (qN 9) qt (qe (And.right k7))) (fun k8 => qe (And.right k8)))⟩
theorem oq147 {x0 : Nat} (h0 : 1 ≤ x0 ∧ x0 ≤ 80) : 0 < ((x0 : Nat) : Int) := Int.ofNat_lt.mpr (show 0 < x0 from qp1 (@qc1 x0) (qA qk0 qk1) qv0 qk1 qv0 qt (And.left h0))
theorem oq148 {x0 : Nat} {x1 : Nat} (h0 : 1 ≤ x0 ∧ x0 ≤ 80) (h1 : ((x1 : Nat) : Int) < ((x0 : Nat) : Int)) : x1 < 80 := qp2 (@qc2 x1 x0) qs0 (qN 80) qv1 (qN 80) qs0 qv1 qt (And.right h0) (show x1 < x0 from Int.ofNat_lt.mp h1)
theorem oq149 {x0 : Nat} {x1 : Nat} {x2 : Nat} (h0 : x0 = 0 ∧ x1 = 3 ∨ x0 = 1 ∧ x1 = 9 ∨ x0 = 2 ∧ x1 = 80) (h1 : ((x2 : Nat) : Int) < ((x1 : Nat) : Int)) (h2 : x0 = 0) : x2 ≤ 2 := Or.elim h0 (fun k1 => qp2 (@qc2 x2 x1) qv0 qk2 qs0 qv1 qv1 qk3 qt (show x2 < x1 from Int.ofNat_lt.mp h1) (qe (And.right k1))) (fun k2 => Or.elim k2 (fun k3 => qf2 (@qc1 x0) qv0 qk0 qk1 qv0 qt (qe h2) (qi (And.left k3))) (fun k4 => qf2 (@qc1 x0) qv0 qk0 qk2 qv0 qt (qe h2) (qi (And.left k4))))
theorem oq150 {x0 : Nat} (h0 : ((x0 : Nat) : Int) = 1) : x0 = 1 := Nat.le_antisymm (qe (show x0 = 1 from Int.ofNat_inj.mp h0)) (qi (show x0 = 1 from Int.ofNat_inj.mp h0))
end Tw
end
section
namespace Tw

/-! Abstract values, heap, syntax, and the weakest precondition over them. -/

inductive V where
  | none
  | bool (b : Bool)
  | int (i : Int)
  | str (s : List Nat)
  | tup (vs : List V)
  | rng (a b c : Int)
  | ref (n : Nat)

noncomputable instance : DecidableEq V := fun _ _ => Classical.propDecidable _

inductive MO where
  | list (vs : List V)
  | frz (vs : List V)
  | dict (es : List (V × V)) (ver : Nat)

abbrev H := List MO
abbrev Rho := Nat → Option V
abbrev SZ : Nat := 16777216

/-- Values seen through the heap: what `==` compares. -/
inductive D where
  | none
  | bool (b : Bool)
  | int (i : Int)
  | str (s : List Nat)
  | tup (vs : List D)
  | list (vs : List D)

noncomputable instance : DecidableEq D := fun _ _ => Classical.propDecidable _

/-- no bool within (True == 1 is not modelled here), and not too deep -/
noncomputable def D.ok : Nat → D → Bool
  | 0, _ => false
  | _ + 1, .bool _ => false
  | n + 1, .tup vs => vs.all (D.ok n)
  | n + 1, .list vs => vs.all (D.ok n)
  | _ + 1, _ => true

mutual
/-- what a value is, seen through the heap -/
inductive Snap (h : H) : V → D → Prop
  | none : Snap h .none .none
  | bool (b : Bool) : Snap h (.bool b) (.bool b)
  | int (i : Int) : Snap h (.int i) (.int i)
  | str (s : List Nat) : Snap h (.str s) (.str s)
  | tup {vs : List V} {ds : List D} : Snaps h vs ds → Snap h (.tup vs) (.tup ds)
  | list {n : Nat} {vs : List V} {ds : List D} : h[n]? = some (.list vs) → Snaps h vs ds → Snap h (.ref n) (.list ds)
inductive Snaps (h : H) : List V → List D → Prop
  | nil : Snaps h [] []
  | cons {v : V} {vs : List V} {d : D} {ds : List D} : Snap h v d → Snaps h vs ds → Snaps h (v :: vs) (d :: ds)
end

noncomputable def V.isAtom : V → Bool
  | .int _ => true
  | .str _ => true
  | _ => false
/-- what may be a dict's key here: an int, a str, a tuple of these -/
noncomputable def V.isKey : V → Bool
  | .int _ => true
  | .str _ => true
  | .tup vs => vs.all V.isAtom
  | _ => false

noncomputable def dget (es : List (V × V)) (k : V) : Option V := (es.find? fun e => decide (e.1 = k)).map (·.2)
noncomputable def dput (es : List (V × V)) (k v : V) : List (V × V) :=
  if (dget es k).isSome then es.map (fun e => if e.1 = k then (e.1, v) else e) else es ++ [(k, v)]
/-! order of Python for sorting -/
inductive Bop where | add | sub | mul | fdiv | mod
inductive Cmp where | eq | ne | lt | le | gt | ge | isIn | notIn | is | isNot
inductive Bi where | len | range | list | dict | sorted | int | min | max
inductive Ty where | int | bool | list | tuple | str
inductive Mt where | append | reverse | pop | dpop | clear | index | update | get | join | startswith

inductive Tgt where
  | name (i : Nat)
  | tup (is : List Nat)

inductive E where
  | lit (v : V)
  | var (i : Nat)
  | bin (op : Bop) (a b : E)
  | neg (a : E)
  | not (a : E)
  | and (a b : E)
  | or (a b : E)
  | cmp (op : Cmp) (a b : E)
  | cmp2 (op1 op2 : Cmp) (a b c : E)
  | sub (a i : E)
  | slice (a lo hi : E)
  | tup (es : List E)
  | list (es : List E)
  | dict0
  | dict1 (k v : E)
  | comp (elt : E) (tgt : Tgt) (iter : E) (cond : Option E)
  | call (f : Nat) (args : List E)
  | bi (b : Bi) (args : List E)
  | isinst (a : E) (t : Ty)
  | meth (m : Mt) (o : E) (args : List E)

inductive S where
  | assign (t : Tgt) (e : E)
  | store (o i e : E)
  | expr (e : E)
  | ite (t : E) (a b : List S)
  | while (t : E) (b : List S)
  | for (t : Tgt) (it : E) (b : List S)
  | ret (e : Option E)
  | raise

inductive Out where
  | next
  | ret (v : V)

structure Fn where
  arity : Nat
  body : List S

abbrev Ora := Nat → List V → H → (V → H → Prop) → Prop

noncomputable def upd (ρ : Rho) (i : Nat) (v : V) : Rho := fun j => if j = i then some v else ρ j
noncomputable def upds (ρ : Rho) : List Nat → List V → Rho
  | i :: is, v :: vs => upds (upd ρ i v) is vs
  | _, _ => ρ
/-! a value of a known kind -/
noncomputable def asInt (v : V) (k : Int → Prop) : Prop := match v with | .int i => k i | _ => False
noncomputable def asStr (v : V) (k : List Nat → Prop) : Prop := match v with | .str i => k i | _ => False
noncomputable def asTup (v : V) (k : List V → Prop) : Prop := match v with | .tup i => k i | _ => False
noncomputable def asRef (v : V) (k : Nat → Prop) : Prop := match v with | .ref i => k i | _ => False
noncomputable def asBool (v : V) (k : Bool → Prop) : Prop := match v with | .bool i => k i | _ => False
noncomputable def arg0 (vs : List V) (k : Prop) : Prop := match vs with | [] => k | _ => False
noncomputable def arg1 (vs : List V) (k : V → Prop) : Prop := match vs with | [v] => k v | _ => False

theorem asInt.inv {v : V} {k : Int → Prop} (h : asInt v k) : ∃ i, v = .int i ∧ k i := by cases v <;> first | exact ⟨_, rfl, h⟩ | exact h.elim
theorem asInt.mono {v : V} {k k' : Int → Prop} (m : ∀ i, k i → k' i) (h : asInt v k) : asInt v k' := by cases v <;> first | exact m _ h | exact h
theorem asStr.inv {v : V} {k : List Nat → Prop} (h : asStr v k) : ∃ i, v = .str i ∧ k i := by cases v <;> first | exact ⟨_, rfl, h⟩ | exact h.elim
theorem asStr.mono {v : V} {k k' : List Nat → Prop} (m : ∀ i, k i → k' i) (h : asStr v k) : asStr v k' := by cases v <;> first | exact m _ h | exact h
theorem asTup.mono {v : V} {k k' : List V → Prop} (m : ∀ i, k i → k' i) (h : asTup v k) : asTup v k' := by cases v <;> first | exact m _ h | exact h
theorem asRef.inv {v : V} {k : Nat → Prop} (h : asRef v k) : ∃ i, v = .ref i ∧ k i := by cases v <;> first | exact ⟨_, rfl, h⟩ | exact h.elim
theorem asRef.mono {v : V} {k k' : Nat → Prop} (m : ∀ i, k i → k' i) (h : asRef v k) : asRef v k' := by cases v <;> first | exact m _ h | exact h
theorem asBool.inv {v : V} {k : Bool → Prop} (h : asBool v k) : ∃ i, v = .bool i ∧ k i := by cases v <;> first | exact ⟨_, rfl, h⟩ | exact h.elim
theorem asBool.mono {v : V} {k k' : Bool → Prop} (m : ∀ i, k i → k' i) (h : asBool v k) : asBool v k' := by cases v <;> first | exact m _ h | exact h
theorem arg0.inv {vs : List V} {k : Prop} (h : arg0 vs k) : vs = [] ∧ k := by
  cases vs with
  | nil => exact ⟨rfl, h⟩
  | cons _ _ => exact h.elim
theorem arg0.mono {vs : List V} {k k' : Prop} (m : k → k') (h : arg0 vs k) : arg0 vs k' := by
  obtain ⟨rfl, h⟩ := h.inv; exact m h
theorem arg1.inv {vs : List V} {k : V → Prop} (h : arg1 vs k) : ∃ v, vs = [v] ∧ k v := by
  cases vs with
  | nil => exact h.elim
  | cons v r => cases r with
    | nil => exact ⟨v, rfl, h⟩
    | cons _ _ => exact h.elim
theorem arg1.mono {vs : List V} {k k' : V → Prop} (m : ∀ v, k v → k' v) (h : arg1 vs k) : arg1 vs k' := by
  obtain ⟨v, rfl, h⟩ := h.inv; exact m _ h

/-- a value that is there -/
noncomputable def vK (o : Option V) (k : V → Prop) : Prop := match o with | some v => k v | none => False
theorem vK.inv {o : Option V} {k : V → Prop} (h : vK o k) : ∃ v, o = some v ∧ k v := by cases o <;> first | exact ⟨_, rfl, h⟩ | exact h.elim
theorem vK.mono {o : Option V} {k k' : V → Prop} (m : ∀ v, k v → k' v) (h : vK o k) : vK o k' := by cases o <;> first | exact m _ h | exact h

noncomputable def bindT (t : Tgt) (v : V) (ρ : Rho) (Q : Rho → Prop) : Prop :=
  match t with
  | .name i => Q (upd ρ i v)
  | .tup is => asTup v fun vs => is.length = vs.length ∧ Q (upds ρ is vs)

/-! the operators -/
noncomputable def mulOk (a b : Int) : Prop := a.natAbs < 2 ^ 63 ∨ b.natAbs < 2 ^ 63

noncomputable def AddW (a b : V) (h : H) (Q : V → H → Prop) : Prop :=
  match a with
  | .int a => asInt b fun b => Q (.int (a + b)) h
  | .str a => asStr b fun b => a.length + b.length ≤ SZ ∧ Q (.str (a ++ b)) h
  | .ref m => asRef b fun n => ∃ a b, h[m]? = some (.list a) ∧ h[n]? = some (.list b) ∧ a.length + b.length ≤ SZ ∧ Q (.ref h.length) (h ++ [.list (a ++ b)])
  | _ => False
noncomputable def MulW (a b : V) (h : H) (Q : V → H → Prop) : Prop :=
  match a with
  | .int a => asInt b fun b => mulOk a b ∧ Q (.int (a * b)) h
  | _ => False
noncomputable def BinW (op : Bop) (a b : V) (h : H) (Q : V → H → Prop) : Prop :=
  match op with
  | .add => AddW a b h Q
  | .sub => asInt a fun a => asInt b fun b => Q (.int (a - b)) h
  | .mul => MulW a b h Q
  | .fdiv => asInt a fun a => asInt b fun b => b ≠ 0 ∧ b.natAbs < 1073741824 ∧ Q (.int (a.fdiv b)) h
  | .mod => asInt a fun a => asInt b fun b => b ≠ 0 ∧ Q (.int (a.fmod b)) h

noncomputable def truth (v : V) (_ : H) (Q : Bool → Prop) : Prop :=
  match v with
  | .none => Q false
  | .bool b => Q b
  | _ => False

noncomputable def EqG (a b : V) (h : H) (Q : Bool → Prop) : Prop := ∃ d₁ d₂, Snap h a d₁ ∧ Snap h b d₂ ∧ D.ok 9 d₁ = true ∧ D.ok 9 d₂ = true ∧ Q (decide (d₁ = d₂))
noncomputable def EqW (a b : V) (h : H) (Q : Bool → Prop) : Prop :=
  match a with
  | .bool a => asBool b fun b => Q (decide (a = b))
  | a => EqG a b h Q

noncomputable def InW (a b : V) (h : H) (Q : Bool → Prop) : Prop :=
  asRef b fun n => match h[n]? with
    | some (.list vs) => ∃ d ds, Snap h a d ∧ Snaps h vs ds ∧ D.ok 9 d = true ∧ (∀ d ∈ ds, D.ok 9 d = true) ∧ Q (decide (d ∈ ds))
    | some (.dict es _) => a.isKey = true ∧ Q (decide (a ∈ es.map (·.1)))
    | some (.frz _) => False
    | none => False

noncomputable def SameW (a b : V) (Q : Bool → Prop) : Prop :=
  match b with
  | .none => Q (decide (a = .none))
  | .bool c => asBool a fun d => Q (decide (d = c))
  | _ => False

noncomputable def CmpW (op : Cmp) (a b : V) (h : H) (Q : Bool → Prop) : Prop :=
  match op with
  | .eq => EqW a b h Q
  | .ne => EqW a b h (fun r => Q (!r))
  | .lt => asInt a fun a => asInt b fun b => Q (decide (a < b))
  | .le => asInt a fun a => asInt b fun b => Q (decide (a ≤ b))
  | .gt => asInt a fun a => asInt b fun b => Q (decide (b < a))
  | .ge => asInt a fun a => asInt b fun b => Q (decide (b ≤ a))
  | .isIn => InW a b h Q
  | .notIn => InW a b h (fun r => Q (!r))
  | .is => SameW a b Q
  | .isNot => SameW a b (fun r => Q (!r))

noncomputable def SubW (a i : V) (h : H) (Q : V → Prop) : Prop :=
  match a with
  | .tup vs => asInt i fun k => ∃ v, (0 ≤ k ∧ k < 2 ^ 62) ∧ vs[k.toNat]? = some v ∧ Q v
  | .str s => asInt i fun k => ∃ c, (0 ≤ k ∧ k < 2 ^ 62) ∧ s[k.toNat]? = some c ∧ Q (.str [c])
  | .ref n => match h[n]? with
    | some (.list vs) => asInt i fun k => (∃ v, (0 ≤ k ∧ k < 2 ^ 62) ∧ vs[k.toNat]? = some v ∧ Q v) ∨ (∃ v, k = -1 ∧ vs.getLast? = some v ∧ Q v)
    | some (.frz vs) => asInt i fun k => ∃ v, (0 ≤ k ∧ k < 2 ^ 62) ∧ vs[k.toNat]? = some v ∧ Q v
    | some (.dict es _) => i.isKey = true ∧ ∃ v, dget es i = some v ∧ Q v
    | none => False
  | _ => False

noncomputable def loOf : V → Option Nat
  | .none => some 0
  | .int k => if 0 ≤ k ∧ k < 2 ^ 62 then some k.toNat else none
  | _ => none
noncomputable def hiOf (n : Nat) : V → Option Nat
  | .none => some n
  | .int k => if 0 ≤ k ∧ k < 2 ^ 62 then some k.toNat else none
  | _ => none
noncomputable def SliceW (a lo hi : V) (h : H) (Q : V → H → Prop) : Prop :=
  match a with
  | .str s => ∃ i j, loOf lo = some i ∧ hiOf s.length hi = some j ∧ Q (.str ((s.take j).drop i)) h
  | .ref n => ∃ vs i j, (h[n]? = some (.list vs) ∨ h[n]? = some (.frz vs)) ∧ loOf lo = some i ∧ hiOf vs.length hi = some j ∧ Q (.ref h.length) (h ++ [.list ((vs.take j).drop i)])
  | _ => False

noncomputable def intsV (a c : Int) : Nat → List V
  | 0 => []
  | n + 1 => .int a :: intsV (a + c) c n
/-- the intsV of a range with a positive step -/
noncomputable def rangeLen (a b c : Int) : Nat := if a < b then ((b - a - 1) / c + 1).toNat else 0
noncomputable def rangeV (a b c : Int) : List V := intsV a c (rangeLen a b c)
noncomputable def smallI (a : Int) : Prop := -(2 ^ 31) ≤ a ∧ a < 2 ^ 31

noncomputable def LenW (v : V) (h : H) (Q : V → H → Prop) : Prop :=
  match v with
  | .str s => Q (.int s.length) h
  | .tup vs => Q (.int vs.length) h
  | .ref n => match h[n]? with
    | some (.list vs) => Q (.int vs.length) h
    | some (.frz vs) => Q (.int vs.length) h
    | some (.dict _ _) => False
    | none => False
  | _ => False
noncomputable def RangeW (vs : List V) (h : H) (Q : V → H → Prop) : Prop :=
  match vs with
  | [a] => asInt a fun b => smallI b ∧ Q (.rng 0 b 1) h
  | [a, b] => asInt a fun a => asInt b fun b => smallI a ∧ smallI b ∧ Q (.rng a b 1) h
  | [a, b, c] => asInt a fun a => asInt b fun b => asInt c fun c => smallI a ∧ smallI b ∧ smallI c ∧ 0 < c ∧ Q (.rng a b c) h
  | _ => False
noncomputable def ListW (v : V) (h : H) (Q : V → H → Prop) : Prop :=
  match v with
  | .ref n => match h[n]? with
    | some (.list vs) => vs.length ≤ SZ ∧ Q (.ref h.length) (h ++ [.list vs])
    | some (.frz _) => False
    | some (.dict es _) => Q (.ref h.length) (h ++ [.list (es.map (·.1))])
    | none => False
  | .rng a b c => rangeLen a b c ≤ SZ ∧ Q (.ref h.length) (h ++ [.list (rangeV a b c)])
  | _ => False
/-- what sorted goes through: a dict's keys, or a list -/
noncomputable def itemsAt (h : H) (n : Nat) (ks : List V) : Prop := (∃ es ver, h[n]? = some (.dict es ver) ∧ es.map (·.1) = ks) ∨ h[n]? = some (.list ks)
-- sorted(x): ints, strs, or pairs of ints
noncomputable def SortW (v : V) (h : H) (Q : V → H → Prop) : Prop :=
  asRef v fun n => ∃ vs, itemsAt h n vs ∧
    (False ∨
     (∃ ks, vs = List.map V.str ks ∧ ∀ ks' : List (List Nat), ks'.Perm ks → ks'.Pairwise (fun a b => ¬ b < a) → Q (.ref h.length) (h ++ [.list (ks'.map V.str)])) ∨
     False)
noncomputable def BiW (b : Bi) (vs : List V) (h : H) (Q : V → H → Prop) : Prop :=
  match b with
  | .len => arg1 vs fun v => LenW v h Q
  | .range => RangeW vs h Q
  | .list => arg1 vs fun v => ListW v h Q
  | .dict => False
  | .sorted => arg1 vs fun v => SortW v h Q
  | .int => False
  | .min => match vs with | [a, b] => asInt a fun a => asInt b fun b => Q (.int (min a b)) h | _ => False
  | .max => match vs with | [a, b] => asInt a fun a => asInt b fun b => Q (.int (max a b)) h | _ => False

noncomputable def tyEq : Ty → Ty → Bool
  | .int, .int => true
  | .bool, .bool => true
  | .list, .list => true
  | .tuple, .tuple => true
  | .str, .str => true
  | _, _ => false
noncomputable def IsW (v : V) (t : Ty) (h : H) (Q : Bool → Prop) : Prop :=
  match v with
  | .none => Q false
  | .bool _ => Q (tyEq t .bool || tyEq t .int)
  | .int _ => Q (tyEq t .int)
  | .str _ => Q (tyEq t .str)
  | .tup _ => Q (tyEq t .tuple)
  | .rng .. => False
  | .ref n => match h[n]? with
    | some (.list _) => Q (tyEq t .list)
    | some (.dict _ _) => Q false
    | some (.frz _) => False
    | none => False

noncomputable def recvOk (m : Mt) (v : V) (h : H) : Prop :=
  match m with
  | .append => asRef v fun n => ∃ vs, h[n]? = some (.list vs)
  | .reverse => asRef v fun n => ∃ vs, h[n]? = some (.list vs)
  | .clear => asRef v fun n => ∃ vs, h[n]? = some (.list vs)
  | .index => asRef v fun n => ∃ vs, h[n]? = some (.list vs)
  | .pop => asRef v fun n => ∃ vs, h[n]? = some (.list vs)
  | .dpop => asRef v fun n => ∃ es ver, h[n]? = some (.dict es ver)
  | .update => asRef v fun n => ∃ es ver, h[n]? = some (.dict es ver)
  | .get => asRef v fun n => ∃ es ver, h[n]? = some (.dict es ver)
  | .join => asStr v fun _ => True
  | .startswith => asStr v fun _ => True

noncomputable def isStrs : List V → Option (List (List Nat))
  | [] => some []
  | .str s :: r => (isStrs r).map (s :: ·)
  | _ :: _ => none

noncomputable def joinS (sep : List Nat) : List (List Nat) → List Nat
  | [] => []
  | [x] => x
  | x :: y :: r => x ++ sep ++ joinS sep (y :: r)

noncomputable def MethW (m : Mt) (o : V) (args : List V) (h : H) (Q : V → H → Prop) : Prop :=
  match m with
  | .append => asRef o fun n => arg1 args fun v => ∃ vs, h[n]? = some (.list vs) ∧ vs.length < SZ ∧ Q .none (h.set n (.list (vs ++ [v])))
  | .reverse => asRef o fun n => arg0 args (∃ vs, h[n]? = some (.list vs) ∧ Q .none (h.set n (.list vs.reverse)))
  | .clear => False
  | .pop => asRef o fun n => arg0 args (∃ vs v, h[n]? = some (.list (vs ++ [v])) ∧ Q v (h.set n (.list vs)))
  | .join => asStr o fun sep => arg1 args fun v => asRef v fun n => ∃ vs xs, h[n]? = some (.list vs) ∧ isStrs vs = some xs ∧ sep = [] ∧ (xs.map List.length).sum ≤ SZ ∧ Q (.str (joinS sep xs)) h
  | .dpop => False
  | .index => False
  | .update => False
  | .get => False
  | .startswith => False

noncomputable def StoreW (o i v : V) (h : H) (Q : H → Prop) : Prop :=
  asRef o fun n => match h[n]? with
    | some (.list _) => False
    | some (.dict es _) => i.isKey = true ∧ es.length < SZ ∧ ∀ ver, Q (h.set n (.dict (dput es i v) ver))
    | some (.frz _) => False
    | none => False

/-! iteration -/
inductive It where
  | vals (vs : List V)
  | seq (n i : Nat)
  | keys (n ver len i : Nat)

noncomputable def IterW (v : V) (h : H) (Q : It → Prop) : Prop :=
  match v with
  | .tup vs => Q (.vals vs)
  | .rng a b c => Q (.vals (rangeV a b c))
  | .ref n => match h[n]? with
    | some (.list _) => Q (.seq n 0)
    | some (.frz _) => False
    | some (.dict _ _) => False
    | none => False
  | _ => False

/-- one step of an iterator: the end, or an item and the iterator behind it -/
noncomputable def NextW (it : It) (h : H) (stop : Prop) (item : V → It → Prop) : Prop :=
  match it with
  | .vals [] => stop
  | .vals (v :: vs) => item v (.vals vs)
  | .seq n i => match h[n]? with
    | some (.list vs) => match vs[i]? with
      | none => stop
      | some v => item v (.seq n (i + 1))
    | some (.frz _) => False
    | some (.dict _ _) => False
    | none => False
  | .keys .. => False

noncomputable def forN (body : V → Rho → H → (Out → Rho → H → Prop) → Prop) : Nat → It → Rho → H → (Out → Rho → H → Prop) → Prop
  | 0, _, _, _, _ => False
  | f + 1, it, ρ, h, Q => NextW it h (Q .next ρ h) fun v it' =>
      body v ρ h fun o ρ' h' => match o with
        | .next => forN body f it' ρ' h' Q
        | .ret v => Q (.ret v) ρ' h'

noncomputable def whileN (test : Rho → H → (Bool → H → Prop) → Prop) (body : Rho → H → (Out → Rho → H → Prop) → Prop) : Nat → Rho → H → (Out → Rho → H → Prop) → Prop
  | 0, _, _, _ => False
  | f + 1, ρ, h, Q => test ρ h fun b h' => match b with
      | true => body ρ h' fun o ρ'' h'' => (match o with
        | .next => whileN test body f ρ'' h'' Q
        | .ret v => Q (.ret v) ρ'' h'')
      | false => Q .next ρ h'

/-- a comprehension: elt's values, gathered; `elt v h k`: binds v, tests, and hands on perhaps a value -/
noncomputable def compN (turn : V → H → (Option V → H → Prop) → Prop) : Nat → It → H → List V → (List V → H → Prop) → Prop
  | 0, _, _, _, _ => False
  | f + 1, it, h, out, Q => NextW it h (Q out h) fun v it' =>
      turn v h fun r h' => match r with
        | some x => out.length < SZ ∧ compN turn f it' h' (out ++ [x]) Q
        | none => compN turn f it' h' out Q

mutual
noncomputable def wpE (C : Ora) : E → Rho → H → (V → H → Prop) → Prop
  | .lit v, _, h, Q => Q v h
  | .var i, ρ, h, Q => vK (ρ i) fun v => Q v h
  | .bin op a b, ρ, h, Q => wpE C a ρ h fun va h₁ => wpE C b ρ h₁ fun vb h₂ => BinW op va vb h₂ Q
  | .neg a, ρ, h, Q => wpE C a ρ h fun v h₁ => asInt v fun i => Q (.int (-i)) h₁
  | .not a, ρ, h, Q => wpE C a ρ h fun v h₁ => truth v h₁ fun b => Q (.bool (!b)) h₁
  | .and a b, ρ, h, Q => wpE C a ρ h fun v h₁ => truth v h₁ fun t => match t with | true => wpE C b ρ h₁ Q | false => Q v h₁
  | .or a b, ρ, h, Q => wpE C a ρ h fun v h₁ => truth v h₁ fun t => match t with | true => Q v h₁ | false => wpE C b ρ h₁ Q
  | .cmp op a b, ρ, h, Q => wpE C a ρ h fun va h₁ => wpE C b ρ h₁ fun vb h₂ => CmpW op va vb h₂ fun r => Q (.bool r) h₂
  | .cmp2 op1 op2 a b c, ρ, h, Q => wpE C a ρ h fun va h₁ => wpE C b ρ h₁ fun vb h₂ => CmpW op1 va vb h₂ fun r => match r with
    | true => wpE C c ρ h₂ fun vc h₃ => CmpW op2 vb vc h₃ fun r => Q (.bool r) h₃
    | false => Q (.bool false) h₂
  | .sub a i, ρ, h, Q => wpE C a ρ h fun va h₁ => wpE C i ρ h₁ fun vi h₂ => SubW va vi h₂ fun v => Q v h₂
  | .slice a lo hi, ρ, h, Q => wpE C a ρ h fun va h₁ => wpE C lo ρ h₁ fun vl h₂ => wpE C hi ρ h₂ fun vh h₃ => SliceW va vl vh h₃ Q
  | .tup es, ρ, h, Q => wpEs C es ρ h fun vs h₁ => Q (.tup vs) h₁
  | .list es, ρ, h, Q => wpEs C es ρ h fun vs h₁ => Q (.ref h₁.length) (h₁ ++ [.list vs])
  | .dict0, _, h, Q => ∀ ver, Q (.ref h.length) (h ++ [.dict [] ver])
  | .dict1 k v, ρ, h, Q => wpE C k ρ h fun vk h₁ => wpE C v ρ h₁ fun vv h₂ => vk.isKey = true ∧ ∀ ver, Q (.ref h₂.length) (h₂ ++ [.dict [(vk, vv)] ver])
  | .comp elt tgt iter cond, ρ, h, Q => wpE C iter ρ h fun vi h₁ => IterW vi h₁ fun it => ∃ f,
      compN (fun v h k => bindT tgt v ρ fun ρ' => wpO C cond ρ' h fun b h₂ => match b with
        | true => wpE C elt ρ' h₂ fun x h₃ => k (some x) h₃
        | false => k none h₂) f it h₁ [] fun out h₂ => Q (.ref h₂.length) (h₂ ++ [.list out])
  | .call f args, ρ, h, Q => wpEs C args ρ h fun vs h₁ => C f vs h₁ Q
  | .bi b args, ρ, h, Q => wpEs C args ρ h fun vs h₁ => BiW b vs h₁ Q
  | .isinst a t, ρ, h, Q => wpE C a ρ h fun v h₁ => IsW v t h₁ fun r => Q (.bool r) h₁
  | .meth m o args, ρ, h, Q => wpE C o ρ h fun vo h₁ => recvOk m vo h₁ ∧ wpEs C args ρ h₁ fun vs h₂ => MethW m vo vs h₂ Q

noncomputable def wpEs (C : Ora) : List E → Rho → H → (List V → H → Prop) → Prop
  | [], _, h, Q => Q [] h
  | e :: es, ρ, h, Q => wpE C e ρ h fun v h₁ => wpEs C es ρ h₁ fun vs h₂ => Q (v :: vs) h₂

noncomputable def wpO (C : Ora) : Option E → Rho → H → (Bool → H → Prop) → Prop
  | none, _, h, Q => Q true h
  | some t, ρ, h, Q => wpT C t ρ h Q

noncomputable def wpT (C : Ora) : E → Rho → H → (Bool → H → Prop) → Prop
  | .not a, ρ, h, Q => wpT C a ρ h fun b h₁ => Q (!b) h₁
  | .and a b, ρ, h, Q => wpT C a ρ h fun t h₁ => match t with | true => wpT C b ρ h₁ Q | false => Q false h₁
  | .or a b, ρ, h, Q => wpT C a ρ h fun t h₁ => match t with | true => Q true h₁ | false => wpT C b ρ h₁ Q
  | .cmp op a b, ρ, h, Q => wpE C a ρ h fun va h₁ => wpE C b ρ h₁ fun vb h₂ => CmpW op va vb h₂ fun r => Q r h₂
  | .cmp2 op1 op2 a b c, ρ, h, Q => wpE C a ρ h fun va h₁ => wpE C b ρ h₁ fun vb h₂ => CmpW op1 va vb h₂ fun r => match r with
    | true => wpE C c ρ h₂ fun vc h₃ => CmpW op2 vb vc h₃ fun r => Q r h₃
    | false => Q false h₂
  | .lit v, _, h, Q => truth v h fun b => Q b h
  | .var i, ρ, h, Q => vK (ρ i) fun v => truth v h fun b => Q b h
  | .call f args, ρ, h, Q => wpEs C args ρ h fun vs h₁ => C f vs h₁ fun v h₂ => truth v h₂ fun b => Q b h₂
  | .isinst a t, ρ, h, Q => wpE C a ρ h fun v h₁ => IsW v t h₁ fun r => Q r h₁
  | .meth m o args, ρ, h, Q => wpE C o ρ h fun vo h₁ => recvOk m vo h₁ ∧ wpEs C args ρ h₁ fun vs h₂ => MethW m vo vs h₂ fun v h₃ => truth v h₃ fun b => Q b h₃
  | _, _, _, _ => False
end

mutual
noncomputable def wpS (C : Ora) : S → Rho → H → (Out → Rho → H → Prop) → Prop
  | .assign t e, ρ, h, Q => wpE C e ρ h fun v h₁ => bindT t v ρ fun ρ' => Q .next ρ' h₁
  | .store o i e, ρ, h, Q => wpE C e ρ h fun v h₁ => wpE C o ρ h₁ fun vo h₂ => wpE C i ρ h₂ fun vi h₃ => StoreW vo vi v h₃ fun h₄ => Q .next ρ h₄
  | .expr e, ρ, h, Q => wpE C e ρ h fun _ h₁ => Q .next ρ h₁
  | .ite t a b, ρ, h, Q => wpT C t ρ h fun c h₁ => match c with | true => wpB C a ρ h₁ Q | false => wpB C b ρ h₁ Q
  | .while t b, ρ, h, Q => ∃ f, whileN (fun ρ h k => wpT C t ρ h k) (fun ρ h k => wpB C b ρ h k) f ρ h Q
  | .for t it b, ρ, h, Q => wpE C it ρ h fun v h₁ => IterW v h₁ fun i => ∃ f,
      forN (fun v ρ h k => bindT t v ρ fun ρ' => wpB C b ρ' h k) f i ρ h₁ Q
  | .ret none, ρ, h, Q => Q (.ret .none) ρ h
  | .ret (some e), ρ, h, Q => wpE C e ρ h fun v h₁ => Q (.ret v) ρ h₁
  | .raise, _, _, _ => False

noncomputable def wpB (C : Ora) : List S → Rho → H → (Out → Rho → H → Prop) → Prop
  | [], ρ, h, Q => Q .next ρ h
  | s :: r, ρ, h, Q => wpS C s ρ h fun o ρ' h' => match o with
    | .next => wpB C r ρ' h' Q
    | .ret v => Q (.ret v) ρ' h'
end

noncomputable def argsR (vs : List V) : Rho := fun i => vs[i]?
noncomputable def Out.val : Out → V
  | .next => .none
  | .ret v => v

/-- calls, of depth d at most -/
noncomputable def Calls (Φ : Nat → Option Fn) : Nat → Ora
  | 0 => fun _ _ _ _ => False
  | d + 1 => fun f vs h Q => ∃ fn, Φ f = some fn ∧ fn.arity = vs.length ∧ wpB (Calls Φ d) fn.body (argsR vs) h fun o _ h' => Q o.val h'

end Tw
end

section
namespace Tw
open PySem

theorem SZ_eq : SZ = sizeLine := rfl

/-- the objects that nothing changes: tuples and ranges -/
noncomputable def isImm (o : Obj) : Prop := (o.cls = .type "tuple" ∧ ∃ xs n, o.data = .seq xs n) ∨ (o.cls = .type "range" ∧ ∃ vs, o.data = .fields vs)
noncomputable def Imm (h h' : Heap) : Prop := ∀ b o, h.get? b = some o → isImm o → h'.get? b = some o
theorem Imm.refl (h : Heap) : Imm h h := fun _ _ e _ => e
theorem Imm.trans {h₁ h₂ h₃ : Heap} (x : Imm h₁ h₂) (y : Imm h₂ h₃) : Imm h₁ h₃ := fun b o e c => y b o (x b o e c) c
theorem Imm.of_ext {h h' : Heap} (x : ∀ b o, h.get? b = some o → h'.get? b = some o) : Imm h h' := fun b o e _ => x b o e
theorem Imm.of_but {h h' : Heap} {a : Addr} (x : Heap.ExtBut a h h') (hn : ∀ o, h.get? a = some o → ¬ isImm o) : Imm h h' :=
  fun b o e c => by
    by_cases hb : b = a
    · subst hb; exact absurd c (hn o e)
    · exact x b o hb e
theorem notImm_dict {o : Obj} {es ep} (h : o.data = .dict es ep) : ¬ isImm o := by
  rintro (⟨_, _, _, e⟩ | ⟨_, _, e⟩) <;> rw [h] at e <;> cases e
theorem notImm_cell {o : Obj} {v} (h : o.data = .cell v) : ¬ isImm o := by
  rintro (⟨_, _, _, e⟩ | ⟨_, _, e⟩) <;> rw [h] at e <;> cases e
theorem notImm_list {o : Obj} (h : o.cls = .type "list") : ¬ isImm o := by
  rintro (⟨e, _⟩ | ⟨e, _⟩) <;> rw [h] at e <;> injection e with e <;> exact absurd e (by decide)
theorem notImm_fields {o : Obj} {vs} {T : String} (h : o.data = .fields vs) (hc : o.cls = .type T) (hT : T ≠ "range") : ¬ isImm o := by
  rintro (⟨_, _, _, e⟩ | ⟨e, _⟩)
  · rw [h] at e; cases e
  · rw [hc] at e; injection e with e; exact hT e

mutual
inductive RepV (ι : List Addr) (h : Heap) : Value → V → Prop
  | none : RepV ι h .none .none
  | bool (b : Bool) : RepV ι h (.bool b) (.bool b)
  | int (i : Int) (t : Tok) : RepV ι h (.int i t) (.int i)
  | str (x : Str) (t : Tok) : x.length ≤ SZ → RepV ι h (.str x t) (.str x.cps.toList)
  | tup {a : Addr} {n : Nat} {vals : Array Value} {vs : List V} : h.get? a = some { cls := .type "tuple", data := .seq vals n } → vals.size ≤ SZ →
      RepVs ι h vals.toList vs → RepV ι h (.ref a) (.tup vs)
  | rng {a : Addr} {x y z : Int} {t u v : Tok} : IsRange h a x y z t u v → (smallI x ∧ smallI y ∧ smallI z ∧ 0 < z) → RepV ι h (.ref a) (.rng x y z)
  | ref {a : Addr} {n : Nat} : ι[n]? = some a → RepV ι h (.ref a) (.ref n)
inductive RepVs (ι : List Addr) (h : Heap) : List Value → List V → Prop
  | nil : RepVs ι h [] []
  | cons {x : Value} {xs : List Value} {v : V} {vs : List V} : RepV ι h x v → RepVs ι h xs vs → RepVs ι h (x :: xs) (v :: vs)
end

theorem RepV.mono {ι ι' : List Addr} {h h' : Heap} (hi : ι <+: ι') (hm : Imm h h') {x : Value} {v : V} (r : RepV ι h x v) : RepV ι' h' x v :=
  RepV.rec (motive_1 := fun x v _ => RepV ι' h' x v) (motive_2 := fun xs vs _ => RepVs ι' h' xs vs) .none .bool .int (fun x t z => .str x t z) (fun g z _ ih => .tup (hm _ _ g (.inl ⟨rfl, _, _, rfl⟩)) z ih)
    (fun g z => .rng (hm _ _ g (.inr ⟨rfl, _, rfl⟩)) z) (fun g => .ref (by
      obtain ⟨t, rfl⟩ := hi
      rw [List.getElem?_append_left (List.getElem?_eq_some_iff.mp g).1]; exact g)) .nil (fun _ _ a b => .cons a b) r
theorem RepVs.mono {ι ι' : List Addr} {h h' : Heap} (hi : ι <+: ι') (hm : Imm h h') {xs : List Value} {vs : List V} (r : RepVs ι h xs vs) : RepVs ι' h' xs vs :=
  RepVs.rec (motive_1 := fun _ _ _ => True) (motive_2 := fun xs vs _ => RepVs ι' h' xs vs) trivial (fun _ => trivial) (fun _ _ => trivial) (fun _ _ _ => trivial) (fun _ _ _ _ => trivial) (fun _ _ => trivial) (fun _ => trivial)
    .nil (fun g _ _ ih => .cons (g.mono hi hm) ih) r

section
variable {ι : List Addr} {h : Heap}
theorem RepVs.length {xs : List Value} {vs : List V} (r : RepVs ι h xs vs) : xs.length = vs.length := by
  induction xs generalizing vs with
  | nil => cases r; rfl
  | cons x xs ih => cases r with | cons _ r => simp [ih r]
theorem RepVs.append {xs ys : List Value} {vs ws : List V} (r : RepVs ι h xs vs) (q : RepVs ι h ys ws) : RepVs ι h (xs ++ ys) (vs ++ ws) := by
  induction xs generalizing vs with
  | nil => cases r; exact q
  | cons x xs ih => cases r with | cons g r => exact .cons g (ih r)
theorem RepVs.reverse {xs : List Value} {vs : List V} (r : RepVs ι h xs vs) : RepVs ι h xs.reverse vs.reverse := by
  induction xs generalizing vs with
  | nil => cases r; exact .nil
  | cons x xs ih => cases r with | cons g r => simpa using (ih r).append (.cons g .nil)
theorem RepVs.get {xs : List Value} {vs : List V} (r : RepVs ι h xs vs) {k : Nat} {v : V} (e : vs[k]? = some v) : ∃ x, xs[k]? = some x ∧ RepV ι h x v := by
  induction xs generalizing vs k with
  | nil => cases r; simp at e
  | cons x xs ih =>
    cases r with
    | cons g r =>
      cases k with
      | zero => simp at e; subst e; exact ⟨x, rfl, g⟩
      | succ k => simpa using ih r (by simpa using e)
theorem RepVs.get' {xs : List Value} {vs : List V} (r : RepVs ι h xs vs) {k : Nat} {x : Value} (e : xs[k]? = some x) : ∃ v, vs[k]? = some v ∧ RepV ι h x v := by
  induction xs generalizing vs k with
  | nil => simp at e
  | cons y xs ih =>
    cases r with
    | cons g r =>
      cases k with
      | zero => simp at e; subst e; exact ⟨_, rfl, g⟩
      | succ k => simpa using ih r (by simpa using e)
theorem RepVs.take {xs : List Value} {vs : List V} (r : RepVs ι h xs vs) (k : Nat) : RepVs ι h (xs.take k) (vs.take k) := by
  induction xs generalizing vs k with
  | nil => cases r; simpa using RepVs.nil
  | cons x xs ih =>
    cases r with
    | cons g r =>
      cases k with
      | zero => simpa using RepVs.nil
      | succ k => simpa using RepVs.cons g (ih r k)
theorem RepVs.drop {xs : List Value} {vs : List V} (r : RepVs ι h xs vs) (k : Nat) : RepVs ι h (xs.drop k) (vs.drop k) := by
  induction xs generalizing vs k with
  | nil => cases r; simpa using RepVs.nil
  | cons x xs ih =>
    cases r with
    | cons g r =>
      cases k with
      | zero => simpa using RepVs.cons g r
      | succ k => simpa using ih r k
theorem RepV.strInv {x : Value} {s : List Nat} (r : RepV ι h x (.str s)) : ∃ y t, x = .str y t ∧ y.cps.toList = s ∧ y.length ≤ SZ := by
  cases r with | str y t z => exact ⟨y, t, rfl, rfl, z⟩
theorem RepV.noneI {x : Value} (r : RepV ι h x .none) : x = .none := by cases r; rfl
theorem RepV.boolI {x : Value} {b : Bool} (r : RepV ι h x (.bool b)) : x = .bool b := by cases r; rfl
theorem RepV.intI {x : Value} {i : Int} (r : RepV ι h x (.int i)) : ∃ t, x = .int i t := by cases r; exact ⟨_, rfl⟩
theorem RepV.tupI {x : Value} {vs : List V} (r : RepV ι h x (.tup vs)) : ∃ a n vals, x = .ref a ∧ h.get? a = some { cls := .type "tuple", data := .seq vals n } ∧ vals.size ≤ SZ ∧ RepVs ι h vals.toList vs := by
  cases r with | tup g z r => exact ⟨_, _, _, rfl, g, z, r⟩
theorem RepV.rngI {v : Value} {x y z : Int} (r : RepV ι h v (.rng x y z)) : ∃ a t u w, v = .ref a ∧ IsRange h a x y z t u w ∧ smallI x ∧ smallI y ∧ smallI z ∧ 0 < z := by
  cases r with | rng g z => exact ⟨_, _, _, _, rfl, g, z⟩
theorem RepV.refI {x : Value} {n : Nat} (r : RepV ι h x (.ref n)) : ∃ a, x = .ref a ∧ ι[n]? = some a := by
  cases r with | ref g => exact ⟨_, rfl, g⟩
theorem RepVs.nilI {xs : List Value} (r : RepVs ι h xs []) : xs = [] := by cases r; rfl
theorem RepVs.consI {xs : List Value} {v : V} {vs : List V} (r : RepVs ι h xs (v :: vs)) : ∃ x ys, xs = x :: ys ∧ RepV ι h x v ∧ RepVs ι h ys vs := by
  cases r with | cons g r => exact ⟨_, _, rfl, g, r⟩
theorem RepVs.oneI {xs : List Value} {v : V} (r : RepVs ι h xs [v]) : ∃ x, xs = [x] ∧ RepV ι h x v := by
  obtain ⟨x, ys, rfl, g, r⟩ := r.consI
  exact ⟨x, by rw [r.nilI], g⟩
theorem RepV.strOf {y : Str} {t : Tok} {s : List Nat} (e : y.cps.toList = s) (z : y.length ≤ SZ) : RepV ι h (.str y t) (.str s) := e ▸ .str y t z
end

/-- the model's hash of a key -/
noncomputable def hashA (w : World) : V → Int
  | .int i => hashInt i
  | .str s => hashStr w ⟨s.toArray⟩
  | _ => 0
noncomputable def hashK (w : World) : V → Int
  | .tup vs => reduceHash (Builtin.Tuple.tupleHashOf (vs.map (hashA w)))
  | v => hashA w v

inductive RepEs (w : World) (ι : List Addr) (h : Heap) : List DictEntry → List (V × V) → Prop
  | nil : RepEs w ι h [] []
  | cons {e : DictEntry} {es : List DictEntry} {k v : V} {r : List (V × V)} : e.hash = hashK w k → RepV ι h e.key k → RepV ι h e.val v → k.isKey = true → RepEs w ι h es r → RepEs w ι h (e :: es) ((k, v) :: r)

theorem RepEs.mono {w : World} {ι ι' : List Addr} {h h' : Heap} (hi : ι <+: ι') (hm : Imm h h') {es : List DictEntry} {r : List (V × V)} (x : RepEs w ι h es r) : RepEs w ι' h' es r := by
  induction x with
  | nil => exact .nil
  | cons a b c d _ ih => exact .cons a (b.mono hi hm) (c.mono hi hm) d ih

noncomputable def RepO (w : World) (ι : List Addr) (h : Heap) (a : Addr) : MO → Prop
  | .list vs => ∃ vals n, h.get? a = some { cls := .type "list", data := .seq vals n } ∧ RepVs ι h vals.toList vs ∧ vs.length ≤ SZ
  | .frz vs => ∃ vals, h.IsList a vals ∧ RepVs ι h vals.toList vs ∧ vs.length ≤ SZ
  | .dict es n => ∃ ents, h.get? a = some { cls := .type "dict", data := .dict ents n } ∧ RepEs w ι h ents.toList es ∧ (es.map (·.1)).Nodup ∧ es.length ≤ SZ

theorem RepO.mono {w : World} {ι ι' : List Addr} {h h' : Heap} {a : Addr} {o : MO} (hi : ι <+: ι') (hm : Imm h h') (ha : ∀ o, h.get? a = some o → h'.get? a = some o) (x : RepO w ι h a o) : RepO w ι' h' a o := by
  cases o with
  | list vs => obtain ⟨vals, n, g, r, z⟩ := x; exact ⟨vals, n, ha _ g, r.mono hi hm, z⟩
  | frz vs => obtain ⟨vals, ⟨o, g, c⟩, r, z⟩ := x; exact ⟨vals, ⟨o, ha _ g, c⟩, r.mono hi hm, z⟩
  | dict es n => obtain ⟨ents, g, r, z⟩ := x; exact ⟨ents, ha _ g, r.mono hi hm, z⟩
theorem RepO.get {w : World} {ι : List Addr} {h : Heap} {a : Addr} {o : MO} (x : RepO w ι h a o) : ∃ ob, h.get? a = some ob ∧ ¬ isImm ob := by
  cases o with
  | list vs => obtain ⟨vals, n, g, r, z⟩ := x; exact ⟨_, g, notImm_list rfl⟩
  | frz vs => obtain ⟨vals, ⟨o, g, c, _⟩, r, z⟩ := x; exact ⟨_, g, notImm_list c⟩
  | dict es n => obtain ⟨ents, g, r, z⟩ := x; exact ⟨_, g, notImm_dict rfl⟩

/-- the frame at hand: its environment, its names' slots, what must stay -/
structure Cx where
  w : World
  env : Env
  nm : Str → Option Nat
  st : Str → Bool
  P : Addr → Obj → Prop
  s0 : Shared
  scr : Addr

noncomputable def VarAt (env : Env) (h : Heap) (x : Str) (val : Value) : Prop :=
  (env.kindOf x = some .local ∧ ∃ m, h.Ns env.locals m ∧ m x = some val) ∨
  ((env.kindOf x = some .cell ∨ env.kindOf x = some .free) ∧ ∃ c, env.cells.lookup x = some c ∧ h.IsCell c (some val))

/-- an object stays; a frame's names stay but for what the model notes beside them -/
noncomputable def Mk (o : Obj) : Prop := o.slots = #[none] ∧ ∃ es n, o.data = .dict es n
noncomputable def Kp (s0 : Shared) (h : Heap) (a : Addr) (o : Obj) : Prop := h.get? a = some o ∨ (s0.heap.get? a = none ∧ Mk o ∧ ∃ sl, h.get? a = some { o with slots := sl })
theorem Kp.obj {s0 : Shared} {h : Heap} {a : Addr} {o : Obj} (x : Kp s0 h a o) : ∃ o', h.get? a = some o' ∧ o'.data = o.data := by
  rcases x with e | ⟨_, _, sl, e⟩
  · exact ⟨o, e, rfl⟩
  · exact ⟨_, e, rfl⟩
theorem Kp.lt {s0 : Shared} {h : Heap} {a : Addr} {o : Obj} (x : Kp s0 h a o) : a < h.objs.size := let ⟨_, e, _⟩ := x.obj; Heap.lt_size e
theorem Kp.mono {s0 : Shared} {h h' : Heap} {a : Addr} {o : Obj} (x : Kp s0 h a o) (hk : ∀ o, h.get? a = some o → h'.get? a = some o) : Kp s0 h' a o :=
  x.imp (hk _) fun ⟨e1, e2, sl, e⟩ => ⟨e1, e2, sl, hk _ e⟩
theorem Kp.base {s0 : Shared} {h : Heap} {a : Addr} {o : Obj} (x : Kp s0 h a o) (e : s0.heap.get? a = some o) : h.get? a = some o := by
  rcases x with x | ⟨x, _⟩
  · exact x
  · rw [x] at e; cases e
theorem Kp.exact {s0 : Shared} {h : Heap} {a : Addr} {o : Obj} (x : Kp s0 h a o) (hd : ¬ Mk o) : h.get? a = some o :=
  x.elim id fun ⟨_, e, _⟩ => absurd e hd
theorem notMk_fields {o : Obj} {vs} (h : o.data = .fields vs) : ¬ Mk o := fun ⟨_, _, _, e⟩ => by rw [h] at e; cases e
theorem notMk_seq {o : Obj} {vs n} (h : o.data = .seq vs n) : ¬ Mk o := fun ⟨_, _, _, e⟩ => by rw [h] at e; cases e
theorem notMk_new {o : Obj} (h : o.slots = #[]) : ¬ Mk o := fun ⟨e, _⟩ => by rw [h] at e; cases e
theorem Kp.ns {s0 : Shared} {h h' : Heap} {a : Addr} {m : Str → Option Value} (x : ∀ o, h.get? a = some o → Kp s0 h' a o) (n : h.Ns a m) : h'.Ns a m := by
  obtain ⟨o, es, ep, g, d, r⟩ := n
  obtain ⟨o', g', d'⟩ := (x o g).obj
  exact ⟨o', es, ep, g', d'.trans d, r⟩

structure CxOk (cx : Cx) : Prop where
  fn : cx.env.scope.kind = .function
  gl : cx.env.globals = mainGlobals
  bl : cx.env.builtins = builtinsNs
  inj : ∀ x y i, cx.nm x = some i → cx.nm y = some i → x = y
  kinds : ∀ x i, cx.nm x = some i → cx.env.kindOf x = some .local ∨ ((cx.env.kindOf x = some .cell ∨ cx.env.kindOf x = some .free) ∧ ∃ c, cx.env.cells.lookup x = some c)
  plain : ∀ x i, cx.nm x = some i → (x == ("__debug__" : Str)) = false ∧ (x == ("__classdict__" : Str)) = false
  cinj : ∀ x y c, cx.env.cells.lookup x = some c → cx.env.cells.lookup y = some c → x = y
  own : ∀ x c o, cx.st x = true → cx.env.kindOf x = some .cell → cx.env.cells.lookup x = some c → ¬ cx.P c o
  loc : ∀ o, ¬ cx.P cx.env.locals o
  base : ∀ a o, cx.s0.heap.get? a = some o → a ≠ cx.scr → cx.P a o
  lowL : sysModules < cx.env.locals

structure St (cx : Cx) (ι : List Addr) (ρ : Rho) (H : H) (s : Shared) : Prop where
  same : ∃ h tk, s = { cx.s0 with heap := h, toks := tk }
  len : ι.length = H.length
  nodup : ι.Nodup
  objs : ∀ (n : Nat) (a : Addr) (o : MO), ι[n]? = some a → H[n]? = some o → RepO cx.w ι s.heap a o
  low : ∀ a ∈ ι, a ≠ sysModules
  scr : ∀ o, cx.s0.heap.get? cx.scr = some o → s.heap.get? cx.scr = some o
  scrI : ∀ (n : Nat), ι[n]? = some cx.scr → ∃ vs, H[n]? = some (.frz vs)
  scrIn : cx.scr ∈ ι
  prot : ∀ a o, cx.P a o → Kp cx.s0 s.heap a o
  protI : ∀ a o, cx.P a o → a ∉ ι
  ns : ∃ m, s.heap.Ns cx.env.locals m
  nsI : cx.env.locals ∉ ι
  cells : ∀ x c, cx.env.cells.lookup x = some c → (∃ ov, s.heap.IsCell c ov) ∧ c ∉ ι ∧ c ≠ cx.env.locals
  vars : ∀ x i v, cx.nm x = some i → ρ i = some v → ∃ val, VarAt cx.env s.heap x val ∧ RepV ι s.heap val v

/-- the state went on: abstract refs only grow, tuples stay -/
structure Mono (ι : List Addr) (s : Shared) (ι' : List Addr) (s' : Shared) : Prop where
  pre : ι <+: ι'
  imm : Imm s.heap s'.heap
theorem Mono.refl (ι : List Addr) (s : Shared) : Mono ι s ι s := ⟨List.prefix_refl _, .refl _⟩
theorem Mono.trans {ι ι' ι'' : List Addr} {s s' s'' : Shared} (x : Mono ι s ι' s') (y : Mono ι' s' ι'' s'') : Mono ι s ι'' s'' := ⟨x.pre.trans y.pre, x.imm.trans y.imm⟩
theorem Mono.rep {ι ι' : List Addr} {s s' : Shared} (x : Mono ι s ι' s') {v : Value} {d : V} (r : RepV ι s.heap v d) : RepV ι' s'.heap v d := r.mono x.pre x.imm
theorem Mono.reps {ι ι' : List Addr} {s s' : Shared} (x : Mono ι s ι' s') {v : List Value} {d : List V} (r : RepVs ι s.heap v d) : RepVs ι' s'.heap v d := r.mono x.pre x.imm

section
variable {cx : Cx} {ι : List Addr} {ρ : Rho} {H : H} {s : Shared}

theorem IsCell.obj {h : Heap} {c : Addr} {v : Option Value} (x : h.IsCell c v) : ∃ o, h.get? c = some o := let ⟨o, g, _⟩ := x; ⟨o, g⟩
theorem Ns.obj {h : Heap} {a : Addr} {m} (x : h.Ns a m) : ∃ o, h.get? a = some o := let ⟨o, _, _, g, _⟩ := x; ⟨o, g⟩

theorem VarAt.keeps {env : Env} {h h' : Heap} {x : Str} {val : Value} (v : VarAt env h x val) (hk : ∀ b o, h.get? b = some o → h'.get? b = some o) : VarAt env h' x val := by
  rcases v with ⟨k, m, n, e⟩ | ⟨k, c, l, i⟩
  · exact .inl ⟨k, m, n.keeps hk, e⟩
  · exact .inr ⟨k, c, l, i.keeps hk⟩

/-- only new objects, only new tokens -/
theorem St.ext (S : St cx ι ρ H s) {h' : Heap} (tk : Nat) (hk : ∀ b o, s.heap.get? b = some o → h'.get? b = some o) : St cx ι ρ H { s with heap := h', toks := tk } where
  same := by obtain ⟨h, t, rfl⟩ := S.same; exact ⟨h', tk, rfl⟩
  len := S.len
  nodup := S.nodup
  objs := fun n a o hn ho => (S.objs n a o hn ho).mono (List.prefix_refl _) (.of_ext hk) (hk _)
  low := S.low
  scr := fun o e => hk _ _ (S.scr o e)
  scrI := S.scrI
  scrIn := S.scrIn
  prot := fun a o p => (S.prot a o p).mono (hk _)
  protI := S.protI
  ns := let ⟨m, n⟩ := S.ns; ⟨m, n.keeps hk⟩
  nsI := S.nsI
  cells := fun x c l => let ⟨⟨ov, i⟩, r⟩ := S.cells x c l; ⟨⟨ov, i.keeps hk⟩, r⟩
  vars := fun x i v hx hv => let ⟨val, a, r⟩ := S.vars x i v hx hv; ⟨val, a.keeps hk, r.mono (List.prefix_refl _) (.of_ext hk)⟩
theorem St.toks (S : St cx ι ρ H s) (tk : Nat) : St cx ι ρ H { s with toks := tk } := S.ext tk fun _ _ e => e
theorem St.push (S : St cx ι ρ H s) (o : Obj) (tk : Nat) : St cx ι ρ H { s with heap := s.heap.push o, toks := tk } := S.ext tk fun _ _ e => Heap.get?_push_of_some _ e
theorem Mono.ext {ι : List Addr} {s : Shared} {h' : Heap} {tk : Nat} (hk : ∀ b o, s.heap.get? b = some o → h'.get? b = some o) : Mono ι s ι { s with heap := h', toks := tk } := ⟨List.prefix_refl _, .of_ext hk⟩

/-- a new mutable object joins the abstract heap -/
theorem St.alloc (S : St cx ι ρ H s) {a : Addr} {o : MO} (hr : RepO cx.w ι s.heap a o) (ha : a ∉ ι) (hlow : a ≠ sysModules) (hP : ∀ ob, ¬ cx.P a ob) (hL : a ≠ cx.env.locals)
    (hc : ∀ x c, cx.env.cells.lookup x = some c → c ≠ a) : St cx (ι ++ [a]) ρ (H ++ [o]) s where
  same := S.same
  len := by simp [S.len]
  nodup := by
    rw [List.nodup_append]
    refine ⟨S.nodup, by simp, fun x hx y hy => ?_⟩
    simp at hy; subst hy; rintro rfl; exact ha hx
  objs := fun n b ob hn ho => by
    by_cases hlt : n < ι.length
    · rw [List.getElem?_append_left hlt] at hn
      rw [List.getElem?_append_left (S.len ▸ hlt)] at ho
      exact (S.objs n b ob hn ho).mono (List.prefix_append _ _) (.refl _) fun _ e => e
    · have hn' := (List.getElem?_eq_some_iff.mp hn).1
      simp at hn'
      have : n = ι.length := by exact Nat.le_antisymm (qp1 qc2 qv0 qv1 qs0 qs1 qt hn') (qm hlt)
      subst this
      rw [List.getElem?_append_right (Nat.le_refl _)] at hn
      rw [S.len, List.getElem?_append_right (Nat.le_refl _)] at ho
      simp at hn ho
      subst hn; subst ho
      exact hr.mono (List.prefix_append _ _) (.refl _) fun _ e => e
  low := fun b hb => by
    rcases List.mem_append.mp hb with hb | hb
    · exact S.low b hb
    · simp at hb; subst hb; exact hlow
  scr := S.scr
  scrI := fun n hn => by
    by_cases hlt : n < ι.length
    · rw [List.getElem?_append_left hlt] at hn
      rw [List.getElem?_append_left (S.len ▸ hlt)]
      exact S.scrI n hn
    · exfalso
      rw [List.getElem?_append_right (Nat.le_of_not_lt hlt)] at hn
      have hm := List.mem_of_getElem? hn
      simp at hm
      exact ha (hm ▸ S.scrIn)
  scrIn := List.mem_append_left _ S.scrIn
  prot := S.prot
  protI := fun b ob p hb => by
    rcases List.mem_append.mp hb with hb | hb
    · exact S.protI b ob p hb
    · simp at hb; subst hb; exact hP ob p
  ns := S.ns
  nsI := fun hb => by
    rcases List.mem_append.mp hb with hb | hb
    · exact S.nsI hb
    · simp at hb; exact hL hb.symm
  cells := fun x c l => by
    obtain ⟨i, h1, h2⟩ := S.cells x c l
    refine ⟨i, fun hb => ?_, h2⟩
    rcases List.mem_append.mp hb with hb | hb
    · exact h1 hb
    · simp at hb; exact hc x c l hb
  vars := fun x i v hx hv => let ⟨val, a, r⟩ := S.vars x i v hx hv; ⟨val, a, r.mono (List.prefix_append _ _) (.refl _)⟩

/-- addresses that hold nothing yet are apart from all that is tracked -/
theorem St.fresh (S : St cx ι ρ H s) (ok : CxOk cx) {a : Addr} (ha : s.heap.objs.size ≤ a) : a ∉ ι ∧ a ≠ sysModules ∧ (∀ ob, ¬ cx.P a ob) ∧ a ≠ cx.env.locals ∧ (∀ x c, cx.env.cells.lookup x = some c → c ≠ a) := by
  have none : ∀ o, s.heap.get? a = some o → False := fun o e => absurd (Heap.lt_size e) (Nat.not_lt.mpr ha)
  refine ⟨fun hm => ?_, ?_, fun ob p => let ⟨_, e, _⟩ := (S.prot _ _ p).obj; none _ e, fun e => ?_, fun x c l e => ?_⟩
  · obtain ⟨n, hn⟩ := List.mem_iff_getElem?.mp hm
    have hlt : n < H.length := S.len ▸ (List.getElem?_eq_some_iff.mp hn).1
    obtain ⟨ob, g, _⟩ := (S.objs n a _ hn (List.getElem?_eq_getElem hlt)).get
    exact none _ g
  · obtain ⟨m, hn⟩ := S.ns
    exact Nat.ne_of_gt (Nat.lt_of_lt_of_le (Nat.lt_trans ok.lowL hn.lt) ha)
  · obtain ⟨m, hn⟩ := S.ns
    obtain ⟨o, g⟩ := Ns.obj hn
    exact none o (e ▸ g)
  · obtain ⟨⟨ov, i⟩, _⟩ := S.cells x c l
    obtain ⟨o, g⟩ := IsCell.obj i
    exact none o (e ▸ g)
end
end Tw
end

section
namespace Tw
open PySem

section
variable {cx : Cx} {ι : List Addr} {ρ : Rho} {H : H} {s : Shared}

theorem St.obj (S : St cx ι ρ H s) {n : Nat} {a : Addr} (ha : ι[n]? = some a) : ∃ o, H[n]? = some o ∧ RepO cx.w ι s.heap a o := by
  have hlt : n < H.length := S.len ▸ (List.getElem?_eq_some_iff.mp ha).1
  exact ⟨_, List.getElem?_eq_getElem hlt, S.objs n a _ ha (List.getElem?_eq_getElem hlt)⟩
theorem St.objOf (S : St cx ι ρ H s) {n : Nat} {a : Addr} {o : MO} (ha : ι[n]? = some a) (ho : H[n]? = some o) : RepO cx.w ι s.heap a o := S.objs n a o ha ho

theorem VarAt.extBut {env : Env} {h h' : Heap} {x : Str} {val : Value} {a : Addr} (v : VarAt env h x val) (hk : Heap.ExtBut a h h') (hL : env.locals ≠ a) (hc : ∀ x c, env.cells.lookup x = some c → c ≠ a) : VarAt env h' x val := by
  rcases v with ⟨k, m, n, e⟩ | ⟨k, c, l, o, g, d⟩
  · exact .inl ⟨k, m, n.extBut hk hL, e⟩
  · exact .inr ⟨k, c, l, o, hk _ _ (hc _ _ l) g, d⟩

/-- a mutable object turns -/
theorem St.set (S : St cx ι ρ H s) {n : Nat} {a : Addr} {o' : MO} {h' : Heap} (tk : Nat) (ha : ι[n]? = some a) (hnf : ∀ vs, H[n]? ≠ some (.frz vs)) (hk : Heap.ExtBut a s.heap h') (hr : RepO cx.w ι h' a o') :
    St cx ι ρ (H.set n o') { s with heap := h', toks := tk } ∧ Mono ι s ι { s with heap := h', toks := tk } := by
  obtain ⟨o, ho, r⟩ := S.obj ha
  obtain ⟨ob, g, c1⟩ := r.get
  have imm : Imm s.heap h' := .of_but hk fun o' e => by rw [g] at e; cases e; exact c1
  have hmem : a ∈ ι := List.mem_of_getElem? ha
  have hscr : cx.scr ≠ a := by
    rintro rfl
    obtain ⟨vs, e⟩ := S.scrI n ha
    exact hnf vs e
  refine ⟨?_, ⟨List.prefix_refl _, imm⟩⟩
  exact {
    same := by obtain ⟨h, t, rfl⟩ := S.same; exact ⟨h', tk, rfl⟩
    len := by simp [S.len]
    scr := fun o e => hk _ _ hscr (S.scr o e)
    scrI := fun k hk' => by
      have hne : n ≠ k := by
        rintro rfl
        rw [ha] at hk'; cases hk'; exact hscr rfl
      rw [List.getElem?_set_ne hne]; exact S.scrI k hk'
    scrIn := S.scrIn
    nodup := S.nodup
    objs := fun k b o₂ hb ho₂ => by
      by_cases hkn : k = n
      · subst hkn
        rw [ha] at hb; cases hb
        have hlt : k < H.length := S.len ▸ (List.getElem?_eq_some_iff.mp ha).1
        rw [List.getElem?_set_self hlt] at ho₂
        cases ho₂; exact hr
      · rw [List.getElem?_set_ne (fun e => hkn e.symm)] at ho₂
        refine (S.objs k b o₂ hb ho₂).mono (List.prefix_refl _) imm fun ob e => hk _ _ (fun e' => ?_) e
        subst e'
        exact hkn ((List.getElem?_inj (List.getElem?_eq_some_iff.mp hb).1 S.nodup).mp (hb.trans ha.symm))
    low := S.low
    prot := fun b ob p => (S.prot b ob p).mono fun o => hk _ o fun e => S.protI b ob p (e ▸ hmem)
    protI := S.protI
    ns := let ⟨m, hn⟩ := S.ns; ⟨m, hn.extBut hk fun e => S.nsI (e ▸ hmem)⟩
    nsI := S.nsI
    cells := fun x c l => by
      obtain ⟨⟨ov, oc, gc, dc⟩, h1, h2⟩ := S.cells x c l
      exact ⟨⟨ov, oc, hk _ _ (fun e => h1 (e ▸ hmem)) gc, dc⟩, h1, h2⟩
    vars := fun x i v hx hv => by
      obtain ⟨val, va, rv⟩ := S.vars x i v hx hv
      exact ⟨val, va.extBut hk (fun e => S.nsI (e ▸ hmem)) fun y c l e => (S.cells y c l).2.1 (e ▸ hmem), rv.mono (List.prefix_refl _) imm⟩ }

theorem Ns.notImm {h : Heap} {a : Addr} {m} (x : h.Ns a m) : ∀ o, h.get? a = some o → ¬ isImm o := fun o g => by
  obtain ⟨o', es, ep, g', d, _⟩ := x
  rw [g] at g'; cases g'; exact notImm_dict d
theorem IsCell.notImm {h : Heap} {c : Addr} {v} (x : h.IsCell c v) : ∀ o, h.get? c = some o → ¬ isImm o := fun o g => by
  obtain ⟨o', g', d⟩ := x
  rw [g] at g'; cases g'; exact notImm_cell d
theorem Ns.uniq {h : Heap} {a : Addr} {m m'} (x : h.Ns a m) (y : h.Ns a m') : m = m' := by
  obtain ⟨o, es, ep, g, d, _, e⟩ := x
  obtain ⟨o', es', ep', g', d', _, e'⟩ := y
  rw [g] at g'; cases g'
  rw [d] at d'; cases d'
  funext z; rw [← e, ← e']

/-- a local name is stored -/
theorem St.local (S : St cx ι ρ H s) (ok : CxOk cx) {x : Str} {i : Nat} {v : V} {val : Value} {h' : Heap} {m : Str → Option Value} (tk : Nat) (hx : cx.nm x = some i) (hl : cx.env.kindOf x = some .local)
    (hm : s.heap.Ns cx.env.locals m) (hn : h'.Ns cx.env.locals (fun y => if y = x then some val else m y)) (hs : Heap.ExtBut cx.env.locals s.heap h') (r : RepV ι s.heap val v) :
    St cx ι (upd ρ i v) H { s with heap := h', toks := tk } ∧ Mono ι s ι { s with heap := h', toks := tk } := by
  have imm : Imm s.heap h' := .of_but hs (Ns.notImm hm)
  refine ⟨?_, ⟨List.prefix_refl _, imm⟩⟩
  exact {
    same := by obtain ⟨h, t, rfl⟩ := S.same; exact ⟨h', tk, rfl⟩
    len := S.len
    nodup := S.nodup
    objs := fun k b o₂ hb ho₂ => (S.objs k b o₂ hb ho₂).mono (List.prefix_refl _) imm fun ob e => hs _ _ (fun e' => S.nsI (e' ▸ List.mem_of_getElem? hb)) e
    low := S.low
    scr := fun o e => hs _ _ (fun e' => S.nsI (e' ▸ S.scrIn)) (S.scr o e)
    scrI := S.scrI
    scrIn := S.scrIn
    prot := fun b ob p => (S.prot b ob p).mono fun o => hs _ o fun e => ok.loc ob (e ▸ p)
    protI := S.protI
    ns := ⟨_, hn⟩
    nsI := S.nsI
    cells := fun y c l => by
      obtain ⟨⟨ov, oc, gc, dc⟩, h1, h2⟩ := S.cells y c l
      exact ⟨⟨ov, oc, hs _ _ h2 gc, dc⟩, h1, h2⟩
    vars := fun y j w hy hw => by
      unfold upd at hw
      by_cases hj : j = i
      · subst hj
        obtain rfl := ok.inj y x j hy hx
        rw [if_pos rfl] at hw; cases hw
        exact ⟨val, .inl ⟨hl, _, hn, by simp⟩, r.mono (List.prefix_refl _) imm⟩
      · rw [if_neg hj] at hw
        obtain ⟨val', va, rv⟩ := S.vars y j w hy hw
        refine ⟨val', ?_, rv.mono (List.prefix_refl _) imm⟩
        have hyx : y ≠ x := fun e => hj (by rw [e, hx] at hy; exact (Option.some.inj hy).symm)
        rcases va with ⟨k, m', n', e⟩ | ⟨k, c, l, o, g, d⟩
        · obtain rfl := Ns.uniq hm n'
          exact .inl ⟨k, _, hn, by simp [hyx, e]⟩
        · exact .inr ⟨k, c, l, o, hs _ _ (S.cells y c l).2.2 g, d⟩ }

/-- a cell is stored -/
theorem St.cell (S : St cx ι ρ H s) (ok : CxOk cx) {x : Str} {i : Nat} {v : V} {val : Value} {h' : Heap} {c : Addr} (tk : Nat) (hx : cx.nm x = some i) (hst : cx.st x = true) (hl : cx.env.kindOf x = some .cell)
    (hc : cx.env.cells.lookup x = some c) (hn : h'.IsCell c (some val)) (hs : Heap.ExtBut c s.heap h') (r : RepV ι s.heap val v) :
    St cx ι (upd ρ i v) H { s with heap := h', toks := tk } ∧ Mono ι s ι { s with heap := h', toks := tk } := by
  obtain ⟨⟨ov, hov⟩, hcI, hcL⟩ := S.cells x c hc
  have imm : Imm s.heap h' := .of_but hs (IsCell.notImm hov)
  refine ⟨?_, ⟨List.prefix_refl _, imm⟩⟩
  exact {
    same := by obtain ⟨h, t, rfl⟩ := S.same; exact ⟨h', tk, rfl⟩
    len := S.len
    nodup := S.nodup
    objs := fun k b o₂ hb ho₂ => (S.objs k b o₂ hb ho₂).mono (List.prefix_refl _) imm fun ob e => hs _ _ (fun e' => hcI (e' ▸ List.mem_of_getElem? hb)) e
    low := S.low
    scr := fun o e => hs _ _ (fun e' => hcI (e' ▸ S.scrIn)) (S.scr o e)
    scrI := S.scrI
    scrIn := S.scrIn
    prot := fun b ob p => (S.prot b ob p).mono fun o => hs _ o fun e => ok.own x c ob hst hl hc (e ▸ p)
    protI := S.protI
    ns := let ⟨m, n⟩ := S.ns; ⟨m, n.extBut hs fun e => hcL e.symm⟩
    nsI := S.nsI
    cells := fun y c' l => by
      obtain ⟨⟨ov', oc, gc, dc⟩, h1, h2⟩ := S.cells y c' l
      by_cases hcc : c' = c
      · subst hcc; exact ⟨⟨_, hn⟩, h1, h2⟩
      · exact ⟨⟨ov', oc, hs _ _ hcc gc, dc⟩, h1, h2⟩
    vars := fun y j w hy hw => by
      unfold upd at hw
      by_cases hj : j = i
      · subst hj
        obtain rfl := ok.inj y x j hy hx
        rw [if_pos rfl] at hw; cases hw
        exact ⟨val, .inr ⟨.inl hl, c, hc, hn⟩, r.mono (List.prefix_refl _) imm⟩
      · rw [if_neg hj] at hw
        obtain ⟨val', va, rv⟩ := S.vars y j w hy hw
        refine ⟨val', ?_, rv.mono (List.prefix_refl _) imm⟩
        have hyx : y ≠ x := fun e => hj (by rw [e, hx] at hy; exact (Option.some.inj hy).symm)
        rcases va with ⟨k, m', n', e⟩ | ⟨k, c', l, o, g, d⟩
        · exact .inl ⟨k, _, n'.extBut hs fun e => hcL e.symm, e⟩
        · exact .inr ⟨k, c', l, o, hs _ _ (fun e => hyx (ok.cinj y x c' l (e ▸ hc))) g, d⟩ }

/-- names forgotten, or none changed -/
theorem St.rho (S : St cx ι ρ H s) {ρ' : Rho} (h : ∀ x i v, cx.nm x = some i → ρ' i = some v → ρ i = some v) : St cx ι ρ' H s :=
  { S with vars := fun x i v hx hv => S.vars x i v hx (h x i v hx hv) }

/-- one more object that must stay -/
noncomputable def Cx.keep (cx : Cx) (a : Addr) (o : Obj) : Cx := { cx with P := fun b ob => cx.P b ob ∨ (b = a ∧ ob = o) }
theorem CxOk.keep (ok : CxOk cx) {a : Addr} {o : Obj} (hL : a ≠ cx.env.locals) (hc : ∀ x c, cx.env.kindOf x = some .cell → cx.env.cells.lookup x = some c → c ≠ a) : CxOk (cx.keep a o) where
  fn := ok.fn
  gl := ok.gl
  bl := ok.bl
  inj := ok.inj
  kinds := ok.kinds
  plain := ok.plain
  cinj := ok.cinj
  own := fun x c ob hs hk l p => p.elim (ok.own x c ob hs hk l) fun e => hc x c hk l e.1
  loc := fun ob p => p.elim (ok.loc ob) fun e => hL e.1.symm
  base := fun b ob e n => .inl (ok.base b ob e n)
  lowL := ok.lowL
theorem St.keep (S : St cx ι ρ H s) {a : Addr} {o : Obj} (g : s.heap.get? a = some o) (ha : a ∉ ι) : St (cx.keep a o) ι ρ H s :=
  { S with
    prot := fun b ob p => p.elim (S.prot b ob) fun e => by rw [e.1, e.2]; exact .inl g
    protI := fun b ob p hm => p.elim (fun p => S.protI b ob p hm) fun e => ha (e.1 ▸ hm) }
theorem St.unkeep {a : Addr} {o : Obj} (S : St (cx.keep a o) ι ρ H s) : St cx ι ρ H s :=
  { S with
    prot := fun b ob p => S.prot b ob (.inl p)
    protI := fun b ob p => S.protI b ob (.inl p) }
end
end Tw
end

section
namespace Tw
open PySem PySem.SeqAt

section
variable {cx : Cx} {ι : List Addr} {ρ : Rho} {H : H} {s : Shared}

theorem str_inj {x y : Str} (h : x.cps.toList = y.cps.toList) : x = y := by
  cases x; cases y; simp only [Str.mk.injEq]; exact Array.toList_inj.mp h

theorem RepV.refV {h : Heap} {a : Addr} {b : V} (r : RepV ι h (.ref a) b) : (∃ n vals vs, b = .tup vs ∧ h.get? a = some { cls := .type "tuple", data := .seq vals n } ∧ RepVs ι h vals.toList vs) ∨
    (∃ x y z t u v, b = .rng x y z ∧ IsRange h a x y z t u v) ∨ ∃ n, b = .ref n ∧ ι[n]? = some a := by
  cases r with
  | tup g _ r => exact .inl ⟨_, _, _, rfl, g, r⟩
  | rng g _ => exact .inr (.inl ⟨_, _, _, _, _, _, rfl, g⟩)
  | ref g => exact .inr (.inr ⟨_, rfl, g⟩)
theorem St.noTup (S : St cx ι ρ H s) {n k : Nat} {a : Addr} {vals : Array Value} (gi : ι[n]? = some a) (g : s.heap.get? a = some { cls := .type "tuple", data := .seq vals k }) : False := by
  obtain ⟨o, _, ro⟩ := S.obj gi
  obtain ⟨ob, gb, nb⟩ := ro.get
  exact nb (Option.some.inj (g.symm.trans gb) ▸ .inl ⟨rfl, _, _, rfl⟩)
theorem St.noRng (S : St cx ι ρ H s) {n : Nat} {a : Addr} {x y z : Int} {t u v : Tok} (gi : ι[n]? = some a) (g : IsRange s.heap a x y z t u v) : False := by
  obtain ⟨o, _, ro⟩ := S.obj gi
  obtain ⟨ob, gb, nb⟩ := ro.get
  exact nb (Option.some.inj (g.symm.trans gb) ▸ .inr ⟨rfl, _, rfl⟩)
theorem tup_rng {h : Heap} {a : Addr} {vals : Array Value} {k : Nat} {x y z : Int} {t u v : Tok} (g : h.get? a = some { cls := .type "tuple", data := .seq vals k }) (g' : IsRange h a x y z t u v) : False := by
  have e := congrArg Obj.data (Option.some.inj (g.symm.trans g'))
  cases e
/-- a value stands for one abstract value -/
theorem RepV.fn (S : St cx ι ρ H s) {u : Value} {a b : V} (r : RepV ι s.heap u a) (q : RepV ι s.heap u b) : a = b := by
  refine RepV.rec (motive_1 := fun u a _ => ∀ b, RepV ι s.heap u b → a = b) (motive_2 := fun us a _ => ∀ b, RepVs ι s.heap us b → a = b) ?_ ?_ ?_ ?_ ?_ ?_ ?_ ?_ ?_ r b q
  · intro b x; cases x; rfl
  · intro _ b x; cases x; rfl
  · intro _ _ b x; cases x; rfl
  · intro _ _ _ b x; cases x; rfl
  · intro a n vals vs g z r ih b x
    obtain ⟨_, _, _, rfl, g', r'⟩ | ⟨_, _, _, _, _, _, rfl, g'⟩ | ⟨_, rfl, g'⟩ := x.refV
    · obtain ⟨e, _⟩ := Data.seq.inj (congrArg Obj.data (Option.some.inj (g.symm.trans g')))
      exact congrArg V.tup (ih _ (e ▸ r'))
    · exact (tup_rng g g').elim
    · exact (S.noTup g' g).elim
  · intro a x y z t u v g _ b x
    obtain ⟨_, _, _, rfl, g', r'⟩ | ⟨_, _, _, _, _, _, rfl, g'⟩ | ⟨_, rfl, g'⟩ := x.refV
    · exact (tup_rng g' g).elim
    · have e := Data.fields.inj (congrArg Obj.data (Option.some.inj (g.symm.trans g')))
      injection e with e
      injection e with e1 e
      injection e with e2 e
      injection e with e3 e
      injection e1 with e1
      injection e2 with e2
      injection e3 with e3
      rw [e1, e2, e3]
    · exact (S.noRng g' g).elim
  · intro a n g b x
    obtain ⟨_, _, _, rfl, g', r'⟩ | ⟨_, _, _, _, _, _, rfl, g'⟩ | ⟨_, rfl, g'⟩ := x.refV
    · exact (S.noTup g g').elim
    · exact (S.noRng g g').elim
    · rw [(List.getElem?_inj (List.getElem?_eq_some_iff.mp g).1 S.nodup).mp (g.trans g'.symm)]
  · intro b x; cases x; rfl
  · intro _ _ _ _ g r i1 i2 b x
    cases x with
    | cons g' r' => rw [i1 _ g', i2 _ r']
theorem RepVs.fn (S : St cx ι ρ H s) {us : List Value} {a b : List V} (r : RepVs ι s.heap us a) (q : RepVs ι s.heap us b) : a = b := by
  refine RepVs.rec (motive_1 := fun _ _ _ => True) (motive_2 := fun us a _ => ∀ b, RepVs ι s.heap us b → a = b) trivial (fun _ => trivial) (fun _ _ => trivial) (fun _ _ _ => trivial) (fun _ _ _ _ => trivial) (fun _ _ => trivial) (fun _ => trivial) ?_ ?_ r b q
  · intro b x; cases x; rfl
  · intro _ _ _ _ g r _ i2 b x
    cases x with
    | cons g' r' => rw [g.fn S g', i2 _ r']

theorem Snap.fn {H : Tw.H} {a : V} {d e : D} (r : Snap H a d) (q : Snap H a e) : d = e := by
  refine Snap.rec (motive_1 := fun a d _ => ∀ e, Snap H a e → d = e) (motive_2 := fun a d _ => ∀ e, Snaps H a e → d = e) ?_ ?_ ?_ ?_ ?_ ?_ ?_ ?_ r e q
  · intro e x; cases x; rfl
  · intro _ e x; cases x; rfl
  · intro _ e x; cases x; rfl
  · intro _ e x; cases x; rfl
  · intro _ _ r ih e x; cases x with | tup r' => rw [ih _ r']
  · intro _ _ _ g r ih e x
    cases x with
    | list g' r' => exact congrArg D.list (ih _ (MO.list.inj (Option.some.inj (g.symm.trans g')) ▸ r'))
  · intro e x; cases x; rfl
  · intro _ _ _ _ g r i1 i2 e x
    cases x with
    | cons g' r' => rw [i1 _ g', i2 _ r']
theorem Snaps.fn {H : Tw.H} {a : List V} {d e : List D} (r : Snaps H a d) (q : Snaps H a e) : d = e := by
  refine Snaps.rec (motive_1 := fun _ _ _ => True) (motive_2 := fun a d _ => ∀ e, Snaps H a e → d = e) trivial (fun _ => trivial) (fun _ => trivial) (fun _ => trivial) (fun _ _ => trivial) (fun _ _ _ => trivial) ?_ ?_ r e q
  · intro e x; cases x; rfl
  · intro _ _ _ _ g r _ i2 e x
    cases x with
    | cons g' r' => rw [g.fn g', i2 _ r']

theorem Snaps.length {H : Tw.H} {vs : List V} {ds : List D} (x : Snaps H vs ds) : vs.length = ds.length := by
  induction vs generalizing ds with
  | nil => cases x; rfl
  | cons v vs ih => cases x with | cons _ r => simp [ih r]
theorem Snaps.get {H : Tw.H} {vs : List V} {ds : List D} (x : Snaps H vs ds) {i : Nat} {v : V} {d : D} (hv : vs[i]? = some v) (hd : ds[i]? = some d) : Snap H v d := by
  induction vs generalizing ds i with
  | nil => simp at hv
  | cons w vs ih =>
    cases x with
    | cons g r =>
      cases i with
      | zero => simp at hv hd; subst hv; subst hd; exact g
      | succ i => exact ih r (by simpa using hv) (by simpa using hd)

structure EqAll (A : Around) (s : Shared) (u v : Value) (k : Bool) : Prop where
  rc : RcAt A s u v k
  eq : EqAt A s u v k
  ne : RcNeAt A s u v (!k)

theorem range_all_eq {ds es : List D} (hl : ds.length = es.length) (e : Nat → Bool) (he : ∀ i d d', ds[i]? = some d → es[i]? = some d' → e i = decide (d = d')) :
    (List.range ds.length).all e = decide (ds = es) := by
  rw [Bool.eq_iff_iff, List.all_eq_true, decide_eq_true_iff]
  constructor
  · intro h
    refine List.ext_getElem? fun i => ?_
    by_cases hi : i < ds.length
    · have hi' : i < es.length := hl ▸ hi
      have := h i (List.mem_range.mpr hi)
      rw [he i ds[i] es[i] (List.getElem?_eq_getElem hi) (List.getElem?_eq_getElem hi'), decide_eq_true_iff] at this
      rw [List.getElem?_eq_getElem hi, List.getElem?_eq_getElem hi', this]
    · rw [List.getElem?_eq_none (by exact qm hi), List.getElem?_eq_none (by exact qp2 qc3 qv0 qv1 qv0 qv2 qv2 qv1 qt (qi hl) (qm hi))]
  · rintro rfl i hi
    have hi := List.mem_range.mp hi
    rw [he i ds[i] ds[i] (List.getElem?_eq_getElem hi) (List.getElem?_eq_getElem hi)]
    simp

theorem isTuple_of {h : Heap} {a : Addr} {vals : Array Value} {n : Nat} (g : h.get? a = some { cls := .type "tuple", data := .seq vals n }) : h.IsTuple a vals := ⟨_, g, rfl, n, rfl⟩
theorem isList_of {h : Heap} {a : Addr} {vals : Array Value} {n : Nat} (g : h.get? a = some { cls := .type "list", data := .seq vals n }) : h.IsList a vals := ⟨_, g, rfl, n, rfl⟩

theorem range_min_all {xs ys : List D} (e : Nat → Bool) (he : ∀ i d d', xs[i]? = some d → ys[i]? = some d' → e i = decide (d = d')) :
    ((List.range (min xs.length ys.length)).all e && xs.length == ys.length) = decide (xs = ys) := by
  by_cases hl : xs.length = ys.length
  · rw [hl, Nat.min_self, beq_self_eq_true, Bool.and_true, ← hl]
    exact range_all_eq hl e he
  · have h1 : (xs.length == ys.length) = false := by simpa using hl
    rw [h1, Bool.and_false, decide_eq_false]
    intro e; exact hl (by rw [e])

theorem EqAll.no {A : Around} {u v : Value} {d e : D} (h : d ≠ e) (x : EqAll A s u v false) : EqAll A s u v (decide (d = e)) := by rw [decide_eq_false h]; exact x
theorem EqAll.yes {A : Around} {u v : Value} {d e : D} (h : d = e) (x : EqAll A s u v true) : EqAll A s u v (decide (d = e)) := by rw [decide_eq_true h]; exact x

/-- what a value is that has a snapshot -/
theorem Snap.tupI {H : Tw.H} {a : V} {ds : List D} (x : Snap H a (.tup ds)) : ∃ vs, a = .tup vs ∧ Snaps H vs ds := by cases x; exact ⟨_, rfl, by assumption⟩
theorem Snap.listI {H : Tw.H} {a : V} {ds : List D} (x : Snap H a (.list ds)) : ∃ n vs, a = .ref n ∧ H[n]? = some (.list vs) ∧ Snaps H vs ds := by cases x; exact ⟨_, _, rfl, by assumption, by assumption⟩
theorem Snap.noneI {H : Tw.H} {a : V} (x : Snap H a .none) : a = .none := by cases x; rfl
theorem Snap.intI {H : Tw.H} {a : V} {i : Int} (x : Snap H a (.int i)) : a = .int i := by cases x; rfl
theorem Snap.strI {H : Tw.H} {a : V} {i : List Nat} (x : Snap H a (.str i)) : a = .str i := by cases x; rfl

/-- the kinds of values that are compared -/
inductive Kd (s : Shared) (ι : List Addr) (H : Tw.H) : Value → D → Prop
  | none : Kd s ι H .none .none
  | int (i : Int) (t : Tok) : Kd s ι H (.int i t) (.int i)
  | str (x : Str) (t : Tok) : Kd s ι H (.str x t) (.str x.cps.toList)
  | tup {a : Addr} {vals : Array Value} {n : Nat} {vs : List V} {ds : List D} : s.heap.get? a = some { cls := .type "tuple", data := .seq vals n } → RepVs ι s.heap vals.toList vs → Snaps H vs ds → Kd s ι H (.ref a) (.tup ds)
  | list {a : Addr} {vals : Array Value} {n m : Nat} {vs : List V} {ds : List D} : s.heap.get? a = some { cls := .type "list", data := .seq vals n } → ι[m]? = some a → H[m]? = some (.list vs) → RepVs ι s.heap vals.toList vs → Snaps H vs ds → Kd s ι H (.ref a) (.list ds)
theorem kd_of (S : St cx ι ρ H s) {n : Nat} {u : Value} {a : V} {d : D} (r : RepV ι s.heap u a) (x : Snap H a d) (h : D.ok (n + 1) d = true) : Kd s ι H u d := by
  cases d with
  | bool => cases h
  | none => obtain rfl := x.noneI; obtain rfl := r.noneI; exact .none
  | int => obtain rfl := x.intI; obtain ⟨t, rfl⟩ := r.intI; exact .int _ _
  | str => obtain rfl := x.strI; obtain ⟨y, t, rfl, rfl, _⟩ := r.strInv; exact .str _ _
  | tup ds => obtain ⟨vs, rfl, sn⟩ := x.tupI; obtain ⟨a, n, vals, rfl, g, _, rv⟩ := r.tupI; exact .tup g rv sn
  | list ds =>
    obtain ⟨n, vs, rfl, hH, sn⟩ := x.listI
    obtain ⟨a, rfl, gi⟩ := r.refI
    obtain ⟨vals, m, gl, rl, _⟩ := S.objOf gi hH
    exact .list gl gi hH rl sn

theorem eq_none {A : Around} {v : Value} {e : D} (hu : A.units < cLine) (k : Kd s ι H v e) : EqAll A s .none v (decide (D.none = e)) := by
  cases k with
  | none => exact .yes rfl ⟨RcAt.none_none, EqAt.same _, RcNeAt.none_none⟩
  | int => exact .no nofun ⟨RcAt.none_int _ _, EqAt.none_int _ _, RcNeAt.none_int _ _⟩
  | str => exact .no nofun ⟨RcAt.none_str _ _, EqAt.none_str _ _, RcNeAt.none_str _ _⟩
  | tup g => exact .no nofun ⟨RcAt.none_tuple (isTuple_of g) hu, EqAt.none_tuple (isTuple_of g) hu, RcNeAt.none_tuple (isTuple_of g) hu⟩
  | list g => exact .no nofun ⟨RcAt.none_list (isList_of g) hu, EqAt.none_list (isList_of g) hu, RcNeAt.none_list (isList_of g) hu⟩
theorem eq_int {A : Around} {v : Value} {e : D} (i : Int) (t : Tok) (hu : A.units < cLine) (k : Kd s ι H v e) : EqAll A s (.int i t) v (decide (D.int i = e)) := by
  cases k with
  | none => exact .no nofun ⟨RcAt.int_none _ _, EqAt.int_none _ _, RcNeAt.int_none _ _⟩
  | int j u =>
    have e : decide (D.int i = D.int j) = (i == j) := by by_cases h : i = j <;> simp [h]
    rw [e]
    exact ⟨RcAt.int_int _ _ _ _, EqAt.int_int _ _ _ _, RcNeAt.int_int _ _ _ _⟩
  | str => exact .no nofun ⟨RcAt.int_str _ _ _ _, EqAt.int_str _ _ _ _, RcNeAt.int_str _ _ _ _⟩
  | tup g => exact .no nofun ⟨RcAt.int_tuple _ _ (isTuple_of g) hu, EqAt.int_tuple _ _ (isTuple_of g) hu, RcNeAt.int_tuple _ _ (isTuple_of g) hu⟩
  | list g => exact .no nofun ⟨RcAt.int_list _ _ (isList_of g) hu, EqAt.int_list _ _ (isList_of g) hu, RcNeAt.int_list _ _ (isList_of g) hu⟩
theorem eq_str {A : Around} {v : Value} {e : D} (y : Str) (t : Tok) (hu : A.units < cLine) (k : Kd s ι H v e) : EqAll A s (.str y t) v (decide (D.str y.cps.toList = e)) := by
  cases k with
  | none => exact .no nofun ⟨RcAt.str_none _ _, EqAt.str_none _ _, RcNeAt.str_none _ _⟩
  | int => exact .no nofun ⟨RcAt.str_int _ _ _ _, EqAt.str_int _ _ _ _, RcNeAt.str_int _ _ _ _⟩
  | str y' =>
    have e : decide (D.str y.cps.toList = D.str y'.cps.toList) = (y == y') := by
      by_cases h : y = y'
      · subst h; simp
      · have : ¬ y.cps.toList = y'.cps.toList := fun q => h (str_inj q)
        simp [h, this]
    rw [e]
    exact ⟨RcAt.str_str _ _ _ _, EqAt.str_str _ _ _ _, RcNeAt.str_str _ _ _ _⟩
  | tup g => exact .no nofun ⟨RcAt.str_tuple _ _ (isTuple_of g) hu, EqAt.str_tuple _ _ (isTuple_of g) hu, RcNeAt.str_tuple _ _ (isTuple_of g) hu⟩
  | list g => exact .no nofun ⟨RcAt.str_list _ _ (isList_of g) hu, EqAt.str_list _ _ (isList_of g) hu, RcNeAt.str_list _ _ (isList_of g) hu⟩

/-- item by item -/
noncomputable def itemEq (ds es : List D) (j : Nat) : Bool := match ds[j]?, es[j]? with | some d, some e => decide (d = e) | _, _ => false
theorem itemEq_at {ds es : List D} (i : Nat) (d d' : D) (h1 : ds[i]? = some d) (h2 : es[i]? = some d') : itemEq ds es i = decide (d = d') := by
  unfold itemEq; rw [h1, h2]
noncomputable def Items (A : Around) (s : Shared) (n : Nat) (ι : List Addr) (H : Tw.H) : Prop := ∀ {xs ys : Array Value} {vs ws : List V} {ds es : List D}, RepVs ι s.heap xs.toList vs → RepVs ι s.heap ys.toList ws → Snaps H vs ds → Snaps H ws es → ds.all (D.ok n) = true → es.all (D.ok n) = true →
        ∀ j (h1 : j < xs.size) (h2 : j < ys.size), EqAt A.in1 s xs[j] ys[j] (itemEq ds es j)
theorem eq_tup (S : St cx ι ρ H s) {A : Around} {v : Value} {e : D} {n m : Nat} {la : Addr} {va : Array Value} {vs : List V} {ds : List D} (hu : A.units < cLine) (it : Items A s n ι H) (g : s.heap.get? la = some { cls := .type "tuple", data := .seq va m }) (q : RepVs ι s.heap va.toList vs) (r : Snaps H vs ds)
    (hd : ds.all (D.ok n) = true) (he : D.ok (n + 1) e = true) (k : Kd s ι H v e) : EqAll A s (.ref la) v (decide (D.tup ds = e)) := by
  cases k with
  | none => exact .no nofun ⟨RcAt.tuple_none (isTuple_of g) hu, EqAt.tuple_none (isTuple_of g) hu, RcNeAt.tuple_none (isTuple_of g) hu⟩
  | int => exact .no nofun ⟨RcAt.tuple_int _ _ (isTuple_of g) hu, EqAt.tuple_int _ _ (isTuple_of g) hu, RcNeAt.tuple_int _ _ (isTuple_of g) hu⟩
  | str => exact .no nofun ⟨RcAt.tuple_str _ _ (isTuple_of g) hu, EqAt.tuple_str _ _ (isTuple_of g) hu, RcNeAt.tuple_str _ _ (isTuple_of g) hu⟩
  | list g' => exact .no nofun ⟨RcAt.tuple_list (isTuple_of g) (isList_of g') hu, EqAt.tuple_list (isTuple_of g) (isList_of g') hu, RcNeAt.tuple_list (isTuple_of g) (isList_of g') hu⟩
  | @tup lb vb _ ws es g' q' r' =>
    have hsz1 : va.size = ds.length := by rw [← Array.length_toList, q.length, r.length]
    have hsz2 : vb.size = es.length := by rw [← Array.length_toList, q'.length, r'.length]
    have e0 : decide (D.tup ds = D.tup es) = decide (ds = es) := by by_cases h : ds = es <;> simp [h]
    have it := it q q' r r' hd he
    have e1 := range_min_all (xs := ds) (ys := es) _ itemEq_at
    rw [← hsz1, ← hsz2] at e1
    rw [e0]
    have rc := RcAt.tuples (isTuple_of g) (isTuple_of g') hu it
    have ne := RcNeAt.tuples (isTuple_of g) (isTuple_of g') hu it
    rw [e1] at rc ne
    by_cases hab : la = lb
    · subst hab
      rw [g] at g'; cases g'
      have := RepVs.fn S q q'
      subst this
      have := Snaps.fn r r'
      subst this
      refine ⟨rc, ?_, ne⟩
      rw [decide_eq_true rfl]; exact EqAt.same _
    · exact ⟨rc, .of_refs hab rc, ne⟩
theorem eq_list (S : St cx ι ρ H s) {A : Around} {v : Value} {e : D} {n m na : Nat} {la : Addr} {va : Array Value} {vs : List V} {ds : List D} (hu : A.units < cLine) (it : Items A s n ι H) (g : s.heap.get? la = some { cls := .type "list", data := .seq va m }) (gi : ι[na]? = some la) (ga : H[na]? = some (.list vs)) (q : RepVs ι s.heap va.toList vs) (r : Snaps H vs ds)
    (hd : ds.all (D.ok n) = true) (he : D.ok (n + 1) e = true) (k : Kd s ι H v e) : EqAll A s (.ref la) v (decide (D.list ds = e)) := by
  cases k with
  | none => exact .no nofun ⟨RcAt.list_none (isList_of g) hu, EqAt.list_none (isList_of g) hu, RcNeAt.list_none (isList_of g) hu⟩
  | int => exact .no nofun ⟨RcAt.list_int _ _ (isList_of g) hu, EqAt.list_int _ _ (isList_of g) hu, RcNeAt.list_int _ _ (isList_of g) hu⟩
  | str => exact .no nofun ⟨RcAt.list_str _ _ (isList_of g) hu, EqAt.list_str _ _ (isList_of g) hu, RcNeAt.list_str _ _ (isList_of g) hu⟩
  | tup g' => exact .no nofun ⟨RcAt.list_tuple (isList_of g) (isTuple_of g') hu, EqAt.list_tuple (isList_of g) (isTuple_of g') hu, RcNeAt.list_tuple (isList_of g) (isTuple_of g') hu⟩
  | @list lb vb _ nb ws es g' gi' gb q' r' =>
    have hsz1 : va.size = ds.length := by rw [← Array.length_toList, q.length, r.length]
    have hsz2 : vb.size = es.length := by rw [← Array.length_toList, q'.length, r'.length]
    have e0 : decide (D.list ds = D.list es) = decide (ds = es) := by by_cases h : ds = es <;> simp [h]
    rw [e0]
    have both : RcAt A s (.ref la) (.ref lb) (decide (ds = es)) ∧ RcNeAt A s (.ref la) (.ref lb) (!decide (ds = es)) := by
      by_cases hl : va.size = vb.size
      · have it := it q q' r r' hd he
        have e1 := range_all_eq (ds := ds) (es := es) (by rw [← hsz1, ← hsz2, hl]) _ itemEq_at
        rw [← hsz1] at e1
        have rc := RcAt.lists (isList_of g) (isList_of g') hl hu it
        have ne := RcNeAt.lists (isList_of g) (isList_of g') hl hu it
        rw [e1] at rc ne
        exact ⟨rc, ne⟩
      · have hne : ds ≠ es := fun e => hl (by rw [hsz1, hsz2, e])
        rw [decide_eq_false hne]
        exact ⟨RcAt.lists_lengths (isList_of g) (isList_of g') (by simpa using hl) hu, RcNeAt.lists_lengths (isList_of g) (isList_of g') (by simpa using hl) hu⟩
    by_cases hab : la = lb
    · subst hab
      have := RepV.fn S (.ref gi) (.ref gi')
      cases this
      rw [ga] at gb; cases gb
      have := Snaps.fn r r'
      subst this
      refine ⟨both.1, ?_, both.2⟩
      rw [decide_eq_true rfl]; exact EqAt.same _
    · exact ⟨both.1, .of_refs hab both.1, both.2⟩

theorem eq_snap (S : St cx ι ρ H s) : ∀ (n : Nat) {A : Around} {u v : Value} {a b : V} {d e : D}, A.units + n < cLine → RepV ι s.heap u a → RepV ι s.heap v b → Snap H a d → Snap H b e → D.ok n d = true → D.ok n e = true →
    EqAll A s u v (decide (d = e))
  | 0, _, _, _, _, _, _, _, _, _, _, _, _, hd, _ => nomatch hd
  | n + 1, A, u, v, a, b, d, e, hu, ru, rv, sa, sb, hd, he => by
    have hu0 : A.units < cLine := by exact qp1 qc3 qs0 qv1 (qA (qA qv0 qs2) qk1) qv1 qt hu
    have items : Items A s n ι H := fun {xs ys vs ws ds es} rx ry sx sy okx oky j h1 h2 => by
      have hu1 : A.in1.units + n < cLine := by show A.units + 1 + n < cLine; exact qp1 qc3 (qA (qA qs0 qv1) qk1) qv2 (qA (qA qv0 qs1) qk1) qv2 qt hu
      have e1 : xs.toList[j]? = some xs[j] := by simp [h1]
      have e2 : ys.toList[j]? = some ys[j] := by simp [h2]
      obtain ⟨vj, hvj, rj⟩ := rx.get' e1
      obtain ⟨wj, hwj, qj⟩ := ry.get' e2
      have l1 : j < ds.length := by rw [← sx.length]; exact (List.getElem?_eq_some_iff.mp hvj).1
      have l2 : j < es.length := by rw [← sy.length]; exact (List.getElem?_eq_some_iff.mp hwj).1
      rw [itemEq_at j _ _ (List.getElem?_eq_getElem l1) (List.getElem?_eq_getElem l2)]
      exact (eq_snap S n hu1 rj qj (sx.get hvj (List.getElem?_eq_getElem l1)) (sy.get hwj (List.getElem?_eq_getElem l2))
        (List.all_eq_true.mp okx _ (List.getElem_mem l1)) (List.all_eq_true.mp oky _ (List.getElem_mem l2))).eq
    have ke := kd_of S rv sb he
    cases kd_of S ru sa hd with
    | none => exact eq_none hu0 ke
    | int => exact eq_int _ _ hu0 ke
    | str => exact eq_str _ _ hu0 ke
    | tup g q r => exact eq_tup S hu0 items g q r hd he ke
    | list g gi ga q r => exact eq_list S hu0 items g gi ga q r hd he ke
end
end Tw
end

section
namespace Tw
open PySem PySem.SeqAt

/-! keys -/
noncomputable def V.toD : V → D
  | .none => .none
  | .bool b => .bool b
  | .int i => .int i
  | .str s => .str s
  | .tup vs => .tup (V.toDs vs)
  | _ => .none
where V.toDs : List V → List D
  | [] => []
  | .int i :: r => .int i :: V.toDs r
  | .str s :: r => .str s :: V.toDs r
  | _ :: r => .none :: V.toDs r

theorem snaps_atoms {H : H} : ∀ {vs : List V}, vs.all V.isAtom = true → Snaps H vs (V.toD.V.toDs vs)
  | [], _ => .nil
  | v :: r, h => by
    simp only [List.all_cons, Bool.and_eq_true] at h
    cases v with
    | int i => exact .cons (.int i) (snaps_atoms h.2)
    | str s => exact .cons (.str s) (snaps_atoms h.2)
    | _ => exact Bool.noConfusion h.1
theorem snap_key {H : H} {k : V} (h : k.isKey = true) : Snap H k k.toD := by
  cases k with
  | int i => exact .int i
  | str s => exact .str s
  | tup vs => exact .tup (snaps_atoms h)
  | _ => exact Bool.noConfusion h
theorem ok_atoms {n : Nat} : ∀ {vs : List V}, vs.all V.isAtom = true → (V.toD.V.toDs vs).all (D.ok (n + 1)) = true
  | [], _ => rfl
  | v :: r, h => by
    simp only [List.all_cons, Bool.and_eq_true] at h
    cases v with
    | int i => simpa [V.toD.V.toDs, D.ok] using ok_atoms h.2
    | str s => simpa [V.toD.V.toDs, D.ok] using ok_atoms h.2
    | _ => exact Bool.noConfusion h.1
theorem ok_key {n : Nat} {k : V} (h : k.isKey = true) : D.ok (n + 2) k.toD = true := by
  cases k with
  | int i => rfl
  | str s => rfl
  | tup vs => exact ok_atoms h
  | _ => exact Bool.noConfusion h
noncomputable def D.atomV : D → V
  | .int i => .int i
  | .str s => .str s
  | _ => .none
noncomputable def D.keyV : D → V
  | .tup ds => .tup (ds.map D.atomV)
  | d => d.atomV
theorem toDs_back : ∀ {vs : List V}, vs.all V.isAtom = true → (V.toD.V.toDs vs).map D.atomV = vs
  | [], _ => rfl
  | v :: r, h => by
    rw [List.all_cons, Bool.and_eq_true] at h
    have ih := toDs_back h.2
    cases v with
    | int i => exact congrArg (V.int i :: ·) ih
    | str s => exact congrArg (V.str s :: ·) ih
    | _ => exact Bool.noConfusion h.1
theorem key_back {k : V} (h : k.isKey = true) : k.toD.keyV = k := by
  cases k with
  | int => rfl
  | str => rfl
  | tup vs => exact congrArg V.tup (toDs_back h)
  | _ => exact Bool.noConfusion h
theorem toD_inj {k k' : V} (h : k.isKey = true) (h' : k'.isKey = true) (e : k.toD = k'.toD) : k = k' := (key_back h).symm.trans ((congrArg D.keyV e).trans (key_back h'))

section
variable {cx : Cx} {ι : List Addr} {ρ : Rho} {H : H} {s : Shared} {A : Around}

theorem eq_key (S : St cx ι ρ H s) {u v : Value} {k k' : V} (hu : A.units + 9 < cLine) (r : RepV ι s.heap u k) (r' : RepV ι s.heap v k') (h : k.isKey = true) (h' : k'.isKey = true) :
    EqAt A s u v (decide (k = k')) := by
  have e := (eq_snap S 9 (A := A) hu r r' (snap_key h) (snap_key h') (ok_key h) (ok_key h')).eq
  have : decide (k.toD = k'.toD) = decide (k = k') := by
    by_cases q : k = k'
    · subst q; simp
    · have : ¬ k.toD = k'.toD := fun q' => q (toD_inj h h' q')
      simp [q, this]
  rw [this] at e; exact e

theorem atoms_byValue {h : Heap} {xs : List Value} {vs : List V} (r : RepVs ι h xs vs) : vs.all V.isAtom = true → ∀ x ∈ xs, carriedByValue x = true := by
  induction xs generalizing vs with
  | nil => exact fun _ x hx => nomatch hx
  | cons y ys ih =>
    cases r with
    | cons g r =>
      intro h x hx
      rw [List.all_cons, Bool.and_eq_true] at h
      rcases List.mem_cons.mp hx with rfl | hx
      · cases g <;> first | rfl | exact Bool.noConfusion h.1
      · exact ih r h.2 x hx

theorem quiet_key {prog : Program} {w : World} {E : Value → Shared → Prop} {u : Value} {k : V} {Q : Bool → Shared → Prop} (r : RepV ι s.heap u k) (h : k.isKey = true) (q : Q true s) : wpAny (model prog w) A (eqIsQuiet 8 u) Q E s := by
  cases r with
  | none => exact Bool.noConfusion h
  | bool => exact Bool.noConfusion h
  | int i t => rw [eqIsQuiet_byValue 8 rfl]; exact wpAny_pure q
  | str x t z => rw [eqIsQuiet_byValue 8 rfl]; exact wpAny_pure q
  | rng => exact Bool.noConfusion h
  | ref => exact Bool.noConfusion h
  | @tup a n vals vs g z r =>
    have hT : s.TypeIs (.ref a) "tuple" := ⟨_, g, rfl⟩
    have hv := atoms_byValue r h
    unfold eqIsQuiet
    refine wpAny_bind (wpAny_specialOf hT F.slot_tuple_eq.lookup ?_)
    show wpAny _ _ (isInstance (.ref a) (.type "tuple") >>= _) _ _ s
    refine wpAny_bind (wpAny_isInstance hT isSubtype_tuple_tuple ?_)
    simp only [Bool.not_true, Bool.false_eq_true, if_false]
    refine wpAny_bind (wpAny_seqItems g rfl ?_)
    refine wpAny_bind ?_
    show wpAny _ _ (forIn vals _ _) _ _ s
    rw [← Array.forIn_toList]
    refine wpAny_forIn_list _ (fun rest r s' => r.1 = none ∧ s' = s ∧ ∀ v ∈ rest, carriedByValue v = true) _ ?_ ?_ _ _ ⟨rfl, rfl, hv⟩
    · rintro v rest r s' ⟨hr, rfl, hall⟩
      rw [eqIsQuiet_byValue _ (hall v List.mem_cons_self)]
      refine wpAny_bind (wpAny_pure ?_)
      simp only [Bool.not_true, Bool.false_eq_true, if_false]
      exact wpAny_pure ⟨rfl, rfl, fun u hu' => hall u (List.mem_cons_of_mem _ hu')⟩
    · rintro ⟨r1, r2⟩ s' ⟨hr, rfl, _⟩
      simp only at hr
      subst hr
      exact wpAny_pure q

theorem tells_key {prog : Program} {w : World} {E : Value → Shared → Prop} {u : Value} {k : V} {stored : List Value} {Q : Bool → Shared → Prop} (r : RepV ι s.heap u k) (h : k.isKey = true)
    (hst : ∀ v ∈ stored, ∃ k', RepV ι s.heap v k' ∧ k'.isKey = true) (q : Q false s) : wpAny (model prog w) A (tableMayTell u stored) Q E s := by
  unfold tableMayTell
  split
  · exact wpAny_pure q
  · refine wpAny_bind (quiet_key r h ?_)
    simp only [Bool.not_true, Bool.false_eq_true, if_false]
    refine wpAny_bind ?_
    refine wpAny_forIn_list _ (fun rest r s' => s' = s ∧ r = (none, ()) ∧ ∀ v ∈ rest, ∃ k', RepV ι s.heap v k' ∧ k'.isKey = true) _ ?_ ?_ _ _ ⟨rfl, rfl, hst⟩
    · rintro x rest r s' ⟨rfl, rfl, hr⟩
      obtain ⟨k', hb, hk'⟩ := hr x List.mem_cons_self
      refine wpAny_bind (quiet_key hb hk' ?_)
      simp only [Bool.not_true, Bool.false_eq_true, if_false]
      exact wpAny_pure ⟨rfl, rfl, fun v hv => hr v (List.mem_cons_of_mem _ hv)⟩
    · rintro r s' ⟨rfl, rfl, _⟩
      exact wpAny_pure q

theorem RepEs.length {w : World} {h : Heap} {es : List DictEntry} {r : List (V × V)} (x : RepEs w ι h es r) : es.length = r.length := by
  induction x with
  | nil => rfl
  | cons _ _ _ _ _ ih => simp [ih]
theorem RepEs.get {w : World} {h : Heap} {es : List DictEntry} {r : List (V × V)} (x : RepEs w ι h es r) {i : Nat} {e : DictEntry} (he : es[i]? = some e) :
    ∃ k v, r[i]? = some (k, v) ∧ e.hash = hashK w k ∧ RepV ι h e.key k ∧ RepV ι h e.val v ∧ k.isKey = true := by
  induction x generalizing i with
  | nil => simp at he
  | cons a b c d _ ih =>
    cases i with
    | zero => simp at he; subst he; exact ⟨_, _, rfl, a, b, c, d⟩
    | succ i => simpa using ih (by simpa using he)
theorem RepEs.get' {w : World} {h : Heap} {es : List DictEntry} {r : List (V × V)} (x : RepEs w ι h es r) {i : Nat} {k v : V} (he : r[i]? = some (k, v)) :
    ∃ e, es[i]? = some e ∧ e.hash = hashK w k ∧ RepV ι h e.key k ∧ RepV ι h e.val v ∧ k.isKey = true := by
  induction x generalizing i with
  | nil => simp at he
  | cons a b c d _ ih =>
    cases i with
    | zero => simp at he; obtain ⟨rfl, rfl⟩ := he; exact ⟨_, rfl, a, b, c, d⟩
    | succ i => simpa using ih (by simpa using he)

theorem keys_idx {es : List (V × V)} (nd : (es.map (·.1)).Nodup) {i j : Nat} {k v v' : V} (h1 : es[i]? = some (k, v)) (h2 : es[j]? = some (k, v')) : i = j := by
  have e1 : (es.map (·.1))[i]? = some k := by simp [h1]
  have e2 : (es.map (·.1))[j]? = some k := by simp [h2]
  exact (List.getElem?_inj (List.getElem?_eq_some_iff.mp e1).1 nd).mp (e1.trans e2.symm)

/-- a loop over the places of one hash -/
theorem find_loop {prog : Program} {w : World} {E : Value → Shared → Prop} {β : Type} {n : Nat} {p : Nat → Bool} {f : Nat → β → Sem (ForInStep β)} {b0 : β} {Q : β → Shared → Prop} (Inv : Nat → β → Prop) (h0 : Inv 0 b0)
    (skip : ∀ i b, p i = false → Inv i b → Inv (i + 1) b) (step : ∀ i b, i < n → p i = true → Inv i b → wpAny (model prog w) A (f i b) (fun r s' => match r with | .yield b' => s' = s ∧ Inv (i + 1) b' | .done b' => Q b' s') E s)
    (fin : ∀ b, Inv n b → Q b s) : wpAny (model prog w) A (forIn ((List.range n).filter p) b0 f) Q E s := by
  have jump : ∀ m i b, (∀ j, i ≤ j → j < i + m → p j = false) → Inv i b → Inv (i + m) b := by
    intro m
    induction m with
    | zero => intro i b _ h; exact h
    | succ m ih => intro i b hp h; exact skip _ _ (hp (i + m) (Nat.le_add_right _ _) (Nat.lt_succ_self _)) (ih i b (fun j a c => hp j a (Nat.lt_succ_of_lt c)) h)
  refine wpAny_forIn_list _ (fun rest b s' => s' = s ∧ ∃ i, i ≤ n ∧ rest = (List.range' i (n - i)).filter p ∧ Inv i b) _ ?_ ?_ _ _ ⟨rfl, 0, Nat.zero_le _, by rw [List.range_eq_range', Nat.sub_zero], h0⟩
  · intro x rest b s' h
    obtain ⟨rfl, i, hi, hr, hI⟩ := h
    obtain ⟨h1, h2, h3, h4, h5⟩ := filter_range'_cons _ _ _ _ _ hr.symm
    have hIx : Inv x b := by
      have := jump (x - i) i b (fun j a c => h4 j a (by rw [Nat.add_sub_cancel' h1] at c; exact c)) hI
      rw [Nat.add_sub_cancel' h1] at this; exact this
    have hin := Nat.add_sub_cancel' hi
    have hxn : x < n := by rw [hin] at h2; exact h2
    refine wpAny_mono (step x b hxn h3 hIx) (fun r s'' hr => ?_) fun _ _ e => e
    cases r with
    | yield b' => exact ⟨hr.1, x + 1, hxn, by rw [h5, hin], hr.2⟩
    | done b' => exact hr
  · intro b s' h
    obtain ⟨rfl, i, hi, hr, hI⟩ := h
    refine fin b ?_
    have := jump (n - i) i b (fun j a c => by
      have := List.filter_eq_nil_iff.mp hr.symm j (List.mem_range'_1.mpr ⟨a, c⟩)
      simpa using this) hI
    rw [Nat.add_sub_cancel' hi] at this; exact this

/-- what is known of a table and a key that is sought in it -/
structure Fk (A : Around) (s : Shared) (ents : Array DictEntry) (es : List (V × V)) (key : Value) (k : V) (hv : Int) : Prop where
  nd : (es.map (·.1)).Nodup
  get : ∀ i (hi : i < ents.size), ∃ k' v', es[i]? = some (k', v') ∧ (k' = k → ents[i].hash = hv) ∧ EqAt A s ents[i].key key (decide (k' = k))
  sz : ents.size = es.length
noncomputable def hasH (ents : Array DictEntry) (hv : Int) (i : Nat) : Bool := (ents[i]?.map (·.hash)) == some hv
section
variable {ents : Array DictEntry} {es : List (V × V)} {key : Value} {k : V} {hv : Int} (F : Fk A s ents es key k hv)
include F
theorem Fk.skip {i : Nat} (hp : hasH ents hv i = false) (v : V) : es[i]? ≠ some (k, v) := fun he => by
  have hi : i < ents.size := by rw [F.sz]; exact (List.getElem?_eq_some_iff.mp he).1
  obtain ⟨k', v', he', hh, _⟩ := F.get i hi
  rw [he] at he'; cases he'
  rw [hasH, Array.getElem?_eq_getElem hi, Option.map_some, hh rfl] at hp
  simp at hp
theorem Fk.out {v : V} {i : Nat} (hi : ents.size ≤ i) : es[i]? ≠ some (k, v) := fun he => by
  have := (List.getElem?_eq_some_iff.mp he).1
  rw [F.sz] at hi; exact qf2 qc2 qv0 qv1 qs1 qv0 qt hi this
omit F in
theorem Fk.less {n : Nat} (h : ∀ (j : Nat) v, j < n → es[j]? ≠ some (k, v)) (hn : ∀ v, es[n]? ≠ some (k, v)) : ∀ (j : Nat) v, j < n + 1 → es[j]? ≠ some (k, v) := fun j v hj => by
  rcases Nat.lt_or_ge j n with h' | h'
  · exact h j v h'
  · have : j = n := by exact Nat.le_antisymm (qp1 qc2 qv0 qv1 qs0 qs1 qt hj) (h')
    subst this; exact hn v
theorem Fk.none (h : ∀ (j : Nat) v, j < ents.size → es[j]? ≠ some (k, v)) (j : Nat) (v : V) : es[j]? ≠ some (k, v) := by
  rcases Nat.lt_or_ge j ents.size with h' | h'
  · exact h j v h'
  · exact F.out h'
end
theorem hasH_eq {ents : Array DictEntry} {hv : Int} {i : Nat} (hi : i < ents.size) (hp : hasH ents hv i = true) : (ents[i].hash == hv) = true := by
  rw [hasH, Array.getElem?_eq_getElem hi, Option.map_some] at hp
  simpa using hp

section
variable {prog : Program} {w : World} {E : Value → Shared → Prop} {d : Addr} {o : Obj} {ents : Array DictEntry} {ep : Nat} {es : List (V × V)} {key : Value} {k : V} {hv : Int} {Q : Option Nat → Shared → Prop}
/-- the walk over entries that are carried by value -/
theorem find_plain (ho : s.heap.get? d = some o) (hd : o.data = .dict ents ep) (F : Fk A s ents es key k hv) (hnone : (∀ (i : Nat) (v : V), es[i]? ≠ some (k, v)) → Q none s) (hsome : ∀ (i : Nat) (v : V), es[i]? = some (k, v) → Q (some i) s) :
    wpAny (model prog w) A (dictWalkPlain d key hv ents ((List.range ents.size).filter (hasH ents hv))) Q E s := by
  refine wpAny_bind (find_loop (fun i b => b = (none, ()) ∧ ∀ (j : Nat) v, j < i → es[j]? ≠ some (k, v)) ⟨rfl, fun _ _ h => absurd h (Nat.not_lt_zero _)⟩ (fun i b hp h => ⟨h.1, Fk.less h.2 (F.skip hp)⟩) ?_ ?_)
  · intro x b hlt hp h
    obtain ⟨rfl, hno⟩ := h
    obtain ⟨k', v', he, _, eqb⟩ := F.get x hlt
    simp only [Array.getElem?_eq_getElem hlt]
    rw [if_pos (hasH_eq hlt hp)]
    refine wpAny_bind (wpAny_dictEpoch ho hd (wpAny_bind (eqb _ _ _ _ (wpAny_bind (wpAny_dictEpoch ho hd ?_)))))
    rw [if_neg (by simp)]
    by_cases hkk : k' = k
    · rw [decide_eq_true hkk]
      exact wpAny_bind (wpAny_rule (wpAny_pure (wpAny_pure (hsome x v' (hkk ▸ he)))))
    · rw [decide_eq_false hkk]
      exact wpAny_bind (wpAny_rule (wpAny_pure ⟨rfl, rfl, Fk.less hno fun v hv => by rw [he] at hv; cases hv; exact hkk rfl⟩))
  · intro b h
    obtain ⟨rfl, hno⟩ := h
    exact wpAny_pure (hnone (F.none hno))

theorem ite_bind {α : Type} {c : Prop} [Decidable c] {m : Sem Bool} {f : Bool → Sem α} {Q : α → Shared → Prop} (hp : wpAny (model prog w) A (f false) Q E s) (ht : ¬ c → ∀ Q' : Bool → Shared → Prop, Q' false s → wpAny (model prog w) A m Q' E s) :
    wpAny (model prog w) A (if c then f false else m >>= f) Q E s := by
  by_cases h : c
  · rw [if_pos h]; exact hp
  · rw [if_neg h]; exact wpAny_bind (ht h _ hp)
theorem ite_of {α : Type} {c : Prop} [Decidable c] {a b : Sem α} {Q : α → Shared → Prop} (h1 : wpAny (model prog w) A a Q E s) (h2 : wpAny (model prog w) A b Q E s) : wpAny (model prog w) A (if c then a else b) Q E s := by
  by_cases h : c
  · rw [if_pos h]; exact h1
  · rw [if_neg h]; exact h2
theorem ite_or {α : Type} {c : Prop} [Decidable c] {a b : Sem α} {Q : α → Shared → Prop} (h1 : c → wpAny (model prog w) A a Q E s) (h2 : wpAny (model prog w) A b Q E s) : wpAny (model prog w) A (if c then a else b) Q E s := by
  by_cases h : c
  · rw [if_pos h]; exact h1 h
  · rw [if_neg h]; exact h2
theorem ite_no {α : Type} {c : Prop} [Decidable c] {a b : Sem α} {Q : α → Shared → Prop} (h : ¬ c) (h2 : wpAny (model prog w) A b Q E s) : wpAny (model prog w) A (if c then a else b) Q E s := by
  rw [if_neg h]; exact h2
noncomputable def findT (d : Addr) (key : Value) (ents : Array DictEntry) (hv : Int) (stored : List Value) : Sem (Option Nat) := do
          let tells ← if stored == [key] then pure false else tableMayTell key stored
          if tells && stored.length ≥ 2 then unsupported "dict.find:order-among-keys-of-one-hash"
          let mut hit : Option Nat := none
          for i in (List.range ents.size).filter (hasH ents hv) do
            if let some e := ents[i]? then
              if e.hash == hv then
                let before ← dictEpoch d (keyPart key)
                let same ← eqBool e.key key
                if (← dictEpoch d (keyPart key)) != before then unsupported "dict.changed-during-lookup"
                if same then
                  if hit.isSome then unsupported "dict.find:order-among-keys-of-one-hash"
                  rule "dict.find.hit"
                  if stored.length < 2 then return some i
                  hit := some i
                else
                  rule "dict.find.same-hash-other-key"
                  if tells && !(0 ≤ hv && hv < 32) then unsupported "dict.find:asked-again-or-not-hangs-on-the-table"
          return hit
/-- the walk that may ask again -/
theorem find_tail {stored : List Value} (ho : s.heap.get? d = some o) (hd : o.data = .dict ents ep) (F : Fk A s ents es key k hv) (hnone : (∀ (i : Nat) (v : V), es[i]? ≠ some (k, v)) → Q none s) (hsome : ∀ (i : Nat) (v : V), es[i]? = some (k, v) → Q (some i) s)
    (told : ∀ Q' : Bool → Shared → Prop, Q' false s → wpAny (model prog w) A (tableMayTell key stored) Q' E s) :
    wpAny (model prog w) A (findT d key ents hv stored) Q E s := by
  unfold findT
  dsimp only
  refine ite_bind ?_ fun _ => told
  rw [if_neg (by simp)]
  refine wpAny_bind (find_loop (fun i b => ∃ hit, b = (none, hit) ∧ ((hit = none ∧ ∀ (j : Nat) v, j < i → es[j]? ≠ some (k, v)) ∨ ∃ j v, hit = some j ∧ j < i ∧ es[j]? = some (k, v))) ⟨none, rfl, .inl ⟨rfl, fun _ _ h => absurd h (Nat.not_lt_zero _)⟩⟩ ?_ ?_ ?_)
  · intro i b hp h
    obtain ⟨hit, rfl, h⟩ := h
    refine ⟨hit, rfl, ?_⟩
    rcases h with ⟨h0, hno⟩ | ⟨j, v, h1, h2, h3⟩
    · exact .inl ⟨h0, Fk.less hno (F.skip hp)⟩
    · exact .inr ⟨j, v, h1, by exact qp1 qc2 qs0 qs1 qs0 qv1 qt h2, h3⟩
  · intro x b hlt hp h
    obtain ⟨hit, rfl, h⟩ := h
    obtain ⟨k', v', he, _, eqb⟩ := F.get x hlt
    simp only [Array.getElem?_eq_getElem hlt]
    rw [if_pos (hasH_eq hlt hp)]
    refine wpAny_bind (wpAny_dictEpoch ho hd (wpAny_bind (eqb _ _ _ _ (wpAny_bind (wpAny_dictEpoch ho hd ?_)))))
    rw [if_neg (by simp)]
    by_cases hkk : k' = k
    · rw [decide_eq_true hkk]
      subst hkk
      rcases h with ⟨rfl, _⟩ | ⟨j, p, _, hjx, hj⟩
      · simp only [Option.isSome_none, Bool.false_eq_true, if_false, if_true]
        refine wpAny_bind (wpAny_rule ?_)
        split
        · exact wpAny_pure (wpAny_pure (hsome x _ he))
        · exact wpAny_pure ⟨rfl, some x, rfl, .inr ⟨x, _, rfl, Nat.lt_succ_self x, he⟩⟩
      · exact absurd (keys_idx F.nd hj he) (by exact fun e0 => qf2 qc2 qs0 qv1 qv1 qv0 qt hjx (qi e0))
    · rw [decide_eq_false hkk]
      simp only [Bool.false_eq_true, if_false, Bool.false_and]
      refine wpAny_bind (wpAny_rule (wpAny_pure ⟨rfl, hit, rfl, ?_⟩))
      rcases h with ⟨h0, hno⟩ | ⟨j, v, h1, h2, h3⟩
      · exact .inl ⟨h0, Fk.less hno fun v hv => by rw [he] at hv; cases hv; exact hkk rfl⟩
      · exact .inr ⟨j, v, h1, by exact qp1 qc2 qs0 qs1 qs0 qv1 qt h2, h3⟩
  · intro b h
    obtain ⟨hit, rfl, h⟩ := h
    rcases h with ⟨rfl, hno⟩ | ⟨j, p, rfl, _, hj⟩
    · exact wpAny_pure (hnone (F.none hno))
    · exact wpAny_pure (hsome j p hj)

/-- the table whose keys are strs -/
theorem find_str {x : Str} {t : Tok} (ho : s.heap.get? d = some o) (hd : o.data = .dict ents ep) (F : Fk A s ents es (.str x t) k hv) (hstr : ∀ i (hi : i < ents.size) k' v', es[i]? = some (k', v') → ents[i].key.isStr x = decide (k' = k))
    (hnone : (∀ (i : Nat) (v : V), es[i]? ≠ some (k, v)) → Q none s) (hsome : ∀ (i : Nat) (v : V), es[i]? = some (k, v) → Q (some i) s) : wpAny (model prog w) A (foundByValue d (.str x t) ents x) Q E s := by
  unfold foundByValue
  cases hf : ents.findIdx? (fun e => e.key.isStr x) with
  | none =>
    refine wpAny_pure (hnone fun j v hj => ?_)
    have hjl : j < ents.size := by rw [F.sz]; exact (List.getElem?_eq_some_iff.mp hj).1
    have := Array.findIdx?_eq_none_iff.mp hf ents[j] (Array.getElem_mem hjl)
    rw [hstr j hjl _ _ hj] at this
    simp at this
  | some i =>
    obtain ⟨hlt, hi, _⟩ := Array.findIdx?_eq_some_iff_getElem.mp hf
    obtain ⟨k', v', he, _, eqb⟩ := F.get i hlt
    rw [hstr i hlt _ _ he] at hi
    have hkk : k' = k := of_decide_eq_true hi
    subst hkk
    simp only [Array.getElem?_eq_getElem hlt]
    refine wpAny_bind (wpAny_dictEpoch ho hd (wpAny_bind (eqb _ _ _ _ (wpAny_bind (wpAny_dictEpoch ho hd ?_)))))
    rw [if_neg (by simp), decide_eq_true rfl]
    exact wpAny_bind (wpAny_rule (wpAny_pure (hsome i v' he)))
end

theorem kinds {h : Heap} {key : Value} {k : V} (rk : RepV ι h key k) (hk : k.isKey = true) : (∃ i t, key = .int i t) ∨ (∃ x t, key = .str x t) ∨ ∃ a, key = .ref a := by
  cases k with
  | int => obtain ⟨t, rfl⟩ := rk.intI; exact .inl ⟨_, _, rfl⟩
  | str => obtain ⟨x, t, rfl, _⟩ := rk.strInv; exact .inr (.inl ⟨_, _, rfl⟩)
  | tup => obtain ⟨a, _, _, rfl, _⟩ := rk.tupI; exact .inr (.inr ⟨_, rfl⟩)
  | _ => cases hk
theorem find_key {prog : Program} {E : Value → Shared → Prop} (S : St cx ι ρ H s) (hu : A.units + 9 < cLine) {d : Addr} {o : Obj} {ents : Array DictEntry} {ep : Nat} {es : List (V × V)} {key : Value} {k : V}
    {Q : Option Nat → Shared → Prop} (ho : s.heap.get? d = some o) (hd : o.data = .dict ents ep) (re : RepEs cx.w ι s.heap ents.toList es) (nd : (es.map (·.1)).Nodup) (rk : RepV ι s.heap key k) (hk : k.isKey = true)
    (hnone : (∀ (i : Nat) (v : V), es[i]? ≠ some (k, v)) → Q none s) (hsome : ∀ (i : Nat) (v : V), es[i]? = some (k, v) → Q (some i) s) :
    wpAny (model prog cx.w) A (dictFind d key (hashK cx.w k)) Q E s := by
  have F : Fk A s ents es key k (hashK cx.w k) := ⟨nd, fun i hi => by
    obtain ⟨k', v', he, hh, r1, _, h1⟩ := re.get (e := ents[i]) (i := i) (by simp [hi])
    exact ⟨k', v', he, fun e => e ▸ hh, eq_key S hu r1 rk h1 hk⟩, by rw [← Array.length_toList, re.length]⟩
  have plain := find_plain (prog := prog) (w := cx.w) (E := E) ho hd F hnone hsome
  have tail : ∀ {stored : List Value}, (∀ v ∈ stored, ∃ k', RepV ι s.heap v k' ∧ k'.isKey = true) → _ := fun {stored} hst =>
    find_tail (stored := stored) (prog := prog) (w := cx.w) (E := E) ho hd F hnone hsome fun _ q => tells_key rk hk hst q
  have hst : ∀ v ∈ (placesWithHash ents.size (fun i => ents[i]?.map (·.hash)) (hashK cx.w k)).filterMap (fun i => ents[i]?.map (·.key)), ∃ k', RepV ι s.heap v k' ∧ k'.isKey = true := by
    intro v hv
    obtain ⟨i, _, hi⟩ := List.mem_filterMap.mp hv
    obtain ⟨e, hei, rfl⟩ := Option.map_eq_some_iff.mp hi
    obtain ⟨k', _, _, _, r1, _, h1⟩ := re.get (i := i) (e := e) (by simpa using hei)
    exact ⟨k', r1, h1⟩
  have tail := tail hst
  have hany : ¬ (ents.any fun e => e.key == key && e.hash != hashK cx.w k) = true := by
    rw [← Array.any_toList, List.any_eq_true]
    rintro ⟨e, hin, hc⟩
    obtain ⟨i, hi⟩ := List.mem_iff_getElem?.mp hin
    obtain ⟨k', _, _, h1, r1, _, _⟩ := re.get hi
    simp only [Bool.and_eq_true, beq_iff_eq, bne_iff_ne, ne_eq] at hc
    rw [hc.1] at r1
    rw [RepV.fn S r1 rk] at h1
    exact hc.2 h1
  clear nd hst
  have hstr : ∀ {x : Str} {t : Tok}, key = .str x t → (ents.all fun e => isExactStrKey e.key) = true → ∀ i (hi : i < ents.size) k' v', es[i]? = some (k', v') → ents[i].key.isStr x = decide (k' = k) := by
    intro x t e hex i hi k' v' he
    subst e
    obtain ⟨k'', v'', he', _, r1, _, h1⟩ := re.get (e := ents[i]) (i := i) (by simp [hi])
    rw [he] at he'; cases he'
    have hx := Array.all_eq_true.mp hex i hi
    cases hkey : ents[i].key with
    | str y t' =>
      rw [hkey] at r1
      cases r1
      cases rk
      show (y == x) = _
      by_cases q : y = x
      · subst q; simp
      · have : ¬ y.cps.toList = x.cps.toList := fun e => q (str_inj e)
        simp [q, this]
    | _ => rw [hkey] at hx; simp [isExactStrKey] at hx
  clear S re
  refine wpAny_holding (wpAny_bind (wpAny_dictEntries ho hd ?_))
  rcases kinds rk hk with ⟨i, t, rfl⟩ | ⟨x, t, rfl⟩ | ⟨a, rfl⟩
  · exact ite_of plain tail
  · exact ite_or (fun hex => find_str ho hd F (hstr rfl hex) hnone hsome) (ite_of plain tail)
  · exact ite_of plain (ite_no hany tail)
end
end Tw
end

section
namespace Tw
open PySem PySem.SeqAt

noncomputable def atomIs : Int ⊕ Str → Value → Bool
  | .inl i, v => Value.isInt i v
  | .inr x, v => Value.isStrOf x v
theorem atomIs_shape {k : Int ⊕ Str} {v : Value} (h : atomIs k v = true) : (∃ i t, k = .inl i ∧ v = .int i t) ∨ ∃ x t, k = .inr x ∧ v = .str x t := by
  cases k with
  | inl i => obtain ⟨t, rfl⟩ := Value.isInt_shape h; exact .inl ⟨i, t, rfl, rfl⟩
  | inr x => obtain ⟨t, rfl⟩ := Value.isStrOf_shape h; exact .inr ⟨x, t, rfl, rfl⟩

noncomputable def atomKind (prog : Program) (w : World) : KeyKind prog w (Int ⊕ Str) where
  is := atomIs
  hash := fun k => match k with | .inl i => hashInt i | .inr x => hashStr w x
  inj := fun v a b ha hb => by
    rcases atomIs_shape ha with ⟨i, t, rfl, rfl⟩ | ⟨x, t, rfl, rfl⟩ <;> rcases atomIs_shape hb with ⟨j, u, rfl, e⟩ | ⟨y, u, rfl, e⟩ <;> cases e <;> rfl
  byValue := fun k v h => by rcases atomIs_shape h with ⟨i, t, rfl, rfl⟩ | ⟨x, t, rfl, rfl⟩ <;> rfl
  pyHash := fun hv h => by
    rcases atomIs_shape hv with ⟨i, t, rfl, rfl⟩ | ⟨x, t, rfl, rfl⟩
    · exact wpAny_pyHash_int h
    · exact wpAny_pyHash_str h
  eqBool := fun hu hv h => by
    rcases atomIs_shape hu with ⟨i, t, rfl, rfl⟩ | ⟨x, t, rfl, rfl⟩ <;> rcases atomIs_shape hv with ⟨j, u, rfl, rfl⟩ | ⟨y, u, rfl, rfl⟩
    · refine EqAt.int_int _ _ _ _ _ _ _ _ ?_
      rw [show (i == j) = decide ((Sum.inl i : Int ⊕ Str) = Sum.inl j) from by by_cases q : i = j <;> simp [q]]; exact h
    · refine EqAt.int_str _ _ _ _ _ _ _ _ ?_
      simpa using h
    · refine EqAt.str_int _ _ _ _ _ _ _ _ ?_
      simpa using h
    · refine EqAt.str_str _ _ _ _ _ _ _ _ ?_
      rw [show (x == y) = decide ((Sum.inr x : Int ⊕ Str) = Sum.inr y) from by by_cases q : x = y <;> simp [q]]; exact h
  «strs» := fun k x t v h => by
    rcases atomIs_shape h with ⟨i, u, rfl, e⟩ | ⟨y, u, rfl, e⟩
    · cases e
    · cases e
      cases v <;> rfl

section
variable {cx : Cx} {ι : List Addr} {ρ : Rho} {H : H} {s : Shared} {A : Around} {prog : Program} {E : Value → Shared → Prop}

theorem str_of_toList (x : Str) : (⟨x.cps.toList.toArray⟩ : Str) = x := by cases x; simp

theorem atoms_items {h : Heap} {xs : List Value} {vs : List V} (r : RepVs ι h xs vs) : vs.all V.isAtom = true →
    ∃ ks, ItemsAre (atomKind prog cx.w) ks xs ∧ ks.map (atomKind prog cx.w).hash = vs.map (hashA cx.w) := by
  induction xs generalizing vs with
  | nil => cases r; exact fun _ => ⟨[], .nil, rfl⟩
  | cons y ys ih =>
    cases r with
    | cons g r =>
      intro hh
      rw [List.all_cons, Bool.and_eq_true] at hh
      obtain ⟨ks, h1, h2⟩ := ih r hh.2
      cases g with
      | int i t => exact ⟨.inl i :: ks, .cons (by simp [atomKind, atomIs, Value.isInt]) h1, by rw [List.map_cons, List.map_cons, h2]; rfl⟩
      | str x t z => exact ⟨.inr x :: ks, .cons (by simp [atomKind, atomIs, Value.isStrOf]) h1, by rw [List.map_cons, List.map_cons, h2]; show hashStr cx.w x :: _ = hashStr cx.w ⟨x.cps.toList.toArray⟩ :: _; rw [str_of_toList]⟩
      | _ => exact Bool.noConfusion hh.1

theorem hash_key (hu : A.units < cLine) {u : Value} {k : V} {Q : Int → Shared → Prop} (r : RepV ι s.heap u k) (h : k.isKey = true)
    (q : ∀ tk, Q (hashK cx.w k) { s with toks := tk }) : wpAny (model prog cx.w) A (pyHash u) Q E s := by
  cases r with
  | none => exact Bool.noConfusion h
  | bool => exact Bool.noConfusion h
  | rng => exact Bool.noConfusion h
  | ref => exact Bool.noConfusion h
  | int i t => exact wpAny_pyHash_int (q _)
  | str x t z =>
    refine wpAny_pyHash_str ?_
    have := q (s.toks + 1)
    simpa [hashK, hashA] using this
  | @tup a n vals vs g z r =>
    obtain ⟨ks, h1, h2⟩ := atoms_items (prog := prog) (cx := cx) r h
    refine wpAny_pyHash_tuple (knd := atomKind prog cx.w) hu (ks := ks) ⟨_, vals, n, g, rfl, rfl, h1⟩ ?_
    have := q (s.toks + (ks.length + 1))
    rw [tupleKeyHash, h2]; exact this

theorem dget_at {es : List (V × V)} (nd : (es.map (·.1)).Nodup) {i : Nat} {k v : V} (h : es[i]? = some (k, v)) : dget es k = some v := by
  induction es generalizing i with
  | nil => simp at h
  | cons e r ih =>
    simp only [List.map_cons, List.nodup_cons] at nd
    cases i with
    | zero => simp at h; subst h; simp [dget]
    | succ i =>
      simp only [List.getElem?_cons_succ] at h
      have hm : k ∈ r.map (·.1) := List.mem_map.mpr ⟨(k, v), List.mem_of_getElem? h, rfl⟩
      have hne : ¬ e.1 = k := fun q => nd.1 (q ▸ hm)
      have := ih nd.2 h
      simpa [dget, List.find?_cons, hne] using this
theorem dget_none {es : List (V × V)} {k : V} (h : ∀ (i : Nat) (v : V), es[i]? ≠ some (k, v)) : dget es k = none := by
  have : (es.find? fun e => decide (e.1 = k)) = none := by
    rw [List.find?_eq_none]
    intro x hx hk
    obtain ⟨j, hj⟩ := List.mem_iff_getElem?.mp hx
    have hk' : x.1 = k := of_decide_eq_true hk
    exact h j x.2 (by rw [hj, ← hk'])
  simp [dget, this]
theorem dget_iff {es : List (V × V)} {k : V} : (dget es k).isSome = decide (k ∈ es.map (·.1)) := by
  induction es with
  | nil => simp [dget]
  | cons e r ih =>
    by_cases h : e.1 = k
    · simp [dget, h]
    · have h' : ¬ k = e.1 := fun q => h q.symm
      have e1 : dget (e :: r) k = dget r k := by simp [dget, h]
      rw [e1, ih]
      simp [h']

theorem keys_map_dput (es : List (V × V)) (k v : V) : (es.map (fun e => if e.1 = k then (e.1, v) else e)).map (·.1) = es.map (·.1) := by
  induction es with
  | nil => rfl
  | cons e r ih =>
    simp only [List.map_cons, ih]
    by_cases h : e.1 = k <;> simp [h]
theorem dput_nodup {es : List (V × V)} (nd : (es.map (·.1)).Nodup) (k v : V) : ((dput es k v).map (·.1)).Nodup := by
  unfold dput
  split
  · rw [keys_map_dput]; exact nd
  · rename_i h
    rw [List.map_append, List.nodup_append]
    refine ⟨nd, by simp, fun x hx y hy => ?_⟩
    simp at hy; subst hy
    rintro rfl
    rw [dget_iff] at h
    simp only [decide_eq_true_eq] at h
    exact h hx

theorem map_dput_not_mem (es : List (V × V)) (k v : V) (h : k ∉ es.map (·.1)) : es.map (fun e => if e.1 = k then (e.1, v) else e) = es := by
  induction es with
  | nil => rfl
  | cons e r ih =>
    simp only [List.map_cons, List.mem_cons, not_or] at h ⊢
    rw [if_neg (fun q => h.1 q.symm), ih h.2]

theorem RepEs.modify {w : World} {h : Heap} {ents : List DictEntry} {es : List (V × V)} (re : RepEs w ι h ents es) (nd : (es.map (·.1)).Nodup) {i : Nat} {k v₀ v : V} {val : Value} (hi : es[i]? = some (k, v₀)) (rv : RepV ι h val v) :
    RepEs w ι h (ents.modify i fun e => { e with val := val }) (es.map (fun e => if e.1 = k then (e.1, v) else e)) := by
  induction re generalizing i with
  | nil => simp at hi
  | @cons e ents k' v' r a b c d re ih =>
    simp only [List.map_cons, List.nodup_cons] at nd
    cases i with
    | zero =>
      simp at hi
      obtain ⟨rfl, rfl⟩ := hi
      simp only [List.modify_zero_cons, List.map_cons, if_true]
      rw [map_dput_not_mem r k' v nd.1]
      exact .cons a b rv d re
    | succ i =>
      simp only [List.getElem?_cons_succ] at hi
      have hm : k ∈ r.map (·.1) := List.mem_map.mpr ⟨(k, v₀), List.mem_of_getElem? hi, rfl⟩
      have hne : ¬ k' = k := fun q => nd.1 (q ▸ hm)
      simp only [List.modify_succ_cons, List.map_cons, if_neg hne]
      exact .cons a b c d (ih nd.2 hi)
theorem RepEs.push {w : World} {h : Heap} {ents : List DictEntry} {es : List (V × V)} (re : RepEs w ι h ents es) {k v : V} {key val : Value} (rk : RepV ι h key k) (rv : RepV ι h val v) (hk : k.isKey = true) :
    RepEs w ι h (ents ++ [⟨hashK w k, key, val⟩]) (es ++ [(k, v)]) := by
  induction re with
  | nil => exact .cons rfl rk rv hk .nil
  | cons a b c d _ ih => exact .cons a b c d ih

/-- the dict at address d, as the state tells it -/
structure DictAt (cx : Cx) (ι : List Addr) (s : Shared) (d : Addr) (es : List (V × V)) (ents : Array DictEntry) (ep : Nat) : Prop where
  get : s.heap.get? d = some { cls := .type "dict", data := .dict ents ep }
  rep : RepEs cx.w ι s.heap ents.toList es
  nd : (es.map (·.1)).Nodup
  le : es.length ≤ SZ
theorem St.dict (S : St cx ι ρ H s) {n : Nat} {d : Addr} {es : List (V × V)} {ep : Nat} (hi : ι[n]? = some d) (hH : H[n]? = some (.dict es ep)) : ∃ ents, DictAt cx ι s d es ents ep := by
  obtain ⟨ents, g, re, nd, le⟩ := S.objOf hi hH
  exact ⟨ents, g, re, nd, le⟩

theorem dictGet_key (S : St cx ι ρ H s) (hu : A.units + 9 < cLine) {d : Addr} {es : List (V × V)} {ents : Array DictEntry} {ep : Nat} (D : DictAt cx ι s d es ents ep) {key : Value} {k : V} {Q : Option Value → Shared → Prop}
    (rk : RepV ι s.heap key k) (hk : k.isKey = true) (hnone : dget es k = none → ∀ tk, Q none { s with toks := tk }) (hsome : ∀ v val, dget es k = some v → RepV ι s.heap val v → ∀ tk, Q (some val) { s with toks := tk }) :
    wpAny (model prog cx.w) A (dictGet d key) Q E s := by
  unfold dictGet
  refine wpAny_holding (wpAny_bind (hash_key (cx := cx) (by exact qp1 qc2 qs0 qv1 (qA (qA qv0 (qN 9)) qk1) qv1 qt hu) rk hk fun tk => wpAny_bind ?_))
  refine find_key (S.toks tk) hu (s := { s with toks := tk }) D.get rfl D.rep D.nd rk hk (fun h => wpAny_pure (hnone (dget_none h) tk)) fun i v h => ?_
  refine wpAny_bind (wpAny_dictEntries (s := { s with toks := tk }) D.get rfl ?_)
  obtain ⟨e, he, _, _, rv, _⟩ := D.rep.get' h
  have he' : ents[i]? = some e := by simpa using he
  rw [he']
  exact wpAny_pure (hsome v _ (dget_at D.nd h) rv tk)

theorem dictSetH_key (S : St cx ι ρ H s) (hu : A.units + 9 < cLine) {n : Nat} {d : Addr} (hi : ι[n]? = some d) {es : List (V × V)} {ents : Array DictEntry} {ep : Nat} (hH : H[n]? = some (.dict es ep)) (D : DictAt cx ι s d es ents ep) (hlt : es.length < SZ) {key val : Value} {k v : V} {Q : Unit → Shared → Prop}
    (rk : RepV ι s.heap key k) (rv : RepV ι s.heap val v) (hk : k.isKey = true)
    (q : ∀ ver s', St cx ι ρ (H.set n (.dict (dput es k v) ver)) s' → Mono ι s ι s' → Q () s') :
    wpAny (model prog cx.w) A (dictSetHashed d key (hashK cx.w k) val) Q E s := by
  unfold dictSetHashed
  refine wpAny_holding (wpAny_bind ?_)
  have hsz : ents.size = es.length := by rw [← Array.length_toList, D.rep.length]
  have imm : ∀ f, Imm s.heap (s.heap.update d f) := fun f => .of_but (Heap.SameBut.update ..).extBut fun o e => by rw [D.get] at e; cases e; exact notImm_dict rfl
  refine find_key S hu D.get rfl D.rep D.nd rk hk (fun h => ?_) fun i v₀ h => ?_
  · have hn := dget_none h
    refine wpAny_bind (wpAny_rule (wpAny_updateDictKeys (hz := by rw [← SZ_eq]; exact qp2 qc3 qv0 qv1 qs2 qv1 qv0 qv2 qt hlt (qe hsz)) D.get rfl ?_))
    have e : dput es k v = es ++ [(k, v)] := by simp [dput, hn]
    have R := S.set (h' := s.heap.update d (Obj.mapDictKeys fun x => x.push ⟨hashK cx.w k, key, val⟩)) (o' := .dict (dput es k v) (ep + 1)) s.toks hi (fun vs e => by rw [hH] at e; cases e) (Heap.SameBut.update ..).extBut ?_
    · exact q _ _ R.1 ⟨R.2.pre, R.2.imm⟩
    · refine ⟨ents.push ⟨hashK cx.w k, key, val⟩, ?_, ?_, dput_nodup D.nd k v, ?_⟩
      · exact Heap.get?_update_self _ D.get rfl
      · rw [e]
        simpa using (D.rep.mono (List.prefix_refl _) (imm _)).push (rk.mono (List.prefix_refl _) (imm _)) (rv.mono (List.prefix_refl _) (imm _)) hk
      · rw [e]; simp; exact hlt
  · have hs := dget_at D.nd h
    refine wpAny_bind (wpAny_rule (wpAny_bind (wpAny_updateDict D.get rfl (wpAny_point ?_))))
    have e : dput es k v = es.map (fun e => if e.1 = k then (e.1, v) else e) := by simp [dput, hs]
    have R := S.set (h' := s.heap.update d (Obj.mapDict fun x => x.modify i fun e => { e with val := val })) (o' := .dict (dput es k v) ep) s.toks hi (fun vs e => by rw [hH] at e; cases e) (Heap.SameBut.update ..).extBut ?_
    · exact q _ _ R.1 ⟨R.2.pre, R.2.imm⟩
    · refine ⟨ents.modify i (fun e => { e with val := val }), ?_, ?_, dput_nodup D.nd k v, ?_⟩
      · exact Heap.get?_update_self _ D.get rfl
      · rw [e]
        have := (D.rep.mono (List.prefix_refl _) (imm (Obj.mapDict fun x => x.modify i fun e => { e with val := val }))).modify D.nd h (rv.mono (List.prefix_refl _) (imm _))
        simpa using this
      · rw [e]; simp; exact qp1 qc2 qv0 qv1 qs0 qv1 qt hlt
theorem dictSet_key (S : St cx ι ρ H s) (hu : A.units + 9 < cLine) {n : Nat} {d : Addr} (hi : ι[n]? = some d) {es : List (V × V)} {ents : Array DictEntry} {ep : Nat} (hH : H[n]? = some (.dict es ep)) (D : DictAt cx ι s d es ents ep) (hlt : es.length < SZ) {key val : Value} {k v : V} {Q : Unit → Shared → Prop}
    (rk : RepV ι s.heap key k) (rv : RepV ι s.heap val v) (hk : k.isKey = true)
    (q : ∀ ver s', St cx ι ρ (H.set n (.dict (dput es k v) ver)) s' → Mono ι s ι s' → Q () s') :
    wpAny (model prog cx.w) A (dictSet d key val) Q E s := by
  unfold dictSet
  refine wpAny_holding (wpAny_bind (hash_key (cx := cx) (by exact qp1 qc2 qs0 qv1 (qA (qA qv0 (qN 9)) qk1) qv1 qt hu) rk hk fun tk => ?_))
  exact dictSetH_key (s := { s with toks := tk }) (S.toks tk) hu hi hH ⟨D.get, D.rep, D.nd, D.le⟩ hlt rk rv hk fun ver s' S' M => q ver s' S' ⟨M.pre, M.imm⟩
end
end Tw
end

section
namespace Tw
open PySem PySem.SeqAt

structure AOk (A : Around) (d : Nat) : Prop where
  hd : A.handled = none
  dp : A.depth + d < recursionLimit
  un : A.units + 4 * d + 100 < cLine
theorem AOk.u {A : Around} {d : Nat} (a : AOk A d) : A.units + 50 < cLine := by have := a.un; exact qp1 qc3 (qA (qA qv0 (qN 50)) qk1) qv1 (qA (qA (qA qv0 (qM 4 qv2)) (qN 100)) qk1) qv1 qt this

/-- the value, the state behind it -/
inductive Post (cx : Cx) (ι : List Addr) (ρ : Rho) (s : Shared) (Q : V → H → Prop) (val : Value) (s' : Shared) : Prop
  | mk (v : V) (ι' : List Addr) (H' : H) (M : Mono ι s ι' s') (S : St cx ι' ρ H' s') (r : RepV ι' s'.heap val v) (q : Q v H')
/-- a test's answer; the heap stays -/
inductive PostB (s : Shared) (Q : Bool → Prop) (val : Value) (s' : Shared) : Prop
  | mk (r : Bool) (tk : Nat) (e : val = .bool r) (e' : s' = { s with toks := tk }) (q : Q r)
/-- a value that is read; the heap stays -/
inductive PostR (ι : List Addr) (s : Shared) (Q : V → Prop) (val : Value) (s' : Shared) : Prop
  | mk (v : V) (tk : Nat) (e : s' = { s with toks := tk }) (r : RepV ι s.heap val v) (q : Q v)

section
variable {cx : Cx} {ι : List Addr} {ρ : Rho} {H : H} {s : Shared} {A : Around} {prog : Program} {E : Value → Shared → Prop}

theorem Mono.tk (tk : Nat) : Mono ι s ι { s with toks := tk } := ⟨List.prefix_refl _, .refl _⟩

theorem Post.tok (S : St cx ι ρ H s) {val : Value} {v : V} {Q : V → Tw.H → Prop} (r : RepV ι s.heap val v) (q : Q v H) (tk : Nat) : Post cx ι ρ s Q val { s with toks := tk } :=
  ⟨v, ι, H, .tk tk, S.toks tk, r, q⟩
theorem Post.here (S : St cx ι ρ H s) {val : Value} {v : V} {Q : V → Tw.H → Prop} (r : RepV ι s.heap val v) (q : Q v H) : Post cx ι ρ s Q val s := ⟨v, ι, H, .refl _ _, S, r, q⟩
theorem PostR.post (S : St cx ι ρ H s) {val : Value} {s' : Shared} {Q : V → Tw.H → Prop} (p : PostR ι s (fun v => Q v H) val s') : Post cx ι ρ s Q val s' := by
  obtain ⟨v, tk, rfl, r, q⟩ := p; exact .tok S r q tk
theorem PostB.post (S : St cx ι ρ H s) {val : Value} {s' : Shared} {Q : V → Tw.H → Prop} (p : PostB s (fun r => Q (.bool r) H) val s') : Post cx ι ρ s Q val s' := by
  obtain ⟨r, tk, rfl, rfl, q⟩ := p; exact .tok S (.bool r) q tk

theorem get?_fresh {h : Heap} {o : Obj} (hf : o.isFreed = false) : (h.push o).get? h.objs.size = some o := Heap.get?_push_size _ hf

/-- a new mutable object at a fresh address -/
theorem St.new (S : St cx ι ρ H s) (ok : CxOk cx) {h' : Heap} {a : Addr} {o : MO} (tk : Nat) (hk : ∀ b ob, s.heap.get? b = some ob → h'.get? b = some ob) (ha : s.heap.objs.size ≤ a) (r : RepO cx.w ι h' a o) :
    St cx (ι ++ [a]) ρ (H ++ [o]) { s with heap := h', toks := tk } ∧ Mono ι s (ι ++ [a]) { s with heap := h', toks := tk } := by
  obtain ⟨f1, f2, f3, f4, f5⟩ := S.fresh ok ha
  exact ⟨(S.ext tk hk).alloc r f1 f2 f3 f4 f5, ⟨List.prefix_append _ _, .of_ext hk⟩⟩
theorem rep_last (S : St cx ι ρ H s) {h : Heap} (a : Addr) : RepV (ι ++ [a]) h (.ref a) (.ref H.length) := .ref (by rw [← S.len]; simp)

theorem Post.list (S : St cx ι ρ H s) (ok : CxOk cx) {vals : Array Value} {n : Nat} {vs : List V} {Q : V → Tw.H → Prop} (r : RepVs ι s.heap vals.toList vs) (hl : vs.length ≤ SZ) (q : Q (.ref H.length) (H ++ [.list vs])) (tk : Nat) :
    Post cx ι ρ s Q (.ref s.heap.objs.size) { s with heap := s.heap.push { cls := .type "list", data := .seq vals n }, toks := tk } := by
  have hk : ∀ b ob, s.heap.get? b = some ob → (s.heap.push { cls := .type "list", data := .seq vals n }).get? b = some ob := fun _ _ e => Heap.get?_push_of_some _ e
  obtain ⟨S', M⟩ := S.new ok (o := .list vs) tk hk (Nat.le_refl _) ⟨vals, n, get?_fresh rfl, r.mono (List.prefix_refl _) (.of_ext hk), hl⟩
  exact ⟨_, _, _, M, S', rep_last S _, q⟩
theorem Post.dict (S : St cx ι ρ H s) (ok : CxOk cx) {Q : V → Tw.H → Prop} (q : Q (.ref H.length) (H ++ [.dict [] 0])) (tk : Nat) :
    Post cx ι ρ s Q (.ref s.heap.objs.size) { s with heap := s.heap.push { cls := .type "dict", data := .dict #[] }, toks := tk } := by
  have hk : ∀ b ob, s.heap.get? b = some ob → (s.heap.push { cls := .type "dict", data := .dict #[] }).get? b = some ob := fun _ _ e => Heap.get?_push_of_some _ e
  obtain ⟨S', M⟩ := S.new ok (o := .dict [] 0) tk hk (Nat.le_refl _) ⟨#[], get?_fresh rfl, .nil, List.nodup_nil, Nat.zero_le _⟩
  exact ⟨_, _, _, M, S', rep_last S _, q⟩
theorem Post.tup (S : St cx ι ρ H s) {vals : Array Value} {n : Nat} {vs : List V} {Q : V → Tw.H → Prop} (r : RepVs ι s.heap vals.toList vs) (hl : vs.length ≤ SZ) (q : Q (.tup vs) H) (tk : Nat) :
    Post cx ι ρ s Q (.ref s.heap.objs.size) { s with heap := s.heap.push { cls := .type "tuple", data := .seq vals n }, toks := tk } := by
  have hk : ∀ b ob, s.heap.get? b = some ob → (s.heap.push { cls := .type "tuple", data := .seq vals n }).get? b = some ob := fun _ _ e => Heap.get?_push_of_some _ e
  exact ⟨.tup vs, ι, H, .ext hk, S.ext tk hk, .tup (get?_fresh rfl) (by rw [← Array.length_toList, r.length]; exact hl) (r.mono (List.prefix_refl _) (.of_ext hk)), q⟩

theorem len_app (x y : Str) : (x ++ y).length = x.length + y.length := by
  show (Str.append x y).length = _
  cases x; cases y; simp [Str.append, Str.length]
theorem toList_app (x y : Str) : (x ++ y).cps.toList = x.cps.toList ++ y.cps.toList := by
  show (Str.append x y).cps.toList = _
  cases x; cases y; simp [Str.append]
theorem len_toList (x : Str) : x.cps.toList.length = x.length := by cases x; simp [Str.length]

theorem bits_of {a : Int} (h : a.natAbs < 2 ^ 63) : Builtin.Int.intBits a ≤ 64 := by
  unfold Builtin.Int.intBits
  split
  · omega
  · rename_i h0
    have h0' : a.natAbs ≠ 0 := by simpa using h0
    have := (Nat.log2_lt h0').mpr h
    exact qp1 qc1 qs0 (qN 64) qs0 (qN 63) qt this
theorem mulOk_ok {a b : Int} (h : mulOk a b) : IntMulOk a b := h.elim (fun h => .of_left (bits_of h)) fun h => .of_right (bits_of h)

noncomputable def Bop.py : Bop → Operator
  | .add => .Add | .sub => .Sub | .mul => .Mult | .fdiv => .FloorDiv | .mod => .Mod

theorem add_sound (S : St cx ι ρ H s) (ok : CxOk cx) {x y : Value} {a b : V} {Q : V → Tw.H → Prop} (ra : RepV ι s.heap x a) (rb : RepV ι s.heap y b) (h : AddW a b H Q) :
    wpAny (model prog cx.w) A (binaryOp .Add x y) (Post cx ι ρ s Q) E s := by
  cases a with
  | int i =>
    obtain ⟨j, rfl, h⟩ := asInt.inv h
    obtain ⟨t, rfl⟩ := ra.intI
    obtain ⟨u, rfl⟩ := rb.intI
    exact PySem.P.add_int (.tok S (.int _ _) h _)
  | str v =>
    obtain ⟨w, rfl, h0, h⟩ := asStr.inv h
    obtain ⟨x, t, rfl, rfl, z⟩ := ra.strInv
    obtain ⟨y, u, rfl, rfl, z'⟩ := rb.strInv
    have hz : x.length + y.length ≤ SZ := by rw [len_toList, len_toList] at h0; exact h0
    exact PyProof.Rows.add_str (fun t' tk => .tok S (.strOf (toList_app x y) (by rw [len_app]; exact hz)) h tk) hz
  | ref m =>
    obtain ⟨n, rfl, vs, ws, h1, h2, h3, h4⟩ := asRef.inv h
    obtain ⟨a, rfl, gi⟩ := ra.refI
    obtain ⟨b, rfl, gj⟩ := rb.refI
    obtain ⟨va, na, g, r, _⟩ := S.objOf gi h1
    obtain ⟨vb, nb, g', r', _⟩ := S.objOf gj h2
    have l1 : va.size = vs.length := by rw [← Array.length_toList, r.length]
    have l2 : vb.size = ws.length := by rw [← Array.length_toList, r'.length]
    refine P.add_list g g' ?_ (by rw [l1, l2]; exact h3)
    exact Post.list S ok (vs := vs ++ ws) (by rw [Array.toList_append]; exact r.append r') (by rw [List.length_append]; exact h3) h4 s.toks
  | _ => exact h.elim

theorem mul_sound (S : St cx ι ρ H s) (ok : CxOk cx) {x y : Value} {a b : V} {Q : V → Tw.H → Prop} (ra : RepV ι s.heap x a) (rb : RepV ι s.heap y b) (h : MulW a b H Q) :
    wpAny (model prog cx.w) A (binaryOp .Mult x y) (Post cx ι ρ s Q) E s := by
  cases a with
  | int i =>
    obtain ⟨j, rfl, h⟩ := asInt.inv h
    obtain ⟨t, rfl⟩ := ra.intI
    obtain ⟨u, rfl⟩ := rb.intI
    exact PySem.P.mul_int (.tok S (.int _ _) h.2 _) (mulOk_ok h.1)
  | _ => exact h.elim

theorem bin_sound (S : St cx ι ρ H s) (ok : CxOk cx) {op : Bop} {x y : Value} {a b : V} {Q : V → Tw.H → Prop} (ra : RepV ι s.heap x a) (rb : RepV ι s.heap y b) (h : BinW op a b H Q) :
    wpAny (model prog cx.w) A (binaryOp op.py x y) (Post cx ι ρ s Q) E s := by
  cases op with
  | add => exact add_sound S ok ra rb h
  | mul => exact mul_sound S ok ra rb h
  | sub =>
    obtain ⟨i, rfl, h⟩ := asInt.inv h
    obtain ⟨j, rfl, h⟩ := asInt.inv h
    obtain ⟨t, rfl⟩ := ra.intI
    obtain ⟨u, rfl⟩ := rb.intI
    exact PySem.P.sub_int (.tok S (.int _ _) h _)
  | fdiv =>
    obtain ⟨i, rfl, h⟩ := asInt.inv h
    obtain ⟨j, rfl, h⟩ := asInt.inv h
    obtain ⟨t, rfl⟩ := ra.intI
    obtain ⟨u, rfl⟩ := rb.intI
    exact PyProof.Rows.floordiv_int h.1 (.tok S (.int _ _) h.2.2 _) (Or.inl (PyProof.noPylong_small h.2.1))
  | mod =>
    obtain ⟨i, rfl, h⟩ := asInt.inv h
    obtain ⟨j, rfl, h⟩ := asInt.inv h
    obtain ⟨t, rfl⟩ := ra.intI
    obtain ⟨u, rfl⟩ := rb.intI
    exact PyProof.Rows.mod_int' h.1 (.tok S (.int _ _) h.2 _)
end
end Tw
end

section
namespace Tw
open PySem PySem.SeqAt

section
variable {cx : Cx} {ι : List Addr} {ρ : Rho} {H : H} {s : Shared} {A : Around} {prog : Program} {E : Value → Shared → Prop}

noncomputable def Cmp.py : Cmp → CmpOp
  | .eq => .Eq | .ne => .NotEq | .lt => .Lt | .le => .LtE | .gt => .Gt | .ge => .GtE | .isIn => .In | .notIn => .NotIn | .is => .Is | .isNot => .IsNot

theorem EqW.snap {a b : V} {Q : Bool → Prop} (h : EqW a b H Q) : (∃ p q, a = .bool p ∧ b = .bool q ∧ Q (decide (p = q))) ∨
    ∃ d₁ d₂, Snap H a d₁ ∧ Snap H b d₂ ∧ D.ok 9 d₁ = true ∧ D.ok 9 d₂ = true ∧ Q (decide (d₁ = d₂)) := by
  cases a with
  | bool p => obtain ⟨q, rfl, h⟩ := asBool.inv h; exact .inl ⟨_, _, rfl, rfl, h⟩
  | _ => exact .inr h

theorem eq_sound (S : St cx ι ρ H s) (hu : A.units + 50 < cLine) {x y : Value} {a b : V} {Q : Bool → Prop} (ra : RepV ι s.heap x a) (rb : RepV ι s.heap y b) (h : EqW a b H Q) :
    ∃ k, Q k ∧ EqAll A s x y k := by
  rcases h.snap with ⟨p, q, rfl, rfl, h⟩ | ⟨d₁, d₂, s1, s2, o1, o2, h⟩
  · obtain rfl := ra.boolI
    obtain rfl := rb.boolI
    refine ⟨_, h, ?_⟩
    have e : decide (p = q) = (p == q) := by cases p <;> cases q <;> rfl
    rw [e]
    exact ⟨RcAt.bool_bool _ _, EqAt.bool_bool _ _, RcNeAt.bool_bool _ _⟩
  · exact ⟨_, h, eq_snap S 9 (by exact qp1 qc2 (qA (qA qv0 (qN 9)) qk1) qv1 (qA (qA qv0 (qN 50)) qk1) qv1 qt hu) ra rb s1 s2 o1 o2⟩

theorem PostB.here {Q : Bool → Prop} {r : Bool} (q : Q r) : PostB s Q (.bool r) s := ⟨r, s.toks, rfl, rfl, q⟩

open Classical in
theorem in_list_sound (S : St cx ι ρ H s) (hu : A.units + 50 < cLine) {x : Value} {a : V} {n : Nat} {l : Addr} {vs : List V} {d : D} {ds : List D} (ra : RepV ι s.heap x a) (gi : ι[n]? = some l) (hH : H[n]? = some (.list vs))
    (sa : Snap H a d) (sv : Snaps H vs ds) (od : D.ok 9 d = true) (ods : ∀ d ∈ ds, D.ok 9 d = true) :
    ∃ (items : Array Value) (e : Value → Bool), s.heap.IsList l items ∧ (∀ y, y ∈ items → EqAt A.in1 s y x (e y)) ∧ items.any e = decide (d ∈ ds) := by
  obtain ⟨vals, m, g, r, _⟩ := S.objOf gi hH
  have one : ∀ (y : Value), y ∈ vals → ∃ v d', RepV ι s.heap y v ∧ Snap H v d' ∧ d' ∈ ds := by
    intro y hy
    obtain ⟨i, hi⟩ := List.mem_iff_getElem?.mp (Array.mem_toList_iff.mpr hy)
    obtain ⟨v, hv, rv⟩ := r.get' hi
    have hl : i < ds.length := by rw [← sv.length]; exact (List.getElem?_eq_some_iff.mp hv).1
    exact ⟨v, ds[i], rv, sv.get hv (List.getElem?_eq_getElem hl), List.getElem_mem hl⟩
  let e : Value → Bool := fun y => decide (∃ v d', RepV ι s.heap y v ∧ Snap H v d' ∧ d' = d)
  have ee : ∀ {y : Value} {v : V} {d' : D}, RepV ι s.heap y v → Snap H v d' → e y = decide (d' = d) := by
    intro y v d' rv sd
    by_cases q : d' = d
    · subst q
      have : e y = true := decide_eq_true ⟨v, d', rv, sd, rfl⟩
      rw [this]; simp
    · have : e y = false := decide_eq_false (by
        rintro ⟨v', d'', rv', sd', rfl⟩
        have := RepV.fn S rv rv'
        subst this
        exact q (Snap.fn sd sd'))
      rw [this]; simp [q]
  refine ⟨vals, e, isList_of g, fun y hy => ?_, ?_⟩
  · obtain ⟨v, d', rv, sd, hm⟩ := one y hy
    rw [ee rv sd]
    have := (eq_snap S 9 (A := A.in1) (by show A.units + 1 + 9 < cLine; exact qp1 qc2 (qA (qA qs0 (qN 9)) qk1) qv1 (qA (qA qv0 (qN 50)) qk1) qv1 qt hu) rv ra sd sa (ods d' hm) od).eq
    exact this
  · rw [Bool.eq_iff_iff, decide_eq_true_iff, Array.any_eq_true]
    constructor
    · rintro ⟨i, hi, he⟩
      obtain ⟨v, d', rv, sd, hm⟩ := one vals[i] (Array.getElem_mem hi)
      rw [ee rv sd] at he
      have := of_decide_eq_true he
      subst this; exact hm
    · intro hm
      obtain ⟨i, hi⟩ := List.mem_iff_getElem?.mp hm
      have hl : i < vs.length := by rw [sv.length]; exact (List.getElem?_eq_some_iff.mp hi).1
      obtain ⟨y, hy, ry⟩ := r.get (List.getElem?_eq_getElem hl)
      have hy' : vals[i]? = some y := by simpa using hy
      obtain ⟨hlt, rfl⟩ := Array.getElem?_eq_some_iff.mp hy'
      exact ⟨i, hlt, by rw [ee ry (sv.get (List.getElem?_eq_getElem hl) hi)]; simp⟩

theorem St.notMods (S : St cx ι ρ H s) {n : Nat} {d : Addr} (gi : ι[n]? = some d) : (d == sysModules) = false := by
  have h1 := S.low d (List.mem_of_getElem? gi)
  simpa using h1

theorem in_dict_sound (S : St cx ι ρ H s) (hu : A.units + 50 < cLine) {x : Value} {a : V} {n : Nat} {d : Addr} {es : List (V × V)} {ep : Nat} {Q : Bool → Prop} (ra : RepV ι s.heap x a) (gi : ι[n]? = some d) (hH : H[n]? = some (.dict es ep))
    (hk : a.isKey = true) (h : Q (decide (a ∈ es.map (·.1)))) (f : Bool → Bool) (Q' : Bool → Prop) (hf : ∀ r, Q r → Q' (f r)) :
    wpAny (model prog cx.w) A (contains (.ref d) x) (fun r s' => ∃ tk, s' = { s with toks := tk } ∧ Q' (f r)) E s := by
  obtain ⟨ents, D⟩ := S.dict gi hH
  have hT : s.TypeIs (.ref d) "dict" := ⟨_, D.get, rfl⟩
  unfold contains
  refine wpAny_holding ?_
  refine wpAny_bind (wpAny_specialOf hT slot_dict_contains.lookup ?_)
  show wpAny _ _ (if (some (Value.builtin "dict.__contains__") == some Value.none) = true then _ else _) _ E s
  rw [if_neg (by rw [beq_builtin_none]; exact Bool.false_ne_true)]
  refine wpAny_bind (wpAny_callSpecialUnlessNone?_slot (name := Str.ofString "__contains__") hT slot_dict_contains
    (wpAny_call_entry slot_dict_contains hT entry_dict_contains ?_ (args_dict_contains _ _)))
  show wpAny _ _ (dictGet d x >>= _) _ _ s
  refine wpAny_bind (dictGet_key S (by show A.units + 1 + 9 < cLine; exact qp1 qc2 (qA (qA qs0 (qN 9)) qk1) qv1 (qA (qA qv0 (qN 50)) qk1) qv1 qt hu) D ra hk (fun hn tk => ?_) fun v val hv rv tk => ?_)
  · show wpAny _ _ (Builtin.Dict.pendingKey? d x >>= _) _ _ _
    refine wpAny_bind (wpAny_pendingKey_other (S.notMods gi) (wpAny_pure ⟨_, rfl, wpAny_truthy_bool ⟨tk, rfl, hf _ ?_⟩⟩))
    have := dget_iff (es := es) (k := a)
    rw [hn] at this
    rw [← this] at h; exact h
  · show wpAny _ _ (ret (.bool true)) _ _ _
    refine wpAny_pure ⟨_, rfl, wpAny_truthy_bool ⟨tk, rfl, hf _ ?_⟩⟩
    have := dget_iff (es := es) (k := a)
    rw [hv] at this
    rw [← this] at h; exact h

theorem isSame_none (v : Value) : isSame v .none = pure (v == .none) := by cases v <;> rfl
theorem isSame_bool (b c : Bool) : isSame (.bool b) (.bool c) = pure (b == c) := by cases b <;> cases c <;> rfl
theorem rep_none {x : Value} {a : V} {h : Heap} (r : RepV ι h x a) : (x == .none) = decide (a = .none) := by
  cases r <;> first | (exact (decide_eq_true rfl).symm) | (exact (decide_eq_false nofun).symm)

/-- behind `is`: what is the same -/
theorem same_sound {x y : Value} {a b : V} {Q : Bool → Prop} {f : Bool → Value} {P : Value → Shared → Prop} (ra : RepV ι s.heap x a) (rb : RepV ι s.heap y b) (h : SameW a b Q) (q : ∀ r, Q r → P (f r) s) :
    wpAny (model prog cx.w) A (isSame x y >>= fun r => pure (f r)) P E s := by
  cases b with
  | none =>
    obtain rfl := rb.noneI
    rw [isSame_none, rep_none ra]; exact wpAny_bind (wpAny_pure (wpAny_pure (q _ h)))
  | bool c =>
    obtain ⟨d, rfl, h⟩ := asBool.inv h
    obtain rfl := rb.boolI
    obtain rfl := ra.boolI
    rw [isSame_bool]
    refine wpAny_bind (wpAny_pure (wpAny_pure (q _ ?_)))
    rw [show (d == c) = decide (d = c) from by cases d <;> cases c <;> rfl]; exact h
  | _ => exact h.elim

theorem cmp_sound (S : St cx ι ρ H s) (hu : A.units + 50 < cLine) {op : Cmp} {x y : Value} {a b : V} {Q : Bool → Prop} (ra : RepV ι s.heap x a) (rb : RepV ι s.heap y b) (h : CmpW op a b H Q) :
    wpAny (model prog cx.w) A (compareOp op.py x y) (PostB s Q) E s := by
  have bothI : ∀ {K : Int → Int → Prop}, (asInt a fun a => asInt b fun b => K a b) → ∃ i t j u, x = .int i t ∧ y = .int j u ∧ K i j := fun h0 => by
    obtain ⟨i, e1, h1⟩ := asInt.inv h0
    obtain ⟨j, e2, h2⟩ := asInt.inv h1
    rw [e1] at ra
    rw [e2] at rb
    obtain ⟨t, rfl⟩ := ra.intI
    obtain ⟨u, rfl⟩ := rb.intI
    exact ⟨i, t, j, u, rfl, rfl, h2⟩
  cases op with
  | eq =>
    obtain ⟨k, hq, e⟩ := eq_sound S hu ra rb h
    exact e.rc _ _ _ _ (.here hq)
  | ne =>
    obtain ⟨k, hq, e⟩ := eq_sound (Q := fun r => Q (!r)) S hu ra rb h
    exact e.ne _ _ _ _ (.here hq)
  | lt => obtain ⟨i, t, j, u, rfl, rfl, h⟩ := bothI h; exact PySem.P.lt_int (.here h)
  | le => obtain ⟨i, t, j, u, rfl, rfl, h⟩ := bothI h; exact PySem.P.le_int (.here h)
  | gt => obtain ⟨i, t, j, u, rfl, rfl, h⟩ := bothI h; exact PySem.P.gt_int (.here h)
  | ge => obtain ⟨i, t, j, u, rfl, rfl, h⟩ := bothI h; exact PySem.P.ge_int (.here h)
  | is => exact same_sound ra rb h fun r q => .here q
  | isNot => exact same_sound (Q := fun r => Q (!r)) (f := fun r => .bool (!r)) ra rb h fun r q => .here q
  | isIn =>
    obtain ⟨n, rfl, h1⟩ := asRef.inv h
    clear h
    obtain ⟨l, rfl, gi⟩ := rb.refI
    obtain ⟨o, hH, _⟩ := S.obj gi
    rw [hH] at h1
    have h := h1
    clear h1
    cases o with
    | list vs =>
      obtain ⟨d, ds, sa, sv, od, ods, hq⟩ := h
      obtain ⟨items, e, hl, he, ha⟩ := in_list_sound S hu ra gi hH sa sv od ods
      refine in_listAt e hl he ?_
      rw [ha]; exact .here hq
    | dict es ep => exact wpAny_bind (wpAny_mono (in_dict_sound S hu ra gi hH h.1 h.2 id Q fun _ q => q) (fun r s' h => wpAny_pure ⟨_, h.choose, rfl, h.choose_spec.1, h.choose_spec.2⟩) fun _ _ e => e)
    | frz vs => exact h.elim
  | notIn =>
    obtain ⟨n, rfl, h1⟩ := asRef.inv h
    clear h
    obtain ⟨l, rfl, gi⟩ := rb.refI
    obtain ⟨o, hH, _⟩ := S.obj gi
    rw [hH] at h1
    have h := h1
    clear h1
    cases o with
    | list vs =>
      obtain ⟨d, ds, sa, sv, od, ods, hq⟩ := h
      obtain ⟨items, e, hl, he, ha⟩ := in_list_sound S hu ra gi hH sa sv od ods
      refine notIn_listAt e hl he ?_
      rw [ha]; exact .here hq
    | dict es ep => exact wpAny_bind (wpAny_mono (in_dict_sound S hu ra gi hH (Q := fun r => Q (!r)) h.1 h.2 (fun r => !r) Q fun _ q => q) (fun r s' h => wpAny_pure ⟨_, h.choose, rfl, h.choose_spec.1, h.choose_spec.2⟩) fun _ _ e => e)
    | frz vs => exact h.elim

theorem not_slice {i : Expr} (hns : ∀ a b c p, i ≠ .Slice a b c p) (o iv : Value) : subscripted i false o iv = operate [o, iv] (getItem o iv) := by
  cases i <;> first | rfl | exact absurd rfl (hns _ _ _ _)

theorem seqIndex_nat {k : Int} {n : Nat} (h0 : 0 ≤ k) (h1 : k.toNat < n) : seqIndex? k n = some k.toNat := seqIndex_of h0 (by omega)

theorem sub_dict (S : St cx ι ρ H s) (hu : A.units + 50 < cLine) {l : Addr} {n ep : Nat} {es : List (V × V)} {y : Value} {i v : V} {Q : V → Prop} (gi : ι[n]? = some l) (hH : H[n]? = some (.dict es ep)) (ri : RepV ι s.heap y i) (hk : i.isKey = true) (hv : dget es i = some v) (hq : Q v) :
    wpAny (model prog cx.w) A (getItem (.ref l) y) (PostR ι s Q) E s := by
  obtain ⟨ents, D⟩ := S.dict gi hH
  have hT : s.TypeIs (.ref l) "dict" := ⟨_, D.get, rfl⟩
  refine wpAny_holding (wpAny_bind (wpAny_sequenceKey hT (by decide) ?_))
  refine wpAny_bind (wpAny_callSpecial?_slot (name := Str.ofString "__getitem__") hT slot_dict_getitem
    (wpAny_call_entry slot_dict_getitem hT entry_dict_getitem ?_ (args_dict_getitem _ _)))
  show wpAny _ _ (dictGet l y >>= _) _ _ s
  refine wpAny_bind (dictGet_key S (by show A.units + 1 + 9 < cLine; exact qp1 qc2 (qA (qA qs0 (qN 9)) qk1) qv1 (qA (qA qv0 (qN 50)) qk1) qv1 qt hu) D ri hk (fun hn tk => ?_) fun v' val hv' rv tk => ?_)
  · rw [hv] at hn; cases hn
  · rw [hv] at hv'; cases hv'
    exact wpAny_pure ⟨val, rfl, wpAny_pure ⟨v, tk, rfl, rv, hq⟩⟩
theorem sub_sound (S : St cx ι ρ H s) (hu : A.units + 50 < cLine) {value slice : Expr} (hns : ∀ a b c p, slice ≠ .Slice a b c p) {x y : Value} {a i : V} {Q : V → Prop} (ra : RepV ι s.heap x a) (ri : RepV ι s.heap y i) (h : SubW a i H Q) :
    wpAny (model prog cx.w) A (PyProof.Rows.subscriptTail value slice x y) (PostR ι s Q) E s := by
  cases a with
  | str w =>
    obtain ⟨k, rfl, c, h0, hc, hq⟩ := asInt.inv h
    obtain ⟨u, rfl⟩ := ri.intI
    obtain ⟨x, t, rfl, rfl, z⟩ := ra.strInv
    have hlt : k.toNat < x.length := by rw [← len_toList]; exact (List.getElem?_eq_some_iff.mp hc).1
    refine PyProof.Rows.tail_any (typeIs_str s x t) F.slot_str_getitem.lookup (PyProof.Rows.getItem_str (c := c) ?_ ?_ ?_) (not_slice hns _ _)
    · simp; omega
    · rw [seqIndex_nat h0.1 hlt]
      simpa using hc
    · exact ⟨.str [c], _, rfl, .strOf rfl (by show 1 ≤ SZ; decide), hq⟩
  | tup vs =>
    obtain ⟨k, rfl, v, h0, hv, hq⟩ := asInt.inv h
    obtain ⟨u, rfl⟩ := ri.intI
    obtain ⟨a, n, vals, rfl, g, z, r⟩ := ra.tupI
    obtain ⟨y, hy, ry⟩ := r.get hv
    have hlt : k.toNat < vals.size := by
      have := (List.getElem?_eq_some_iff.mp hy).1
      simpa using this
    exact PyProof.Rows.tail_any ⟨_, g, rfl⟩ F.slot_tuple_getitem.lookup (PySem.P.getItem_tuple g (by omega) (by omega) (seqIndex_nat h0.1 hlt) (by simpa using hy) ⟨v, s.toks, rfl, ry, hq⟩) (not_slice hns _ _)
  | ref n =>
    obtain ⟨l, rfl, gi⟩ := ra.refI
    obtain ⟨o, hH, _⟩ := S.obj gi
    unfold SubW at h
    dsimp only at h
    rw [hH] at h
    cases o with
    | list vs =>
      obtain ⟨k, rfl, h⟩ := asInt.inv h
      obtain ⟨u, rfl⟩ := ri.intI
      obtain ⟨vals, m, g, r, _⟩ := S.objOf gi hH
      rcases h with ⟨v, ⟨h0, h1⟩, hv, hq⟩ | ⟨v, rfl, hv, hq⟩
      · obtain ⟨y, hy, ry⟩ := r.get hv
        exact PyProof.Rows.tail_any ⟨_, g, rfl⟩ slot_list_getitem.lookup (wpAny_getItem_list (isList_of g) h0 (by omega) (by simpa using hy) ⟨v, s.toks, rfl, ry, hq⟩) (not_slice hns _ _)
      · have hl1 : vals.size = vs.length := by rw [← Array.length_toList, r.length]
        have hv' : vs[vs.length - 1]? = some v := by rw [← List.getLast?_eq_getElem?]; exact hv
        have hpos := (List.getElem?_eq_some_iff.mp hv').1
        obtain ⟨y, hy, ry⟩ := r.get hv'
        refine PyProof.Rows.tail_any ⟨_, g, rfl⟩ slot_list_getitem.lookup (wpAny_getItem_list_neg (isList_of g) (by decide) (by exact oq0 hl1 hpos) (by decide) ?_ ⟨v, s.toks, rfl, ry, hq⟩) (not_slice hns _ _)
        rw [show ((-1 : Int) + vals.size).toNat = vs.length - 1 from by omega]
        simpa using hy
    | frz vs =>
      obtain ⟨k, rfl, v, ⟨h0, h1⟩, hv, hq⟩ := asInt.inv h
      obtain ⟨u, rfl⟩ := ri.intI
      obtain ⟨vals, g, r, _⟩ := S.objOf gi hH
      obtain ⟨y, hy, ry⟩ := r.get hv
      exact PyProof.Rows.tail_any g.typeIs slot_list_getitem.lookup (wpAny_getItem_list g h0 (by omega) (by simpa using hy) ⟨v, s.toks, rfl, ry, hq⟩) (not_slice hns _ _)
    | dict es ep =>
      obtain ⟨hk, v, hv, hq⟩ := h
      obtain ⟨ents, D⟩ := S.dict gi hH
      exact PyProof.Rows.tail_any ⟨_, D.get, rfl⟩ slot_dict_getitem.lookup (sub_dict S hu gi hH ri hk hv hq) (not_slice hns _ _)
  | _ => exact h.elim
end
end Tw
end

section
namespace Tw
open PySem PySem.SeqAt

/-! going through a dict's keys, whatever they are -/
section
variable {s : Shared} {A : Around} {prog : Program} {w : World} {E : Value → Shared → Prop}

theorem iter_raw {d : Addr} {ents : Array DictEntry} {ep : Nat} {Q : Value → Shared → Prop} (lo : (d == sysModules) = false) (g : s.heap.get? d = some { cls := .type "dict", data := .dict ents ep })
    (q : Q (.ref s.heap.objs.size) { s with heap := s.heap.push { cls := .type "dict_keyiterator", data := .fields #[.ref d, .int 0 0, .int ents.size 0, .int ep 0] } }) : wpAny (model prog w) A (pyIter (.ref d)) Q E s := by
  have hT : s.TypeIs (.ref d) "dict" := ⟨_, g, rfl⟩
  refine wpAny_pyIter_slot hT F.slot_dict_iter (wpAny_call_entry F.slot_dict_iter hT F.entry_dict_iter ?_ (F.args_dict_iter_1 _))
  unfold Builtin.«dict.__iter__» Builtin.Dict.dictSlotNone
  refine wpAny_bind (wpAny_bind (wpAny_notOrdered_dict hT (wpAny_pure ?_)))
  show wpAny _ _ (Builtin.Dict.showsAll d >>= _) _ _ s
  unfold Builtin.Dict.showsAll
  rw [if_neg (by rw [lo]; exact Bool.false_ne_true)]
  refine wpAny_bind (wpAny_pure (wpAny_bind (wpAny_dictEntries g rfl (wpAny_bind (wpAny_dictEpoch g rfl ?_)))))
  exact wpAny_bind (wpAny_newObj_type (wpAny_pure ⟨_, rfl, "dict_keyiterator", _, ⟨_, Heap.get?_push_size _ rfl, rfl⟩, F.slot_dict_keyiterator_next.lookup, q⟩))

/-- what next does up to the entry at hand -/
theorem next_raw {it d : Addr} {i ep : Nat} {ents : Array DictEntry} {Q : Option Value → Shared → Prop} (hh : A.handled = none) (hit : s.heap.IsKeyIter it d i ents.size ep) (g : s.heap.get? d = some { cls := .type "dict", data := .dict ents ep })
    (hi : ∀ e, ents[i]? = some e → ∀ h', h'.IsKeyIter it d (i + 1) ents.size ep → Heap.SameBut it s.heap h' → Q (some e.key) { s with heap := h' })
    (hn : ents[i]? = none → ∀ h', Heap.ExtBut it s.heap h' → Q none { s with heap := h' }) : wpAny (model prog w) A (pyNext (.ref it)) Q E s := by
  obtain ⟨o, ho, hc, hd⟩ := id hit
  unfold pyNext
  refine wpAny_bind (wpAny_attempt (wpAny_callSpecial?_slot (name := Str.ofString "__next__") hit.typeIs F.slot_dict_keyiterator_next
    (wpAny_call_entry F.slot_dict_keyiterator_next hit.typeIs F.entry_dict_keyiterator_next ?_ (F.args_dict_keyiterator_next_1 _))))
  refine wpAny_bind (wpAny_pure (wpAny_bind (wpAny_bind ?_)))
  first | refine wpAny_bind (wpAny_typeNameOfWhole_keyiter hit.typeIs (wpAny_pure ?_)) | refine wpAny_bind (wpAny_typeNameOf_keyiter hit.typeIs (wpAny_pure ?_))
  refine wpAny_bind (wpAny_fieldsOf ho hd ?_)
  have hown : Builtin.Dict_items.ownsTuple "dict_keyiterator" = false := by decide
  rw [hown, if_neg Bool.false_ne_true]
  show wpAny _ _ (if (Value.ref d == Value.none) = true then _ else _) _ _ s
  rw [if_neg (show ¬ ((Value.ref d == Value.none) = true) from Bool.false_ne_true)]
  refine wpAny_bind (wpAny_pure (wpAny_bind (wpAny_dictEntries g rfl ?_)))
  rw [if_neg (by simp)]
  refine wpAny_bind (wpAny_pure (wpAny_bind (wpAny_dictEpoch g rfl ?_)))
  rw [if_neg (by simp)]
  refine wpAny_pure ?_
  dsimp only
  rw [if_neg (show ¬ ((i : Int) < 0) from by exact oq1), Int.toNat_natCast]
  cases hx : ents[i]? with
  | some e =>
    refine wpAny_bind ?_
    first | refine wpAny_bind (wpAny_typeNameOfWhole_keyiter hit.typeIs (wpAny_pure ?_)) | refine wpAny_bind (wpAny_typeNameOf_keyiter hit.typeIs (wpAny_pure ?_))
    refine wpAny_bind (wpAny_isOneOf_keyiter hit.typeIs ?_)
    show wpAny _ _ (setField (.ref it) 1 (rawInt ((i : Int) + 1)) >>= _) _ _ s
    refine wpAny_bind (wpAny_setField ho hd (by simp) ?_)
    have hit' : (s.heap.update it (Obj.mapFields (·.setIfInBounds 1 (rawInt ((i : Int) + 1))))).IsKeyIter it d (i + 1) ents.size ep :=
      ⟨_, Heap.get?_update_self _ ho (Obj.isFreed_of_fields (Obj.data_mapFields hd _)), (Obj.cls_mapFields ..).trans hc, by rw [Obj.data_mapFields hd]; simp [rawInt]⟩
    refine wpAny_bind (wpAny_holding ?_)
    refine wpAny_bind (wpAny_isOneOf_keyiter (s := { s with heap := s.heap.update it (Obj.mapFields (·.setIfInBounds 1 (rawInt ((i : Int) + 1)))) }) hit'.typeIs ?_)
    show wpAny _ _ (pure e.key) _ _ _
    exact wpAny_pure (wpAny_pure ⟨_, rfl, wpAny_pure (hi e hx _ hit' (Heap.SameBut.update ..))⟩)
  | none =>
    refine wpAny_bind ?_
    first | refine wpAny_bind (wpAny_typeNameOfWhole_keyiter hit.typeIs (wpAny_pure ?_)) | refine wpAny_bind (wpAny_typeNameOf_keyiter hit.typeIs (wpAny_pure ?_))
    show wpAny _ _ (setField (.ref it) 0 .none >>= _) _ _ s
    refine wpAny_bind (wpAny_setField ho hd (by simp) ?_)
    show wpAny _ _ (newExc (.type "StopIteration") [] >>= _) _ _ _
    refine wpAny_bind ?_
    simp only [newExc, newTuple]
    refine wpAny_bind (wpAny_newObj_type ?_ (by size_fits))
    refine wpAny_bind (m := firstArgMember _ _) (wpAny_of_eq (a := Value.none) (by first | rfl | (simp only [firstArgMember]; rfl)) ?_)
    refine wpAny_newObj_type ?_ (by size_fits)
    unfold raiseNew
    refine wpAny_bind (wpAny_handled ?_)
    rw [show A.in1.handled = none from hh]
    refine wpAny_bind (wpAny_pure (wpAny_throw ?_))
    refine wpAny_bind (wpAny_isInstance (T := "StopIteration") (b := true) ⟨_, Heap.get?_push_size _ rfl, rfl⟩ isSubtype_stop ?_)
    exact wpAny_pure (hn hx _ (((Heap.SameBut.update ..).extBut.push _).push _))
end
end Tw
end

section
namespace Tw
open PySem PySem.SeqAt

section
variable {cx : Cx} {ι : List Addr} {ρ : Rho} {H : H} {s : Shared} {A : Around} {prog : Program} {E : Value → Shared → Prop}

/-! an address of our own, aside of all that the frame sees -/
structure Aside (cx : Cx) (a : Addr) : Prop where
  np : ∀ ob, ¬ cx.P a ob
  nl : a ≠ cx.env.locals
  nc : ∀ x c, cx.env.cells.lookup x = some c → c ≠ a
theorem St.aside (S : St cx ι ρ H s) (ok : CxOk cx) {a : Addr} (ha : s.heap.objs.size ≤ a) : Aside cx a ∧ a ∉ ι := by
  obtain ⟨f1, f2, f3, f4, f5⟩ := S.fresh ok ha
  exact ⟨⟨f3, f4, f5⟩, f1⟩
theorem CxOk.keepA (ok : CxOk cx) {a : Addr} (as : Aside cx a) (o : Obj) : CxOk (cx.keep a o) := ok.keep as.nl fun x c _ l => as.nc x c l

/-- something aside turned, or came, or went -/
theorem St.but (S : St cx ι ρ H s) {a : Addr} (as : Aside cx a) (hI : a ∉ ι) {h' : Heap} (tk : Nat) (hs : Heap.ExtBut a s.heap h') (hno : ∀ o, s.heap.get? a = some o → ¬ isImm o) :
    St cx ι ρ H { s with heap := h', toks := tk } ∧ Mono ι s ι { s with heap := h', toks := tk } := by
  have imm : Imm s.heap h' := .of_but hs hno
  refine ⟨?_, ⟨List.prefix_refl _, imm⟩⟩
  exact {
    same := by obtain ⟨h, t, rfl⟩ := S.same; exact ⟨h', tk, rfl⟩
    len := S.len
    nodup := S.nodup
    objs := fun k b o₂ hb ho₂ => (S.objs k b o₂ hb ho₂).mono (List.prefix_refl _) imm fun ob e => hs _ _ (fun e' => hI (e' ▸ List.mem_of_getElem? hb)) e
    low := S.low
    scr := fun o e => hs _ _ (fun e' => hI (e' ▸ S.scrIn)) (S.scr o e)
    scrI := S.scrI
    scrIn := S.scrIn
    prot := fun b ob p => (S.prot b ob p).mono fun o => hs _ o fun e => as.np ob (e ▸ p)
    protI := S.protI
    ns := let ⟨m, n⟩ := S.ns; ⟨m, n.extBut hs fun e => as.nl e.symm⟩
    nsI := S.nsI
    cells := fun y c l => by
      obtain ⟨⟨ov, oc, gc, dc⟩, h1, h2⟩ := S.cells y c l
      exact ⟨⟨ov, oc, hs _ _ (as.nc y c l) gc, dc⟩, h1, h2⟩
    vars := fun x i v hx hv => by
      obtain ⟨val, va, rv⟩ := S.vars x i v hx hv
      exact ⟨val, va.extBut hs (fun e => as.nl e.symm) as.nc, rv.mono (List.prefix_refl _) imm⟩ }
theorem St.kept {a : Addr} {o : Obj} (S : St (cx.keep a o) ι ρ H s) (hd : ¬ Mk o) : s.heap.get? a = some o := (S.prot a o (.inr ⟨rfl, rfl⟩)).exact hd
theorem St.keptI {a : Addr} {o : Obj} (S : St (cx.keep a o) ι ρ H s) : a ∉ ι := S.protI a o (.inr ⟨rfl, rfl⟩)

/-! iterators -/
noncomputable def ItRep (ι : List Addr) (h : Heap) (o : Obj) : It → Prop
  | .seq n i => ∃ l, ι[n]? = some l ∧ o.cls = .type "list_iterator" ∧ o.data = .fields #[.ref l, .int i 0]
  | .vals vs => (∃ (t : Addr) (i : Nat) (items : Array Value) (n : Nat), o.cls = .type "tuple_iterator" ∧ o.data = .fields #[.ref t, .int i 0] ∧ h.get? t = some { cls := .type "tuple", data := .seq items n } ∧ i ≤ items.size ∧ RepVs ι h (items.toList.drop i) vs) ∨
      (∃ (x left step : Int), o = { cls := .type "range_iterator", data := .fields #[rawInt x, rawInt left, rawInt step] } ∧ 0 ≤ left ∧ vs = intsV x step left.toNat)
  | .keys .. => False

theorem ItRep.mono {ι ι' : List Addr} {h h' : Heap} {o : Obj} {i : It} (hi : ι <+: ι') (hm : Imm h h') (r : ItRep ι h o i) : ItRep ι' h' o i := by
  cases i with
  | keys => exact r.elim
  | seq n i =>
    obtain ⟨l, g, c, d⟩ := r
    refine ⟨l, ?_, c, d⟩
    obtain ⟨t, rfl⟩ := hi
    rw [List.getElem?_append_left (List.getElem?_eq_some_iff.mp g).1]; exact g
  | vals vs =>
    rcases r with ⟨t, i, items, n, c, d, g, le, rv⟩ | q
    · exact .inl ⟨t, i, items, n, c, d, hm _ _ g (.inl ⟨rfl, _, _, rfl⟩), le, rv.mono hi hm⟩
    · exact .inr q
theorem ItRep.notImm {ι : List Addr} {h : Heap} {o : Obj} {i : It} (r : ItRep ι h o i) : ¬ isImm o := by
  cases i with
  | keys => exact r.elim
  | seq n i => obtain ⟨l, g, c, d⟩ := r; exact notImm_fields d c (by decide)
  | vals vs =>
    rcases r with ⟨t, i, items, n, c, d, _⟩ | ⟨x, l, st, rfl, _⟩
    · exact notImm_fields d c (by decide)
    · exact notImm_fields rfl rfl (by decide)

theorem ItRep.notMk {ι : List Addr} {h : Heap} {o : Obj} {i : It} (r : ItRep ι h o i) : ¬ Mk o := by
  cases i with
  | keys => exact r.elim
  | seq n i => obtain ⟨l, g, c, d⟩ := r; exact notMk_fields d
  | vals vs =>
    rcases r with ⟨t, i, items, n, c, d, _⟩ | ⟨x, l, st, rfl, _⟩
    · exact notMk_fields d
    · exact notMk_fields rfl

theorem fits_small {a : Int} (h : smallI a) : Builtin.Range.rangeFitsLong a = true := by
  unfold smallI at h
  unfold Builtin.Range.rangeFitsLong
  simp only [Bool.and_eq_true, decide_eq_true_eq]
  omega
theorem rangeSize_eq {a b c : Int} (hc : 0 < c) : Builtin.Range.rangeSize a b c = (rangeLen a b c : Int) := by
  unfold Builtin.Range.rangeSize rangeLen
  rw [if_pos hc]
  split
  · have : 0 ≤ (b - a - 1) / c := Int.ediv_nonneg (by omega) (by exact oq2 hc)
    omega
  · rfl
theorem rangeLen_le {a b c : Int} (hc : 0 < c) (h : a < b) : (rangeLen a b c : Int) ≤ b - a := by
  unfold rangeLen
  rw [if_pos h]
  have h0 : 0 ≤ (b - a - 1) / c := Int.ediv_nonneg (by exact oq3 h) (by exact oq2 hc)
  have h1 : (b - a - 1) / c ≤ b - a - 1 := Int.ediv_le_self _ (by exact oq3 h)
  omega
theorem small_range {a b c : Int} (h : smallI a ∧ smallI b ∧ smallI c ∧ 0 < c) : Builtin.Range.small a b c = true := by
  obtain ⟨ha, hb, hc, h0⟩ := h
  unfold Builtin.Range.small
  rw [rangeSize_eq h0, fits_small ha, fits_small hb, fits_small hc, if_pos h0]
  have e1 : Builtin.Range.rangeFitsLong (rangeLen a b c : Int) = true := by
    unfold Builtin.Range.rangeFitsLong
    simp only [Bool.and_eq_true, decide_eq_true_eq]
    unfold smallI at ha hb
    by_cases h : a < b
    · have := rangeLen_le h0 h; omega
    · simp [rangeLen, h]
  have e2 : Builtin.Range.rangeFitsLong (b + (c - 1)) = true := by
    unfold smallI at hb hc
    unfold Builtin.Range.rangeFitsLong
    simp only [Bool.and_eq_true, decide_eq_true_eq]
    omega
  rw [e1, e2]; simp

inductive PostI (cx : Cx) (ι : List Addr) (ρ : Rho) (H : Tw.H) (s : Shared) (Q : It → Prop) (it : Value) (s' : Shared) : Prop
  | mk (a : Addr) (o : Obj) (i : It) (e : it = .ref a) (as : Aside cx a) (S : St (cx.keep a o) ι ρ H s') (M : Mono ι s ι s') (r : ItRep ι s'.heap o i) (q : Q i)
inductive PostX (cx : Cx) (ι : List Addr) (ρ : Rho) (H : Tw.H) (s : Shared) (it : Addr) (item : V → It → Prop) (x : Value) (s' : Shared) : Prop
  | mk (v : V) (i' : It) (o' : Obj) (q : item v i') (S : St (cx.keep it o') ι ρ H s') (M : Mono ι s ι s') (r : RepV ι s'.heap x v) (ri : ItRep ι s'.heap o' i')
/-- iter(x) -/
theorem iter_sound (S : St cx ι ρ H s) (ok : CxOk cx) {x : Value} {v : V} {Q : It → Prop} (r : RepV ι s.heap x v) (h : IterW v H Q) :
    wpAny (model prog cx.w) A (pyIter x) (PostI cx ι ρ H s Q) E s := by
  have fin : ∀ (o : Obj) (i : It), o.isFreed = false → (∀ h', (∀ b ob, s.heap.get? b = some ob → h'.get? b = some ob) → ItRep ι h' o i) → Q i →
      PostI cx ι ρ H s Q (Value.ref s.heap.objs.size) { s with heap := s.heap.push o } := by
    intro o i hf hr hq
    have hk : ∀ b ob, s.heap.get? b = some ob → (s.heap.push o).get? b = some ob := fun _ _ e => Heap.get?_push_of_some _ e
    obtain ⟨as, hI⟩ := S.aside ok (Nat.le_refl _)
    exact ⟨_, o, i, rfl, as, (S.ext s.toks hk).keep (get?_fresh hf) hI, .ext (tk := s.toks) hk, hr _ hk, hq⟩
  cases v with
  | tup vs =>
    obtain ⟨a, n, vals, rfl, g, z, rv⟩ := r.tupI
    refine wpAny_pyIter_tuple (isTuple_of g) ?_
    exact fin _ (.vals vs) rfl (fun h' hk => .inl ⟨a, 0, vals, n, rfl, rfl, hk _ _ g, Nat.zero_le _, by simpa using rv.mono (List.prefix_refl _) (.of_ext hk)⟩) h
  | rng x y z =>
    obtain ⟨a, t, u, v, rfl, g, hs⟩ := r.rngI
    refine wpAny_pyIter_range g (small_range hs) ?_
    refine fin _ (.vals (rangeV x y z)) rfl (fun h' hk => .inr ⟨x, _, z, rfl, by rw [rangeSize_eq hs.2.2.2]; exact oq4, ?_⟩) h
    rw [rangeSize_eq hs.2.2.2]; simp [rangeV]
  | ref n =>
    obtain ⟨a, rfl, gi⟩ := r.refI
    obtain ⟨o, hH, _⟩ := S.obj gi
    unfold IterW at h
    dsimp only at h
    rw [hH] at h
    cases o with
    | list vs =>
      obtain ⟨vals, m, g, rv, _⟩ := S.objOf gi hH
      refine wpAny_pyIter_list (isList_of g) ?_
      exact fin _ (.seq n 0) rfl (fun h' hk => ⟨a, gi, rfl, rfl⟩) h
    | dict es ep => exact h.elim
    | frz vs => exact h.elim
  | _ => exact h.elim

/-- next(it) -/
theorem next_sound {it : Addr} {o : Obj} (S : St (cx.keep it o) ι ρ H s) (as : Aside cx it) (hh : A.handled = none) {i : It} {stop : Prop} {item : V → It → Prop} (r : ItRep ι s.heap o i) (h : NextW i H stop item) :
    wpAny (model prog cx.w) A (pyNext (.ref it)) (fun v s' => match v with
      | none => stop ∧ St cx ι ρ H s' ∧ Mono ι s ι s'
      | some x => PostX cx ι ρ H s it item x s') E s := by
  have g := S.kept r.notMk
  have hI := S.keptI
  have hno : ∀ ob, s.heap.get? it = some ob → ¬ isImm ob := fun ob e => by rw [g] at e; cases e; exact r.notImm
  have done : stop → ∀ h', Heap.ExtBut it s.heap h' → stop ∧ St cx ι ρ H { s with heap := h' } ∧ Mono ι s ι { s with heap := h' } := fun hs h' hk =>
    ⟨hs, S.unkeep.but as hI s.toks hk hno⟩
  have more : ∀ {x : Value} {v : V} {i' : It} {o' : Obj} {h' : Heap} (tk : Nat), item v i' → Heap.ExtBut it s.heap h' → h'.get? it = some o' → (Imm s.heap h' → RepV ι h' x v ∧ ItRep ι h' o' i') →
      PostX cx ι ρ H s it item x { s with heap := h', toks := tk } := by
    intro x v i' o' h' tk hq hk g' hr
    obtain ⟨S', M⟩ := S.unkeep.but as hI tk hk hno
    exact ⟨v, i', o', hq, S'.keep g' hI, M, (hr M.imm).1, (hr M.imm).2⟩
  cases i with
  | keys => exact r.elim
  | seq n i =>
    obtain ⟨l, gi, c, d⟩ := r
    obtain ⟨ob, hH, _⟩ := S.obj gi
    unfold NextW at h
    dsimp only at h
    rw [hH] at h
    cases ob with
    | dict es ep => exact h.elim
    | frz vs => exact h.elim
    | list vs =>
      dsimp only at h
      obtain ⟨vals, m, gl, rv, _⟩ := S.objOf gi hH
      have hit : s.heap.IsListIter it l i := ⟨o, g, c, d⟩
      cases hv : vs[i]? with
      | none =>
        rw [hv] at h
        refine wpAny_pyNext_list_end hh hit (isList_of gl) ?_ (done h)
        have : vals.size = vs.length := by rw [← Array.length_toList, rv.length]
        have := List.getElem?_eq_none_iff.mp hv
        exact Array.getElem?_eq_none (by exact qp2 qc3 qv0 qv1 qv0 qv2 qv2 qv1 qt (qe (by assumption)) this)
      | some v =>
        rw [hv] at h
        obtain ⟨x, hx, rx⟩ := rv.get hv
        refine wpAny_pyNext_list_item hit (isList_of gl) (by simpa using hx) fun h' hit' hs' => ?_
        obtain ⟨o', g', c', d'⟩ := hit'
        exact more s.toks h hs'.extBut g' fun imm => ⟨rx.mono (List.prefix_refl _) imm, l, gi, c', d'⟩
  | vals vs =>
    rcases r with ⟨t, i, items, n, c, d, gt, le, rv⟩ | ⟨x, left, step, rfl, h0, rfl⟩
    · have hit : s.heap.IsTupleIter it t i := ⟨o, g, c, d⟩
      cases vs with
      | nil =>
        have hlen := rv.length
        simp at hlen
        refine wpAny_pyNext_tuple_end hh hit (isTuple_of gt) (Array.getElem?_eq_none (by exact qp2 qc3 qv0 qv1 qv2 qk0 qv0 (qA qv2 qv1) qt (qe hlen) qw)) (done h)
      | cons v vs =>
        have hlt : i < items.size := by have := rv.length; simp at this; exact oq5 this
        have ed : items.toList.drop i = items[i] :: items.toList.drop (i + 1) := by
          rw [List.drop_eq_getElem_cons (by simpa using hlt)]; simp
        rw [ed] at rv
        cases rv with
        | cons rx rvs =>
          refine wpAny_pyNext_tuple_item hit (isTuple_of gt) (Array.getElem?_eq_getElem hlt) fun h' hit' hs' => ?_
          obtain ⟨o', g', c', d'⟩ := hit'
          exact more s.toks h hs'.extBut g' fun imm => ⟨rx.mono (List.prefix_refl _) imm, .inl ⟨t, i + 1, items, n, c', d', imm _ _ gt (.inl ⟨rfl, _, _, rfl⟩), hlt, rvs.mono (List.prefix_refl _) imm⟩⟩
    · by_cases hl : 0 < left
      · have e : left.toNat = (left - 1).toNat + 1 := by omega
        rw [e] at h
        refine wpAny_pyNext_range_item g hl fun h' hit' hs' => ?_
        exact more (s.toks + 1) h hs'.extBut hit' fun imm => ⟨.int _ _, .inr ⟨x + step, left - 1, step, rfl, by omega, rfl⟩⟩
      · have e : left.toNat = 0 := by omega
        rw [e] at h
        exact wpAny_pyNext_range_end hh g (by omega) (done h)

theorem owned_go {it : Addr} {o : Obj} {i : It} (S : St (cx.keep it o) ι ρ H s) (r : ItRep ι s.heap o i) {target : Expr} {v : Value} {Q : Unit → Shared → Prop} (q : Q () s) :
    wpAny (model prog cx.w) A (letOwnedTupleGo target (.ref it) v) Q E s := by
  have g := S.kept r.notMk
  have key : ∀ {T : String} {vs : Array Value}, o.cls = .type T → o.data = .fields vs → (["enumerate", "zip", "dict_itemiterator", "dict_reverseitemiterator", "odict_iterator", "itertools.zip_longest", "itertools.pairwise"].contains T) = false →
      ∀ a : Addr, wpAny (model prog cx.w) A (do
        let o ← load it
        match o.cls, o.data with
        | .type n, .fields vs =>
          if ["enumerate", "zip", "dict_itemiterator", "dict_reverseitemiterator", "odict_iterator", "itertools.zip_longest", "itertools.pairwise"].contains n && vs[0]? == some (rawInt a) then
            rule "for.unpacks-the-owned-tuple"
            updateField it 0 .none
        | _, _ => pure ()) Q E s := by
    intro T vs c d hT a
    refine wpAny_bind (wpAny_load g ?_)
    rw [c, d]
    dsimp only
    rw [hT, Bool.false_and]
    exact wpAny_pure q
  have key' : ∀ a : Addr, wpAny (model prog cx.w) A (do
        let o ← load it
        match o.cls, o.data with
        | .type n, .fields vs =>
          if ["enumerate", "zip", "dict_itemiterator", "dict_reverseitemiterator", "odict_iterator", "itertools.zip_longest", "itertools.pairwise"].contains n && vs[0]? == some (rawInt a) then
            rule "for.unpacks-the-owned-tuple"
            updateField it 0 .none
        | _, _ => pure ()) Q E s := by
    cases i with
    | keys => exact r.elim
    | seq n i => obtain ⟨l, gi, c, d⟩ := r; exact key c d (by decide)
    | vals vs =>
      rcases r with ⟨t, i, items, n, c, d, _⟩ | ⟨x, l, st, rfl, _⟩
      · exact key c d (by decide)
      · exact key rfl rfl (by decide)
  cases target with
  | Tuple es k pos =>
    cases v with
    | ref a => exact key' a
    | _ => exact wpAny_pure q
  | List es pos =>
    cases v with
    | ref a => exact key' a
    | _ => exact wpAny_pure q
  | _ => exact wpAny_pure q
end
end Tw
end

section
namespace Tw
open PySem PySem.SeqAt

/-! a list made of a dict's keys -/
section
variable {s : Shared} {A : Around} {prog : Program} {w : World} {E : Value → Shared → Prop}

theorem rawKeys (hh : A.handled = none) (I d : Addr) (hne : d ≠ I) (ents : Array DictEntry) (ep : Nat) :
    Walks prog w A I [I, d] [I] ents.size (fun i v => ∃ e, ents[i]? = some e ∧ v = e.key) (fun i h => h.IsKeyIter I d i ents.size ep ∧ h.get? d = some { cls := .type "dict", data := .dict ents ep }) where
  sub := fun b hb => by simp at hb; simp [hb]
  frame := fun _ _ _ st hk => ⟨st.1.at fun o e => hk I (by simp) o e, hk d (by simp) _ st.2⟩
  item := fun i s Q E hi st hQ => next_raw hh st.1 st.2 (fun e hx h' hit' hs' => hQ e.key h' s.toks ⟨e, hx, rfl⟩ ⟨hit', hs'.extBut d _ hne st.2⟩ fun b o hb e => hs'.extBut b o (fun h => hb (by simp [h])) e)
    fun hx => absurd (Array.getElem?_eq_none_iff.mp hx) (Nat.not_le.mpr hi)
  done := fun s Q E st hQ => next_raw hh st.1 st.2 (fun e hx => absurd (Array.getElem?_eq_some_iff.mp hx).1 (Nat.lt_irrefl _)) fun hx h' he' => hQ h' s.toks fun b o hb e => he' b o (fun h => hb (by simp [h])) e
  self := fun _ _ _ _ st hQ => wpAny_pyIter_keyiter st.1 hQ

theorem room_dict {d : Addr} {Q : Bool → Shared → Prop} (hT : s.TypeIs (.ref d) "dict") (q : Q false s) : wpAny (model prog w) A (Builtin.List.listLengthHint (.ref d)) Q E s := by
  unfold Builtin.List.listLengthHint
  refine wpAny_bind (wpAny_specialOf hT F.slot_dict_len.lookup ?_)
  obtain ⟨id, hid⟩ : ∃ id : String, id = "dict.__len__" := ⟨_, rfl⟩
  have hsp : splitId id = some ("dict", "__len__") := by rw [hid]; decide +kernel
  rw [← hid]
  dsimp only
  rw [hsp]
  dsimp only
  refine wpAny_bind (wpAny_isInstance (T := "dict") (b := true) hT (by rw [isSubtype_type]; kernel_rfl) ?_)
  rw [if_neg (show ¬ ((!true) = true) by decide)]
  refine wpAny_ite_split (fun _ => wpAny_bind (wpAny_typeOf hT (wpAny_pure q))) fun hab => ?_
  subst hid
  exact absurd (by decide +kernel) hab

theorem extend_keys {R : Result → Shared → Prop} {d S : Addr} {res : Value} {ents : Array DictEntry} {ep c₀ : Nat} (hh : A.handled = none) (lo : (d == sysModules) = false) (g : s.heap.get? d = some { cls := .type "dict", data := .dict ents ep }) (hn : ents.size ≤ sizeLine)
    (hS : s.heap.get? S = some { cls := .type "list", data := .seq #[] c₀ })
    (q : ∀ (h' : Heap) (tk c' : Nat), (∀ b o, b ≠ S → s.heap.get? b = some o → h'.get? b = some o) → h'.get? S = some { cls := .type "list", data := .seq (ents.map (·.key)) c' } → R (.ok (.ret res)) { s with heap := h', toks := tk }) :
    wpAny (model prog w) A.in1 (Builtin.List.listExtendWith (.ref S) (.ref d) res)
      (fun fin s' => match fin with | .done f => R (.ok f) s' | .again c' => c'.quiet = true ∧ codeAny (model prog w) A c' R s') (fun e s' => R (.error e) s') s := by
  have hdS : d ≠ S := fun e => by rw [e, hS] at g; simp at g
  have hT : s.TypeIs (.ref d) "dict" := ⟨_, g, rfl⟩
  unfold Builtin.List.listExtendWith
  refine wpAny_bind (wpAny_typeOf hT ?_)
  rw [if_neg (by
    have : Builtin.List.listSameRef (.ref S) (.ref d) = false := by simp [Builtin.List.listSameRef, Ne.symm hdS]
    rw [this]; decide)]
  refine wpAny_bind (iter_raw lo g ?_)
  generalize hI : s.heap.objs.size = I at *
  have hSI : S ≠ I := by rw [← hI]; exact Nat.ne_of_lt (Heap.lt_size hS)
  have hdI : d ≠ I := by rw [← hI]; exact Nat.ne_of_lt (Heap.lt_size g)
  have st2 : (s.heap.push { cls := .type "dict_keyiterator", data := .fields #[.ref d, .int 0 0, .int ents.size 0, .int ep 0] }).IsKeyIter I d 0 ents.size ep := ⟨_, by rw [← hI]; exact Heap.get?_push_size _ rfl, rfl, rfl⟩
  have k2 : ∀ b o, s.heap.get? b = some o → (s.heap.push { cls := .type "dict_keyiterator", data := .fields #[.ref d, .int 0 0, .int ents.size 0, .int ep 0] }).get? b = some o := fun b o e => Heap.get?_push_of_some _ e
  have oldI : ∀ b o, s.heap.get? b = some o → b ≠ I := fun b o e => by rw [← hI]; exact Nat.ne_of_lt (Heap.lt_size e)
  generalize s.heap.push { cls := .type "dict_keyiterator", data := .fields #[.ref d, .int 0 0, .int ents.size 0, .int ep 0] } = h2 at *
  have W := (rawKeys (prog := prog) (w := w) (A := A.in1) hh I d hdI ents ep).toS
  have hSf : S ∉ [I, d] := by
    intro hmem
    rcases List.mem_cons.mp hmem with e | hmem
    · exact hSI e
    · exact hdS (List.mem_singleton.mp hmem).symm
  have loop : ∀ (h3 : Heap) (c : Nat), h3.get? S = some { cls := .type "list", data := .seq #[] c } → (∀ b o, b ≠ S → h2.get? b = some o → h3.get? b = some o) →
      codeAny (model prog w) A (.builtin "list.extend.loop" ⟨[.ref S, .ref I, res], []⟩) R { s with heap := h3 } := by
    intro h3 c g3 k3
    refine codeAny_extend_loopS W hn S hSf res ents.size 0 _ #[] c rfl (Nat.zero_le _) ⟨st2.at fun o e => k3 I o (Ne.symm hSI) e, k3 d _ hdS (k2 _ _ g)⟩ g3 (ItemsOf.nil _) fun s' acc' c' hmv g' hacc => ?_
    have e : acc' = ents.map (·.key) := by
      apply Array.ext
      · rw [hacc.1, Array.size_map]
      · intro i h1 h2
        obtain ⟨e, he, hv⟩ := hacc.2 i acc'[i] (Array.getElem?_eq_getElem h1)
        rw [hv]
        obtain ⟨h4, h5⟩ := Array.getElem?_eq_some_iff.mp he
        rw [Array.getElem_map, h5]
    subst e
    rw [Moved.eq_with hmv]
    refine q s'.heap s'.toks c' (fun b o hb e => hmv.heap b o (fun hm => ?_) (k3 b o hb (k2 b o e))) g'
    rcases List.mem_cons.mp hm with e' | hm
    · exact hb e'
    · exact oldI b o e (List.mem_singleton.mp hm)
  refine wpAny_bind (wpAny_holding (room_dict (s := { s with heap := h2 }) ⟨_, k2 _ _ g, rfl⟩ ?_))
  have g2 := k2 _ _ hS
  refine wpAny_ite_split (fun _ => ?_) fun _ => wpAny_pure ⟨plainId_quiet F.plain_extend_loop _, loop _ _ g2 fun b o _ e => e⟩
  refine wpAny_bind (wpAny_rule (wpAny_bind ?_))
  show wpAny _ _ (updateSeq S (·.push .none) >>= fun _ => updateSeq S (·.pop)) _ _ _
  refine wpAny_bind (wpAny_updateSeq g2 rfl ?_)
  have g3 := Heap.get?_update_self (Obj.mapSeq (·.push Value.none)) g2 rfl
  refine wpAny_updateSeq (hz := by seq_fits) g3 rfl ?_
  have g4 := Heap.get?_update_self (Obj.mapSeq (·.pop)) g3 rfl
  exact wpAny_pure ⟨plainId_quiet F.plain_extend_loop _, loop _ _ g4 fun b o hb e => (Heap.get?_update_other _ _ (Ne.symm hb)).trans ((Heap.get?_update_other _ _ (Ne.symm hb)).trans e)⟩

/-- the items of what sorted goes through -/
theorem collect_raw {d : Addr} {ents : Array DictEntry} {ep : Nat} {R : List Value → Shared → Prop} (hh : A.handled = none) (lo : (d == sysModules) = false) (g : s.heap.get? d = some { cls := .type "dict", data := .dict ents ep }) (hn : ents.size ≤ sizeLine)
    (q : ∀ (h' : Heap) (tk : Nat), (∀ b o, s.heap.get? b = some o → h'.get? b = some o) → s.heap.objs.size < h'.objs.size → R (ents.toList.map (·.key)) { s with heap := h', toks := tk }) : wpAny (model prog w) A (collect (.ref d)) R E s := by
  unfold collect
  refine wpAny_bind (wpAny_runValue (codeAny_builtin F.entry_proto_collect ?_))
  rw [Around.under_plainId F.plain_proto_collect _]
  show wpAny _ A.in1 (newList [] >>= fun l => again (.builtin "list.__iadd__" ⟨[l, .ref d], []⟩)) _ _ s
  refine wpAny_bind (wpAny_newObj_type (wpAny_pure ⟨plainId_quiet F.plain_list_iadd _, codeAny_builtin F.entry_list_iadd ?_⟩))
  rw [Around.under_plainId F.plain_list_iadd _]
  have g1 : (s.heap.push { cls := .type "list", data := .seq ([] : List Value).toArray }).get? s.heap.objs.size = some { cls := .type "list", data := .seq #[] } := Heap.get?_push_size _ rfl
  show wpAny _ A.in1 (Builtin.List.listExtendWith (.ref s.heap.objs.size) (.ref d) (.ref s.heap.objs.size)) _ _ { s with heap := s.heap.push { cls := .type "list", data := .seq ([] : List Value).toArray } }
  refine extend_keys (s := { s with heap := s.heap.push { cls := .type "list", data := .seq ([] : List Value).toArray } }) (R := fun r s' => match r with
    | .ok (.ret v) => wpAny (model prog w) A (match v with
      | .ref a => do
        let o ← load a
        match o.data with
        | .seq xs _ => pure xs.toList
        | _ => unsupported "internal:collect"
      | _ => unsupported "internal:collect") R E s'
    | .ok _ => False
    | .error e => E e s') hh lo (Heap.get?_push_of_some _ g) hn g1 fun h' tk c' hk g' => ?_
  show wpAny _ A (load s.heap.objs.size >>= _) _ _ _
  refine wpAny_bind (wpAny_load g' (wpAny_pure ?_))
  have := q h' tk (fun b o e => hk b o (Nat.ne_of_lt (Heap.lt_size e)) (Heap.get?_push_of_some _ e)) (Heap.lt_size g')
  simpa using this

theorem call_list_dict {Q : Value → Shared → Prop} {d : Addr} {ents : Array DictEntry} {ep : Nat} (hh : A.handled = none) (lo : (d == sysModules) = false) (g : s.heap.get? d = some { cls := .type "dict", data := .dict ents ep }) (hn : ents.size ≤ sizeLine)
    (q : ∀ h' tk c', (∀ b o, s.heap.get? b = some o → h'.get? b = some o) → h'.get? s.heap.objs.size = some { cls := .type "list", data := .seq (ents.map (·.key)) c' } → Q (.ref s.heap.objs.size) { s with heap := h', toks := tk }) :
    wpAny (model prog w) A (call (.type "list") [.ref d]) Q E s := by
  refine callType_codes (Q₁ := fun obj s₁ => obj = .ref s.heap.objs.size ∧ s₁ = { s with heap := s.heap.push { cls := .type "list", data := .seq #[] } }) F.called_list (F.typeCall_list_1 _) F.entry_list_init
    (code_list_new _ ⟨rfl, rfl⟩) fun obj s₁ h₁ => ?_
  obtain ⟨rfl, rfl⟩ := h₁
  have hS : (s.heap.push { cls := .type "list", data := .seq #[] }).get? s.heap.objs.size = some { cls := .type "list", data := .seq #[] } := Heap.get?_push_size _ rfl
  refine ⟨⟨_, hS, rfl⟩, F.args_list_init_2 _ _, ?_⟩
  have g1 := Heap.get?_push_of_some { cls := .type "list", data := .seq #[] } g
  have old : ∀ b o, s.heap.get? b = some o → b ≠ s.heap.objs.size := fun b o e => Nat.ne_of_lt (Heap.lt_size e)
  have k1 : ∀ b o, s.heap.get? b = some o → (s.heap.push { cls := .type "list", data := .seq #[] }).get? b = some o := fun b o e => Heap.get?_push_of_some _ e
  have hdS := old _ _ g
  generalize s.heap.push { cls := .type "list", data := .seq #[] } = h1 at *
  generalize s.heap.objs.size = S at *
  show wpAny _ A.in1.in1 (do let old ← Builtin.List.listItems (.ref S); Builtin.List.listUpdate (.ref S) (fun _ => #[]); letGo old.toList.reverse; Builtin.List.listExtendWith (.ref S) (.ref d) .none) _ _ _
  refine wpAny_bind ?_
  unfold Builtin.List.listItems
  refine wpAny_bind (wpAny_seqItems hS rfl (wpAny_pure ?_))
  show wpAny _ _ (updateSeq S (fun _ => #[]) >>= fun _ => letGo (#[] : Array Value).toList.reverse >>= fun _ => Builtin.List.listExtendWith (.ref S) (.ref d) .none) _ _ _
  refine wpAny_bind (wpAny_updateSeq hS rfl (wpAny_bind (wpAny_letGo ?_)))
  have hS₂ := Heap.get?_update_self (Obj.mapSeq (fun _ => (#[] : Array Value))) hS rfl
  have oth : ∀ b o, b ≠ S → h1.get? b = some o → (h1.update S (Obj.mapSeq (fun _ => (#[] : Array Value)))).get? b = some o := fun b o hb e => (Heap.get?_update_other _ _ (Ne.symm hb)).trans e
  refine extend_keys (A := A.in1) hh lo (oth d _ hdS g1) hn hS₂ fun h' tk c' hk g' => ⟨rfl, q h' tk c' (fun b o e => hk b o (old b o e) (oth b o (old b o e) (k1 b o e))) g'⟩
theorem keys_reps {ι : List Addr} {h : Heap} {ents : List DictEntry} {es : List (V × V)} (r : RepEs w ι h ents es) : RepVs ι h (ents.map (·.key)) (es.map (·.1)) := by
  induction r with
  | nil => exact .nil
  | cons _ rk _ _ _ ih => exact .cons rk ih
end
end Tw
end

section
namespace Tw
open PySem PySem.SeqAt

/-! one dict put into another -/
section
variable {cx : Cx} {ι : List Addr} {ρ : Rho} {H : H} {s : Shared} {A : Around} {prog : Program} {E : Value → Shared → Prop}

end
end Tw
end

section
namespace Tw
open PySem PySem.SeqAt
end Tw
end

section
namespace Tw
open PySem PySem.SeqAt
section
variable {cx : Cx} {ι : List Addr} {ρ : Rho} {H : H} {s : Shared} {A : Around} {prog : Program} {E : Value → Shared → Prop}
end
end Tw
end

section
namespace Tw
open PySem PySem.W PyProof.Rows
end Tw
end

section
namespace Tw
open PySem PySem.SeqAt
end Tw
end

section
namespace Tw
open PySem PySem.W PyProof.Rows
noncomputable def gallopT : Bool → Keyed → Array Keyed → Nat → Nat → Nat → StateT SortSt Sem (Option Nat) := sortPriv% PySem.Builtin.gallop
noncomputable def mergeLoT : Array Keyed → Array Keyed → StateT SortSt Sem (Array Keyed) := sortPriv% PySem.Builtin.mergeLo
noncomputable def mergeHiT : Array Keyed → Array Keyed → StateT SortSt Sem (Array Keyed) := sortPriv% PySem.Builtin.mergeHi

section
variable {M : Model} {A : Around} {E : Value → Shared → Prop} {σ β : Type}
/-- a loop of known length: an invariant at each turn -/
theorem loopC {b : Nat} {c : β} {f : Nat → β → StateT σ Sem (ForInStep β)} {Q : β → σ → Shared → Prop} {st : σ} {s : Shared} (I : Nat → β → σ → Shared → Prop) (h0 : I 0 c st s)
    (step : ∀ i c st s, i < b → I i c st s → kasC M A E (f i c) (fun r st' s' => match r with | .done c' => Q c' st' s' | .yield c' => I (i + 1) c' st' s') st s)
    (fin : ∀ c st s, I b c st s → Q c st s) : kasC M A E (forIn [:b] c f) Q st s := by
  refine kasC_range ?_
  rw [Nat.sub_zero]
  have key : ∀ (k i : Nat) c st s, i + k = b → I i c st s → kasC M A E (forIn (List.range' i k) c f) Q st s := by
    intro k
    induction k with
    | zero => intro i c st s e h; exact kasC_nil (fin c st s (by rw [← e]; exact h))
    | succ k ih =>
      intro i c st s e h
      rw [List.range'_succ]
      refine kasC_cons (wpAny_mono (step i c st s (by exact qp1 qc3 qs0 qv1 (qA qv0 qs2) qv1 qt (qe e)) h) (fun r s' h' => ?_) fun _ _ e => e)
      obtain ⟨r, st'⟩ := r
      cases r with
      | done c' => exact h'
      | yield c' => exact ih (i + 1) c' st' s' (by exact Nat.le_antisymm (qp1 qc3 (qA qs0 qv1) qv2 (qA qv0 qs1) qv2 qt (qe e)) (qp1 qc3 qv0 (qA qs1 qv2) qv0 (qA qv1 qs2) qt (qi e))) h'
  exact key b 0 c st s (by exact Nat.le_antisymm (qp0 qc1 (qA qk0 qv0) qv0 qt ) (qp0 qc1 qv0 (qA qk0 qv0) qt )) h0
theorem kasC_mono {α : Type} {m : StateT σ Sem α} {Q Q' : α → σ → Shared → Prop} {st : σ} {s : Shared} (h : kasC M A E m Q st s) (hq : ∀ a st' s', Q a st' s' → Q' a st' s') : kasC M A E m Q' st s :=
  wpAny_mono h (fun r s' h' => hq _ _ _ h') fun _ _ e => e
end

/-- an order of what is sorted, as the model's comparisons answer -/
structure OrdP (lt : Keyed → Keyed → Bool) (P : Keyed → Prop) : Prop where
  irr : ∀ x, P x → lt x x = false
  tr : ∀ x y z, P x → P y → P z → lt x y = false → lt y z = false → lt x z = false
  asy : ∀ x y, P x → P y → lt x y = true → lt y x = false
theorem OrdP.flip {lt : Keyed → Keyed → Bool} {P : Keyed → Prop} (O : OrdP lt P) : OrdP (fun x y => lt y x) P :=
  ⟨O.irr, fun x y z px py pz h1 h2 => O.tr z y x pz py px h2 h1, fun x y px py h => O.asy y x py px h⟩
structure Ord9 (prog : Program) (w : World) (A : Around) (κ : SortKind) (lt : Keyed → Keyed → Bool) (P : Keyed → Prop) (I : Shared → Prop) : Prop extends OrdP lt P where
  cmp : ∀ x y s (Q : Bool → Shared → Prop), P x → P y → I s → (∀ s', I s' → Q (lt x y) s') → wpAny (model prog w) A (keyLt' κ x.1 y.1) Q (fun _ _ => False) s

section
variable {prog : Program} {w : World} {A : Around} {E : Value → Shared → Prop} {κ : SortKind} {lt : Keyed → Keyed → Bool} {P : Keyed → Prop} {I : Shared → Prop} (O : Ord9 prog w A κ lt P I)
include O
theorem ltC {x y : Keyed} {Q : Option Bool → SortSt → Shared → Prop} {st : SortSt} {s : Shared} (hk : kindOf st = κ) (px : P x) (py : P y) (hI : I s) (q : ∀ s', I s' → Q (some (lt x y)) st s') : kasC (model prog w) A E (lt' x y) Q st s := by
  rw [lt'_eq]
  refine kasC_bind (kasC_get ?_)
  refine kasC_bind (kasC_lift ?_)
  rw [hk]
  refine wpAny_attempt ?_
  refine wpAny_mono (O.cmp x y s (fun b s' => Q (some b) st s') px py hI q) (fun b s' h => kasC_pure h) fun _ _ e => e.elim
omit O in
theorem elemC {arr : Array Keyed} {i : Nat} {x : Keyed} {Q : Keyed → SortSt → Shared → Prop} {st : SortSt} {s : Shared} (h : arr[i]? = some x) (q : Q x st s) : kasC (model prog w) A E (elem' arr i) Q st s := by
  rw [elem'_eq, h]; exact kasC_pure q

/-- is it beyond: smaller than the key, or not greater -/
noncomputable def bey (lt : Keyed → Keyed → Bool) (left : Bool) (key x : Keyed) : Bool := if left = true then lt x key else !lt key x
noncomputable def beyAt (lt : Keyed → Keyed → Bool) (left : Bool) (key : Keyed) (arr : Array Keyed) (i : Nat) : Bool := match arr[i]? with
  | some x => bey lt left key x
  | none => false
structure Cut (B : Nat → Bool) (n k : Nat) : Prop where
  le : k ≤ n
  lo : ∀ i, i < k → B i = true
  hi : ∀ i, k ≤ i → i < n → B i = false
theorem bey_down {left : Bool} {key x y : Keyed} (pk : P key) (px : P x) (py : P y) (hxy : lt y x = false) (h : bey lt left key y = true) : bey lt left key x = true := by
  unfold bey at h ⊢
  cases left with
  | true =>
    rw [if_pos rfl] at h ⊢
    cases e : lt x key with
    | true => rfl
    | false => rw [O.tr y x key py px pk hxy e] at h; cases h
  | false =>
    rw [if_neg Bool.false_ne_true] at h ⊢
    have h : lt key y = false := by simpa using h
    rw [O.tr key y x pk py px h hxy]; rfl
omit O in
/-- the halving -/
theorem binC {B : Nat → Bool} {st : SortSt} {n lo hi : Nat} {f : Nat → Option (Option Nat) × Nat × Nat → StateT SortSt Sem (ForInStep (Option (Option Nat) × Nat × Nat))} {s : Shared} {Q : Option (Option Nat) × Nat × Nat → SortSt → Shared → Prop}
    (down : ∀ i j, i ≤ j → j < n → B j = true → B i = true)
    (hf : ∀ i lo hi s R, lo < hi → hi ≤ n → I s → (∀ s', I s' → (B (lo + (hi - lo) / 2) = true → R (.yield (none, lo + (hi - lo) / 2 + 1, hi)) st s') ∧ (B (lo + (hi - lo) / 2) = false → R (.yield (none, lo, lo + (hi - lo) / 2)) st s')) → kasC (model prog w) A E (f i (none, lo, hi)) R st s)
    (hd : ∀ i lo hi s R, hi ≤ lo → R (.done (none, lo, hi)) st s → kasC (model prog w) A E (f i (none, lo, hi)) R st s)
    (hI : I s) (h1 : lo ≤ hi) (h2 : hi ≤ n) (h3 : ∀ i, i < lo → B i = true) (h4 : ∀ i, hi ≤ i → i < n → B i = false) (q : ∀ k s', I s' → Cut B n k → Q (none, k, k) st s') : kasC (model prog w) A E (forIn [:n] (none, lo, hi) f) Q st s := by
  refine loopC (fun i c st' s' => st' = st ∧ I s' ∧ ∃ lo hi, c = (none, lo, hi) ∧ lo ≤ hi ∧ hi ≤ n ∧ hi - lo ≤ n - i ∧ (∀ i, i < lo → B i = true) ∧ ∀ i, hi ≤ i → i < n → B i = false) ⟨rfl, hI, lo, hi, rfl, h1, h2, by exact qp3 qc4 qv0 qv1 qv2 qv3 qv0 qv2 qv3 (qA qv1 qk0) qt h2 qu qw, h3, h4⟩ ?_ ?_
  · rintro i c st' s' hi' ⟨rfl, hI', lo, hi, rfl, g1, g2, g3, g4, g5⟩
    rcases Nat.lt_or_ge lo hi with hlt | hge
    · refine hf i lo hi s' _ hlt g2 hI' fun s₂ h₂ => ⟨fun hb => ?_, fun hb => ?_⟩
      · exact ⟨rfl, h₂, _, _, rfl, by exact oq6 hlt, g2, by exact oq7 g3, fun j hj => down j _ (by exact oq8 hj) (by exact oq9 g2 hlt) hb, g5⟩
      · refine ⟨rfl, h₂, _, _, rfl, by exact oq10, by exact oq11 g2 hlt, by exact oq12 g3, g4, fun j hj hj' => ?_⟩
        cases e : B j with
        | false => rfl
        | true => rw [down _ j hj hj' e] at hb; cases hb
    · obtain rfl : lo = hi := Nat.le_antisymm g1 hge
      exact hd i lo lo s' _ (Nat.le_refl _) (q lo s' hI' ⟨g2, g4, g5⟩)
  · rintro c st' s' ⟨rfl, hI', lo, hi, rfl, g1, g2, g3, g4, g5⟩
    obtain rfl : lo = hi := by exact Nat.le_antisymm (g1) (qp3 qc5 qv0 qv1 qv2 qv3 qv0 (qA qv2 qv1) (qA qv3 qv4) qv4 qt g3 qw (qx (Nat.le_refl _)))
    exact q lo s' hI' ⟨g2, g4, g5⟩
theorem gallopC {left : Bool} {key : Keyed} {arr : Array Keyed} {base n hint : Nat} {Q : Option Nat → SortSt → Shared → Prop} {st : SortSt} {s : Shared} (hk : kindOf st = κ) (hI : I s) (pk : P key) (hn : hint < n)
    (all : ∀ i, i < n → ∃ x, arr[base + i]? = some x ∧ P x) (srt : ∀ i j x y, i ≤ j → j < n → arr[base + i]? = some x → arr[base + j]? = some y → lt y x = false)
    (q : ∀ k s', I s' → Cut (fun i => beyAt lt left key arr (base + i)) n k → Q (some k) st s') : kasC (model prog w) A E (gallopT left key arr base n hint) Q st s := by
  have ask : ∀ {i : Nat} {s : Shared} {R : Option Bool → SortSt → Shared → Prop}, i < n → I s → (∀ s', I s' → R (some (beyAt lt left key arr (base + i))) st s') → kasC (model prog w) A E (do
      let x ← elem' arr (base + i)
      if left = true then lt' x key else do
        let r ← lt' key x
        pure (r.map fun x => !x)) R st s := by
    intro i s R hi hI r
    obtain ⟨x, hx, px⟩ := all i hi
    have e : beyAt lt left key arr (base + i) = bey lt left key x := by unfold beyAt; rw [hx]
    rw [e] at r
    refine kasC_bind (elemC hx ?_)
    cases left with
    | true => rw [if_pos rfl]; exact ltC O hk px pk hI r
    | false => rw [if_neg Bool.false_ne_true]; exact kasC_bind (ltC O hk pk px hI fun s' h' => kasC_pure (r s' h'))
  have down : ∀ i j, i ≤ j → j < n → beyAt lt left key arr (base + j) = true → beyAt lt left key arr (base + i) = true := fun i j h1 h2 hb => by
    obtain ⟨x, hx, px⟩ := all i (by exact qp2 qc3 qs0 qv1 qv0 qv2 qs2 qv1 qt h1 h2)
    obtain ⟨y, hy, py⟩ := all j h2
    unfold beyAt at hb ⊢
    rw [hy] at hb
    rw [hx]
    exact bey_down O pk px py (srt i j x y h1 h2 hx hy) hb
  generalize hB : (fun i => beyAt lt left key arr (base + i)) = B at q
  have eB : ∀ i, beyAt lt left key arr (base + i) = B i := fun i => by rw [← hB]
  simp only [eB] at ask down
  clear hB
  refine kasC_bind (ask hn hI fun s₁ h₁ => ?_)
  have half : ∀ {lo hi : Nat} {s : Shared}, I s → lo ≤ hi → hi ≤ n → (∀ i, i < lo → B i = true) → (∀ i, hi ≤ i → i < n → B i = false) → ∀ {f : Nat → Option (Option Nat) × Nat × Nat → StateT SortSt Sem (ForInStep (Option (Option Nat) × Nat × Nat))},
      (∀ i lo hi s R, lo < hi → hi ≤ n → I s → (∀ s', I s' → (B (lo + (hi - lo) / 2) = true → R (.yield (none, lo + (hi - lo) / 2 + 1, hi)) st s') ∧ (B (lo + (hi - lo) / 2) = false → R (.yield (none, lo, lo + (hi - lo) / 2)) st s')) → kasC (model prog w) A E (f i (none, lo, hi)) R st s) →
      (∀ i lo hi s R, hi ≤ lo → R (.done (none, lo, hi)) st s → kasC (model prog w) A E (f i (none, lo, hi)) R st s) →
      kasC (model prog w) A E (forIn [:n] (none, lo, hi) f) (fun c st' s' => ∃ k, c = (none, k, k) ∧ st' = st ∧ I s' ∧ Cut B n k) st s := fun hI h1 h2 h3 h4 _ hf hd =>
    binC down hf hd hI h1 h2 h3 h4 fun k s' h' c => ⟨k, rfl, rfl, h', c⟩
  cases hb : B hint with
  | true =>
    dsimp only
    rw [if_pos rfl]
    refine kasC_bind (kasC_mono (loopC (Q := fun c st' s' => st' = st ∧ I s' ∧ ∃ l o, c = (none, l, o) ∧ l < o ∧ l < n - hint ∧ B (hint + l) = true ∧ (n - hint ≤ o ∨ B (hint + o) = false)) (fun i c st' s' => st' = st ∧ I s' ∧ ∃ l o, c = (none, l, o) ∧ i + 1 ≤ o ∧ l < o ∧ l < n - hint ∧ B (hint + l) = true) ⟨rfl, h₁, 0, 1, rfl, by omega, by omega, by exact qp2 qc3 (qA qk0 qk1) qv0 qs1 qv2 qv2 (qA qv0 qv1) qt hn qw, hb⟩ ?_ ?_) ?_)
    · rintro i c st' s' hi' ⟨rfl, hI', l, o, rfl, g1, g2, g3, g4⟩
      dsimp only
      by_cases ho : o ≥ n - hint
      · rw [if_pos ho]; exact kasC_pure ⟨rfl, hI', l, o, rfl, g2, g3, g4, .inl ho⟩
      · rw [if_neg ho]
        refine kasC_bind (ask (by exact oq13 ho) hI' fun s₂ h₂ => ?_)
        cases hm : B (hint + o) with
        | true => exact kasC_pure ⟨rfl, h₂, o, 2 * o + 1, rfl, by exact qp1 qc2 (qA qs0 qk1) (qA (qM 2 qv1) qk1) qs0 qv1 qt g1, by exact qp0 qc1 qs0 (qA (qM 2 qv0) qk1) qt , by exact qn ho, hm⟩
        | false => exact kasC_pure ⟨rfl, h₂, l, o, rfl, g2, g3, g4, .inr hm⟩
    · rintro c st' s' ⟨rfl, hI', l, o, rfl, g1, g2, g3, g4⟩
      exact ⟨rfl, hI', l, o, rfl, g2, g3, g4, .inl (by exact qp2 qc3 qv0 qv1 qs2 qv1 qv0 qv2 qt g1 qu)⟩
    · rintro c st' s' ⟨rfl, hI', l, o, rfl, g2, g3, g4, g5⟩
      dsimp only
      refine kasC_bind (kasC_mono (half hI' (by exact oq14 g2 g3) (by exact oq15 g3) (fun i hi => down i (hint + l) (by exact qp1 qc3 qv0 (qA qv1 qv2) qs0 (qA (qA qv1 qv2) qk1) qt hi) (by exact oq16 g3) g4) (fun i hi hi' => ?_) ?_ ?_) ?_)
      · rcases g5 with g5 | g5
        · exact False.elim (oq17 hi hi' g5)
        · cases e : B i with
          | false => rfl
          | true => rw [down (hint + o) i (by exact oq18 hi hi') hi' e] at g5; cases g5
      · intro i lo hi s R hlt hle hI r
        dsimp only
        rw [if_neg (by exact fun e0 => qf2 qc2 qs0 qv1 qv1 qv0 qt hlt e0)]
        refine kasC_bind (ask (by exact oq19 hlt hle) hI fun s₂ h₂ => ?_)
        cases hm : B (lo + (hi - lo) / 2) with
        | true => exact kasC_pure ((r s₂ h₂).1 hm)
        | false => exact kasC_pure ((r s₂ h₂).2 hm)
      · intro i lo hi s R hge r
        dsimp only
        rw [if_pos hge]
        exact kasC_pure r
      · rintro c st' s' ⟨k, rfl, rfl, hI', cut⟩
        exact kasC_pure (q k s' hI' cut)
  | false =>
    dsimp only
    rw [if_neg Bool.false_ne_true]
    refine kasC_bind (kasC_mono (loopC (Q := fun c st' s' => st' = st ∧ I s' ∧ ∃ l o, c = (none, l, o) ∧ l < o ∧ l < hint + 1 ∧ B (hint - l) = false ∧ (hint + 1 ≤ o ∨ B (hint - o) = true)) (fun i c st' s' => st' = st ∧ I s' ∧ ∃ l o, c = (none, l, o) ∧ i + 1 ≤ o ∧ l < o ∧ l < hint + 1 ∧ B (hint - l) = false) ⟨rfl, h₁, 0, 1, rfl, by omega, by omega, by exact qp0 qc1 (qA qk0 qk1) qs0 qt , hb⟩ ?_ ?_) ?_)
    · rintro i c st' s' hi' ⟨rfl, hI', l, o, rfl, g1, g2, g3, g4⟩
      dsimp only
      by_cases ho : o ≥ hint + 1
      · rw [if_pos ho]; exact kasC_pure ⟨rfl, hI', l, o, rfl, g2, g3, g4, .inl ho⟩
      · rw [if_neg ho]
        refine kasC_bind (ask (by exact qp2 qc3 qs0 qv1 qs2 qv1 qv0 qv2 qt hn qu) hI' fun s₂ h₂ => ?_)
        cases hm : B (hint - o) with
        | true => exact kasC_pure ⟨rfl, h₂, l, o, rfl, g2, g3, g4, .inr hm⟩
        | false => exact kasC_pure ⟨rfl, h₂, o, 2 * o + 1, rfl, by exact qp1 qc2 (qA qs0 qk1) (qA (qM 2 qv1) qk1) qs0 qv1 qt g1, by exact qp0 qc1 qs0 (qA (qM 2 qv0) qk1) qt , by exact qn ho, hm⟩
    · rintro c st' s' ⟨rfl, hI', l, o, rfl, g1, g2, g3, g4⟩
      exact ⟨rfl, hI', l, o, rfl, g2, g3, g4, .inl (by exact qp2 qc3 qs0 qv1 qs0 qv2 qs2 qv1 qt hn g1)⟩
    · rintro c st' s' ⟨rfl, hI', l, o, rfl, g2, g3, g4, g5⟩
      dsimp only
      refine kasC_bind (kasC_mono (half hI' (by exact oq20 g2) (by exact qp2 qc3 qv0 qv1 qs2 qv1 qv0 qv2 qt hn qu) (fun i hi => ?_) (fun i hi hi' => ?_) ?_ ?_) ?_)
      · rcases g5 with g5 | g5
        · exact False.elim (oq21 hi g5)
        · exact down i (hint - o) (by exact oq22 hi) (by exact qp2 qc3 qs0 qv1 qs2 qv1 qv0 qv2 qt hn qu) g5
      · cases e : B i with
        | false => rfl
        | true => rw [down (hint - l) i (by exact hi) hi' e] at g4; cases g4
      · intro i lo hi s R hlt hle hI r
        dsimp only
        rw [if_neg (by exact fun e0 => qf2 qc2 qs0 qv1 qv1 qv0 qt hlt e0)]
        refine kasC_bind (ask (by exact oq19 hlt hle) hI fun s₂ h₂ => ?_)
        cases hm : B (lo + (hi - lo) / 2) with
        | true => exact kasC_pure ((r s₂ h₂).1 hm)
        | false => exact kasC_pure ((r s₂ h₂).2 hm)
      · intro i lo hi s R hge r
        dsimp only
        rw [if_pos hge]
        exact kasC_pure r
      · rintro c st' s' ⟨k, rfl, rfl, hI', cut⟩
        exact kasC_pure (q k s' hI' cut)
end
end Tw
end

section
namespace Tw
open PySem PySem.W PyProof.Rows

/-! merging, in plain lists -/
section
variable {α : Type} {le : α → α → Prop} {a b L : List α} {i j k : Nat}
/-- what is merged so far: L; what is left: a from i on, b from j on -/
structure Mg (le : α → α → Prop) (a b L : List α) (i j : Nat) : Prop where
  perm : (L ++ (a.drop i ++ b.drop j)).Perm (a ++ b)
  srt : L.Pairwise le
  bnd : ∀ x ∈ L, ∀ y ∈ a.drop i ++ b.drop j, le x y
theorem Mg.byA (m : Mg le a b L i j) (sa : a.Pairwise le) (h : ∀ x ∈ (a.drop i).take k, ∀ y ∈ b.drop j, le x y) : Mg le a b (L ++ (a.drop i).take k) (i + k) j := by
  have e : a.drop i = (a.drop i).take k ++ a.drop (i + k) := by rw [← List.drop_drop]; exact (List.take_append_drop k _).symm
  have sd : (a.drop i).Pairwise le := sa.sublist (List.drop_sublist _ _)
  rw [e] at sd
  obtain ⟨s1, s2, s3⟩ := List.pairwise_append.mp sd
  refine ⟨?_, List.pairwise_append.mpr ⟨m.srt, s1, fun x hx y hy => m.bnd x hx y (List.mem_append_left _ (List.mem_of_mem_take hy))⟩, fun x hx y hy => ?_⟩
  · have := m.perm
    rw [e] at this
    simpa [List.append_assoc] using this
  · rcases List.mem_append.mp hx with hx | hx
    · refine m.bnd x hx y ?_
      rcases List.mem_append.mp hy with hy | hy
      · rw [e]; exact List.mem_append_left _ (List.mem_append_right _ hy)
      · exact List.mem_append_right _ hy
    · rcases List.mem_append.mp hy with hy | hy
      · exact s3 x hx y hy
      · exact h x hx y hy
theorem Mg.byB (m : Mg le a b L i j) (sb : b.Pairwise le) (h : ∀ x ∈ (b.drop j).take k, ∀ y ∈ a.drop i, le x y) : Mg le a b (L ++ (b.drop j).take k) i (j + k) := by
  have e : b.drop j = (b.drop j).take k ++ b.drop (j + k) := by rw [← List.drop_drop]; exact (List.take_append_drop k _).symm
  have sd : (b.drop j).Pairwise le := sb.sublist (List.drop_sublist _ _)
  rw [e] at sd
  obtain ⟨s1, s2, s3⟩ := List.pairwise_append.mp sd
  refine ⟨?_, List.pairwise_append.mpr ⟨m.srt, s1, fun x hx y hy => m.bnd x hx y (List.mem_append_right _ (List.mem_of_mem_take hy))⟩, fun x hx y hy => ?_⟩
  · have := m.perm
    rw [e] at this
    refine List.Perm.trans ?_ this
    rw [List.append_assoc]
    refine List.Perm.append_left _ ?_
    rw [← List.append_assoc, ← List.append_assoc]
    exact List.Perm.append_right _ List.perm_append_comm
  · rcases List.mem_append.mp hx with hx | hx
    · refine m.bnd x hx y ?_
      rcases List.mem_append.mp hy with hy | hy
      · exact List.mem_append_left _ hy
      · rw [e]; exact List.mem_append_right _ (List.mem_append_right _ hy)
    · rcases List.mem_append.mp hy with hy | hy
      · exact h x hx y hy
      · exact s3 x hx y hy
/-- both are merged -/
structure Mrd (le : α → α → Prop) (a b r : List α) : Prop where
  perm : r.Perm (a ++ b)
  srt : r.Pairwise le
theorem Mg.done (m : Mg le a b L i j) (sa : a.Pairwise le) (sb : b.Pairwise le) (h : ∀ x ∈ a.drop i, ∀ y ∈ b.drop j, le x y) : Mrd le a b (L ++ a.drop i ++ b.drop j) := by
  refine ⟨by rw [List.append_assoc]; exact m.perm, List.pairwise_append.mpr ⟨List.pairwise_append.mpr ⟨m.srt, sa.sublist (List.drop_sublist _ _), fun x hx y hy => m.bnd x hx y (List.mem_append_left _ hy)⟩, sb.sublist (List.drop_sublist _ _), fun x hx y hy => ?_⟩⟩
  rcases List.mem_append.mp hx with hx | hx
  · exact m.bnd x hx y (List.mem_append_right _ hy)
  · exact h x hx y hy
theorem Mg.doneB (m : Mg le a b L i j) (sa : a.Pairwise le) (sb : b.Pairwise le) (h : ∀ x ∈ b.drop j, ∀ y ∈ a.drop i, le x y) : Mrd le a b (L ++ b.drop j ++ a.drop i) := by
  refine ⟨?_, List.pairwise_append.mpr ⟨List.pairwise_append.mpr ⟨m.srt, sb.sublist (List.drop_sublist _ _), fun x hx y hy => m.bnd x hx y (List.mem_append_right _ hy)⟩, sa.sublist (List.drop_sublist _ _), fun x hx y hy => ?_⟩⟩
  · refine List.Perm.trans ?_ m.perm
    rw [List.append_assoc]
    exact List.Perm.append_left _ List.perm_append_comm
  · rcases List.mem_append.mp hx with hx | hx
    · exact m.bnd x hx y (List.mem_append_left _ hy)
    · exact h x hx y hy
theorem Mg.len (m : Mg le a b L i j) (hi : i ≤ a.length) (hj : j ≤ b.length) : L.length = i + j := by
  have := m.perm.length_eq
  simp only [List.length_append, List.length_drop] at this
  exact Nat.le_antisymm (qp3 qc7 qv0 (qA qv1 qv2) (qA qv0 (qA qv3 qv4)) (qA qv5 qv6) qv5 (qA qv3 qv1) qv6 (qA qv4 qv2) qt (qe this) qw qw) (qp3 qc7 (qA qv0 qv1) qv2 (qA qv3 qv4) (qA qv2 (qA qv5 qv6)) (qA qv5 qv0) qv3 (qA qv6 qv1) qv4 qt (qi this) (qx (hi)) (qx (hj)))
theorem take1 {x : α} (h : a[i]? = some x) : (a.drop i).take 1 = [x] := by
  have hl := (List.getElem?_eq_some_iff.mp h).1
  rw [List.drop_eq_getElem_cons hl]
  have := (List.getElem?_eq_some_iff.mp h).2
  rw [this]; rfl
/-- where a is sorted, all from i on is at least a[i] -/
theorem from_le {x : α} (refl : le x x) (sa : a.Pairwise le) (h : a[i]? = some x) : ∀ y ∈ a.drop i, le x y := fun y hy => by
  have hl := (List.getElem?_eq_some_iff.mp h).1
  have hx := (List.getElem?_eq_some_iff.mp h).2
  have sd : (a.drop i).Pairwise le := sa.sublist (List.drop_sublist _ _)
  rw [List.drop_eq_getElem_cons hl, hx] at sd hy
  rcases List.mem_cons.mp hy with rfl | hy
  · exact refl
  · exact (List.pairwise_cons.mp sd).1 y hy
end
end Tw
end

section
namespace Tw
open PySem PySem.W PyProof.Rows

/-- the same but for the gallop's threshold -/
structure Same (st st' : SortSt) : Prop where
  k : kindOf st' = kindOf st
  a : arrOf st' = arrOf st
  p : pendingOf st' = pendingOf st
  f : failedOf st' = failedOf st
theorem Same.rfl {st : SortSt} : Same st st := ⟨Eq.refl _, Eq.refl _, Eq.refl _, Eq.refl _⟩

section
variable {α : Type} {xs ys : Array α} {i j k : Nat}
theorem ex_take : (xs.extract i (i + k)).toList = (xs.toList.drop i).take k := by
  rw [Array.toList_extract, List.extract_eq_take_drop, Nat.add_sub_cancel_left]
theorem ex_drop : (xs.extract i).toList = xs.toList.drop i := by
  rw [Array.toList_extract, List.extract_eq_take_drop]
  rw [List.take_of_length_le]
  simp
theorem get_toList {x : α} : xs[i]? = some x ↔ xs.toList[i]? = some x := by rw [Array.getElem?_toList]
end

section
variable {lt : Keyed → Keyed → Bool} {P : Keyed → Prop}
noncomputable def leB (lt : Keyed → Keyed → Bool) (x y : Keyed) : Prop := lt y x = false

/-- two runs that are to be merged, the smaller one first -/
structure Two2 (lt : Keyed → Keyed → Bool) (P : Keyed → Prop) (a b : Array Keyed) : Prop where
  pa : ∀ x ∈ a.toList, P x
  pb : ∀ x ∈ b.toList, P x
  sa : a.toList.Pairwise (leB lt)
  sb : b.toList.Pairwise (leB lt)
variable (O : OrdP lt P) {a b : Array Keyed} (T : Two2 lt P a b)
include O T
theorem Two2.below_a {x y : Keyed} {i : Nat} (px : P x) (hx : leB lt x y) (h : a[i]? = some y) : ∀ z ∈ a.toList.drop i, leB lt x z := fun z hz => by
  have h := get_toList.mp h
  have py := T.pa y (List.mem_of_getElem? h)
  exact O.tr z y x (T.pa z (List.mem_of_mem_drop hz)) py px (from_le (O.irr y py) T.sa h z hz) hx
theorem Two2.below_b {x y : Keyed} {i : Nat} (px : P x) (hx : leB lt x y) (h : b[i]? = some y) : ∀ z ∈ b.toList.drop i, leB lt x z := fun z hz => by
  have h := get_toList.mp h
  have py := T.pb y (List.mem_of_getElem? h)
  exact O.tr z y x (T.pb z (List.mem_of_mem_drop hz)) py px (from_le (O.irr y py) T.sb h z hz) hx
abbrev MgA (lt : Keyed → Keyed → Bool) (a b out : Array Keyed) (i j : Nat) : Prop := Mg (leB lt) a.toList b.toList out.toList i j
/-- one of b -/
theorem push_b {out : Array Keyed} {i j : Nat} {x y : Keyed} (m : MgA lt a b out i j) (hb : b[j]? = some x) (ha : a[i]? = some y) (h : leB lt x y) : MgA lt a b (out.push x) i (j + 1) := by
  have px := T.pb x (List.mem_of_getElem? (get_toList.mp hb))
  have := Mg.byB (k := 1) m T.sb fun z hz => by
    rw [take1 (get_toList.mp hb)] at hz
    rw [List.mem_singleton.mp hz]
    exact T.below_a O px h ha
  rw [take1 (get_toList.mp hb)] at this
  show Mg _ _ _ (out.push x).toList _ _
  rw [Array.toList_push]; exact this
theorem push_a {out : Array Keyed} {i j : Nat} {x y : Keyed} (m : MgA lt a b out i j) (ha : a[i]? = some x) (hb : b[j]? = some y) (h : leB lt x y) : MgA lt a b (out.push x) (i + 1) j := by
  have px := T.pa x (List.mem_of_getElem? (get_toList.mp ha))
  have := Mg.byA (k := 1) m T.sa fun z hz => by
    rw [take1 (get_toList.mp ha)] at hz
    rw [List.mem_singleton.mp hz]
    exact T.below_b O px h hb
  rw [take1 (get_toList.mp ha)] at this
  show Mg _ _ _ (out.push x).toList _ _
  rw [Array.toList_push]; exact this
theorem many_a {out : Array Keyed} {i j k : Nat} {y : Keyed} (m : MgA lt a b out i j) (hb : b[j]? = some y) (h : ∀ r, r < k → ∀ x, a[i + r]? = some x → leB lt x y) : MgA lt a b (out ++ a.extract i (i + k)) (i + k) j := by
  have := Mg.byA (k := k) m T.sa fun z hz => by
    obtain ⟨r, hr⟩ := List.mem_iff_getElem?.mp hz
    have hrk : r < k := by
      have := (List.getElem?_eq_some_iff.mp hr).1
      rw [List.length_take] at this; exact oq23 this
    rw [List.getElem?_take_of_lt hrk, List.getElem?_drop] at hr
    exact T.below_b O (T.pa z (List.mem_of_getElem? hr)) (h r hrk z (get_toList.mpr hr)) hb
  show Mg _ _ _ (out ++ a.extract i (i + k)).toList _ _
  rw [Array.toList_append, ex_take]; exact this
theorem many_b {out : Array Keyed} {i j k : Nat} {y : Keyed} (m : MgA lt a b out i j) (ha : a[i]? = some y) (h : ∀ r, r < k → ∀ x, b[j + r]? = some x → leB lt x y) : MgA lt a b (out ++ b.extract j (j + k)) i (j + k) := by
  have := Mg.byB (k := k) m T.sb fun z hz => by
    obtain ⟨r, hr⟩ := List.mem_iff_getElem?.mp hz
    have hrk : r < k := by
      have := (List.getElem?_eq_some_iff.mp hr).1
      rw [List.length_take] at this; exact oq23 this
    rw [List.getElem?_take_of_lt hrk, List.getElem?_drop] at hr
    exact T.below_a O (T.pb z (List.mem_of_getElem? hr)) (h r hrk z (get_toList.mpr hr)) ha
  show Mg _ _ _ (out ++ b.extract j (j + k)).toList _ _
  rw [Array.toList_append, ex_take]; exact this
omit O in
theorem done_b {out : Array Keyed} {i j : Nat} (m : MgA lt a b out i j) (hj : j = b.size) : Mrd (leB lt) a.toList b.toList (out ++ a.extract i ++ b.extract j).toList := by
  rw [Array.toList_append, Array.toList_append, ex_drop, ex_drop]
  refine Mg.done m T.sa T.sb fun x _ y hy => ?_
  rw [hj, List.drop_of_length_le (by simp)] at hy
  exact nomatch hy
omit O in
theorem done_a {out : Array Keyed} {i j : Nat} (m : MgA lt a b out i j) (hi : i = a.size) : Mrd (leB lt) a.toList b.toList (out ++ a.extract i ++ b.extract j).toList := by
  rw [Array.toList_append, Array.toList_append, ex_drop, ex_drop]
  refine Mg.done m T.sa T.sb fun x hx y _ => ?_
  rw [hi, List.drop_of_length_le (by simp)] at hx
  exact nomatch hx
omit O in
theorem last_a {out : Array Keyed} {i j : Nat} (m : MgA lt a b out i j) (hi : i + 1 = a.size) (hl : ∀ x ∈ b.toList, ∀ y, a[a.size - 1]? = some y → leB lt x y) : Mrd (leB lt) a.toList b.toList (out ++ b.extract j ++ a.extract i).toList := by
  rw [Array.toList_append, Array.toList_append, ex_drop, ex_drop]
  refine Mg.doneB m T.sa T.sb fun x hx y hy => hl x (List.mem_of_mem_drop hx) y ?_
  obtain ⟨r, hr⟩ := List.mem_iff_getElem?.mp hy
  have hrl := (List.getElem?_eq_some_iff.mp hr).1
  rw [List.length_drop, Array.length_toList] at hrl
  rw [List.getElem?_drop] at hr
  rw [show a.size - 1 = i + r by exact Nat.le_antisymm (qp2 qc4 qv0 (qA qv1 qv2) qv3 qs1 qs0 qv3 qt (qi hi) (qx (qp1 qc2 qk1 qv0 qs1 qv0 qt (qe hi)))) (qp3 qc5 (qA qv0 qv1) qv2 qs1 qv3 (qA qv3 qv0) qv4 qv4 qs2 qt hrl (qx (qp1 qc2 qv0 qv1 qs0 qv1 qt (qe hi))) qw)]
  exact get_toList.mpr hr
end
end Tw
end

section
namespace Tw
open PySem PySem.W PyProof.Rows
section
variable {prog : Program} {w : World} {A : Around} {E : Value → Shared → Prop} {κ : SortKind} {lt : Keyed → Keyed → Bool} {P : Keyed → Prop} {I : Shared → Prop}
theorem ruleC {x : String} {Q : Unit → SortSt → Shared → Prop} {st : SortSt} {s : Shared} (q : Q () st s) : kasC (model prog w) A E (liftM (rule x) : StateT SortSt Sem Unit) Q st s := kasC_lift (wpAny_rule q)
theorem iteT {β : Type} {c : Prop} [Decidable c] {X Y : StateT SortSt Sem β} {Q : β → SortSt → Shared → Prop} {st : SortSt} {s : Shared} {M : Model} (hc : c) (h : kasC M A E X Q st s) : kasC M A E (if c then X else Y) Q st s := by rw [if_pos hc]; exact h
theorem iteF {β : Type} {c : Prop} [Decidable c] {X Y : StateT SortSt Sem β} {Q : β → SortSt → Shared → Prop} {st : SortSt} {s : Shared} {M : Model} (hc : ¬ c) (h : kasC M A E Y Q st s) : kasC M A E (if c then X else Y) Q st s := by rw [if_neg hc]; exact h
theorem Two2.at_a {a b : Array Keyed} (T : Two2 lt P a b) {i : Nat} (h : i < a.size) : ∃ x, a[i]? = some x ∧ P x := ⟨a[i], Array.getElem?_eq_getElem h, T.pa _ (Array.getElem_mem_toList h)⟩
theorem Two2.at_b {a b : Array Keyed} (T : Two2 lt P a b) {i : Nat} (h : i < b.size) : ∃ x, b[i]? = some x ∧ P x := ⟨b[i], Array.getElem?_eq_getElem h, T.pb _ (Array.getElem_mem_toList h)⟩
theorem srt_arr {a : Array Keyed} (sa : a.toList.Pairwise (leB lt)) (irr : ∀ x ∈ a.toList, lt x x = false) {i j : Nat} {x y : Keyed} (h : i ≤ j) (hx : a[i]? = some x) (hy : a[j]? = some y) : lt y x = false := by
  rcases Nat.lt_or_ge i j with hij | hij
  · obtain ⟨h1, e1⟩ := Array.getElem?_eq_some_iff.mp hx
    obtain ⟨h2, e2⟩ := Array.getElem?_eq_some_iff.mp hy
    have := List.pairwise_iff_getElem.mp sa i j (by simpa using h1) (by simpa using h2) hij
    rw [← e1, ← e2]
    simpa [leB] using this
  · obtain rfl : i = j := Nat.le_antisymm h hij
    rw [hx] at hy; cases hy
    exact irr x (List.mem_of_getElem? (get_toList.mp hx))

variable (O : Ord9 prog w A κ lt P I) {a b : Array Keyed} (T : Two2 lt P a b)
/-- live: more than one of a, one of b -/
structure Lv (lt : Keyed → Keyed → Bool) (a b out : Array Keyed) (i j : Nat) : Prop where
  m : MgA lt a b out i j
  ia : i + 1 < a.size
  jb : j < b.size
theorem Lv.sz {out : Array Keyed} {i j : Nat} (x : Lv lt a b out i j) : out.size = i + j := by
  have h1 := x.ia
  have h2 := x.jb
  have := Mg.len x.m (by simp; exact qp1 qc2 qv0 qv1 (qA qs0 qk1) qv1 qt h1) (by simp; exact qp1 qc2 qv0 qv1 qs0 qv1 qt h2)
  simpa using this
include O T
theorem gal_a {key : Keyed} {i : Nat} {Q : Option Nat → SortSt → Shared → Prop} {st : SortSt} {s : Shared} (hk : kindOf st = κ) (hI : I s) (pk : P key) (hi : i < a.size)
    (q : ∀ k s', I s' → i + k ≤ a.size → (∀ r, r < k → ∀ x, a[i + r]? = some x → leB lt x key) → (∀ x, i + k < a.size → a[i + k]? = some x → lt key x = true) → Q (some k) st s') : kasC (model prog w) A E (gallopT false key a i (a.size - i) 0) Q st s := by
  refine gallopC O hk hI pk (by exact qp2 qc3 (qA qk0 qk1) qv0 qs1 qv2 qv2 (qA qv0 qv1) qt hi qw) (fun r hr => T.at_a (by exact oq16 hr)) (fun r t x y h1 h2 hx hy => srt_arr T.sa (fun x hx => O.irr x (T.pa x hx)) (by exact qp1 qc3 (qA qv0 qv1) (qA qv0 qv2) qv1 qv2 qt h1) hx hy) fun k s' h' c => q k s' h' (by have := c.le; exact qp2 qc4 (qA qv0 qv1) qv2 qv1 qv3 (qA qv3 qv0) qv2 qt this (qx (qp1 qc2 qv0 qv1 qs0 qv1 qt hi))) (fun r hr x hx => ?_) fun x hk' hx => ?_
  · have := c.lo r hr
    unfold beyAt bey at this
    rw [hx] at this
    simpa [leB] using this
  · have := c.hi k (Nat.le_refl _) (by exact qp2 qc4 qs0 qv1 (qA (qA qv2 qv0) qk1) qv3 qv3 (qA qv1 qv2) qt hk' qw)
    unfold beyAt bey at this
    rw [hx] at this
    simpa using this
theorem gal_b {key : Keyed} {j : Nat} {Q : Option Nat → SortSt → Shared → Prop} {st : SortSt} {s : Shared} (hk : kindOf st = κ) (hI : I s) (pk : P key) (hj : j < b.size)
    (q : ∀ k s', I s' → j + k ≤ b.size → (∀ r, r < k → ∀ x, b[j + r]? = some x → leB lt x key) → (∀ x, j + k < b.size → b[j + k]? = some x → leB lt key x) → Q (some k) st s') : kasC (model prog w) A E (gallopT true key b j (b.size - j) 0) Q st s := by
  refine gallopC O hk hI pk (by exact qp2 qc3 (qA qk0 qk1) qv0 qs1 qv2 qv2 (qA qv0 qv1) qt hj qw) (fun r hr => T.at_b (by exact oq16 hr)) (fun r t x y h1 h2 hx hy => srt_arr T.sb (fun x hx => O.irr x (T.pb x hx)) (by exact qp1 qc3 (qA qv0 qv1) (qA qv0 qv2) qv1 qv2 qt h1) hx hy) fun k s' h' c => q k s' h' (by have := c.le; exact qp2 qc4 (qA qv0 qv1) qv2 qv1 qv3 (qA qv3 qv0) qv2 qt this (qx (qp1 qc2 qv0 qv1 qs0 qv1 qt hj))) (fun r hr x hx => ?_) fun x hk' hx => ?_
  · have := c.lo r hr
    unfold beyAt bey at this
    rw [hx] at this
    have px := T.pb x (List.mem_of_getElem? (get_toList.mp hx))
    exact O.asy x key px pk (by simpa using this)
  · have := c.hi k (Nat.le_refl _) (by exact qp2 qc4 qs0 qv1 (qA (qA qv2 qv0) qk1) qv3 qv3 (qA qv1 qv2) qt hk' qw)
    unfold beyAt bey at this
    rw [hx] at this
    simpa [leB] using this
/-- merged, or live and grown -/
noncomputable def LoQ (lt : Keyed → Keyed → Bool) (I : Shared → Prop) (a b : Array Keyed) (st : SortSt) (n : Nat) (r : Option (Array Keyed)) (out : Array Keyed) (i j : Nat) (st' : SortSt) (s' : Shared) : Prop :=
  Same st st' ∧ I s' ∧ match r with
    | some r => Mrd (leB lt) a.toList b.toList r.toList
    | none => Lv lt a b out i j ∧ n ≤ out.size
/-- a turn of the gallop: over, or on -/
noncomputable def LoR (lt : Keyed → Keyed → Bool) (I : Shared → Prop) (a b : Array Keyed) (st : SortSt) (n t : Nat) (r : ForInStep (Option (Array Keyed) × Array Keyed × Nat × Nat × Nat × Nat × Nat)) (st' : SortSt) (s' : Shared) : Prop := match r with
  | .done c' => LoQ lt I a b st n c'.1 c'.2.1 c'.2.2.1 c'.2.2.2.1 st' s'
  | .yield c' => Same st st' ∧ I s' ∧ ∃ out' ia ib mg ac bc, c' = (none, out', ia, ib, mg, ac, bc) ∧ Lv lt a b out' ia ib ∧ n + (t + 1) ≤ out'.size
theorem mergeLoC {Q : Array Keyed → SortSt → Shared → Prop} {st : SortSt} {s : Shared} (hk : kindOf st = κ) (hI : I s) (ha : 1 ≤ a.size) (hb : 1 ≤ b.size) (h0 : ∀ x y, b[0]? = some x → a[0]? = some y → leB lt x y)
    (hl : ∀ x ∈ b.toList, ∀ y, a[a.size - 1]? = some y → leB lt x y) (q : ∀ r st' s', Same st st' → I s' → Mrd (leB lt) a.toList b.toList r.toList → Q r st' s') : kasC (model prog w) A E (mergeLoT a b) Q st s := by
  obtain ⟨x0, hx0, px0⟩ := T.at_b (i := 0) (by exact qp1 qc1 (qA qk0 qk1) qv0 qk1 qv0 qt hb)
  obtain ⟨y0, hy0, py0⟩ := T.at_a (i := 0) (by exact qp1 qc1 (qA qk0 qk1) qv0 qk1 qv0 qt ha)
  have m0 : MgA lt a b #[x0] 0 1 := push_b O.toOrdP T (out := #[]) (i := 0) (j := 0) ⟨by simp, by simp, by simp⟩ hx0 hy0 (h0 x0 y0 hx0 hy0)
  refine kasC_bind (ruleC ?_)
  refine kasC_bind (elemC hx0 ?_)
  extract_lets o1 i1 i2
  by_cases e1 : 1 = b.size
  · exact iteT (beq_iff_eq.mpr e1) (kasC_pure (q _ _ _ .rfl hI (done_b T m0 e1)))
  refine iteF (fun h => e1 (beq_iff_eq.mp h)) ?_
  by_cases e2 : 0 + 1 = a.size
  · exact iteT (beq_iff_eq.mpr e2) (kasC_pure (q _ _ _ .rfl hI (last_a T m0 e2 hl)))
  refine iteF (fun h => e2 (beq_iff_eq.mp h)) ?_
  refine kasC_bind (kasC_get ?_)
  refine kasC_bind (kasC_mono (loopC (Q := fun c st' s' => ∃ r, c.1 = some r ∧ Same st st' ∧ I s' ∧ Mrd (leB lt) a.toList b.toList r.toList) (fun i c st' s' => Same st st' ∧ I s' ∧ ∃ out ia ib mg, c = (none, out, ia, ib, mg) ∧ Lv lt a b out ia ib ∧ i + 1 ≤ out.size)
    ⟨.rfl, hI, _, _, _, _, rfl, ⟨m0, by omega, by omega⟩, Nat.le_refl 1⟩ ?_ ?_) ?_)
  · rintro i c st' s' hi' ⟨sm, hI', out, ia, ib, mg, rfl, lv, hsz⟩
    refine kasC_bind (kasC_mono (loopC (Q := fun c st₂ s₂ => LoQ lt I a b st (out.size + 1) c.1 c.2.1 c.2.2.1 c.2.2.2.1 st₂ s₂) (fun t c st₂ s₂ => Same st st₂ ∧ I s₂ ∧ ∃ out' ia ib ac bc, c = (none, out', ia, ib, ac, bc) ∧ Lv lt a b out' ia ib ∧ out.size + t ≤ out'.size)
      ⟨sm, hI', _, _, _, _, _, rfl, lv, Nat.le_refl _⟩ ?_ ?_) ?_)
    · rintro t c st₂ s₂ ht ⟨sm₂, hI₂, out₂, ia, ib, ac, bc, rfl, lv₂, hsz₂⟩
      have hia := lv₂.ia
      obtain ⟨y, hy, py⟩ := T.at_a (i := ia) (by exact qp1 qc2 qs0 qv1 (qA qs0 qk1) qv1 qt hia)
      obtain ⟨x, hx, px⟩ := T.at_b lv₂.jb
      dsimp only
      refine kasC_bind (elemC hx (kasC_bind (elemC hy (kasC_bind (ltC O (sm₂.k.trans hk) px py hI₂ fun s₃ h₃ => ?_)))))
      cases hb' : lt x y with
      | true =>
        dsimp only
        rw [if_pos rfl]
        refine kasC_bind (elemC hx ?_)
        have m₃ := push_b O.toOrdP T lv₂.m hx hy (O.asy x y px py hb')
        by_cases e3 : ib + 1 = b.size
        · exact iteT (beq_iff_eq.mpr e3) (kasC_pure ⟨sm₂, h₃, done_b T m₃ e3⟩)
        refine iteF (fun h => e3 (beq_iff_eq.mp h)) ?_
        have lv₃ : Lv lt a b (out₂.push x) ia (ib + 1) := ⟨m₃, lv₂.ia, by have := lv₂.jb; exact oq24 e3 this⟩
        have hs : out.size + (t + 1) ≤ (out₂.push x).size := by rw [Array.size_push]; exact qp1 qc3 (qA qv0 qs1) qs2 (qA qv0 qv1) qv2 qt hsz₂
        split
        · exact kasC_pure ⟨sm₂, h₃, lv₃, show out.size + 1 ≤ (out₂.push x).size by exact qp1 qc3 qs0 qv1 (qA qv0 qs2) qv1 qt hs⟩
        · exact kasC_pure ⟨sm₂, h₃, _, _, _, _, _, rfl, lv₃, hs⟩
      | false =>
        dsimp only
        rw [if_neg Bool.false_ne_true]
        refine kasC_bind (elemC hy ?_)
        have m₃ := push_a O.toOrdP T lv₂.m hy hx hb'
        by_cases e3 : ia + 1 + 1 = a.size
        · exact iteT (beq_iff_eq.mpr e3) (kasC_pure ⟨sm₂, h₃, last_a T m₃ e3 hl⟩)
        refine iteF (fun h => e3 (beq_iff_eq.mp h)) ?_
        have lv₃ : Lv lt a b (out₂.push y) (ia + 1) ib := ⟨m₃, by exact oq25 hia e3, lv₂.jb⟩
        have hs : out.size + (t + 1) ≤ (out₂.push y).size := by rw [Array.size_push]; exact qp1 qc3 (qA qv0 qs1) qs2 (qA qv0 qv1) qv2 qt hsz₂
        split
        · exact kasC_pure ⟨sm₂, h₃, lv₃, show out.size + 1 ≤ (out₂.push y).size by exact qp1 qc3 qs0 qv1 (qA qv0 qs2) qv1 qt hs⟩
        · exact kasC_pure ⟨sm₂, h₃, _, _, _, _, _, rfl, lv₃, hs⟩
    · rintro c st₂ s₂ ⟨sm₂, hI₂, out₂, ia, ib, ac, bc, rfl, lv₂, hsz₂⟩
      have := lv₂.sz
      have := lv₂.ia
      have := lv₂.jb
      exact qf4 qc6 (qA qv0 (qA qv1 qv2)) qv3 qv3 (qA qv4 qv5) (qA qs4 qk1) qv1 qs5 qv2 qt hsz₂ (qe (by assumption)) (by assumption) this
    · rintro ⟨r, out₂, ia, ib, ac, bc⟩ st₂ s₂ ⟨sm₂, hI₂, h₂⟩
      cases r with
      | some r => exact kasC_pure ⟨r, rfl, sm₂, hI₂, h₂⟩
      | none =>
        obtain ⟨lv₂, hsz₂⟩ := h₂
        refine kasC_bind (ruleC ?_)
        refine kasC_bind (kasC_mono (loopC (Q := fun c st₂ s₂ => LoQ lt I a b st (out.size + 1) c.1 c.2.1 c.2.2.1 c.2.2.2.1 st₂ s₂) (fun t c st₂ s₂ => Same st st₂ ∧ I s₂ ∧ ∃ out' ia ib mg ac bc, c = (none, out', ia, ib, mg, ac, bc) ∧ Lv lt a b out' ia ib ∧ out.size + 1 + t ≤ out'.size)
          ⟨sm₂, hI₂, _, _, _, _, _, _, rfl, lv₂, hsz₂⟩ ?_ ?_) ?_)
        · rintro t c st₃ s₃ ht ⟨sm₃, hI₃, out₃, ia, ib, mg, ac, bc, rfl, lv₃, hsz₃⟩
          have hia := lv₃.ia
          have hjb := lv₃.jb
          obtain ⟨x, hx, px⟩ := T.at_b lv₃.jb
          extract_lets z1 z2 z3 z4 z5 z6 z7 z8 z9 z10 z11 z12 jp
          have hj : ∀ z, kasC (model prog w) A E (jp () z) (LoR lt I a b st (out.size + 1) t) st₃ s₃ := by
            intro z
            refine kasC_bind (kasC_modify ?_)
            refine kasC_bind (elemC hx ?_)
            refine kasC_bind (gal_a O T (i := ia) (sm₃.k.trans hk) hI₃ px (by exact qp1 qc2 qs0 qv1 (qA qs0 qk1) qv1 qt hia) fun k s₄ h₄ hk1 hk2 hk3 => ?_)
            dsimp -zeta only
            show kasC _ _ _ _ _ (SortSt.mk' (kindOf st₃) (arrOf st₃) (pendingOf st₃) z (failedOf st₃)) _
            generalize hst : SortSt.mk' (kindOf st₃) (arrOf st₃) (pendingOf st₃) z (failedOf st₃) = st₄
            have sm₄ : Same st st₄ := by rw [← hst]; exact ⟨sm₃.k, sm₃.a, sm₃.p, sm₃.f⟩
            clear hst
            extract_lets kk jp2 o2 i2
            have hj2 : ∀ (out' : Array Keyed) (ia' : Nat), MgA lt a b out' ia' ib → ia' + 1 < a.size → out₃.size ≤ out'.size → (∀ y, a[ia']? = some y → lt x y = true) → kasC (model prog w) A E (jp2 () out' ia') (LoR lt I a b st (out.size + 1) t) st₄ s₄ := by
              intro out' ia' m' hia' hs' hlt
              obtain ⟨y, hy, py⟩ := T.at_a (i := ia') (by exact qp1 qc2 qs0 qv1 (qA qs0 qk1) qv1 qt hia')
              have m₅ := push_b O.toOrdP T m' hx hy (O.asy x y px py (hlt y hy))
              refine kasC_bind (elemC hx ?_)
              extract_lets o5
              by_cases e5 : ib + 1 = b.size
              · exact iteT (beq_iff_eq.mpr e5) (kasC_pure ⟨sm₄, h₄, done_b T m₅ e5⟩)
              refine iteF (fun h => e5 (beq_iff_eq.mp h)) ?_
              refine kasC_bind (elemC hy ?_)
              refine kasC_bind (gal_b O T (j := ib + 1) (sm₄.k.trans hk) h₄ py (by exact oq26 hjb e5) fun k₅ s₅ h₅ hk4 hk5 hk6 => ?_)
              dsimp -zeta only
              extract_lets bb jp3 o6 i6
              have hj3 : ∀ (out' : Array Keyed) (ib' : Nat), MgA lt a b out' ia' ib' → ib' < b.size → o5.size ≤ out'.size → (∀ y', b[ib']? = some y' → leB lt y y') → kasC (model prog w) A E (jp3 () out' ib') (LoR lt I a b st (out.size + 1) t) st₄ s₅ := by
                intro out'' ib'' m'' hib hs'' hle
                obtain ⟨y', hy', py'⟩ := T.at_b hib
                have m₇ := push_a O.toOrdP T m'' hy hy' (hle y' hy')
                refine kasC_bind (elemC hy ?_)
                extract_lets o7 i7
                by_cases e7 : ia' + 1 + 1 = a.size
                · exact iteT (beq_iff_eq.mpr e7) (kasC_pure ⟨sm₄, h₅, last_a T m₇ e7 hl⟩)
                refine iteF (fun h => e7 (beq_iff_eq.mp h)) ?_
                have lv₇ : Lv lt a b (out''.push y) (ia' + 1) ib'' := ⟨m₇, by exact oq25 hia' e7, hib⟩
                have hs₇ : out.size + 1 + (t + 1) ≤ (out''.push y).size := by
                  rw [Array.size_push]
                  have : o5.size = out'.size + 1 := Array.size_push _
                  exact qp4 qc6 (qA qs0 qs1) qs2 (qA qs0 qv1) qv3 qv3 qv4 qv5 qv2 qs4 qv5 qt hsz₃ hs' hs'' (qi this)
                split
                · exact kasC_pure ⟨sm₄, h₅, lv₇, show out.size + 1 ≤ (out''.push y).size by exact qp1 qc3 qs0 qv1 (qA qs0 qs2) qv1 qt hs₇⟩
                · exact kasC_pure ⟨sm₄, h₅, _, _, _, _, _, _, rfl, lv₇, hs₇⟩
              clear_value jp3
              by_cases hk0 : k₅ > 0
              · rw [if_pos hk0]
                have m₆ := many_b O.toOrdP T m₅ hy hk5
                by_cases e6 : ib + 1 + k₅ = b.size
                · exact iteT (beq_iff_eq.mpr e6) (kasC_pure ⟨sm₄, h₅, done_b T m₆ e6⟩)
                · refine iteF (fun h => e6 (beq_iff_eq.mp h)) ?_
                  exact hj3 _ _ m₆ (show ib + 1 + k₅ < b.size by exact oq27 hk4 e6) (by show o5.size ≤ (o5 ++ b.extract z12 (z12 + k₅)).size; rw [Array.size_append]; exact qp0 qc2 qv0 (qA qv0 qv1) qt ) fun y' hy' => hk6 y' (by exact oq27 hk4 e6) hy'
              · rw [if_neg hk0]
                obtain rfl : k₅ = 0 := by exact Nat.le_antisymm (qm hk0) (qp0 qc1 qk0 qv0 qt )
                exact hj3 _ _ m₅ (show ib + 1 < b.size by exact oq28 e5 hk4) (Nat.le_refl _) fun y' hy' => hk6 y' (by exact oq29 e5 hk4) hy'
            clear_value jp2
            by_cases hk0 : k > 0
            · rw [if_pos hk0]
              have m₅ := many_a O.toOrdP T lv₃.m hx hk2
              by_cases e5 : ia + k + 1 = a.size
              · exact iteT (beq_iff_eq.mpr e5) (kasC_pure ⟨sm₄, h₄, last_a T m₅ e5 hl⟩)
              refine iteF (fun h => e5 (beq_iff_eq.mp h)) ?_
              by_cases e6 : ia + k = a.size
              · exact iteT (beq_iff_eq.mpr e6) (kasC_pure ⟨sm₄, h₄, done_a T m₅ e6⟩)
              refine iteF (fun h => e6 (beq_iff_eq.mp h)) ?_
              exact hj2 _ _ m₅ (show ia + k + 1 < a.size by exact oq30 hk1 e5 e6) (by show out₃.size ≤ (out₃ ++ a.extract ia (ia + k)).size; rw [Array.size_append]; exact qp0 qc2 qv0 (qA qv0 qv1) qt ) fun y hy => hk3 y (by exact oq31 hk1 e6) hy
            · rw [if_neg hk0]
              obtain rfl : k = 0 := by exact Nat.le_antisymm (qm hk0) (qp0 qc1 qk0 qv0 qt )
              exact hj2 _ _ lv₃.m lv₃.ia (Nat.le_refl _) fun y hy => hk3 y (by exact qp1 qc2 (qA (qA qv0 qk0) qk1) qv1 (qA qs0 qk1) qv1 qt hia) hy
          clear_value jp
          refine kasC_mono (Q := LoR lt I a b st (out.size + 1) t) ?_ (fun r st' s' h => by cases r <;> exact h)
          split
          · exact hj _
          · exact hj _
        · rintro c st₃ s₃ ⟨sm₃, hI₃, out₃, ia, ib, mg, ac, bc, rfl, lv₃, hsz₃⟩
          have := lv₃.sz
          have := lv₃.ia
          have := lv₃.jb
          exact qf4 qc6 (qA qs0 (qA qv1 qv2)) qv3 qv3 (qA qv4 qv5) (qA qs4 qk1) qv1 qs5 qv2 qt hsz₃ (qe (by assumption)) (by assumption) this
        · rintro ⟨r, out₃, ia, ib, mg, ac, bc⟩ st₃ s₃ ⟨sm₃, hI₃, h₃⟩
          cases r with
          | some r => exact kasC_pure ⟨r, rfl, sm₃, hI₃, h₃⟩
          | none =>
            refine kasC_bind (kasC_modify ?_)
            exact kasC_pure ⟨⟨sm₃.k, sm₃.a, sm₃.p, sm₃.f⟩, hI₃, _, _, _, _, rfl, h₃.1, Nat.le_trans (show i + 1 + 1 ≤ out.size + 1 by exact qp1 qc2 (qA qs0 qk1) qs1 qs0 qv1 qt hsz) h₃.2⟩
  · rintro c st' s' ⟨sm, hI', out, ia, ib, mg, rfl, lv, hsz⟩
    have := lv.sz
    have := lv.ia
    have := lv.jb
    exact qf4 qc5 (qA (qA qv0 qv1) qk1) qv2 qv2 (qA qv3 qv4) (qA qs3 qk1) qv0 qs4 qv1 qt hsz (qe (by assumption)) (by assumption) this
  · rintro ⟨c, _⟩ st' s' ⟨r, rfl, sm, hI', mr⟩
    exact kasC_pure (q r st' s' sm hI' mr)
end
end Tw
end

section
namespace Tw
open PySem PySem.W PyProof.Rows
section
variable {α : Type} {l : List α} {n k : Nat}
theorem drop_rev (h : n ≤ l.length) : l.reverse.drop (l.length - n) = (l.take n).reverse := by
  rw [List.drop_reverse]; congr 2; exact Nat.le_antisymm (qp2 qc4 qv0 qv1 qv2 (qA qv3 qv1) (qA qv0 qv3) qv2 qt qw (qx (qu))) (qp2 qc4 qv0 qv1 (qA qv2 qv0) qv3 qv3 (qA qv1 qv2) qt (qx (h)) qw)
theorem take_rev (h : n ≤ l.length) (hk : k ≤ n) : (l.reverse.drop (l.length - n)).take (n - k) = ((l.take n).drop k).reverse := by
  rw [drop_rev h, List.take_reverse, List.length_take]
  congr 2; exact oq32 h hk
theorem Mrd.rev {le : α → α → Prop} {a b r : List α} (m : Mrd (fun x y => le y x) a.reverse b.reverse r) : Mrd le a b r.reverse :=
  ⟨(List.reverse_perm r).trans (m.perm.trans ((List.reverse_perm a).append (List.reverse_perm b))), List.pairwise_reverse.mpr m.srt⟩
end
section
variable {lt : Keyed → Keyed → Bool} {P : Keyed → Prop} {a b out : Array Keyed} {na nb : Nat}
theorem rev_get (h1 : 1 ≤ na) (h2 : na ≤ a.size) : a.reverse[a.size - na]? = a[na - 1]? := by
  rw [Array.getElem?_reverse (by exact qp2 qc3 qs0 qv1 qk1 qv2 (qA qv0 qv2) qv1 qt h1 (qx (h2)))]
  congr 1; exact oq33 h2
theorem ex_take0 : (a.extract 0 na).toList = a.toList.take na := by
  have := ex_take (xs := a) (i := 0) (k := na)
  rw [Nat.zero_add] at this
  rw [this, List.drop_zero]
abbrev ltR (lt : Keyed → Keyed → Bool) : Keyed → Keyed → Bool := fun x y => lt y x
theorem Two2.rev (T : Two2 lt P a b) : Two2 (ltR lt) P a.reverse b.reverse := by
  refine ⟨fun x hx => T.pa x ?_, fun x hx => T.pb x ?_, ?_, ?_⟩
  · rw [Array.toList_reverse] at hx; exact List.mem_reverse.mp hx
  · rw [Array.toList_reverse] at hx; exact List.mem_reverse.mp hx
  · rw [Array.toList_reverse]; exact List.pairwise_reverse.mpr T.sa
  · rw [Array.toList_reverse]; exact List.pairwise_reverse.mpr T.sb
/-- merged from the end -/
abbrev MgH (lt : Keyed → Keyed → Bool) (a b out : Array Keyed) (na nb : Nat) : Prop := MgA (ltR lt) a.reverse b.reverse out (a.size - na) (b.size - nb)
theorem hi_end (T : Two2 lt P a b) (m : MgH lt a b out na nb) (ha : na ≤ a.size) (hb : nb ≤ b.size) (h : ∀ x ∈ b.toList.take nb, ∀ y ∈ a.toList.take na, leB lt y x) : Mrd (leB lt) a.toList b.toList (a.extract 0 na ++ b.extract 0 nb ++ out.reverse).toList := by
  have e1 : a.reverse.toList.drop (a.size - na) = (a.toList.take na).reverse := by rw [Array.toList_reverse]; exact drop_rev (by simpa using ha)
  have e2 : b.reverse.toList.drop (b.size - nb) = (b.toList.take nb).reverse := by rw [Array.toList_reverse]; exact drop_rev (by simpa using hb)
  have := Mg.doneB m T.rev.sa T.rev.sb fun x hx y hy => by
    rw [e2] at hx
    rw [e1] at hy
    exact h x (List.mem_reverse.mp hx) y (List.mem_reverse.mp hy)
  rw [e1, e2, Array.toList_reverse, Array.toList_reverse] at this
  have := Mrd.rev (le := leB lt) this
  rw [Array.toList_append, Array.toList_append, ex_take0, ex_take0, Array.toList_reverse]
  simpa using this
theorem hi_first (T : Two2 lt P a b) (m : MgH lt a b out na nb) (ha : na ≤ a.size) (hb : nb ≤ b.size) (h : ∀ x ∈ a.toList.take na, ∀ y ∈ b.toList.take nb, leB lt y x) : Mrd (leB lt) a.toList b.toList (b.extract 0 nb ++ a.extract 0 na ++ out.reverse).toList := by
  have e1 : a.reverse.toList.drop (a.size - na) = (a.toList.take na).reverse := by rw [Array.toList_reverse]; exact drop_rev (by simpa using ha)
  have e2 : b.reverse.toList.drop (b.size - nb) = (b.toList.take nb).reverse := by rw [Array.toList_reverse]; exact drop_rev (by simpa using hb)
  have := Mg.done m T.rev.sa T.rev.sb fun x hx y hy => by
    rw [e1] at hx
    rw [e2] at hy
    exact h x (List.mem_reverse.mp hx) y (List.mem_reverse.mp hy)
  rw [e1, e2, Array.toList_reverse, Array.toList_reverse] at this
  have := Mrd.rev (le := leB lt) this
  rw [Array.toList_append, Array.toList_append, ex_take0, ex_take0, Array.toList_reverse]
  simpa using this
/-- live, from the end -/
structure LvH (lt : Keyed → Keyed → Bool) (a b out : Array Keyed) (na nb : Nat) : Prop where
  m : MgH lt a b out na nb
  a0 : 0 < na
  aa : na ≤ a.size
  b1 : 1 < nb
  bb : nb ≤ b.size
theorem MgH.sz (m : MgH lt a b out na nb) (aa : na ≤ a.size) (bb : nb ≤ b.size) : out.size + na + nb = a.size + b.size := by
  have := Mg.len m (by rw [Array.length_toList, Array.size_reverse]; exact qu) (by rw [Array.length_toList, Array.size_reverse]; exact qu)
  rw [Array.length_toList] at this
  exact Nat.le_antisymm (qp3 qc7 (qA (qA qv0 qv1) qv2) (qA qv3 qv4) qv0 (qA qv5 qv6) (qA qv5 qv1) qv3 (qA qv6 qv2) qv4 qt (qe this) (qx (aa)) (qx (bb))) (qp3 qc7 (qA qv0 qv1) (qA (qA qv2 qv3) qv4) (qA qv5 qv6) qv2 qv0 (qA qv5 qv3) qv1 (qA qv6 qv4) qt (qi this) qw qw)
variable (O : OrdP lt P) (T : Two2 lt P a b)
include O T
theorem hi_push_a {x y : Keyed} (m : MgH lt a b out na nb) (h0 : 1 ≤ na) (aa : na ≤ a.size) (b0 : 1 ≤ nb) (bb : nb ≤ b.size) (ha : a[na - 1]? = some x) (hb : b[nb - 1]? = some y) (h : leB lt y x) : MgH lt a b (out.push x) (na - 1) nb := by
  have := push_a O.flip T.rev m ((rev_get h0 aa).trans ha) ((rev_get b0 bb).trans hb) h
  have e : a.size - na + 1 = a.size - (na - 1) := by exact Nat.le_antisymm (qp3 qc5 qs0 qv1 (qA qv0 qv2) qv3 qs4 qv2 qv3 (qA qv1 qv4) qt (qx (aa)) (qx (h0)) qw) (qp3 qc5 qv0 qs1 qv2 (qA qv1 qv3) qv3 qs4 (qA qv0 qv4) qv2 qt qw qw (qx (qp2 qc3 qv0 qv1 qv2 qv1 qs0 qv2 qt aa (qx (h0)))))
  rw [e] at this
  exact this
theorem hi_push_b {x y : Keyed} (m : MgH lt a b out na nb) (h0 : 1 ≤ na) (aa : na ≤ a.size) (b0 : 1 ≤ nb) (bb : nb ≤ b.size) (hb : b[nb - 1]? = some x) (ha : a[na - 1]? = some y) (h : leB lt y x) : MgH lt a b (out.push x) na (nb - 1) := by
  have := push_b O.flip T.rev m ((rev_get b0 bb).trans hb) ((rev_get h0 aa).trans ha) h
  have e : b.size - nb + 1 = b.size - (nb - 1) := by exact Nat.le_antisymm (qp3 qc5 qs0 qv1 (qA qv0 qv2) qv3 qs4 qv2 qv3 (qA qv1 qv4) qt (qx (bb)) (qx (b0)) qw) (qp3 qc5 qv0 qs1 qv2 (qA qv1 qv3) qv3 qs4 (qA qv0 qv4) qv2 qt qw qw (qx (qp2 qc3 qv0 qv1 qv2 qv1 qs0 qv2 qt bb (qx (b0)))))
  rw [e] at this
  exact this
omit O T in
theorem rev_ex {xs : Array Keyed} {n k : Nat} (h : n ≤ xs.size) (hk : k ≤ n) : (xs.extract k n).reverse.toList = (xs.reverse.extract (xs.size - n) (xs.size - n + (n - k))).toList := by
  rw [ex_take, Array.toList_reverse, Array.toList_reverse]
  have e1 : (xs.extract k n).toList = (xs.toList.take n).drop k := by
    rw [Array.toList_extract, List.extract_eq_take_drop, List.drop_take]
  have e2 := take_rev (l := xs.toList) (n := n) (k := k) (by simpa using h) hk
  rw [Array.length_toList] at e2
  rw [e1, e2]
theorem hi_many_a {y : Keyed} {k : Nat} (m : MgH lt a b out na nb) (aa : na ≤ a.size) (hk : k ≤ na) (b0 : 1 ≤ nb) (bb : nb ≤ b.size) (hb : b[nb - 1]? = some y) (h : ∀ r x, k ≤ r → r < na → a[r]? = some x → leB lt y x) : MgH lt a b (out ++ (a.extract k na).reverse) k nb := by
  have := many_a (k := na - k) O.flip T.rev m ((rev_get b0 bb).trans hb) fun r hr x hx => by
    rw [Array.getElem?_reverse (by exact qp3 qc5 (qA (qA qv0 qv1) qk1) qv2 qs1 qv3 qv3 qv4 (qA qv0 qv4) qv2 qt hr qu (qx (aa)))] at hx
    exact h _ x (by exact oq34 aa hr) (by exact oq35 hr) hx
  have e : a.size - na + (na - k) = a.size - k := by exact Nat.le_antisymm (qp3 qc6 (qA qv0 qv1) qv2 (qA qv0 qv3) qv4 (qA qv1 qv5) qv3 qv4 (qA qv2 qv5) qt (qx (aa)) (qx (hk)) qw) (qp3 qc6 qv0 (qA qv1 qv2) qv3 (qA qv1 qv4) qv4 (qA qv2 qv5) (qA qv0 qv5) qv3 qt qw qw (qx (qp2 qc3 qv0 qv1 qv2 qv1 qv0 qv2 qt aa hk)))
  rw [e] at this
  show Mg _ _ _ (out ++ (a.extract k na).reverse).toList _ _
  rw [Array.toList_append, rev_ex aa hk, e]
  have t : MgA (ltR lt) a.reverse b.reverse (out ++ a.reverse.extract (a.size - na) (a.size - k)) (a.size - k) (b.size - nb) := this
  unfold MgA at t
  rw [Array.toList_append] at t
  exact t
theorem hi_many_b {y : Keyed} {k : Nat} (m : MgH lt a b out na nb) (bb : nb ≤ b.size) (hk : k ≤ nb) (a0 : 1 ≤ na) (aa : na ≤ a.size) (ha : a[na - 1]? = some y) (h : ∀ r x, k ≤ r → r < nb → b[r]? = some x → leB lt y x) : MgH lt a b (out ++ (b.extract k nb).reverse) na k := by
  have := many_b (k := nb - k) O.flip T.rev m ((rev_get a0 aa).trans ha) fun r hr x hx => by
    rw [Array.getElem?_reverse (by exact qp3 qc5 (qA (qA qv0 qv1) qk1) qv2 qs1 qv3 qv3 qv4 (qA qv0 qv4) qv2 qt hr qu (qx (bb)))] at hx
    exact h _ x (by exact oq34 bb hr) (by exact oq35 hr) hx
  have e : b.size - nb + (nb - k) = b.size - k := by exact Nat.le_antisymm (qp3 qc6 (qA qv0 qv1) qv2 (qA qv0 qv3) qv4 (qA qv1 qv5) qv3 qv4 (qA qv2 qv5) qt (qx (bb)) (qx (hk)) qw) (qp3 qc6 qv0 (qA qv1 qv2) qv3 (qA qv1 qv4) qv4 (qA qv2 qv5) (qA qv0 qv5) qv3 qt qw qw (qx (qp2 qc3 qv0 qv1 qv2 qv1 qv0 qv2 qt bb hk)))
  rw [e] at this
  show Mg _ _ _ (out ++ (b.extract k nb).reverse).toList _ _
  rw [Array.toList_append, rev_ex bb hk, e]
  have t : MgA (ltR lt) a.reverse b.reverse (out ++ b.reverse.extract (b.size - nb) (b.size - k)) (a.size - na) (b.size - k) := this
  unfold MgA at t
  rw [Array.toList_append] at t
  exact t
end
end Tw
end

section
namespace Tw
open PySem PySem.W PyProof.Rows
section
variable {prog : Program} {w : World} {A : Around} {E : Value → Shared → Prop} {κ : SortKind} {lt : Keyed → Keyed → Bool} {P : Keyed → Prop} {I : Shared → Prop}
variable (O : Ord9 prog w A κ lt P I) {a b : Array Keyed} (T : Two2 lt P a b)
include O T
theorem gal_a2 {key : Keyed} {n : Nat} {Q : Option Nat → SortSt → Shared → Prop} {st : SortSt} {s : Shared} (hk : kindOf st = κ) (hI : I s) (pk : P key) (h0 : 0 < n) (hn : n ≤ a.size)
    (q : ∀ k s', I s' → k ≤ n → (∀ r x, k ≤ r → r < n → a[r]? = some x → leB lt key x) → (∀ x, 0 < k → a[k - 1]? = some x → leB lt x key) → Q (some k) st s') : kasC (model prog w) A E (gallopT false key a 0 n (n - 1)) Q st s := by
  refine gallopC O hk hI pk (by exact qx (qp1 qc1 qk1 qv0 (qA qk0 qk1) qv0 qt h0)) (fun r hr => T.at_a (by exact qp2 qc3 (qA (qA qk0 qv0) qk1) qv1 qv2 qv1 qs0 qv2 qt hn hr)) (fun r t x y h1 h2 hx hy => srt_arr T.sa (fun x hx => O.irr x (T.pa x hx)) (by exact qp1 qc2 (qA qk0 qv0) (qA qk0 qv1) qv0 qv1 qt h1) hx hy) fun k s' h' c => q k s' h' c.le (fun r x h1 h2 hx => ?_) fun x h0 hx => ?_
  · have := c.hi r h1 h2
    rw [Nat.zero_add] at this
    unfold beyAt bey at this
    rw [hx] at this
    have px := T.pa x (List.mem_of_getElem? (get_toList.mp hx))
    exact O.asy key x pk px (by simpa using this)
  · have := c.lo (k - 1) (by exact qx (qp1 qc1 qk1 qv0 (qA qk0 qk1) qv0 qt h0))
    rw [Nat.zero_add] at this
    unfold beyAt bey at this
    rw [hx] at this
    simpa [leB] using this
theorem gal_b2 {key : Keyed} {n : Nat} {Q : Option Nat → SortSt → Shared → Prop} {st : SortSt} {s : Shared} (hk : kindOf st = κ) (hI : I s) (pk : P key) (h0 : 0 < n) (hn : n ≤ b.size)
    (q : ∀ k s', I s' → k ≤ n → (∀ r x, k ≤ r → r < n → b[r]? = some x → leB lt key x) → (∀ x, 0 < k → b[k - 1]? = some x → leB lt x key) → Q (some k) st s') : kasC (model prog w) A E (gallopT true key b 0 n (n - 1)) Q st s := by
  refine gallopC O hk hI pk (by exact qx (qp1 qc1 qk1 qv0 (qA qk0 qk1) qv0 qt h0)) (fun r hr => T.at_b (by exact qp2 qc3 (qA (qA qk0 qv0) qk1) qv1 qv2 qv1 qs0 qv2 qt hn hr)) (fun r t x y h1 h2 hx hy => srt_arr T.sb (fun x hx => O.irr x (T.pb x hx)) (by exact qp1 qc2 (qA qk0 qv0) (qA qk0 qv1) qv0 qv1 qt h1) hx hy) fun k s' h' c => q k s' h' c.le (fun r x h1 h2 hx => ?_) fun x h0 hx => ?_
  · have := c.hi r h1 h2
    rw [Nat.zero_add] at this
    unfold beyAt bey at this
    rw [hx] at this
    simpa [leB] using this
  · have := c.lo (k - 1) (by exact qx (qp1 qc1 qk1 qv0 (qA qk0 qk1) qv0 qt h0))
    rw [Nat.zero_add] at this
    unfold beyAt bey at this
    rw [hx] at this
    have px := T.pb x (List.mem_of_getElem? (get_toList.mp hx))
    exact O.asy x key px pk (by simpa using this)
noncomputable def HiQ (lt : Keyed → Keyed → Bool) (I : Shared → Prop) (a b : Array Keyed) (st : SortSt) (n : Nat) (r : Option (Array Keyed)) (na nb : Nat) (out : Array Keyed) (st' : SortSt) (s' : Shared) : Prop :=
  Same st st' ∧ I s' ∧ match r with
    | some r => Mrd (leB lt) a.toList b.toList r.toList
    | none => LvH lt a b out na nb ∧ n ≤ out.size
noncomputable def HiR (lt : Keyed → Keyed → Bool) (I : Shared → Prop) (a b : Array Keyed) (st : SortSt) (n t : Nat) (r : ForInStep (Option (Array Keyed) × Nat × Nat × Array Keyed × Nat × Nat × Nat)) (st' : SortSt) (s' : Shared) : Prop := match r with
  | .done c' => HiQ lt I a b st n c'.1 c'.2.1 c'.2.2.1 c'.2.2.2.1 st' s'
  | .yield c' => Same st st' ∧ I s' ∧ ∃ na nb out' mg ac bc, c' = (none, na, nb, out', mg, ac, bc) ∧ LvH lt a b out' na nb ∧ n + (t + 1) ≤ out'.size
theorem mergeHiC {Q : Array Keyed → SortSt → Shared → Prop} {st : SortSt} {s : Shared} (hk : kindOf st = κ) (hI : I s) (ha : 1 ≤ a.size) (hb : 1 ≤ b.size) (h0 : ∀ x y, b[0]? = some x → y ∈ a.toList → leB lt x y)
    (hl : ∀ x ∈ b.toList, ∀ y, a[a.size - 1]? = some y → leB lt x y) (q : ∀ r st' s', Same st st' → I s' → Mrd (leB lt) a.toList b.toList r.toList → Q r st' s') : kasC (model prog w) A E (mergeHiT a b) Q st s := by
  obtain ⟨x0, hx0, px0⟩ := T.at_a (i := a.size - 1) (by exact qx (ha))
  obtain ⟨y0, hy0, py0⟩ := T.at_b (i := b.size - 1) (by exact qx (hb))
  have m0 : MgH lt a b #[x0] (a.size - 1) b.size := hi_push_a O.toOrdP T (out := #[]) (na := a.size) (nb := b.size) ⟨by simp, by simp, by simp⟩ ha (Nat.le_refl _) hb (Nat.le_refl _) hx0 hy0 (hl y0 (List.mem_of_getElem? (get_toList.mp hy0)) x0 hx0)
  have first : ∀ {out : Array Keyed} {na nb : Nat}, MgH lt a b out na nb → na ≤ a.size → nb = 1 → Mrd (leB lt) a.toList b.toList (b.extract 0 nb ++ a.extract 0 na ++ out.reverse).toList := fun {out na nb} m h1 h2 => hi_first T m h1 (by exact qp2 qc2 qv0 qv1 qk1 qv1 qv0 qk1 qt hb (qe h2)) fun x hx y hy => by
    obtain ⟨r, hr⟩ := List.mem_iff_getElem?.mp hy
    have hr1 := (List.getElem?_eq_some_iff.mp hr).1
    rw [List.length_take] at hr1
    obtain rfl : r = 0 := by exact oq36 h2 hr1
    rw [List.getElem?_take_of_lt (by exact oq37 hr1)] at hr
    exact h0 y x (get_toList.mpr hr) (List.mem_of_mem_take hx)
  have endA : ∀ {out : Array Keyed} {na nb : Nat}, MgH lt a b out na nb → na = 0 → nb ≤ b.size → Mrd (leB lt) a.toList b.toList (a.extract 0 na ++ b.extract 0 nb ++ out.reverse).toList := fun {out na nb} m h1 h2 => hi_end T m (by exact qp1 qc2 qv0 qv1 qv0 qk0 qt (qe h1)) h2 fun x hx y hy => by rw [h1] at hy; simp at hy
  have endB : ∀ {out : Array Keyed} {na nb : Nat}, MgH lt a b out na nb → na ≤ a.size → nb = 0 → Mrd (leB lt) a.toList b.toList (a.extract 0 na ++ b.extract 0 nb ++ out.reverse).toList := fun {out na nb} m h1 h2 => hi_end T m h1 (by exact qp1 qc2 qv0 qv1 qv0 qk0 qt (qe h2)) fun x hx y hy => by rw [h2] at hx; simp at hx
  refine kasC_bind (ruleC ?_)
  refine kasC_bind (elemC hx0 ?_)
  extract_lets o1
  by_cases e1 : a.size - 1 = 0
  · exact iteT (beq_iff_eq.mpr e1) (kasC_pure (q _ _ _ .rfl hI (endA m0 e1 (Nat.le_refl _))))
  refine iteF (fun h => e1 (beq_iff_eq.mp h)) ?_
  by_cases e2 : b.size = 1
  · exact iteT (beq_iff_eq.mpr e2) (kasC_pure (q _ _ _ .rfl hI (first m0 (by exact qu) e2)))
  refine iteF (fun h => e2 (beq_iff_eq.mp h)) ?_
  refine kasC_bind (kasC_get ?_)
  refine kasC_bind (kasC_mono (loopC (Q := fun c st' s' => ∃ r, c.1 = some r ∧ Same st st' ∧ I s' ∧ Mrd (leB lt) a.toList b.toList r.toList) (fun i c st' s' => Same st st' ∧ I s' ∧ ∃ na nb out mg, c = (none, na, nb, out, mg) ∧ LvH lt a b out na nb ∧ i + 1 ≤ out.size)
    ⟨.rfl, hI, _, _, _, _, rfl, ⟨m0, by exact oq38 e1, by exact qu, by exact oq39 hb e2, Nat.le_refl _⟩, Nat.le_refl 1⟩ ?_ ?_) ?_)
  · rintro i c st' s' hi' ⟨sm, hI', na, nb, out, mg, rfl, lv, hsz⟩
    refine kasC_bind (kasC_mono (loopC (Q := fun c st₂ s₂ => HiQ lt I a b st (out.size + 1) c.1 c.2.1 c.2.2.1 c.2.2.2.1 st₂ s₂) (fun t c st₂ s₂ => Same st st₂ ∧ I s₂ ∧ ∃ na nb out' ac bc, c = (none, na, nb, out', ac, bc) ∧ LvH lt a b out' na nb ∧ out.size + t ≤ out'.size)
      ⟨sm, hI', _, _, _, _, _, rfl, lv, Nat.le_refl _⟩ ?_ ?_) ?_)
    · rintro t c st₂ s₂ ht ⟨sm₂, hI₂, na, nb, out₂, ac, bc, rfl, lv₂, hsz₂⟩
      obtain ⟨m₂, a0, aa, b1, bb⟩ := lv₂
      obtain ⟨y, hy, py⟩ := T.at_a (i := na - 1) (by exact qp2 qc3 qs0 qv1 qv2 qv1 qs0 qv2 qt aa (qx (qp1 qc1 qk1 qv0 (qA qk0 qk1) qv0 qt a0)))
      obtain ⟨x, hx, px⟩ := T.at_b (i := nb - 1) (by exact oq40 hb bb)
      dsimp only
      refine kasC_bind (elemC hx (kasC_bind (elemC hy (kasC_bind (ltC O (sm₂.k.trans hk) px py hI₂ fun s₃ h₃ => ?_)))))
      cases hb' : lt x y with
      | true =>
        dsimp only
        rw [if_pos rfl]
        refine kasC_bind (elemC hy ?_)
        have m₃ := hi_push_a O.toOrdP T m₂ a0 aa (by exact qp1 qc1 qk1 qv0 (qA qk1 qk1) qv0 qt b1) bb hy hx (O.asy x y px py hb')
        by_cases e3 : na - 1 = 0
        · exact iteT (beq_iff_eq.mpr e3) (kasC_pure ⟨sm₂, h₃, endA m₃ e3 bb⟩)
        refine iteF (fun h => e3 (beq_iff_eq.mp h)) ?_
        have lv₃ : LvH lt a b (out₂.push y) (na - 1) nb := ⟨m₃, by exact oq38 e3, by exact qp2 qc3 qv0 qv1 qv2 qv1 qv0 qv2 qt aa qu, b1, bb⟩
        have hs : out.size + (t + 1) ≤ (out₂.push y).size := by rw [Array.size_push]; exact qp1 qc3 (qA qv0 qs1) qs2 (qA qv0 qv1) qv2 qt hsz₂
        split
        · exact kasC_pure ⟨sm₂, h₃, lv₃, show out.size + 1 ≤ (out₂.push y).size by exact qp1 qc3 qs0 qv1 (qA qv0 qs2) qv1 qt hs⟩
        · exact kasC_pure ⟨sm₂, h₃, _, _, _, _, _, rfl, lv₃, hs⟩
      | false =>
        dsimp only
        rw [if_neg Bool.false_ne_true]
        refine kasC_bind (elemC hx ?_)
        have m₃ := hi_push_b O.toOrdP T m₂ a0 aa (by exact qp1 qc1 qk1 qv0 (qA qk1 qk1) qv0 qt b1) bb hx hy hb'
        by_cases e3 : nb - 1 = 1
        · exact iteT (beq_iff_eq.mpr e3) (kasC_pure ⟨sm₂, h₃, first m₃ aa e3⟩)
        refine iteF (fun h => e3 (beq_iff_eq.mp h)) ?_
        have lv₃ : LvH lt a b (out₂.push x) na (nb - 1) := ⟨m₃, a0, aa, by exact oq41 b1 e3, by exact qp2 qc3 qv0 qv1 qv2 qv1 qv0 qv2 qt bb qu⟩
        have hs : out.size + (t + 1) ≤ (out₂.push x).size := by rw [Array.size_push]; exact qp1 qc3 (qA qv0 qs1) qs2 (qA qv0 qv1) qv2 qt hsz₂
        split
        · exact kasC_pure ⟨sm₂, h₃, lv₃, show out.size + 1 ≤ (out₂.push x).size by exact qp1 qc3 qs0 qv1 (qA qv0 qs2) qv1 qt hs⟩
        · exact kasC_pure ⟨sm₂, h₃, _, _, _, _, _, rfl, lv₃, hs⟩
    · rintro c st₂ s₂ ⟨sm₂, hI₂, na, nb, out₂, ac, bc, rfl, lv₂, hsz₂⟩
      have := lv₂.m.sz lv₂.aa lv₂.bb
      have := lv₂.a0
      have := lv₂.b1
      exact qf3 qc6 (qA qv0 (qA qv1 qv2)) qv3 (qA (qA qv3 qv4) qv5) (qA qv1 qv2) (qA qk0 qk1) qv4 qt hsz₂ (qe (by assumption)) (by assumption)
    · rintro ⟨r, na, nb, out₂, ac, bc⟩ st₂ s₂ ⟨sm₂, hI₂, h₂⟩
      cases r with
      | some r => exact kasC_pure ⟨r, rfl, sm₂, hI₂, h₂⟩
      | none =>
        obtain ⟨lv₂, hsz₂⟩ := h₂
        refine kasC_bind (ruleC ?_)
        refine kasC_bind (kasC_mono (loopC (Q := fun c st₂ s₂ => HiQ lt I a b st (out.size + 1) c.1 c.2.1 c.2.2.1 c.2.2.2.1 st₂ s₂) (fun t c st₂ s₂ => Same st st₂ ∧ I s₂ ∧ ∃ na nb out' mg ac bc, c = (none, na, nb, out', mg, ac, bc) ∧ LvH lt a b out' na nb ∧ out.size + 1 + t ≤ out'.size)
          ⟨sm₂, hI₂, _, _, _, _, _, _, rfl, lv₂, hsz₂⟩ ?_ ?_) ?_)
        · rintro t c st₃ s₃ ht ⟨sm₃, hI₃, na, nb, out₃, mg, ac, bc, rfl, lv₃, hsz₃⟩
          obtain ⟨m₃, a0, aa, b1, bb⟩ := lv₃
          obtain ⟨x, hx, px⟩ := T.at_b (i := nb - 1) (by exact qp2 qc3 qs0 qv1 qv2 qv1 qs0 qv2 qt bb (qx (qp1 qc1 qk1 qv0 (qA qk1 qk1) qv0 qt b1)))
          extract_lets z1 z2 z3 z4 z5 z6 z7 z8 z9 z10 z11 z12 jp
          have hj : ∀ z, kasC (model prog w) A E (jp () z) (HiR lt I a b st (out.size + 1) t) st₃ s₃ := by
            intro z
            refine kasC_bind (kasC_modify ?_)
            refine kasC_bind (elemC hx ?_)
            refine kasC_bind (gal_a2 O T (n := na) (sm₃.k.trans hk) hI₃ px a0 aa fun k s₄ h₄ hk1 hk2 hk3 => ?_)
            dsimp -zeta only
            show kasC _ _ _ _ _ (SortSt.mk' (kindOf st₃) (arrOf st₃) (pendingOf st₃) z (failedOf st₃)) _
            generalize hst : SortSt.mk' (kindOf st₃) (arrOf st₃) (pendingOf st₃) z (failedOf st₃) = st₄
            have sm₄ : Same st st₄ := by rw [← hst]; exact ⟨sm₃.k, sm₃.a, sm₃.p, sm₃.f⟩
            clear hst
            extract_lets kk k2 jp2 o2
            have hj2 : ∀ (na' : Nat) (out' : Array Keyed), MgH lt a b out' na' nb → 0 < na' → na' ≤ a.size → out₃.size ≤ out'.size → (∀ y, a[na' - 1]? = some y → leB lt y x) → kasC (model prog w) A E (jp2 () na' out') (HiR lt I a b st (out.size + 1) t) st₄ s₄ := by
              intro na' out' m' hna' hna2 hs' hle
              obtain ⟨y, hy, py⟩ := T.at_a (i := na' - 1) (by exact qp2 qc3 qs0 qv1 qv2 qv1 qs0 qv2 qt hna2 (qx (qp1 qc1 qk1 qv0 (qA qk0 qk1) qv0 qt hna')))
              have m₅ := hi_push_b O.toOrdP T m' hna' hna2 (by exact qp1 qc1 qk1 qv0 (qA qk1 qk1) qv0 qt b1) bb hx hy (hle y hy)
              refine kasC_bind (elemC hx ?_)
              extract_lets o5
              by_cases e5 : nb - 1 = 1
              · exact iteT (beq_iff_eq.mpr e5) (kasC_pure ⟨sm₄, h₄, first m₅ hna2 e5⟩)
              refine iteF (fun h => e5 (beq_iff_eq.mp h)) ?_
              refine kasC_bind (elemC hy ?_)
              refine kasC_bind (gal_b2 O T (n := nb - 1) (sm₄.k.trans hk) h₄ py (by exact qp2 qc2 (qA qk0 qk1) qv0 (qA qk1 qk1) qv1 qv1 qs0 qt b1 qw) (by exact qp2 qc3 qv0 qv1 qv2 qv1 qv0 qv2 qt bb qu) fun k₅ s₅ h₅ hk4 hk5 hk6 => ?_)
              dsimp -zeta only
              extract_lets bb3 b4 jp3 o6 n6
              have hj3 : ∀ (nb' : Nat) (out'' : Array Keyed), MgH lt a b out'' na' nb' → 1 < nb' → nb' ≤ b.size → o5.size ≤ out''.size → (∀ y', b[nb' - 1]? = some y' → leB lt y' y) → kasC (model prog w) A E (jp3 () nb' out'') (HiR lt I a b st (out.size + 1) t) st₄ s₅ := by
                intro nb' out'' m'' hnb hnb2 hs'' hle'
                obtain ⟨y', hy', py'⟩ := T.at_b (i := nb' - 1) (by exact qp2 qc3 qs0 qv1 qv2 qv1 qs0 qv2 qt hnb2 (qx (qp1 qc1 qk1 qv0 (qA qk1 qk1) qv0 qt hnb)))
                have m₇ := hi_push_a O.toOrdP T m'' hna' hna2 (by exact qp1 qc1 qk1 qv0 (qA qk1 qk1) qv0 qt hnb) hnb2 hy hy' (hle' y' hy')
                refine kasC_bind (elemC hy ?_)
                extract_lets o7
                by_cases e7 : na' - 1 = 0
                · exact iteT (beq_iff_eq.mpr e7) (kasC_pure ⟨sm₄, h₅, endA m₇ e7 hnb2⟩)
                refine iteF (fun h => e7 (beq_iff_eq.mp h)) ?_
                have lv₇ : LvH lt a b (out''.push y) (na' - 1) nb' := ⟨m₇, by exact oq38 e7, by exact qp2 qc3 qv0 qv1 qv2 qv1 qv0 qv2 qt hna2 qu, hnb, hnb2⟩
                have hs₇ : out.size + 1 + (t + 1) ≤ (out''.push y).size := by
                  rw [Array.size_push]
                  have : o5.size = out'.size + 1 := Array.size_push _
                  exact qp4 qc6 (qA qs0 qs1) qs2 (qA qs0 qv1) qv3 qv3 qv4 qv5 qv2 qs4 qv5 qt hsz₃ hs' hs'' (qi this)
                split
                · exact kasC_pure ⟨sm₄, h₅, lv₇, show out.size + 1 ≤ (out''.push y).size by exact qp1 qc3 qs0 qv1 (qA qs0 qs2) qv1 qt hs₇⟩
                · exact kasC_pure ⟨sm₄, h₅, _, _, _, _, _, _, rfl, lv₇, hs₇⟩
              clear_value jp3
              by_cases hk0 : nb - 1 - k₅ > 0
              · refine iteT hk0 ?_
                have m₆ := hi_many_b O.toOrdP T m₅ (by exact qp2 qc3 qv0 qv1 qv2 qv1 qv0 qv2 qt bb qu) hk4 hna' hna2 hy hk5
                by_cases e6 : k₅ = 1
                · exact iteT (beq_iff_eq.mpr e6) (kasC_pure ⟨sm₄, h₅, first m₆ hna2 e6⟩)
                refine iteF (fun h => e6 (beq_iff_eq.mp h)) ?_
                by_cases e7 : k₅ = 0
                · exact iteT (beq_iff_eq.mpr e7) (kasC_pure ⟨sm₄, h₅, endB m₆ hna2 e7⟩)
                refine iteF (fun h => e7 (beq_iff_eq.mp h)) ?_
                exact hj3 _ _ m₆ (by exact oq42 e6 e7) (by exact oq43 bb hk0) (by show o5.size ≤ (o5 ++ (b.extract k₅ z12).reverse).size; rw [Array.size_append]; exact qp0 qc2 qv0 (qA qv0 qv1) qt ) fun y' hy' => hk6 y' (by exact oq44 e7) hy'
              · refine iteF hk0 ?_
                obtain rfl : k₅ = nb - 1 := by exact Nat.le_antisymm (hk4) (qp2 qc3 qv0 qv1 qv2 qk0 qv0 (qA qv2 qv1) qt (qm hk0) qw)
                exact hj3 _ _ m₅ (show 1 < nb - 1 by exact oq41 b1 e5) (show nb - 1 ≤ b.size by exact qp2 qc3 qv0 qv1 qv2 qv1 qv0 qv2 qt bb qu) (Nat.le_refl _) fun y' hy' => hk6 y' (by exact qp2 qc2 (qA qk0 qk1) qv0 (qA qk1 qk1) qv1 qv1 qs0 qt b1 qw) hy'
            clear_value jp2
            by_cases hk0 : na - k > 0
            · refine iteT hk0 ?_
              have m₅ := hi_many_a O.toOrdP T m₃ aa hk1 (by exact qp1 qc1 qk1 qv0 (qA qk1 qk1) qv0 qt b1) bb hx hk2
              by_cases e5 : k = 0
              · exact iteT (beq_iff_eq.mpr e5) (kasC_pure ⟨sm₄, h₄, endA m₅ e5 bb⟩)
              refine iteF (fun h => e5 (beq_iff_eq.mp h)) ?_
              exact hj2 _ _ m₅ (by exact oq44 e5) (by exact oq45 aa hk0) (by show out₃.size ≤ (out₃ ++ (a.extract k na).reverse).size; rw [Array.size_append]; exact qp0 qc2 qv0 (qA qv0 qv1) qt ) fun y hy => hk3 y (by exact oq44 e5) hy
            · refine iteF hk0 ?_
              obtain rfl : k = na := by exact Nat.le_antisymm (hk1) (qp2 qc3 qv0 qv1 qv2 qk0 qv0 (qA qv2 qv1) qt (qm hk0) qw)
              exact hj2 _ _ m₃ a0 aa (Nat.le_refl _) fun y hy => hk3 y a0 hy
          clear_value jp
          refine kasC_mono (Q := HiR lt I a b st (out.size + 1) t) ?_ (fun r st' s' h => by cases r <;> exact h)
          split
          · exact hj _
          · exact hj _
        · rintro c st₃ s₃ ⟨sm₃, hI₃, na, nb, out₃, mg, ac, bc, rfl, lv₃, hsz₃⟩
          have := lv₃.m.sz lv₃.aa lv₃.bb
          have := lv₃.a0
          have := lv₃.b1
          exact qf2 qc6 (qA qs0 (qA qv1 qv2)) qv3 (qA (qA qv3 qv4) qv5) (qA qv1 qv2) qt hsz₃ (qe (by assumption))
        · rintro ⟨r, na, nb, out₃, mg, ac, bc⟩ st₃ s₃ ⟨sm₃, hI₃, h₃⟩
          cases r with
          | some r => exact kasC_pure ⟨r, rfl, sm₃, hI₃, h₃⟩
          | none =>
            refine kasC_bind (kasC_modify ?_)
            exact kasC_pure ⟨⟨sm₃.k, sm₃.a, sm₃.p, sm₃.f⟩, hI₃, _, _, _, _, rfl, h₃.1, Nat.le_trans (show i + 1 + 1 ≤ out.size + 1 by exact qp1 qc2 (qA qs0 qk1) qs1 qs0 qv1 qt hsz) h₃.2⟩
  · rintro c st' s' ⟨sm, hI', na, nb, out, mg, rfl, lv, hsz⟩
    have := lv.m.sz lv.aa lv.bb
    have := lv.a0
    have := lv.b1
    exact qf2 qc5 (qA (qA qv0 qv1) qk1) qv2 (qA (qA qv2 qv3) qv4) (qA qv0 qv1) qt hsz (qe (by assumption))
  · rintro ⟨c, _⟩ st' s' ⟨r, rfl, sm, hI', mr⟩
    exact kasC_pure (q r st' s' sm hI' mr)
end
end Tw
end

section
namespace Tw
open PySem PySem.W PyProof.Rows
section
variable {α : Type}
theorem set_many (o : Nat) : ∀ (m : List α) (n : Nat) (X : Array α), o + n + m.length ≤ X.size → ((m.zipIdx n).foldl (fun a x => match x with | (p, j) => a.setIfInBounds (o + j) p) X).toList = X.toList.take (o + n) ++ m ++ X.toList.drop (o + n + m.length)
  | [], n, X, h => by simp
  | p :: m, n, X, h => by
    rw [List.length_cons] at h
    rw [List.zipIdx_cons, List.foldl_cons]
    have := set_many o m (n + 1) (X.setIfInBounds (o + n) p) (by rw [Array.size_setIfInBounds]; exact qp1 qc4 (qA (qA qv0 qs1) qv2) qv3 (qA (qA qv0 qv1) qs2) qv3 qt h)
    rw [show o + (n + 1) = o + n + 1 by exact Nat.le_antisymm (qp0 qc2 (qA qv0 qs1) (qA (qA qv0 qv1) qk1) qt ) (qp0 qc2 (qA (qA qv0 qv1) qk1) (qA qv0 qs1) qt )] at this
    refine this.trans ?_
    rw [Array.toList_setIfInBounds, List.length_cons]
    have hl : o + n < X.toList.length := by rw [Array.length_toList]; exact qp1 qc4 (qA (qA qv0 qv1) qk1) qv2 (qA (qA qv0 qv1) qs3) qv2 qt h
    rw [List.take_add_one, List.getElem?_set_self hl, List.take_set_of_le (Nat.le_refl _), List.drop_set_of_lt (by exact qp0 qc3 (qA (qA qv0 qv1) qk1) (qA (qA (qA qv0 qv1) qk1) qv2) qt )]
    rw [show o + n + 1 + m.length = o + n + (m.length + 1) by exact Nat.le_antisymm (qp0 qc3 (qA (qA (qA qv0 qv1) qk1) qv2) (qA (qA qv0 qv1) qs2) qt ) (qp0 qc3 (qA (qA qv0 qv1) qs2) (qA (qA (qA qv0 qv1) qk1) qv2) qt )]
    simp only [Option.toList_some, List.append_assoc, List.cons_append, List.nil_append]
end
section
variable {lt : Keyed → Keyed → Bool} {P : Keyed → Prop} (O : OrdP lt P) {A B : List Keyed} {k l : Nat}
include O
/-- the ends stay, the middles are merged -/
theorem glue (pA : ∀ x ∈ A ++ B, P x) (sA : A.Pairwise (leB lt)) (sB : B.Pairwise (leB lt)) (H1 : ∀ x ∈ A.take k, ∀ y ∈ B, leB lt x y) (H2 : ∀ x ∈ A, ∀ y ∈ B.drop l, leB lt x y) {r : List Keyed} (m : Mrd (leB lt) (A.drop k) (B.take l) r) :
    (A.take k ++ (r ++ B.drop l)).Perm (A ++ B) ∧ (A.take k ++ (r ++ B.drop l)).Pairwise (leB lt) := by
  have hm : ∀ x, x ∈ r → x ∈ A.drop k ∨ x ∈ B.take l := fun x hx => List.mem_append.mp (m.perm.mem_iff.mp hx)
  refine ⟨?_, List.pairwise_append.mpr ⟨sA.sublist (List.take_sublist _ _), List.pairwise_append.mpr ⟨m.srt, sB.sublist (List.drop_sublist _ _), fun x hx y hy => ?_⟩, fun x hx y hy => ?_⟩⟩
  · have h1 : (A.take k ++ (r ++ B.drop l)).Perm (A.take k ++ ((A.drop k ++ B.take l) ++ B.drop l)) := List.Perm.append_left _ (List.Perm.append_right _ m.perm)
    refine h1.trans (List.Perm.of_eq ?_)
    rw [List.append_assoc, List.take_append_drop, ← List.append_assoc, List.take_append_drop]
  · rcases hm x hx with h | h
    · exact H2 x (List.mem_of_mem_drop h) y hy
    · have := sB
      rw [← List.take_append_drop l B] at this
      exact (List.pairwise_append.mp this).2.2 x h y hy
  · rcases List.mem_append.mp hy with hy | hy
    · rcases hm y hy with h | h
      · have := sA
        rw [← List.take_append_drop k A] at this
        exact (List.pairwise_append.mp this).2.2 x hx y h
      · exact H1 x hx y (List.mem_of_mem_take h)
    · exact H1 x hx y (List.mem_of_mem_drop hy)
end

section
variable {prog : Program} {w : World} {Ar : Around} {E : Value → Shared → Prop} {κ : SortKind} {lt : Keyed → Keyed → Bool} {P : Keyed → Prop} {I : Shared → Prop} (O : Ord9 prog w Ar κ lt P I)
include O
theorem mergeAtC {i sa na pw sb nb pw2 : Nat} {Q : Bool → SortSt → Shared → Prop} {st : SortSt} {s : Shared} {pre A B post : List Keyed} (h1 : (pendingOf st)[i]? = some (sa, na, pw)) (h2 : (pendingOf st)[i + 1]? = some (sb, nb, pw2)) (hk : kindOf st = κ) (hfl : failedOf st = none) (hI : I s)
    (hX : (arrOf st).toList = pre ++ (A ++ (B ++ post))) (e1 : pre.length = sa) (e2 : A.length = na) (e3 : B.length = nb) (e4 : sb = sa + na) (n1 : 1 ≤ na) (n2 : 1 ≤ nb) (pA : ∀ x ∈ A ++ B, P x) (sA : A.Pairwise (leB lt)) (sB : B.Pairwise (leB lt))
    (q : ∀ (M : List Keyed) (st' : SortSt) (s' : Shared), I s' → M.Perm (A ++ B) → M.Pairwise (leB lt) → kindOf st' = κ → failedOf st' = none → (arrOf st').toList = pre ++ (M ++ post) → pendingOf st' = ((pendingOf st).setIfInBounds i (sa, na + nb, pw)).eraseIdxIfInBounds (i + 1) → Q true st' s') :
    kasC (model prog w) Ar E (mergeAt' i) Q st s := by
  have gA : ∀ r, r < na → (arrOf st)[sa + r]? = A[r]? := fun r hr => by
    rw [← Array.getElem?_toList, hX, List.getElem?_append_right (by exact qp1 qc3 qv0 (qA qv1 qv2) qv0 qv1 qt (qe e1)), e1, Nat.add_sub_cancel_left, List.getElem?_append_left (by exact qp2 qc3 qs0 qv1 qv2 qv1 qs0 qv2 qt (qi e2) hr)]
  have gB : ∀ r, r < nb → (arrOf st)[sb + r]? = B[r]? := fun r hr => by
    rw [← Array.getElem?_toList, hX, List.getElem?_append_right (by exact qp2 qc5 qv0 (qA qv1 qv2) qv0 qv3 (qA qv3 qv4) qv1 qt (qe e1) (qi e4)), List.getElem?_append_right (by exact qp4 qc7 qv0 qv1 qv2 qv3 qv0 qv4 (qA qv3 qv4) qv5 (qA qv5 qv6) (qA qv1 qv2) qt (qe e1) (qe e2) (qi e4) qw), List.getElem?_append_left (by exact qp7 qc10 qs0 qv1 qv2 qv3 qv4 qv5 qv6 qv1 qv7 (qA qv2 qv4) qs8 qv6 (qA qv9 qv3) (qA qv7 qv8) (qA qv0 qv5) qv9 qt (qi e1) (qi e2) (qi e3) (qe e4) hr (qx (qp2 qc5 qv0 (qA qv1 qv2) qv0 qv3 (qA qv3 qv4) qv1 qt (qe e1) (qi e4))) (qx (qp4 qc7 qv0 qv1 qv2 qv3 qv0 qv4 (qA qv3 qv4) qv5 (qA qv5 qv6) (qA qv1 qv2) qt (qe e1) (qe e2) (qi e4) qw)))]
    congr 1; exact Nat.le_antisymm (qp5 qc8 qv0 qv1 qv2 qv3 qv4 qv5 qv6 (qA qv2 qv4) (qA qv7 qv3) (qA qv6 qv1) (qA qv0 qv5) qv7 qt (qi e1) (qi e2) (qe e4) (qx (qp2 qc5 qv0 (qA qv1 qv2) qv0 qv3 (qA qv3 qv4) qv1 qt (qe e1) (qi e4))) (qx (qp4 qc7 qv0 qv1 qv2 qv3 qv0 qv4 (qA qv3 qv4) qv5 (qA qv5 qv6) (qA qv1 qv2) qt (qe e1) (qe e2) (qi e4) qw))) (qp5 qc8 qv0 qv1 qv2 qv3 qv4 qv5 (qA qv3 qv5) qv6 (qA qv6 qv0) (qA qv7 qv2) qv7 (qA qv1 qv4) qt (qe e1) (qe e2) (qi e4) qw qw)
  have atA : ∀ r, r < na → ∃ x, A[r]? = some x ∧ P x := fun r hr => ⟨A[r], List.getElem?_eq_getElem (by exact qp2 qc3 qs0 qv1 qv2 qv1 qs0 qv2 qt (qi e2) hr), pA _ (List.mem_append_left _ (List.getElem_mem _))⟩
  have atB : ∀ r, r < nb → ∃ x, B[r]? = some x ∧ P x := fun r hr => ⟨B[r], List.getElem?_eq_getElem (by exact qp2 qc3 qs0 qv1 qv2 qv1 qs0 qv2 qt (qi e3) hr), pA _ (List.mem_append_right _ (List.getElem_mem _))⟩
  have srt : ∀ {L : List Keyed}, L.Pairwise (leB lt) → (∀ x ∈ L, P x) → ∀ (i j : Nat) x y, i ≤ j → L[i]? = some x → L[j]? = some y → lt y x = false := fun {L} hL hP i j x y hij hx hy => by
    rcases Nat.lt_or_ge i j with h | h
    · obtain ⟨a1, b1⟩ := List.getElem?_eq_some_iff.mp hx
      obtain ⟨a2, b2⟩ := List.getElem?_eq_some_iff.mp hy
      have := List.pairwise_iff_getElem.mp hL i j a1 a2 h
      rw [b1, b2] at this; exact this
    · obtain rfl : i = j := Nat.le_antisymm hij h
      rw [hx] at hy; cases hy
      exact O.irr x (hP x (List.mem_of_getElem? hx))
  have pA' : ∀ x ∈ A, P x := fun x hx => pA x (List.mem_append_left _ hx)
  have pB' : ∀ x ∈ B, P x := fun x hx => pA x (List.mem_append_right _ hx)
  obtain ⟨b0, hb0, pb0⟩ := atB 0 (by exact qp1 qc1 (qA qk0 qk1) qv0 qk1 qv0 qt n2)
  obtain ⟨al, hal, pal⟩ := atA (na - 1) (by exact qx (n1))
  have leB0 : ∀ y ∈ B, leB lt b0 y := fun y hy => by
    obtain ⟨r, hr⟩ := List.mem_iff_getElem?.mp hy
    exact srt sB pB' 0 r b0 y (Nat.zero_le _) hb0 hr
  have leAl : ∀ x ∈ A, leB lt x al := fun x hx => by
    obtain ⟨r, hr⟩ := List.mem_iff_getElem?.mp hx
    have := (List.getElem?_eq_some_iff.mp hr).1
    exact srt sA pA' r (na - 1) x al (by exact qp3 qc4 qv0 qv1 qv2 qv3 qs0 qv2 qv3 qs1 qt (qe e2) this qw) hr hal
  have hb0' : (arrOf st)[sb]? = some b0 := by have := gB 0 (by exact qp1 qc1 (qA qk0 qk1) qv0 qk1 qv0 qt n2); rw [Nat.add_zero] at this; exact this.trans hb0
  refine kasC_bind (kasC_get ?_)
  have e0 : ((pendingOf st)[i]?, (pendingOf st)[i + 1]?) = (some (sa, na, pw), some (sb, nb, pw2)) := by rw [h1, h2]
  show kasC _ _ _ (match ((pendingOf st)[i]?, (pendingOf st)[i + 1]?) with | (some (sa, na, power), some (sb, nb, snd)) => _ | x => _) _ _ _
  rw [e0]
  dsimp -zeta only
  refine kasC_bind (wpAny_pure ?_)
  obtain ⟨st₁, hst⟩ : ∃ st₁ : SortSt, st₁ = SortSt.mk' (kindOf st) (arrOf st) (((pendingOf st).setIfInBounds i (sa, na + nb, pw)).eraseIdxIfInBounds (i + 1)) (gallopOf st) (failedOf st) := ⟨_, rfl⟩
  show kasC _ _ _ _ _ (SortSt.mk' (kindOf st) (arrOf st) (((pendingOf st).setIfInBounds i (sa, na + nb, pw)).eraseIdxIfInBounds (i + 1)) (gallopOf st) (failedOf st)) _
  rw [← hst]
  have k1 : kindOf st₁ = κ := by rw [hst]; exact hk
  have k2 : failedOf st₁ = none := by rw [hst]; exact hfl
  have k3 : arrOf st₁ = arrOf st := by rw [hst]
  have k4 : pendingOf st₁ = ((pendingOf st).setIfInBounds i (sa, na + nb, pw)).eraseIdxIfInBounds (i + 1) := by rw [hst]
  clear hst
  have keepAll : ∀ s', I s' → (∀ x ∈ A, ∀ y ∈ B, leB lt x y) → Q true st₁ s' := fun s' h' hAB => q (A ++ B) st₁ s' h' (.refl _) (List.pairwise_append.mpr ⟨sA, sB, hAB⟩) k1 k2 (by rw [k3, hX, List.append_assoc]) k4
  refine kasC_bind (elemC hb0' ?_)
  refine kasC_bind (gallopC O k1 hI pb0 (by exact qp1 qc1 (qA qk0 qk1) qv0 qk1 qv0 qt n1) (fun r hr => by obtain ⟨x, h, p⟩ := atA r hr; exact ⟨x, (gA r hr).trans h, p⟩) (fun r t x y h1 h2 hx hy => srt sA pA' r t x y h1 ((gA r (by exact qp2 qc3 qs0 qv1 qv0 qv2 qs2 qv1 qt h1 h2)).symm.trans hx) ((gA t h2).symm.trans hy)) fun k s₁ h₁ c => ?_)
  have c1 : ∀ x ∈ A.take k, leB lt x b0 := fun x hx => by
    obtain ⟨r, hr⟩ := List.mem_iff_getElem?.mp hx
    have hrk : r < k := by
      have := (List.getElem?_eq_some_iff.mp hr).1
      rw [List.length_take] at this; exact oq23 this
    rw [List.getElem?_take_of_lt hrk] at hr
    have := c.lo r hrk
    unfold beyAt bey at this
    rw [gA r (by have := c.le; exact qp2 qc3 qs0 qv1 qs0 qv2 qv2 qv1 qt hrk this), hr] at this
    simpa [leB] using this
  have c2 : ∀ x ∈ A.drop k, leB lt b0 x := fun x hx => by
    obtain ⟨r, hr⟩ := List.mem_iff_getElem?.mp hx
    rw [List.getElem?_drop] at hr
    have hl := (List.getElem?_eq_some_iff.mp hr).1
    have := c.hi (k + r) (by exact qp0 qc2 qv0 (qA qv0 qv1) qt ) (by exact qp2 qc4 (qA (qA qv0 qv1) qk1) qv2 qv3 qv2 (qA (qA qv0 qv1) qk1) qv3 qt (qe e2) hl)
    unfold beyAt bey at this
    rw [gA (k + r) (by exact qp2 qc4 (qA (qA qv0 qv1) qk1) qv2 qv3 qv2 (qA (qA qv0 qv1) qk1) qv3 qt (qe e2) hl), hr] at this
    exact O.asy b0 x pb0 (pA' x (List.mem_of_getElem? hr)) (by simpa using this)
  have H1 : ∀ x ∈ A.take k, ∀ y ∈ B, leB lt x y := fun x hx y hy => O.tr y b0 x (pB' y hy) pb0 (pA' x (List.mem_of_mem_take hx)) (leB0 y hy) (c1 x hx)
  have hkn := c.le
  clear c
  dsimp -zeta only
  by_cases z0 : na - k = 0
  · refine iteT (beq_iff_eq.mpr z0) (kasC_pure (keepAll s₁ h₁ fun x hx => H1 x ?_))
    rw [List.take_of_length_le (by exact qp3 qc4 qv0 qv1 qv0 qv2 qv3 qk0 qv2 (qA qv3 qv1) qt (qe e2) (qe z0) qw)]; exact hx
  refine iteF (fun h => z0 (beq_iff_eq.mp h)) ?_
  have hal' : (arrOf st)[sa + k + (na - k) - 1]? = some al := by
    have := gA (na - 1) (by exact oq46 z0)
    rw [← hal, ← this]
    congr 1; exact oq47 z0
  refine kasC_bind (elemC hal' ?_)
  refine kasC_bind (gallopC O k1 h₁ pal (by exact qx (n2)) (fun r hr => by obtain ⟨x, h, p⟩ := atB r hr; exact ⟨x, (gB r hr).trans h, p⟩) (fun r t x y h1 h2 hx hy => srt sB pB' r t x y h1 ((gB r (by exact qp2 qc3 qs0 qv1 qv0 qv2 qs2 qv1 qt h1 h2)).symm.trans hx) ((gB t h2).symm.trans hy)) fun l s₂ h₂ c => ?_)
  have d1 : ∀ x ∈ B.take l, leB lt x al := fun x hx => by
    obtain ⟨r, hr⟩ := List.mem_iff_getElem?.mp hx
    have hrk : r < l := by
      have := (List.getElem?_eq_some_iff.mp hr).1
      rw [List.length_take] at this; exact oq23 this
    rw [List.getElem?_take_of_lt hrk] at hr
    have := c.lo r hrk
    unfold beyAt bey at this
    rw [gB r (by have := c.le; exact qp2 qc3 qs0 qv1 qs0 qv2 qv2 qv1 qt hrk this), hr] at this
    exact O.asy x al (pB' x (List.mem_of_getElem? hr)) pal (by simpa using this)
  have d2 : ∀ x ∈ B.drop l, leB lt al x := fun x hx => by
    obtain ⟨r, hr⟩ := List.mem_iff_getElem?.mp hx
    rw [List.getElem?_drop] at hr
    have hl := (List.getElem?_eq_some_iff.mp hr).1
    have := c.hi (l + r) (by exact qp0 qc2 qv0 (qA qv0 qv1) qt ) (by exact qp2 qc4 (qA (qA qv0 qv1) qk1) qv2 qv3 qv2 (qA (qA qv0 qv1) qk1) qv3 qt (qe e3) hl)
    unfold beyAt bey at this
    rw [gB (l + r) (by exact qp2 qc4 (qA (qA qv0 qv1) qk1) qv2 qv3 qv2 (qA (qA qv0 qv1) qk1) qv3 qt (qe e3) hl), hr] at this
    simpa [leB] using this
  have H2 : ∀ x ∈ A, ∀ y ∈ B.drop l, leB lt x y := fun x hx y hy => O.tr y al x (pB' y (List.mem_of_mem_drop hy)) pal (pA' x hx) (d2 y hy) (leAl x hx)
  have hln := c.le
  clear c
  dsimp -zeta only
  by_cases y0 : l = 0
  · refine iteT (beq_iff_eq.mpr y0) (kasC_pure (keepAll s₂ h₂ fun x hx y hy => H2 x hx y ?_))
    rw [y0, List.drop_zero]; exact hy
  refine iteF (fun h => y0 (beq_iff_eq.mp h)) ?_
  extract_lets xx yy jp
  have dp : ∀ j, (arrOf st).toList.drop (sa + j) = (A ++ (B ++ post)).drop j := fun j => by rw [hX, ← e1, List.drop_length_add_append]
  have ex : xx.toList = A.drop k := by
    show ((arrOf st).extract (sa + k) sb).toList = _
    rw [show sb = sa + k + (na - k) by exact oq48 e4 z0, ex_take, dp, List.drop_append_of_le_length (by exact oq49 e2 z0), List.take_append_of_le_length (by rw [List.length_drop]; exact oq50 e2), List.take_of_length_le (by rw [List.length_drop]; exact oq51 e2)]
  have ey : yy.toList = B.take l := by
    show ((arrOf st).extract sb (sb + l)).toList = _
    rw [ex_take, e4, dp, List.drop_append_of_le_length (by exact qi e2), List.drop_of_length_le (by exact qe e2), List.nil_append, List.take_append_of_le_length (by exact qp2 qc3 qv0 qv1 qv2 qv1 qv0 qv2 qt (qi e3) hln)]
  have T : Two2 lt P xx yy := by
    refine ⟨fun x hx => ?_, fun x hx => ?_, ?_, ?_⟩
    · rw [ex] at hx; exact pA' x (List.mem_of_mem_drop hx)
    · rw [ey] at hx; exact pB' x (List.mem_of_mem_take hx)
    · rw [ex]; exact sA.sublist (List.drop_sublist _ _)
    · rw [ey]; exact sB.sublist (List.take_sublist _ _)
  have sx : xx.size = na - k := by rw [← Array.length_toList, ex, List.length_drop, e2]
  have sy : yy.size = l := by rw [← Array.length_toList, ey, List.length_take]; exact oq52 e3 hln
  have hb : ∀ x, yy[0]? = some x → x = b0 := fun x hx => by
    have := get_toList.mp hx
    rw [ey, List.getElem?_take_of_lt (by exact oq44 y0), hb0] at this
    exact (Option.some.inj this).symm
  have h0 : ∀ x y, yy[0]? = some x → y ∈ xx.toList → leB lt x y := fun x y hx hy => by
    rw [hb x hx]; rw [ex] at hy; exact c2 y hy
  have hl : ∀ x ∈ yy.toList, ∀ y, xx[xx.size - 1]? = some y → leB lt x y := fun x hx y hy => by
    rw [ey] at hx
    have := get_toList.mp hy
    rw [ex, List.getElem?_drop, sx, show k + (na - k - 1) = na - 1 by exact oq53 z0, hal] at this
    cases this
    exact d1 x hx
  have hj : ∀ (r : Array Keyed) (st₂ : SortSt) (s₃ : Shared), Same st₁ st₂ → I s₃ → Mrd (leB lt) xx.toList yy.toList r.toList → kasC (model prog w) Ar E (jp r) Q st₂ s₃ := by
    intro r st₂ s₃ sm h₃ m
    rw [ex, ey] at m
    obtain ⟨g1, g2⟩ := glue O.toOrdP pA sA sB H1 H2 m
    refine kasC_bind (kasC_modify ?_)
    refine kasC_bind (kasC_get ?_)
    refine kasC_pure ?_
    have hlen : r.toList.length = (na - k) + l := by
      have := m.perm.length_eq
      rw [List.length_append, List.length_drop, List.length_take] at this; exact oq54 e2 e3 hln this
    have hsz : (arrOf st).size = pre.length + (A.length + (B.length + post.length)) := by rw [← Array.length_toList, hX]; simp
    have key := q (A.take k ++ (r.toList ++ B.drop l)) (SortSt.mk' (kindOf st₂) (r.toList.zipIdx.foldl (fun a x => match x with | (p, j) => a.setIfInBounds (sa + k + j) p) (arrOf st₂)) (pendingOf st₂) (gallopOf st₂) (failedOf st₂)) s₃ h₃ g1 g2 (sm.k.trans k1) (sm.f.trans k2) ?_ (sm.p.trans k4)
    · have ef : (failedOf st₂).isNone = true := by rw [sm.f.trans k2]; rfl
      show Q (failedOf st₂).isNone (SortSt.mk' (kindOf st₂) (r.toList.zipIdx.foldl (fun a x => match x with | (p, j) => a.setIfInBounds (sa + k + j) p) (arrOf st₂)) (pendingOf st₂) (gallopOf st₂) (failedOf st₂)) s₃
      rw [ef]
      exact key
    · show (r.toList.zipIdx.foldl (fun a x => match x with | (p, j) => a.setIfInBounds (sa + k + j) p) (arrOf st₂)).toList = _
      rw [set_many (sa + k) r.toList 0 (arrOf st₂) (by rw [sm.a, k3]; exact oq55 e1 e2 e3 z0 hln hlen hsz), sm.a, k3, Nat.add_zero, hlen, show sa + k + (na - k + l) = sa + (na + l) by exact oq56 z0, dp, hX]
      rw [List.take_append (i := sa + k), e1, Nat.add_sub_cancel_left, List.take_of_length_le (by exact qp1 qc3 qv0 (qA qv1 qv2) qv0 qv1 qt (qe e1)), List.take_append_of_le_length (by exact oq49 e2 z0)]
      rw [List.drop_append (i := na + l), List.drop_of_length_le (by exact qp1 qc3 qv0 (qA qv1 qv2) qv0 qv1 qt (qe e2)), e2, Nat.add_sub_cancel_left, List.nil_append, List.drop_append_of_le_length (by exact qp2 qc3 qv0 qv1 qv2 qv1 qv0 qv2 qt (qi e3) hln)]
      simp only [List.append_assoc]
  clear_value jp
  by_cases hc : na - k ≤ l
  · refine iteT hc (kasC_bind (mergeLoC O T k1 h₂ (by exact oq57 z0 sx) (by exact oq58 y0 sy) (fun x y hx hy => h0 x y hx (List.mem_of_getElem? (get_toList.mp hy))) hl fun r st₂ s₃ sm h₃ m => hj r st₂ s₃ sm h₃ m))
  · refine iteF hc (kasC_bind (mergeHiC O T k1 h₂ (by exact qp2 qc3 qk1 qv0 qv1 qv0 qs2 qv1 qt (qi sx) (qn hc)) (by exact oq58 y0 sy) h0 hl fun r st₂ s₃ sm h₃ m => hj r st₂ s₃ sm h₃ m))
end
end Tw
end

section
namespace Tw
open PySem PySem.W PyProof.Rows
section
variable {M : Model} {A : Around} {E : Value → Shared → Prop} {σ β : Type}
/-- a loop from a to b, counted from 0 -/
theorem loopAB {a b : Nat} {c : β} {f : Nat → β → StateT σ Sem (ForInStep β)} {Q : β → σ → Shared → Prop} {st : σ} {s : Shared} (I : Nat → β → σ → Shared → Prop) (h0 : I 0 c st s)
    (step : ∀ i c st s, i < b - a → I i c st s → kasC M A E (f (a + i) c) (fun r st' s' => match r with | .done c' => Q c' st' s' | .yield c' => I (i + 1) c' st' s') st s)
    (fin : ∀ c st s, I (b - a) c st s → Q c st s) : kasC M A E (forIn [a:b] c f) Q st s := by
  refine kasC_range ?_
  have key : ∀ (k i : Nat) c st s, i + k = b - a → I i c st s → kasC M A E (forIn (List.range' (a + i) k) c f) Q st s := by
    intro k
    induction k with
    | zero => intro i c st s e h; exact kasC_nil (fin c st s (by rw [← e]; exact h))
    | succ k ih =>
      intro i c st s e h
      rw [List.range'_succ]
      refine kasC_cons (wpAny_mono (step i c st s (by exact qp1 qc3 qs0 qv1 (qA qv0 qs2) qv1 qt (qe e)) h) (fun r s' h' => ?_) fun _ _ e => e)
      obtain ⟨r, st'⟩ := r
      cases r with
      | done c' => exact h'
      | yield c' => exact ih (i + 1) c' st' s' (by exact Nat.le_antisymm (qp1 qc3 (qA qs0 qv1) qv2 (qA qv0 qs1) qv2 qt (qe e)) (qp1 qc3 qv0 (qA qs1 qv2) qv0 (qA qv1 qs2) qt (qi e))) h'
  exact key (b - a) 0 c st s (by exact Nat.le_antisymm (qp0 qc1 (qA qk0 qv0) qv0 qt ) (qp0 qc1 qv0 (qA qk0 qv0) qt )) h0
end
section
variable {lt : Keyed → Keyed → Bool} {P : Keyed → Prop} {X Y : Array Keyed} {lo n i j k : Nat}
/-- not less -/
noncomputable def NL (lt : Keyed → Keyed → Bool) (X : Array Keyed) (i j : Nat) : Prop := ∀ x y, X[i]? = some x → X[j]? = some y → lt x y = false
noncomputable def Asc (lt : Keyed → Keyed → Bool) (X : Array Keyed) (lo n : Nat) : Prop := ∀ i j, lo ≤ i → i ≤ j → j < lo + n → NL lt X j i
noncomputable def Dsc (lt : Keyed → Keyed → Bool) (X : Array Keyed) (lo n : Nat) : Prop := ∀ i j, lo ≤ i → i ≤ j → j < lo + n → NL lt X i j
noncomputable def Eqv (lt : Keyed → Keyed → Bool) (X : Array Keyed) (i j : Nat) : Prop := ∀ p q, i ≤ p → p < j → i ≤ q → q < j → NL lt X p q
theorem NL.congr {Z : Array Keyed} {i' j' : Nat} (h : NL lt X i j) (h1 : Z[i']? = X[i]?) (h2 : Z[j']? = X[j]?) : NL lt Z i' j' := fun x y hx hy => h x y (h1.symm.trans hx) (h2.symm.trans hy)
variable (O : OrdP lt P) (pX : ∀ x ∈ X.toList, P x)
include O pX
theorem NL.tr (hj : j < X.size) (h1 : NL lt X i j) (h2 : NL lt X j k) : NL lt X i k := fun x z hx hz => by
  have hy : X[j]? = some X[j] := Array.getElem?_eq_getElem hj
  have m : ∀ {t : Nat} {v : Keyed}, X[t]? = some v → P v := fun h => pX _ (List.mem_of_getElem? (get_toList.mp h))
  exact O.tr x X[j] z (m hx) (m hy) (m hz) (h1 x _ hx hy) (h2 _ z hy hz)
theorem NL.refl : NL lt X i i := fun x y hx hy => by rw [hx] at hy; cases hy; exact O.irr x (pX _ (List.mem_of_getElem? (get_toList.mp hx)))
theorem asc_ext (h : Asc lt X lo n) (hn : 1 ≤ n) (hs : lo + n ≤ X.size) (h1 : NL lt X (lo + n) (lo + n - 1)) : Asc lt X lo (n + 1) := fun i j hi hij hj => by
  rcases Nat.lt_or_ge j (lo + n) with h' | h'
  · exact h i j hi hij h'
  · obtain rfl : j = lo + n := by exact Nat.le_antisymm (qp1 qc3 qv0 (qA qv1 qv2) qs0 (qA qv1 qs2) qt hj) (h')
    rcases Nat.lt_or_ge i (lo + n) with h'' | h''
    · exact NL.tr O pX (by exact qp2 qc4 qs0 qv1 (qA qv2 qv3) qv1 qs0 (qA qv2 qv3) qt hs (qx (qp1 qc3 qk1 (qA qv0 qv1) qs2 (qA qv0 qv1) qt h''))) h1 (h i (lo + n - 1) hi (by exact qp2 qc4 qv0 qv1 qs0 (qA qv2 qv3) (qA qv2 qv3) qs1 qt h'' qw) (by exact qx (qp1 qc3 qk1 (qA qv0 qv1) qs2 (qA qv0 qv1) qt h'')))
    · obtain rfl : i = lo + n := by exact Nat.le_antisymm (hij) (h'')
      exact NL.refl O pX
theorem dsc_ext (h : Dsc lt X lo n) (hn : 1 ≤ n) (hs : lo + n ≤ X.size) (h1 : NL lt X (lo + n - 1) (lo + n)) : Dsc lt X lo (n + 1) := fun i j hi hij hj => by
  rcases Nat.lt_or_ge j (lo + n) with h' | h'
  · exact h i j hi hij h'
  · obtain rfl : j = lo + n := by exact Nat.le_antisymm (qp1 qc3 qv0 (qA qv1 qv2) qs0 (qA qv1 qs2) qt hj) (h')
    rcases Nat.lt_or_ge i (lo + n) with h'' | h''
    · exact NL.tr O pX (by exact qp2 qc4 qs0 qv1 (qA qv2 qv3) qv1 qs0 (qA qv2 qv3) qt hs (qx (qp1 qc3 qk1 (qA qv0 qv1) qs2 (qA qv0 qv1) qt h''))) (h i (lo + n - 1) hi (by exact qp2 qc4 qv0 qv1 qs0 (qA qv2 qv3) (qA qv2 qv3) qs1 qt h'' qw) (by exact qx (qp1 qc3 qk1 (qA qv0 qv1) qs2 (qA qv0 qv1) qt h''))) h1
    · obtain rfl : i = lo + n := by exact Nat.le_antisymm (hij) (h'')
      exact NL.refl O pX
theorem asc_one : Asc lt X lo 1 := fun i j hi hij hj => by
  obtain rfl : i = j := by exact Nat.le_antisymm (hij) (qp2 qc3 qv0 qv1 qv2 qv1 qs0 qs2 qt hi hj)
  exact NL.refl O pX
omit O pX in
theorem mir_get (hj : j ≤ X.size) (k : Nat) : (mirror X i j ((j - i) / 2))[k]? = if i ≤ k ∧ k < j then X[i + j - 1 - k]? else X[k]? := getElem?_mirror_all hj k
omit O pX in
theorem mir_dsc (h : Dsc lt X lo n) (hs : lo + n ≤ X.size) : Asc lt (mirror X lo (lo + n) ((lo + n - lo) / 2)) lo n := fun i j hi hij hj => by
  refine (h (lo + (lo + n) - 1 - j) (lo + (lo + n) - 1 - i) (by exact qp3 qc5 qv0 qv1 qs2 (qA qv0 qv3) (qA qv0 (qA qv0 qv3)) qs4 qv4 (qA qv1 qv2) qt hj qw qw) (by exact oq59 hij) (by exact oq60 hi hj)).congr ?_ ?_
  · rw [mir_get hs, if_pos ⟨by exact qp2 qc3 qv0 qv1 qv0 qv2 qv2 qv1 qt hi hij, hj⟩]
  · rw [mir_get hs, if_pos ⟨hi, by exact qp2 qc4 qs0 (qA qv1 qv2) qv0 qv3 qs3 (qA qv1 qv2) qt hij hj⟩]
omit O pX in
/-- a block of equals at the end is turned round -/
theorem mir_eqv (h : Dsc lt X lo n) (hs : lo + n ≤ X.size) (hi : lo ≤ i) (he : Eqv lt X i (lo + n)) : Dsc lt (mirror X i (lo + n) ((lo + n - i) / 2)) lo n := fun p q hp hpq hq => by
  have g : ∀ t, (mirror X i (lo + n) ((lo + n - i) / 2))[t]? = X[if i ≤ t ∧ t < lo + n then i + (lo + n) - 1 - t else t]? := fun t => by rw [mir_get hs]; split <;> rfl
  refine NL.congr (i := if i ≤ p ∧ p < lo + n then i + (lo + n) - 1 - p else p) (j := if i ≤ q ∧ q < lo + n then i + (lo + n) - 1 - q else q) ?_ (g p) (g q)
  by_cases h1 : i ≤ p ∧ p < lo + n
  · rw [if_pos h1, if_pos ⟨by exact qp2 qc3 qv0 qv1 qv2 qv1 qv0 qv2 qt hpq (And.left h1), hq⟩]
    exact he _ _ (by exact qp3 qc6 qv0 qv1 qs2 (qA qv3 qv4) (qA qv0 (qA qv3 qv4)) qs5 qv5 (qA qv1 qv2) qt (And.right h1) qw qw) (by exact qp3 qc6 qs0 (qA qv1 qv2) qv3 qv4 qs5 (qA qv3 (qA qv1 qv2)) (qA qv0 qv4) qv5 qt (And.left h1) (qx (qp1 qc4 qk1 (qA qv0 (qA qv1 qv2)) qs3 (qA qv1 qv2) qt (And.right h1))) (qx (qp2 qc5 qv0 qv1 qs0 (qA qv2 qv3) (qA qv4 (qA qv2 qv3)) qs1 qt (And.right h1) qw))) (by exact qp3 qc6 qv0 qv1 qs2 (qA qv3 qv4) (qA qv0 (qA qv3 qv4)) qs5 qv5 (qA qv1 qv2) qt hq qw qw) (by exact oq61 hpq h1)
  · rw [if_neg h1]
    split
    · exact h _ _ hp (by omega) (by exact qp3 qc6 qs0 (qA qv1 qv2) qv3 qv4 qs5 (qA qv3 (qA qv1 qv2)) (qA qv0 qv4) qv5 qt (And.left (by assumption)) (qx (qp1 qc4 qk1 (qA qv0 (qA qv1 qv2)) qs3 (qA qv1 qv2) qt (And.right (by assumption)))) (qx (qp2 qc5 qv0 qv1 qs0 (qA qv2 qv3) (qA qv4 (qA qv2 qv3)) qs1 qt (And.right (by assumption)) qw)))
    · exact h _ _ hp hpq hq
end
/-- the array may be turned round behind lo -/
structure Bk (st₀ st : SortSt) (lo : Nat) : Prop where
  perm : (arrOf st).toList.Perm (arrOf st₀).toList
  pre : ∀ k, k < lo → (arrOf st)[k]? = (arrOf st₀)[k]?
  k : kindOf st = kindOf st₀
  f : failedOf st = failedOf st₀
  p : pendingOf st = pendingOf st₀
theorem Bk.rfl {st : SortSt} {lo : Nat} : Bk st st lo := ⟨.refl _, fun _ _ => Eq.refl _, Eq.refl _, Eq.refl _, Eq.refl _⟩
theorem Bk.size {st₀ st : SortSt} {lo : Nat} (h : Bk st₀ st lo) : (arrOf st).size = (arrOf st₀).size := by rw [← Array.length_toList, ← Array.length_toList]; exact h.perm.length_eq
theorem Bk.mir {st₀ st : SortSt} {lo i j : Nat} (h : Bk st₀ st lo) (hi : lo ≤ i) (hj : j ≤ (arrOf st).size) : Bk st₀ (setArr st (mirror (arrOf st) i j ((j - i) / 2))) lo :=
  ⟨(mirror_perm _ _ _ _).toList.trans h.perm, fun k hk => by
    show (mirror (arrOf st) i j ((j - i) / 2))[k]? = _
    rw [mir_get hj, if_neg (by exact fun e0 => qf3 qc3 qv0 qv1 qs2 qv0 qv1 qv2 qt hi hk (And.left e0))]; exact h.pre k hk, h.k, h.f, h.p⟩
theorem Bk.pX {P : Keyed → Prop} {st₀ st : SortSt} {lo : Nat} (h : Bk st₀ st lo) (p0 : ∀ x ∈ (arrOf st₀).toList, P x) : ∀ x ∈ (arrOf st).toList, P x := fun x hx => p0 x (h.perm.mem_iff.mp hx)

section
variable {prog : Program} {w : World} {A : Around} {E : Value → Shared → Prop} {κ : SortKind} {lt : Keyed → Keyed → Bool} {P : Keyed → Prop} {I : Shared → Prop} (O : Ord9 prog w A κ lt P I)
include O
theorem ltAtC {i j : Nat} {Q : Option Bool → SortSt → Shared → Prop} {st : SortSt} {s : Shared} (hk : kindOf st = κ) (pX : ∀ x ∈ (arrOf st).toList, P x) (hi : i < (arrOf st).size) (hj : j < (arrOf st).size) (hI : I s)
    (q : ∀ x y s', I s' → (arrOf st)[i]? = some x → (arrOf st)[j]? = some y → Q (some (lt x y)) st s') : kasC (model prog w) A E (ltAt' i j) Q st s := by
  have h1 : (arrOf st)[i]? = some (arrOf st)[i] := Array.getElem?_eq_getElem hi
  have h2 : (arrOf st)[j]? = some (arrOf st)[j] := Array.getElem?_eq_getElem hj
  rw [ltAt'_eq]
  refine kasC_bind (kasC_get (kasC_bind (elemC h1 (kasC_bind (elemC h2 ?_)))))
  exact ltC O hk (pX _ (List.mem_of_getElem? (get_toList.mp h1))) (pX _ (List.mem_of_getElem? (get_toList.mp h2))) hI fun s' h' => q _ _ s' h' h1 h2
omit O in
theorem revC {i j : Nat} {Q : Unit → SortSt → Shared → Prop} {st : SortSt} {s : Shared} (q : Q () (setArr st (mirror (arrOf st) i j ((j - i) / 2))) s) : kasC (model prog w) A E (reverseSlice' i j) Q st s := by
  rw [reverseSlice'_eq]; exact kasC_modify q
/-- on while it rises -/
theorem ascC {lo nrem n : Nat} {f : Nat → Option (Option Nat) × Nat → StateT SortSt Sem (ForInStep (Option (Option Nat) × Nat))} {Q : Option (Option Nat) × Nat → SortSt → Shared → Prop} {st : SortSt} {s : Shared} (hk : kindOf st = κ) (pX : ∀ x ∈ (arrOf st).toList, P x) (hs : lo + nrem ≤ (arrOf st).size) (hI : I s) (h1 : 1 ≤ n) (hn : n ≤ nrem) (ha : Asc lt (arrOf st) lo n)
    (hf : ∀ i n s (R : ForInStep (Option (Option Nat) × Nat) → SortSt → Shared → Prop), 1 ≤ n → n < nrem → I s → (∀ x y s', I s' → (arrOf st)[lo + n]? = some x → (arrOf st)[lo + n - 1]? = some y → (lt x y = true → R (.done (none, n)) st s') ∧ (lt x y = false → R (.yield (none, n + 1)) st s')) → kasC (model prog w) A E (f i (none, n)) R st s)
    (q : ∀ m s', I s' → n ≤ m → m ≤ nrem → Asc lt (arrOf st) lo m → (m = nrem ∨ (m < nrem ∧ ∀ x y, (arrOf st)[lo + m]? = some x → (arrOf st)[lo + m - 1]? = some y → lt x y = true)) → Q (none, m) st s') : kasC (model prog w) A E (forIn [n:nrem] (none, n) f) Q st s := by
  refine loopAB (fun i c st' s' => st' = st ∧ I s' ∧ c = (none, n + i) ∧ n + i ≤ nrem ∧ Asc lt (arrOf st) lo (n + i)) ⟨rfl, hI, rfl, hn, ha⟩ ?_ ?_
  · rintro i c st' s' hi ⟨rfl, hI', rfl, g1, g2⟩
    refine hf _ _ _ _ (by exact qp1 qc2 qk1 (qA qv0 qv1) qk1 qv0 qt h1) (by exact oq16 hi) hI' fun x y s₂ h₂ hx hy => ⟨fun e => ?_, fun e => ?_⟩
    · exact q _ s₂ h₂ (by exact qp0 qc2 qv0 (qA qv0 qv1) qt ) (by exact g1) g2 (.inr ⟨by exact oq16 hi, fun x' y' hx' hy' => by rw [hx] at hx'; rw [hy] at hy'; cases hx'; cases hy'; exact e⟩)
    · exact ⟨rfl, h₂, rfl, by exact oq62 hi, asc_ext (n := n + i) O.toOrdP pX g2 (by exact qp1 qc2 qk1 (qA qv0 qv1) qk1 qv0 qt h1) (by exact qp2 qc5 (qA qv0 (qA qv1 qv2)) qv3 (qA qv0 qv4) qv3 (qA qv1 qv2) qv4 qt hs g1) fun x' y' hx' hy' => by rw [hx] at hx'; rw [hy] at hy'; cases hx'; cases hy'; exact e⟩
  · rintro c st' s' ⟨rfl, hI', rfl, g1, g2⟩
    exact q _ s' hI' (by exact qp0 qc2 qv0 (qA qv0 qv1) qt ) g1 g2 (.inl (by exact Nat.le_antisymm (g1) (qp1 qc3 qv0 (qA qv1 qv2) qv0 (qA qv2 qv1) qt qw)))
end
end Tw
end

section
namespace Tw
open PySem PySem.W PyProof.Rows
section
variable {prog : Program} {w : World} {A : Around} {E : Value → Shared → Prop} {κ : SortKind} {lt : Keyed → Keyed → Bool} {P : Keyed → Prop} {I : Shared → Prop} (O : Ord9 prog w A κ lt P I)
include O
/-- falling so far, the last neq + 1 of them equal -/
structure Fall (lt : Keyed → Keyed → Bool) (st₀ st : SortSt) (lo n neq : Nat) : Prop where
  b : Bk st₀ st lo
  d : Dsc lt (arrOf st) lo n
  le : neq + 1 ≤ n
  e : Eqv lt (arrOf st) (lo + n - (neq + 1)) (lo + n)
theorem Fall.turn {st₀ st : SortSt} {lo n neq : Nat} (x : Fall lt st₀ st lo n neq) (hs : lo + n ≤ (arrOf st).size) : Fall lt st₀ (setArr st (mirror (arrOf st) (lo + n - (neq + 1)) (lo + n) ((lo + n - (lo + n - (neq + 1))) / 2))) lo n neq := by
  have hle := x.le
  refine ⟨x.b.mir (by exact qp2 qc4 qv0 qv1 qs2 qv3 (qA qv0 qv3) (qA qv1 qs2) qt hle qw) hs, mir_eqv x.d hs (by exact qp2 qc4 qv0 qv1 qs2 qv3 (qA qv0 qv3) (qA qv1 qs2) qt hle qw) x.e, hle, fun p q h1 h2 h3 h4 => ?_⟩
  refine NL.congr (i := (lo + n - (neq + 1)) + (lo + n) - 1 - p) (j := (lo + n - (neq + 1)) + (lo + n) - 1 - q) (x.e _ _ (by exact qp3 qc6 qv0 qv1 qs2 (qA qv3 qv4) (qA qv0 (qA qv3 qv4)) qs5 qv5 (qA qv1 qv2) qt h2 qw qw) (by exact oq63 h1 h4) (by exact qp3 qc6 qv0 qv1 qs2 (qA qv3 qv4) (qA qv0 (qA qv3 qv4)) qs5 qv5 (qA qv1 qv2) qt h4 qw qw) (by exact qp3 qc6 qs0 (qA qv1 qv2) qv3 qv4 qs5 (qA qv3 (qA qv1 qv2)) (qA qv0 qv4) qv5 qt h3 (qx (qp1 qc4 qk1 (qA qv0 (qA qv1 qv2)) qs3 (qA qv1 qv2) qt h4)) (qx (qp2 qc5 qv0 qv1 qs0 (qA qv2 qv3) (qA qv4 (qA qv2 qv3)) qs1 qt h4 qw)))) ?_ ?_
  · show (mirror _ _ _ _)[p]? = _
    rw [mir_get hs, if_pos ⟨h1, h2⟩]
  · show (mirror _ _ _ _)[q]? = _
    rw [mir_get hs, if_pos ⟨h3, h4⟩]
theorem Fall.next {st₀ st : SortSt} {lo n neq : Nat} (p0 : ∀ x ∈ (arrOf st₀).toList, P x) (x : Fall lt st₀ st lo n neq) (hs : lo + n < (arrOf st).size) (h : NL lt (arrOf st) (lo + n - 1) (lo + n)) : Fall lt st₀ st lo (n + 1) 0 := by
  have hle := x.le
  refine ⟨x.b, dsc_ext O.toOrdP (x.b.pX p0) x.d (by exact qp1 qc2 qk1 qv0 qs1 qv0 qt hle) (by exact qp1 qc3 (qA qv0 qv1) qv2 (qA (qA qv0 qv1) qk1) qv2 qt hs) h, by exact qp0 qc1 (qA qk0 qk1) qs0 qt , fun p t h1 h2 h3 h4 => ?_⟩
  obtain rfl : p = t := by exact Nat.le_antisymm (qp3 qc5 qv0 qv1 qs0 (qA qv2 qs3) qv4 qv1 (qA qv2 qs3) (qA qv4 (qA qk0 qk1)) qt h2 h3 qw) (qp3 qc5 qv0 qv1 qv2 qv1 qs0 (qA qv3 qs4) (qA qv3 qs4) (qA qv2 (qA qk0 qk1)) qt h1 h4 qw)
  exact NL.refl O.toOrdP (x.b.pX p0)
theorem Fall.same {st₀ st : SortSt} {lo n neq : Nat} (p0 : ∀ x ∈ (arrOf st₀).toList, P x) (x : Fall lt st₀ st lo n neq) (hs : lo + n < (arrOf st).size) (h : NL lt (arrOf st) (lo + n - 1) (lo + n)) (h' : NL lt (arrOf st) (lo + n) (lo + n - 1)) : Fall lt st₀ st lo (n + 1) (neq + 1) := by
  have hle := x.le
  have pX := x.b.pX p0
  have st' : lo + (n + 1) - (neq + 1 + 1) = lo + n - (neq + 1) := by exact oq64
  refine ⟨x.b, dsc_ext O.toOrdP pX x.d (by exact qp1 qc2 qk1 qv0 qs1 qv0 qt hle) (by exact qp1 qc3 (qA qv0 qv1) qv2 (qA (qA qv0 qv1) qk1) qv2 qt hs) h, by exact qp1 qc2 (qA qs0 qk1) qs1 qs0 qv1 qt hle, fun p t h1 h2 h3 h4 => ?_⟩
  rw [st'] at h1 h3
  have blk : ∀ p t, lo + n - (neq + 1) ≤ p → p < lo + n → lo + n - (neq + 1) ≤ t → t < lo + n → NL lt (arrOf st) p t := x.e
  by_cases e1 : p = lo + n
  · by_cases e2 : t = lo + n
    · rw [e1, e2]; exact NL.refl O.toOrdP pX
    · rw [e1]; exact NL.tr O.toOrdP pX (by exact qp2 qc4 qs0 qv1 (qA (qA qv2 qv3) qk1) qv1 qv0 (qA qv2 qv3) qt hs qu) h' (blk _ _ (by exact oq65) (by exact qx (qp1 qc3 qk1 (qA qv0 qv1) qs2 qv1 qt hle)) h3 (by exact oq66 h4 e2))
  · by_cases e2 : t = lo + n
    · rw [e2]; exact NL.tr O.toOrdP pX (by exact qp2 qc4 qs0 qv1 (qA (qA qv2 qv3) qk1) qv1 qv0 (qA qv2 qv3) qt hs qu) (blk _ _ h1 (by exact oq66 h2 e1) (by exact oq65) (by exact qx (qp1 qc3 qk1 (qA qv0 qv1) qs2 qv1 qt hle))) h
    · exact blk _ _ h1 (by exact oq66 h2 e1) h3 (by exact oq66 h4 e2)
theorem countRunC {lo nrem : Nat} {Q : Option Nat → SortSt → Shared → Prop} {st : SortSt} {s : Shared} (hk : kindOf st = κ) (p0 : ∀ x ∈ (arrOf st).toList, P x) (hs : lo + nrem ≤ (arrOf st).size) (h1 : 1 ≤ nrem) (hI : I s)
    (q : ∀ n st' s', I s' → Bk st st' lo → 1 ≤ n → n ≤ nrem → Asc lt (arrOf st') lo n → Q (some n) st' s') : kasC (model prog w) A E (countRun' lo nrem) Q st s := by
  refine kasC_bind (ascC O hk p0 hs hI (n := 1) (Nat.le_refl _) h1 (asc_one O.toOrdP p0) ?hf ?q)
  case hf =>
    intro i n s R hn1 hn2 hI r
    refine kasC_bind (ltAtC O hk p0 (by show lo + n < _; exact qp2 qc4 (qA (qA qv0 qv1) qk1) qv2 (qA qv0 qv3) qv2 qs1 qv3 qt hs hn2) (by show lo + n - 1 < _; exact qp3 qc5 qs0 qv1 (qA qv2 qv3) qv1 qs4 qv3 qv0 (qA qv2 qv4) qt hs hn2 qu) hI fun x y s' h' hx hy => ?_)
    cases e : lt x y with
    | true => exact kasC_pure ((r x y s' h' hx hy).1 e)
    | false => exact kasC_pure ((r x y s' h' hx hy).2 e)
  case q =>
    intro m s₁ hI₁ hm1 hm2 ha hor
    by_cases em : m = nrem
    · exact iteT (beq_iff_eq.mpr em) (kasC_pure (q m st s₁ hI₁ .rfl hm1 hm2 ha))
    refine iteF (fun h => em (beq_iff_eq.mp h)) ?_
    obtain ⟨hmn, hsm⟩ := hor.resolve_left em
    have small : NL lt (arrOf st) (lo + m - 1) (lo + m) := fun x y hx hy => by
      have m' : ∀ {t : Nat} {v : Keyed}, (arrOf st)[t]? = some v → P v := fun h => p0 _ (List.mem_of_getElem? (get_toList.mp h))
      exact O.asy y x (m' hy) (m' hx) (hsm y x hy hx)
    extract_lets zm z0 jp
    have hj : ∀ st₁ s₁, Bk st st₁ lo → I s₁ → Dsc lt (arrOf st₁) lo (m + 1) → kasC (model prog w) A E (jp ()) Q st₁ s₁ := by
      intro st₁ s₁ bk hI₁ hd
      have hsz := bk.size
      refine kasC_bind (ruleC ?_)
      refine kasC_bind (kasC_mono (loopAB (a := m + 1) (Q := fun c st' s' => I s' ∧ ∃ n neq, c = (none, n, neq) ∧ m + 1 ≤ n ∧ n ≤ nrem ∧ Fall lt st st' lo n neq) (fun i c st' s' => I s' ∧ ∃ neq, c = (none, m + 1 + i, neq) ∧ m + 1 + i ≤ nrem ∧ Fall lt st st' lo (m + 1 + i) neq)
        ⟨hI₁, 0, rfl, by exact qp1 qc2 (qA qs0 qk0) qv1 qs0 qv1 qt hmn, bk, hd, by exact qp0 qc1 (qA qk0 qk1) (qA qs0 qk0) qt , fun p t h1 h2 h3 h4 => by
          obtain rfl : p = t := by exact Nat.le_antisymm (qp3 qc5 qv0 qv1 qs0 (qA qv2 (qA qs3 qk0)) qv4 qv1 (qA qv2 (qA qs3 qk0)) (qA qv4 (qA qk0 qk1)) qt h2 h3 qw) (qp3 qc5 qv0 qv1 qv2 qv1 qs0 (qA qv3 (qA qs4 qk0)) (qA qv3 (qA qs4 qk0)) (qA qv2 (qA qk0 qk1)) qt h1 h4 qw)
          exact NL.refl O.toOrdP (bk.pX p0)⟩ ?_ ?_) ?_)
      · rintro i c st₂ s₂ hi ⟨hI₂, neq, rfl, g1, fl⟩
        have hsz₂ := fl.b.size
        have pX₂ := fl.b.pX p0
        generalize hn : m + 1 + i = n at fl g1 ⊢
        have hle := fl.le
        refine kasC_bind (ltAtC O (fl.b.k.trans hk) pX₂ (by show lo + n < _; exact oq67 hs hi hsz₂ hn) (by show lo + n - 1 < _; exact qp4 qc6 qs0 qv1 (qA qv2 qv3) qv4 qv4 qv1 qv5 qv3 qs0 (qA qv2 qv5) qt hs (qi hsz₂) g1 (qx (qp1 qc3 qk1 (qA qv0 qv1) qs2 qv1 qt hle))) hI₂ fun x y s₃ h₃ hx hy => ?_)
        have mP : ∀ {t : Nat} {v : Keyed}, (arrOf st₂)[t]? = some v → P v := fun h => pX₂ _ (List.mem_of_getElem? (get_toList.mp h))
        have e3 : m + 1 + (i + 1) = n + 1 := by exact Nat.le_antisymm (qp1 qc3 (qA qs0 qs1) qs2 (qA qs0 qv1) qv2 qt (qe hn)) (qp1 qc3 qs0 (qA qs1 qs2) qv0 (qA qs1 qv2) qt (qi hn))
        cases e : lt x y with
        | true =>
          have small : NL lt (arrOf st₂) (lo + n - 1) (lo + n) := fun x' y' hx' hy' => by rw [hy] at hx'; rw [hx] at hy'; cases hx'; cases hy'; exact O.asy x y (mP hx) (mP hy) e
          dsimp only
          rw [if_pos rfl]
          by_cases hq : neq > 0
          · rw [if_pos hq]
            refine kasC_bind (revC (kasC_pure ⟨h₃, 0, by rw [e3], by exact oq68 hi, ?_⟩))
            have ft := fl.turn O (by exact qp3 qc5 (qA qv0 qv1) qv2 (qA qv0 qv3) qv4 qv4 qv2 qv1 qv3 qt hs (qi hsz₂) g1)
            have fsz := ft.b.size
            rw [e3]
            refine ft.next O p0 (by rw [fsz]; exact oq69 hs hi e3) (NL.congr (NL.tr O.toOrdP pX₂ (by exact qp4 qc6 qs0 qv1 (qA qv2 qv3) qv4 qv4 qv1 qv5 qv3 qs0 (qA qv2 qv5) qt hs (qi hsz₂) g1 (qx (qp1 qc4 qk1 (qA qv0 qv1) (qA qs2 qs3) qs1 qt (qe e3)))) (fl.e (lo + n - (neq + 1)) (lo + n - 1) (by exact Nat.le_refl _) (by exact oq70 e3) (by exact oq65) (by exact qx (qp1 qc4 qk1 (qA qv0 qv1) (qA qs2 qs3) qs1 qt (qe e3)))) small) ?_ ?_)
            · show (mirror _ _ _ _)[lo + n - 1]? = _
              rw [mir_get (by exact qp3 qc5 (qA qv0 qv1) qv2 (qA qv0 qv3) qv4 qv4 qv2 qv1 qv3 qt hs (qi hsz₂) g1), if_pos ⟨by exact oq65, by exact qx (qp1 qc4 qk1 (qA qv0 qv1) (qA qs2 qs3) qs1 qt (qe e3))⟩]; congr 1; exact oq71
            · show (mirror _ _ _ _)[lo + n]? = _
              rw [mir_get (by exact qp3 qc5 (qA qv0 qv1) qv2 (qA qv0 qv3) qv4 qv4 qv2 qv1 qv3 qt hs (qi hsz₂) g1), if_neg (by exact fun e0 => qf1 qc2 (qA (qA qv0 qv1) qk1) (qA qv0 qv1) qt (And.right e0))]
          · rw [if_neg hq]
            refine kasC_pure ⟨h₃, 0, by rw [e3], by exact oq68 hi, ?_⟩
            rw [e3]
            exact fl.next O p0 (by exact oq72 hs hi hsz₂ e3) small
        | false =>
          dsimp only
          rw [if_neg Bool.false_ne_true]
          refine kasC_bind (ltAtC O (fl.b.k.trans hk) pX₂ (by exact qp4 qc6 qs0 qv1 (qA qv2 qv3) qv4 qv4 qv1 qv5 qv3 qs0 (qA qv2 qv5) qt hs (qi hsz₂) g1 (qx (qp1 qc3 qk1 (qA qv0 qv1) qs2 qv1 qt hle))) (by exact oq67 hs hi hsz₂ hn) h₃ fun y' x' s₄ h₄ hy' hx' => ?_)
          rw [hy] at hy'; rw [hx] at hx'; cases hy'; cases hx'
          cases e' : lt y x with
          | true =>
            dsimp only
            rw [if_pos rfl]
            exact kasC_pure ⟨h₄, n, neq, rfl, by exact qp1 qc3 qs0 qv1 (qA qs0 qs2) qs1 qt (qe e3), by exact g1, fl⟩
          | false =>
            dsimp only
            rw [if_neg Bool.false_ne_true]
            refine kasC_pure ⟨h₄, neq + 1, by rw [e3], by exact oq68 hi, ?_⟩
            rw [e3]
            exact fl.same O p0 (by exact oq67 hs hi hsz₂ hn) (fun x' y' hx' hy' => by rw [hy] at hx'; rw [hx] at hy'; cases hx'; cases hy'; exact e') fun x' y' hx' hy' => by rw [hx] at hx'; rw [hy] at hy'; cases hx'; cases hy'; exact e
      · rintro c st₂ s₂ ⟨hI₂, neq, rfl, g1, fl⟩
        exact ⟨hI₂, _, _, rfl, by exact qp0 qc2 qs0 (qA qs0 qv1) qt , g1, fl⟩
      · rintro c st₂ s₂ ⟨hI₂, n, neq, rfl, g0, g1, fl⟩
        have hsz₂ := fl.b.size
        extract_lets w1 w2 w3 w4 jp2
        have hj2 : ∀ st₃ s₃, Bk st st₃ lo → I s₃ → Dsc lt (arrOf st₃) lo n → kasC (model prog w) A E (jp2 ()) Q st₃ s₃ := by
          intro st₃ s₃ bk₃ hI₃ hd₃
          have hsz₃ := bk₃.size
          refine kasC_bind (revC ?_)
          have bk₄ := bk₃.mir (i := lo) (j := lo + n) (Nat.le_refl _) (by exact qp3 qc5 (qA qv0 qv1) qv2 (qA qv0 qv3) qv4 qv1 qv3 qv4 qv2 qt hs g1 (qi hsz₃))
          have as₄ : Asc lt (arrOf (setArr st₃ (mirror (arrOf st₃) lo (lo + n) ((lo + n - lo) / 2)))) lo n := mir_dsc hd₃ (by exact qp3 qc5 (qA qv0 qv1) qv2 (qA qv0 qv3) qv4 qv1 qv3 qv4 qv2 qt hs g1 (qi hsz₃))
          show kasC _ _ _ _ _ (setArr st₃ (mirror (arrOf st₃) lo (lo + n) ((lo + n - lo) / 2))) _
          generalize setArr st₃ (mirror (arrOf st₃) lo (lo + n) ((lo + n - lo) / 2)) = st₄ at bk₄ as₄ ⊢
          have sz₄ := bk₄.size
          refine kasC_bind (ascC O (bk₄.k.trans hk) (bk₄.pX p0) (show lo + nrem ≤ _ by exact qp2 qc4 (qA qv0 qv1) qv2 (qA qv0 qv1) qv3 qv3 qv2 qt hs (qi sz₄)) hI₃ (n := n) (show 1 ≤ n by exact qp1 qc2 qk1 qv0 qs1 qv0 qt g0) g1 as₄ ?hf2 ?q2)
          case hf2 =>
            intro i n s R hn1 hn2 hI r
            refine kasC_bind (ltAtC O (bk₄.k.trans hk) (bk₄.pX p0) (by show lo + n < _; exact qp3 qc5 (qA (qA qv0 qv1) qk1) qv2 (qA qv0 qv3) qv4 qv4 qv2 qs1 qv3 qt hs (qi sz₄) hn2) (by show lo + n - 1 < _; exact qp4 qc6 qs0 qv1 (qA qv2 qv3) qv4 qv4 qv1 qs5 qv3 qv0 (qA qv2 qv5) qt hs (qi sz₄) hn2 qu) hI fun x y s' h' hx hy => ?_)
            cases e : lt x y with
            | true => exact kasC_pure ((r x y s' h' hx hy).1 e)
            | false => exact kasC_pure ((r x y s' h' hx hy).2 e)
          case q2 =>
            intro m' s₅ hI₅ h5 h6 h7 h8
            exact kasC_pure (q m' _ s₅ hI₅ bk₄ (Nat.le_trans (show 1 ≤ n by exact qp1 qc2 qk1 qv0 qs1 qv0 qt g0) h5) h6 h7)
        clear_value jp2
        by_cases hq : neq > 0
        · refine iteT hq (kasC_bind (revC ?_))
          have ft := fl.turn O (by exact qp3 qc5 (qA qv0 qv1) qv2 (qA qv0 qv3) qv4 qv1 qv3 qv4 qv2 qt hs g1 (qi hsz₂))
          exact hj2 _ _ ft.b hI₂ ft.d
        · exact iteF hq (hj2 _ _ fl.b hI₂ fl.d)
    clear_value jp
    by_cases hm : m > 1
    · refine iteT hm ?_
      refine kasC_bind (ltAtC O hk p0 (by exact qp2 qc4 qs0 qv1 (qA qv0 qv2) qv1 qs3 qv2 qt hs hmn) (by exact qp3 qc5 qs0 qv1 (qA qv2 qv3) qv1 qs4 qv3 qv0 (qA qv2 qv4) qt hs hmn qu) hI₁ fun x y s₂ h₂ hx hy => ?_)
      cases e : lt x y with
      | true => exact kasC_pure (q m st s₂ h₂ .rfl hm1 hm2 ha)
      | false =>
        have rose : NL lt (arrOf st) lo (lo + m - 1) := fun x' y' hx' hy' => by rw [hx] at hx'; rw [hy] at hy'; cases hx'; cases hy'; exact e
        have eqv : Eqv lt (arrOf st) lo (lo + m) := fun p t h1 h2 h3 h4 =>
          NL.tr O.toOrdP p0 (by omega) (NL.tr O.toOrdP p0 (by omega) (ha lo p (Nat.le_refl _) h1 h2) rose) (ha t (lo + m - 1) h3 (by exact qp2 qc4 qv0 qv1 qs0 (qA qv2 qv3) (qA qv2 qv3) qs1 qt h4 qw) (by exact qx (qp1 qc2 qk1 (qA qv0 qv1) qk1 qv1 qt hm1)))
        have dsc : Dsc lt (arrOf st) lo m := fun i j hi hij hj => eqv i j hi (by exact qp2 qc4 qs0 (qA qv1 qv2) qv0 qv3 qs3 (qA qv1 qv2) qt hij hj) (by exact qp2 qc3 qv0 qv1 qv0 qv2 qv2 qv1 qt hi hij) hj
        refine kasC_bind (revC ?_)
        have bk := Bk.mir (st₀ := st) (st := st) (lo := lo) (i := lo) (j := lo + m) .rfl (Nat.le_refl _) (by exact qp2 qc4 (qA qv0 qv1) qv2 (qA qv0 qv3) qv2 qs1 qv3 qt hs hmn)
        refine hj _ _ bk h₂ (dsc_ext O.toOrdP (bk.pX p0) (mir_eqv dsc (by exact qp2 qc4 (qA qv0 qv1) qv2 (qA qv0 qv3) qv2 qs1 qv3 qt hs hmn) (Nat.le_refl _) eqv) hm1 (by rw [bk.size]; exact qp2 qc4 (qA qv0 qv1) qv2 (qA qv0 qv3) qv2 qs1 qv3 qt hs hmn) ?_)
        refine NL.congr (NL.tr O.toOrdP p0 (by exact qp3 qc5 qs0 qv1 (qA qv2 qv3) qv1 qs4 qv3 qv0 (qA qv2 qv4) qt hs hmn qu) rose small) ?_ ?_
        · show (mirror _ _ _ _)[lo + m - 1]? = _
          rw [mir_get (by exact qp2 qc4 (qA qv0 qv1) qv2 (qA qv0 qv3) qv2 qs1 qv3 qt hs hmn), if_pos ⟨by exact qp2 qc3 qv0 qv1 (qA qk1 qk1) qv2 (qA qv0 qv2) qs1 qt hm qw, by exact qx (qp1 qc2 qk1 (qA qv0 qv1) (qA qk1 qk1) qv1 qt hm)⟩]; congr 1; exact oq73
        · show (mirror _ _ _ _)[lo + m]? = _
          rw [mir_get (by exact qp2 qc4 (qA qv0 qv1) qv2 (qA qv0 qv3) qv2 qs1 qv3 qt hs hmn), if_neg (by exact fun e0 => qf1 qc2 (qA (qA qv0 qv1) qk1) (qA qv0 qv1) qt (And.right e0))]
    · refine iteF hm ?_
      obtain rfl : m = 1 := by exact Nat.le_antisymm (qm hm) (hm1)
      exact hj _ _ .rfl hI₁ (dsc_ext O.toOrdP p0 (fun i j hi hij hj => by
        obtain rfl : i = j := by exact Nat.le_antisymm (hij) (qp2 qc3 qv0 qv1 qv2 qv1 qs0 qs2 qt hi hj)
        exact NL.refl O.toOrdP p0) (Nat.le_refl _) (by exact qp2 qc3 qs0 qv1 (qA qv0 qv2) qv1 (qA qk1 qk1) qv2 qt hs hmn) small)
end
end Tw
end

section
namespace Tw
open PySem PySem.W PyProof.Rows
section
variable {prog : Program} {w : World} {A : Around} {E : Value → Shared → Prop} {κ : SortKind} {lt : Keyed → Keyed → Bool} {P : Keyed → Prop} {I : Shared → Prop}
theorem Bk.trans {st₀ st₁ st₂ : SortSt} {lo : Nat} (x : Bk st₀ st₁ lo) (y : Bk st₁ st₂ lo) : Bk st₀ st₂ lo :=
  ⟨y.perm.trans x.perm, fun k hk => (y.pre k hk).trans (x.pre k hk), y.k.trans x.k, y.f.trans x.f, y.p.trans x.p⟩
theorem moveC {src dst : Nat} {Q : Unit → SortSt → Shared → Prop} {st : SortSt} {s : Shared} (q : Q () (setArr st (bubble (arrOf st) src (src - dst))) s) : kasC (model prog w) A E (moveDown' src dst) Q st s := by
  rw [moveDown'_eq]; exact kasC_modify q
variable (O : Ord9 prog w A κ lt P I)
include O
theorem bubble_asc {X : Array Keyed} (pX : ∀ x ∈ X.toList, P x) {lo k l : Nat} (hs : lo + k < X.size) (hl : l ≤ k) (ha : Asc lt X lo k) (h1 : ∀ p, p < l → NL lt X (lo + k) (lo + p)) (h2 : ∀ p, l ≤ p → p < k → NL lt X (lo + p) (lo + k)) :
    Asc lt (bubble X (lo + k) (lo + k - (lo + l))) lo (k + 1) := fun i j hi hij hj => by
  have g : ∀ t, (bubble X (lo + k) (lo + k - (lo + l)))[t]? = X[if t = lo + l then lo + k else if lo + l < t ∧ t ≤ lo + k then t - 1 else t]? := fun t => by
    rw [getElem?_bubble hs _ (by exact qu), show lo + k - (lo + k - (lo + l)) = lo + l by exact Nat.le_antisymm (qp2 qc5 qv0 (qA qv1 qv2) (qA qv1 qv3) (qA qv4 (qA qv1 qv2)) (qA qv0 qv4) (qA qv1 qv3) qt qw (qx (qu))) (qp2 qc5 (qA qv0 qv1) qv2 (qA qv3 (qA qv0 qv1)) (qA qv0 qv4) (qA qv0 qv4) (qA qv2 qv3) qt (qx (qp1 qc3 (qA qv0 qv1) (qA qv0 qv2) qv1 qv2 qt hl)) qw)]
    split
    · rfl
    · split <;> rfl
  refine NL.congr (i := if j = lo + l then lo + k else if lo + l < j ∧ j ≤ lo + k then j - 1 else j) (j := if i = lo + l then lo + k else if lo + l < i ∧ i ≤ lo + k then i - 1 else i) ?_ (g j) (g i)
  rcases Nat.lt_trichotomy i (lo + l) with hi1 | hi1 | hi1
  · rw [if_neg (show ¬ i = lo + l by exact fun e0 => qf2 qc3 qs0 (qA qv1 qv2) (qA qv1 qv2) qv0 qt hi1 (qi e0)), if_neg (show ¬ (lo + l < i ∧ i ≤ lo + k) by exact fun e0 => qf2 qc3 qs0 (qA qv1 qv2) (qA (qA qv1 qv2) qk1) qv0 qt hi1 (And.left e0))]
    rcases Nat.lt_trichotomy j (lo + l) with hj1 | hj1 | hj1
    · rw [if_neg (by exact fun e0 => qf2 qc3 qs0 (qA qv1 qv2) (qA qv1 qv2) qv0 qt hj1 (qi e0)), if_neg (by exact fun e0 => qf2 qc3 qs0 (qA qv1 qv2) (qA (qA qv1 qv2) qk1) qv0 qt hj1 (And.left e0))]; exact ha i j hi hij (by exact qp2 qc4 qs0 (qA qv1 qv2) qv3 qv2 qs0 (qA qv1 qv3) qt hl hj1)
    · rw [if_pos hj1]
      have := h1 (i - lo) (by exact qp2 qc4 qs0 qv1 qs2 (qA qv3 qv1) (qA qv0 qv3) qv2 qt hi1 (qx (hi)))
      rw [show lo + (i - lo) = i by exact Nat.le_antisymm (qp1 qc3 (qA qv0 qv1) qv2 (qA qv1 qv0) qv2 qt (qx (hi))) (qp1 qc3 qv0 (qA qv1 qv2) qv0 (qA qv2 qv1) qt qw)] at this; exact this
    · rw [if_neg (by exact fun e0 => qf2 qc3 (qA (qA qv0 qv1) qk1) qv2 qv2 (qA qv0 qv1) qt hj1 (qe e0)), if_pos ⟨hj1, by exact qp1 qc3 qv0 (qA qv1 qv2) qs0 (qA qv1 qs2) qt hj⟩]; exact ha i (j - 1) hi (by exact qp3 qc5 qv0 qv1 qs0 (qA qv2 qv3) (qA (qA qv2 qv3) qk1) qv4 qv4 qs1 qt hi1 hj1 qw) (by exact qp2 qc4 qs0 (qA qv1 qv2) qs3 (qA qv1 qs2) qs0 qv3 qt hj (qx (qp1 qc3 qk1 qv0 (qA (qA qv1 qv2) qk1) qv0 qt hj1)))
  · rw [if_pos hi1]
    rcases Nat.lt_or_ge (lo + l) j with hj1 | hj1
    · rw [if_neg (by exact fun e0 => qf2 qc3 (qA (qA qv0 qv1) qk1) qv2 qv2 (qA qv0 qv1) qt hj1 (qe e0)), if_pos ⟨hj1, by exact qp1 qc3 qv0 (qA qv1 qv2) qs0 (qA qv1 qs2) qt hj⟩]
      have := h2 (j - 1 - lo) (by exact qp3 qc5 qv0 qv1 (qA (qA qv2 qv0) qk1) qv3 qv3 qs4 qv4 (qA qv1 qv2) qt hj1 qw qw) (by exact qp3 qc5 qs0 qv1 qs2 (qA qv3 qs1) qs4 qv2 (qA qv0 qv3) qv4 qt hj (qx (qp1 qc3 qk1 qv0 (qA (qA qv1 qv2) qk1) qv0 qt hj1)) (qx (qp2 qc4 qv0 qv1 (qA (qA qv0 qv2) qk1) qv3 qv3 qs1 qt hj1 qw)))
      rw [show lo + (j - 1 - lo) = j - 1 by exact Nat.le_antisymm (qp1 qc3 (qA qv0 qv1) qv2 (qA qv1 qv0) qv2 qt (qx (qp2 qc4 qv0 qv1 (qA (qA qv0 qv2) qk1) qv3 qv3 qs1 qt hj1 qw))) (qp1 qc3 qv0 (qA qv1 qv2) qv0 (qA qv2 qv1) qt qw)] at this; exact this
    · rw [if_pos (by exact Nat.le_antisymm (hj1) (qp2 qc4 (qA qv0 qv1) qv2 qv3 qv2 (qA qv0 qv1) qv3 qt hij (qi hi1)))]; exact NL.refl O.toOrdP pX
  · have ei : (if i = lo + l then lo + k else if lo + l < i ∧ i ≤ lo + k then i - 1 else i) = i - 1 := by rw [if_neg (by exact fun e0 => qf2 qc3 (qA (qA qv0 qv1) qk1) qv2 qv2 (qA qv0 qv1) qt hi1 (qe e0)), if_pos ⟨hi1, by exact qp2 qc4 qv0 (qA qv1 qv2) qv0 qv3 qs3 (qA qv1 qs2) qt hij hj⟩]
    have ej : (if j = lo + l then lo + k else if lo + l < j ∧ j ≤ lo + k then j - 1 else j) = j - 1 := by rw [if_neg (by exact fun e0 => qf3 qc4 qv0 qv1 (qA (qA qv2 qv3) qk1) qv0 qv1 (qA qv2 qv3) qt hij hi1 (qe e0)), if_pos ⟨by exact qp2 qc4 (qA (qA qv0 qv1) qk1) qv2 qv3 qv2 (qA (qA qv0 qv1) qk1) qv3 qt hij hi1, by exact qp1 qc3 qv0 (qA qv1 qv2) qs0 (qA qv1 qs2) qt hj⟩]
    rw [ei, ej]
    exact ha (i - 1) (j - 1) (by exact qp2 qc4 qv0 qv1 (qA (qA qv0 qv2) qk1) qv3 qv3 qs1 qt hi1 qw) (by exact oq74 hij) (by exact qp2 qc4 qs0 (qA qv1 qv2) qs3 (qA qv1 qs2) qs0 qv3 qt hj (qx (qp2 qc4 qk1 qv0 qv1 qv0 (qA (qA qv2 qv3) qk1) qv1 qt hij hi1)))
theorem binarySortC {lo n ok : Nat} {Q : Bool → SortSt → Shared → Prop} {st : SortSt} {s : Shared} (hk : kindOf st = κ) (p0 : ∀ x ∈ (arrOf st).toList, P x) (hs : lo + n ≤ (arrOf st).size) (h1 : 1 ≤ ok) (hn : ok ≤ n) (ha : Asc lt (arrOf st) lo ok) (hI : I s)
    (q : ∀ st' s', I s' → Bk st st' lo → Asc lt (arrOf st') lo n → Q true st' s') : kasC (model prog w) A E (binarySort' lo n ok) Q st s := by
  have hm : max ok 1 = ok := by exact oq75 h1
  refine kasC_bind (kasC_mono (loopAB (a := max ok 1) (Q := fun c st' s' => c.1 = none ∧ I s' ∧ Bk st st' lo ∧ Asc lt (arrOf st') lo n) (fun i c st' s' => c = (none, ()) ∧ I s' ∧ Bk st st' lo ∧ Asc lt (arrOf st') lo (ok + i)) ⟨rfl, hI, .rfl, ha⟩ ?_ ?_) ?_)
  · rintro i c st₁ s₁ hi ⟨rfl, hI₁, bk, as⟩
    have sz := bk.size
    have pX := bk.pX p0
    rw [hm] at hi ⊢
    generalize hkk : ok + i = k at as ⊢
    refine kasC_bind (kasC_mono (loopC (Q := fun c st' s' => st' = st₁ ∧ I s' ∧ ∃ l, c = (none, l, l) ∧ l ≤ k ∧ (∀ p, p < l → NL lt (arrOf st₁) (lo + k) (lo + p)) ∧ ∀ p, l ≤ p → p < k → NL lt (arrOf st₁) (lo + p) (lo + k))
      (fun t c st' s' => st' = st₁ ∧ I s' ∧ ∃ l r, c = (none, l, r) ∧ l ≤ r ∧ r ≤ k ∧ r - l ≤ k - t ∧ (∀ p, p < l → NL lt (arrOf st₁) (lo + k) (lo + p)) ∧ ∀ p, r ≤ p → p < k → NL lt (arrOf st₁) (lo + p) (lo + k))
      ⟨rfl, hI₁, 0, k, rfl, Nat.zero_le _, Nat.le_refl _, by exact Nat.le_refl _, fun p h => absurd h (Nat.not_lt_zero p), fun p h1 h2 => by exact qf2 qc2 qv0 qv1 qs1 qv0 qt h1 h2⟩ ?_ ?_) ?_)
    · rintro t c st' s₂ ht ⟨rfl, hI₂, l, r, rfl, g1, g2, g3, g4, g5⟩
      dsimp only
      by_cases hlr : l ≥ r
      · rw [if_pos hlr]
        obtain rfl : l = r := by exact Nat.le_antisymm (g1) (hlr)
        exact kasC_pure ⟨rfl, hI₂, l, rfl, g2, g4, g5⟩
      rw [if_neg hlr]
      refine kasC_bind (ltAtC O (bk.k.trans hk) pX (by exact oq76 hs hi hkk sz) (by exact oq77 hs hi hkk sz g1 g2) hI₂ fun x y s₃ h₃ hx hy => ?_)
      have mP : ∀ {t : Nat} {v : Keyed}, (arrOf st')[t]? = some v → P v := fun h => pX _ (List.mem_of_getElem? (get_toList.mp h))
      cases e : lt x y with
      | true =>
        refine kasC_pure ⟨rfl, h₃, l, (l + r) / 2, rfl, by exact oq78 hlr, by exact oq79 g1 g2, by exact oq80 g3, g4, fun p hp1 hp2 => ?_⟩
        refine NL.tr O.toOrdP pX (j := lo + (l + r) / 2) (by exact oq81 hs hi hkk sz g2 hlr) (as (lo + (l + r) / 2) (lo + p) (by exact oq82) (by exact oq83 hp1) (by exact qp1 qc3 (qA (qA qv0 qv1) qk1) (qA qv0 qv2) qs1 qv2 qt hp2)) fun x' y' hx' hy' => ?_
        rw [hy] at hx'; rw [hx] at hy'; cases hx'; cases hy'
        exact O.asy x y (mP hx) (mP hy) e
      | false =>
        refine kasC_pure ⟨rfl, h₃, (l + r) / 2 + 1, r, rfl, by exact oq84 hlr, g2, by exact oq85 g3, fun p hp => ?_, g5⟩
        refine NL.tr O.toOrdP pX (j := lo + (l + r) / 2) (by exact oq81 hs hi hkk sz g2 hlr) (fun x' y' hx' hy' => ?_) (as (lo + p) (lo + (l + r) / 2) (by exact qp0 qc2 qv0 (qA qv0 qv1) qt ) (by exact oq86 hp) (by exact oq87 g2 hlr))
        rw [hx] at hx'; rw [hy] at hy'; cases hx'; cases hy'
        exact e
    · rintro c st' s₂ ⟨rfl, hI₂, l, r, rfl, g1, g2, g3, g4, g5⟩
      obtain rfl : l = r := by exact Nat.le_antisymm (g1) (qp3 qc5 qv0 qv1 qv2 qv3 qv0 (qA qv2 qv1) (qA qv3 qv4) qv4 qt g3 qw (qx (Nat.le_refl _)))
      exact ⟨rfl, hI₂, l, rfl, g2, g4, g5⟩
    · rintro c st' s₂ ⟨rfl, hI₂, l, rfl, g2, g4, g5⟩
      refine kasC_bind (moveC (kasC_pure ⟨rfl, hI₂, bk.trans ⟨(bubble_perm _ _ _).toList, fun p hp => ?_, rfl, rfl, rfl⟩, ?_⟩))
      · show (bubble _ _ _)[p]? = _
        rw [getElem?_bubble (by exact oq76 hs hi hkk sz) _ (by exact qu), if_neg (by exact oq88 hp), if_neg (by exact oq89 hp)]
      · rw [show ok + (i + 1) = k + 1 by exact Nat.le_antisymm (qp1 qc3 (qA qv0 qs1) qs2 (qA qv0 qv1) qv2 qt (qe hkk)) (qp1 qc3 qs0 (qA qv1 qs2) qv0 (qA qv1 qv2) qt (qi hkk))]
        exact bubble_asc O pX (by exact oq76 hs hi hkk sz) g2 as g4 g5
  · rintro c st₁ s₁ ⟨rfl, hI₁, bk, as⟩
    rw [hm, show ok + (n - ok) = n by exact Nat.le_antisymm (qp1 qc3 (qA qv0 qv1) qv2 (qA qv1 qv0) qv2 qt (qx (hn))) (qp1 qc3 qv0 (qA qv1 qv2) qv0 (qA qv2 qv1) qt qw)] at as
    exact ⟨rfl, hI₁, bk, as⟩
  · rintro ⟨c, _⟩ st₁ s₁ ⟨rfl, hI₁, bk, as⟩
    exact kasC_pure (q _ _ hI₁ bk as)
end
end Tw
end

section
namespace Tw
open PySem PySem.W PyProof.Rows
/-- where runs begin, and how long they are -/
noncomputable def starts (o : Nat) : List (List Keyed) → List (Nat × Nat)
  | [] => []
  | l :: r => (o, l.length) :: starts (o + l.length) r
theorem starts_app (o : Nat) : ∀ (L R : List (List Keyed)), starts o (L ++ R) = starts o L ++ starts (o + L.flatten.length) R
  | [], R => by simp [starts]
  | l :: L, R => by
    show (o, l.length) :: starts (o + l.length) (L ++ R) = (o, l.length) :: (starts (o + l.length) L ++ _)
    rw [starts_app _ L R]
    congr 3
    rw [List.flatten_cons, List.length_append]; exact Nat.le_antisymm (qp0 qc3 (qA (qA qv0 qv1) qv2) (qA qv0 (qA qv1 qv2)) qt ) (qp0 qc3 (qA qv0 (qA qv1 qv2)) (qA (qA qv0 qv1) qv2) qt )
theorem starts_len (o : Nat) : ∀ (L : List (List Keyed)), (starts o L).length = L.length
  | [] => rfl
  | l :: L => by show (starts _ L).length + 1 = _; rw [starts_len _ L]; rfl
section
variable {prog : Program} {w : World} {A : Around} {E : Value → Shared → Prop} {κ : SortKind} {lt : Keyed → Keyed → Bool} {P : Keyed → Prop} {I : Shared → Prop}
/-- runs, and what is not yet looked at -/
structure RI (lt : Keyed → Keyed → Bool) (κ : SortKind) (a₀ : Array Keyed) (st : SortSt) (L : List (List Keyed)) (rest : List Keyed) : Prop where
  k : kindOf st = κ
  f : failedOf st = none
  perm : (arrOf st).toList.Perm a₀.toList
  arr : (arrOf st).toList = L.flatten ++ rest
  pend : (pendingOf st).toList.map (fun t => (t.1, t.2.1)) = starts 0 L
  run : ∀ l ∈ L, 1 ≤ l.length ∧ l.Pairwise (leB lt)
theorem RI.size {a₀ : Array Keyed} {st : SortSt} {L : List (List Keyed)} {rest : List Keyed} (R : RI lt κ a₀ st L rest) : (pendingOf st).size = L.length := by
  have := congrArg List.length R.pend
  rw [List.length_map, Array.length_toList, starts_len] at this; exact this
theorem RI.at {a₀ : Array Keyed} {st : SortSt} {L1 : List (List Keyed)} {B : List Keyed} {L2 : List (List Keyed)} {rest : List Keyed} (R : RI lt κ a₀ st (L1 ++ B :: L2) rest) : ∃ pw, (pendingOf st)[L1.length]? = some (L1.flatten.length, B.length, pw) := by
  have e := congrArg (fun l => l[L1.length]?) R.pend
  rw [starts_app, List.getElem?_append_right (by rw [starts_len]; exact Nat.le_refl _), starts_len, Nat.sub_self, Nat.zero_add] at e
  have e : ((pendingOf st).toList.map (fun t => (t.1, t.2.1)))[L1.length]? = some (L1.flatten.length, B.length) := e
  rw [List.getElem?_map] at e
  obtain ⟨⟨a, b, c⟩, h1, h2⟩ := Option.map_eq_some_iff.mp e
  cases h2
  exact ⟨c, by rw [← Array.getElem?_toList]; exact h1⟩
theorem set_erase {α : Type} {l : List α} {p1 p2 : List α} {a b v : α} (h : l = p1 ++ a :: b :: p2) : (l.set p1.length v).eraseIdx (p1.length + 1) = p1 ++ v :: p2 := by
  subst h
  rw [List.set_append_right _ _ (Nat.le_refl _), Nat.sub_self, List.set_cons_zero, List.eraseIdx_append_of_length_le (by exact qp0 qc1 qv0 qs0 qt ), Nat.add_sub_cancel_left]
  rfl
theorem map_split {α β : Type} {f : α → β} {l : List α} {p1 p2 : List β} {x y : β} (h : l.map f = p1 ++ x :: y :: p2) : ∃ q1 a b q2, l = q1 ++ a :: b :: q2 ∧ q1.map f = p1 ∧ f a = x ∧ f b = y ∧ q2.map f = p2 := by
  obtain ⟨q1, r, rfl, h1, h2⟩ := List.map_eq_append_iff.mp h
  obtain ⟨a, r2, rfl, h3, h4⟩ := List.map_eq_cons_iff.mp h2
  obtain ⟨b, q2, rfl, h5, h6⟩ := List.map_eq_cons_iff.mp h4
  exact ⟨q1, a, b, q2, rfl, h1, h3, h5, h6⟩
variable (O : Ord9 prog w A κ lt P I)
include O
theorem mergeRun {a₀ : Array Keyed} {L1 L2 : List (List Keyed)} {X Y : List Keyed} {rest : List Keyed} {Q : Bool → SortSt → Shared → Prop} {st : SortSt} {s : Shared} {i : Nat} (p0 : ∀ x ∈ a₀.toList, P x) (R : RI lt κ a₀ st (L1 ++ X :: Y :: L2) rest) (hi : i = L1.length) (hI : I s)
    (q : ∀ M st' s', I s' → M.length = X.length + Y.length → RI lt κ a₀ st' (L1 ++ M :: L2) rest → Q true st' s') : kasC (model prog w) A E (mergeAt' i) Q st s := by
  subst hi
  obtain ⟨pw, g1⟩ := R.at
  have R' : RI lt κ a₀ st ((L1 ++ [X]) ++ Y :: L2) rest := by rw [List.append_assoc]; exact R
  obtain ⟨pw2, g2⟩ := R'.at
  rw [List.length_append, List.length_singleton, List.flatten_append, List.length_append, List.flatten_singleton] at g2
  have rX := R.run X (by simp)
  have rY := R.run Y (by simp)
  have hX : (arrOf st).toList = L1.flatten ++ (X ++ (Y ++ (L2.flatten ++ rest))) := by rw [R.arr]; simp
  refine mergeAtC O g1 g2 R.k R.f hI hX rfl rfl rfl rfl rX.1 rY.1 (fun x hx => p0 x (R.perm.mem_iff.mp (by rw [hX]; rcases List.mem_append.mp hx with h | h <;> simp [h]))) rX.2 rY.2 fun M st' s' h' pm sm k1 f1 ar pe => q M st' s' h' (by rw [pm.length_eq, List.length_append]) ?_
  have hlen : M.length = X.length + Y.length := by rw [pm.length_eq, List.length_append]
  refine ⟨k1, f1, ?_, by rw [ar]; simp, ?_, fun l hl => ?_⟩
  · refine List.Perm.trans ?_ R.perm
    rw [ar, hX]
    refine List.Perm.append_left _ ?_
    rw [← List.append_assoc X]
    exact List.Perm.append_right _ pm
  · rw [pe, Array.toList_eraseIdxIfInBounds, Array.toList_setIfInBounds]
    have e0 := R.pend
    rw [starts_app] at e0
    obtain ⟨q1, a, b, q2, e1, e2, e3, e4, e5⟩ := map_split e0
    have l1 : L1.length = q1.length := by rw [← starts_len 0 L1, ← e2, List.length_map]
    rw [l1, set_erase e1, List.map_append, List.map_cons, e2, e5, starts_app, Nat.zero_add]
    show starts 0 L1 ++ (L1.flatten.length, X.length + Y.length) :: _ = starts 0 L1 ++ (L1.flatten.length, M.length) :: starts (L1.flatten.length + M.length) L2
    rw [hlen, Nat.add_assoc]
  · rcases List.mem_append.mp hl with h | h
    · exact R.run l (List.mem_append_left _ h)
    · rcases List.mem_cons.mp h with rfl | h
      · exact ⟨by omega, sm⟩
      · exact R.run l (by simp [h])
end
theorem split2 {α : Type} {l : List α} {i : Nat} (h : i + 1 < l.length) : ∃ p x y q, l = p ++ x :: y :: q ∧ p.length = i := by
  refine ⟨l.take i, l[i], l[i + 1], l.drop (i + 2), ?_, by rw [List.length_take]; exact oq90 h⟩
  rw [← List.drop_eq_getElem_cons, ← List.drop_eq_getElem_cons, List.take_append_drop]
section
variable {prog : Program} {w : World} {A : Around} {E : Value → Shared → Prop} {κ : SortKind} {lt : Keyed → Keyed → Bool} {P : Keyed → Prop} {I : Shared → Prop}
theorem RI.bk {a₀ : Array Keyed} {st st₁ : SortSt} {L : List (List Keyed)} {rest : List Keyed} {lo : Nat} (R : RI lt κ a₀ st L rest) (hlo : L.flatten.length = lo) (b : Bk st st₁ lo) : RI lt κ a₀ st₁ L ((arrOf st₁).toList.drop lo) := by
  refine ⟨b.k.trans R.k, b.f.trans R.f, b.perm.trans R.perm, ?_, by rw [b.p]; exact R.pend, R.run⟩
  have e : (arrOf st₁).toList.take lo = L.flatten := by
    have : (arrOf st).toList.take lo = L.flatten := by rw [R.arr, List.take_append_of_le_length (by exact qi hlo), List.take_of_length_le (by exact qe hlo)]
    rw [← this]
    refine List.ext_getElem? fun k => ?_
    rcases Nat.lt_or_ge k lo with h | h
    · rw [List.getElem?_take_of_lt h, List.getElem?_take_of_lt h, Array.getElem?_toList, Array.getElem?_toList]; exact b.pre k h
    · rw [List.getElem?_take_eq_none h, List.getElem?_take_eq_none h]
  rw [← e, List.take_append_drop]
theorem asc_pair {X : Array Keyed} {lo n : Nat} (h : Asc lt X lo n) : ((X.toList.drop lo).take n).Pairwise (leB lt) := by
  refine List.pairwise_iff_getElem.mpr fun i j hi hj hij => ?_
  rw [List.length_take, List.length_drop] at hj
  have g : ∀ t (ht : t < ((X.toList.drop lo).take n).length), X[lo + t]? = some ((X.toList.drop lo).take n)[t] := fun t ht => by
    have h2 := List.getElem?_eq_getElem ht
    rw [List.getElem?_take_of_lt (by rw [List.length_take] at ht; exact oq23 ht), List.getElem?_drop, Array.getElem?_toList] at h2
    exact h2
  exact h (lo + i) (lo + j) (by exact qp0 qc2 qv0 (qA qv0 qv1) qt ) (by exact qp1 qc3 (qA qv0 qv1) (qA qv0 qv2) qs1 qv2 qt hij) (by exact oq91 hj) _ _ (g j _) (g i _)
theorem map_modify {α β : Type} {p : Array α} {k : Nat} {f : α → α} {g : α → β} (h : ∀ x, g (f x) = g x) : (p.modify k f).toList.map g = p.toList.map g := by
  rw [Array.toList_modify]
  refine List.ext_getElem? fun t => ?_
  rw [List.getElem?_map, List.getElem?_map, List.getElem?_modify]
  cases p.toList[t]? with
  | none => rfl
  | some x =>
    by_cases e : k = t
    · simp [e, h]
    · simp [e]
end
section
variable {prog : Program} {w : World} {A : Around} {E : Value → Shared → Prop} {κ : SortKind} {lt : Keyed → Keyed → Bool} {P : Keyed → Prop} {I : Shared → Prop} (O : Ord9 prog w A κ lt P I)
include O
noncomputable def SrP (lt : Keyed → Keyed → Bool) (κ : SortKind) (I : Shared → Prop) (a₀ : Array Keyed) (i : Nat) (r : ForInStep (Option Unit × Nat)) (st' : SortSt) (s' : Shared) : Prop := match r with
  | .done c' => c'.1 = none ∧ I s' ∧ ∃ L, RI lt κ a₀ st' L []
  | .yield c' => I s' ∧ ∃ lo L rest, c' = (none, lo) ∧ RI lt κ a₀ st' L rest ∧ L.flatten.length = lo ∧ i + 1 ≤ lo
theorem sortRunsC {a₀ : Array Keyed} {Q : Unit → SortSt → Shared → Prop} {st : SortSt} {s : Shared} (p0 : ∀ x ∈ a₀.toList, P x) (hk : kindOf st = κ) (hf : failedOf st = none) (hp : pendingOf st = #[]) (ha : arrOf st = a₀) (hI : I s)
    (q : ∀ st' s', I s' → failedOf st' = none → (arrOf st').toList.Perm a₀.toList → (arrOf st').toList.Pairwise (leB lt) → Q () st' s') : kasC (model prog w) A E sortRuns' Q st s := by
  refine kasC_bind (kasC_get ?_)
  have R0 : RI lt κ a₀ st [] a₀.toList := ⟨hk, hf, by rw [ha], by rw [ha]; rfl, by rw [hp]; rfl, fun l hl => nomatch hl⟩
  have hN : (arrOf st).size = a₀.size := by rw [ha]
  have tot : ∀ {st' : SortSt} {L : List (List Keyed)} {rest : List Keyed}, RI lt κ a₀ st' L rest → L.flatten.length + rest.length = a₀.size := fun {st' L rest} R => by
    have := R.perm.length_eq
    rw [R.arr, List.length_append, Array.length_toList] at this; exact this
  have sz : ∀ {st' : SortSt} {L : List (List Keyed)} {rest : List Keyed}, RI lt κ a₀ st' L rest → (arrOf st').size = a₀.size := fun {st' L rest} R => by
    have := R.perm.length_eq
    rwa [Array.length_toList, Array.length_toList] at this
  have pX : ∀ {st' : SortSt} {L : List (List Keyed)} {rest : List Keyed}, RI lt κ a₀ st' L rest → ∀ x ∈ (arrOf st').toList, P x := fun {st' L rest} R x hx => p0 x (R.perm.mem_iff.mp hx)
  refine kasC_bind (kasC_mono (loopC (Q := fun c st' s' => c.1 = none ∧ I s' ∧ ∃ L, RI lt κ a₀ st' L []) (fun i c st' s' => I s' ∧ ∃ lo L rest, c = (none, lo) ∧ RI lt κ a₀ st' L rest ∧ L.flatten.length = lo ∧ i ≤ lo) ⟨hI, 0, [], _, rfl, R0, rfl, Nat.le_refl _⟩ ?_ ?_) ?_)
  · rintro i c st₁ s₁ hi ⟨hI₁, lo, L, rest, rfl, R, hlo, hil⟩
    have ht := tot R
    have hs₁ := sz R
    by_cases hge : lo ≥ (arrOf st).size
    · refine iteT hge (kasC_pure ⟨rfl, hI₁, L, ?_⟩)
      obtain rfl : rest = [] := List.length_eq_zero_iff.mp (by exact Nat.le_antisymm (qp4 qc5 qv0 qk0 qv1 qv2 qv3 qv4 (qA qv4 qv0) qv1 qv2 qv3 qt (qi hN) (qi hlo) (qe ht) hge) (qp0 qc1 qk0 qv0 qt ))
      exact R
    refine iteF hge ?_
    refine kasC_bind (countRunC O R.k (pX R) (show lo + ((arrOf st).size - lo) ≤ _ by exact qp3 qc5 (qA qv0 qv1) qv2 qv3 qv4 qv4 qv2 (qA qv1 qv0) qv3 qt (qe hN) (qi hs₁) (qx (qp1 qc2 qv0 qv1 qs0 qv1 qt (qn hge)))) (show 1 ≤ (arrOf st).size - lo by exact qp2 qc3 qk1 qv0 qs1 qv2 qv2 (qA qv0 qv1) qt (qn hge) qw) hI₁ fun n st₂ s₂ h₂ bk n1 n2 as => ?_)
    dsimp -zeta only
    extract_lets n0 jp
    have hi : i < (arrOf st).size := hi
    have hj : ∀ (n : Nat) (st₃ : SortSt) (s₃ : Shared), I s₃ → Bk st₁ st₃ lo → 1 ≤ n → n ≤ (arrOf st).size - lo → Asc lt (arrOf st₃) lo n → kasC (model prog w) A E (jp () n) (SrP lt κ I a₀ i) st₃ s₃ := by
      intro n st₃ s₃ h₃ bk n1 n2 as
      have R₃ := R.bk hlo bk
      have srt := asc_pair as
      generalize (arrOf st₃).toList.drop lo = rest₃ at R₃ srt
      have ht₃ := tot R₃
      refine kasC_bind (kasC_get ?_)
      extract_lets z1 jp2
      have hj2 : ∀ (st₄ : SortSt) (s₄ : Shared) (L' : List (List Keyed)), I s₄ → RI lt κ a₀ st₄ L' rest₃ → L'.flatten.length = lo → kasC (model prog w) A E (jp2 ()) (SrP lt κ I a₀ i) st₄ s₄ := by
        intro st₄ s₄ L' h₄ R₄ hl₄
        have hlen : (rest₃.take n).length = n := by rw [List.length_take]; exact oq92 hN hlo n2 ht₃
        refine kasC_bind (kasC_modify ?_)
        refine kasC_pure ⟨h₄, lo + n, L' ++ [rest₃.take n], rest₃.drop n, rfl, ⟨R₄.k, R₄.f, R₄.perm, ?_, ?_, fun l hl => ?_⟩, ?_, by exact qp2 qc3 qs0 (qA qv1 qv2) qv0 qv1 qk1 qv2 qt hil n1⟩
        · show (arrOf st₄).toList = _
          rw [R₄.arr, List.flatten_append, List.flatten_singleton, List.append_assoc, List.take_append_drop]
        · show ((pendingOf st₄).push (lo, n, 0)).toList.map _ = _
          rw [Array.toList_push, List.map_append, R₄.pend, starts_app, hl₄, Nat.zero_add]
          show _ ++ [(lo, n)] = _ ++ [(lo, (rest₃.take n).length)]
          rw [hlen]
        · rcases List.mem_append.mp hl with h | h
          · exact R₄.run l h
          · rw [List.mem_singleton.mp h]; exact ⟨by exact qp2 qc2 qk1 qv0 qk1 qv1 qv1 qv0 qt n1 (qi hlen), srt⟩
        · rw [List.flatten_append, List.flatten_singleton, List.length_append, hl₄, hlen]
      clear_value jp2
      cases hbk : (pendingOf st₃).back? with
      | none =>
        exact hj2 st₃ s₃ L h₃ R₃ hlo
      | some t =>
        obtain ⟨s1, n1, w1⟩ := t
        dsimp -zeta only
        extract_lets pw
        refine kasC_bind (kasC_mono (loopC (Q := fun c st' s' => c.1 = none ∧ I s' ∧ ∃ L', RI lt κ a₀ st' L' rest₃ ∧ L'.flatten.length = lo) (fun t c st' s' => c.1 = none ∧ I s' ∧ ∃ L', RI lt κ a₀ st' L' rest₃ ∧ L'.flatten.length = lo) ⟨rfl, h₃, L, R₃, hlo⟩ ?_ fun _ _ _ h => h) ?_)
        · rintro t c st₄ s₄ _ ⟨hc, h₄, L', R₄, hl₄⟩
          refine kasC_bind (kasC_get ?_)
          extract_lets pp
          have hps : pp.size = L'.length := R₄.size
          cases hpp : (if pp.size > 1 then pp[pp.size - 2]? else none) with
          | none => exact kasC_pure ⟨rfl, h₄, L', R₄, hl₄⟩
          | some t =>
            obtain ⟨x1, x2, older⟩ := t
            by_cases ho : older ≤ pw
            · exact iteT ho (kasC_pure ⟨rfl, h₄, L', R₄, hl₄⟩)
            refine iteF ho ?_
            have h2 : pp.size > 1 := by
              by_cases h : pp.size > 1
              · exact h
              · rw [if_neg h] at hpp; cases hpp
            obtain ⟨L1, X, Y, L2, rfl, hl1⟩ := split2 (l := L') (i := pp.size - 2) (by exact qp2 qc3 (qA qs0 qk1) qv1 qv2 qv1 (qA qv0 qk2) qv2 qt (qe hps) (qx (qp1 qc1 qk2 qv0 (qA qk1 qk1) qv0 qt h2)))
            refine kasC_bind (mergeRun O p0 R₄ hl1.symm h₄ fun M st₅ s₅ h₅ hM R₅ => ?_)
            refine iteF (by simp) (kasC_pure ⟨rfl, h₅, _, R₅, ?_⟩)
            rw [← hl₄]
            simp only [List.flatten_append, List.flatten_cons, List.length_append]
            exact Nat.le_antisymm (qp1 qc5 (qA qv0 (qA qv1 qv2)) (qA qv0 (qA qv3 (qA qv4 qv2))) qv1 (qA qv3 qv4) qt (qe hM)) (qp1 qc5 (qA qv0 (qA qv1 (qA qv2 qv3))) (qA qv0 (qA qv4 qv3)) (qA qv1 qv2) qv4 qt (qi hM))
        · rintro ⟨c, _⟩ st₄ s₄ ⟨hc, h₄, L', R₄, hl₄⟩
          have hc : c = none := hc
          subst hc
          refine kasC_bind (kasC_modify ?_)
          refine hj2 _ _ L' h₄ ⟨R₄.k, R₄.f, R₄.perm, R₄.arr, ?_, R₄.run⟩ hl₄
          show ((pendingOf st₄).modify ((pendingOf st₄).size - 1) fun x => (x.1, x.2.1, pw)).toList.map _ = _
          exact (map_modify (g := fun t : Nat × Nat × Nat => (t.1, t.2.1)) (f := fun x => (x.1, x.2.1, pw)) (fun x => rfl)).trans R₄.pend
    clear_value jp
    refine kasC_mono (Q := SrP lt κ I a₀ i) ?_ (fun r st' s' h => by cases r <;> exact h)
    by_cases hmr : n < minRun' (arrOf st).size (arrOf st).size 0
    · refine iteT hmr (kasC_bind (ruleC ?_))
      have bs := bk.size
      have hfo : min ((arrOf st).size - lo) (minRun' (arrOf st).size (arrOf st).size 0) ≤ (arrOf st).size - lo := Nat.min_le_left _ _
      have hfn : n ≤ min ((arrOf st).size - lo) (minRun' (arrOf st).size (arrOf st).size 0) := Nat.le_min.mpr ⟨n2, Nat.le_of_lt hmr⟩
      refine kasC_bind (binarySortC O (n := min ((arrOf st).size - lo) (minRun' (arrOf st).size (arrOf st).size 0)) (bk.k.trans R.k) (bk.pX (pX R)) (by exact oq93 hN hs₁ hge bs) n1 hfn as h₂ fun st₃ s₃ h₃ bk₃ as₃ => ?_)
      exact iteF (by simp) (hj _ st₃ s₃ h₃ (bk.trans bk₃) (Nat.le_trans n1 hfn) hfo as₃)
    · exact iteF hmr (hj n st₂ s₂ h₂ bk n1 n2 as)
  · rintro c st₁ s₁ ⟨hI₁, lo, L, rest, rfl, R, hlo, hil⟩
    have ht := tot R
    obtain rfl : rest = [] := List.length_eq_zero_iff.mp (by have : (arrOf st).size ≤ lo := hil; exact Nat.le_antisymm (qp4 qc5 qv0 qk0 qv1 qv2 qv3 qv4 (qA qv4 qv0) qv1 qv2 qv3 qt (qi hN) (qi hlo) (qe ht) this) (qp0 qc1 qk0 qv0 qt ))
    exact ⟨rfl, hI₁, L, R⟩
  · rintro ⟨c, lo⟩ st₁ s₁ ⟨hc, hI₁, L, R⟩
    have hc : c = none := hc
    subst hc
    have ht := tot R
    have hL : L.length ≤ a₀.size := by
      have : ∀ (L : List (List Keyed)), (∀ l ∈ L, 1 ≤ l.length) → L.length ≤ L.flatten.length := by
        intro L
        induction L with
        | nil => intro _; exact Nat.le_refl _
        | cons l L ih =>
          intro h
          have h1 := h l List.mem_cons_self
          have h2 := ih fun l' hl' => h l' (List.mem_cons_of_mem _ hl')
          rw [List.flatten_cons, List.length_append, List.length_cons]; exact qp2 qc3 qs0 (qA qv1 qv2) qk1 qv1 qv0 qv2 qt h1 h2
      have := this L fun l hl => (R.run l hl).1
      rw [List.length_nil] at ht; exact qp2 qc3 qv0 qv1 (qA qv2 qk0) qv1 qv0 qv2 qt (qe ht) this
    refine kasC_bind (kasC_mono (loopC (Q := fun c st' s' => c.1 = none ∧ I s' ∧ ∃ L, RI lt κ a₀ st' L [] ∧ L.length ≤ 1) (fun i c st' s' => c.1 = none ∧ I s' ∧ ∃ L, RI lt κ a₀ st' L [] ∧ L.length + i ≤ a₀.size) ⟨rfl, hI₁, L, R, by exact qp1 qc2 (qA qv0 qk0) qv1 qv0 qv1 qt hL⟩ ?_ ?_) ?_)
    · rintro i c st₂ s₂ hi ⟨hc, hI₂, L, R₂, hLi⟩
      have hps := R₂.size
      refine kasC_bind (kasC_get ?_)
      by_cases h1 : (pendingOf st₂).size ≤ 1
      · exact iteT h1 (kasC_pure ⟨rfl, hI₂, L, R₂, by exact qp2 qc2 qv0 qk1 qv0 qv1 qv1 qk1 qt (qi hps) h1⟩)
      refine iteF h1 ?_
      extract_lets j0 bf j1
      have hj1 : j1 + 1 < L.length := by
        have hj0 : j0 + 1 < L.length := by show (pendingOf st₂).size - 2 + 1 < _; exact qp2 qc3 (qA qs0 qk1) qv1 qv2 qv1 (qA qv0 qk2) qv2 qt (qe hps) (qx (qp1 qc1 qk2 qv0 (qA qk1 qk1) qv0 qt (qn h1)))
        show (if _ then j0 - 1 else j0) + 1 < _
        split
        · exact Nat.lt_of_le_of_lt (Nat.succ_le_succ (Nat.sub_le _ _)) hj0
        · exact hj0
      obtain ⟨L1, X, Y, L2, rfl, hl1⟩ := split2 hj1
      refine kasC_bind (mergeRun O p0 R₂ hl1.symm hI₂ fun M st₃ s₃ h₃ hM R₃ => ?_)
      refine iteF (by simp) (kasC_pure ⟨rfl, h₃, _, R₃, ?_⟩)
      simp only [List.length_append, List.length_cons] at hLi ⊢
      exact qp1 qc4 (qA (qA qv0 qs1) qs2) qv3 (qA (qA qv0 (qA qs1 qk1)) qv2) qv3 qt hLi
    · rintro c st₂ s₂ ⟨hc, hI₂, L, R₂, hLi⟩
      have hLi : L.length + (arrOf st).size ≤ a₀.size := hLi
      exact ⟨hc, hI₂, L, R₂, by exact qp2 qc3 qv0 qk1 qv1 qv2 (qA qv0 qv2) qv1 qt (qi hN) hLi⟩
    · rintro ⟨c, _⟩ st₂ s₂ ⟨hc, hI₂, L, R₂, hL1⟩
      have hc : c = none := hc
      subst hc
      refine kasC_pure (q st₂ s₂ hI₂ R₂.f R₂.perm ?_)
      rw [R₂.arr, List.append_nil]
      cases L with
      | nil => exact List.Pairwise.nil
      | cons l L =>
        obtain rfl : L = [] := List.length_eq_zero_iff.mp (by simp at hL1; exact hL1 ▸ rfl)
        rw [List.flatten_singleton]
        exact (R₂.run l List.mem_cons_self).2
end
end Tw
end

section
namespace Tw
open PySem PySem.W PyProof.Rows
/-- the heap while list.sort works -/
noncomputable def hp6 (h : Heap) (a : Addr) (vs : List Value) : Heap := ((h.update a (Obj.mapSeq fun _ => #[])).push (seqObj "tuple" vs.toArray 0)).push (seqObj "list" #[] 0)
section
variable {s : Shared} {A : Around} {prog : Program} {w : World} {E : Value → Shared → Prop} {κ : SortKind} {lt : Keyed → Keyed → Bool} {P : Keyed → Prop}
theorem list_sort9 {a : Addr} {vs : List Value} {n : Nat} {R : PySem.Fin → Shared → Prop} (ho : s.heap.get? a = some (seqObj "list" vs.toArray n)) (hsl : vs.length ≤ sizeLine)
    (hkk : ∀ v₁ v₂ rest, vs = v₁ :: v₂ :: rest → ∀ Q : SortKind → Shared → Prop, Q κ { s with heap := hp6 s.heap a vs } → wpAny (model prog w) A (keyKind' vs.toArray) Q E { s with heap := hp6 s.heap a vs })
    (O : Ord9 prog w A κ lt P (fun s' => s' = { s with heap := hp6 s.heap a vs })) (hP : ∀ x ∈ (pairsOf vs).toList, P x)
    (h : ∀ out : Array Keyed, out.toList.Perm (pairsOf vs).toList → out.toList.Pairwise (leB lt) → R (.done (.ret .none)) { s with heap := sortedHeap s.heap a vs (out.map (·.2)) }) : wpAny (model prog w) A (Builtin.«list.sort» ⟨[.ref a], []⟩) R E s := by
  rw [list_sort_plain]
  refine wpAny_bind (listItems_at ho rfl ?_)
  refine wpAny_bind (listUpdate_at ho rfl ?_ (by rw [List.size_toArray]; exact hsl) (Nat.zero_le _))
  obtain ⟨e1, ho1⟩ : ∃ e1, (s.heap.update a (Obj.mapSeq fun _ => #[])).get? a = some (seqObj "list" #[] e1) := ⟨_, get?_update_seq ho (fun _ => #[])⟩
  refine wpAny_bind (seqEpoch_at ho1 rfl ?_)
  refine wpAny_bind (wpAny_newTuple ?_ hsl)
  refine wpAny_bind (wpAny_newList ?_ (Nat.zero_le _))
  refine wpAny_holding ?_
  have ho6 : (hp6 s.heap a vs).get? a = some (seqObj "list" #[] e1) := Heap.get?_push_of_some _ (Heap.get?_push_of_some _ ho1)
  show wpAny (model prog w) A _ R E { s with heap := hp6 s.heap a vs }
  dsimp only
  have hpl : ∀ out : Array Keyed, out.toList.Perm (pairsOf vs).toList → (out.map (·.2)).size ≤ sizeLine + 1 := fun out p => by
    rw [Array.size_map, ← Array.length_toList, p.length_eq, Array.length_toList, pairsOf_size]; exact Nat.le_succ_of_le hsl
  by_cases h2 : vs.toArray.size < 2
  · rw [if_pos h2, if_pos h2]
    refine wpAny_bind (wpAny_pure ?_)
    rw [StateT.run_pure]
    refine wpAny_bind (wpAny_pure ?_)
    dsimp only
    refine wpAny_bind (seqEpoch_at ho6 rfl ?_)
    refine wpAny_bind (listUpdate_at ho6 rfl ?_ (Nat.zero_le _) (hpl (pairsOf vs) (.refl _)))
    simp only [bne_self_eq_false, Bool.false_eq_true, if_false]
    refine wpAny_pure (h (pairsOf vs) (.refl _) ?_)
    rw [List.size_toArray] at h2
    rw [pairsOf_toList]
    match vs, h2 with
    | [], _ => exact .nil
    | [_], _ => exact List.pairwise_singleton ..
  · rw [if_neg h2, if_neg h2]
    rw [List.size_toArray] at h2
    obtain ⟨v₁, v₂, rest, e⟩ : ∃ v₁ v₂ rest, vs = v₁ :: v₂ :: rest := by
      match vs, h2 with
      | [], h2 => exact absurd (by decide) h2
      | [_], h2 => exact absurd (Nat.lt_succ_self 1) h2
      | v₁ :: v₂ :: rest, _ => exact ⟨v₁, v₂, rest, rfl⟩
    refine wpAny_bind (hkk v₁ v₂ rest e _ ?_)
    have run := sortRunsC (E := E) O (a₀ := pairsOf vs) (Q := fun _ st' s' => s' = { s with heap := hp6 s.heap a vs } ∧ failedOf st' = none ∧ (arrOf st').toList.Perm (pairsOf vs).toList ∧ (arrOf st').toList.Pairwise (leB lt)) (st := SortSt.mk' κ (vs.toArray.zip vs.toArray) #[] 7 none) (s := { s with heap := hp6 s.heap a vs }) hP rfl rfl rfl rfl rfl fun st' s' a b c d => ⟨a, b, c, d⟩
    refine wpAny_bind (wpAny_mono run ?_ fun _ _ e => e)
    rintro ⟨⟨⟩, st'⟩ s' ⟨rfl, hf, hp, hs⟩
    dsimp only at hf hp hs ⊢
    refine wpAny_bind (seqEpoch_at ho6 rfl ?_)
    refine wpAny_bind (listUpdate_at ho6 rfl ?_ (Nat.zero_le _) (hpl _ hp))
    rw [hf]
    simp only [bne_self_eq_false, Bool.false_eq_true, if_false]
    exact wpAny_pure (h (arrOf st') hp hs)
/-- strs in their order -/
noncomputable def ltS (x y : Keyed) : Bool := decide ((strOf x.1).cps.toList < (strOf y.1).cps.toList)
theorem ord_strs {I : Shared → Prop} : Ord9 prog w A oneType' ltS (fun x => ∃ k t, x.1 = .str k t) I where
  irr := fun x _ => decide_eq_false (List.lt_irrefl _)
  tr := fun x y z _ _ _ h1 h2 => decide_eq_false (List.not_lt.mpr (List.le_trans (List.not_lt.mp (of_decide_eq_false h2)) (List.not_lt.mp (of_decide_eq_false h1))))
  asy := fun x y _ _ h => decide_eq_false fun h' => List.lt_irrefl _ (List.lt_trans (of_decide_eq_true h) h')
  cmp := fun x y s Q => by
    rintro ⟨k, t, ex⟩ ⟨k', t', ey⟩ hI q
    have q := q s hI
    unfold ltS at q
    rw [ex, ey] at q ⊢
    exact oneLt_str q
theorem list_sort_strs {a : Addr} {vs : List Value} {ss : List Str} {n : Nat} {R : PySem.Fin → Shared → Prop} (ho : s.heap.get? a = some (seqObj "list" vs.toArray n)) (hS : StrsAre vs ss) (hsl : vs.length ≤ sizeLine)
    (h : ∀ (out : Array Value) (ss' : List Str), StrsAre out.toList ss' → ss'.Perm ss → ss'.Pairwise (fun a b => ¬ b.cps.toList < a.cps.toList) → R (.done (.ret .none)) { s with heap := sortedHeap s.heap a vs out }) : wpAny (model prog w) A (Builtin.«list.sort» ⟨[.ref a], []⟩) R E s := by
  refine list_sort9 ho hsl (κ := oneType') (lt := ltS) (fun v₁ v₂ rest e Q q => by subst e; rw [keyKind_strs hS]; exact wpAny_pure q) ord_strs (fun x hx => ?_) fun out p o => ?_
  · rw [pairsOf_toList] at hx
    obtain ⟨k, t, e⟩ := hS.all _ (mem_zip_self hx).2
    exact ⟨k, t, e⟩
  · have e2 : (pairsOf vs).toList.map (·.2) = vs := by rw [pairsOf_toList]; exact List.map_snd_zip (Nat.le_refl _)
    have pv : (out.map (·.2)).toList.Perm vs := by
      have := p.map (·.2)
      rw [e2] at this
      rwa [Array.toList_map]
    have all : ∀ v ∈ (out.map (·.2)).toList, ∃ x t, v = .str x t := fun v hv => hS.all v (pv.mem_iff.mp hv)
    refine h _ _ (strsAre_map _ all) ?_ ?_
    · have := pv.map strOf
      rwa [hS.strs] at this
    · rw [Array.toList_map, List.map_map, List.pairwise_map]
      refine List.Pairwise.imp_of_mem ?_ o
      intro x y hx hy hle
      have hx1 := (p.mem_iff.mp hx)
      have hy1 := (p.mem_iff.mp hy)
      rw [pairsOf_toList] at hx1 hy1
      have ex := (mem_zip_self hx1).1
      have ey := (mem_zip_self hy1).1
      have : ltS y x = false := hle
      unfold ltS at this
      rw [ex, ey] at this
      exact of_decide_eq_false this
end
end Tw
end

section
namespace Tw
open PySem PySem.SeqAt

/-! sorted(x), where x is a dict or a list -/
section
variable {cx : Cx} {ι : List Addr} {ρ : Rho} {H : H} {s : Shared} {A : Around} {prog : Program} {w : World} {E : Value → Shared → Prop}
theorem collect_items (S : St cx ι ρ H s) (hh : A.handled = none) {n : Nat} {d : Addr} {vs : List V} {R : List Value → Shared → Prop} (gi : ι[n]? = some d) (hi : itemsAt H n vs)
    (q : ∀ (h' : Heap) (tk : Nat) (xs : List Value), (∀ b o, s.heap.get? b = some o → h'.get? b = some o) → s.heap.objs.size < h'.objs.size → RepVs ι s.heap xs vs → vs.length ≤ SZ → R xs { s with heap := h', toks := tk }) : wpAny (model prog cx.w) A (collect (.ref d)) R E s := by
  have hz : sizeLine = SZ := rfl
  rcases hi with ⟨es, ver, hH, rfl⟩ | hH
  · obtain ⟨ents, D⟩ := S.dict gi hH
    have e : ents.size = es.length := by rw [← Array.length_toList, D.rep.length]
    exact collect_raw hh (S.notMods gi) D.get (by rw [e, hz]; exact D.le) fun h' tk hk hs => q h' tk _ hk hs (keys_reps D.rep) (by rw [List.length_map]; exact D.le)
  · obtain ⟨vals, m, g, rv, z⟩ := S.objOf gi hH
    refine PyProof.Rows.collect_list (vs := vals.toList) (isList_of g) (q _ s.toks vals.toList (fun b o e => ?_) ?_ rv z) (by rw [rv.length, hz]; exact z)
    · rw [Heap.get?_update_other _ _ (fun e' => Nat.lt_irrefl _ (by rw [← e'] at e; exact Heap.lt_size e))]
      exact Heap.get?_push_of_some _ e
    · rw [Heap.size_update, PyProof.Rows.size_push']; exact Nat.lt_succ_self _
theorem strs_are' {h : Heap} : ∀ {xs : List Value} {ks : List (List Nat)}, RepVs ι h xs (ks.map V.str) → ∃ ss : List Str, PyProof.Rows.StrsAre xs ss ∧ ks = ss.map (·.cps.toList) ∧ ∀ k ∈ ss, k.length ≤ SZ
  | _, [], r => ⟨[], by rw [r.nilI]; exact .nil, rfl, fun _ h => nomatch h⟩
  | _, k :: ks, r => by
    obtain ⟨x, ys, rfl, g, r'⟩ := RepVs.consI (show RepVs ι h _ (V.str k :: ks.map V.str) from r)
    obtain ⟨y, t, rfl, e, z⟩ := g.strInv
    obtain ⟨ss, h1, h2, h3⟩ := strs_are' r'
    exact ⟨y :: ss, .cons y t h1, by rw [List.map_cons, h2, e], fun k hk => (List.mem_cons.mp hk).elim (fun e => e ▸ z) (h3 k)⟩
theorem reps_of_strs {h : Heap} : ∀ {vs : List Value} {ks : List Str}, PyProof.Rows.StrsAre vs ks → (∀ k ∈ ks, k.length ≤ SZ) → RepVs ι h vs ((ks.map (·.cps.toList)).map V.str)
  | _, _, .nil, _ => .nil
  | _, _, .cons k t r, hz => .cons (.str k t (hz k (by simp))) (reps_of_strs r fun k hk => hz k (by simp [hk]))
/-- the list that list.sort leaves -/
theorem sort_end (S : St cx ι ρ H s) (ok : CxOk cx) {h₁ : Heap} {tk : Nat} {xs : List Value} {out : Array Value} {ws : List V} {Q : V → Tw.H → Prop} (k1 : ∀ b o, s.heap.get? b = some o → h₁.get? b = some o) (hsz : s.heap.objs.size < h₁.objs.size)
    (r : ∀ h, (∀ b o, s.heap.get? b = some o → h.get? b = some o) → RepVs ι h out.toList ws) (hl : ws.length ≤ SZ) (q : Q (.ref H.length) (H ++ [.list ws])) :
    Post cx ι ρ s Q (.ref h₁.objs.size) { s with heap := PyProof.Rows.sortedHeap (h₁.push (PyProof.Rows.seqObj "list" xs.toArray 0)) h₁.objs.size xs out, toks := tk } := by
  have gD : (h₁.push (PyProof.Rows.seqObj "list" xs.toArray 0)).get? h₁.objs.size = some (PyProof.Rows.seqObj "list" xs.toArray 0) := Heap.get?_push_size _ rfl
  have k2 : ∀ b o, s.heap.get? b = some o → (h₁.push (PyProof.Rows.seqObj "list" xs.toArray 0)).get? b = some o := fun b o e => Heap.get?_push_of_some _ (k1 b o e)
  obtain ⟨e, gE⟩ := PyProof.Rows.sortedHeap_at (out := out) gD
  have k3 : ∀ b o, s.heap.get? b = some o → (PyProof.Rows.sortedHeap (h₁.push (PyProof.Rows.seqObj "list" xs.toArray 0)) h₁.objs.size xs out).get? b = some o := fun b o e => by
    have hb := Heap.lt_size (k1 b o e)
    rw [PyProof.Rows.sortedHeap_old (Nat.ne_of_lt hb) (Heap.lt_size (k2 b o e))]
    exact k2 b o e
  obtain ⟨S', M⟩ := S.new ok (o := .list ws) tk k3 (Nat.le_of_lt hsz) ⟨out, e, gE, r _ k3, hl⟩
  exact ⟨_, _, _, M, S', rep_last S _, q⟩
theorem sort_sound (S : St cx ι ρ H s) (ok : CxOk cx) (hh : A.handled = none) {x : Value} {v : V} {Q : V → Tw.H → Prop} (r : RepV ι s.heap x v) (h : SortW v H Q) : wpAny (model prog cx.w) A (call (.builtin "sorted") [x]) (Post cx ι ρ s Q) E s := by
  obtain ⟨n, rfl, vs, hi, h1⟩ := asRef.inv h
  obtain ⟨d, rfl, gi⟩ := r.refI
  have hz : sizeLine = 16777216 := rfl
  have hz' : SZ = 16777216 := rfl
  refine Calls.call_function_entry PyProof.Rows.kind_sorted PyProof.Rows.plain_sorted PyProof.Rows.entry_sorted (PyProof.Rows.args_sorted1 _) ?_
  unfold Builtin.«sorted»
  refine wpAny_bind (m := checkCount "sorted" 1 1 _) (wpAny_pure ?_)
  refine wpAny_bind (collect_items (A := A.in1) S hh gi hi fun h₁ tk xs k1 hsz rx hle => ?_)
  have hxl : xs.length ≤ sizeLine := by rw [rx.length]; exact qp3 qc3 qv0 qv1 (qN 16777216) qv1 qv2 (qN 16777216) qv0 qv2 qt (qi hz) (qe hz') hle
  refine wpAny_bind (wpAny_newList ?_ hxl)
  have gD : (h₁.push (PyProof.Rows.seqObj "list" xs.toArray 0)).get? h₁.objs.size = some (PyProof.Rows.seqObj "list" xs.toArray 0) := Heap.get?_push_size _ rfl
  show wpAny _ _ _ _ _ { s with heap := h₁.push (PyProof.Rows.seqObj "list" xs.toArray 0), toks := tk }
  rcases h1 with h1 | h1
  · exact h1.elim
  rcases h1 with h1 | h1
  · obtain ⟨ks, rfl, q⟩ := h1
    obtain ⟨ss, hI, rfl, hss⟩ := strs_are' rx
    refine wpAny_bind (wpAny_holding (wpAny_call_entry PyProof.Rows.slot_list_sort ⟨_, gD, rfl⟩ PyProof.Rows.entry_list_sort (list_sort_strs gD hI hxl fun out ns' a1 a2 a3 => ⟨_, rfl, ?_⟩) (PyProof.Rows.args_list_sort _)))
    refine wpAny_pure ⟨_, rfl, sort_end S ok k1 hsz (fun _ _ => reps_of_strs a1 fun k hk => hss k (a2.mem_iff.mp hk)) ?_ (q _ (a2.map _) (List.pairwise_map.mpr a3))⟩
    rw [List.length_map, List.length_map] at hle ⊢
    rw [a2.length_eq]; exact hle
  · exact h1.elim
end
end Tw
end

section
namespace Tw
open PySem PySem.SeqAt

section
variable {cx : Cx} {ι : List Addr} {ρ : Rho} {H : H} {s : Shared} {A : Around} {prog : Program} {E : Value → Shared → Prop}

noncomputable def Bi.py : Bi → Value
  | .len => .builtin "len" | .range => .type "range" | .list => .type "list" | .dict => .type "dict" | .sorted => .builtin "sorted" | .int => .type "int" | .min => .builtin "min" | .max => .builtin "max"

theorem Post.listE (S : St cx ι ρ H s) (ok : CxOk cx) {h' : Heap} {vals : Array Value} {n : Nat} {vs : List V} {Q : V → Tw.H → Prop} (tk : Nat) (hk : ∀ b ob, s.heap.get? b = some ob → h'.get? b = some ob)
    (g : h'.get? s.heap.objs.size = some { cls := .type "list", data := .seq vals n }) (r : RepVs ι s.heap vals.toList vs) (hl : vs.length ≤ SZ) (q : Q (.ref H.length) (H ++ [.list vs])) :
    Post cx ι ρ s Q (.ref s.heap.objs.size) { s with heap := h', toks := tk } := by
  obtain ⟨S', M⟩ := S.new ok (o := .list vs) tk hk (Nat.le_refl _) ⟨vals, n, g, r.mono (List.prefix_refl _) (.of_ext hk), hl⟩
  exact ⟨_, _, _, M, S', rep_last S _, q⟩

theorem reps_ints {h : Heap} : ∀ (n : Nat) (a c : Int) (vals : List Value), vals.length = n → (∀ (i : Nat) v, vals[i]? = some v → ∃ t, v = .int (a + i * c) t) → RepVs ι h vals (intsV a c n)
  | 0, a, c, vals, hl, _ => by
    have : vals = [] := List.length_eq_zero_iff.mp hl
    subst this; exact .nil
  | n + 1, a, c, [], hl, _ => by simp at hl
  | n + 1, a, c, v :: vals, hl, hv => by
    obtain ⟨t, rfl⟩ := hv 0 v rfl
    have e : a + ((0 : Nat) : Int) * c = a := by simp
    rw [e]
    refine .cons (.int a t) (reps_ints n (a + c) c vals (by simpa using hl) fun i v h => ?_)
    obtain ⟨t, rfl⟩ := hv (i + 1) v (by simpa using h)
    refine ⟨t, ?_⟩
    have : a + c + (i : Int) * c = a + ((i + 1 : Nat) : Int) * c := by rw [Int.natCast_add, Int.add_mul]; simp; exact oq94
    rw [this]

theorem rep_range {h : Heap} {a : Addr} {x y z : Int} {t u v : Tok} (g : h.get? a = some { cls := .type "range", data := .fields #[.int x t, .int y u, .int z v] }) (hs : smallI x ∧ smallI y ∧ smallI z ∧ 0 < z) : RepV ι h (.ref a) (.rng x y z) := .rng g hs

theorem len_sound (S : St cx ι ρ H s) {x : Value} {v : V} {Q : V → Tw.H → Prop} (r : RepV ι s.heap x v) (h : LenW v H Q) : wpAny (model prog cx.w) A (call (.builtin "len") [x]) (Post cx ι ρ s Q) E s := by
  have hz : SZ = 16777216 := rfl
  cases v with
  | str w =>
    obtain ⟨y, t, rfl, rfl, z⟩ := r.strInv
    refine PyProof.Rows.len_str (by omega) (.tok S ?_ h _)
    rw [← len_toList]; exact .int _ _
  | tup vs =>
    obtain ⟨a, n, vals, rfl, g, z, rv⟩ := r.tupI
    have hl : vals.size = vs.length := by rw [← Array.length_toList, rv.length]
    refine PySem.P.len_tuple g (by omega) (.tok S ?_ h _)
    rw [hl]; exact .int _ _
  | ref n =>
    obtain ⟨a, rfl, gi⟩ := r.refI
    obtain ⟨o, hH, _⟩ := S.obj gi
    unfold LenW at h
    dsimp only at h
    rw [hH] at h
    cases o with
    | list vs =>
      obtain ⟨vals, m, g, rv, z⟩ := S.objOf gi hH
      have hl : vals.size = vs.length := by rw [← Array.length_toList, rv.length]
      refine PyProof.Rows.len_list (isList_of g) (by omega) (.tok S ?_ h _)
      rw [hl]; exact .int _ _
    | frz vs =>
      obtain ⟨vals, g, rv, z⟩ := S.objOf gi hH
      have hl : vals.size = vs.length := by rw [← Array.length_toList, rv.length]
      refine PyProof.Rows.len_list g (by omega) (.tok S ?_ h _)
      rw [hl]; exact .int _ _
    | dict es ep => exact h.elim
  | _ => exact h.elim

theorem Post.rng (S : St cx ι ρ H s) {Q : V → Tw.H → Prop} {x y z : Int} {t u v : Tok} (tk : Nat) (hs : smallI x ∧ smallI y ∧ smallI z ∧ 0 < z) (q : Q (.rng x y z) H) :
    Post cx ι ρ s Q (.ref s.heap.objs.size) { s with heap := s.heap.push { cls := .type "range", data := .fields #[.int x t, .int y u, .int z v] }, toks := tk } := by
  have hk : ∀ b ob, s.heap.get? b = some ob → (s.heap.push { cls := .type "range", data := .fields #[.int x t, .int y u, .int z v] }).get? b = some ob := fun _ _ e => Heap.get?_push_of_some _ e
  exact ⟨_, ι, H, .ext hk, S.ext tk hk, rep_range (get?_fresh rfl) hs, q⟩
theorem range_sound (S : St cx ι ρ H s) {vals : List Value} {vs : List V} {Q : V → Tw.H → Prop} (r : RepVs ι s.heap vals vs) (h : RangeW vs H Q) : wpAny (model prog cx.w) A (call (.type "range") vals) (Post cx ι ρ s Q) E s := by
  have s1 : smallI 1 := by unfold smallI; decide
  have s0 : smallI 0 := by unfold smallI; decide
  match vs, r, h with
  | [a], r, h =>
    obtain ⟨x, rfl, g⟩ := r.oneI
    obtain ⟨i, rfl, h1⟩ := asInt.inv h
    obtain ⟨t, rfl⟩ := g.intI
    exact call_range_1 (.rng S _ ⟨s0, h1.1, s1, by decide⟩ h1.2)
  | [a, b], r, h =>
    obtain ⟨x, ys, rfl, g, r⟩ := r.consI
    obtain ⟨y, rfl, g'⟩ := r.oneI
    obtain ⟨i, rfl, h1⟩ := asInt.inv h
    obtain ⟨j, rfl, h2⟩ := asInt.inv h1
    obtain ⟨t, rfl⟩ := g.intI
    obtain ⟨u, rfl⟩ := g'.intI
    exact call_range_2 (.rng S _ ⟨h2.1, h2.2.1, s1, by decide⟩ h2.2.2)
  | [a, b, c], r, h =>
    obtain ⟨x, ys, rfl, g, r⟩ := r.consI
    obtain ⟨y, zs, rfl, g', r⟩ := r.consI
    obtain ⟨z, rfl, g''⟩ := r.oneI
    obtain ⟨i, rfl, h1⟩ := asInt.inv h
    obtain ⟨j, rfl, h2⟩ := asInt.inv h1
    obtain ⟨k, rfl, h3⟩ := asInt.inv h2
    obtain ⟨t, rfl⟩ := g.intI
    obtain ⟨u, rfl⟩ := g'.intI
    obtain ⟨v, rfl⟩ := g''.intI
    obtain ⟨q1, q2, q3, q4, q5⟩ := h3
    exact call_range_3 (by exact oq95 q4) (.rng S _ ⟨q1, q2, q3, q4⟩ q5) (Or.inl (PyProof.noPylong_of_log2 (by
      unfold smallI at q3
      have h0 : k.natAbs ≠ 0 := by omega
      have : k.natAbs < 2 ^ 31 := by omega
      have := (Nat.log2_lt h0).mpr this
      exact qp1 qc1 qs0 (qN 9000) qs0 (qN 31) qt this)))

theorem ints_length {a c : Int} {n : Nat} : (intsV a c n).length = n := by
  induction n generalizing a with
  | zero => rfl
  | succ n ih => simp [intsV, ih]
theorem list_sound (S : St cx ι ρ H s) (ok : CxOk cx) (hh : A.handled = none) {x : Value} {v : V} {Q : V → Tw.H → Prop} (r : RepV ι s.heap x v) (h : ListW v H Q) : wpAny (model prog cx.w) A (call (.type "list") [x]) (Post cx ι ρ s Q) E s := by
  cases v with
  | rng x y z =>
    obtain ⟨a, t, u, v, rfl, g, hs⟩ := r.rngI
    obtain ⟨h1, h2⟩ := h
    refine call_list_range hh g (small_range hs) (rangeSize_eq hs.2.2.2) h1 fun h' tk acc' c' hk g' hacc => ?_
    refine Post.listE S ok (vs := rangeV x y z) tk hk g' ?_ (by rw [rangeV, ints_length]; exact h1) h2
    exact reps_ints _ _ _ _ (by rw [Array.length_toList]; exact hacc.1) fun i v hv => hacc.2 i v (by simpa using hv)
  | ref n =>
    obtain ⟨a, rfl, gi⟩ := r.refI
    obtain ⟨o, hH, _⟩ := S.obj gi
    unfold ListW at h
    dsimp only at h
    rw [hH] at h
    cases o with
    | list vs =>
      obtain ⟨vals, m, g, rv, z⟩ := S.objOf gi hH
      have hl : vals.size = vs.length := by rw [← Array.length_toList, rv.length]
      refine call_list_seq a (.inl rfl) g rfl rfl (fun h' c' hk g' => ?_) (by rw [hl]; exact h.1)
      exact Post.listE S ok s.toks hk g' rv h.1 h.2
    | frz vs => exact h.elim
    | dict es ep =>
      obtain ⟨ents, D⟩ := S.dict gi hH
      have e : ents.size = es.length := by rw [← Array.length_toList, D.rep.length]
      refine call_list_dict hh (S.notMods gi) D.get (by rw [e]; exact D.le) fun h' tk c' hk g' => ?_
      exact Post.listE S ok tk hk g' (by rw [Array.toList_map]; exact keys_reps D.rep) (by rw [List.length_map]; exact D.le) h
  | _ => exact h.elim

theorem two_inv {vs : List V} {Q : Int → Int → Prop} (h : match vs with | [a, b] => asInt a fun a => asInt b fun b => Q a b | _ => False) : ∃ a b, vs = [.int a, .int b] ∧ Q a b := by
  match vs, h with
  | [a, b], h =>
    obtain ⟨i, rfl, h1⟩ := asInt.inv h
    obtain ⟨j, rfl, h2⟩ := asInt.inv h1
    exact ⟨i, j, rfl, h2⟩
theorem two_sound (S : St cx ι ρ H s) {vals : List Value} {vs : List V} {Q : V → Tw.H → Prop} {f : Int → Int → Int} {nm : String} (r : RepVs ι s.heap vals vs) (h : ∃ a b, vs = [.int a, .int b] ∧ Q (.int (f a b)) H)
    (go : ∀ (a b : Int) (t u : Tok) (Q : Value → Shared → Prop), (∀ h' tk z, (∀ c o, s.heap.get? c = some o → h'.get? c = some o) → Q (.int (f a b) z) { s with heap := h', toks := tk }) → wpAny (model prog cx.w) A (call (.builtin nm) [.int a t, .int b u]) Q E s) :
    wpAny (model prog cx.w) A (call (.builtin nm) vals) (Post cx ι ρ s Q) E s := by
  obtain ⟨i, j, rfl, h2⟩ := h
  obtain ⟨x, ys, rfl, g, r⟩ := r.consI
  obtain ⟨y, rfl, g'⟩ := r.oneI
  obtain ⟨t, rfl⟩ := g.intI
  obtain ⟨u, rfl⟩ := g'.intI
  exact go i j t u _ fun h' tk z hk => ⟨_, ι, H, .ext hk, S.ext tk hk, .int _ _, h2⟩
theorem min_sound (S : St cx ι ρ H s) (hh : A.handled = none) {vals : List Value} {vs : List V} {Q : V → Tw.H → Prop} (r : RepVs ι s.heap vals vs) (h : BiW .min vs H Q) : wpAny (model prog cx.w) A (call (.builtin "min") vals) (Post cx ι ρ s Q) E s :=
  two_sound S (f := min) r (two_inv h) fun a b t u Q q => min_two_ints hh fun h' tk hk => by
    by_cases c : b < a
    · rw [if_pos c]; have := q h' tk u hk; rwa [show min a b = b by exact oq96 c] at this
    · rw [if_neg c]; have := q h' tk t hk; rwa [show min a b = a by exact oq97 c] at this
theorem max_sound (S : St cx ι ρ H s) (hh : A.handled = none) {vals : List Value} {vs : List V} {Q : V → Tw.H → Prop} (r : RepVs ι s.heap vals vs) (h : BiW .max vs H Q) : wpAny (model prog cx.w) A (call (.builtin "max") vals) (Post cx ι ρ s Q) E s :=
  two_sound S (f := max) r (two_inv h) fun a b t u Q q => max_two_ints hh fun h' tk hk => by
    by_cases c : b > a
    · rw [if_pos c]; have := q h' tk u hk; rwa [show max a b = b by exact oq98 c] at this
    · rw [if_neg c]; have := q h' tk t hk; rwa [show max a b = a by exact oq99 c] at this
theorem bi_sound (S : St cx ι ρ H s) (ok : CxOk cx) (hh : A.handled = none) (hu : A.units + 50 < cLine) {b : Bi} {vals : List Value} {vs : List V} {Q : V → Tw.H → Prop} (r : RepVs ι s.heap vals vs) (h : BiW b vs H Q) :
    wpAny (model prog cx.w) A (call b.py vals) (Post cx ι ρ s Q) E s := by
  cases b with
  | len =>
    obtain ⟨v, rfl, h1⟩ := arg1.inv h
    obtain ⟨x, rfl, g⟩ := r.oneI
    exact len_sound S g h1
  | range => exact range_sound S r h
  | list =>
    obtain ⟨v, rfl, h1⟩ := arg1.inv h
    obtain ⟨x, rfl, g⟩ := r.oneI
    exact list_sound S ok hh g h1
  | sorted =>
    obtain ⟨v, rfl, h1⟩ := arg1.inv h
    obtain ⟨x, rfl, g⟩ := r.oneI
    exact sort_sound S ok hh g h1
  | min => exact min_sound S hh r h
  | max => exact max_sound S hh r h
  | _ => exact h.elim

noncomputable def Ty.py : Ty → Value
  | .int => .type "int" | .bool => .type "bool" | .list => .type "list" | .tuple => .type "tuple" | .str => .type "str"

theorem is_sound (S : St cx ι ρ H s) {x : Value} {v : V} {t : Ty} {Q : Bool → Prop} (r : RepV ι s.heap x v) (h : IsW v t H Q) :
    wpAny (model prog cx.w) A (call (.builtin "isinstance") [x, t.py]) (PostB s Q) E s := by
  have yes : Q true → PostB s Q (.bool true) s := fun q => .here q
  have no : Q false → PostB s Q (.bool false) { s with toks := s.toks + 1 } := fun q => ⟨false, _, rfl, rfl, q⟩
  cases v with
  | rng => exact h.elim
  | none =>
    obtain rfl := r.noneI
    cases t with
    | int => exact IsiPair.NoneType_int (no h)
    | bool => exact IsiPair.NoneType_bool (no h)
    | list => exact IsiPair.NoneType_list (no h)
    | tuple => exact IsiPair.NoneType_tuple (no h)
    | str => exact IsiPair.NoneType_str (no h)
  | bool b =>
    obtain rfl := r.boolI
    cases t with
    | int => exact IsiPair.bool_int (yes h)
    | bool => exact IsiPair.bool_bool (yes h)
    | list => exact IsiPair.bool_list (no h)
    | tuple => exact IsiPair.bool_tuple (no h)
    | str => exact IsiPair.bool_str (no h)
  | int i =>
    obtain ⟨u, rfl⟩ := r.intI
    cases t with
    | int => exact IsiPair.int_int (yes h)
    | bool => exact IsiPair.int_bool (no h)
    | list => exact IsiPair.int_list (no h)
    | tuple => exact IsiPair.int_tuple (no h)
    | str => exact IsiPair.int_str (no h)
  | str y =>
    obtain ⟨y, u, rfl, rfl, z⟩ := r.strInv
    cases t with
    | int => exact IsiPair.str_int (no h)
    | bool => exact IsiPair.str_bool (no h)
    | list => exact IsiPair.str_list (no h)
    | tuple => exact IsiPair.str_tuple (no h)
    | str => exact IsiPair.str_str (yes h)
  | tup vs =>
    obtain ⟨a, n, vals, rfl, g, z, rv⟩ := r.tupI
    cases t with
    | int => exact IsiPair.tuple_int g rfl (no h)
    | bool => exact IsiPair.tuple_bool g rfl (no h)
    | list => exact IsiPair.tuple_list g rfl (no h)
    | tuple => exact IsiPair.tuple_tuple g rfl (yes h)
    | str => exact IsiPair.tuple_str g rfl (no h)
  | ref n =>
    obtain ⟨a, rfl, gi⟩ := r.refI
    obtain ⟨o, hH, _⟩ := S.obj gi
    unfold IsW at h
    dsimp only at h
    rw [hH] at h
    cases o with
    | list vs =>
      obtain ⟨vals, m, g, rv, z⟩ := S.objOf gi hH
      cases t with
      | int => exact IsiPair.list_int g rfl (no h)
      | bool => exact IsiPair.list_bool g rfl (no h)
      | list => exact IsiPair.list_list g rfl (yes h)
      | tuple => exact IsiPair.list_tuple g rfl (no h)
      | str => exact IsiPair.list_str g rfl (no h)
    | frz vs => exact h.elim
    | dict es ep =>
      obtain ⟨ents, D⟩ := S.dict gi hH
      cases t with
      | int => exact IsiPair.dict_int D.get rfl (no h)
      | bool => exact IsiPair.dict_bool D.get rfl (no h)
      | list => exact IsiPair.dict_list D.get rfl (no h)
      | tuple => exact IsiPair.dict_tuple D.get rfl (no h)
      | str => exact IsiPair.dict_str D.get rfl (no h)

/-! methods -/
noncomputable def Mt.nm : Mt → Str
  | .append => "append" | .reverse => "reverse" | .pop => "pop" | .dpop => "pop" | .clear => "clear" | .index => "index" | .update => "update" | .get => "get" | .join => "join" | .startswith => "startswith"
noncomputable def Mt.id : Mt → String
  | .append => "list.append" | .reverse => "list.reverse" | .pop => "list.pop" | .dpop => "dict.pop" | .clear => "list.clear" | .index => "list.index" | .update => "dict.update" | .get => "dict.get" | .join => "str.join" | .startswith => "str.startswith"

theorem gm_any {x : Value} {T : String} {name : Str} {id : String} {pl : Sem Bool} {Q : Value × List Value → Shared → Prop} (hT : s.TypeIs x T) (pa : PlainAttrs T) (sl : Slot T name id) (ty : typeOf (.builtin id) = pure (.type "method_descriptor"))
    (hd : ∀ a, x = .ref a → ∃ o, s.heap.get? a = some o ∧ o.dict = none) (q : Q (.builtin id, [x]) s) : wpAny (model prog cx.w) A (getMethod x name pl) Q E s := by
  refine getMethod_builtin (T := T) (id := id) ?a ?b ?c ?d ?e ?f
  case a => exact hT
  case b => exact pa
  case c => exact sl
  case d => exact ty
  case e => exact hd
  case f => exact q

structure MtFacts (T : String) (name : Str) (id : String) : Prop where
  sl : Slot T name id
  ty : typeOf (.builtin id) = pure (.type "method_descriptor")
theorem mt_append : MtFacts "list" (Mt.nm .append) (Mt.id .append) := ⟨F.slot_list_append, F.type_list_append⟩
theorem mt_reverse : MtFacts "list" (Mt.nm .reverse) (Mt.id .reverse) := ⟨F.slot_list_reverse, F.type_list_reverse⟩
theorem mt_clear : MtFacts "list" (Mt.nm .clear) (Mt.id .clear) := ⟨F.slot_list_clear, F.type_list_clear⟩
theorem mt_index : MtFacts "list" (Mt.nm .index) (Mt.id .index) := ⟨F.slot_list_index, F.type_list_index⟩
theorem mt_pop : MtFacts "list" (Mt.nm .pop) (Mt.id .pop) := ⟨F.slot_list_pop, F.type_list_pop⟩
theorem mt_update : MtFacts "dict" (Mt.nm .update) (Mt.id .update) := ⟨F.slot_dict_update, F.type_dict_update⟩
theorem mt_get : MtFacts "dict" (Mt.nm .get) (Mt.id .get) := ⟨F.slot_dict_get, F.type_dict_get⟩
theorem mt_join : MtFacts "str" (Mt.nm .join) (Mt.id .join) := ⟨F.slot_str_join, F.type_str_join⟩
theorem mt_startswith : MtFacts "str" (Mt.nm .startswith) (Mt.id .startswith) := ⟨F.slot_str_startswith, F.type_str_startswith⟩
theorem mt_dpop : MtFacts "dict" (Mt.nm .dpop) (Mt.id .dpop) := ⟨F.slot_dict_pop, F.type_dict_pop⟩

theorem gm_list (S : St cx ι ρ H s) {x : Value} {v : V} {nm : Str} {id : String} (r : RepV ι s.heap x v) (h : asRef v fun n => ∃ vs, H[n]? = some (.list vs)) (f : MtFacts "list" nm id) : ∃ T, s.TypeIs x T ∧ PlainAttrs T ∧ MtFacts T nm id ∧ ∀ a, x = .ref a → ∃ o, s.heap.get? a = some o ∧ o.dict = none := by
  obtain ⟨n, rfl, vs, hH⟩ := asRef.inv h
  obtain ⟨a, rfl, gi⟩ := r.refI
  obtain ⟨vals, m, g, rv, z⟩ := S.objOf gi hH
  exact ⟨_, ⟨_, g, rfl⟩, F.plainAttrs_list, f, fun b e => by cases e; exact ⟨_, g, rfl⟩⟩
theorem gm_dict (S : St cx ι ρ H s) {x : Value} {v : V} {nm : Str} {id : String} (r : RepV ι s.heap x v) (h : asRef v fun n => ∃ es ver, H[n]? = some (.dict es ver)) (f : MtFacts "dict" nm id) : ∃ T, s.TypeIs x T ∧ PlainAttrs T ∧ MtFacts T nm id ∧ ∀ a, x = .ref a → ∃ o, s.heap.get? a = some o ∧ o.dict = none := by
  obtain ⟨n, rfl, es, ep, hH⟩ := asRef.inv h
  obtain ⟨a, rfl, gi⟩ := r.refI
  obtain ⟨ents, D⟩ := S.dict gi hH
  exact ⟨_, ⟨_, D.get, rfl⟩, F.plainAttrs_dict, f, fun b e => by cases e; exact ⟨_, D.get, rfl⟩⟩
theorem gm_str {x : Value} {v : V} {nm : Str} {id : String} (r : RepV ι s.heap x v) (h : asStr v fun _ => True) (f : MtFacts "str" nm id) : ∃ T, s.TypeIs x T ∧ PlainAttrs T ∧ MtFacts T nm id ∧ ∀ a, x = .ref a → ∃ o, s.heap.get? a = some o ∧ o.dict = none := by
  obtain ⟨w, rfl, _⟩ := asStr.inv h
  obtain ⟨y, t, rfl, _, _⟩ := r.strInv
  exact ⟨_, typeIs_str s y t, F.plainAttrs_str, f, fun b e => nomatch e⟩
theorem gm_fact (S : St cx ι ρ H s) {m : Mt} {x : Value} {v : V} (r : RepV ι s.heap x v) (h : recvOk m v H) :
    ∃ T, s.TypeIs x T ∧ PlainAttrs T ∧ MtFacts T m.nm m.id ∧ ∀ a, x = .ref a → ∃ o, s.heap.get? a = some o ∧ o.dict = none := by
  cases m with
  | append => exact gm_list S r h mt_append
  | reverse => exact gm_list S r h mt_reverse
  | clear => exact gm_list S r h mt_clear
  | index => exact gm_list S r h mt_index
  | pop => exact gm_list S r h mt_pop
  | dpop => exact gm_dict S r h mt_dpop
  | update => exact gm_dict S r h mt_update
  | get => exact gm_dict S r h mt_get
  | join => exact gm_str r h mt_join
  | startswith => exact gm_str r h mt_startswith
theorem getMethod_sound (S : St cx ι ρ H s) {m : Mt} {x : Value} {v : V} {pl : Sem Bool} {Q : Value × List Value → Shared → Prop} (r : RepV ι s.heap x v) (h : recvOk m v H) (q : Q (.builtin m.id, [x]) s) :
    wpAny (model prog cx.w) A (getMethod x m.nm pl) Q E s := by
  obtain ⟨T, hT, pa, f, hd⟩ := gm_fact S r h
  exact gm_any (cx := cx) hT pa f.sl f.ty hd q

theorem set_list (S : St cx ι ρ H s) {n : Nat} {a : Addr} {vals : Array Value} {m : Nat} {ws vs : List V} {v : V} {val : Value} {f : Array Value → Array Value} {Q : V → Tw.H → Prop} (gi : ι[n]? = some a) (hH : H[n]? = some (.list ws))
    (g : s.heap.get? a = some { cls := .type "list", data := .seq vals m }) (rf : ∀ h', Imm s.heap h' → RepVs ι h' (f vals).toList vs ∧ RepV ι h' val v) (hl : vs.length ≤ SZ) (q : Q v (H.set n (.list vs))) (tk : Nat) :
    Post cx ι ρ s Q val { s with heap := s.heap.update a (Obj.mapSeq f), toks := tk } := by
  have imm : Imm s.heap (s.heap.update a (Obj.mapSeq f)) := .of_but (Heap.SameBut.update ..).extBut fun o e => by rw [g] at e; cases e; exact notImm_list rfl
  obtain ⟨r1, r2⟩ := rf _ imm
  obtain ⟨S', M⟩ := S.set (o' := .list vs) tk gi (fun vs e => by rw [hH] at e; cases e) (Heap.SameBut.update s.heap a (Obj.mapSeq f)).extBut ⟨f vals, _, Heap.get?_update_self _ g rfl, r1, hl⟩
  exact ⟨v, ι, _, M, S', r2, q⟩

theorem strs_are {h : Heap} {xs : List Value} {vs : List V} {ys : List (List Nat)} (r : RepVs ι h xs vs) (e : isStrs vs = some ys) : ∃ zs : List Str, PyProof.Rows.StrsAre xs zs ∧ zs.map (·.cps.toList) = ys := by
  induction xs generalizing vs ys with
  | nil =>
    cases r
    cases (show some [] = some ys from e)
    exact ⟨[], .nil, rfl⟩
  | cons x xs ih =>
    obtain _ | ⟨g, r⟩ := r
    cases g with
    | str x t z =>
      obtain ⟨ys', e', rfl⟩ := Option.map_eq_some_iff.mp (show (isStrs _).map (x.cps.toList :: ·) = some ys from e)
      obtain ⟨zs, h1, h2⟩ := ih r e'
      exact ⟨x :: zs, .cons x t h1, by rw [List.map_cons, h2]⟩
    | _ => exact nomatch (show none = some ys from e)

theorem join_toList : ∀ (zs : List Str), (Str.join (⟨#[]⟩ : Str) zs).cps.toList = joinS [] (zs.map (·.cps.toList))
  | [] => rfl
  | [x] => rfl
  | x :: y :: r => by
    show ((x ++ (⟨#[]⟩ : Str)) ++ Str.join ⟨#[]⟩ (y :: r)).cps.toList = _
    rw [toList_app, toList_app, join_toList (y :: r)]
    simp [joinS]
theorem joinS_nil : ∀ (xs : List (List Nat)), joinS [] xs = xs.flatten
  | [] => rfl
  | [x] => by simp [joinS]
  | x :: y :: r => by simp [joinS, joinS_nil (y :: r)]
theorem sum_lens : ∀ (zs : List Str), (zs.map (·.length)).sum = ((zs.map (·.cps.toList)).map List.length).sum
  | [] => rfl
  | z :: r => by simp only [List.map_cons, List.sum_cons, sum_lens r, len_toList]

theorem pop_list (va : Array Value) (n : Nat) (e : va.size = n + 1) : (va.eraseIdxIfInBounds (va.size - 1)).toList = va.toList.take n := by
  have e3 : va.size - 1 < va.size := by exact qx (qp1 qc2 qk1 qv0 qs1 qv0 qt (qi e))
  rw [Array.eraseIdxIfInBounds, dif_pos e3, Array.toList_eraseIdx]
  rw [List.eraseIdx_eq_take_drop_succ, show va.size - 1 = n from by exact Nat.le_antisymm (qp2 qc3 qv0 qv1 qv2 qs1 qs0 qv2 qt (qe e) (qx (qp1 qc2 qk1 qv0 qs1 qv0 qt (qi e)))) (qp2 qc3 qv0 qv1 qs0 qv2 qv2 qs1 qt (qi e) qw), List.drop_eq_nil_of_le (by simp; exact qe e)]
  simp
theorem meth_sound (S : St cx ι ρ H s) (hu : A.units + 50 < cLine) {m : Mt} {x : Value} {vals : List Value} {o : V} {vs : List V} {Q : V → Tw.H → Prop} (rx : RepV ι s.heap x o) (rv : RepVs ι s.heap vals vs) (h : MethW m o vs H Q) :
    wpAny (model prog cx.w) A (call (.builtin m.id) (x :: vals)) (Post cx ι ρ s Q) E s := by
  cases m with
  | append =>
    obtain ⟨n, rfl, h1⟩ := asRef.inv h
    obtain ⟨v, rfl, ws, hH, hl, q⟩ := arg1.inv h1
    obtain ⟨a, rfl, gi⟩ := rx.refI
    obtain ⟨y, rfl, g⟩ := rv.oneI
    obtain ⟨va, k, gl, rl, z⟩ := S.objOf gi hH
    have e : va.size = ws.length := by rw [← Array.length_toList, rl.length]
    refine call_meets F.slot_list_append ⟨_, gl, rfl⟩ F.entry_list_append (F.args_list_append_2 _ _) (PySem.list_append a va k _ (by rw [e]; exact z)) ⟨gl, ?_⟩
    exact set_list S gi hH gl (fun h' imm => ⟨by rw [Array.toList_push]; exact (rl.mono (List.prefix_refl _) imm).append (.cons (g.mono (List.prefix_refl _) imm) .nil), .none⟩) (by rw [List.length_append]; exact hl) q s.toks
  | reverse =>
    obtain ⟨n, rfl, h1⟩ := asRef.inv h
    obtain ⟨rfl, ws, hH, q⟩ := arg0.inv h1
    obtain ⟨a, rfl, gi⟩ := rx.refI
    obtain rfl := rv.nilI
    obtain ⟨va, k, gl, rl, z⟩ := S.objOf gi hH
    have e : va.size = ws.length := by rw [← Array.length_toList, rl.length]
    refine call_meets F.slot_list_reverse ⟨_, gl, rfl⟩ F.entry_list_reverse (F.args_list_reverse_1 _) (AutoSeq1.list_reverse_list_0 a va k (by rw [e]; exact z)) ⟨gl, ?_⟩
    exact set_list S gi hH gl (fun h' imm => ⟨by rw [Array.toList_reverse]; exact (rl.mono (List.prefix_refl _) imm).reverse, .none⟩) (by rw [List.length_reverse]; exact z) q s.toks
  | pop =>
    obtain ⟨n, rfl, h1⟩ := asRef.inv h
    obtain ⟨rfl, ws, w, hH, q⟩ := arg0.inv h1
    obtain ⟨a, rfl, gi⟩ := rx.refI
    obtain rfl := rv.nilI
    obtain ⟨va, k, gl, rl, z⟩ := S.objOf gi hH
    have e : va.size = ws.length + 1 := by rw [← Array.length_toList, rl.length]; simp
    obtain ⟨y, hy, ry⟩ := rl.get (k := ws.length) (v := w) (by simp)
    have hy' : va[va.size - 1]? = some y := by rw [e]; simpa using hy
    have z' : ws.length + 1 ≤ SZ := by simpa using z
    refine call_meets F.slot_list_pop ⟨_, gl, rfl⟩ F.entry_list_pop (F.args_list_pop_1 _) (MeetsSeq.list_pop_last a va k y hy' (by rw [e]; exact z')) ⟨gl, ?_⟩
    exact set_list S (f := fun xs => xs.eraseIdxIfInBounds (va.size - 1)) (vs := ws) (v := w) (val := y) (Q := Q) gi hH gl (fun h' imm => ⟨by
      have := (rl.mono (List.prefix_refl _) imm).take ws.length
      rw [pop_list va _ e]; simpa using this, ry.mono (List.prefix_refl _) imm⟩) (by exact qp1 qc2 qv0 qv1 qs0 qv1 qt z') q s.toks
  | join =>
    obtain ⟨sep, rfl, h1⟩ := asStr.inv h
    obtain ⟨v, rfl, h2⟩ := arg1.inv h1
    obtain ⟨n, rfl, ws, xs, hH, hs, hsep, hsum, q⟩ := asRef.inv h2
    obtain ⟨y, t, rfl, ey, zy⟩ := rx.strInv
    obtain ⟨x, rfl, g⟩ := rv.oneI
    obtain ⟨a, rfl, gi⟩ := g.refI
    obtain ⟨va, k, gl, rl, z⟩ := S.objOf gi hH
    obtain ⟨zs, hzs, rfl⟩ := strs_are rl hs
    obtain rfl : y = ⟨#[]⟩ := str_inj (by rw [ey, hsep])
    subst hsep
    refine PyProof.Rows.join_list (isList_of gl) hzs (by rw [sum_lens]; simpa [Str.length] using hsum) fun t' tk => ?_
    rw [show Txt.join (⟨#[]⟩ : Str) zs = Str.join ⟨#[]⟩ zs from StrLaws.glued_eq_join _ _]
    refine Post.tok (val := .str (Str.join ⟨#[]⟩ zs) t') S (.strOf (join_toList zs) ?_) q tk
    rw [← len_toList, join_toList, joinS_nil, List.length_flatten]
    exact hsum
  | _ => exact h.elim
end
end Tw
end

section
namespace Tw
open PySem PySem.SeqAt

section
variable {cx : Cx} {ι : List Addr} {ρ : Rho} {H : H} {s : Shared} {A : Around} {prog : Program} {E : Value → Shared → Prop}

theorem take_drop {α : Type} (l : List α) (i j : Nat) : (l.drop (min i l.length)).take (min j l.length - min i l.length) = (l.take j).drop i := by
  rw [List.drop_take]
  by_cases hi : i ≤ l.length
  · rw [Nat.min_eq_left hi]
    by_cases hj : j ≤ l.length
    · rw [Nat.min_eq_left hj]
    · rw [Nat.min_eq_right (show l.length ≤ j by exact qp1 qc2 qv0 qv1 qs0 qv1 qt (qn hj))]
      rw [List.take_of_length_le (by simp), List.take_of_length_le (by simp; exact qp2 qc4 qv0 (qA qv1 qv2) qs0 qv3 qv3 (qA qv1 qv2) qt (qn hj) qw)]
  · rw [Nat.min_eq_right (show l.length ≤ i by exact qp1 qc2 qv0 qv1 qs0 qv1 qt (qn hi)), List.drop_length, List.drop_of_length_le (show l.length ≤ i by exact qp1 qc2 qv0 qv1 qs0 qv1 qt (qn hi))]
    simp

theorem part_lo {y : Value} {lo : V} {h : Heap} {i : Nat} (r : RepV ι h y lo) (e : loOf lo = some i) : ∃ p : Option (Int × Tok), y = partValue p ∧ IsPart y (p.map (·.1)) ∧ ((p = none ∧ i = 0) ∨ ∃ t, p = some ((i : Int), t)) := by
  cases r with
  | none => simp [loOf] at e; subst e; exact ⟨none, rfl, .none, .inl ⟨rfl, rfl⟩⟩
  | int k t =>
    simp only [loOf] at e
    by_cases hk : 0 ≤ k ∧ k < 2 ^ 62
    · rw [if_pos hk] at e
      injection e with e
      subst e
      exact ⟨some (k, t), rfl, .int k t, .inr ⟨t, by rw [Int.toNat_of_nonneg hk.1]⟩⟩
    · rw [if_neg hk] at e; cases e
  | _ => simp [loOf] at e
theorem part_hi {y : Value} {hi : V} {h : Heap} {n j : Nat} (r : RepV ι h y hi) (e : hiOf n hi = some j) : ∃ p : Option (Int × Tok), y = partValue p ∧ IsPart y (p.map (·.1)) ∧ ((p = none ∧ j = n) ∨ ∃ t, p = some ((j : Int), t)) := by
  cases r with
  | none => simp [hiOf] at e; subst e; exact ⟨none, rfl, .none, .inl ⟨rfl, rfl⟩⟩
  | int k t =>
    simp only [hiOf] at e
    by_cases hk : 0 ≤ k ∧ k < 2 ^ 62
    · rw [if_pos hk] at e
      injection e with e
      subst e
      exact ⟨some (k, t), rfl, .int k t, .inr ⟨t, by rw [Int.toNat_of_nonneg hk.1]⟩⟩
    · rw [if_neg hk] at e; cases e
  | _ => simp [hiOf] at e

theorem clip_lo {p : Option (Int × Tok)} {i n : Nat} (h : (p = none ∧ i = 0) ∨ ∃ t, p = some ((i : Int), t)) : (p.map (·.1)).elim 0 (clipAt n) = min i n := by
  rcases h with ⟨rfl, rfl⟩ | ⟨t, rfl⟩
  · simp
  · exact clipAt_nat n i
theorem clip_hi {p : Option (Int × Tok)} {j n : Nat} (h : (p = none ∧ j = n) ∨ ∃ t, p = some ((j : Int), t)) : (p.map (·.1)).elim n (clipAt n) = min j n := by
  rcases h with ⟨rfl, rfl⟩ | ⟨t, rfl⟩
  · simp
  · exact clipAt_nat n j

theorem str_bounds (lo hi : Option Int) (n : Nat) : Builtin.Str.strSliceIndices lo hi 1 n = sliceRange ((lo.elim 0 (clipAt n) : Nat) : Int) ((hi.elim n (clipAt n) : Nat) : Int) 1 := by
  cases lo <;> cases hi <;> simp [Builtin.Str.strSliceIndices, clipAt_cast]

theorem slice_sound (S : St cx ι ρ H s) (ok : CxOk cx) {value : Expr} {l u : Option Expr} {p : Pos} {x yl yh : Value} {a lo hi : V} {sl : Addr} {Q : V → Tw.H → Prop} (ra : RepV ι s.heap x a) (rl : RepV ι s.heap yl lo) (rh : RepV ι s.heap yh hi)
    (hs : s.heap.get? sl = some { cls := .type "slice", data := .fields #[yl, yh, .none] }) (h : SliceW a lo hi H Q) :
    wpAny (model prog cx.w) A (PyProof.Rows.subscriptTail value (.Slice l u none p) x (.ref sl)) (Post cx ι ρ s Q) E s := by
  cases a with
  | str w =>
    obtain ⟨y, t, rfl, rfl, z⟩ := ra.strInv
    obtain ⟨i, j, e1, e2, q⟩ := h
    obtain ⟨pl, rfl, _, hl⟩ := part_lo rl e1
    obtain ⟨pu, rfl, _, hu⟩ := part_hi rh e2
    have picked : ((slicePicked y pl pu none).filterMap (y.cps[·]?)) = (y.cps.toList.take j).drop i := by
      unfold slicePicked
      rw [Option.map_none, Option.getD_none, str_bounds, clip_lo hl]
      have hu' : (pu = none ∧ j = y.length) ∨ ∃ t, pu = some ((j : Int), t) := by rw [← len_toList]; exact hu
      rw [clip_hi hu', sliceRange_one, pick_run]
      have := take_drop y.cps.toList i j
      rw [len_toList] at this
      exact this
    have le : ((y.cps.toList.take j).drop i).length ≤ SZ := by
      rw [List.length_drop, List.length_take, len_toList]
      have : min j y.length ≤ y.length := Nat.min_le_right _ _
      exact oq100 z
    have hT := typeIs_str s y t
    generalize hx : Value.str y t = x at hT
    refine PyProof.Rows.tail_any hT F.slot_str_getitem.lookup ?_ rfl
    subst hx
    refine wpAny_getItem_str_slice (l := pl) (u := pu) (st := none) ⟨_, hs, rfl, rfl⟩ rfl ?_
    have pl' : (slicePicked y pl pu none).length = ((slicePicked y pl pu none).filterMap (y.cps[·]?)).length := by
      unfold slicePicked
      rw [Option.map_none, Option.getD_none, str_bounds, clip_lo hl]
      have hu' : (pu = none ∧ j = y.length) ∨ ∃ t, pu = some ((j : Int), t) := by rw [← len_toList]; exact hu
      rw [clip_hi hu', sliceRange_one, pick_run]
      simp
      have e3 : y.cps.size = y.length := rfl
      rw [e3]
      exact (Nat.min_eq_left (Nat.sub_le_sub_right (Nat.min_le_right _ _) _)).symm
    unfold sliceMade
    split
    · rename_i hc
      simp only [Bool.and_eq_true, beq_iff_eq] at hc
      have sub : ((y.cps.toList.take j).drop i).Sublist y.cps.toList := (List.drop_sublist _ _).trans (List.take_sublist _ _)
      have whole : (y.cps.toList.take j).drop i = y.cps.toList := sub.eq_of_length (by rw [← picked, ← pl', hc.2, len_toList])
      rw [whole] at q
      exact .here S (.str y t z) q
    · refine ⟨?_, ?_⟩
      · show ((slicePicked y pl pu none).filterMap (y.cps[·]?)).toArray.size ≤ sizeLine
        rw [picked, List.size_toArray]; exact le
      · refine .tok S (.strOf (s := (y.cps.toList.take j).drop i) ?_ ?_) q _
        · show ((slicePicked y pl pu none).filterMap (y.cps[·]?)).toArray.toList = _
          rw [picked]
        · show ((slicePicked y pl pu none).filterMap (y.cps[·]?)).toArray.size ≤ SZ
          rw [picked, List.size_toArray]; exact le
  | ref n =>
    obtain ⟨b, rfl, gi⟩ := ra.refI
    obtain ⟨vs, i, j, hH, e1, e2, q⟩ := h
    obtain ⟨pl, rfl, il, hl⟩ := part_lo rl e1
    obtain ⟨pu, rfl, iu, hu⟩ := part_hi rh e2
    have go : ∀ vals : Array Value, s.heap.IsList b vals → RepVs ι s.heap vals.toList vs → vs.length ≤ SZ → wpAny (model prog cx.w) A (PyProof.Rows.subscriptTail value (.Slice l u none p) (.ref b) (.ref sl)) (Post cx ι ρ s Q) E s := by
      intro vals g rv z
      have hn : vals.size = vs.length := by rw [← Array.length_toList, rv.length]
      refine PyProof.Rows.tail_any g.typeIs slot_list_getitem.lookup ?_ rfl
      refine wpAny_getItem_list_slice g ⟨_, hs, rfl, rfl⟩ il iu .none (by simp) ?_ (by rw [hn]; exact z)
      rw [slicePick_plain, hn, clip_lo hl, clip_hi hu]
      have e : (vals.toList.drop (min i vs.length)).take (min j vs.length - min i vs.length) = (vals.toList.take j).drop i := by
        have := take_drop vals.toList i j
        rw [rv.length] at this; exact this
      refine Post.list S ok (vs := (vs.take j).drop i) ?_ ?_ q s.toks
      · show RepVs ι s.heap ((vals.toList.drop (min i vs.length)).take (min j vs.length - min i vs.length)).toArray.toList _
        rw [e]
        exact (rv.take j).drop i
      · rw [List.length_drop, List.length_take]
        have : min j vs.length ≤ vs.length := Nat.min_le_right _ _
        exact oq100 z
    rcases hH with hH | hH
    · obtain ⟨vals, m, g, rv, z⟩ := S.objOf gi hH
      exact go vals (isList_of g) rv z
    · obtain ⟨vals, g, rv, z⟩ := S.objOf gi hH
      exact go vals g rv z
  | _ => exact h.elim

theorem store_dict (S : St cx ι ρ H s) (hu : A.units + 50 < cLine) {a : Addr} {n ep : Nat} {es : List (V × V)} {y z : Value} {i v : V} {Q : Tw.H → Prop} (gi : ι[n]? = some a) (hH : H[n]? = some (.dict es ep)) (ri : RepV ι s.heap y i) (rv : RepV ι s.heap z v) (hk : i.isKey = true) (hl : es.length < SZ)
    (q : ∀ ver, Q (H.set n (.dict (dput es i v) ver))) : wpAny (model prog cx.w) A (setItem (.ref a) y z) (fun _ s' => ∃ H', Mono ι s ι s' ∧ St cx ι ρ H' s' ∧ Q H') E s := by
  obtain ⟨ents, D⟩ := S.dict gi hH
  have hT : s.TypeIs (.ref a) "dict" := ⟨_, D.get, rfl⟩
  refine wpAny_holding (wpAny_bind (wpAny_sequenceKey hT (by decide) ?_))
  refine wpAny_bind (wpAny_callSpecial?_slot (name := Str.ofString "__setitem__") hT slot_dict_setitem
    (wpAny_call_entry slot_dict_setitem hT entry_dict_setitem ?_ (args_dict_setitem _ _ _)))
  show wpAny _ _ (Builtin.Dict.notOrdered "__setitem__" ⟨[.ref a, y, z], []⟩ >>= _) _ _ s
  refine wpAny_bind (wpAny_notOrdered_dict hT ?_)
  show wpAny _ _ (dictSet a y z >>= _) _ _ s
  refine wpAny_bind (dictSet_key S (by show A.units + 1 + 9 < cLine; exact qp1 qc2 (qA (qA qs0 (qN 9)) qk1) qv1 (qA (qA qv0 (qN 50)) qk1) qv1 qt hu) gi hH D hl ri rv hk fun ver s' S' M => ?_)
  exact wpAny_pure ⟨.none, rfl, wpAny_pure ⟨_, M, S', q ver⟩⟩
theorem store_sound (S : St cx ι ρ H s) (hu : A.units + 50 < cLine) {x y z : Value} {o i v : V} {Q : Tw.H → Prop} (ro : RepV ι s.heap x o) (ri : RepV ι s.heap y i) (rv : RepV ι s.heap z v) (h : StoreW o i v H Q) :
    wpAny (model prog cx.w) A (setItem x y z) (fun _ s' => ∃ H', Mono ι s ι s' ∧ St cx ι ρ H' s' ∧ Q H') E s := by
  obtain ⟨n, rfl, h1⟩ := asRef.inv h
  clear h
  obtain ⟨a, rfl, gi⟩ := ro.refI
  obtain ⟨ob, hH, _⟩ := S.obj gi
  rw [hH] at h1
  cases ob with
  | frz vs => exact h1.elim
  | list vs => exact h1.elim
  | dict es ep => exact store_dict S hu gi hH ri rv h1.1 h1.2.1 h1.2.2
end
end Tw
end

section
namespace Tw
open PySem PySem.SeqAt

/-! the state without a frame, and the frames that are kept aside -/
structure Wd (w : World) (P : Addr → Obj → Prop) (s0 : Shared) (sc : Addr) (ι : List Addr) (H : H) (s : Shared) : Prop where
  same : ∃ h tk, s = { s0 with heap := h, toks := tk }
  len : ι.length = H.length
  nodup : ι.Nodup
  objs : ∀ (n : Nat) (a : Addr) (o : MO), ι[n]? = some a → H[n]? = some o → RepO w ι s.heap a o
  low : ∀ a ∈ ι, a ≠ sysModules
  scr : ∀ o, s0.heap.get? sc = some o → s.heap.get? sc = some o
  scrI : ∀ (n : Nat), ι[n]? = some sc → ∃ vs, H[n]? = some (.frz vs)
  scrIn : sc ∈ ι
  prot : ∀ a o, P a o → Kp s0 s.heap a o
  protI : ∀ a o, P a o → a ∉ ι

inductive PostW (w : World) (P : Addr → Obj → Prop) (s0 : Shared) (scr : Addr) (ι : List Addr) (s : Shared) (Q : V → H → Prop) (val : Value) (s' : Shared) : Prop
  | mk (v : V) (ι' : List Addr) (H' : H) (M : Mono ι s ι' s') (W : Wd w P s0 scr ι' H' s') (r : RepV ι' s'.heap val v) (q : Q v H')

/-- the frame's own objects, as they are now -/
noncomputable def frameP (cx : Cx) (h : Heap) : Addr → Obj → Prop := fun a o => cx.P a o ∨ ((a = cx.env.locals ∧ ∃ ob, h.get? a = some ob ∧ o = { ob with slots := #[none] }) ∨ (h.get? a = some o ∧ ∃ x, cx.env.cells.lookup x = some a))

section
variable {cx : Cx} {ι ι' : List Addr} {ρ : Rho} {H H' : Tw.H} {s s' : Shared}
theorem St.wd (S : St cx ι ρ H s) : Wd cx.w cx.P cx.s0 cx.scr ι H s := ⟨S.same, S.len, S.nodup, S.objs, S.low, S.scr, S.scrI, S.scrIn, S.prot, S.protI⟩
theorem St.newL (S : St cx ι ρ H s) (ok : CxOk cx) : cx.s0.heap.get? cx.env.locals = none := by
  cases e : cx.s0.heap.get? cx.env.locals with
  | none => rfl
  | some o => exact absurd (ok.base _ o e fun e' => S.nsI (e' ▸ S.scrIn)) (ok.loc o)
theorem St.frL (S : St cx ι ρ H s) : ∃ ob, s.heap.get? cx.env.locals = some ob ∧ Mk { ob with slots := #[none] } := by
  obtain ⟨m, o, es, ep, g, d, _⟩ := S.ns
  exact ⟨o, g, rfl, es, ep, d⟩
theorem St.wdF (S : St cx ι ρ H s) (ok : CxOk cx) : Wd cx.w (frameP cx s.heap) cx.s0 cx.scr ι H s :=
  ⟨S.same, S.len, S.nodup, S.objs, S.low, S.scr, S.scrI, S.scrIn, fun a o p => p.elim (S.prot a o) fun q => q.elim (fun ⟨e, ob, g, eo⟩ => by
      subst e; subst eo
      obtain ⟨o', g', mk⟩ := S.frL
      rw [g] at g'; cases g'
      exact .inr ⟨S.newL ok, mk, ob.slots, g⟩) fun q => .inl q.1,
    fun a o p => p.elim (S.protI a o) fun q => q.elim (fun e => e.1 ▸ S.nsI) fun ⟨_, x, l⟩ => (S.cells x a l).2.1⟩
theorem Wd.nsF {h : Heap} {m : Str → Option Value} (W : Wd cx.w (frameP cx h) cx.s0 cx.scr ι' H' s') (n : h.Ns cx.env.locals m) : s'.heap.Ns cx.env.locals m := by
  obtain ⟨o, es, ep, g, d, r⟩ := n
  obtain ⟨o', g', d'⟩ := (W.prot _ _ (.inr (.inl ⟨rfl, o, g, rfl⟩))).obj
  exact ⟨o', es, ep, g', d'.trans d, r⟩
theorem VarAt.at {env : Env} {h h' : Heap} {x : Str} {val : Value} (v : VarAt env h x val) (hl : ∀ m, h.Ns env.locals m → h'.Ns env.locals m)
    (hc : ∀ x c v, env.cells.lookup x = some c → h.IsCell c v → h'.IsCell c v) : VarAt env h' x val := by
  rcases v with ⟨k, m, n, e⟩ | ⟨k, c, l, i⟩
  · exact .inl ⟨k, m, hl m n, e⟩
  · exact .inr ⟨k, c, l, hc x c _ l i⟩
theorem Wd.cell {P : Addr → Obj → Prop} {w : World} {s0 : Shared} {sc : Addr} (W : Wd w P s0 sc ι' H' s') {h : Heap} {c : Addr} {v : Option Value} (i : h.IsCell c v) (hp : ∀ o, h.get? c = some o → P c o) : s'.heap.IsCell c v := by
  obtain ⟨o, g, d⟩ := i
  obtain ⟨o', g', d'⟩ := (W.prot c o (hp o g)).obj
  exact ⟨o', g', d'.trans d⟩
/-- another went on where the frame's own objects stayed -/
theorem St.back (S : St cx ι ρ H s) (W : Wd cx.w (frameP cx s.heap) cx.s0 cx.scr ι' H' s') (M : Mono ι s ι' s') : St cx ι' ρ H' s' where
  same := W.same
  len := W.len
  nodup := W.nodup
  objs := W.objs
  low := W.low
  scr := W.scr
  scrI := W.scrI
  scrIn := W.scrIn
  prot := fun a o p => W.prot a o (.inl p)
  protI := fun a o p => W.protI a o (.inl p)
  ns := let ⟨m, n⟩ := S.ns; ⟨m, W.nsF n⟩
  nsI := by
    obtain ⟨m, n⟩ := S.ns
    obtain ⟨o, g⟩ := Ns.obj n
    exact W.protI _ _ (.inr (.inl ⟨rfl, o, g, rfl⟩))
  cells := fun x c l => by
    obtain ⟨⟨ov, ic⟩, _, h2⟩ := S.cells x c l
    obtain ⟨o, g⟩ := IsCell.obj ic
    exact ⟨⟨ov, W.cell ic fun o g => .inr (.inr ⟨g, x, l⟩)⟩, W.protI c o (.inr (.inr ⟨g, x, l⟩)), h2⟩
  vars := fun x i v hx hv => by
    obtain ⟨val, va, r⟩ := S.vars x i v hx hv
    exact ⟨val, va.at (fun m n => W.nsF n) fun x c v l i => W.cell i fun o e => .inr (.inr ⟨e, x, l⟩), M.rep r⟩
end

/-! what the program's text says of names -/
structure Sc where
  nm : Str → Option Nat
  gk : Str → Bool
  ck : Str → Bool
  st : Str → Bool
  lim : Nat
  top : Bool

inductive Gl where
  | fn (k : Nat)
  | bi (b : Bi)
  | isinst
  | ty (t : Ty)
  | const (i : Int)
  | exc

structure FnRec where
  name : Str
  params : Arguments
  body : List Stmt
  scope : Scope

abbrev Names := Str → Option Gl
abbrev Tab := Nat → Option FnRec

inductive FnAt (h : Heap) (a : Addr) (f : FnRec) : Prop
  | mk (o : Obj) (pm code doc : Value) (g : h.get? a = some o) (d : o.data = .func (Calls.docDef f.name f.params f.body f.scope pm code doc)) (c : h.CodeRec code f.name)
/-- the program's exception class that is raised and caught -/
noncomputable def twoN : Str := "Twofold"
/-- the classes behind an exception class of the program's own -/
noncomputable def excM : List Value := [.type "ValueError", .type "Exception", .type "BaseException", .type "object"]
/-- what a global name is -/
noncomputable def IsGl (T : Tab) (h : Heap) (mg mb : Str → Option Value) (x : Str) : Gl → Prop
  | .fn k => ∃ a f, mg x = some (.ref a) ∧ T k = some f ∧ FnAt h a f
  | .bi b => mg x = none ∧ mb x = some b.py
  | .isinst => mg x = none ∧ mb x = some (.builtin "isinstance")
  | .ty t => mg x = none ∧ mb x = some t.py
  | .const i => ∃ t, mg x = some (.int i t)
  | .exc => ∃ C, PyProof.Rows.OwnClsQ x C excM "ValueError.__new__" mg h

structure Gd (G : Names) (T : Tab) (s0 : Shared) (scr : Addr) : Prop where
  ns : ∃ mg mb, s0.heap.Ns mainGlobals mg ∧ s0.heap.Ns builtinsNs mb ∧ ∀ x g, G x = some g → IsGl T s0.heap mg mb x g
  scrG : mainGlobals ≠ scr
  scrB : builtinsNs ≠ scr
  fns : ∀ k f, T k = some f → ∃ a, FnAt s0.heap a f
  notScr : ∀ a f, FnAt s0.heap a f → a ≠ scr
  lim : s0.heap.NoLimit
  code : ∀ c n, s0.heap.CodeRec c n → ∀ h' : Heap, (∀ b o, s0.heap.get? b = some o → b ≠ scr → h'.get? b = some o) → h'.CodeRec c n
  lim' : ∀ h' : Heap, (∀ b o, s0.heap.get? b = some o → b ≠ scr → h'.get? b = some o) → h'.NoLimit
  low : ∃ o, s0.heap.get? sysModules = some o ∧ sysModules ≠ scr

structure Fit (sc : Sc) (cx : Cx) : Prop where
  nm : ∀ x, cx.nm x = sc.nm x
  st : ∀ x, cx.st x = sc.st x
  gk : ∀ x, sc.gk x = true → cx.env.kindOf x = some .globalImplicit ∧ (x == ("__debug__" : Str)) = false
  ck : ∀ x, sc.ck x = true → (cx.env.kindOf x = some .cell ∨ cx.env.kindOf x = some .free) ∧ ∃ c, cx.env.cells.lookup x = some c
  stk : ∀ x, sc.st x = true → cx.env.kindOf x = some .local ∨ cx.env.kindOf x = some .cell
  lim : ∀ x i, sc.nm x = some i → i < sc.lim

noncomputable def Bnd (n : Nat) (ρ : Rho) : Prop := ∀ i, n ≤ i → ρ i = none

/-- the frames of the stack: their names stay, up to what the model notes beside them -/
noncomputable def FrOne (P : Addr → Obj → Prop) (s0 : Shared) (env : Env) : Prop := env.scope.kind ≠ .module ∧ ∃ L, env.frame = some L ∧ s0.heap.get? L = none ∧ (∃ o, P L o) ∧ ∀ o, P L o → Mk o
noncomputable def FrW (A : Around) (P : Addr → Obj → Prop) (s0 : Shared) : Prop := ∃ l, A.frames = some l ∧ ∀ env ∈ l, FrOne P s0 env
noncomputable def FrAt (cx : Cx) (env : Env) : Prop := env.scope.kind ≠ .module ∧ ∃ L, env.frame = some L ∧ cx.s0.heap.get? L = none ∧ (L = cx.env.locals ∨ ((∃ o, cx.P L o) ∧ ∀ o, cx.P L o → Mk o))
noncomputable def FrX (top : Bool) (cx : Cx) (A : Around) : Prop := ∃ l, A.frames = some l ∧ (top = true → ∃ r, l = cx.env :: r ∧ cx.env.frame = some cx.env.locals) ∧ ∀ env ∈ l, FrAt cx env
theorem FrAt.one {cx : Cx} {ι : List Addr} {ρ : Rho} {H : H} {s : Shared} {env : Env} (x : FrAt cx env) (S : St cx ι ρ H s) (ok : CxOk cx) : FrOne (frameP cx s.heap) cx.s0 env := by
  obtain ⟨k, L, f, n, r⟩ := x
  obtain ⟨ob, g, mk⟩ := S.frL
  refine ⟨k, L, f, n, ?_⟩
  rcases r with rfl | ⟨⟨o, po⟩, all⟩
  · refine ⟨⟨_, .inr (.inl ⟨rfl, ob, g, rfl⟩)⟩, fun o q => ?_⟩
    rcases q with q | ⟨_, ob', g', rfl⟩ | ⟨g', y, l⟩
    · exact absurd q (ok.loc o)
    · rw [g] at g'; cases g'; exact mk
    · exact absurd rfl (S.cells y _ l).2.2
  · refine ⟨⟨o, .inl po⟩, fun o' q => ?_⟩
    rcases q with q | ⟨rfl, _⟩ | ⟨g', y, l⟩
    · exact all _ q
    · exact absurd po (ok.loc o)
    · obtain ⟨⟨ov, oc, gc, dc⟩, _⟩ := S.cells y _ l
      obtain ⟨o₂, g₂, d₂⟩ := (S.prot _ _ po).obj
      obtain ⟨_, es, n, d⟩ := all _ po
      rw [gc] at g₂; cases g₂
      rw [dc, d] at d₂; cases d₂
theorem FrX.w {top : Bool} {cx : Cx} {A : Around} {ι : List Addr} {ρ : Rho} {H : H} {s : Shared} (x : FrX top cx A) (S : St cx ι ρ H s) (ok : CxOk cx) : FrW A (frameP cx s.heap) cx.s0 :=
  let ⟨l, e, _, h⟩ := x; ⟨l, e, fun env he => (h env he).one S ok⟩
theorem FrX.keep {top : Bool} {cx : Cx} {A : Around} (x : FrX top cx A) {a : Addr} (as : Aside cx a) (o : Obj) : FrX top (cx.keep a o) A := by
  obtain ⟨l, e, t, h⟩ := x
  refine ⟨l, e, t, fun env he => ?_⟩
  obtain ⟨k, L, f, n, r⟩ := h env he
  refine ⟨k, L, f, n, r.imp id fun ⟨⟨o', po⟩, all⟩ => ⟨⟨o', .inl po⟩, fun o₂ q => ?_⟩⟩
  rcases q with q | ⟨rfl, _⟩
  · exact all _ q
  · exact absurd po (as.np o')

/-- what stays while an exception flies: all but the frames, and these up to what is noted beside them -/
structure Sv (P : Addr → Obj → Prop) (s0 : Shared) (ι : List Addr) (h base : Heap) (fs : List Addr) : Prop where
  has : ∀ b o, h.get? b = some o → b ∉ fs → base.get? b = some o
  out : ∀ b ∈ fs, b ∉ ι
  mkd : ∀ b ∈ fs, ∀ o, P b o → s0.heap.get? b = none ∧ Mk o
  dict : ∀ b ∈ fs, ∀ o, h.get? b = some o → ∃ es n, o.data = .dict es n
inductive PostE (w : World) (P : Addr → Obj → Prop) (s0 : Shared) (scr : Addr) (l : List Env) (ι : List Addr) (s : Shared) (Q : V → H → Prop) (e : Value) (s' : Shared) : Prop
  | mk (a C : Addr) (mg : Str → Option Value) (a0 : Value) (ι' : List Addr) (H' : H) (h base : Heap) (fs : List Addr) (he : e = .ref a) (g : s0.heap.Ns mainGlobals mg) (O : PyProof.Rows.OwnClsQ twoN C excM "ValueError.__new__" mg s0.heap)
      (M : Mono ι s ι' { s' with heap := h }) (W : Wd w P s0 scr ι' H' { s' with heap := h }) (V : Sv P s0 ι' h base fs) (F : Heap.FlyingW base l a (.ref C) a0 s'.heap) (U : h.UpToSlots s'.heap) (q : Q (.bool true) H')

/-- calls answer as the oracle says -/
noncomputable def CallOk (prog : Program) (G : Names) (T : Tab) (C : Ora) (d : Nat) : Prop :=
  ∀ {w : World} {P : Addr → Obj → Prop} {s0 : Shared} {scr : Addr} {ι : List Addr} {H : H} {s : Shared} {A : Around} {k : Nat} {f : FnRec} {a : Addr} {vals : List Value} {vs : List V} {Q : V → Tw.H → Prop} {E : Value → Shared → Prop},
    Gd G T s0 scr → (∀ a o, s0.heap.get? a = some o → a ≠ scr → P a o) → Wd w P s0 scr ι H s → FrW A P s0 → AOk A d → T k = some f → FnAt s0.heap a f → RepVs ι s.heap vals vs → C k vs H Q →
    wpAny (model prog w) A (call (.ref a) vals) (PostW w P s0 scr ι s Q) E s
/-- a call that may raise the program's own exception: the oracle's answer (number 1000 and more) says whether it did -/
noncomputable def TryOk (prog : Program) (G : Names) (T : Tab) (C : Ora) (d : Nat) : Prop :=
  ∀ {w : World} {P : Addr → Obj → Prop} {s0 : Shared} {scr : Addr} {ι : List Addr} {H : H} {s : Shared} {A : Around} {k : Nat} {f : FnRec} {a : Addr} {vals : List Value} {vs : List V} {Q : V → Tw.H → Prop} {l : List Env},
    Gd G T s0 scr → (∀ a o, s0.heap.get? a = some o → a ≠ scr → P a o) → Wd w P s0 scr ι H s → A.frames = some l → (∀ env ∈ l, FrOne P s0 env) → AOk A d → T k = some f → FnAt s0.heap a f → RepVs ι s.heap vals vs → C (1000 + k) vs H Q →
    wpAny (model prog w) A (call (.ref a) vals) (fun _ s' => ∃ v, PostW w P s0 scr ι s (fun _ H' => Q (.bool false) H') v s') (PostE w P s0 scr l ι s Q) s

structure Pg where
  prog : Program
  G : Names
  T : Tab

structure At (p : Pg) (sc : Sc) (C : Ora) (d : Nat) (cx : Cx) (A : Around) : Prop where
  call : CallOk p.prog p.G p.T C d
  «try» : TryOk p.prog p.G p.T C d
  fr : FrX sc.top cx A
  ok : CxOk cx
  fit : Fit sc cx
  gd : Gd p.G p.T cx.s0 cx.scr
  ao : AOk A d

noncomputable def SndE (p : Pg) (sc : Sc) (e : Expr) (e' : E) : Prop :=
  ∀ {C : Ora} {d : Nat} {cx : Cx} {A : Around} {ι : List Addr} {ρ : Rho} {H : H} {s : Shared} {Q : V → Tw.H → Prop} {E : Value → Shared → Prop},
    At p sc C d cx A → St cx ι ρ H s → Bnd sc.lim ρ → wpE C e' ρ H Q → wpAny (model p.prog cx.w) A (eval e cx.env) (Post cx ι ρ s Q) E s

inductive PostT (cx : Cx) (ι : List Addr) (ρ : Rho) (s : Shared) (Q : Bool → H → Prop) (b : Bool) (s' : Shared) : Prop
  | mk (ι' : List Addr) (H' : H) (M : Mono ι s ι' s') (S : St cx ι' ρ H' s') (q : Q b H')

noncomputable def SndT (p : Pg) (sc : Sc) (e : Expr) (e' : E) : Prop :=
  ∀ {C : Ora} {d : Nat} {cx : Cx} {A : Around} {ι : List Addr} {ρ : Rho} {H : H} {s : Shared} {Q : Bool → Tw.H → Prop} {E : Value → Shared → Prop},
    At p sc C d cx A → St cx ι ρ H s → Bnd sc.lim ρ → wpT C e' ρ H Q → wpAny (model p.prog cx.w) A (isTrue e cx.env (eval e cx.env)) (PostT cx ι ρ s Q) E s

inductive PostL (cx : Cx) (ι : List Addr) (ρ : Rho) (s : Shared) (Q : List V → H → Prop) (vals : List Value) (s' : Shared) : Prop
  | mk (vs : List V) (ι' : List Addr) (H' : H) (M : Mono ι s ι' s') (S : St cx ι' ρ H' s') (r : RepVs ι' s'.heap vals vs) (q : Q vs H')

noncomputable def SndEs (p : Pg) (sc : Sc) (es : List Expr) (es' : List E) : Prop :=
  es.length = es'.length ∧ (∀ env, (starEach es env).any (·.1) = false) ∧
  ∀ {C : Ora} {d : Nat} {cx : Cx} {A : Around} {ι : List Addr} {ρ : Rho} {H : H} {s : Shared} {Q : List V → Tw.H → Prop} {E : Value → Shared → Prop} (pos : Pos),
    At p sc C d cx A → St cx ι ρ H s → Bnd sc.lim ρ → wpEs C es' ρ H Q → wpAny (model p.prog cx.w) A (spliced (backTo pos (starEach es cx.env))) (fun vals s' => vals.length = es.length ∧ PostL cx ι ρ s Q vals s') E s

noncomputable def FlowIs (ι : List Addr) (h : Heap) (o : Out) (f : Flow) : Prop := match o with
  | .next => (match f with | .next => True | _ => False)
  | .ret v => (match f with | .ret val => RepV ι h val v | _ => False)
/-- what is said of names behind a statement: nothing where the function is left -/
noncomputable def retR (o : Out) (ρ : Rho) : Rho := match o with
  | .next => ρ
  | .ret _ => fun _ => none
theorem St.ret {cx : Cx} {ι : List Addr} {ρ : Rho} {H : H} {s : Shared} (S : St cx ι ρ H s) : St cx ι (fun _ => none) H s := S.rho fun _ _ _ _ h => nomatch h
inductive PostS (sc : Sc) (cx : Cx) (ι : List Addr) (s : Shared) (Q : Out → Rho → H → Prop) (f : Flow) (s' : Shared) : Prop
  | mk (o : Out) (ρ' : Rho) (ι' : List Addr) (H' : H) (M : Mono ι s ι' s') (S : St cx ι' (retR o ρ') H' s') (b : Bnd sc.lim ρ') (fl : FlowIs ι' s'.heap o f) (q : Q o ρ' H')

noncomputable def SndS (p : Pg) (sc : Sc) (e : Stmt) (e' : S) : Prop :=
  ∀ {C : Ora} {d : Nat} {cx : Cx} {A : Around} {ι : List Addr} {ρ : Rho} {H : H} {s : Shared} {Q : Out → Rho → Tw.H → Prop} {E : Value → Shared → Prop},
    At p sc C d cx A → St cx ι ρ H s → Bnd sc.lim ρ → wpS C e' ρ H Q → wpAny (model p.prog cx.w) A (exec e cx.env) (PostS sc cx ι s Q) E s
noncomputable def SndB (p : Pg) (sc : Sc) (e : List Stmt) (e' : List S) : Prop :=
  ∀ {C : Ora} {d : Nat} {cx : Cx} {A : Around} {ι : List Addr} {ρ : Rho} {H : H} {s : Shared} {Q : Out → Rho → Tw.H → Prop} {E : Value → Shared → Prop},
    At p sc C d cx A → St cx ι ρ H s → Bnd sc.lim ρ → wpB C e' ρ H Q → wpAny (model p.prog cx.w) A (execs e cx.env) (PostS sc cx ι s Q) E s

/-! small things shared by the rules -/
section
variable {cx : Cx} {ι ι' : List Addr} {ρ : Rho} {H H' : Tw.H} {s s' : Shared}
theorem Post.after {Q : V → Tw.H → Prop} (M : Mono ι s ι' s') {val : Value} {s'' : Shared} (p : Post cx ι' ρ s' Q val s'') : Post cx ι ρ s Q val s'' := by
  obtain ⟨v, ι₂, H₂, M₂, S₂, r, q⟩ := p; exact ⟨v, ι₂, H₂, M.trans M₂, S₂, r, q⟩
theorem PostT.after {Q : Bool → Tw.H → Prop} (M : Mono ι s ι' s') {val : Bool} {s'' : Shared} (p : PostT cx ι' ρ s' Q val s'') : PostT cx ι ρ s Q val s'' := by
  obtain ⟨ι₂, H₂, M₂, S₂, q⟩ := p; exact ⟨ι₂, H₂, M.trans M₂, S₂, q⟩
theorem PostS.after {sc : Sc} {Q : Out → Rho → Tw.H → Prop} (M : Mono ι s ι' s') {val : Flow} {s'' : Shared} (p : PostS sc cx ι' s' Q val s'') : PostS sc cx ι s Q val s'' := by
  obtain ⟨v, ρ₂, ι₂, H₂, M₂, S₂, b, r, q⟩ := p; exact ⟨v, ρ₂, ι₂, H₂, M.trans M₂, S₂, b, r, q⟩
theorem At.keep {p : Pg} {sc : Sc} {C : Ora} {d : Nat} {A : Around} (a : At p sc C d cx A) {b : Addr} (as : Aside cx b) (o : Obj) : At p sc C d (cx.keep b o) A :=
  ⟨a.call, a.try, a.fr.keep as o, a.ok.keepA as o, { a.fit with }, a.gd, a.ao⟩
end
end Tw
end

section
namespace Tw
open PySem PySem.SeqAt

theorem mono' {α : Type} {M : Model} {A : Around} {m : Sem α} {Q Q' : α → Shared → Prop} {E : Value → Shared → Prop} {s : Shared} (h : wpAny M A m Q E s) (f : ∀ a s', Q a s' → Q' a s') : wpAny M A m Q' E s :=
  wpAny_mono h f fun _ _ e => e

section
variable {p : Pg} {sc : Sc}

/-! constants -/
theorem snd_none {k : Nat} {pos : Pos} : SndE p sc (.Constant .none k pos) (.lit .none) := fun _ S _ h => wpAny_Constant_none (.here S .none h)
theorem snd_bool {b : Bool} {k : Nat} {pos : Pos} : SndE p sc (.Constant (.bool b) k pos) (.lit (.bool b)) := fun _ S _ h => wpAny_Constant_bool (.here S (.bool b) h)
theorem snd_int {i : Int} {k : Nat} {pos : Pos} : SndE p sc (.Constant (.int i) k pos) (.lit (.int i)) := fun _ S _ h => wpAny_Constant_int (.tok S (.int i _) h _)
theorem snd_str {x : Str} {k : Nat} {pos : Pos} (hx : x.length ≤ SZ) : SndE p sc (.Constant (.str x) k pos) (.lit (.str x.cps.toList)) := fun _ S _ h => wpAny_Constant_str (.tok S (.str x _ hx) h _)

/-! names -/
theorem load_var {cx : Cx} {A : Around} {prog : Program} {s : Shared} {x : Str} {val : Value} {Q : Value → Shared → Prop} {E : Value → Shared → Prop} (ok : CxOk cx) {i : Nat} (hx : cx.nm x = some i) (v : VarAt cx.env s.heap x val) (q : Q val s) :
    wpAny (model prog cx.w) A (loadName cx.env x) Q E s := by
  rcases v with ⟨k, m, n, e⟩ | ⟨k | k, c, l, i⟩
  · exact wpAny_loadName_local ok.fn k n e q
  · exact wpAny_loadName_cell ok.fn k l i q
  · exact wpAny_loadName_free ok.fn k l i q (ok.plain x _ hx).2
theorem snd_var {x : Str} {i : Nat} {pos : Pos} (hx : sc.nm x = some i) : SndE p sc (.Name x pos) (.var i) := fun {C d cx A ι ρ H s Q E} a S _ h => by
  obtain ⟨v, hv, q⟩ := vK.inv h
  have hx' : cx.nm x = some i := (a.fit.nm x).trans hx
  obtain ⟨val, va, r⟩ := S.vars x i v hx' hv
  exact wpAny_Name (load_var a.ok hx' va (.here S r q)) (a.ok.plain x i hx').1

theorem St.globals {cx : Cx} {ι : List Addr} {ρ : Rho} {H : H} {s : Shared} {G : Names} {T : Tab} (S : St cx ι ρ H s) (ok : CxOk cx) (g : Gd G T cx.s0 cx.scr) :
    ∃ mg mb, s.heap.Ns mainGlobals mg ∧ s.heap.Ns builtinsNs mb ∧ cx.s0.heap.Ns mainGlobals mg ∧ cx.s0.heap.Ns builtinsNs mb ∧ ∀ x g, G x = some g → IsGl T cx.s0.heap mg mb x g := by
  obtain ⟨mg, mb, h1, h2, h3⟩ := g.ns
  exact ⟨mg, mb, h1.at' fun o e => (S.prot _ o (ok.base _ o e g.scrG)).base e, h2.at' fun o e => (S.prot _ o (ok.base _ o e g.scrB)).base e, h1, h2, h3⟩

noncomputable def GlIs (p : Pg) (cx : Cx) (x : Str) (v : Value) : Gl → Prop
  | .fn k => ∃ b f, v = .ref b ∧ p.T k = some f ∧ FnAt cx.s0.heap b f
  | .bi b => v = b.py
  | .isinst => v = .builtin "isinstance"
  | .ty t => v = t.py
  | .const i => ∃ t, v = .int i t
  | .exc => ∃ C mg, v = .ref C ∧ cx.s0.heap.Ns mainGlobals mg ∧ PyProof.Rows.OwnClsQ x C excM "ValueError.__new__" mg cx.s0.heap
theorem load_global {cx : Cx} {A B : Around} {d : Nat} {C : Ora} {ι : List Addr} {ρ : Rho} {H : H} {s : Shared} {x : Str} {pos : Pos} {g : Gl} {Q : Value → Shared → Prop} {E : Value → Shared → Prop} (a : At p sc C d cx A) (S : St cx ι ρ H s)
    (hk : sc.gk x = true) (hg : p.G x = some g)
    (q : ∀ v, GlIs p cx x v g → Q v s) :
    wpAny (model p.prog cx.w) B (eval (.Name x pos) cx.env) Q E s := by
  obtain ⟨mg, mb, n1, n2, n0, nb, h3⟩ := S.globals a.ok a.gd
  obtain ⟨k1, k2⟩ := a.fit.gk x hk
  have h := h3 x g hg
  rw [← a.ok.gl] at n1
  rw [← a.ok.bl] at n2
  refine Calls.Name_function_global a.ok.fn k1 ?_ k2
  cases g with
  | fn k => obtain ⟨b, f, e, t, at'⟩ := h; exact Calls.loadGlobal_global n1 e (q _ ⟨b, f, rfl, t, at'⟩)
  | bi b => exact Calls.loadGlobal_builtin n1 h.1 n2 h.2 (q _ rfl)
  | isinst => exact Calls.loadGlobal_builtin n1 h.1 n2 h.2 (q _ rfl)
  | ty t => exact Calls.loadGlobal_builtin n1 h.1 n2 h.2 (q _ rfl)
  | const i => obtain ⟨t, e⟩ := h; exact Calls.loadGlobal_global n1 e (q _ ⟨t, rfl⟩)
  | exc => obtain ⟨C, O⟩ := h; exact Calls.loadGlobal_global n1 O.bound (q _ ⟨C, mg, rfl, n0, O⟩)
theorem snd_const {x : Str} {i : Int} {pos : Pos} (hk : sc.gk x = true) (hg : p.G x = some (.const i)) : SndE p sc (.Name x pos) (.lit (.int i)) := fun a S _ h =>
  load_global a S hk hg fun v e => by obtain ⟨t, rfl⟩ := e; exact .here S (.int i t) h

/-! operators -/
theorem snd_bin {l r : Expr} {pos : Pos} {op : Bop} {a b : E} (h1 : SndE p sc l a) (h2 : SndE p sc r b) : SndE p sc (.BinOp l op.py r pos) (.bin op a b) := fun at' S hb h => by
  refine wpAny_BinOp (mono' (h1 at' S hb h) fun x s₁ ⟨va, ι₁, H₁, M₁, S₁, r₁, q₁⟩ => mono' (h2 at' S₁ hb q₁) fun y s₂ ⟨vb, ι₂, H₂, M₂, S₂, r₂, q₂⟩ => ?_)
  exact mono' (bin_sound S₂ at'.ok (M₂.rep r₁) r₂ q₂) fun _ _ P => (P.after M₂).after M₁
theorem snd_neg {l : Expr} {pos : Pos} {a : E} (h1 : SndE p sc l a) : SndE p sc (.UnaryOp .USub l pos) (.neg a) := fun at' S hb h => by
  refine wpAny_UnaryOp (mono' (h1 at' S hb h) fun x s₁ ⟨va, ι₁, H₁, M₁, S₁, r₁, q₁⟩ => ?_)
  cases r₁ with
  | int i t => exact P.neg_int (Post.after M₁ (.tok S₁ (.int _ _) q₁ _))
  | _ => exact q₁.elim

theorem truth_sound {M : Model} {A : Around} {ι : List Addr} {H : H} {s : Shared} {x : Value} {v : V} {Q : Bool → Prop} {E : Value → Shared → Prop} (r : RepV ι s.heap x v) (h : truth v H Q) : wpAny M A (truthy x) (fun b s' => s' = s ∧ Q b) E s := by
  cases r with
  | none => exact fun _ _ _ => ⟨rfl, h⟩
  | bool b => exact fun _ _ _ => ⟨rfl, h⟩
  | _ => exact h.elim
theorem snd_not {l : Expr} {pos : Pos} {a : E} (h1 : SndE p sc l a) : SndE p sc (.UnaryOp .Not l pos) (.not a) := fun at' S hb h => by
  refine wpAny_UnaryOp (mono' (h1 at' S hb h) fun x s₁ ⟨va, ι₁, H₁, M₁, S₁, r₁, q₁⟩ => ?_)
  refine not_value (mono' (truth_sound r₁ q₁) fun b s₂ ⟨e, q₂⟩ => ?_)
  subst e; exact Post.after M₁ (.here S₁ (.bool _) q₂)

/-- tests by value -/
theorem sndT_value {e : Expr} {e' : E} (h1 : SndE p sc e e') (he : ∀ env whole, isTrue e env whole = (do let v ← whole; standAt e.pos; holding [v] (truthy v)))
    (hw : ∀ C ρ H Q, wpT C e' ρ H Q → wpE C e' ρ H fun v h => truth v h fun b => Q b h) : SndT p sc e e' := fun at' S hb h => by
  refine wpAny_isTrue_value (mono' (h1 at' S hb (hw _ _ _ _ h)) fun x s₁ ⟨va, ι₁, H₁, M₁, S₁, r₁, q₁⟩ => ?_) (he _ _)
  exact mono' (truth_sound r₁ q₁) fun b s₂ ⟨e, q₂⟩ => by subst e; exact ⟨ι₁, H₁, M₁, S₁, q₂⟩
theorem sndT_never {e : Expr} {e' : E} (hw : ∀ C ρ H Q, wpT C e' ρ H Q → False) : SndT p sc e e' := fun _ _ _ h => (hw _ _ _ _ h).elim
theorem sndT_not {l : Expr} {pos : Pos} {a : E} (h1 : SndT p sc l a) : SndT p sc (.UnaryOp .Not l pos) (.not a) := fun at' S hb h =>
  wpAny_isTrue_Not (mono' (h1 at' S hb h) fun _ _ ⟨ι₁, H₁, M₁, S₁, q₁⟩ => ⟨ι₁, H₁, M₁, S₁, q₁⟩)

/-! and, or -/
/-- e' is what a list of operands, from the left, is -/
inductive Chain (p : Pg) (sc : Sc) (and : Bool) : List Expr → E → Prop
  | one {e : Expr} {e' : E} : SndE p sc e e' → SndT p sc e e' → Chain p sc and [e] e'
  | more {e e₂ : Expr} {r : List Expr} {e' r' : E} : SndE p sc e e' → SndT p sc e e' → Chain p sc and (e₂ :: r) r' → Chain p sc and (e :: e₂ :: r) (if and then .and e' r' else .or e' r')

theorem boolOp_step {M : Model} {A : Around} {env : Env} {pos : Pos} {op : BoolOp} {x y : Expr} {r : List Expr} {s : Shared} {Q : Value → Shared → Prop} {E : Value → Shared → Prop}
    (h : wpAny M A (eval x env) (fun v s₁ => wpAny M A (truthy v) (fun t s₂ => if (t == (op == .And)) then wpAny M A (boolOp pos op (evalEach (y :: r) env)) Q E s₂ else Q v s₂) E s₁) E s) :
    wpAny M A (boolOp pos op (evalEach (x :: y :: r) env)) Q E s := by
  show wpAny M A (do
    let v ← eval x env
    standAt pos
    let t ← holding [v] (truthy v)
    match op, t with
    | .And, false | .Or, true => pure v
    | _, _ => boolOp pos op (evalEach (y :: r) env)) Q E s
  refine wpAny_bind (mono' h fun v s₁ h₁ => wpAny_bind (wpAny_standAt (wpAny_bind (wpAny_holding (mono' h₁ fun t s₂ h₂ => ?_)))))
  cases op <;> cases t <;> first | exact wpAny_pure h₂ | exact h₂

theorem chainE {and : Bool} {es : List Expr} {e' : E} (c : Chain p sc and es e') : ∀ {C : Ora} {d : Nat} {cx : Cx} {A : Around} {ι : List Addr} {ρ : Rho} {H : H} {s : Shared} {Q : V → Tw.H → Prop} {E : Value → Shared → Prop} {pos : Pos},
    At p sc C d cx A → St cx ι ρ H s → Bnd sc.lim ρ → wpE C e' ρ H Q → wpAny (model p.prog cx.w) A (boolOp pos (if and then .And else .Or) (evalEach es cx.env)) (Post cx ι ρ s Q) E s := by
  induction c with
  | one h1 _ => intro C d cx A ι ρ H s Q E pos at' S hb h; exact h1 at' S hb h
  | more h1 _ _ ih =>
    intro C d cx A ι ρ H s Q E pos at' S hb h
    refine boolOp_step ?_
    cases and with
    | true =>
      refine mono' (h1 at' S hb h) fun x s₁ ⟨va, ι₁, H₁, M₁, S₁, r₁, q₁⟩ => mono' (truth_sound r₁ q₁) fun t s₂ ⟨e, q₂⟩ => ?_
      subst e
      cases t with
      | true => exact mono' (ih (pos := pos) at' S₁ hb q₂) fun _ _ P => P.after M₁
      | false => exact Post.after M₁ (.here S₁ r₁ q₂)
    | false =>
      refine mono' (h1 at' S hb h) fun x s₁ ⟨va, ι₁, H₁, M₁, S₁, r₁, q₁⟩ => mono' (truth_sound r₁ q₁) fun t s₂ ⟨e, q₂⟩ => ?_
      subst e
      cases t with
      | false => exact mono' (ih (pos := pos) at' S₁ hb q₂) fun _ _ P => P.after M₁
      | true => exact Post.after M₁ (.here S₁ r₁ q₂)
theorem chainT {and : Bool} {es : List Expr} {e' : E} (c : Chain p sc and es e') : ∀ {C : Ora} {d : Nat} {cx : Cx} {A : Around} {ι : List Addr} {ρ : Rho} {H : H} {s : Shared} {Q : Bool → Tw.H → Prop} {E : Value → Shared → Prop},
    At p sc C d cx A → St cx ι ρ H s → Bnd sc.lim ρ → wpT C e' ρ H Q → wpAny (model p.prog cx.w) A (allTrue (if and then .And else .Or) es cx.env) (PostT cx ι ρ s Q) E s := by
  induction c with
  | one _ h1 =>
    intro C d cx A ι ρ H s Q E at' S hb h
    cases and with
    | true =>
      refine wpAny_allTrue_And_cons (mono' (h1 at' S hb h) fun b s₁ P => ?_)
      cases b with
      | true => exact wpAny_allTrue_And_nil P
      | false => exact P
    | false =>
      refine wpAny_allTrue_Or_cons (mono' (h1 at' S hb h) fun b s₁ P => ?_)
      cases b with
      | true => exact P
      | false => exact wpAny_allTrue_Or_nil P
  | more _ h1 _ ih =>
    intro C d cx A ι ρ H s Q E at' S hb h
    cases and with
    | true =>
      refine wpAny_allTrue_And_cons (mono' (h1 at' S hb h) fun b s₁ ⟨ι₁, H₁, M₁, S₁, q₁⟩ => ?_)
      cases b with
      | true => exact mono' (ih at' S₁ hb q₁) fun _ _ P => P.after M₁
      | false => exact ⟨ι₁, H₁, M₁, S₁, q₁⟩
    | false =>
      refine wpAny_allTrue_Or_cons (mono' (h1 at' S hb h) fun b s₁ ⟨ι₁, H₁, M₁, S₁, q₁⟩ => ?_)
      cases b with
      | false => exact mono' (ih at' S₁ hb q₁) fun _ _ P => P.after M₁
      | true => exact ⟨ι₁, H₁, M₁, S₁, q₁⟩
theorem snd_chain {and : Bool} {es : List Expr} {e' : E} {pos : Pos} (c : Chain p sc and es e') : SndE p sc (.BoolOp (if and then .And else .Or) es pos) e' := fun at' S hb h => chainE c at' S hb h
theorem sndT_chain {and : Bool} {es : List Expr} {e' : E} {pos : Pos} (c : Chain p sc and es e') : SndT p sc (.BoolOp (if and then .And else .Or) es pos) e' := fun at' S hb h => wpAny_isTrue_BoolOp (chainT c at' S hb h)

/-! comparisons -/
theorem snd_cmp {l r : Expr} {pos : Pos} {op : Cmp} {a b : E} (h1 : SndE p sc l a) (h2 : SndE p sc r b) (hm : behindInMarks op.py r = false) : SndE p sc (.Compare l [op.py] [r] pos) (.cmp op a b) := fun at' S hb h => by
  refine wpAny_Compare1 (mono' (h1 at' S hb h) fun x s₁ ⟨va, ι₁, H₁, M₁, S₁, r₁, q₁⟩ => mono' (h2 at' S₁ hb q₁) fun y s₂ ⟨vb, ι₂, H₂, M₂, S₂, r₂, q₂⟩ => ?_) hm
  exact mono' (cmp_sound S₂ at'.ao.u (M₂.rep r₁) r₂ q₂) fun _ _ P => ((P.post S₂).after M₂).after M₁
theorem sndT_cmp {l r : Expr} {pos : Pos} {op : Cmp} {a b : E} (h1 : SndE p sc l a) (h2 : SndE p sc r b) (hm : behindInMarks op.py r = false) : SndT p sc (.Compare l [op.py] [r] pos) (.cmp op a b) := fun at' S hb h => by
  refine wpAny_isTrue_Compare1 (mono' (h1 at' S hb h) fun x s₁ ⟨va, ι₁, H₁, M₁, S₁, r₁, q₁⟩ => mono' (h2 at' S₁ hb q₁) fun y s₂ ⟨vb, ι₂, H₂, M₂, S₂, r₂, q₂⟩ => ?_) hm
  refine mono' (cmp_sound S₂ at'.ao.u (M₂.rep r₁) r₂ q₂) fun c s₃ ⟨b, tk, e, e', q⟩ => ?_
  subst e; subst e'
  exact wpAny_truthy_bool ⟨ι₂, H₂, M₁.trans (M₂.trans (.tk tk)), S₂.toks tk, q⟩

section
variable {M : Model} {A : Around} {env : Env} {s : Shared} {E : Value → Shared → Prop}
theorem compare2 {l r r₂ : Expr} {o o₂ : CmpOp} {pos : Pos} {Q : Value → Shared → Prop} (hm : behindInMarks o₂ r₂ = false)
    (h : wpAny M A (eval l env) (fun a s₁ => wpAny M A (eval r env) (fun b s₂ => wpAny M A (compareOp o a b) (fun c s₃ => wpAny M A (truthy c) (fun t s₄ =>
      if t then wpAny M A (eval r₂ env) (fun d s₅ => wpAny M A (compareOp o₂ b d) Q E s₅) E s₄ else Q c s₄) E s₃) E s₂) E s₁) E s) : wpAny M A (eval (.Compare l [o, o₂] [r, r₂] pos) env) Q E s := by
  rw [arm_eval_Compare]
  refine wpAny_bind (mono' h fun a s₁ h₁ => ?_)
  show wpAny M A (do
    let rv ← holding [a] (eval r env)
    standAt pos
    let c ← holding [a, rv] (compareOp o a rv)
    release [a, rv] [c]
    if ← holding [c, rv] (truthy c) then compareChain pos rv [o₂] [markedBehindIn o₂ r₂ (eval r₂ env)] else pure c) Q E s₁
  refine wpAny_bind (wpAny_holding (mono' h₁ fun b s₂ h₂ => wpAny_bind (wpAny_standAt (wpAny_bind (wpAny_holding (mono' h₂ fun c s₃ h₃ => ?_))))))
  refine wpAny_bind (wpAny_release (wpAny_bind (wpAny_holding (mono' h₃ fun t s₄ h₄ => ?_))))
  cases t with
  | false => exact wpAny_pure h₄
  | true =>
    rw [if_pos rfl] at h₄ ⊢
    rw [markedBehindIn_of_false hm]
    show wpAny M A (do
      let rv ← holding [b] (eval r₂ env)
      standAt pos
      operate [b, rv] (compareOp o₂ b rv)) Q E s₄
    exact wpAny_bind (wpAny_holding (mono' h₄ fun d s₅ h₅ => wpAny_bind (wpAny_standAt (wpAny_operateT h₅))))
theorem test2 {l r r₂ : Expr} {o o₂ : CmpOp} {pos : Pos} {whole : Sem Value} {Q : Bool → Shared → Prop} (hm : behindInMarks o₂ r₂ = false)
    (h : wpAny M A (eval l env) (fun a s₁ => wpAny M A (eval r env) (fun b s₂ => wpAny M A (compareOp o a b) (fun c s₃ => wpAny M A (truthy c) (fun t s₄ =>
      if t then wpAny M A (eval r₂ env) (fun d s₅ => wpAny M A (compareOp o₂ b d) (fun c s₆ => wpAny M A (truthy c) Q E s₆) E s₅) E s₄ else Q false s₄) E s₃) E s₂) E s₁) E s) :
    wpAny M A (isTrue (.Compare l [o, o₂] [r, r₂] pos) env whole) Q E s := by
  show wpAny M A (do testChain pos (← eval l env) [o, o₂] (markedEach [o, o₂] [r, r₂] (evalEach [r, r₂] env))) Q E s
  refine wpAny_bind (mono' h fun a s₁ h₁ => ?_)
  show wpAny M A (do
    let rv ← holding [a] (eval r env)
    standAt pos
    let c ← holding [a, rv] (compareOp o a rv)
    release [a, rv] [c]
    if ← holding [c, rv] (truthy c) then testChain pos rv [o₂] [markedBehindIn o₂ r₂ (eval r₂ env)] else pure false) Q E s₁
  refine wpAny_bind (wpAny_holding (mono' h₁ fun b s₂ h₂ => wpAny_bind (wpAny_standAt (wpAny_bind (wpAny_holding (mono' h₂ fun c s₃ h₃ => ?_))))))
  refine wpAny_bind (wpAny_release (wpAny_bind (wpAny_holding (mono' h₃ fun t s₄ h₄ => ?_))))
  cases t with
  | false => exact wpAny_pure h₄
  | true =>
    rw [if_pos rfl] at h₄ ⊢
    rw [markedBehindIn_of_false hm]
    show wpAny M A (do
      let rv ← holding [b] (eval r₂ env)
      standAt pos
      let c ← operate [b, rv] (compareOp o₂ b rv)
      holding [c] (truthy c)) Q E s₄
    exact wpAny_bind (wpAny_holding (mono' h₄ fun d s₅ h₅ => wpAny_bind (wpAny_standAt (wpAny_bind (wpAny_operateT (mono' h₅ fun _ _ h₆ => wpAny_holding h₆))))))
end

theorem snd_cmp2 {l r r₂ : Expr} {pos : Pos} {op op₂ : Cmp} {a b c : E} (h1 : SndE p sc l a) (h2 : SndE p sc r b) (h3 : SndE p sc r₂ c) (hm : behindInMarks op₂.py r₂ = false) :
    SndE p sc (.Compare l [op.py, op₂.py] [r, r₂] pos) (.cmp2 op op₂ a b c) := fun at' S hb h => by
  refine compare2 hm (mono' (h1 at' S hb h) fun x s₁ ⟨va, ι₁, H₁, M₁, S₁, r₁, q₁⟩ => mono' (h2 at' S₁ hb q₁) fun y s₂ ⟨vb, ι₂, H₂, M₂, S₂, r₂, q₂⟩ => ?_)
  refine mono' (cmp_sound S₂ at'.ao.u (M₂.rep r₁) r₂ q₂) fun c s₃ ⟨b, tk, e, e', q⟩ => ?_
  subst e; subst e'
  have M₃ := M₁.trans (M₂.trans (.tk tk))
  cases b with
  | false => exact wpAny_truthy_bool (Post.after M₃ (.here (S₂.toks tk) (.bool _) q))
  | true =>
    refine wpAny_truthy_bool (mono' (h3 at' (S₂.toks tk) hb q) fun z s₃ ⟨vc, ι₃, H₃, M₄, S₃, r₃, q₃⟩ => ?_)
    exact mono' (cmp_sound S₃ at'.ao.u (M₄.rep r₂) r₃ q₃) fun _ _ P => ((P.post S₃).after M₄).after M₃
theorem sndT_cmp2 {l r r₂ : Expr} {pos : Pos} {op op₂ : Cmp} {a b c : E} (h1 : SndE p sc l a) (h2 : SndE p sc r b) (h3 : SndE p sc r₂ c) (hm : behindInMarks op₂.py r₂ = false) :
    SndT p sc (.Compare l [op.py, op₂.py] [r, r₂] pos) (.cmp2 op op₂ a b c) := fun at' S hb h => by
  refine test2 hm (mono' (h1 at' S hb h) fun x s₁ ⟨va, ι₁, H₁, M₁, S₁, r₁, q₁⟩ => mono' (h2 at' S₁ hb q₁) fun y s₂ ⟨vb, ι₂, H₂, M₂, S₂, r₂, q₂⟩ => ?_)
  refine mono' (cmp_sound S₂ at'.ao.u (M₂.rep r₁) r₂ q₂) fun c s₃ ⟨b, tk, e, e', q⟩ => ?_
  subst e; subst e'
  have M₃ := M₁.trans (M₂.trans (.tk tk))
  cases b with
  | false => exact wpAny_truthy_bool ⟨ι₂, H₂, M₃, S₂.toks tk, q⟩
  | true =>
    refine wpAny_truthy_bool (mono' (h3 at' (S₂.toks tk) hb q) fun z s₃ ⟨vc, ι₃, H₃, M₄, S₃, r₃, q₃⟩ => ?_)
    refine mono' (cmp_sound S₃ at'.ao.u (M₄.rep r₂) r₃ q₃) fun c s₃ ⟨b, tk, e, e', q⟩ => ?_
    subst e; subst e'
    exact wpAny_truthy_bool ⟨ι₃, H₃, M₃.trans (M₄.trans (.tk tk)), S₃.toks tk, q⟩

/-! subscripts -/
theorem snd_sub {l r : Expr} {pos : Pos} {a b : E} (h1 : SndE p sc l a) (h2 : SndE p sc r b) (hns : ∀ a b c p, r ≠ .Slice a b c p) : SndE p sc (.Subscript l r pos) (.sub a b) := fun at' S hb h => by
  refine PyProof.Rows.Subscript_ (mono' (h1 at' S hb h) fun x s₁ ⟨va, ι₁, H₁, M₁, S₁, r₁, q₁⟩ => mono' (h2 at' S₁ hb q₁) fun y s₂ ⟨vb, ι₂, H₂, M₂, S₂, r₂, q₂⟩ => ?_)
  exact mono' (sub_sound S₂ at'.ao.u hns (M₂.rep r₁) r₂ q₂) fun _ _ P => ((PostR.post S₂ P).after M₂).after M₁
/-- a slice's bound: an expression, or none -/
noncomputable def SndO (p : Pg) (sc : Sc) (e : Option Expr) (e' : E) : Prop :=
  ∀ {C : Ora} {d : Nat} {cx : Cx} {A : Around} {ι : List Addr} {ρ : Rho} {H : H} {s : Shared} {Q : V → Tw.H → Prop} {E : Value → Shared → Prop},
    At p sc C d cx A → St cx ι ρ H s → Bnd sc.lim ρ → wpE C e' ρ H Q → wpAny (model p.prog cx.w) A (valueOrNone (evalOpt e cx.env)) (Post cx ι ρ s Q) E s
theorem sndO_some {e : Expr} {e' : E} (h : SndE p sc e e') : SndO p sc (some e) e' := h
theorem sndO_none : SndO p sc none (.lit .none) := fun _ S _ h => wpAny_pure (.here S .none h)
theorem snd_slice {l : Expr} {lo hi : Option Expr} {pos pos' : Pos} {a b c : E} (h1 : SndE p sc l a) (h2 : SndO p sc lo b) (h3 : SndO p sc hi c) : SndE p sc (.Subscript l (.Slice lo hi none pos') pos) (.slice a b c) := fun at' S hb h => by
  refine PyProof.Rows.Subscript_ (mono' (h1 at' S hb h) fun x s₁ ⟨va, ι₁, H₁, M₁, S₁, r₁, q₁⟩ => ?_)
  show wpAny _ _ (do
    let l ← valueOrNone (evalOpt lo _)
    let u ← holding [l] (valueOrNone (evalOpt hi _))
    let s ← holding [l, u] (valueOrNone (evalOpt none _))
    newFields "slice" [l, u, s]) _ _ s₁
  refine wpAny_bind (mono' (h2 at' S₁ hb q₁) fun y s₂ ⟨vb, ι₂, H₂, M₂, S₂, r₂, q₂⟩ => wpAny_bind (wpAny_holding (mono' (h3 at' S₂ hb q₂) fun z s₃ ⟨vc, ι₃, H₃, M₃, S₃, r₃, q₃⟩ => ?_)))
  refine wpAny_bind (wpAny_holding (wpAny_pure ?_))
  have hk : ∀ b ob, s₃.heap.get? b = some ob → (s₃.heap.push { cls := .type "slice", data := .fields #[y, z, .none] }).get? b = some ob := fun _ _ e => Heap.get?_push_of_some _ e
  refine wpAny_newObj_type ?_
  refine mono' (slice_sound (S₃.push _ s₃.toks) at'.ok (((M₂.trans M₃).rep r₁).mono (List.prefix_refl _) (.of_ext hk)) ((M₃.rep r₂).mono (List.prefix_refl _) (.of_ext hk)) (r₃.mono (List.prefix_refl _) (.of_ext hk)) (get?_fresh rfl) q₃) fun _ _ P => ?_
  exact ((((P.after (.ext hk)).after M₃).after M₂).after M₁)
end
end Tw
end

section
namespace Tw
open PySem PySem.SeqAt

section
variable {p : Pg} {sc : Sc}

/-! rows of expressions -/
theorem sndEs_nil : SndEs p sc [] [] := ⟨rfl, fun _ => rfl, fun _ _ S _ h => wpAny_items_nil ⟨rfl, [], _, _, .refl _ _, S, .nil, h⟩⟩
theorem sndEs_cons {e : Expr} {es : List Expr} {e' : E} {es' : List E} (he : ∀ env, starEach (e :: es) env = (false, eval e env) :: starEach es env) (h1 : SndE p sc e e') (h2 : SndEs p sc es es') : SndEs p sc (e :: es) (e' :: es') := by
  refine ⟨by simp [h2.1], fun env => by rw [he]; simpa using h2.2.1 env, fun pos at' S hb h => ?_⟩
  refine wpAny_items_cons (mono' (h1 at' S hb h) fun x s₁ ⟨va, ι₁, H₁, M₁, S₁, r₁, q₁⟩ => mono' (h2.2.2 pos at' S₁ hb q₁) fun xs s₂ ⟨hl, vs, ι₂, H₂, M₂, S₂, r₂, q₂⟩ => ?_) (he _)
  exact ⟨by simp [hl], va :: vs, ι₂, H₂, M₁.trans M₂, S₂, .cons (M₂.rep r₁) r₂, q₂⟩

theorem snd_tup {es : List Expr} {es' : List E} {k : Nat} {pos : Pos} (h1 : SndEs p sc es es') (hn : es.length ≤ 1000) : SndE p sc (.Tuple es k pos) (.tup es') := fun at' S hb h => by
  have hz : (1000 : Nat) ≤ SZ := by decide
  refine wpAny_Tuple (mono' (h1.2.2 pos at' S hb h) fun xs s₁ ⟨hl, vs, ι₁, H₁, M₁, S₁, r₁, q₁⟩ => ⟨Nat.le_trans (hl ▸ hn) hz, ?_⟩)
  exact Post.after M₁ (Post.tup (vals := xs.toArray) (n := 0) S₁ (by simpa using r₁) (by rw [← r₁.length, hl]; exact qp2 qc2 qv0 qv1 qv0 (qN 1000) (qN 1000) qv1 qt hn hz) q₁ s₁.toks)
theorem snd_list {es : List Expr} {es' : List E} {pos : Pos} (h1 : SndEs p sc es es') (hn : es.length ≤ 1000) : SndE p sc (.List es pos) (.list es') := fun at' S hb h => by
  have hz : (1000 : Nat) ≤ SZ := by decide
  refine wpAny_List (mono' (h1.2.2 pos at' S hb h) fun xs s₁ ⟨hl, vs, ι₁, H₁, M₁, S₁, r₁, q₁⟩ => ⟨Nat.le_trans (hl ▸ hn) hz, ?_⟩)
  exact Post.after M₁ (Post.list (vals := xs.toArray) (n := 0) S₁ at'.ok (by simpa using r₁) (by rw [← r₁.length, hl]; exact qp2 qc2 qv0 qv1 qv0 (qN 1000) (qN 1000) qv1 qt hn hz) q₁ s₁.toks)

/-! calls -/
theorem args_of {M : Model} {A : Around} {f : Value} {es : List Expr} {env : Env} {pos : Pos} {s : Shared} {E : Value → Shared → Prop} {Q : Args → Shared → Prop} (hs : (starEach es env).any (·.1) = false)
    (h : wpAny M A (spliced (backTo pos (starEach es env))) (fun vs s' => Q ⟨vs, []⟩ s') E s) : wpAny M A (evalArgs f true (backTo pos (starEach es env)) []) Q E s := by
  cases hb : backTo pos (starEach es env) with
  | nil =>
    rw [hb] at h
    unfold evalArgs
    show wpAny M A (spliced [] >>= _) Q E s
    refine wpAny_bind (mono' h fun vs s' h' => ?_)
    refine wpAny_bind (wpAny_pure ?_)
    refine wpAny_holding ?_
    exact wpAny_bind (wpAny_pure (wpAny_bind (wpAny_pure (wpAny_pure h'))))
  | cons x r =>
    obtain ⟨b, t⟩ := x
    have : b = false := by
      cases hse : starEach es env with
      | nil => rw [hse] at hb; simp [backTo] at hb
      | cons y r' =>
        rw [hse] at hb hs
        simp [backTo] at hb
        simp at hs
        rw [← hb.1.1]; exact hs.1
    subst this
    rw [hb] at h
    exact Calls.evalArgs_plain h
theorem back_any {es : List Expr} {env : Env} {pos : Pos} (hs : (starEach es env).any (·.1) = false) : (backTo pos (starEach es env)).any (·.1) = false := by
  unfold backTo
  rw [List.any_map]
  simpa [Function.comp_def] using hs

theorem snd_call {x : Str} {np pos : Pos} {es : List Expr} {es' : List E} {k : Nat} (hk : sc.gk x = true) (hg : p.G x = some (.fn k)) (h1 : SndEs p sc es es') : SndE p sc (.Call (.Name x np) es [] pos) (.call k es') := fun {C d cx A ι ρ H s Q E} at' S hb h => by
  refine wpAny_Call_ofName (load_global at' S hk hg fun v e => ?_)
  obtain ⟨b, f, rfl, ht, hf⟩ := e
  obtain ⟨o, pm, code, doc, go, do', hcode⟩ := hf
  refine Calls.callWith_function (o := o) (args_of (h1.2.1 _) (mono' (h1.2.2 pos at' S hb h) fun xs s₁ ⟨_, vs, ι₁, H₁, M₁, S₁, r₁, q₁⟩ => ⟨⟨(S₁.prot _ _ (at'.ok.base _ _ go (at'.gd.notScr _ f ⟨o, pm, code, doc, go, do', hcode⟩))).base go, do'⟩, ?_⟩))
  refine mono' (at'.call at'.gd (fun a o e h => Or.inl (at'.ok.base a o e h)) (S₁.wdF at'.ok) (at'.fr.w S₁ at'.ok) at'.ao ht ⟨o, pm, code, doc, go, do', hcode⟩ r₁ q₁) fun val s₂ ⟨v, ι₂, H₂, M₂, W₂, r₂, q₂⟩ => ?_
  exact ⟨v, ι₂, H₂, M₁.trans M₂, S₁.back W₂ M₂, r₂, q₂⟩
theorem Bi.form (b : Bi) : (∃ id, b.py = .builtin id) ∨ (∃ T, b.py = .type T) := by
  cases b <;> first | exact .inl ⟨_, rfl⟩ | exact .inr ⟨_, rfl⟩
theorem snd_bi {x : Str} {np pos : Pos} {es : List Expr} {es' : List E} {b : Bi} (hk : sc.gk x = true) (hg : p.G x = some (.bi b)) (h1 : SndEs p sc es es') : SndE p sc (.Call (.Name x np) es [] pos) (.bi b es') := fun {C d cx A ι ρ H s Q E} at' S hb h => by
  refine wpAny_Call_ofName (load_global at' S hk hg fun v e => ?_)
  subst e
  have key : wpAny (model p.prog cx.w) A (evalArgs b.py true (backTo pos (starEach es cx.env)) []) (fun a s₁ => wpAny (model p.prog cx.w) A (call b.py ([] ++ a.pos) a.kw) (Post cx ι ρ s Q) E s₁) E s :=
    args_of (h1.2.1 _) (mono' (h1.2.2 pos at' S hb h) fun xs s₁ ⟨_, vs, ι₁, H₁, M₁, S₁, r₁, q₁⟩ => mono' (bi_sound S₁ at'.ok at'.ao.hd at'.ao.u r₁ q₁) fun _ _ P => P.after M₁)
  rcases b.form with ⟨id, e⟩ | ⟨T, e⟩ <;> rw [e] at key ⊢
  · exact Calls.callWith_builtin (back_any (h1.2.1 _)) key
  · exact callWith_excType (back_any (h1.2.1 _)) key
noncomputable def tyOf : Gl → Option Ty
  | .ty t => some t
  | .bi .list => some .list
  | .bi .int => some .int
  | _ => none
theorem snd_isinst {x y : Str} {np ny pos : Pos} {e : Expr} {e' : E} {t : Ty} {g : Gl} (hk : sc.gk x = true) (hg : p.G x = some .isinst) (hk' : sc.gk y = true) (hg' : p.G y = some g) (hty : tyOf g = some t) (he : ∀ env, starEach [e, .Name y ny] env = (false, eval e env) :: starEach [.Name y ny] env)
    (h1 : SndE p sc e e') : SndE p sc (.Call (.Name x np) [e, .Name y ny] [] pos) (.isinst e' t) := fun {C d cx A ι ρ H s Q E} at' S hb h => by
  refine wpAny_Call_ofName (load_global at' S hk hg fun v e => ?_)
  subst e
  have hs : (starEach [e, .Name y ny] cx.env).any (·.1) = false := by rw [he]; rfl
  refine Calls.callWith_builtin (back_any hs) (args_of hs ?_)
  refine wpAny_items_cons (mono' (h1 at' S hb h) fun x s₁ ⟨va, ι₁, H₁, M₁, S₁, r₁, q₁⟩ => ?_) (he _)
  refine wpAny_items_cons (load_global at' S₁ hk' hg' fun v e => ?_)
  have e : v = t.py := by
    cases g with
    | ty t' => cases hty; exact e
    | bi b => cases b <;> cases hty <;> exact e
    | _ => cases hty
  subst e
  refine wpAny_items_nil ?_
  exact mono' (is_sound S₁ r₁ q₁) fun _ _ P => (P.post S₁).after M₁

theorem snd_meth {o : Expr} {apos pos : Pos} {es : List Expr} {o' : E} {es' : List E} {m : Mt} (hbase : ∀ env, attributeBase o m.nm env (eval o env) = eval o env) (hline : (apos.endLine == pos.line) = true) (hn : es.length < 29)
    (h0 : SndE p sc o o') (h1 : SndEs p sc es es') : SndE p sc (.Call (.Attribute o m.nm apos) es [] pos) (.meth m o' es') := fun {C d cx A ι ρ H s Q E} at' S hb h => by
  rw [arm_eval_Call, hbase]
  refine wpAny_bind (mono' (h0 at' S hb h) fun x s₁ ⟨vo, ι₁, H₁, M₁, S₁, r₁, hr, q₁⟩ => wpAny_bind (wpAny_standAt ?_))
  have hform : methodCallForm (es.length + ([] : List Keyword).length) (backTo pos (starEach es cx.env)) (backToKw pos (keywordEach [] cx.env)) = true := by
    have := back_any (pos := pos) (h1.2.1 cx.env)
    unfold methodCallForm
    simp only [List.any_eq_false] at this
    rw [show backToKw pos (keywordEach [] cx.env) = [] from rfl]
    simp
    refine ⟨fun a hm => by simpa using this _ hm, by exact qp1 qc1 qs0 (qN 30) qs0 (qN 29) qt hn⟩
  have hpos : methodCallPos true o cx.env apos pos = pure pos := by unfold methodCallPos; simp [hline]
  unfold methodCall
  rw [hform]
  refine wpAny_bind (wpAny_holding (getMethod_sound S₁ r₁ hr ?_))
  refine wpAny_bind (wpAny_of_eq hpos ?_)
  refine Calls.callWith_builtin (back_any (h1.2.1 _)) (args_of (h1.2.1 _) (mono' (h1.2.2 pos at' S₁ hb q₁) fun xs s₂ ⟨_, vs, ι₂, H₂, M₂, S₂, r₂, q₂⟩ => ?_))
  exact mono' (meth_sound S₂ at'.ao.u (M₂.rep r₁) r₂ q₂) fun _ _ P => (P.after M₂).after M₁
end
end Tw
end

section
namespace Tw
open PySem PySem.SeqAt

/-! targets -/
noncomputable def Tgt.slots : Tgt → List Nat
  | .name i => [i]
  | .tup is => is

theorem upds_out : ∀ (is : List Nat) (vs : List V) (ρ : Rho) (i : Nat), i ∉ is → upds ρ is vs i = ρ i
  | [], _, _, _, _ => by simp [upds]
  | j :: is, [], _, _, _ => by simp [upds]
  | j :: is, v :: vs, ρ, i, h => by
    simp at h
    rw [upds, upds_out is vs _ i h.2]
    simp [upd, h.1]
theorem bindT_ext {t : Tgt} {v : V} {ρ : Rho} {K : Rho → Prop} (h : bindT t v ρ K) : bindT t v ρ fun ρ' => (∀ i, i ∉ t.slots → ρ' i = ρ i) ∧ K ρ' := by
  cases t with
  | name j => exact ⟨fun i hi => by simp [Tgt.slots] at hi; simp [upd, hi], h⟩
  | tup is =>
    cases v with
    | tup vs => exact ⟨h.1, fun i hi => upds_out is vs ρ i hi, h.2⟩
    | _ => exact h.elim

inductive PostG (sc : Sc) (cx : Cx) (ι : List Addr) (H : H) (s : Shared) (K : Rho → Prop) (s' : Shared) : Prop
  | mk (ρ' : Rho) (M : Mono ι s ι s') (S : St cx ι ρ' H s') (b : Bnd sc.lim ρ') (q : K ρ')
noncomputable def SndG (p : Pg) (sc : Sc) (t : Expr) (t' : Tgt) : Prop :=
  ∀ {C : Ora} {d : Nat} {cx : Cx} {A : Around} {ι : List Addr} {ρ : Rho} {H : H} {s : Shared} {val : Value} {v : V} {K : Rho → Prop} {E : Value → Shared → Prop},
    At p sc C d cx A → St cx ι ρ H s → Bnd sc.lim ρ → RepV ι s.heap val v → bindT t' v ρ K → wpAny (model p.prog cx.w) A (assign t cx.env val) (fun _ s' => PostG sc cx ι H s K s') E s

section
variable {p : Pg} {sc : Sc}

theorem Bnd.upd {n i : Nat} {ρ : Rho} {v : V} (h : Bnd n ρ) (hi : i < n) : Bnd n (upd ρ i v) := fun j hj => by
  have : j ≠ i := by exact fun e0 => qf3 qc3 qs0 qv1 qv1 qv2 qv2 qv0 qt hi hj (qe e0)
  simp [Tw.upd, this, h j hj]

theorem store_name {C : Ora} {d : Nat} {cx : Cx} {A : Around} {ι : List Addr} {ρ : Rho} {H : H} {s : Shared} {val : Value} {v : V} {E : Value → Shared → Prop} {x : Str} {i : Nat} (hx : sc.nm x = some i) (hs : sc.st x = true)
    (at' : At p sc C d cx A) (S : St cx ι ρ H s) (hb : Bnd sc.lim ρ) (r : RepV ι s.heap val v) {Q : Unit → Shared → Prop} (q : ∀ s', Mono ι s ι s' → St cx ι (upd ρ i v) H s' → Bnd sc.lim (upd ρ i v) → Q () s') :
    wpAny (model p.prog cx.w) A (storeName cx.env x val) Q E s := by
  have hx' : cx.nm x = some i := (at'.fit.nm x).trans hx
  have hb' : Bnd sc.lim (upd ρ i v) := hb.upd (at'.fit.lim x i hx)
  rcases at'.fit.stk x hs with k | k
  · obtain ⟨m, hm⟩ := S.ns
    refine wpAny_storeName_local k hm (fun h' hn hsb => ?_) (by rw [at'.ok.fn]; rfl)
    obtain ⟨S', M'⟩ := S.local at'.ok (s.toks + 1) hx' k hm hn hsb.extBut r
    exact q _ M' S' hb'
  · rcases at'.ok.kinds x i hx' with k' | ⟨_, c, l⟩
    · rw [k] at k'; cases k'
    · obtain ⟨⟨ov, ic⟩, _⟩ := S.cells x c l
      refine wpAny_storeName_cell at'.ok.fn k l ic fun h' hn hsb => ?_
      obtain ⟨S', M'⟩ := S.cell at'.ok s.toks hx' ((at'.fit.st x).trans hs) k l hn hsb.extBut r
      exact q _ M' S' hb'

theorem sndG_name {x : Str} {i : Nat} {pos : Pos} (hx : sc.nm x = some i) (hs : sc.st x = true) : SndG p sc (.Name x pos) (.name i) := fun at' S hb r h =>
  wpAny_assign_Name (store_name hx hs at' S hb r fun _ M' S' hb' => ⟨_, M', S', hb', h⟩)

/-- plain names, and their slots -/
inductive NamesAre (sc : Sc) : List Expr → List Nat → Prop
  | nil : NamesAre sc [] []
  | cons {x : Str} {i : Nat} {pos : Pos} {es : List Expr} {is : List Nat} : sc.nm x = some i → sc.st x = true → NamesAre sc es is → NamesAre sc (.Name x pos :: es) (i :: is)
theorem NamesAre.each {es : List Expr} {is : List Nat} (n : NamesAre sc es is) (env : Env) : (assignEach es env).length = is.length ∧ (assignEach es env).findIdx? (·.1) = none := by
  induction n with
  | nil => exact ⟨rfl, rfl⟩
  | cons _ _ _ ih =>
    refine ⟨congrArg (· + 1) ih.1, ?_⟩
    refine (List.findIdx?_cons ..).trans ?_
    show Option.map _ ((assignEach _ env).findIdx? (·.1)) = none
    rw [ih.2]; rfl
theorem NamesAre.go {es : List Expr} {is : List Nat} (n : NamesAre sc es is) : ∀ {C : Ora} {d : Nat} {cx : Cx} {A : Around} {ι : List Addr} {ρ : Rho} {H : H} {s : Shared} {vals : List Value} {vs : List V} {E : Value → Shared → Prop} {Q : Unit → Shared → Prop},
    At p sc C d cx A → St cx ι ρ H s → Bnd sc.lim ρ → RepVs ι s.heap vals vs → is.length = vs.length → (∀ s', Mono ι s ι s' → St cx ι (upds ρ is vs) H s' → Bnd sc.lim (upds ρ is vs) → Q () s') →
    wpAny (model p.prog cx.w) A (assignInOrder ((assignEach es cx.env).map (·.2)) vals) Q E s := by
  induction n with
  | nil =>
    intro C d cx A ι ρ H s vals vs E Q at' S hb r hl q
    cases r with
    | nil => exact wpAny_assignInOrder_none (q s (.refl _ _) S hb)
    | cons _ _ => simp at hl
  | cons hx hs _ ih =>
    intro C d cx A ι ρ H s vals vs E Q at' S hb r hl q
    cases r with
    | nil => simp at hl
    | cons r₁ r₂ =>
      refine wpAny_assignInOrder_more (wpAny_assign_Name (store_name hx hs at' S hb r₁ fun s' M' S' hb' => ?_))
      exact ih at' S' hb' (M'.reps r₂) (by simpa using hl) fun s'' M'' S'' hb'' => q s'' (M'.trans M'') S'' hb''
theorem sndG_tup {es : List Expr} {is : List Nat} {k : Nat} {pos : Pos} (n : NamesAre sc es is) : SndG p sc (.Tuple es k pos) (.tup is) := fun {C d cx A ι ρ H s val v K E} at' S hb r h => by
  cases r with
  | tup g z rs =>
    rename_i a n' vals vs
    obtain ⟨hl, hk⟩ := h
    obtain ⟨e1, e2⟩ := n.each cx.env
    have hsz : (assignEach es cx.env).length = vals.size := by rw [e1, hl, ← rs.length]; simp
    obtain ⟨as, hI⟩ := S.aside at'.ok (Nat.le_refl _)
    refine wpAny_assign_Tuple at'.ao.hd ⟨_, g, rfl, n', rfl⟩ hsz e2 fun h' he => ?_
    obtain ⟨S', M'⟩ := S.but as hI s.toks he fun o e => absurd (Heap.lt_size e) (Nat.lt_irrefl _)
    exact n.go at' S' hb (M'.reps rs) hl fun s'' M'' S'' hb'' => ⟨_, M'.trans M'', S'', hb'', hk⟩
  | _ => exact h.elim

/-! dicts -/
theorem snd_dict0 {pos : Pos} : SndE p sc (.Dict [] [] pos) .dict0 := fun at' S _ h => wpAny_Dict_empty (Post.dict S at'.ok (h 0) _)
end
end Tw
end

section
namespace Tw
open PySem PySem.SeqAt

section
variable {p : Pg} {sc : Sc}
theorem snd_dict1 {k v : Expr} {pos : Pos} {k' v' : E} (h1 : SndE p sc k k') (h2 : SndE p sc v v') : SndE p sc (.Dict [some k] [v] pos) (.dict1 k' v') := fun {C d cx A ι ρ H s Q E} at' S hb h => by
  rw [arm_eval_Dict]
  have hshape : (evalEachOpt [some k] cx.env).zip ((evalEach [v] cx.env).map fun v => do let x ← v; standAt pos; pure x) = [(eval k cx.env, do let x ← eval v cx.env; standAt pos; pure x)].map fun p => (some p.1, p.2) := rfl
  rw [hshape, dictDisplay_pairs _ (by simp) (by simp)]
  refine wpAny_bind (wpAny_standAt (wpAny_bind ?_))
  unfold subDict
  refine wpAny_bind (wpAny_alloc ?_)
  refine wpAny_bind (wpAny_holding ?_)
  rw [if_pos (by simp)]
  obtain ⟨f1, f2, f3, f4, f5⟩ := S.fresh at'.ok (Nat.le_refl _)
  have as : Aside cx s.heap.objs.size := ⟨f3, f4, f5⟩
  generalize hD : s.heap.objs.size = D at *
  have hk : ∀ b ob, s.heap.get? b = some ob → (s.heap.push { cls := .type "dict", data := .dict #[] }).get? b = some ob := fun _ _ e => Heap.get?_push_of_some _ e
  have S₁ := (S.push { cls := .type "dict", data := .dict #[] } s.toks).keep (a := D) (o := { cls := .type "dict", data := .dict #[] }) (by rw [← hD]; exact get?_fresh rfl) f1
  have at₁ := at'.keep as { cls := .type "dict", data := .dict #[] }
  have M₁ : Mono ι s ι { s with heap := s.heap.push { cls := .type "dict", data := .dict #[] } } := .ext hk
  refine wpAny_bind (evalPairs_cons (mono' (h1 (cx := cx.keep D _) at₁ S₁ hb h) fun x s₂ ⟨vk, ι₂, H₂, M₂, S₂, r₂, q₂⟩ => wpAny_bind (mono' (h2 (cx := cx.keep D _) at₁ S₂ hb q₂) fun y s₃ ⟨vv, ι₃, H₃, M₃, S₃, r₃, hkey, q₃⟩ => wpAny_bind (wpAny_standAt (wpAny_pure (evalPairs_nil ?_))))))
  refine wpAny_holding ?_
  simp only [List.forIn_cons, List.forIn_nil]
  have g := S₃.kept (notMk_new rfl)
  have hI := S₃.keptI
  have S₄ := S₃.unkeep.alloc (o := .dict [] 0) ⟨#[], g, .nil, List.nodup_nil, Nat.zero_le _⟩ hI f2 f3 f4 f5
  have M₄ : Mono ι₃ s₃ (ι₃ ++ [D]) s₃ := ⟨List.prefix_append _ _, .refl _⟩
  have hi : (ι₃ ++ [D])[H₃.length]? = some D := by rw [← S₃.len]; simp
  have hH : (H₃ ++ [MO.dict [] 0])[H₃.length]? = some (.dict [] 0) := by simp
  obtain ⟨ents, DA⟩ := S₄.dict hi hH
  refine wpAny_bind (wpAny_bind (wpAny_bind (dictSet_key (A := A) S₄ (by have := at'.ao.u; exact qp1 qc2 (qA (qA qv0 (qN 9)) qk1) qv1 (qA (qA qv0 (qN 50)) qk1) qv1 qt this) hi hH DA (by show 0 < SZ; decide) (M₄.rep (M₃.rep r₂)) (M₄.rep r₃) hkey fun ver s₅ S₅ M₅ => wpAny_pure (wpAny_pure (wpAny_pure (wpAny_pure (wpAny_pure ?_)))))))
  have e : (H₃ ++ [MO.dict [] 0]).set H₃.length (.dict (dput [] vk vv) ver) = H₃ ++ [.dict [(vk, vv)] ver] := by simp [dput, dget]
  rw [e] at S₅
  exact ⟨.ref H₃.length, ι₃ ++ [D], _, (M₁.trans (M₂.trans (M₃.trans M₄))).trans M₅, S₅, .ref hi, q₃ ver⟩
end
end Tw
end

section
namespace Tw
open PySem PySem.SeqAt

abbrev Nms := List (Str × NameKind)
/-- a name's slot, by its place in the scope's table -/
noncomputable def slotOf (outer : Str → Option Nat) : Nat → Nms → Str → Option Nat
  | _, [], _ => none
  | base, (n, k) :: r, x => if x == n then (match k with | .local => some base | .cell => some base | .free => outer x | _ => none) else slotOf outer (base + 1) r x

theorem slotOf_spec {outer : Str → Option Nat} : ∀ {names : Nms} {base : Nat} {x : Str} {i : Nat}, slotOf outer base names x = some i →
    ∃ k, names.lookup x = some k ∧ (((k = .local ∨ k = .cell) ∧ base ≤ i ∧ i < base + names.length) ∨ (k = .free ∧ outer x = some i))
  | [], _, _, _, h => by simp [slotOf] at h
  | (n, k) :: r, base, x, i, h => by
    unfold slotOf at h
    cases hx : x == n with
    | true =>
      rw [hx] at h
      simp only [if_true] at h
      refine ⟨k, by simp [List.lookup_cons, hx], ?_⟩
      cases k <;> simp at h
      · subst h; exact .inl ⟨.inl rfl, by exact Nat.le_refl _, by simp⟩
      · subst h; exact .inl ⟨.inr rfl, by exact Nat.le_refl _, by simp⟩
      · exact .inr ⟨rfl, h⟩
    | false =>
      rw [hx] at h
      simp only [Bool.false_eq_true, if_false] at h
      obtain ⟨k', h1, h2⟩ := slotOf_spec h
      refine ⟨k', by simp [List.lookup_cons, hx, h1], h2.imp (fun ⟨a, b, c⟩ => ⟨a, by exact qp1 qc2 qv0 qv1 qs0 qv1 qt b, by simp; exact qp1 qc3 qs0 (qA qv1 qs2) qs0 (qA qs1 qv2) qt c⟩) id⟩

theorem slotOf_inj {outer : Str → Option Nat} {b0 : Nat} (oi : ∀ x y i, outer x = some i → outer y = some i → x = y) (ol : ∀ x i, outer x = some i → i < b0) :
    ∀ {names : Nms} {base : Nat} {x y : Str} {i : Nat}, b0 ≤ base → slotOf outer base names x = some i → slotOf outer base names y = some i → x = y
  | [], _, _, _, _, _, h, _ => by simp [slotOf] at h
  | (n, k) :: r, base, x, y, i, hb, h, h' => by
    unfold slotOf at h h'
    cases hx : x == n with
    | true =>
      cases hy : y == n with
      | true => rw [beq_iff_eq.mp hx, beq_iff_eq.mp hy]
      | false =>
        rw [hx] at h; rw [hy] at h'
        simp only [if_true, Bool.false_eq_true, if_false] at h h'
        obtain ⟨k', h1, h2⟩ := slotOf_spec h'
        cases k <;> simp at h
        · subst h; rcases h2 with h2 | h2
          · omega
          · have := ol _ _ h2.2; exact qf2 qc2 qv0 qv1 qs1 qv0 qt hb this
        · subst h; rcases h2 with h2 | h2
          · omega
          · have := ol _ _ h2.2; exact qf2 qc2 qv0 qv1 qs1 qv0 qt hb this
        · rcases h2 with h2 | h2
          · have := ol _ _ h; omega
          · exact oi _ _ _ h h2.2
    | false =>
      cases hy : y == n with
      | true =>
        rw [hx] at h; rw [hy] at h'
        simp only [if_true, Bool.false_eq_true, if_false] at h h'
        obtain ⟨k', h1, h2⟩ := slotOf_spec h
        cases k <;> simp at h'
        · subst h'; rcases h2 with h2 | h2
          · omega
          · have := ol _ _ h2.2; exact qf2 qc2 qv0 qv1 qs1 qv0 qt hb this
        · subst h'; rcases h2 with h2 | h2
          · omega
          · have := ol _ _ h2.2; exact qf2 qc2 qv0 qv1 qs1 qv0 qt hb this
        · rcases h2 with h2 | h2
          · have := ol _ _ h'; omega
          · exact oi _ _ _ h2.2 h'
      | false =>
        rw [hx] at h; rw [hy] at h'
        simp only [Bool.false_eq_true, if_false] at h h'
        exact slotOf_inj oi ol (by exact qp1 qc2 qv0 qs1 qv0 qv1 qt hb) h h'

/-! the cells of a block -/
theorem cellsFrom_app : ∀ (names : Nms) (n : Nat) (acc : List (Str × Addr)), cellsFrom n names acc = cellsFrom n names [] ++ acc
  | [], _, _ => rfl
  | (x, k) :: r, n, acc => by
    unfold cellsFrom
    split
    · rw [cellsFrom_app r (n + 1) ((x, n) :: acc), cellsFrom_app r (n + 1) [(x, n)]]; simp
    · exact cellsFrom_app r n acc
theorem cellsFrom_of : ∀ (names : Nms) (n : Nat) (x : Str) (c : Addr), (x, c) ∈ cellsFrom n names [] → (x, NameKind.cell) ∈ names ∧ n ≤ c
  | [], _, _, _, h => by simp [cellsFrom] at h
  | (y, k) :: r, n, x, c, h => by
    unfold cellsFrom at h
    split at h
    · rename_i hk
      rw [cellsFrom_app] at h
      rcases List.mem_append.mp h with h | h
      · obtain ⟨a, b⟩ := cellsFrom_of r (n + 1) x c h; exact ⟨List.mem_cons_of_mem _ a, by omega⟩
      · simp at h; obtain ⟨rfl, rfl⟩ := h
        have : k = .cell := by simpa using hk
        subst this; exact ⟨List.mem_cons_self, Nat.le_refl _⟩
    · obtain ⟨a, b⟩ := cellsFrom_of r n x c h; exact ⟨List.mem_cons_of_mem _ a, b⟩
theorem cellsFrom_has : ∀ (names : Nms) (n : Nat) (x : Str), (x, NameKind.cell) ∈ names → ∃ c, (x, c) ∈ cellsFrom n names []
  | [], _, _, h => by simp at h
  | (y, k) :: r, n, x, h => by
    unfold cellsFrom
    split
    · rw [cellsFrom_app]
      rcases List.mem_cons.mp h with h | h
      · cases h; exact ⟨n, by simp⟩
      · obtain ⟨c, hc⟩ := cellsFrom_has r (n + 1) x h; exact ⟨c, List.mem_append_left _ hc⟩
    · rename_i hk
      rcases List.mem_cons.mp h with h | h
      · cases h; simp at hk
      · exact cellsFrom_has r n x h
theorem lookup_of_mem {α : Type} : ∀ {l : List (Str × α)} {x : Str} {c : α}, (x, c) ∈ l → ∃ c', l.lookup x = some c'
  | (y, d) :: r, x, c, h => by
    cases hx : x == y with
    | true => exact ⟨d, by simp [List.lookup_cons, hx]⟩
    | false =>
      rcases List.mem_cons.mp h with h | h
      · cases h; simp at hx
      · obtain ⟨c', h'⟩ := lookup_of_mem h; exact ⟨c', by simp [List.lookup_cons, hx, h']⟩

/-! the closure -/
noncomputable def clFrom (env : Env) : Nms → List (Str × Addr) → List (Str × Addr)
  | [], acc => acc
  | (x, k) :: r, acc => if k == .free then clFrom env r ((x, ((env.cells.lookup x).getD 0)) :: acc) else clFrom env r acc
theorem closure_go (env : Env) (f : Str × NameKind → List (Str × Addr) → Sem (ForInStep (List (Str × Addr))))
    (hf : ∀ x k acc, f (x, k) acc = if k == .free then (do let a ← cellOf env x; pure (.yield ((x, a) :: acc))) else pure (.yield acc)) :
    ∀ (names : Nms) (acc : List (Str × Addr)), (∀ x, (x, NameKind.free) ∈ names → ∃ c, env.cells.lookup x = some c) → forIn names acc f = (pure (clFrom env names acc) : Sem (List (Str × Addr)))
  | [], acc, _ => by rw [List.forIn_nil]; rfl
  | (x, k) :: r, acc, h => by
    have ih := fun acc => closure_go env f hf r acc fun x hx => h x (List.mem_cons_of_mem _ hx)
    rw [List.forIn_cons, hf]
    unfold clFrom
    cases hk : k == NameKind.free with
    | true =>
      simp only [if_true]
      have : k = .free := by simpa using hk
      subst this
      obtain ⟨c, hc⟩ := h x List.mem_cons_self
      unfold cellOf
      rw [hc]
      simp only [pure_bind]
      exact ih _
    | false =>
      simp only [Bool.false_eq_true, if_false, pure_bind]
      exact ih _
theorem closure_is {scope : Scope} {env : Env} (h : ∀ x, (x, NameKind.free) ∈ scope.names → ∃ c, env.cells.lookup x = some c) : closureFor scope env = pure (clFrom env scope.names []) := by
  unfold closureFor
  dsimp only
  rw [closure_go env _ (fun x k acc => by cases hk : k == NameKind.free <;> simp [hk]) scope.names [] h]
  rfl
theorem clFrom_of (env : Env) : ∀ (names : Nms) (acc : List (Str × Addr)), (∀ x, (x, NameKind.free) ∈ names → ∃ c, env.cells.lookup x = some c) → ∀ x c, (x, c) ∈ clFrom env names acc → (x, c) ∈ acc ∨ (env.cells.lookup x = some c ∧ (x, NameKind.free) ∈ names)
  | [], _, _, _, _, h => .inl h
  | (y, k) :: r, acc, hf, x, c, h => by
    unfold clFrom at h
    split at h
    · rename_i hk
      have hk : k = .free := by simpa using hk
      subst hk
      rcases clFrom_of env r _ (fun x hx => hf x (List.mem_cons_of_mem _ hx)) x c h with h | h
      · rcases List.mem_cons.mp h with h | h
        · obtain ⟨c', hc'⟩ := hf y List.mem_cons_self
          cases h
          refine .inr ⟨by rw [hc']; rfl, List.mem_cons_self⟩
        · exact .inl h
      · exact .inr ⟨h.1, List.mem_cons_of_mem _ h.2⟩
    · rcases clFrom_of env r _ (fun x hx => hf x (List.mem_cons_of_mem _ hx)) x c h with h | h
      · exact .inl h
      · exact .inr ⟨h.1, List.mem_cons_of_mem _ h.2⟩
theorem clFrom_keeps (env : Env) : ∀ (names : Nms) (acc : List (Str × Addr)) (e : Str × Addr), e ∈ acc → e ∈ clFrom env names acc
  | [], _, _, h => h
  | (y, k) :: r, acc, e, h => by
    unfold clFrom
    split
    · exact clFrom_keeps env r _ e (List.mem_cons_of_mem _ h)
    · exact clFrom_keeps env r _ e h
theorem clFrom_has (env : Env) : ∀ (names : Nms) (acc : List (Str × Addr)) (x : Str), (x, NameKind.free) ∈ names → ∃ c, (x, c) ∈ clFrom env names acc
  | [], _, _, h => by simp at h
  | (y, k) :: r, acc, x, h => by
    unfold clFrom
    split
    · rcases List.mem_cons.mp h with h | h
      · cases h; exact ⟨_, clFrom_keeps env r _ _ List.mem_cons_self⟩
      · exact clFrom_has env r _ x h
    · rename_i hk
      rcases List.mem_cons.mp h with h | h
      · cases h; simp at hk
      · exact clFrom_has env r _ x h

theorem relabel_lookup {env : Env} (he : env.scope.kind = .function) : ∀ {names : Nms} {x : Str} {k : NameKind}, names.lookup x = some k →
    (names.map fun (n, k) => if (k == NameKind.free && env.scope.kind == .function && env.kindOf n == some .cell) then (n, NameKind.cell) else (n, k)).lookup x = some (if k = .free ∧ env.kindOf x = some .cell then .cell else k)
  | [], _, _, h => by simp at h
  | (n, k') :: r, x, k, h => by
    have ih := @relabel_lookup env he r x k
    cases hx : x == n with
    | true =>
      have hn := beq_iff_eq.mp hx
      subst hn
      have h : k' = k := by simpa [List.lookup_cons] using h
      subst h
      by_cases hc : k' = .free ∧ env.kindOf x = some .cell
      · simp [List.lookup_cons, hc.1, hc.2, he]
      · rw [if_neg hc]
        have : (k' == NameKind.free && env.scope.kind == .function && env.kindOf x == some .cell) = false := by
          simp only [he, beq_self_eq_true, Bool.and_true]
          rw [Bool.and_eq_false_iff]
          by_cases h1 : k' = .free
          · right; simp; exact fun h2 => hc ⟨h1, h2⟩
          · left; simpa using h1
        rw [List.map_cons]
        show List.lookup x ((if (k' == NameKind.free && env.scope.kind == .function && env.kindOf x == some .cell) = true then (x, NameKind.cell) else (x, k')) :: _) = _
        rw [this]; simp
    | false =>
      simp only [List.lookup_cons, hx] at h
      have ih := ih h
      rw [List.map_cons]
      show List.lookup x ((if (k' == NameKind.free && env.scope.kind == .function && env.kindOf n == some .cell) = true then (n, NameKind.cell) else (n, k')) :: _) = _
      by_cases hc : (k' == NameKind.free && env.scope.kind == .function && env.kindOf n == some .cell) = true
      · rw [if_pos hc]; simp only [List.lookup_cons, hx]; exact ih
      · rw [if_neg hc]; simp only [List.lookup_cons, hx]; exact ih
end Tw
end

section
namespace Tw
open PySem PySem.SeqAt

noncomputable def plainName (x : Str) : Bool := !(x == ("__debug__" : Str)) && !(x == ("__classdict__" : Str))

/-- the names that a comprehension sees -/
noncomputable def compSc (sc : Sc) (names : Nms) : Sc where
  nm := slotOf sc.nm sc.lim names
  gk := fun x => names.lookup x == some .globalImplicit && plainName x
  ck := fun x => names.lookup x == some .cell || names.lookup x == some .free
  st := fun x => names.lookup x == some .local || names.lookup x == some .cell
  lim := sc.lim + names.length
  top := false

structure CompOk (sc : Sc) (scope : Scope) : Prop where
  kind : scope.kind = .function
  each : ∀ x k, (x, k) ∈ scope.names → scope.names.lookup x = some k
  plain : ∀ x k, (x, k) ∈ scope.names → plainName x = true
  free : ∀ x, (x, NameKind.free) ∈ scope.names → sc.ck x = true

theorem St.reP {cx : Cx} {ι : List Addr} {ρ : Rho} {H : H} {s : Shared} {P' : Addr → Obj → Prop} (S : St cx ι ρ H s) (h : ∀ a o, P' a o → cx.P a o) : St { cx with P := P' } ι ρ H s :=
  ⟨S.same, S.len, S.nodup, S.objs, S.low, S.scr, S.scrI, S.scrIn, fun a o q => S.prot a o (h a o q), fun a o q => S.protI a o (h a o q), S.ns, S.nsI, S.cells, S.vars⟩
theorem Aside.keep {cx : Cx} {a b : Addr} (as : Aside cx a) (h : a ≠ b) (o : Obj) : Aside (cx.keep b o) a := ⟨fun ob q => q.elim (as.np ob) fun e => h e.1, as.nl, as.nc⟩

theorem iter_self {prog : Program} {cx : Cx} {A : Around} {ι : List Addr} {ρ : Rho} {H : H} {s : Shared} {E : Value → Shared → Prop} {it : Addr} {o : Obj} {i : It} {Q : Value → Shared → Prop} (S : St (cx.keep it o) ι ρ H s) (r : ItRep ι s.heap o i) (q : Q (.ref it) s) :
    wpAny (model prog cx.w) A (pyIter (.ref it)) Q E s := by
  have g := S.kept r.notMk
  cases i with
  | keys => exact r.elim
  | seq n i => obtain ⟨l, _, c, d⟩ := r; exact wpAny_pyIter_listiter ⟨o, g, c, d⟩ q
  | vals vs =>
    rcases r with ⟨t, i, items, n, c, d, _⟩ | ⟨x, left, step, e, _⟩
    · exact wpAny_pyIter_tupleiter ⟨o, g, c, d⟩ q
    · subst e; exact wpAny_pyIter_rangeiter g q

theorem new_comp_env {M : Model} {A : Around} {s : Shared} {E : Value → Shared → Prop} {scope : Scope} {globals : Addr} {cl : List (Str × Addr)} {qual : Str} {env : Env} {Q : Env → Shared → Prop}
    (q : Q (newEnv scope s.heap.objs.size globals (cellsFrom (s.heap.objs.size + 1) scope.names cl) qual none .none (some env) builtinsNs) { s with heap := pushCells (s.heap.push { cls := .type "dict", data := .dict #[] }) scope.names }) :
    wpAny M A (newFunctionEnv scope globals cl [] qual none .none (some env)) Q E s := by
  simp only [newFunctionEnv, Option.isSome_some, if_true]
  refine wpAny_bind (wpAny_alloc ?_)
  refine wpAny_bind (wpAny_layCells _ (fun name kind cells => by cases hkc : kind == NameKind.cell <;> simp [hkc]) _ _ _ _ ?_)
  rw [show ({ s with heap := s.heap.push { cls := .type "dict", data := .dict #[] } } : Shared).heap.objs.size = s.heap.objs.size + 1 from Heap.size_push ..]
  simp only [List.forIn_nil]
  exact wpAny_bind (wpAny_pure (wpAny_pure q))

/-- the frame of a comprehension -/
noncomputable def compCx (cx : Cx) (sc : Sc) (scope : Scope) (h : Heap) (C : Addr) : Cx where
  w := cx.w
  env := { newEnv scope C cx.env.globals (cellsFrom (C + 1) scope.names (clFrom cx.env scope.names [])) cx.env.qual none .none (some cx.env) builtinsNs with scope := relabel scope cx.env }
  nm := (compSc sc scope.names).nm
  st := (compSc sc scope.names).st
  P := frameP cx h
  s0 := cx.s0
  scr := cx.scr

section
variable {p : Pg} {sc : Sc} {C : Ora} {d : Nat} {cx : Cx} {A : Around} {ι : List Addr} {ρ : Rho} {H : H} {s : Shared} {scope : Scope}

theorem comp_kind (at' : At p sc C d cx A) {x : Str} {k : NameKind} (h : scope.names.lookup x = some k) (L : Addr) (hp : Heap) : (compCx cx sc scope hp L).env.kindOf x = some (if k = .free ∧ cx.env.kindOf x = some .cell then .cell else k) :=
  relabel_lookup at'.ok.fn h

theorem comp_cells (ok : CompOk sc scope) (at' : At p sc C d cx A) {L : Addr} {hp : Heap} {x : Str} {c : Addr} (l : (compCx cx sc scope hp L).env.cells.lookup x = some c) :
    ((x, c) ∈ cellsFrom (L + 1) scope.names [] ∧ (x, NameKind.cell) ∈ scope.names ∧ L + 1 ≤ c) ∨ (cx.env.cells.lookup x = some c ∧ (x, NameKind.free) ∈ scope.names) := by
  have l' : (cellsFrom (L + 1) scope.names (clFrom cx.env scope.names [])).lookup x = some c := l
  rw [cellsFrom_app] at l'
  rcases List.mem_append.mp (mem_of_lookup l') with h | h
  · exact .inl ⟨h, cellsFrom_of _ _ _ _ h⟩
  · rcases clFrom_of cx.env scope.names [] (fun x hx => (at'.fit.ck x (ok.free x hx)).2) x c h with h | h
    · simp at h
    · exact .inr h
theorem comp_has (at' : At p sc C d cx A) {L : Addr} {hp : Heap} {x : Str} (h : (x, NameKind.cell) ∈ scope.names ∨ (x, NameKind.free) ∈ scope.names) : ∃ c, (compCx cx sc scope hp L).env.cells.lookup x = some c := by
  show ∃ c, (cellsFrom (L + 1) scope.names (clFrom cx.env scope.names [])).lookup x = some c
  rw [cellsFrom_app]
  rcases h with h | h
  · obtain ⟨c, hc⟩ := cellsFrom_has scope.names (L + 1) x h
    exact lookup_of_mem (List.mem_append_left _ hc)
  · obtain ⟨c, hc⟩ := clFrom_has cx.env scope.names [] x h
    exact lookup_of_mem (List.mem_append_right _ hc)

theorem comp_own {x : Str} {c c' : Addr} {L : Addr} (h : Heap) (hL : h.objs.size = L) (m : (x, c) ∈ cellsFrom (L + 1) scope.names []) : (pushCells (h.push { cls := .type "dict", data := .dict #[] }) scope.names).IsCell c none := by
  have ok := cellsFrom_ok scope.names (h.push { cls := .type "dict", data := .dict #[] }) (L + 1) [] ⟨fun _ _ hm => (nomatch hm), List.Pairwise.nil⟩ (by rw [Heap.size_push, hL]; exact Nat.le_refl _)
  rw [Heap.size_push, hL] at ok
  exact (ok.empty x c m).1
theorem comp_apart {L : Addr} (h : Heap) (hL : h.objs.size = L) : (cellsFrom (L + 1) scope.names []).Pairwise fun x y => x.2 ≠ y.2 := by
  have ok := cellsFrom_ok scope.names (h.push { cls := .type "dict", data := .dict #[] }) (L + 1) [] ⟨fun _ _ hm => (nomatch hm), List.Pairwise.nil⟩ (by rw [Heap.size_push, hL]; exact Nat.le_refl _)
  rw [Heap.size_push, hL] at ok
  exact ok.apart

theorem comp_cxok (ok : CompOk sc scope) (at' : At p sc C d cx A) (S : St cx ι ρ H s) : CxOk (compCx cx sc scope s.heap s.heap.objs.size) where
  fn := ok.kind
  gl := at'.ok.gl
  bl := at'.ok.bl
  inj := fun x y i hx hy => slotOf_inj (fun x y i hx hy => at'.ok.inj x y i ((at'.fit.nm x).trans hx) ((at'.fit.nm y).trans hy)) at'.fit.lim (Nat.le_refl _) hx hy
  kinds := fun x i hx => by
    obtain ⟨k, l, h⟩ := slotOf_spec hx
    rcases h with ⟨rfl | rfl, _⟩ | ⟨rfl, ho⟩
    · left; rw [comp_kind at' l]; simp
    · right; rw [comp_kind at' l]; exact ⟨.inl (by simp), comp_has at' (.inl (mem_of_lookup l))⟩
    · right; rw [comp_kind at' l]
      refine ⟨?_, comp_has at' (.inr (mem_of_lookup l))⟩
      by_cases hc : cx.env.kindOf x = some .cell <;> simp [hc]
  plain := fun x i hx => by
    obtain ⟨k, l, h⟩ := slotOf_spec hx
    have := ok.plain x k (mem_of_lookup l)
    simpa [plainName] using this
  cinj := fun x y c hx hy => by
    have sz : ∀ (c : Addr), s.heap.objs.size + 1 ≤ c → ∀ (x : Str), cx.env.cells.lookup x = some c → False := fun c hlt x l => by
      obtain ⟨⟨ov, ic⟩, _⟩ := S.cells x c l
      exact absurd ic.lt (Nat.not_lt.mpr (Nat.le_of_succ_le hlt))
    rcases comp_cells ok at' hx with ⟨h1, _, h3⟩ | ⟨h1, _⟩ <;> rcases comp_cells ok at' hy with ⟨k1, _, k3⟩ | ⟨k1, _⟩
    · exact name_of_addr (comp_apart s.heap rfl) h1 k1
    · exact (sz c h3 y k1).elim
    · exact (sz c k3 x h1).elim
    · exact at'.ok.cinj x y c h1 k1
  own := fun x c o hs hk l q => by
    rcases comp_cells ok at' l with ⟨h1, _, h3⟩ | ⟨h1, h2⟩
    · have hg := (S.wdF at'.ok).prot c o q
      exact absurd hg.lt (Nat.not_lt.mpr (Nat.le_of_succ_le h3))
    · have := ok.each x _ h2
      simp [compCx, compSc, this] at hs
  loc := fun o q => by
    have hg := (S.wdF at'.ok).prot _ o q
    exact Nat.lt_irrefl _ hg.lt
  base := fun a o g h => .inl (at'.ok.base a o g h)
  lowL := by
    obtain ⟨m, hn⟩ := S.ns
    exact Nat.lt_trans at'.ok.lowL hn.lt
theorem comp_fit (ok : CompOk sc scope) (at' : At p sc C d cx A) (L : Addr) (h : Heap) : Fit (compSc sc scope.names) (compCx cx sc scope h L) where
  nm := fun _ => rfl
  st := fun _ => rfl
  gk := fun x hx => by
    simp [compSc, plainName] at hx
    exact ⟨by rw [comp_kind at' hx.1]; simp, by simpa using hx.2.1⟩
  ck := fun x hx => by
    simp [compSc] at hx
    rcases hx with hx | hx
    · exact ⟨.inl (by rw [comp_kind at' hx]; simp), comp_has at' (.inl (mem_of_lookup hx))⟩
    · refine ⟨?_, comp_has at' (.inr (mem_of_lookup hx))⟩
      rw [comp_kind at' hx]
      by_cases hc : cx.env.kindOf x = some .cell <;> simp [hc]
  stk := fun x hx => by
    simp [compSc] at hx
    rcases hx with hx | hx
    · left; rw [comp_kind at' hx]; simp
    · right; rw [comp_kind at' hx]; simp
  lim := fun x i hx => by
    obtain ⟨k, l, h⟩ := slotOf_spec hx
    rcases h with h | h
    · exact h.2.2
    · have := at'.fit.lim x i h.2; simp [compSc]; exact qp1 qc3 qs0 (qA qv1 qv2) qs0 qv1 qt this
theorem comp_at (ok : CompOk sc scope) (at' : At p sc C d cx A) (S : St cx ι ρ H s) : At p (compSc sc scope.names) C d (compCx cx sc scope s.heap s.heap.objs.size) A :=
  ⟨at'.call, at'.try, by
    obtain ⟨l, e, h⟩ := at'.fr.w S at'.ok
    refine ⟨l, e, (fun t => absurd (show false = true from t) Bool.false_ne_true), fun env he => ?_⟩
    obtain ⟨k, L, f, n, r⟩ := h env he
    exact ⟨k, L, f, n, .inr r⟩, comp_cxok ok at' S, comp_fit ok at' _ _, at'.gd, at'.ao⟩

theorem comp_st (ok : CompOk sc scope) (at' : At p sc C d cx A) (S : St cx ι ρ H s) (hb : Bnd sc.lim ρ) :
    St (compCx cx sc scope s.heap s.heap.objs.size) ι ρ H { s with heap := pushCells (s.heap.push { cls := .type "dict", data := .dict #[] }) scope.names } := by
  have hk : ∀ b o, s.heap.get? b = some o → (pushCells (s.heap.push { cls := .type "dict", data := .dict #[] }) scope.names).get? b = some o := fun b o e => pushCells_keeps _ _ b o (Heap.get?_push_of_some _ e)
  have S' := S.ext s.toks hk
  have fr := fun (c : Addr) (h : s.heap.objs.size ≤ c) => (S.fresh at'.ok h).1
  exact {
    same := S'.same
    len := S.len
    nodup := S.nodup
    objs := S'.objs
    low := S.low
    scr := S'.scr
    scrI := S.scrI
    scrIn := S.scrIn
    prot := fun a o q => ((S.wdF at'.ok).prot a o q).mono (hk _)
    protI := fun a o q => (S.wdF at'.ok).protI a o q
    ns := ⟨_, (Heap.Ns.new s.heap (.type "dict")).keeps (pushCells_keeps _ _)⟩
    nsI := fr _ (Nat.le_refl _)
    cells := fun x c l => by
      rcases comp_cells ok at' l with ⟨h1, _, h3⟩ | ⟨h1, _⟩
      · exact ⟨⟨none, comp_own (c' := 0) s.heap rfl h1⟩, fr c (Nat.le_of_succ_le h3), Nat.ne_of_gt h3⟩
      · obtain ⟨⟨ov, ic⟩, i2, i3⟩ := S.cells x c h1
        refine ⟨⟨ov, ic.keeps hk⟩, i2, ?_⟩
        exact Nat.ne_of_lt ic.lt
    vars := fun x i v hx hv => by
      obtain ⟨k, l, h⟩ := slotOf_spec hx
      rcases h with h | ⟨rfl, ho⟩
      · have := hb i h.2.1
        rw [this] at hv; cases hv
      · obtain ⟨val, va, r⟩ := S.vars x i v ((at'.fit.nm x).trans ho) hv
        refine ⟨val, ?_, r.mono (List.prefix_refl _) (.of_ext hk)⟩
        have hck := at'.fit.ck x (ok.free x (mem_of_lookup l))
        rcases va with ⟨kl, _⟩ | ⟨_, c, lc, ic⟩
        · rcases hck.1 with e | e <;> rw [kl] at e <;> cases e
        · obtain ⟨c', lc'⟩ := comp_has (L := s.heap.objs.size) (hp := s.heap) (sc := sc) at' (.inr (mem_of_lookup l))
          refine .inr ⟨?_, c', lc', ?_⟩
          · rw [comp_kind at' l]; by_cases hc : cx.env.kindOf x = some .cell <;> simp [hc]
          · rcases comp_cells ok at' lc' with ⟨_, h2, _⟩ | ⟨h1, _⟩
            · have e1 := ok.each x _ h2; rw [l] at e1; cases e1
            · rw [lc] at h1; cases h1; exact ic.keeps hk }
end
end Tw
end

section
namespace Tw
open PySem PySem.SeqAt

abbrev lstO (vals : Array Value) (n : Nat) : Obj := { cls := .type "list", data := .seq vals n }

/-- a comprehension's turn, with what the model lets go -/
theorem comp_loop {prog : Program} {w : World} {A : Around} {R : Result → Shared → Prop} {s : Shared} {elt target iter : Expr} {ifs : List Expr} {scope : Scope} {pos : Pos} {it acc : Value} {env : Env} (I : Nat → Shared → Prop)
    (turn : ∀ n s, I n s → wpAny (model prog w) A (pyNext it) (fun r s₁ => match r with
      | none => R (.ok .next) s₁
      | some v => wpAny (model prog w) A (letOwnedTupleGo target it v) (fun _ s₁' => wpAny (model prog w) A (assign target env v) (fun _ s₂ =>
          wpAny (model prog w) A (forIn ifs true fun c r => if r = true then do let ok ← isTrue c env (eval c env); pure (ForInStep.yield ok) else pure (ForInStep.yield r)) (fun ok s₃ =>
            if ok = true then wpAny (model prog w) A (eval elt env) (fun x s₄ =>
              wpAny (model prog w) A (call (.builtin "list.append") [acc, x]) (fun _ s₅ => ∃ m, m < n ∧ I m s₅) (notedBy (model prog w) A env fun e s' => R (.error e) s') s₄) (notedBy (model prog w) A env fun e s' => R (.error e) s') s₃
            else ∃ m, m < n ∧ I m s₃) (notedBy (model prog w) A env fun e s' => R (.error e) s') s₂) (notedBy (model prog w) A env fun e s' => R (.error e) s') s₁') (notedBy (model prog w) A env fun e s' => R (.error e) s') s₁) (notedBy (model prog w) A env fun e s' => R (.error e) s') s)
    (n : Nat) (h : I n s) : codeAny (model prog w) A (.compLoop (.ListComp elt [⟨target, iter, ifs, 0⟩] scope pos) 0 it acc env) R s := by
  refine codeAny_loop rfl I (fun n s hI => ?_) n h
  show wpAny _ A ((compTurn (.ListComp elt [⟨target, iter, ifs, 0⟩] scope pos) 0 it acc env).onRaise (fun x => do noteFrame x env; theTreesLotGoes x)) _ _ s
  refine wpAny_noted ?_
  rw [compTurn_list]
  refine wpAny_bind (wpAny_standAt (wpAny_bind (wpAny_mono (turn n s hI) (fun r s₁ h₁ => ?_) fun _ _ h' => h')))
  cases r with
  | none => exact wpAny_pure h₁
  | some v =>
    refine wpAny_bind (wpAny_mono h₁ (fun _ s₁' h₁' => ?_) fun _ _ h' => h')
    refine wpAny_bind (wpAny_mono h₁' (fun _ s₂ h₂ => wpAny_bind (wpAny_mono h₂ (fun ok s₃ h₃ => ?_) fun _ _ h' => h')) fun _ _ h' => h')
    cases ok with
    | false => exact wpAny_pure ⟨rfl, h₃⟩
    | true =>
      exact wpAny_bind (wpAny_bind (wpAny_mono h₃ (fun x s₄ h₄ => wpAny_bind (wpAny_mono h₄ (fun _ s₅ h₅ => wpAny_pure (wpAny_pure ⟨rfl, h₅⟩)) fun _ _ h' => h')) fun _ _ h' => h'))

/-- the tests of a comprehension -/
inductive SndC (p : Pg) (sc : Sc) : List Expr → Option E → Prop
  | none : SndC p sc [] none
  | one {c : Expr} {c' : E} : SndT p sc c c' → SndC p sc [c] (some c')

section
variable {p : Pg} {sc : Sc}
theorem SndC.go {ifs : List Expr} {cond : Option E} (h : SndC p sc ifs cond) {C : Ora} {d : Nat} {cx : Cx} {A : Around} {ι : List Addr} {ρ : Rho} {H : H} {s : Shared} {Q : Bool → Tw.H → Prop} {E : Value → Shared → Prop}
    (at' : At p sc C d cx A) (S : St cx ι ρ H s) (hb : Bnd sc.lim ρ) (hw : wpO C cond ρ H Q) :
    wpAny (model p.prog cx.w) A (forIn ifs true fun c r => if r = true then do let ok ← isTrue c cx.env (eval c cx.env); pure (ForInStep.yield ok) else pure (ForInStep.yield r)) (PostT cx ι ρ s Q) E s := by
  cases h with
  | none => exact wpAny_tests_nil ⟨ι, H, .refl _ _, S, hw⟩
  | one h => exact wpAny_tests_one (h at' S hb hw)

/-- one more value, in a list that stands aside -/
theorem append_aside {C : Ora} {cx : Cx} {A : Around} {prog : Program} {ι : List Addr} {ρ : Rho} {H : H} {s : Shared} {E : Value → Shared → Prop} {D : Addr} {vals : Array Value} {n : Nat} {out : List V} {x : Value} {v : V} {Q : Value → Shared → Prop} (as : Aside cx D)
    (S : St (cx.keep D (lstO vals n)) ι ρ H s) (r : RepVs ι s.heap vals.toList out) (rx : RepV ι s.heap x v) (hl : out.length < SZ)
    (q : ∀ vals' n' s', St (cx.keep D (lstO vals' n')) ι ρ H s' → Mono ι s ι s' → RepVs ι s'.heap vals'.toList (out ++ [v]) → Q .none s') :
    wpAny (model prog cx.w) A (call (.builtin "list.append") [.ref D, x]) Q E s := by
  have g := S.kept (notMk_seq rfl)
  have hI := S.keptI
  have e : vals.size = out.length := by rw [← Array.length_toList, r.length]
  refine call_meets F.slot_list_append ⟨_, g, rfl⟩ F.entry_list_append (F.args_list_append_2 _ _) (PySem.list_append D vals n _ (by rw [e, ← SZ_eq]; exact qp1 qc2 qv0 qv1 qs0 qv1 qt hl)) ⟨g, ?_⟩
  obtain ⟨S', M'⟩ := S.unkeep.but as hI s.toks (h' := s.heap.update D (Obj.mapSeq fun x_1 => x_1.push x)) (Heap.SameBut.update ..).extBut fun o e => by rw [g] at e; cases e; exact notImm_list rfl
  have g' : (s.heap.update D (Obj.mapSeq fun x_1 => x_1.push x)).get? D = some _ := Heap.get?_update_self _ g rfl
  exact q (vals.push x) _ _ (S'.keep g' hI) M' (by simpa using (M'.reps r).append (.cons (M'.rep rx) .nil))

noncomputable def compTurnW (C : Ora) (ρ : Rho) (tgt : Tgt) (cond : Option E) (elt : E) (v : V) (h : H) (k : Option V → H → Prop) : Prop :=
  bindT tgt v ρ fun ρ' => wpO C cond ρ' h fun b h₂ => match b with
    | true => wpE C elt ρ' h₂ fun x h₃ => k (some x) h₃
    | false => k none h₂

theorem comp_run {elt target iter : Expr} {ifs : List Expr} {scope : Scope} {pos : Pos} {elt' : E} {tgt : Tgt} {cond : Option E} {C : Ora} {d : Nat} {cx : Cx} {A : Around} {it D : Addr} {R : Result → Shared → Prop} {lim : Nat} {ρ : Rho}
    (hg : SndG p sc target tgt) (hc : SndC p sc ifs cond) (he : SndE p sc elt elt') (at' : At p sc C d cx A) (hb : Bnd lim ρ) (hlim : lim ≤ sc.lim) (hsl : ∀ i ∈ tgt.slots, lim ≤ i) (aD : Aside cx D) (aI : Aside cx it) (hne : D ≠ it)
    {ι₀ : List Addr} {s₀ : Shared} {K : List V → H → Prop}
    (fin : ∀ ι H s vals n out, Mono ι₀ s₀ ι s → St (cx.keep D (lstO vals n)) ι ρ H s → RepVs ι s.heap vals.toList out → out.length ≤ SZ → K out H → R (.ok .next) s) :
    ∀ {f : Nat} {o : Obj} {i : It} {ι : List Addr} {H : H} {s : Shared} {vals : Array Value} {n : Nat} {out : List V}, Mono ι₀ s₀ ι s → St ((cx.keep D (lstO vals n)).keep it o) ι ρ H s → ItRep ι s.heap o i → RepVs ι s.heap vals.toList out → out.length ≤ SZ →
      compN (compTurnW C ρ tgt cond elt') f i H out K →
      codeAny (model p.prog cx.w) A (.compLoop (.ListComp elt [⟨target, iter, ifs, 0⟩] scope pos) 0 (.ref it) (.ref D) cx.env) R s := by
  intro f o i ι H s vals n out M S ri ro hl h
  refine comp_loop (fun f s => ∃ (o : Obj) (i : It) (ι : List Addr) (H : Tw.H) (vals : Array Value) (n : Nat) (out : List V), Mono ι₀ s₀ ι s ∧ St ((cx.keep D (lstO vals n)).keep it o) ι ρ H s ∧ ItRep ι s.heap o i ∧ RepVs ι s.heap vals.toList out ∧ out.length ≤ SZ ∧
    compN (compTurnW C ρ tgt cond elt') f i H out K) (fun f s hI => ?_) f ⟨o, i, ι, H, vals, n, out, M, S, ri, ro, hl, h⟩
  obtain ⟨o, i, ι, H, vals, n, out, M, S, ri, ro, hl, h⟩ := hI
  cases f with
  | zero => exact h.elim
  | succ f =>
    have aI' : Aside (cx.keep D (lstO vals n)) it := aI.keep (Ne.symm hne) _
    refine mono' (next_sound (cx := cx.keep D (lstO vals n)) S aI' at'.ao.hd ri h) fun r s₁ h₁ => ?_
    cases r with
    | none =>
      obtain ⟨hk, S₁, M₁⟩ := h₁
      exact fin ι H s₁ vals n out (M.trans M₁) S₁ (M₁.reps ro) hl hk
    | some x =>
      obtain ⟨v, i', o', ht, S₁, M₁, rx, ri'⟩ := h₁
      refine owned_go (cx := cx.keep D (lstO vals n)) S₁ ri' ?_
      have at₁ := (at'.keep aD (lstO vals n)).keep aI' o'
      have hbs : Bnd sc.lim ρ := fun i hi => hb i (Nat.le_trans hlim hi)
      refine mono' (hg (cx := (cx.keep D (lstO vals n)).keep it o') at₁ S₁ hbs rx (bindT_ext ht)) fun _ s₂ ⟨ρ', M₂, S₂, hb', hout, hw⟩ => ?_
      have back : ∀ {ι' : List Addr} {H' : Tw.H} {s' : Shared} {cx' : Cx}, cx'.nm = cx'.nm → St cx' ι' ρ' H' s' → St cx' ι' ρ H' s' := fun _ S => S.rho fun x i v _ hv => by
        by_cases hm : i ∈ tgt.slots
        · have := hb i (hsl i hm); rw [this] at hv; cases hv
        · rw [hout i hm]; exact hv
      refine mono' (hc.go (cx := (cx.keep D (lstO vals n)).keep it o') at₁ S₂ hb' hw) fun b s₃ ⟨ι₃, H₃, M₃, S₃, q₃⟩ => ?_
      have M₁₃ := M₁.trans (M₂.trans M₃)
      cases b with
      | false =>
        rw [if_neg (by decide)]
        exact ⟨f, Nat.lt_succ_self _, o', i', ι₃, H₃, vals, n, out, M.trans M₁₃, back rfl S₃, ri'.mono (M₂.trans M₃).pre (M₂.trans M₃).imm, M₁₃.reps ro, hl, q₃⟩
      | true =>
        rw [if_pos rfl]
        refine mono' (he (cx := (cx.keep D (lstO vals n)).keep it o') at₁ S₃ hb' q₃) fun y s₄ ⟨vy, ι₄, H₄, M₄, S₄, ry, hlt, q₄⟩ => ?_
        have S₅ : St ((cx.keep it o').keep D (lstO vals n)) ι₄ ρ' H₄ s₄ := S₄.reP fun a ob q => by
          rcases q with (q | q) | q
          · exact .inl (.inl q)
          · exact .inr q
          · exact .inl (.inr q)
        have M₁₄ := M₁₃.trans M₄
        refine append_aside (C := C) (cx := cx.keep it o') (aD.keep hne _) S₅ (M₁₄.reps ro) ry hlt fun vals' n' s₆ S₆ M₆ r₆ => ?_
        refine ⟨f, Nat.lt_succ_self _, o', i', ι₄, H₄, vals', n', out ++ [vy], (M.trans M₁₄).trans M₆, back rfl (S₆.reP fun a ob q => ?_), ri'.mono ((M₂.trans M₃).trans (M₄.trans M₆)).pre ((M₂.trans M₃).trans (M₄.trans M₆)).imm, r₆, by simp; exact hlt, q₄⟩
        rcases q with (q | q) | q
        · exact .inl (.inl q)
        · exact .inr q
        · exact .inl (.inr q)
end
end Tw
end

section
namespace Tw
open PySem PySem.SeqAt

section
variable {p : Pg} {sc : Sc}

theorem aside_comp {C : Ora} {d : Nat} {cx : Cx} {A : Around} {scope : Scope} (ok : CompOk sc scope) (at' : At p sc C d cx A) {h : Heap} {L b : Addr} (a : Aside cx b) (hlt : b < L) : Aside (compCx cx sc scope h L) b where
  np := fun ob q => by
    rcases q with q | ⟨q, _⟩ | ⟨_, x, l⟩
    · exact a.np ob q
    · exact a.nl q
    · exact a.nc x b l rfl
  nl := Nat.ne_of_lt hlt
  nc := fun x c l => by
    rcases comp_cells ok at' l with ⟨_, _, h3⟩ | ⟨h1, _⟩
    · exact Nat.ne_of_gt (Nat.lt_trans hlt h3)
    · exact a.nc x c h1

theorem comp_sound {elt target iter : Expr} {ifs : List Expr} {scope : Scope} {pos pos' : Pos} {elt' iter' : E} {tgt : Tgt} {cond : Option E} {use : Option (Value → Sem Unit)}
    (hi : SndE p sc iter iter') (ok : CompOk sc scope) (hg : SndG p (compSc sc scope.names) target tgt) (hc : SndC p (compSc sc scope.names) ifs cond) (he : SndE p (compSc sc scope.names) elt elt') (hsl : ∀ i ∈ tgt.slots, sc.lim ≤ i)
    (hset : ∀ env x, foldedSetIterable iter env x = pure x)
    {C : Ora} {d : Nat} {cx : Cx} {A : Around} {ι : List Addr} {ρ : Rho} {H : H} {s : Shared} {Q : V → Tw.H → Prop} {E : Value → Shared → Prop} {R : Value → Shared → Prop}
    (at' : At p sc C d cx A) (S : St cx ι ρ H s) (hb : Bnd sc.lim ρ) (h : wpE C (.comp elt' tgt iter' cond) ρ H Q)
    (fin : use = none → ∀ val s', Post cx ι ρ s Q val s' → R val s')
    (fin' : ∀ u, use = some u → ∀ L oL ι' H' s' val v, Aside cx L → Mono ι s ι' s' → St (cx.keep L oL) ι' ρ H' s' → RepV ι' s'.heap val v → Q v H' →
      wpAny (model p.prog cx.w) A (u val) (fun _ s'' => ∃ ι'' ρ'' H'', Mono ι' s' ι'' s'' ∧ St (cx.keep L oL) ι'' ρ'' H'' s'' ∧ ∀ s₃, Mono ι'' s'' ι'' s₃ → St cx ι'' ρ'' H'' s₃ → R .none s₃) E s') :
    wpAny (model p.prog cx.w) A (comprehension (.ListComp elt [⟨target, iter, ifs, 0⟩] scope pos) scope cx.env pos' (newList []) false (eval iter cx.env) use) R E s := by
  refine wpAny_comprehension_free (use := use) rfl (hset _) (closure_is fun x hx => (at'.fit.ck x (ok.free x hx)).2) ok.kind (fun x hx e => ok.each x.1 _ (by rw [← e]; exact hx))
    (mono' (hi at' S hb h) fun x s₁ ⟨vi, ι₁, H₁, M₁, S₁, r₁, q₁⟩ => mono' (iter_sound S₁ at'.ok r₁ q₁) fun itv s₂ ⟨it, o, i, e, aI, S₂, M₂, ri, f, q₂⟩ => ?_)
  subst e
  refine wpAny_newObj_type ?_
  refine new_comp_env ?_
  have gI := S₂.kept ri.notMk
  have hI := S₂.keptI
  have S₂' := S₂.unkeep
  obtain ⟨f1, f2, f3, f4, f5⟩ := S₂'.fresh at'.ok (Nat.le_refl _)
  have aD : Aside cx s₂.heap.objs.size := ⟨f3, f4, f5⟩
  have hk : ∀ b ob, s₂.heap.get? b = some ob → (s₂.heap.push (lstO #[] 0)).get? b = some ob := fun _ _ e => Heap.get?_push_of_some _ e
  have gD : (s₂.heap.push (lstO #[] 0)).get? s₂.heap.objs.size = some (lstO #[] 0) := get?_fresh rfl
  have hlt : it < s₂.heap.objs.size := Heap.lt_size gI
  have hsz : (s₂.heap.push (lstO #[] 0)).objs.size = s₂.heap.objs.size + 1 := Heap.size_push ..
  have S₃ := S₂'.push (lstO #[] 0) s₂.toks
  have M₃ : Mono ι₁ s₂ ι₁ { s₂ with heap := s₂.heap.push (lstO #[] 0), toks := s₂.toks } := .ext hk
  show codeAny _ A (.compStart (.ListComp elt [⟨target, iter, ifs, 0⟩] scope pos) 0 (.ref it) (.ref s₂.heap.objs.size) (compCx cx sc scope (s₂.heap.push (lstO #[] 0)) (s₂.heap.push (lstO #[] 0)).objs.size).env)
    (compPost _ A E use R (.ref s₂.heap.objs.size) (s₂.heap.push (lstO #[] 0)).objs.size) { s₂ with heap := pushCells ((s₂.heap.push (lstO #[] 0)).push { cls := .type "dict", data := .dict #[] }) scope.names }
  generalize hD : s₂.heap.objs.size = D at *
  generalize hH3 : s₂.heap.push (lstO #[] 0) = h₃ at *
  have S₄ := comp_st ok at' S₃ hb
  have at₄ := comp_at ok at' S₃
  have hk₄ : ∀ b ob, h₃.get? b = some ob → (pushCells (h₃.push { cls := .type "dict", data := .dict #[] }) scope.names).get? b = some ob := fun b ob e => pushCells_keeps _ _ b ob (Heap.get?_push_of_some _ e)
  have M₄ : Mono ι₁ { s₂ with heap := h₃, toks := s₂.toks } ι₁ { s₂ with heap := pushCells (h₃.push { cls := .type "dict", data := .dict #[] }) scope.names, toks := s₂.toks } := .ext hk₄
  dsimp only at S₄ at₄
  have hDL : D < h₃.objs.size := by rw [hsz]; exact Nat.lt_succ_self _
  have hIL : it < h₃.objs.size := Nat.lt_trans hlt hDL
  have aI₄ : Aside (compCx cx sc scope h₃ h₃.objs.size) it := aside_comp ok at' aI hIL
  have aD₄ : Aside (compCx cx sc scope h₃ h₃.objs.size) D := aside_comp ok at' aD hDL
  have hne : D ≠ it := Nat.ne_of_gt hlt
  have S₅ := (S₄.keep (hk₄ _ _ gD) f1).keep (hk₄ _ _ (hk _ _ gI)) hI
  obtain ⟨_, hlow, hP, hL, hc5⟩ := S₃.fresh at'.ok (a := h₃.objs.size) (Nat.le_refl _)
  have aL : Aside cx h₃.objs.size := ⟨hP, hL, hc5⟩
  have run := comp_run (R := compPost (model p.prog cx.w) A E use R (.ref D) h₃.objs.size) (iter := iter) (scope := scope) (pos := pos) hg hc he at₄ hb (Nat.le_add_right _ _) hsl aD₄ aI₄ hne
    (ι₀ := ι₁) (s₀ := { s₂ with heap := h₃, toks := s₂.toks }) (K := fun out h₂ => Q (.ref h₂.length) (h₂ ++ [MO.list out])) (fun ι₆ H₆ s₆ vals n out M₆ S₆ ro hl hq => ?_)
    (f := f) M₄ S₅ (ri.mono (M₃.trans M₄).pre (M₃.trans M₄).imm) (vals := #[]) (n := 0) (out := []) .nil (Nat.zero_le _) q₂
  · exact codeAny_compStart_list run (iter_self (cx := (compCx cx sc scope h₃ h₃.objs.size).keep D _) S₅ (ri.mono (M₃.trans M₄).pre (M₃.trans M₄).imm) run)
  · have gD₆ := S₆.kept (notMk_seq rfl)
    have hI₆ := S₆.keptI
    have S₇ := S₃.back S₆.unkeep.wd M₆
    have S₈ := S₇.alloc (o := .list out) ⟨vals, n, gD₆, ro, hl⟩ hI₆ f2 f3 f4 f5
    have M₈ : Mono ι₆ s₆ (ι₆ ++ [D]) s₆ := ⟨List.prefix_append _ _, .refl _⟩
    have Mall := M₁.trans (M₂.trans (M₃.trans (M₆.trans M₈)))
    have rD : RepV (ι₆ ++ [D]) s₆.heap (.ref D) (.ref H₆.length) := .ref (by rw [← S₇.len]; simp)
    obtain ⟨m, hn⟩ := S₆.ns
    have hnI : h₃.objs.size ∉ ι₆ ++ [D] := fun hm => by
      rcases List.mem_append.mp hm with hm | hm
      · exact S₆.nsI hm
      · simp at hm; exact absurd hm (Nat.ne_of_gt hDL)
    have hni : ∀ ob, s₆.heap.get? h₃.objs.size = some ob → ¬ isImm ob := Ns.notImm hn
    cases use with
    | none =>
      refine ⟨m, hn, fun h' hsb => ?_⟩
      obtain ⟨S₉, M₉⟩ := S₈.but aL hnI s₆.toks hsb.extBut hni
      exact fin rfl _ _ ⟨.ref H₆.length, _, _, Mall.trans M₉, S₉, M₉.rep rD, hq⟩
    | some u =>
      obtain ⟨oL, gL⟩ := Ns.obj hn
      have hnK : ∀ {s' : Shared}, Kp cx.s0 s'.heap h₃.objs.size oL → s'.heap.Ns h₃.objs.size m := fun x => Kp.ns (h := s₆.heap) (fun o e => by
        have e : s₆.heap.get? _ = some o := e
        rw [show s₆.heap.get? h₃.objs.size = some oL from gL] at e; cases e; exact x) hn
      refine mono' (fin' u rfl h₃.objs.size oL _ _ s₆ (.ref D) (.ref H₆.length) aL Mall (S₈.keep gL hnI) rD hq) fun _ s₇ ⟨ι₇, ρ₇, H₇, M₇, S₉, hR⟩ => ?_
      have hn₇ : s₇.heap.Ns h₃.objs.size m := hnK (S₉.prot _ oL (.inr ⟨rfl, rfl⟩))
      refine ⟨m, hn₇, fun h' hsb => ?_⟩
      obtain ⟨S₁₀, M₁₀⟩ := S₉.unkeep.but aL S₉.keptI s₇.toks hsb.extBut (Ns.notImm hn₇)
      exact hR _ M₁₀ S₁₀

theorem snd_comp {elt target iter : Expr} {ifs : List Expr} {scope : Scope} {pos : Pos} {elt' iter' : E} {tgt : Tgt} {cond : Option E}
    (hi : SndE p sc iter iter') (ok : CompOk sc scope) (hg : SndG p (compSc sc scope.names) target tgt) (hc : SndC p (compSc sc scope.names) ifs cond) (he : SndE p (compSc sc scope.names) elt elt') (hsl : ∀ i ∈ tgt.slots, sc.lim ≤ i)
    (hset : ∀ env x, foldedSetIterable iter env x = pure x) : SndE p sc (.ListComp elt [⟨target, iter, ifs, 0⟩] scope pos) (.comp elt' tgt iter' cond) := fun at' S hb h =>
  comp_sound (use := none) hi ok hg hc he hsl hset at' S hb h (fun _ _ _ P => P) fun u e => nomatch e
end
end Tw
end

section
namespace Tw
open PySem PySem.SeqAt

section
variable {p : Pg} {sc : Sc}

theorem sndB_nil : SndB p sc [] [] := fun at' S hb h => wpAny_execs_nil ⟨.next, _, _, _, .refl _ _, S, hb, trivial, h⟩
theorem sndB_cons {e : Stmt} {es : List Stmt} {e' : S} {es' : List S} (h1 : SndS p sc e e') (h2 : SndB p sc es es') : SndB p sc (e :: es) (e' :: es') := fun at' S hb h => by
  refine wpAny_execs_cons (mono' (h1 at' S hb h) fun f s₁ ⟨o, ρ₁, ι₁, H₁, M₁, S₁, hb₁, ho, q₁⟩ => ?_)
  cases o with
  | next =>
    cases f with
    | next => exact mono' (h2 at' S₁ hb₁ q₁) fun _ _ P => P.after M₁
    | _ => exact ho.elim
  | ret v =>
    cases f with
    | ret val => exact ⟨.ret v, ρ₁, ι₁, H₁, M₁, S₁, hb₁, ho, q₁⟩
    | _ => exact ho.elim

theorem snd_ret {e : Expr} {e' : E} {pos : Pos} (h1 : SndE p sc e e') : SndS p sc (.Return (some e) pos) (.ret (some e')) := fun at' S hb h =>
  wpAny_Return_some (mono' (h1 at' S hb h) fun val s₁ ⟨v, ι₁, H₁, M₁, S₁, r, q⟩ => ⟨.ret v, _, ι₁, H₁, M₁, S₁.ret, hb, r, q⟩)
theorem snd_ret0 {pos : Pos} : SndS p sc (.Return none pos) (.ret none) := fun at' S hb h => wpAny_Return_none ⟨.ret .none, _, _, _, .refl _ _, S.ret, hb, .none, h⟩
theorem snd_raise {e : Stmt} : SndS p sc e .raise := fun _ _ _ h => h.elim

theorem snd_expr {e : Expr} {e' : E} {pos : Pos} (h1 : SndE p sc e e') (hs : ∀ env l, swapsWith e none l env = pure false) : SndS p sc (.Expr e pos) (.expr e') := fun {C d cx A ι ρ H s Q E} at' S hb h => by
  have hi : interactive cx.env = false := by unfold interactive; rw [at'.ok.fn]; rfl
  rw [exec_Expr cx.env e pos hi (hs _ _)]
  exact wpAny_bind (wpAny_standAt (wpAny_bind (mono' (h1 at' S hb h) fun val s₁ ⟨v, ι₁, H₁, M₁, S₁, r, q⟩ => wpAny_dropValue ⟨.next, _, ι₁, H₁, M₁, S₁, hb, trivial, q⟩)))

theorem snd_ite {t : Expr} {a b : List Stmt} {pos : Pos} {t' : E} {a' b' : List S} (h1 : SndT p sc t t') (h2 : SndB p sc a a') (h3 : SndB p sc b b') : SndS p sc (.If t a b pos) (.ite t' a' b') := fun at' S hb h => by
  refine wpAny_If (mono' (h1 at' S hb h) fun c s₁ ⟨ι₁, H₁, M₁, S₁, q₁⟩ => ?_)
  cases c with
  | true => exact mono' (h2 at' S₁ hb q₁) fun _ _ P => P.after M₁
  | false => exact mono' (h3 at' S₁ hb q₁) fun _ _ P => P.after M₁

/-! assignments -/
theorem snd_store {o i e : Expr} {pos pos' : Pos} {o' i' e' : E} (h1 : SndE p sc e e') (h2 : SndE p sc o o') (h3 : SndE p sc i i') (hs : ∀ env l t, swapsWith e (some t) l env = pure false) :
    SndS p sc (.Assign [.Subscript o i pos'] e pos) (.store o' i' e') := fun at' S hb h => by
  refine wpAny_Assign_Subscript (mono' (h1 at' S hb h) fun x s₁ ⟨v, ι₁, H₁, M₁, S₁, r₁, q₁⟩ => mono' (h2 at' S₁ hb q₁) fun y s₂ ⟨vo, ι₂, H₂, M₂, S₂, r₂, q₂⟩ => mono' (h3 at' S₂ hb q₂) fun z s₃ ⟨vi, ι₃, H₃, M₃, S₃, r₃, q₃⟩ => ?_) (hs _ _ _)
  exact mono' (store_sound S₃ at'.ao.u (M₃.rep r₂) r₃ ((M₂.trans M₃).rep r₁) q₃) fun _ s₄ ⟨H₄, M₄, S₄, q₄⟩ => ⟨.next, _, ι₃, H₄, M₁.trans (M₂.trans (M₃.trans M₄)), S₄, hb, trivial, q₄⟩
theorem snd_assign_tup {es : List Expr} {k : Nat} {tp pos : Pos} {e : Expr} {e' : E} {tgt : Tgt} (h1 : SndE p sc e e') (h2 : SndG p sc (.Tuple es k tp) tgt) (hs : ∀ env l t, swapsWith e (some t) l env = pure false) (hw : ∀ env, swappedStores [.Tuple es k tp] e env = pure none) :
    SndS p sc (.Assign [.Tuple es k tp] e pos) (.assign tgt e') := fun {C d cx A ι ρ H s Q E} at' S hb h => by
  refine wpAny_Assign_stores (mono' (h1 at' S hb h) fun x s₁ ⟨v, ι₁, H₁, M₁, S₁, r₁, q₁⟩ => ?_) (hs cx.env pos.line (.Tuple es k tp)) (hw _)
  show wpAny _ _ (assign (.Tuple es k tp) _ x) _ _ _
  exact mono' (h2 at' S₁ hb r₁ q₁) fun _ s₂ ⟨ρ', M₂, S₂, hb', q₂⟩ => ⟨.next, ρ', ι₁, H₁, M₁.trans M₂, S₂, hb', trivial, q₂⟩
theorem snd_assign {x : Str} {i : Nat} {xp pos : Pos} {e : Expr} {e' : E} (h1 : SndE p sc e e') (hx : sc.nm x = some i) (hst : sc.st x = true) (hs : ∀ env l t, swapsWith e (some t) l env = pure false) :
    SndS p sc (.Assign [.Name x xp] e pos) (.assign (.name i) e') := fun at' S hb h => by
  refine wpAny_Assign_Name (mono' (h1 at' S hb h) fun val s₁ ⟨v, ι₁, H₁, M₁, S₁, r₁, q₁⟩ => ?_) (hs _ _ _)
  exact store_name hx hst at' S₁ hb r₁ fun s₂ M₂ S₂ hb₂ => ⟨.next, _, ι₁, H₁, M₁.trans M₂, S₂, hb₂, trivial, q₁⟩
theorem snd_assign_comp {x : Str} {i : Nat} {xp ap : Pos} {elt target iter : Expr} {ifs : List Expr} {scope : Scope} {pos : Pos} {elt' iter' : E} {tgt : Tgt} {cond : Option E} (hx : sc.nm x = some i) (hst : sc.st x = true)
    (hi : SndE p sc iter iter') (ok : CompOk sc scope) (hg : SndG p (compSc sc scope.names) target tgt) (hc : SndC p (compSc sc scope.names) ifs cond) (he : SndE p (compSc sc scope.names) elt elt') (hsl : ∀ i ∈ tgt.slots, sc.lim ≤ i)
    (hset : ∀ env x, foldedSetIterable iter env x = pure x) : SndS p sc (.Assign [.Name x xp] (.ListComp elt [⟨target, iter, ifs, 0⟩] scope pos) ap) (.assign (.name i) (.comp elt' tgt iter' cond)) := fun {C d cx A ι ρ H s Q E} at' S hb h => by
  have h : wpE C (.comp elt' tgt iter' cond) ρ H (fun v h₁ => Q .next (upd ρ i v) h₁) := h
  have hsw : ∃ b, swapsWith (.ListComp elt [⟨target, iter, ifs, 0⟩] scope pos) (some (.Name x xp)) ap.line cx.env = pure b := ⟨_, rfl⟩
  obtain ⟨b, hsw⟩ := hsw
  cases b with
  | false =>
    refine wpAny_Assign_Name (mono' (snd_comp hi ok hg hc he hsl hset at' S hb h) fun val s₁ ⟨v, ι₁, H₁, M₁, S₁, r₁, q₁⟩ => ?_) hsw
    exact store_name hx hst at' S₁ hb r₁ fun s₂ M₂ S₂ hb₂ => ⟨.next, _, ι₁, H₁, M₁.trans M₂, S₂, hb₂, trivial, q₁⟩
  | true =>
    rw [exec_Assign_Name_used _ _ _ _ hsw]
    refine wpAny_bind (wpAny_standAt (wpAny_bind ?_))
    show wpAny _ A (do let _ ← comprehension (.ListComp elt [⟨target, iter, ifs, 0⟩] scope pos) scope cx.env _ (newList []) false (eval iter cx.env) (some (assign (.Name x xp) cx.env))) _ _ s
    refine wpAny_bind (mono' (comp_sound (use := some (assign (.Name x xp) cx.env)) (R := fun _ s' => PostS sc cx ι s Q .next s') hi ok hg hc he hsl hset at' S hb h (fun e => nomatch e) fun u eu L oL ι' H' s' val v aL M' S' r' q' => ?_) fun _ s' hq => wpAny_pure (wpAny_pure hq))
    cases eu
    refine wpAny_assign_Name (store_name (cx := cx.keep L oL) hx hst (at'.keep aL oL) S' hb r' fun s₂ M₂ S₂ hb₂ => ?_)
    exact ⟨ι', _, H', M₂, S₂, fun s₃ M₃ S₃ => ⟨.next, _, ι', H', (M'.trans M₂).trans M₃, S₃, hb₂, trivial, q'⟩⟩

/-! loops -/
theorem snd_while {t : Expr} {b : List Stmt} {pos : Pos} {t' : E} {b' : List S} (h1 : SndT p sc t t') (h2 : SndB p sc b b') : SndS p sc (.While t b [] pos) (.while t' b') := fun {C d cx A ι ρ H s Q E} at' S hb h => by
  obtain ⟨f, h⟩ := h
  refine wpAny_While (codeAny_whileLoop (fun f s' => ∃ ι' ρ' H', Mono ι s ι' s' ∧ St cx ι' ρ' H' s' ∧ Bnd sc.lim ρ' ∧ whileN (fun ρ h k => wpT C t' ρ h k) (fun ρ h k => wpB C b' ρ h k) f ρ' H' Q) (fun f s₁ hI => ?_) f ⟨ι, ρ, H, .refl _ _, S, hb, h⟩)
  obtain ⟨ι₁, ρ₁, H₁, M₁, S₁, hb₁, h⟩ := hI
  cases f with
  | zero => exact h.elim
  | succ f =>
    refine mono' (h1 at' S₁ hb₁ h) fun c s₂ ⟨ι₂, H₂, M₂, S₂, q₂⟩ => ?_
    cases c with
    | false =>
      rw [if_neg (by decide)]
      exact wpAny_execs_nil ⟨.next, ρ₁, ι₂, H₂, M₁.trans M₂, S₂, hb₁, trivial, q₂⟩
    | true =>
      rw [if_pos rfl]
      refine mono' (h2 at' S₂ hb₁ q₂) fun fl s₃ ⟨o, ρ₃, ι₃, H₃, M₃, S₃, hb₃, ho, q₃⟩ => ?_
      have M₄ := M₁.trans (M₂.trans M₃)
      cases o with
      | next =>
        cases fl with
        | next => exact ⟨f, Nat.lt_succ_self _, ι₃, ρ₃, H₃, M₄, S₃, hb₃, q₃⟩
        | _ => exact ho.elim
      | ret v =>
        cases fl with
        | ret val => exact ⟨.ret v, ρ₃, ι₃, H₃, M₄, S₃, hb₃, ho, q₃⟩
        | _ => exact ho.elim

theorem snd_for {t it : Expr} {b : List Stmt} {pos : Pos} {tgt : Tgt} {it' : E} {b' : List S} (h1 : SndE p sc it it') (hg : SndG p sc t tgt) (h2 : SndB p sc b b') (hset : ∀ env x, foldedSetIterable it env x = pure x) :
    SndS p sc (.For t it b [] pos) (.for tgt it' b') := fun {C d cx A ι ρ H s Q E} at' S hb h => by
  refine wpAny_For (mono' (h1 at' S hb h) fun x s₁ ⟨vi, ι₁, H₁, M₁, S₁, r₁, q₁⟩ => mono' (iter_sound S₁ at'.ok r₁ q₁) fun itv s₂ ⟨I, o, i, e, aI, S₂, M₂, ri, f, q₂⟩ => ?_) (hset _)
  subst e
  refine codeAny_forLoop_any (fun f s' => ∃ o i ι' ρ' H', Mono ι s ι' s' ∧ St (cx.keep I o) ι' ρ' H' s' ∧ Bnd sc.lim ρ' ∧ ItRep ι' s'.heap o i ∧ forN (fun v ρ h k => bindT tgt v ρ fun ρ' => wpB C b' ρ' h k) f i ρ' H' Q) (fun f s₁ hI => ?_) f
    ⟨o, i, ι₁, ρ, H₁, M₁.trans M₂, S₂, hb, ri, q₂⟩
  obtain ⟨o, i, ι₁, ρ₁, H₁, M₁, S₁, hb₁, ri, h⟩ := hI
  cases f with
  | zero => exact h.elim
  | succ f =>
    refine mono' (next_sound S₁ aI at'.ao.hd ri h) fun r s₂ h₂ => ?_
    cases r with
    | none =>
      obtain ⟨hq, S₂, M₂⟩ := h₂
      exact wpAny_execs_nil ⟨.next, ρ₁, ι₁, H₁, M₁.trans M₂, S₂, hb₁, trivial, hq⟩
    | some x =>
      obtain ⟨v, i', o', ht, S₂, M₂, rx, ri'⟩ := h₂
      refine owned_go S₂ ri' ?_
      have at₁ := at'.keep aI o'
      refine mono' (hg (cx := cx.keep I o') at₁ S₂ hb₁ rx ht) fun _ s₃ ⟨ρ₃, M₃, S₃, hb₃, hw⟩ => ?_
      refine mono' (h2 (cx := cx.keep I o') at₁ S₃ hb₃ hw) fun fl s₄ ⟨o₄, ρ₄, ι₄, H₄, M₄, S₄, hb₄, ho, q₄⟩ => ?_
      have M₅ := M₁.trans (M₂.trans (M₃.trans M₄))
      cases o₄ with
      | next =>
        cases fl with
        | next => exact ⟨f, Nat.lt_succ_self _, o', i', ι₄, ρ₄, H₄, M₅, S₄, hb₄, ri'.mono (M₃.trans M₄).pre (M₃.trans M₄).imm, q₄⟩
        | _ => exact ho.elim
      | ret v =>
        cases fl with
        | ret val => exact ⟨.ret v, ρ₄, ι₄, H₄, M₅, S₄.unkeep, hb₄, ho, q₄⟩
        | _ => exact ho.elim
end
end Tw
end

section
namespace Tw
open PySem PySem.SeqAt

noncomputable def sc0 : Sc := ⟨fun _ => none, fun _ => false, fun _ => false, fun _ => false, 0, false⟩
/-- the names that a function sees -/
noncomputable def fnSc (names : Nms) : Sc := { compSc sc0 names with top := true }

structure FnOk (p : Pg) (f : FnRec) (fn : Fn) : Prop where
  params : ∃ args, f.params = ⟨[], args, none, [], [], none, []⟩ ∧ (args.map (·.arg)).Nodup ∧ fn.arity = args.length ∧ (∀ (i : Nat) x, (args.map (·.arg))[i]? = some x → (fnSc f.scope.names).nm x = some i)
  kind : f.scope.kind = .function
  co : f.scope.isCoroutine = false
  gen : f.scope.isGenerator = false
  each : ∀ x k, (x, k) ∈ f.scope.names → f.scope.names.lookup x = some k
  plain : ∀ x k, (x, k) ∈ f.scope.names → plainName x = true
  free : ∀ x, (x, NameKind.free) ∉ f.scope.names
  body : SndB p (fnSc f.scope.names) f.body fn.body

theorem zip_lookup : ∀ {names : List Str} {vals : List Value}, names.Nodup → names.length = vals.length → ∀ x ∈ names, ((names.zip vals).lookup x).isSome = true
  | [], _, _, _, x, h => by simp at h
  | n :: r, [], _, hl, _, _ => by simp at hl
  | n :: r, v :: vs, hn, hl, x, h => by
    simp only [List.zip_cons_cons, List.lookup_cons]
    cases hx : x == n with
    | true => rfl
    | false =>
      rcases List.mem_cons.mp h with e | h
      · subst e; simp at hx
      · exact zip_lookup (List.nodup_cons.mp hn).2 (by simpa using hl) x h
theorem filterMap_eq {α β : Type} {f g : α → Option β} : ∀ {l : List α}, (∀ x ∈ l, f x = g x) → l.filterMap f = l.filterMap g
  | [], _ => rfl
  | a :: r, h => by rw [List.filterMap_cons, List.filterMap_cons, h a List.mem_cons_self, filterMap_eq fun x hx => h x (List.mem_cons_of_mem _ hx)]
theorem filter_zip : ∀ {names : List Str} {vals : List Value}, names.Nodup → names.length = vals.length → names.filterMap (fun n => ((names.zip vals).lookup n).map (n, ·)) = names.zip vals
  | [], _, _, _ => by simp
  | n :: r, [], _, hl => by simp at hl
  | n :: r, v :: vs, hn, hl => by
    obtain ⟨h1, h2⟩ := List.nodup_cons.mp hn
    have ih := filter_zip h2 (vals := vs) (by simpa using hl)
    rw [List.zip_cons_cons, List.filterMap_cons]
    simp only [List.lookup_cons, beq_self_eq_true, Option.map_some]
    congr 1
    refine Eq.trans ?_ ih
    exact filterMap_eq fun x hx => by
      have : (x == n) = false := beq_eq_false_iff_ne.mpr fun (e : x = n) => h1 (e ▸ hx)
      rw [this]

theorem bind_rfl {α β : Type} {m : Sem α} {a : α} {f : α → Sem β} (h : m = pure a) : (m >>= f) = f a := by rw [h, pure_bind]
theorem bind_plain {name : Str} {args : List Arg} {body : List Stmt} {scope : Scope} {pm code doc : Value} {vals : List Value} (hn : (args.map (·.arg)).Nodup) (hl : args.length = vals.length) :
    bindArgs (Calls.docDef name ⟨[], args, none, [], [], none, []⟩ body scope pm code doc) ⟨vals, []⟩ = pure ((args.map (·.arg)).zip vals) := by
  have hl' : (args.map (·.arg)).length = vals.length := by simpa using hl
  have hmiss : List.filter (fun n => (List.lookup n ((args.map (·.arg)).zip vals)).isNone) ((args.map (·.arg)).take (args.map (·.arg)).length) = [] := by
    rw [List.take_length, List.filter_eq_nil_iff]
    intro x hx
    have := zip_lookup hn hl' x hx
    simpa using Option.isSome_iff_ne_none.mp this
  have h1 : (decide (vals.length > (args.map (·.arg)).length) && (none : Option Arg).isNone) = false := by simp [hl']
  have hd : ((args.map (·.arg)).drop (args.map (·.arg)).length).zip ([] : List Value) = [] := by rw [List.drop_length]; rfl
  have hf := filter_zip hn hl'
  unfold bindArgs
  refine (bind_rfl rfl).trans ?_
  refine (bind_rfl rfl).trans ?_
  refine (if_neg (show ¬ (decide (vals.length > (args.map (·.arg)).length) && (none : Option Arg).isNone) = true by rw [h1]; exact Bool.false_ne_true)).trans ?_
  refine (if_neg ?a).trans ?_
  case a =>
    show ¬ (!(List.filter (fun n => (List.lookup n ((args.map (·.arg)).zip vals)).isNone) ((args.map (·.arg)).take ((args.map (·.arg)).length - (List.drop (0 - (args.map (·.arg)).length) ([] : List Value)).length))).isEmpty) = true
    rw [List.drop_nil, List.length_nil, Nat.sub_zero, hmiss]; exact Bool.false_ne_true
  refine (bind_rfl (a := (args.map (·.arg)).zip vals) ?a).trans ?_
  case a =>
    show forIn (((args.map (·.arg)).drop ((args.map (·.arg)).length - (List.drop (0 - (args.map (·.arg)).length) ([] : List Value)).length)).zip (List.drop (0 - (args.map (·.arg)).length) ([] : List Value))) _ _ = _
    rw [List.drop_nil, List.length_nil, Nat.sub_zero, hd]; rfl
  refine (bind_rfl rfl).trans ?_
  refine congrArg pure ?_
  show List.filterMap (fun n => Option.map (fun x => (n, x)) (List.lookup n ((args.map (·.arg)).zip vals))) (args.map (·.arg) ++ []) = _
  rw [List.append_nil]; exact hf

theorem bindL_out {kindOf : Str → Option NameKind} : ∀ {binds : List (Str × Value)} {m : Str → Option Value} {x : Str}, x ∉ binds.map (·.1) → bindL kindOf binds m x = m x ∧ bindC kindOf binds m x = m x
  | [], _, _, _ => ⟨rfl, rfl⟩
  | (n, v) :: r, m, x, h => by
    simp at h
    have hx : ∀ z, (x, z) ∉ r := by simpa using h.2
    have ih := fun m => bindL_out (kindOf := kindOf) (binds := r) (m := m) (x := x) (by simpa using h.2)
    unfold bindL bindC
    refine ⟨(ih _).1.trans ?_, (ih _).2.trans ?_⟩ <;> split <;> simp [h.1]
theorem bind_at {kindOf : Str → Option NameKind} : ∀ {binds : List (Str × Value)} {m : Str → Option Value} {x : Str} {v : Value}, (binds.map (·.1)).Nodup → (x, v) ∈ binds →
    (kindOf x = some .local → bindL kindOf binds m x = some v) ∧ (kindOf x ≠ some .local → bindC kindOf binds m x = some v)
  | [], _, _, _, _, h => by simp at h
  | (n, w) :: r, m, x, v, hn, h => by
    simp only [List.map_cons, List.nodup_cons] at hn
    unfold bindL bindC
    rcases List.mem_cons.mp h with e | h
    · cases e
      refine ⟨fun hk => ?_, fun hk => ?_⟩
      · rw [(bindL_out hn.1).1, if_pos hk]; simp
      · rw [(bindL_out hn.1).2, if_neg hk]; simp
    · exact ⟨(bind_at hn.2 h).1, (bind_at hn.2 h).2⟩

section
variable {p : Pg} {w : World} {P : Addr → Obj → Prop} {s0 : Shared} {scr : Addr} {ι : List Addr} {H : H} {s : Shared} {f : FnRec} {fn : Fn}

noncomputable def callCx (w : World) (P : Addr → Obj → Prop) (s0 : Shared) (scr : Addr) (fd : FuncData) (L a : Addr) : Cx where
  w := w
  env := callEnvC fd L a
  nm := (fnSc fd.scope.names).nm
  st := (fnSc fd.scope.names).st
  P := P
  s0 := s0
  scr := scr

theorem fn_slot {names : Nms} {x : Str} {i : Nat} (h : (fnSc names).nm x = some i) : ∃ k, names.lookup x = some k ∧ (k = .local ∨ k = .cell) ∧ i < names.length := by
  obtain ⟨k, l, h⟩ := slotOf_spec h
  rcases h with ⟨h, _, h3⟩ | ⟨_, h⟩
  · exact ⟨k, l, h, by simpa [sc0] using h3⟩
  · cases h
theorem call_has {fd : FuncData} {L a : Addr} {x : Str} (h : (x, NameKind.cell) ∈ fd.scope.names) : ∃ c, (callEnvC fd L a).cells.lookup x = some c := by
  obtain ⟨c, hc⟩ := cellsFrom_has fd.scope.names (L + 1) x h
  exact lookup_of_mem hc

theorem call_cxok (ok : FnOk p f fn) (G : Gd p.G p.T s0 scr) (hP : ∀ a o, s0.heap.get? a = some o → a ≠ scr → P a o) (W : Wd w P s0 scr ι H s) {pm code doc : Value} {a : Addr}
    (hap : (cellsFrom (s.heap.objs.size + 1) f.scope.names []).Pairwise fun x y => x.2 ≠ y.2) : CxOk (callCx w P s0 scr (Calls.docDef f.name f.params f.body f.scope pm code doc) s.heap.objs.size a) where
  fn := ok.kind
  gl := rfl
  bl := rfl
  inj := fun x y i hx hy => slotOf_inj (b0 := 0) (fun x y i h => by simp [sc0] at h) (fun x i h => by simp [sc0] at h) (Nat.le_refl _) hx hy
  kinds := fun x i hx => by
    obtain ⟨k, l, h, _⟩ := fn_slot hx
    rcases h with rfl | rfl
    · exact .inl l
    · exact .inr ⟨.inl l, call_has (mem_of_lookup l)⟩
  plain := fun x i hx => by
    obtain ⟨k, l, h, _⟩ := fn_slot hx
    have := ok.plain x k (mem_of_lookup l)
    simpa [plainName] using this
  cinj := fun x y c hx hy => name_of_addr hap (mem_of_lookup hx) (mem_of_lookup hy)
  own := fun x c o _ _ l q => by
    have h3 := (cellsFrom_of _ _ _ _ (mem_of_lookup l)).2
    exact absurd (W.prot c o q).lt (Nat.not_lt.mpr (Nat.le_of_succ_le h3))
  loc := fun o q => Nat.lt_irrefl _ (W.prot _ o q).lt
  base := hP
  lowL := by
    obtain ⟨o, g, hne⟩ := G.low
    exact (W.prot _ o (hP _ o g hne)).lt
theorem call_fit (w : World) (P : Addr → Obj → Prop) (s0 : Shared) (scr : Addr) (fd : FuncData) (L a : Addr) (hf : ∀ x, (x, NameKind.free) ∉ fd.scope.names) : Fit (fnSc fd.scope.names) (callCx w P s0 scr fd L a) where
  nm := fun _ => rfl
  st := fun _ => rfl
  gk := fun x hx => by
    simp [fnSc, compSc, plainName] at hx
    exact ⟨hx.1, by simpa using hx.2.1⟩
  ck := fun x hx => by
    simp [fnSc, compSc] at hx
    rcases hx with hx | hx
    · exact ⟨.inl hx, call_has (mem_of_lookup hx)⟩
    · exact absurd (mem_of_lookup hx) (hf x)
  stk := fun x hx => by
    simp [fnSc, compSc] at hx
    exact hx
  lim := fun x i hx => by
    obtain ⟨k, l, h, h2⟩ := fn_slot hx
    simpa [fnSc, compSc, sc0] using h2

theorem call_st (ok : FnOk p f fn) (G : Gd p.G p.T s0 scr) (hP : ∀ a o, s0.heap.get? a = some o → a ≠ scr → P a o) (W : Wd w P s0 scr ι H s) {pm code doc : Value} {a : Addr} {names : List Str} {vals : List Value} {vs : List V} {s₁ : Shared}
    (hn : names.Nodup) (hl : names.length = vals.length) (hsl : ∀ (i : Nat) x, names[i]? = some x → (fnSc f.scope.names).nm x = some i) (r : RepVs ι s.heap vals vs) {fd : FuncData} (hfd : fd = Calls.docDef f.name f.params f.body f.scope pm code doc)
    (I : InCallC s (callEnvC fd s.heap.objs.size a).locals (bindL (callEnvC fd s.heap.objs.size a).kindOf (names.zip vals) fun _ => none) (callEnvC fd s.heap.objs.size a).cells (bindC (callEnvC fd s.heap.objs.size a).kindOf (names.zip vals) fun _ => none) s₁) :
    St (callCx w P s0 scr fd s.heap.objs.size a) ι (argsR vs) H s₁ ∧ Mono ι s ι s₁ := by
  have hk := I.toInCall.keep
  have hsc : fd.scope = f.scope := by rw [hfd]; rfl
  have fr : ∀ c, s.heap.objs.size ≤ c → c ∉ ι := fun c hc hm => by
    obtain ⟨n, hn⟩ := List.mem_iff_getElem?.mp hm
    have hlt : n < H.length := W.len ▸ (List.getElem?_eq_some_iff.mp hn).1
    obtain ⟨ob, g, _⟩ := (W.objs n c _ hn (List.getElem?_eq_getElem hlt)).get
    exact absurd (Heap.lt_size g) (Nat.not_lt.mpr hc)
  have hmap : (names.zip vals).map (·.1) = names := by rw [List.map_fst_zip]; exact qe hl
  refine ⟨?_, ⟨List.prefix_refl _, .of_ext hk⟩⟩
  exact {
    same := by
      obtain ⟨h, tk, e⟩ := I.toInCall.same
      obtain ⟨h', tk', e'⟩ := W.same
      exact ⟨h, tk, by rw [e]; subst e'; rfl⟩
    len := W.len
    nodup := W.nodup
    objs := fun n b o hb ho => (W.objs n b o hb ho).mono (List.prefix_refl _) (.of_ext hk) (hk _)
    low := W.low
    scr := fun o e => hk _ _ (W.scr o e)
    scrI := W.scrI
    scrIn := W.scrIn
    prot := fun b o q => (W.prot b o q).mono (hk _)
    protI := W.protI
    ns := ⟨_, I.toInCall.ns⟩
    nsI := fr _ (Nat.le_refl _)
    cells := fun x c l => by
      have h3 := I.above x c (mem_of_lookup l)
      exact ⟨⟨_, I.cell x c l⟩, fr c (Nat.le_of_lt h3), Nat.ne_of_gt h3⟩
    vars := fun x i v hx hv => by
      have hx' : (fnSc f.scope.names).nm x = some i := by rw [← hsc]; exact hx
      obtain ⟨k, l, hk2, _⟩ := fn_slot hx'
      have hv' : vs[i]? = some v := hv
      obtain ⟨val, hval, rv⟩ := r.get hv'
      have hi : i < names.length := by rw [hl]; exact (List.getElem?_eq_some_iff.mp hval).1
      have e1 := hsl i names[i] (List.getElem?_eq_getElem hi)
      have e2 : names[i] = x := slotOf_inj (b0 := 0) (fun x y i h => by simp [sc0] at h) (fun x i h => by simp [sc0] at h) (Nat.le_refl _) e1 hx'
      have hm : (x, val) ∈ names.zip vals := by
        refine List.mem_iff_getElem?.mpr ⟨i, ?_⟩
        rw [List.getElem?_zip_eq_some]
        exact ⟨by rw [List.getElem?_eq_getElem hi, e2], hval⟩
      have hb := bind_at (kindOf := (callEnvC fd s.heap.objs.size a).kindOf) (m := fun _ => none) (by rw [hmap]; exact hn) hm
      have hko : (callEnvC fd s.heap.objs.size a).kindOf x = some k := by show fd.scope.names.lookup x = some k; rw [hsc]; exact l
      refine ⟨val, ?_, rv.mono (List.prefix_refl _) (.of_ext hk)⟩
      rcases hk2 with rfl | rfl
      · exact .inl ⟨hko, _, I.toInCall.ns, hb.1 hko⟩
      · obtain ⟨c, lc⟩ := call_has (L := s.heap.objs.size) (a := a) (fd := fd) (x := x) (by rw [hsc]; exact mem_of_lookup l)
        have hc := I.cell x c lc
        rw [hb.2 (by rw [hko]; decide)] at hc
        exact .inr ⟨.inl hko, c, lc, hc⟩ }

theorem call_go {C : Ora} {d : Nat} {A : Around} {a : Addr} {vals : List Value} {vs : List V} {l : List Env} {Q : Value → Shared → Prop} {E : Value → Shared → Prop} (fo : FnOk p f fn) (G : Gd p.G p.T s0 scr) (hP : ∀ a o, s0.heap.get? a = some o → a ≠ scr → P a o)
    (W : Wd w P s0 scr ι H s) (hl : A.frames = some l) (fr : ∀ env ∈ l, FrOne P s0 env) (ao : AOk A (d + 1)) (hc : CallOk p.prog p.G p.T C d) (ht : TryOk p.prog p.G p.T C d) (hf : FnAt s0.heap a f) (r : RepVs ι s.heap vals vs) (har : fn.arity = vs.length)
    (k : ∀ (cx : Cx) (A' : Around) (s₁ : Shared), cx.w = w → cx.P = P → cx.s0 = s0 → cx.scr = scr → cx.env.frame = some cx.env.locals → A'.frames = some (cx.env :: l) → At p (fnSc f.scope.names) C d cx A' → St cx ι (argsR vs) H s₁ → Mono ι s ι s₁ → Bnd (fnSc f.scope.names).lim (argsR vs) →
      wpAny (model p.prog w) A' (execs f.body cx.env) (fun fl s' => Q (match fl with | .ret v => v | _ => .none) s') (fun e s' => wpAny (model p.prog w) A' (leaving cx.env e) (fun _ s'' => E e s'') (fun e' s'' => E e' s'') s') s₁) :
    wpAny (model p.prog w) A (call (.ref a) vals) Q E s := by
  obtain ⟨args, hpar, hnd, hlen, hsl⟩ := fo.params
  have hfa := hf
  obtain ⟨o, pm, code, doc, go, do', hcode⟩ := hf
  have keep : ∀ b o, s0.heap.get? b = some o → b ≠ scr → s.heap.get? b = some o := fun b o e hne => (W.prot _ _ (hP _ _ e hne)).base e
  have hll : args.length = vals.length := by rw [r.length, ← har, hlen]
  have hl' : (args.map (·.arg)).length = vals.length := by simpa using hll
  have hap : (cellsFrom (s.heap.objs.size + 1) f.scope.names []).Pairwise fun x y => x.2 ≠ y.2 := comp_apart (scope := f.scope) s.heap rfl
  refine wpAny_call (codeAny_call_cells (binds := (args.map (·.arg)).zip vals) (by have := ao.dp; exact qp1 qc3 qs0 qv1 (qA (qA qv0 qs2) qk1) qv1 qt this) (keep _ _ go (G.notScr _ f hfa)) do' (G.lim' _ keep) (G.code _ _ hcode _ keep) rfl (by rw [hpar]; exact bind_plain hnd hll) rfl (fun x hx => ?_) (fun s₁ I => ?_) fo.co fo.gen fo.kind)
  · have hx1 : x.1 ∈ args.map (·.arg) := (List.of_mem_zip (a := x.1) (b := x.2) hx).1
    obtain ⟨i, hi⟩ := List.mem_iff_getElem?.mp hx1
    obtain ⟨k, l, hk2, _⟩ := fn_slot (hsl i x.1 hi)
    rcases hk2 with rfl | rfl
    · exact .inl l
    · refine .inr ⟨l, ?_⟩
      obtain ⟨c, hc⟩ := cellsFrom_has f.scope.names (s.heap.objs.size + 1) x.1 (mem_of_lookup l)
      obtain ⟨c', hc'⟩ := lookup_of_mem hc
      show ((cellsFrom (s.heap.objs.size + 1) f.scope.names []).lookup x.1).isSome = true
      rw [hc']; rfl
  · obtain ⟨S₁, M₁⟩ := call_st fo G hP W hnd hl' hsl r rfl I
    have cok := call_cxok (a := a) (pm := pm) (code := code) (doc := doc) fo G hP W hap
    have hfr : (A.deeper (callEnvC (Calls.docDef f.name f.params f.body f.scope pm code doc) s.heap.objs.size a)).frames = some (callEnvC (Calls.docDef f.name f.params f.body f.scope pm code doc) s.heap.objs.size a :: l) := Around.frames_deeper hl
    have at₁ : At p (fnSc f.scope.names) C d (callCx w P s0 scr (Calls.docDef f.name f.params f.body f.scope pm code doc) s.heap.objs.size a) (A.deeper (callEnvC (Calls.docDef f.name f.params f.body f.scope pm code doc) s.heap.objs.size a)) :=
      ⟨hc, ht, ⟨_, hfr, fun _ => ⟨l, rfl, rfl⟩, fun env he => by
        rcases List.mem_cons.mp he with rfl | he
        · exact ⟨(fun e => by rw [show (callEnvC (Calls.docDef f.name f.params f.body f.scope pm code doc) s.heap.objs.size a).scope.kind = f.scope.kind from rfl, fo.kind] at e; cases e), _, rfl, S₁.newL cok, .inl rfl⟩
        · obtain ⟨k1, L, k2, k3, k4⟩ := fr env he
          exact ⟨k1, L, k2, k3, .inr k4⟩⟩, cok, call_fit w P s0 scr (Calls.docDef f.name f.params f.body f.scope pm code doc) s.heap.objs.size a fo.free, G, ⟨ao.hd, by have := ao.dp; show A.depth + 1 + d < _; exact qp1 qc3 (qA (qA qs0 qv1) qk1) qv2 (qA (qA qv0 qs1) qk1) qv2 qt this, by have := ao.un; show A.units + 3 + 4 * d + 100 < _; exact qp1 qc3 (qA (qA (qA (qA qv0 qk3) (qM 4 qv1)) (qN 100)) qk1) qv2 (qA (qA (qA qv0 (qM 4 qs1)) (qN 100)) qk1) qv2 qt this⟩⟩
    have hb : Bnd (fnSc f.scope.names).lim (argsR vs) := fun i hi => by
      show vs[i]? = none
      rw [List.getElem?_eq_none_iff]
      refine Nat.le_of_not_lt fun hlt => ?_
      have hi' : i < (args.map (·.arg)).length := by rw [hl', r.length]; exact hlt
      obtain ⟨k, l, hk2, h4⟩ := fn_slot (hsl i _ (List.getElem?_eq_getElem hi'))
      simp [fnSc, compSc, sc0] at hi
      exact qf2 qc2 qs0 qv1 qv1 qv0 qt h4 hi
    exact k _ _ s₁ rfl rfl rfl rfl rfl hfr at₁ S₁ M₁ hb
end

 noncomputable def FnTry (p : Pg) (f : FnRec) (fn : Fn) : Prop := False
/-- all functions of the table -/
noncomputable def TabOk (p : Pg) (Φ : Nat → Option Fn) : Prop := ∀ k f fn, p.T k = some f → (Φ k = some fn → FnOk p f fn) ∧ (Φ (1000 + k) = some fn → FnTry p f fn)

theorem calls_ok {p : Pg} {Φ : Nat → Option Fn} (ok : TabOk p Φ) (d : Nat) : CallOk p.prog p.G p.T (Calls Φ d) d ∧ TryOk p.prog p.G p.T (Calls Φ d) d := by
  induction d with
  | zero => exact ⟨fun _ _ _ _ _ _ _ _ h => h.elim, fun _ _ _ _ _ _ _ _ _ h => h.elim⟩
  | succ d ih =>
    refine ⟨?_, ?_⟩
    · intro w P s0 scr ι H s A k f a vals vs Q E G hP W fr ao ht hf r h
      obtain ⟨fn, hΦ, har, hw⟩ := h
      have fo := (ok k f fn ht).1 hΦ
      obtain ⟨l, hl, fr⟩ := fr
      refine call_go fo G hP W hl fr ao ih.1 ih.2 hf r har fun cx A' s₁ e1 e2 e3 e4 _ _ at₁ S₁ M₁ hb => ?_
      subst e1; subst e2; subst e3; subst e4
      refine mono' (fo.body at₁ S₁ hb hw) fun fl s₂ ⟨o₂, ρ₂, ι₂, H₂, M₂, S₂, _, ho, q₂⟩ => ?_
      cases o₂ with
      | next =>
        cases fl with
        | next => exact ⟨.none, ι₂, H₂, M₁.trans M₂, S₂.wd, .none, q₂⟩
        | _ => exact ho.elim
      | ret v =>
        cases fl with
        | ret val => exact ⟨v, ι₂, H₂, M₁.trans M₂, S₂.wd, ho, q₂⟩
        | _ => exact ho.elim
    · intro w P s0 scr ι H s A k f a vals vs Q l G hP W hl fr ao ht hf r h
      obtain ⟨fn, hΦ, har, hw⟩ := h
      exact ((ok k f fn ht).2 hΦ).elim
end Tw
end

section
namespace Tw
open PySem PySem.SeqAt

section
variable {p : Pg} {sc : Sc}

end
end Tw
end

section
namespace Tw
open PySem PySem.SeqAt
end Tw
end

section
namespace Tw
open PySem PySem.SeqAt
end Tw
end

section
namespace Tw
open PySem PySem.SeqAt

/-! from the program's text to ours, with the proof -/
noncomputable def notSlice : Expr → Bool
  | .Slice .. => false
  | _ => true
theorem nosl_of {e : Expr} (h : notSlice e = true) : ∀ a b c q, e ≠ .Slice a b c q := fun a b c q x => by rw [x] at h; cases h
structure XP (p : Pg) (sc : Sc) (e : Expr) (e' : E) : Prop where
  sE : SndE p sc e e'
  sT : SndT p sc e e'
  star : ∀ es env, starEach (e :: es) env = (false, eval e env) :: starEach es env
  nosl : notSlice e = true
  set : ∀ env x, foldedSetIterable e env x = pure x
  marks : ∀ op, behindInMarks op e = false

abbrev RE (p : Pg) (sc : Sc) (e : Expr) := Option { e' : E // XP p sc e e' }
abbrev REs (p : Pg) (sc : Sc) (es : List Expr) := Option { es' : List E // SndEs p sc es es' }

noncomputable def bopOf : (op : Operator) → Option { b : Bop // b.py = op }
  | .Add => some ⟨.add, rfl⟩ | .Sub => some ⟨.sub, rfl⟩ | .Mult => some ⟨.mul, rfl⟩ | .FloorDiv => some ⟨.fdiv, rfl⟩ | .Mod => some ⟨.mod, rfl⟩ | _ => none
noncomputable def cmpOf : (op : CmpOp) → { c : Cmp // c.py = op }
  | .Eq => ⟨.eq, rfl⟩ | .NotEq => ⟨.ne, rfl⟩ | .Lt => ⟨.lt, rfl⟩ | .LtE => ⟨.le, rfl⟩ | .Gt => ⟨.gt, rfl⟩ | .GtE => ⟨.ge, rfl⟩ | .Is => ⟨.is, rfl⟩ | .IsNot => ⟨.isNot, rfl⟩ | .In => ⟨.isIn, rfl⟩ | .NotIn => ⟨.notIn, rfl⟩
noncomputable def mtOf (x : Str) (args : Nat) : Option { m : Mt // m.nm = x } :=
  if h : Mt.nm .append = x then some ⟨.append, h⟩
  else if h : Mt.nm .reverse = x then some ⟨.reverse, h⟩
  else if h : Mt.nm .clear = x then some ⟨.clear, h⟩
  else if h : Mt.nm .join = x then some ⟨.join, h⟩
  else if h : Mt.nm .pop = x then (if args = 0 then some ⟨.pop, h⟩ else some ⟨.dpop, h⟩)
  else if h : Mt.nm .index = x then some ⟨.index, h⟩
  else if h : Mt.nm .update = x then some ⟨.update, h⟩
  else if h : Mt.nm .get = x then some ⟨.get, h⟩
  else if h : Mt.nm .startswith = x then some ⟨.startswith, h⟩
  else none

section
variable {p : Pg} {sc : Sc}
noncomputable def trEs (tr : (e : Expr) → RE p sc e) : (es : List Expr) → REs p sc es
  | [] => some ⟨[], sndEs_nil⟩
  | e :: es => match tr e with
    | none => none
    | some x => match trEs tr es with
      | none => none
      | some xs => some ⟨x.1 :: xs.1, sndEs_cons (x.2.star es) x.2.sE xs.2⟩
noncomputable def trChain (and : Bool) (tr : (e : Expr) → RE p sc e) : (es : List Expr) → Option { e' : E // Chain p sc and es e' }
  | [] => none
  | e :: es => match es with
    | [] => match tr e with
      | none => none
      | some x => some ⟨x.1, .one x.2.sE x.2.sT⟩
    | e₂ :: r => match tr e with
      | none => none
      | some x => match trChain and tr (e₂ :: r) with
        | none => none
        | some y => some ⟨if and then .and x.1 y.1 else .or x.1 y.1, .more x.2.sE x.2.sT y.2⟩
noncomputable def trO (tr : (e : Expr) → RE p sc e) : (e : Option Expr) → Option { e' : E // SndO p sc e e' }
  | none => some ⟨.lit .none, sndO_none⟩
  | some e => match tr e with
    | none => none
    | some x => some ⟨x.1, sndO_some x.2.sE⟩
noncomputable def attrOk : (o : Expr) → Option (PLift (∀ nm env, attributeBase o nm env (eval o env) = eval o env))
  | .Name .. => some ⟨fun _ _ => rfl⟩
  | .Subscript .. => some ⟨fun _ _ => rfl⟩
  | .Constant .. => some ⟨fun _ _ => rfl⟩
  | _ => none
noncomputable def compOkB (sc : Sc) (scope : Scope) : Bool := scope.kind == .function && scope.names.all fun n => scope.names.lookup n.1 == some n.2 && plainName n.1 && (n.2 != .free || sc.ck n.1)
theorem compOk_of {scope : Scope} (h : compOkB sc scope = true) : CompOk sc scope := by
  simp only [compOkB, Bool.and_eq_true, beq_iff_eq, List.all_eq_true] at h
  obtain ⟨h1, h2⟩ := h
  refine ⟨h1, fun x k hm => (h2 _ hm).1.1, fun x k hm => (h2 _ hm).1.2, fun x hm => ?_⟩
  have := (h2 _ hm).2
  simpa using this
end

noncomputable def trNames (sc : Sc) : (es : List Expr) → Option { is : List Nat // NamesAre sc es is }
  | [] => some ⟨[], .nil⟩
  | .Name x pos :: es => match h : sc.nm x with
    | none => none
    | some i => if hs : sc.st x = true then (match trNames sc es with
      | none => none
      | some is => some ⟨i :: is.1, .cons h hs is.2⟩) else none
  | _ => none
noncomputable def trG (p : Pg) (sc : Sc) : (t : Expr) → Option { t' : Tgt // SndG p sc t t' }
  | .Name x pos => match h : sc.nm x with
    | none => none
    | some i => if hs : sc.st x = true then some ⟨.name i, sndG_name h hs⟩ else none
  | .Tuple es k pos => match trNames sc es with
    | none => none
    | some is => some ⟨.tup is.1, sndG_tup is.2⟩
  | _ => none

noncomputable def trC {p : Pg} {sc : Sc} (tr : (e : Expr) → RE p sc e) : (ifs : List Expr) → Option { c : Option E // SndC p sc ifs c }
  | [] => some ⟨none, .none⟩
  | [c] => match tr c with
    | none => none
    | some x => some ⟨some x.1, .one x.2.sT⟩
  | _ => none


section
variable {p : Pg} {sc : Sc} {pos : Pos} {k : Nat}
theorem xp_none : XP p sc (.Constant .none k pos) (.lit .none) := ⟨snd_none, sndT_value (e' := .lit .none) snd_none (fun _ _ => rfl) fun _ _ _ _ h => h, fun _ _ => rfl, rfl, fun _ _ => rfl, fun _ => rfl⟩
theorem xp_bool {b : Bool} : XP p sc (.Constant (.bool b) k pos) (.lit (.bool b)) := ⟨snd_bool, sndT_value (e' := .lit (.bool b)) snd_bool (fun _ _ => rfl) fun _ _ _ _ h => h, fun _ _ => rfl, rfl, fun _ _ => rfl, fun _ => rfl⟩
theorem xp_int {i : Int} : XP p sc (.Constant (.int i) k pos) (.lit (.int i)) := ⟨snd_int, sndT_value (e' := .lit (.int i)) snd_int (fun _ _ => rfl) fun _ _ _ _ h => h, fun _ _ => rfl, rfl, fun _ _ => rfl, fun _ => rfl⟩
theorem xp_str {x : Str} (h : x.length ≤ SZ) : XP p sc (.Constant (.str x) k pos) (.lit (.str x.cps.toList)) := ⟨snd_str h, sndT_value (e' := .lit (.str x.cps.toList)) (snd_str h) (fun _ _ => rfl) fun _ _ _ _ h => h, fun _ _ => rfl, rfl, fun _ _ => rfl, fun _ => rfl⟩
theorem xp_var {x : Str} {i : Nat} (h : sc.nm x = some i) : XP p sc (.Name x pos) (.var i) := ⟨snd_var h, sndT_value (e' := .var i) (snd_var h) (fun _ _ => rfl) fun _ _ _ _ h => h, fun _ _ => rfl, rfl, fun _ _ => rfl, fun _ => rfl⟩
theorem xp_const {x : Str} {i : Int} (hk : sc.gk x = true) (hg : p.G x = some (.const i)) : XP p sc (.Name x pos) (.lit (.int i)) := ⟨snd_const hk hg, sndT_value (e' := .lit (.int i)) (snd_const hk hg) (fun _ _ => rfl) fun _ _ _ _ h => h, fun _ _ => rfl, rfl, fun _ _ => rfl, fun _ => rfl⟩
theorem xp_bin {l r : Expr} {op : Operator} {o : Bop} {a b : E} (ho : o.py = op) (h1 : XP p sc l a) (h2 : XP p sc r b) : XP p sc (.BinOp l op r pos) (.bin o a b) := by
  subst ho; exact ⟨snd_bin h1.sE h2.sE, sndT_never (e' := .bin o a b) fun _ _ _ _ h => h, fun _ _ => rfl, rfl, fun _ _ => rfl, fun _ => rfl⟩
theorem xp_neg {l : Expr} {a : E} (h1 : XP p sc l a) : XP p sc (.UnaryOp .USub l pos) (.neg a) := ⟨snd_neg h1.sE, sndT_never (e' := .neg a) fun _ _ _ _ h => h, fun _ _ => rfl, rfl, fun _ _ => rfl, fun _ => rfl⟩
theorem xp_not {l : Expr} {a : E} (h1 : XP p sc l a) : XP p sc (.UnaryOp .Not l pos) (.not a) := ⟨snd_not h1.sE, sndT_not h1.sT, fun _ _ => rfl, rfl, fun _ _ => rfl, fun _ => rfl⟩
theorem xp_chain {and : Bool} {op : BoolOp} {es : List Expr} {e' : E} (ho : (if and then BoolOp.And else BoolOp.Or) = op) (c : Chain p sc and es e') : XP p sc (.BoolOp op es pos) e' := by
  subst ho; exact ⟨snd_chain c, sndT_chain c, fun _ _ => rfl, rfl, fun _ _ => rfl, fun _ => rfl⟩
theorem xp_cmp {l r : Expr} {op : CmpOp} {o : Cmp} {a b : E} (ho : o.py = op) (h1 : XP p sc l a) (h2 : XP p sc r b) : XP p sc (.Compare l [op] [r] pos) (.cmp o a b) := by
  subst ho; exact ⟨snd_cmp h1.sE h2.sE (h2.marks _), sndT_cmp h1.sE h2.sE (h2.marks _), fun _ _ => rfl, rfl, fun _ _ => rfl, fun _ => rfl⟩
theorem xp_cmp2 {l r r₂ : Expr} {op op₂ : CmpOp} {o o₂ : Cmp} {a b c : E} (ho : o.py = op) (ho₂ : o₂.py = op₂) (h1 : XP p sc l a) (h2 : XP p sc r b) (h3 : XP p sc r₂ c) : XP p sc (.Compare l [op, op₂] [r, r₂] pos) (.cmp2 o o₂ a b c) := by
  subst ho; subst ho₂; exact ⟨snd_cmp2 h1.sE h2.sE h3.sE (h3.marks _), sndT_cmp2 h1.sE h2.sE h3.sE (h3.marks _), fun _ _ => rfl, rfl, fun _ _ => rfl, fun _ => rfl⟩
theorem xp_slice {l : Expr} {lo hi : Option Expr} {q : Pos} {a b c : E} (h1 : XP p sc l a) (h2 : SndO p sc lo b) (h3 : SndO p sc hi c) : XP p sc (.Subscript l (.Slice lo hi none q) pos) (.slice a b c) :=
  ⟨snd_slice h1.sE h2 h3, sndT_never (e' := .slice a b c) fun _ _ _ _ h => h, fun _ _ => rfl, rfl, fun _ _ => rfl, fun _ => rfl⟩
theorem xp_sub {l r : Expr} {a b : E} (h1 : XP p sc l a) (h2 : XP p sc r b) : XP p sc (.Subscript l r pos) (.sub a b) :=
  ⟨snd_sub h1.sE h2.sE (nosl_of h2.nosl), sndT_never (e' := .sub a b) fun _ _ _ _ h => h, fun _ _ => rfl, rfl, fun _ _ => rfl, fun _ => rfl⟩
theorem xp_tup {es : List Expr} {es' : List E} (h1 : SndEs p sc es es') (hn : es.length ≤ 1000) : XP p sc (.Tuple es k pos) (.tup es') := ⟨snd_tup h1 hn, sndT_never (e' := .tup es') fun _ _ _ _ h => h, fun _ _ => rfl, rfl, fun _ _ => rfl, fun _ => rfl⟩
theorem xp_list {es : List Expr} {es' : List E} (h1 : SndEs p sc es es') (hn : es.length ≤ 1000) : XP p sc (.List es pos) (.list es') := ⟨snd_list h1 hn, sndT_never (e' := .list es') fun _ _ _ _ h => h, fun _ _ => rfl, rfl, fun _ _ => rfl, fun _ => rfl⟩
theorem xp_dict0 : XP p sc (.Dict [] [] pos) .dict0 := ⟨snd_dict0, sndT_never (e' := .dict0) fun _ _ _ _ h => h, fun _ _ => rfl, rfl, fun _ _ => rfl, fun _ => rfl⟩
theorem xp_dict1 {x y : Expr} {a b : E} (h1 : XP p sc x a) (h2 : XP p sc y b) : XP p sc (.Dict [some x] [y] pos) (.dict1 a b) := ⟨snd_dict1 h1.sE h2.sE, sndT_never (e' := .dict1 a b) fun _ _ _ _ h => h, fun _ _ => rfl, rfl, fun _ _ => rfl, fun _ => rfl⟩
theorem xp_comp {elt target iter : Expr} {ifs : List Expr} {scope : Scope} {elt' iter' : E} {tgt : Tgt} {cond : Option E} {z : Int} (hz : z = 0) (hi : XP p sc iter iter') (ok : compOkB sc scope = true) (hg : SndG p (compSc sc scope.names) target tgt) (hc : SndC p (compSc sc scope.names) ifs cond)
    (he : XP p (compSc sc scope.names) elt elt') (hsl : tgt.slots.all (fun i => decide (sc.lim ≤ i)) = true) : XP p sc (.ListComp elt [⟨target, iter, ifs, z⟩] scope pos) (.comp elt' tgt iter' cond) := by
  subst hz
  exact ⟨snd_comp hi.sE (compOk_of ok) hg hc he.sE (by simpa using hsl) hi.set, sndT_never (e' := .comp elt' tgt iter' cond) fun _ _ _ _ h => h, fun _ _ => rfl, rfl, fun _ _ => rfl, fun _ => rfl⟩
theorem xp_isinst {x y : Str} {np ny : Pos} {e : Expr} {a : E} {t : Ty} {g : Gl} (hk : sc.gk x = true) (hg : p.G x = some .isinst) (hk' : sc.gk y = true) (hg' : p.G y = some g) (hty : tyOf g = some t) (h1 : XP p sc e a) : XP p sc (.Call (.Name x np) [e, .Name y ny] [] pos) (.isinst a t) :=
  ⟨snd_isinst hk hg hk' hg' hty (h1.star _) h1.sE, sndT_value (e' := .isinst a t) (snd_isinst hk hg hk' hg' hty (h1.star _) h1.sE) (fun _ _ => rfl) fun _ _ _ _ h => h, fun _ _ => rfl, rfl, fun _ _ => rfl, fun _ => rfl⟩
theorem xp_call {x : Str} {np : Pos} {es : List Expr} {es' : List E} {j : Nat} (hk : sc.gk x = true) (hg : p.G x = some (.fn j)) (h1 : SndEs p sc es es') : XP p sc (.Call (.Name x np) es [] pos) (.call j es') :=
  ⟨snd_call hk hg h1, sndT_value (e' := .call j es') (snd_call hk hg h1) (fun _ _ => rfl) fun _ _ _ _ h => h, fun _ _ => rfl, rfl, fun _ _ => rfl, fun _ => rfl⟩
theorem xp_bi {x : Str} {np : Pos} {es : List Expr} {es' : List E} {b : Bi} (hk : sc.gk x = true) (hg : p.G x = some (.bi b)) (h1 : SndEs p sc es es') : XP p sc (.Call (.Name x np) es [] pos) (.bi b es') :=
  ⟨snd_bi hk hg h1, sndT_never (e' := .bi b es') fun _ _ _ _ h => h, fun _ _ => rfl, rfl, fun _ _ => rfl, fun _ => rfl⟩
theorem xp_meth {o : Expr} {x : Str} {apos : Pos} {es : List Expr} {m : Mt} {a : E} {es' : List E} (hm : m.nm = x) (ho : ∀ nm env, attributeBase o nm env (eval o env) = eval o env) (hl : (apos.endLine == pos.line) = true) (hn : es.length < 29) (h0 : XP p sc o a) (h1 : SndEs p sc es es') :
    XP p sc (.Call (.Attribute o x apos) es [] pos) (.meth m a es') := by
  subst hm
  exact ⟨snd_meth (ho _) hl hn h0.sE h1, sndT_value (e' := .meth m a es') (snd_meth (ho _) hl hn h0.sE h1) (fun _ _ => rfl) fun _ _ _ _ h => h, fun _ _ => rfl, rfl, fun _ _ => rfl, fun _ => rfl⟩
end

 set_option smartUnfolding false in
noncomputable def trE (p : Pg) : (n : Nat) → (sc : Sc) → (e : Expr) → RE p sc e
  | 0, _, _ => none
  | n + 1, sc, e => match e with
    | .Constant .none k pos => some ⟨.lit .none, xp_none⟩
    | .Constant (.bool b) k pos => some ⟨.lit (.bool b), xp_bool⟩
    | .Constant (.int i) k pos => some ⟨.lit (.int i), xp_int⟩
    | .Constant (.str x) k pos => if h : x.length ≤ SZ then some ⟨.lit (.str x.cps.toList), xp_str h⟩ else none
    | .Name x pos => match h : sc.nm x with
      | some i => some ⟨.var i, xp_var h⟩
      | none => if hk : sc.gk x = true then (match hg : p.G x with
        | some (.const i) => some ⟨.lit (.int i), xp_const hk hg⟩
        | _ => none) else none
    | .BinOp l op r pos => match bopOf op, trE p n sc l, trE p n sc r with
      | some o, some a, some b => some ⟨.bin o.1 a.1 b.1, xp_bin o.2 a.2 b.2⟩
      | _, _, _ => none
    | .UnaryOp .USub l pos => match trE p n sc l with
      | some a => some ⟨.neg a.1, xp_neg a.2⟩
      | _ => none
    | .UnaryOp .Not l pos => match trE p n sc l with
      | some a => some ⟨.not a.1, xp_not a.2⟩
      | _ => none
    | .BoolOp .And es pos => match trChain true (trE p n sc) es with
      | some c => some ⟨c.1, xp_chain rfl c.2⟩
      | none => none
    | .BoolOp .Or es pos => match trChain false (trE p n sc) es with
      | some c => some ⟨c.1, xp_chain rfl c.2⟩
      | none => none
    | .Compare l [op] [r] pos => match trE p n sc l, trE p n sc r with
      | some a, some b => some ⟨.cmp (cmpOf op).1 a.1 b.1, xp_cmp (cmpOf op).2 a.2 b.2⟩
      | _, _ => none
    | .Compare l [op, op₂] [r, r₂] pos => match trE p n sc l, trE p n sc r, trE p n sc r₂ with
      | some a, some b, some c => some ⟨.cmp2 (cmpOf op).1 (cmpOf op₂).1 a.1 b.1 c.1, xp_cmp2 (cmpOf op).2 (cmpOf op₂).2 a.2 b.2 c.2⟩
      | _, _, _ => none
    | .Subscript l (.Slice lo hi none q) pos => match trE p n sc l, trO (trE p n sc) lo, trO (trE p n sc) hi with
      | some a, some b, some c => some ⟨.slice a.1 b.1 c.1, xp_slice a.2 b.2 c.2⟩
      | _, _, _ => none
    | .Subscript l r pos => match trE p n sc l, trE p n sc r with
      | some a, some b => some ⟨.sub a.1 b.1, xp_sub a.2 b.2⟩
      | _, _ => none
    | .Tuple es k pos => match trEs (trE p n sc) es with
      | some xs => if h : es.length ≤ 1000 then some ⟨.tup xs.1, xp_tup xs.2 h⟩ else none
      | _ => none
    | .List es pos => match trEs (trE p n sc) es with
      | some xs => if h : es.length ≤ 1000 then some ⟨.list xs.1, xp_list xs.2 h⟩ else none
      | _ => none
    | .Dict [] [] pos => some ⟨.dict0, xp_dict0⟩
    | .Dict [some k] [v] pos => match trE p n sc k, trE p n sc v with
      | some a, some b => some ⟨.dict1 a.1 b.1, xp_dict1 a.2 b.2⟩
      | _, _ => none
    | .ListComp elt [⟨target, iter, ifs, z⟩] scope pos => match trE p n sc iter, trG p (compSc sc scope.names) target, trC (trE p n (compSc sc scope.names)) ifs, trE p n (compSc sc scope.names) elt with
      | some i, some t, some c, some e => if hz : z = 0 then (if h : compOkB sc scope = true then (if hs : t.1.slots.all (fun i => decide (sc.lim ≤ i)) = true then
          some ⟨.comp e.1 t.1 i.1 c.1, xp_comp hz i.2 h t.2 c.2 e.2 hs⟩ else none) else none) else none
      | _, _, _, _ => none
    | .Call (.Name x np) es [] pos => if hk : sc.gk x = true then (match hg : p.G x with
        | some .isinst => (match es with
          | [e, .Name y ny] => if hk' : sc.gk y = true then (match hg' : p.G y, trE p n sc e with
            | some g, some a => (match hty : tyOf g with
              | some t => some ⟨.isinst a.1 t, xp_isinst hk hg hk' hg' hty a.2⟩
              | none => none)
            | _, _ => none) else none
          | _ => none)
        | some (.fn k) => (match trEs (trE p n sc) es with
          | some xs => some ⟨.call k xs.1, xp_call hk hg xs.2⟩
          | none => none)
        | some (.bi b) => (match trEs (trE p n sc) es with
          | some xs => some ⟨.bi b xs.1, xp_bi hk hg xs.2⟩
          | none => none)
        | _ => none) else none
    | .Call (.Attribute o x apos) es [] pos => match trE p n sc o, trEs (trE p n sc) es, mtOf x es.length, attrOk o with
      | some a, some xs, some m, some ⟨ao⟩ => if hl : (apos.endLine == pos.line) = true then (if hn : es.length < 29 then
          some ⟨.meth m.1 a.1 xs.1, xp_meth m.2 ao hl hn a.2 xs.2⟩ else none) else none
      | _, _, _, _ => none
    | _ => none
end Tw
end

section
namespace Tw
open PySem PySem.SeqAt

noncomputable def swapOk : (e : Expr) → Option (PLift (∀ env l t, swapsWith e t l env = pure false))
  | .Constant .. => some ⟨fun _ _ _ => rfl⟩
  | .Name .. => some ⟨fun _ _ _ => rfl⟩
  | .BinOp .. => some ⟨fun _ _ _ => rfl⟩
  | .UnaryOp .. => some ⟨fun _ _ _ => rfl⟩
  | .BoolOp .. => some ⟨fun _ _ _ => rfl⟩
  | .Compare .. => some ⟨fun _ _ _ => rfl⟩
  | .Subscript .. => some ⟨fun _ _ _ => rfl⟩
  | .Tuple .. => some ⟨fun _ _ _ => rfl⟩
  | .List .. => some ⟨fun _ _ _ => rfl⟩
  | .Dict .. => some ⟨fun _ _ _ => rfl⟩
  | .Call .. => some ⟨fun _ _ _ => rfl⟩
  | _ => none
noncomputable def storesOk (t : List Expr) (k : Nat) (q : Pos) : (e : Expr) → Option (PLift (∀ env, swappedStores [.Tuple t k q] e env = pure none))
  | .Name .. => some ⟨fun _ => rfl⟩
  | .Subscript .. => some ⟨fun _ => rfl⟩
  | .Call .. => some ⟨fun _ => rfl⟩
  | _ => none

section
variable {p : Pg} {sc : Sc}
noncomputable def trB (tr : (s : Stmt) → Option { s' : S // SndS p sc s s' }) : (ss : List Stmt) → Option { ss' : List S // SndB p sc ss ss' }
  | [] => some ⟨[], sndB_nil⟩
  | s :: ss => match tr s with
    | none => none
    | some x => match trB tr ss with
      | none => none
      | some xs => some ⟨x.1 :: xs.1, sndB_cons x.2 xs.2⟩
theorem xs_comp {x : Str} {i : Nat} {xp ap pos : Pos} {elt target iter : Expr} {ifs : List Expr} {scope : Scope} {elt' iter' : E} {tgt : Tgt} {cond : Option E} {z : Int} (hz : z = 0) (hx : sc.nm x = some i) (hst : sc.st x = true) (hi : XP p sc iter iter') (ok : compOkB sc scope = true)
    (hg : SndG p (compSc sc scope.names) target tgt) (hc : SndC p (compSc sc scope.names) ifs cond) (he : XP p (compSc sc scope.names) elt elt') (hsl : tgt.slots.all (fun i => decide (sc.lim ≤ i)) = true) :
    SndS p sc (.Assign [.Name x xp] (.ListComp elt [⟨target, iter, ifs, z⟩] scope pos) ap) (.assign (.name i) (.comp elt' tgt iter' cond)) := by
  subst hz
  exact snd_assign_comp hx hst hi.sE (compOk_of ok) hg hc he.sE (by simpa using hsl) hi.set
theorem xs_expr {e : Expr} {e' : E} {pos : Pos} (h1 : XP p sc e e') (hs : ∀ env l t, swapsWith e t l env = pure false) : SndS p sc (.Expr e pos) (.expr e') := snd_expr h1.sE fun env l => hs env l none
theorem xs_assign {x : Str} {i : Nat} {xp pos : Pos} {e : Expr} {e' : E} (hx : sc.nm x = some i) (hst : sc.st x = true) (h1 : XP p sc e e') (hs : ∀ env l t, swapsWith e t l env = pure false) : SndS p sc (.Assign [.Name x xp] e pos) (.assign (.name i) e') :=
  snd_assign h1.sE hx hst fun env l t => hs env l (some t)
theorem xs_tup {es : List Expr} {k : Nat} {tp pos : Pos} {e : Expr} {e' : E} {tgt : Tgt} (h1 : XP p sc e e') (h2 : SndG p sc (.Tuple es k tp) tgt) (hs : ∀ env l t, swapsWith e t l env = pure false) (hw : ∀ env, swappedStores [.Tuple es k tp] e env = pure none) :
    SndS p sc (.Assign [.Tuple es k tp] e pos) (.assign tgt e') := snd_assign_tup h1.sE h2 (fun env l t => hs env l (some t)) hw
theorem xs_store {o i e : Expr} {pos pos' : Pos} {o' i' e' : E} (h1 : XP p sc e e') (h2 : XP p sc o o') (h3 : XP p sc i i') (hs : ∀ env l t, swapsWith e t l env = pure false) : SndS p sc (.Assign [.Subscript o i pos'] e pos) (.store o' i' e') :=
  snd_store h1.sE h2.sE h3.sE fun env l t => hs env l (some t)
theorem xs_ite {t : Expr} {a b : List Stmt} {pos : Pos} {t' : E} {a' b' : List S} (h1 : XP p sc t t') (h2 : SndB p sc a a') (h3 : SndB p sc b b') : SndS p sc (.If t a b pos) (.ite t' a' b') := snd_ite h1.sT h2 h3
theorem xs_while {t : Expr} {b : List Stmt} {pos : Pos} {t' : E} {b' : List S} (h1 : XP p sc t t') (h2 : SndB p sc b b') : SndS p sc (.While t b [] pos) (.while t' b') := snd_while h1.sT h2
theorem xs_for {t it : Expr} {b : List Stmt} {pos : Pos} {tgt : Tgt} {it' : E} {b' : List S} (h1 : XP p sc it it') (hg : SndG p sc t tgt) (h2 : SndB p sc b b') : SndS p sc (.For t it b [] pos) (.for tgt it' b') := snd_for h1.sE hg h2 h1.set
theorem xs_ret {e : Expr} {e' : E} {pos : Pos} (h1 : XP p sc e e') : SndS p sc (.Return (some e) pos) (.ret (some e')) := snd_ret h1.sE


noncomputable def trAssignComp (p : Pg) (n : Nat) (sc : Sc) (x : Str) (xp ap : Pos) (elt target iter : Expr) (ifs : List Expr) (z : Int) (scope : Scope) (pos : Pos) : Option { s' : S // SndS p sc (.Assign [.Name x xp] (.ListComp elt [⟨target, iter, ifs, z⟩] scope pos) ap) s' } :=
  match hx : sc.nm x with
  | none => none
  | some i => if hst : sc.st x = true then (match trE p n sc iter, trG p (compSc sc scope.names) target, trC (trE p n (compSc sc scope.names)) ifs, trE p n (compSc sc scope.names) elt with
      | some it, some t, some c, some e => if hz : z = 0 then (if h : compOkB sc scope = true then (if hs : t.1.slots.all (fun i => decide (sc.lim ≤ i)) = true then
          some ⟨.assign (.name i) (.comp e.1 t.1 it.1 c.1), xs_comp hz hx hst it.2 h t.2 c.2 e.2 hs⟩ else none) else none) else none
      | _, _, _, _ => none) else none
end

 set_option smartUnfolding false in
noncomputable def trS (p : Pg) : (n : Nat) → (sc : Sc) → (s : Stmt) → Option { s' : S // SndS p sc s s' }
  | 0, _, _ => none
  | n + 1, sc, s => match s with
    | .Return none pos => some ⟨.ret none, snd_ret0⟩
    | .Return (some e) pos => match trE p n sc e with
      | some a => some ⟨.ret (some a.1), xs_ret a.2⟩
      | none => none
    | .Raise e c pos => some ⟨.raise, snd_raise⟩
    | .Expr e pos => match trE p n sc e, swapOk e with
      | some a, some ⟨h⟩ => some ⟨.expr a.1, xs_expr a.2 h⟩
      | _, _ => none
    | .If t a b pos => match trE p n sc t, trB (trS p n sc) a, trB (trS p n sc) b with
      | some t, some a, some b => some ⟨.ite t.1 a.1 b.1, xs_ite t.2 a.2 b.2⟩
      | _, _, _ => none
    | .While t b [] pos => match trE p n sc t, trB (trS p n sc) b with
      | some t, some b => some ⟨.while t.1 b.1, xs_while t.2 b.2⟩
      | _, _ => none
    | .For t it b [] pos => match trG p sc t, trE p n sc it, trB (trS p n sc) b with
      | some t, some it, some b => some ⟨.for t.1 it.1 b.1, xs_for it.2 t.2 b.2⟩
      | _, _, _ => none
    | .Assign [.Name x xp] e ap => match e with
      | .ListComp elt [⟨target, iter, ifs, z⟩] scope pos => trAssignComp p n sc x xp ap elt target iter ifs z scope pos
      | e => match hx : sc.nm x with
        | none => none
        | some i => if hst : sc.st x = true then (match trE p n sc e, swapOk e with
          | some a, some ⟨h⟩ => some ⟨.assign (.name i) a.1, xs_assign hx hst a.2 h⟩
          | _, _ => none) else none
    | .Assign [.Tuple es k tp] e ap => match trG p sc (.Tuple es k tp), trE p n sc e, swapOk e, storesOk es k tp e with
      | some t, some a, some ⟨h⟩, some ⟨h'⟩ => some ⟨.assign t.1 a.1, xs_tup a.2 t.2 h h'⟩
      | _, _, _, _ => none
    | .Assign [.Subscript o i pos'] e ap => match trE p n sc o, trE p n sc i, trE p n sc e, swapOk e with
      | some o, some i, some e, some ⟨h⟩ => some ⟨.store o.1 i.1 e.1, xs_store e.2 o.2 i.2 h⟩
      | _, _, _, _ => none
    | _ => none

noncomputable def fnOkB (f : FnRec) : Bool :=
  f.scope.kind == .function && !f.scope.isCoroutine && !f.scope.isGenerator && f.scope.names.all (fun n => f.scope.names.lookup n.1 == some n.2 && plainName n.1 && n.2 != .free)
/-- names at their own slots, from k on -/
noncomputable def slotsOk (nm : Str → Option Nat) : Nat → List Arg → Bool
  | _, [] => true
  | k, a :: r => nm a.arg == some k && slotsOk nm (k + 1) r
theorem slotsOk_at {nm : Str → Option Nat} : ∀ {args : List Arg} {k : Nat}, slotsOk nm k args = true → ∀ (i : Nat) x, (args.map (·.arg))[i]? = some x → nm x = some (k + i)
  | [], _, _, _, _, h => by simp at h
  | a :: r, k, h, i, x, hx => by
    simp only [slotsOk, Bool.and_eq_true, beq_iff_eq] at h
    cases i with
    | zero => simp at hx; subst hx; exact h.1
    | succ i => have := slotsOk_at h.2 i x (by simpa using hx); rw [this]; congr 1; exact Nat.le_antisymm (qp0 qc2 (qA qs0 qv1) (qA qv0 qs1) qt ) (qp0 qc2 (qA qv0 qs1) (qA qs0 qv1) qt )
theorem slotsOk_nodup {nm : Str → Option Nat} : ∀ {args : List Arg} {k : Nat}, slotsOk nm k args = true → (args.map (·.arg)).Nodup
  | [], _, _ => by simp
  | a :: r, k, h => by
    have h0 := h
    simp only [slotsOk, Bool.and_eq_true, beq_iff_eq] at h
    rw [List.map_cons, List.nodup_cons]
    refine ⟨fun hm => ?_, slotsOk_nodup h.2⟩
    obtain ⟨i, hi⟩ := List.mem_iff_getElem?.mp hm
    have := slotsOk_at h.2 i _ hi
    rw [h.1] at this
    injection this with this
    exact qf1 qc2 (qA qs0 qv1) qv0 qt (qi this)
theorem fnOk_of {p : Pg} {f : FnRec} {args : List Arg} {b : List S} (hb : SndB p (fnSc f.scope.names) f.body b) (h : fnOkB f = true) (hp : f.params = ⟨[], args, none, [], [], none, []⟩) (hs : slotsOk (fnSc f.scope.names).nm 0 args = true) : FnOk p f ⟨args.length, b⟩ := by
  simp only [fnOkB, Bool.and_eq_true, beq_iff_eq, List.all_eq_true, Bool.not_eq_true'] at h
  obtain ⟨⟨⟨h1, h2⟩, h3⟩, h4⟩ := h
  refine ⟨⟨args, hp, slotsOk_nodup hs, rfl, fun i x hx => by simpa using slotsOk_at hs i x hx⟩, h1, h2, h3, fun x k hm => (h4 _ hm).1.1, fun x k hm => (h4 _ hm).1.2, fun x hm => ?_, hb⟩
  have := (h4 _ hm).2
  simp at this

noncomputable def trF (p : Pg) (n : Nat) (f : FnRec) : Option { fn : Fn // FnOk p f fn } :=
  match trB (trS p n (fnSc f.scope.names)) f.body with
  | none => none
  | some b => if h : fnOkB f = true then (match hp : f.params with
    | ⟨[], args, none, [], [], none, []⟩ => if hs : slotsOk (fnSc f.scope.names).nm 0 args = true then some ⟨⟨args.length, b.1⟩, fnOk_of b.2 h hp hs⟩ else none
    | _ => none) else none
end Tw
end

section
namespace Tw
open PySem PySem.W PyProof.Rows

noncomputable def tabOf (q : Program) (names : List Str) : Tab := fun k => match names[k]? with
  | none => none
  | some x => ((recsOf q).find? (fun d => d.name == x)).map fun d => ⟨d.name, d.params, d.body, d.scope⟩

noncomputable def biTab : List (Str × Gl) := [("len", .bi .len), ("range", .bi .range), ("list", .bi .list), ("dict", .bi .dict), ("sorted", .bi .sorted), ("int", .bi .int), ("min", .bi .min), ("max", .bi .max), ("isinstance", .isinst), ("bool", .ty .bool), ("tuple", .ty .tuple), ("str", .ty .str)]
noncomputable def glV : Gl → Value
  | .bi b => b.py
  | .ty t => t.py
  | _ => .builtin "isinstance"
noncomputable def glOf (T : Tab) (names : List Str) : Names := fun x => match biTab.lookup x with
  | some g => some g
  | none => match names.findIdx? (· == x) with
    | some k => if (T k).isSome then some (.fn k) else none
    | none =>
      if x == "MOST_STATES" then some (.const 100) else if x == "MOST_MOVES" then some (.const 1000) else none

theorem bi_boot : biTab.all (fun e => decide (bootBuiltins e.1 = some (glV e.2))) = true := by decide +kernel
theorem bi_none : biTab.all (fun e => match e.2 with | .bi _ => true | .isinst => true | .ty _ => true | _ => false) = true := by decide +kernel

noncomputable def freeB (q : Program) (loose : List Str) : Bool := biTab.all fun e =>
  !(startupNames.contains e.1) && !(loose.contains e.1) && !(((recsOf q).map (·.name)).contains e.1) && !(((litsOf q).map (·.1)).contains e.1) && !(((clssOf q loose).map (·.name)).contains e.1) && e.1 != "__name__"

theorem names_gl {q : Program} {loose : List Str} {mean : ExcName → Option Value} {mg mb : Str → Option Value} {h : Heap} {names : List Str} (T : Top q loose mean mg mb h) (hf : freeB q loose = true)
    (c1 : valOf q "MOST_STATES" = some (.int 100)) (c2 : valOf q "MOST_MOVES" = some (.int 1000))
    : ∀ x g, glOf (tabOf q names) names x = some g → IsGl (tabOf q names) h mg mb x g := by
  intro x g hg
  unfold glOf at hg
  split at hg
  · rename_i g' hl
    cases hg
    have hm := mem_of_lookup hl
    have h1 := List.all_eq_true.mp hf _ hm
    have h2 := of_decide_eq_true (List.all_eq_true.mp bi_boot _ hm)
    have h3 := List.all_eq_true.mp bi_none _ hm
    simp only [Bool.and_eq_true, Bool.not_eq_true', List.contains_eq_mem, decide_eq_false_iff_not, bne_iff_ne] at h1
    obtain ⟨⟨⟨⟨⟨a1, a2⟩, a3⟩, a4⟩, a5⟩, a6⟩ := h1
    have n1 := T.free x a1 a2 a3 a4 a5
    have n2 : mb x = some (glV g) := (T.builtins x a6).trans h2
    cases g with
    | bi b => exact ⟨n1, n2⟩
    | ty t => exact ⟨n1, n2⟩
    | isinst => exact ⟨n1, n2⟩
    | fn k => cases h3
    | const i => cases h3
    | exc => cases h3
  · split at hg
    · rename_i k hk
      split at hg
      · rename_i hs
        cases hg
        obtain ⟨f, hf'⟩ := Option.isSome_iff_exists.mp hs
        have hf0 := hf'
        unfold tabOf at hf'
        split at hf'
        · cases hf'
        · rename_i y hy
          obtain ⟨d, hd, e⟩ := Option.map_eq_some_iff.mp hf'
          have hdm := List.mem_of_find?_eq_some hd
          have hdn : d.name = y := beq_iff_eq.mp (List.find?_some (p := fun d : DefRec => d.name == y) hd)
          obtain ⟨hlt, hxy, _⟩ := List.findIdx?_eq_some_iff_getElem.mp hk
          have hxy : names[k] = x := beq_iff_eq.mp hxy
          rw [List.getElem?_eq_getElem hlt] at hy
          have hyx : y = x := by injection hy with hy; rw [← hy, hxy]
          obtain ⟨a, o, pm, code, doc, m1, m2, m3, m4⟩ := T.fn d hdm
          refine ⟨a, f, by rw [← hyx, ← hdn]; exact m1, hf0, o, pm, code, doc, m2, ?_, ?_⟩
          · rw [← e]; exact m3
          · rw [← e]; exact m4
      · cases hg
    ·
      split at hg
      · rename_i he
        cases hg
        obtain ⟨v, m1, m2⟩ := T.const _ _ c1
        rw [beq_iff_eq.mp he]
        have := m2 h
        cases this with
        | int i t => exact ⟨t, m1⟩
      · split at hg
        · rename_i he
          cases hg
          obtain ⟨v, m1, m2⟩ := T.const _ _ c2
          rw [beq_iff_eq.mp he]
          have := m2 h
          cases this with
          | int i t => exact ⟨t, m1⟩
        · cases hg

theorem data_ne {h : Heap} {a b : Addr} {o o' : Obj} (ga : h.get? a = some o) (gb : h.get? b = some o') (hd : o.data ≠ o'.data) : a ≠ b := by
  rintro rfl
  rw [ga] at gb; cases gb; exact hd rfl

theorem gd_of {q : Program} {loose : List Str} {mean : ExcName → Option Value} {mg mb : Str → Option Value} {s : Shared} {names : List Str} (T : Top q loose mean mg mb s.heap) (hf : freeB q loose = true)
    (c1 : valOf q "MOST_STATES" = some (.int 100)) (c2 : valOf q "MOST_MOVES" = some (.int 1000))
    (him : importsNone q = true) {scr : Addr} {os : Obj} {vs : Array Value} {n : Nat} (gs : s.heap.get? scr = some os) (ds : os.data = .seq vs n) :
    Gd (glOf (tabOf q names) names) (tabOf q names) s scr := by
  have nsne : ∀ {a m}, s.heap.Ns a m → a ≠ scr := fun hn => by
    obtain ⟨o, es, ep, g, d, _⟩ := hn
    exact data_ne g gs (by rw [d, ds]; intro h; cases h)
  have nsk : ∀ {a m}, s.heap.Ns a m → ∀ h' : Heap, (∀ b o, s.heap.get? b = some o → b ≠ scr → h'.get? b = some o) → h'.Ns a m := fun hn h' hk => by
    have hne := nsne hn
    exact hn.at' fun o e => hk _ o e hne
  refine ⟨⟨mg, mb, T.g, T.b, names_gl T hf c1 c2
    ⟩, nsne T.g, nsne T.b, fun k f hk => ?_, fun a f hfa => ?_, T.nolimit, fun c nm hc h' hk => ?_, fun h' hk => ?_, ?_⟩
  · unfold tabOf at hk
    split at hk
    · cases hk
    · obtain ⟨d, hd, e⟩ := Option.map_eq_some_iff.mp hk
      obtain ⟨a, o, pm, code, doc, m1, m2, m3, m4⟩ := T.fn d (List.mem_of_find?_eq_some hd)
      exact ⟨a, o, pm, code, doc, m2, by rw [← e]; exact m3, by rw [← e]; exact m4⟩
  · obtain ⟨o, pm, code, doc, g, d, _⟩ := hfa
    exact data_ne g gs (by rw [d, ds]; intro h; cases h)
  · obtain ⟨b, o, fs, t, e, g, d, r⟩ := hc
    exact ⟨b, o, fs, t, e, hk _ _ g (data_ne g gs (by rw [d, ds]; intro h; cases h)), d, r⟩
  · obtain ⟨mc, hn, r⟩ := T.nolimit
    exact ⟨mc, nsk hn h' hk, r⟩
  · obtain ⟨mm, hn, _⟩ := (T.seer him).mods
    obtain ⟨o, g⟩ := Ns.obj hn
    exact ⟨o, g, nsne hn⟩
end Tw
end

section
namespace Tw
open PySem PySem.W PyProof.Rows

theorem ints_of {R : WRecords} : ∀ {ds : List WData}, WShape.hasItems R ds .int = true → ∃ xs : List Int, ds = xs.map WData.int
  | [], _ => ⟨[], rfl⟩
  | d :: r, h => by
    simp only [WShape.hasItems, Bool.and_eq_true] at h
    obtain ⟨xs, e⟩ := ints_of h.2
    obtain ⟨i, e'⟩ := hasW_int h.1
    exact ⟨i :: xs, by rw [e, e']; rfl⟩

theorem args_law {l : OpenLaw} {n : Nat} (hm : l.most = some n) (hb : l.bound = none) {args : List WData} (h : l.row.toRowW.claim.pre args = true) : ∃ xs : List Int, args = [.list (xs.map WData.int)] ∧ xs.length ≤ n := by
  obtain ⟨h1, h2⟩ := pre_splitW h
  obtain ⟨d, r, rfl, h3, h4⟩ := hasAllW_cons h1
  obtain rfl := hasAllW_nil h4
  obtain ⟨ds, rfl, h5⟩ := hasW_list h3
  obtain ⟨xs, rfl⟩ := ints_of h5
  refine ⟨xs, rfl, ?_⟩
  have h2 : l.pre.holds l.row.toRowW.records { args := [.list (xs.map WData.int)] } = true := h2
  unfold OpenLaw.pre at h2
  rw [hm, hb] at h2
  simp [WTm.holds, WTm.value, less?, Num.less?] at h2
  by_cases hlt : n < xs.length
  · rw [decide_eq_true hlt] at h2; cases h2
  · exact qm hlt

theorem reps_ints_of {R : WRecords} {cl : Str → Option Addr} {h : Heap} {ι : List Addr} : ∀ {xs : List Int} {vs : List Value} {as : List Addr}, ReadsAllW R cl h vs (xs.map WData.int) as → RepVs ι h vs (xs.map V.int)
  | [], vs, as, r => by cases r; exact .nil
  | x :: xs, vs, as, r => by
    cases r with
    | cons h1 h2 => cases h1; exact .cons (.int _ _) (reps_ints_of h2)

theorem post_law {l : OpenLaw} {args : List WData} : l.row.toRowW.claim.post args (.bool true) args = true := by
  show WTm.holds _ (.eq .res (.lit (.bool true))) _ = true
  simp [WTm.holds, WTm.value, same]

/-- the script, as it lies in the heap -/
inductive ScrAt (h : Heap) (vals : List Value) (as : List Addr) (xs : List Int) : Prop
  | mk (scr : Addr) (os : Obj) (vs : Array Value) (m : Nat) (ev : vals = [.ref scr]) (gs : h.get? scr = some os) (cs : os.cls = .type "list") (ds : os.data = .seq vs m) (rs : ∀ ι, RepVs ι h vs.toList (xs.map V.int)) (hm : scr ∈ as)
theorem scr_at {R : WRecords} {cl : Str → Option Addr} {h : Heap} {vals : List Value} {as : List Addr} {xs : List Int} (hrd : ReadsAllW R cl h vals [.list (xs.map WData.int)] as) : ScrAt h vals as xs := by
  cases hrd with
  | cons h1 h2 =>
    cases h2
    cases h1 with
    | @list scr os vs m _ as' gs cs ds rs => exact ⟨scr, os, vs, m, rfl, gs, cs, ds, fun _ => reps_ints_of rs, by simp⟩
theorem walk_law {q : Program} {l : OpenLaw} {n D kl : Nat} {Φ : Nat → Option Fn} {names : List Str} {d : DefRec} {XP : (Str → Option Value) → Heap → Prop} {YP : World → Heap → Prop} (hm : l.most = some n) (hb : l.bound = none) (hn : n ≤ 1000)
    (hf : freeB q (looseW q []) = true) (c1 : valOf q "MOST_STATES" = some (.int 100)) (c2 : valOf q "MOST_MOVES" = some (.int 1000))
    (him : importsNone q = true)
    (ok : TabOk ⟨l.prog, glOf (tabOf q names) names, tabOf q names⟩ Φ) (hd : d ∈ recsOf q) (hk : tabOf q names kl = some ⟨d.name, d.params, d.body, d.scope⟩) (hD : D ≤ 100)
    (law : ∀ xs : List Int, xs.length ≤ n → Calls Φ D kl [.ref 0] [.frz (xs.map V.int)] fun v _ => v = .bool true) :
    WalkO q [] XP YP l.row.toRowW d [] fun f vs => PySem.call f vs := by
  intro w s₀ s₁ mg mb G Y a o pm cd doc dV kV ga da hcd hdf hmg hgens args vals as hpre hlay hrd hwell hlow
  obtain ⟨xs, rfl, hlen⟩ := args_law hm hb hpre
  obtain ⟨scr, os, vs, m, rfl, gs, cs, ds, rs, hm'⟩ := scr_at hrd
  have hGd := gd_of (names := names) G.T hf c1 c2
    him gs ds
  obtain ⟨a', o', pm', code', doc', m1, m2, m3, m4⟩ := G.T.fn d hd
  have ea : a = a' := by rw [hmg] at m1; injection m1 with m1; injection m1
  subst ea
  have W : Wd w (fun b ob => s₁.heap.get? b = some ob ∧ b ≠ scr) s₁ scr [scr] [.frz (xs.map V.int)] s₁ := {
    same := ⟨_, _, rfl⟩
    len := rfl
    nodup := by simp
    objs := fun k b ob hb ho => by
      cases k with
      | zero =>
        simp at hb ho; subst hb; subst ho
        exact ⟨vs, ⟨os, gs, cs, m, ds⟩, rs _, by simp; exact Nat.le_trans hlen (Nat.le_trans hn (by decide))⟩
      | succ k => simp at hb
    low := fun b hb => by
      simp at hb; subst hb
      have := hlow b hm'
      simpa using this
    scr := fun _ e => e
    scrI := fun k hk => by
      cases k with
      | zero => exact ⟨_, rfl⟩
      | succ k => simp at hk
    scrIn := by simp
    prot := fun b ob p => .inl p.1
    protI := fun b ob p hb => by simp at hb; exact p.2 hb }
  have ao : AOk callerA D := ⟨rfl, by show 301 + D < 1000; exact qp1 qc1 (qA (qA (qN 301) qv0) qk1) (qN 1000) qv0 (qN 100) qt hD, by show 4 + 4 * D + 100 < 9900; exact qp1 qc1 (qA (qA (qA qk4 (qM 4 qv0)) (qN 100)) qk1) (qN 9900) (qM 4 qv0) (qM 4 (qN 100)) qt (Nat.mul_le_mul_left 4 hD)⟩
  refine mono' ((calls_ok ok D).1 hGd (fun b ob e hne => ⟨e, hne⟩) W ⟨[], rfl, fun _ h => nomatch h⟩ ao hk ⟨o', pm', code', doc', m2, m3, m4⟩ (vals := [.ref scr]) (vs := [.ref 0]) (.cons (.ref rfl) .nil) (law xs hlen)) fun v s' ⟨v', ι', H', M', W', rv, hq⟩ => ?_
  subst hq
  cases rv
  refine ⟨.inl ⟨_, .bool true, [], rfl, fun _ => rfl, .bool true, post_law, fun _ => ⟨List.nodup_nil, fun _ hm => nomatch hm⟩⟩, .of_keep fun b ob e => ?_, ?_, ?_⟩
  · by_cases hb : b = scr
    · subst hb; exact W'.scr _ e
    · exact (W'.prot _ _ ⟨e, hb⟩).base e
  · obtain ⟨h', tk, e⟩ := W'.same; rw [e]
  · obtain ⟨h', tk, e⟩ := W'.same; rw [e]; exact .of_eq hgens

/-- a function's number, its own form -/
noncomputable def trK (p : Pg) (k : Nat) : Option Fn := if k < 1000 then (p.T k).bind fun f => (trF p 60 f).map (·.1) else
  none
theorem tab_of {p : Pg} {Φ : Nat → Option Fn} (hT : ∀ k f, p.T k = some f → k < 1000) (h : ∀ k fn, Φ k = some fn → trK p k = some fn) : TabOk p Φ := by
  intro k f fn hk
  refine ⟨fun hΦ => ?_, fun hΦ => ?_⟩
  · have := h k fn hΦ
    rw [trK, if_pos (hT k f hk), hk] at this
    simp only [Option.bind_some] at this
    obtain ⟨x, _, rfl⟩ := Option.map_eq_some_iff.mp this
    exact x.2
  · have := h _ fn hΦ
    rw [trK, if_neg (by exact fun e0 => qf1 qc1 (qA (qA (qN 1000) qv0) qk1) (qN 1000) qt e0)] at this
    cases this
theorem tabOf_lt {q : Program} {names : List Str} (hn : names.length ≤ 1000) (k : Nat) (f : FnRec) (h : tabOf q names k = some f) : k < 1000 := by
  unfold tabOf at h
  split at h
  · cases h
  · rename_i x hx
    exact Nat.lt_of_lt_of_le (List.getElem?_eq_some_iff.mp hx).1 hn

theorem law_holds {q : Program} {l : OpenLaw} {n D kl : Nat} {Φ : Nat → Option Fn} {names : List Str} {d : DefRec} {XP : (Str → Option Value) → Heap → Prop} {YP : World → Heap → Prop} {x : Str} (hm : l.most = some n) (hb : l.bound = none) (hn : n ≤ 1000)
    (hf : freeB q (looseW q []) = true) (c1 : valOf q "MOST_STATES" = some (.int 100)) (c2 : valOf q "MOST_MOVES" = some (.int 1000))
    (him : importsNone q = true)
    (hnm : names.length ≤ 1000) (ok : ∀ k fn, Φ k = some fn → trK ⟨l.prog, glOf (tabOf q names) names, tabOf q names⟩ k = some fn)
    (hx : names[kl]? = some x) (hd : (recsOf q).find? (fun d => d.name == x) = some d) (hD : D ≤ 100)
    (law : ∀ xs : List Int, xs.length ≤ n → Calls Φ D kl [.ref 0] [.frz (xs.map V.int)] fun v _ => v = .bool true) :
    WalkO q [] XP YP l.row.toRowW d [] fun f vs => PySem.call f vs :=
  walk_law (Φ := Φ) (names := names) (kl := kl) hm hb hn hf c1 c2
    him (tab_of (tabOf_lt hnm) ok) (List.mem_of_find?_eq_some hd) (by unfold tabOf; rw [hx]; simp only; rw [hd]; rfl) hD law
/-- a law's functions, as a list -/
noncomputable def tabFn (l : List (Nat × Fn)) (k : Nat) : Option Fn := match l with
  | [] => none
  | (j, f) :: r => if k = j then some f else tabFn r k
theorem tab_all {P : Nat → Fn → Prop} : ∀ {l : List (Nat × Fn)}, (∀ x ∈ l, P x.1 x.2) → ∀ k fn, tabFn l k = some fn → P k fn
  | [], _, _, _, e => nomatch e
  | (j, f) :: r, h, k, fn, e => by
    unfold tabFn at e
    by_cases hk : k = j
    · rw [if_pos hk] at e; injection e with e; subst e; subst hk; exact h _ List.mem_cons_self
    · rw [if_neg hk] at e; exact tab_all (fun x hx => h x (List.mem_cons_of_mem _ hx)) k fn e
theorem all_nil {P : Nat × Fn → Prop} : ∀ x ∈ ([] : List (Nat × Fn)), P x := fun _ h => nomatch h
theorem all_cons {P : Nat × Fn → Prop} {y : Nat × Fn} {l : List (Nat × Fn)} (h1 : P y) (h2 : ∀ x ∈ l, P x) : ∀ x ∈ y :: l, P x := fun x h => by
  rcases List.mem_cons.mp h with rfl | h
  · exact h1
  · exact h2 x h
end Tw
end

section
namespace Tw
open PySem
/-- the functions' numbers -/
noncomputable def fnNames : List Str := (["need", "checked", "leaving", "gone_on", "told_back", "way", "reads", "writings", "turned", "joined", "nearer", "between", "steps", "led_from", "rests", "written", "lag", "path_to", "path_on", "shown", "gone_through", "unlike", "twofold", "ahead",
  "law", "_law_cell", "_law_signs", "_law_machine", "_law_whole", "_law_text", "_law_moves", "_law_steps", "_law_walk", "_law_is_plain", "_law_together", "_law_texts", "_law_ringed", "_law_is_way", "_law_is_refused", "_law_all", "_law_walked", "_law_turned", "_law_road", "_law_rests", "_law_refused", "_law_reader", "_law_plain", "_law_pairs", "_law_on", "_law_least", "_law_leads", "_law_layer", "_law_is_row", "_law_ends_so", "_law_due", "_law_alike"] : List String).map Str.ofString
end Tw
end

section
namespace Tw

/-! what holds after, may be weakened -/
noncomputable def MonoC (C : Ora) : Prop := ∀ f vs h (Q Q' : V → H → Prop), (∀ v h, Q v h → Q' v h) → C f vs h Q → C f vs h Q'

theorem BinW.mono {op : Bop} {a b : V} {h : H} {Q Q' : V → H → Prop} (m : ∀ v h, Q v h → Q' v h) (x : BinW op a b h Q) : BinW op a b h Q' := by
  cases op with
  | add =>
    cases a with
    | int => exact asInt.mono (fun _ x => m _ _ x) x
    | str => exact asStr.mono (fun _ x => ⟨x.1, m _ _ x.2⟩) x
    | ref => exact asRef.mono (fun _ ⟨a, b, h1, h2, h3, h4⟩ => ⟨a, b, h1, h2, h3, m _ _ h4⟩) x
    | _ => exact x
  | sub => exact asInt.mono (fun _ x => asInt.mono (fun _ x => m _ _ x) x) x
  | mul =>
    cases a with
    | int => exact asInt.mono (fun _ x => ⟨x.1, m _ _ x.2⟩) x
    | _ => exact x
  | fdiv => exact asInt.mono (fun _ x => asInt.mono (fun _ x => ⟨x.1, x.2.1, m _ _ x.2.2⟩) x) x
  | mod => exact asInt.mono (fun _ x => asInt.mono (fun _ x => ⟨x.1, m _ _ x.2⟩) x) x
theorem truth.mono {v : V} {h : H} {Q Q' : Bool → Prop} (m : ∀ b, Q b → Q' b) (x : truth v h Q) : truth v h Q' := by
  cases v with
  | none => exact m _ x
  | bool => exact m _ x
  | _ => exact x
theorem EqG.mono {a b : V} {h : H} {Q Q' : Bool → Prop} (m : ∀ b, Q b → Q' b) (x : EqG a b h Q) : EqG a b h Q' := by
  obtain ⟨d₁, d₂, h1, h2, h3, h4, h5⟩ := x; exact ⟨d₁, d₂, h1, h2, h3, h4, m _ h5⟩
theorem EqW.mono {a b : V} {h : H} {Q Q' : Bool → Prop} (m : ∀ b, Q b → Q' b) (x : EqW a b h Q) : EqW a b h Q' := by
  cases a with
  | bool => exact asBool.mono (fun _ x => m _ x) x
  | _ => exact EqG.mono m x
theorem InW.mono {a b : V} {h : H} {Q Q' : Bool → Prop} (m : ∀ b, Q b → Q' b) (x : InW a b h Q) : InW a b h Q' :=
  asRef.mono (fun n x => by
    revert x
    generalize h[n]? = o
    intro x
    match o, x with
    | some (.list _), ⟨d, ds, h1, h2, h3, h4, h5⟩ => exact ⟨d, ds, h1, h2, h3, h4, m _ h5⟩
    | some (.dict _ _), x => exact ⟨x.1, m _ x.2⟩) x
theorem SameW.mono {a b : V} {Q Q' : Bool → Prop} (m : ∀ b, Q b → Q' b) (x : SameW a b Q) : SameW a b Q' := by
  cases b with
  | none => exact m _ x
  | bool => exact asBool.mono (fun _ x => m _ x) x
  | _ => exact x
theorem CmpW.mono {op : Cmp} {a b : V} {h : H} {Q Q' : Bool → Prop} (m : ∀ b, Q b → Q' b) (x : CmpW op a b h Q) : CmpW op a b h Q' := by
  cases op with
  | eq => exact EqW.mono m x
  | ne => exact EqW.mono (fun b q => m _ q) x
  | isIn => exact InW.mono m x
  | notIn => exact InW.mono (fun b q => m _ q) x
  | is => exact SameW.mono m x
  | isNot => exact SameW.mono (fun b q => m _ q) x
  | _ => exact asInt.mono (fun _ x => asInt.mono (fun _ x => m _ x) x) x
theorem SubW.mono {a i : V} {h : H} {Q Q' : V → Prop} (m : ∀ b, Q b → Q' b) (x : SubW a i h Q) : SubW a i h Q' := by
  cases a with
  | tup => exact asInt.mono (fun _ ⟨v, h1, h2, h3⟩ => ⟨v, h1, h2, m _ h3⟩) x
  | str => exact asInt.mono (fun _ ⟨v, h1, h2, h3⟩ => ⟨v, h1, h2, m _ h3⟩) x
  | ref n =>
    revert x
    show (match h[n]? with | some (.list vs) => _ | some (.frz vs) => _ | some (.dict es _) => _ | none => _) → (match h[n]? with | some (.list vs) => _ | some (.frz vs) => _ | some (.dict es _) => _ | none => _)
    generalize h[n]? = o
    intro x
    match o, x with
    | some (.list _), x => exact asInt.mono (fun _ x => x.imp (fun ⟨v, h1, h2, h3⟩ => ⟨v, h1, h2, m _ h3⟩) fun ⟨v, h1, h2, h3⟩ => ⟨v, h1, h2, m _ h3⟩) x
    | some (.frz _), x => exact asInt.mono (fun _ ⟨v, h1, h2, h3⟩ => ⟨v, h1, h2, m _ h3⟩) x
    | some (.dict _ _), ⟨h1, v, h2, h3⟩ => exact ⟨h1, v, h2, m _ h3⟩
  | _ => exact x
theorem SliceW.mono {a lo hi : V} {h : H} {Q Q' : V → H → Prop} (m : ∀ v h, Q v h → Q' v h) (x : SliceW a lo hi h Q) : SliceW a lo hi h Q' := by
  cases a with
  | str => obtain ⟨i, j, h1, h2, h3⟩ := x; exact ⟨i, j, h1, h2, m _ _ h3⟩
  | ref => obtain ⟨vs, i, j, h1, h2, h3, h4⟩ := x; exact ⟨vs, i, j, h1, h2, h3, m _ _ h4⟩
  | _ => exact x
theorem LenW.mono {v : V} {h : H} {Q Q' : V → H → Prop} (m : ∀ v h, Q v h → Q' v h) (x : LenW v h Q) : LenW v h Q' := by
  cases v with
  | str => exact m _ _ x
  | tup => exact m _ _ x
  | ref n =>
    revert x
    unfold LenW
    dsimp only
    generalize h[n]? = o
    intro x
    match o, x with
    | some (.list _), x => exact m _ _ x
    | some (.frz _), x => exact m _ _ x
  | _ => exact x
theorem ListW.mono {v : V} {h : H} {Q Q' : V → H → Prop} (m : ∀ v h, Q v h → Q' v h) (x : ListW v h Q) : ListW v h Q' := by
  cases v with
  | rng => exact ⟨x.1, m _ _ x.2⟩
  | ref n =>
    revert x
    unfold ListW
    dsimp only
    generalize h[n]? = o
    intro x
    match o, x with
    | some (.list _), x => exact ⟨x.1, m _ _ x.2⟩
    | some (.dict _ _), x => exact m _ _ x
  | _ => exact x
theorem RangeW.mono {vs : List V} {h : H} {Q Q' : V → H → Prop} (m : ∀ v h, Q v h → Q' v h) (x : RangeW vs h Q) : RangeW vs h Q' := by
  match vs, x with
  | [a], x => exact asInt.mono (fun _ x => ⟨x.1, m _ _ x.2⟩) x
  | [a, b], x => exact asInt.mono (fun _ x => asInt.mono (fun _ x => ⟨x.1, x.2.1, m _ _ x.2.2⟩) x) x
  | [a, b, c], x => exact asInt.mono (fun _ x => asInt.mono (fun _ x => asInt.mono (fun _ x => ⟨x.1, x.2.1, x.2.2.1, x.2.2.2.1, m _ _ x.2.2.2.2⟩) x) x) x
theorem SortW.mono {v : V} {h : H} {Q Q' : V → H → Prop} (m : ∀ v h, Q v h → Q' v h) (x : SortW v h Q) : SortW v h Q' :=
  asRef.mono (fun _ ⟨vs, h1, h3⟩ => ⟨vs, h1, h3.imp id fun h3 =>
    h3.imp (fun ⟨ks, h4, h5⟩ => ⟨ks, h4, fun ks' p o => m _ _ (h5 ks' p o)⟩) fun h3 =>
    h3⟩) x
theorem BiW.mono {b : Bi} {vs : List V} {h : H} {Q Q' : V → H → Prop} (m : ∀ v h, Q v h → Q' v h) (x : BiW b vs h Q) : BiW b vs h Q' := by
  cases b with
  | len => exact arg1.mono (fun _ x => LenW.mono m x) x
  | range => exact RangeW.mono m x
  | list => exact arg1.mono (fun _ x => ListW.mono m x) x
  | sorted => exact arg1.mono (fun _ x => SortW.mono m x) x
  | dict => exact x
  | int => exact x
  | min => match vs, x with | [_, _], x => exact asInt.mono (fun _ x => asInt.mono (fun _ x => m _ _ x) x) x
  | max => match vs, x with | [_, _], x => exact asInt.mono (fun _ x => asInt.mono (fun _ x => m _ _ x) x) x
theorem IsW.mono {v : V} {t : Ty} {h : H} {Q Q' : Bool → Prop} (m : ∀ b, Q b → Q' b) (x : IsW v t h Q) : IsW v t h Q' := by
  cases v with
  | rng => exact x
  | ref n =>
    revert x
    unfold IsW
    dsimp only
    generalize h[n]? = o
    intro x
    match o, x with
    | some (.list _), x => exact m _ x
    | some (.dict _ _), x => exact m _ x
  | _ => exact m _ x
theorem MethW.mono {mt : Mt} {o : V} {as : List V} {h : H} {Q Q' : V → H → Prop} (m : ∀ v h, Q v h → Q' v h) (x : MethW mt o as h Q) : MethW mt o as h Q' := by
  cases mt with
  | append => exact asRef.mono (fun _ x => arg1.mono (fun _ ⟨vs, h1, h2, h3⟩ => ⟨vs, h1, h2, m _ _ h3⟩) x) x
  | reverse => exact asRef.mono (fun _ x => arg0.mono (fun ⟨vs, h1, h2⟩ => ⟨vs, h1, m _ _ h2⟩) x) x
  | pop => exact asRef.mono (fun _ x => arg0.mono (fun ⟨vs, v, h1, h2⟩ => ⟨vs, v, h1, m _ _ h2⟩) x) x
  | join => exact asStr.mono (fun _ x => arg1.mono (fun _ x => asRef.mono (fun _ ⟨vs, xs, h1, h2, h3, h4, h5⟩ => ⟨vs, xs, h1, h2, h3, h4, m _ _ h5⟩) x) x) x
  | _ => exact x
theorem StoreW.mono {o i v : V} {h : H} {Q Q' : H → Prop} (m : ∀ h, Q h → Q' h) (x : StoreW o i v h Q) : StoreW o i v h Q' :=
  asRef.mono (fun n x => by
    revert x
    generalize h[n]? = o
    intro x
    match o, x with
    | some (.dict _ _), x => exact ⟨x.1, x.2.1, fun ver => m _ (x.2.2 ver)⟩) x
theorem IterW.mono {v : V} {h : H} {Q Q' : It → Prop} (m : ∀ i, Q i → Q' i) (x : IterW v h Q) : IterW v h Q' := by
  cases v with
  | tup => exact m _ x
  | rng => exact m _ x
  | ref n =>
    revert x
    unfold IterW
    dsimp only
    generalize h[n]? = o
    intro x
    match o, x with
    | some (.list _), x => exact m _ x
  | _ => exact x
theorem NextW.mono {it : It} {h : H} {p p' : Prop} {Q Q' : V → It → Prop} (m : p → p') (m' : ∀ v i, Q v i → Q' v i) (x : NextW it h p Q) : NextW it h p' Q' := by
  cases it with
  | vals vs =>
    cases vs with
    | nil => exact m x
    | cons => exact m' _ _ x
  | seq n i =>
    revert x
    unfold NextW
    dsimp only
    generalize h[n]? = o
    intro x
    match o, x with
    | some (.list vs), x =>
      revert x
      dsimp only
      generalize vs[i]? = w
      intro x
      match w, x with
      | none, x => exact m x
      | some _, x => exact m' _ _ x
  | keys n ver len i => exact x
theorem bindT.mono {t : Tgt} {v : V} {ρ : Rho} {Q Q' : Rho → Prop} (m : ∀ r, Q r → Q' r) (x : bindT t v ρ Q) : bindT t v ρ Q' := by
  cases t with
  | name => exact m _ x
  | tup is => exact asTup.mono (fun _ x => ⟨x.1, m _ x.2⟩) x

noncomputable def MonoB (body : V → Rho → H → (Out → Rho → H → Prop) → Prop) : Prop := ∀ v ρ h Q Q', (∀ o r h, Q o r h → Q' o r h) → body v ρ h Q → body v ρ h Q'
noncomputable def MonoT (test : Rho → H → (Bool → H → Prop) → Prop) : Prop := ∀ ρ h Q Q', (∀ b h, Q b h → Q' b h) → test ρ h Q → test ρ h Q'
noncomputable def MonoS (body : Rho → H → (Out → Rho → H → Prop) → Prop) : Prop := ∀ ρ h Q Q', (∀ o r h, Q o r h → Q' o r h) → body ρ h Q → body ρ h Q'
noncomputable def MonoK (turn : V → H → (Option V → H → Prop) → Prop) : Prop := ∀ v h Q Q', (∀ o h, Q o h → Q' o h) → turn v h Q → turn v h Q'

theorem forN_mono {body : V → Rho → H → (Out → Rho → H → Prop) → Prop} (hb : MonoB body) {Q Q' : Out → Rho → H → Prop} (m : ∀ o r h, Q o r h → Q' o r h) : ∀ f it ρ h, forN body f it ρ h Q → forN body f it ρ h Q'
  | 0, _, _, _, x => x
  | f + 1, it, ρ, h, x => NextW.mono (m _ _ _) (fun v i y => hb _ _ _ _ _ (fun o r h z => by cases o with | next => exact forN_mono hb m f _ _ _ z | ret v => exact m _ _ _ z) y) x
theorem whileN_mono {test : Rho → H → (Bool → H → Prop) → Prop} {body : Rho → H → (Out → Rho → H → Prop) → Prop} (ht : MonoT test) (hb : MonoS body) {Q Q' : Out → Rho → H → Prop} (m : ∀ o r h, Q o r h → Q' o r h) : ∀ f ρ h, whileN test body f ρ h Q → whileN test body f ρ h Q'
  | 0, _, _, x => x
  | f + 1, ρ, h, x => ht _ _ _ _ (fun b h y => by
      cases b with
      | true => exact hb _ _ _ _ (fun o r h z => by cases o with | next => exact whileN_mono ht hb m f _ _ z | ret v => exact m _ _ _ z) y
      | false => exact m _ _ _ y) x
theorem compN_mono {turn : V → H → (Option V → H → Prop) → Prop} (ht : MonoK turn) {Q Q' : List V → H → Prop} (m : ∀ o h, Q o h → Q' o h) : ∀ f it h out, compN turn f it h out Q → compN turn f it h out Q'
  | 0, _, _, _, x => x
  | f + 1, it, h, out, x => NextW.mono (m _ _) (fun v i y => ht _ _ _ _ (fun o h z => by
      cases o with
      | some w => exact ⟨z.1, compN_mono ht m f _ _ _ z.2⟩
      | none => exact compN_mono ht m f _ _ _ z) y) x

section
variable {C : Ora}
mutual
theorem wpE_mono (hC : MonoC C) : ∀ (e : E) {ρ : Rho} {h : H} {Q Q' : V → H → Prop}, (∀ v h, Q v h → Q' v h) → wpE C e ρ h Q → wpE C e ρ h Q'
  | .lit v, ρ, h, Q, Q', m, x => m _ _ x
  | .var i, ρ, h, Q, Q', m, x => vK.mono (fun _ y => m _ _ y) x
  | .bin op a b, ρ, h, Q, Q', m, x => wpE_mono hC a (fun v h y => wpE_mono hC b (fun v h z => BinW.mono m z) y) x
  | .neg a, ρ, h, Q, Q', m, x => wpE_mono hC a (fun v h y => asInt.mono (fun _ x => m _ _ x) y) x
  | .not a, ρ, h, Q, Q', m, x => wpE_mono hC a (fun v h y => truth.mono (fun b z => m _ _ z) y) x
  | .and a b, ρ, h, Q, Q', m, x => wpE_mono hC a (fun v h y => truth.mono (fun t z => by cases t with | true => exact wpE_mono hC b m z | false => exact m _ _ z) y) x
  | .or a b, ρ, h, Q, Q', m, x => wpE_mono hC a (fun v h y => truth.mono (fun t z => by cases t with | true => exact m _ _ z | false => exact wpE_mono hC b m z) y) x
  | .cmp op a b, ρ, h, Q, Q', m, x => wpE_mono hC a (fun v h y => wpE_mono hC b (fun v h z => CmpW.mono (fun r w => m _ _ w) z) y) x
  | .cmp2 op1 op2 a b c, ρ, h, Q, Q', m, x => wpE_mono hC a (fun v h y => wpE_mono hC b (fun v h z => CmpW.mono (fun r w => by
      cases r with
      | true => exact wpE_mono hC c (fun v h u => CmpW.mono (fun r w => m _ _ w) u) w
      | false => exact m _ _ w) z) y) x
  | .sub a i, ρ, h, Q, Q', m, x => wpE_mono hC a (fun v h y => wpE_mono hC i (fun v h z => SubW.mono (fun v w => m _ _ w) z) y) x
  | .slice a lo hi, ρ, h, Q, Q', m, x => wpE_mono hC a (fun v h y => wpE_mono hC lo (fun v h z => wpE_mono hC hi (fun v h w => SliceW.mono m w) z) y) x
  | .tup es, ρ, h, Q, Q', m, x => wpEs_mono hC es (fun vs h y => m _ _ y) x
  | .list es, ρ, h, Q, Q', m, x => wpEs_mono hC es (fun vs h y => m _ _ y) x
  | .dict0, ρ, h, Q, Q', m, x => fun ver => m _ _ (x ver)
  | .dict1 k v, ρ, h, Q, Q', m, x => wpE_mono hC k (fun _ h y => wpE_mono hC v (fun _ h z => ⟨z.1, fun ver => m _ _ (z.2 ver)⟩) y) x
  | .comp elt tgt iter cond, ρ, h, Q, Q', m, x => wpE_mono hC iter (fun v h y => IterW.mono (fun i z => by
      obtain ⟨f, z⟩ := z
      refine ⟨f, compN_mono ?_ ?_ _ _ _ _ z⟩
      · intro v h K K' mk w
        refine bindT.mono (fun r u => ?_) w
        refine wpO_mono hC cond (fun b h t => ?_) u
        cases b with
        | true => exact wpE_mono hC elt (fun v h q => mk _ _ q) t
        | false => exact mk _ _ t
      · intro o h w; exact m _ _ w) y) x
  | .call f args, ρ, h, Q, Q', m, x => wpEs_mono hC args (fun vs h y => hC _ _ _ _ _ m y) x
  | .bi b args, ρ, h, Q, Q', m, x => wpEs_mono hC args (fun vs h y => BiW.mono m y) x
  | .isinst a t, ρ, h, Q, Q', m, x => wpE_mono hC a (fun v h y => IsW.mono (fun r z => m _ _ z) y) x
  | .meth mt o args, ρ, h, Q, Q', m, x => wpE_mono hC o (fun v h y => ⟨y.1, wpEs_mono hC args (fun vs h z => MethW.mono m z) y.2⟩) x
theorem wpEs_mono (hC : MonoC C) : ∀ (es : List E) {ρ : Rho} {h : H} {Q Q' : List V → H → Prop}, (∀ v h, Q v h → Q' v h) → wpEs C es ρ h Q → wpEs C es ρ h Q'
  | [], ρ, h, Q, Q', m, x => m _ _ x
  | e :: es, ρ, h, Q, Q', m, x => wpE_mono hC e (fun v h y => wpEs_mono hC es (fun vs h z => m _ _ z) y) x
theorem wpO_mono (hC : MonoC C) : ∀ (e : Option E) {ρ : Rho} {h : H} {Q Q' : Bool → H → Prop}, (∀ v h, Q v h → Q' v h) → wpO C e ρ h Q → wpO C e ρ h Q'
  | none, ρ, h, Q, Q', m, x => m _ _ x
  | some e, ρ, h, Q, Q', m, x => wpT_mono hC e m x
theorem wpT_mono (hC : MonoC C) : ∀ (e : E) {ρ : Rho} {h : H} {Q Q' : Bool → H → Prop}, (∀ v h, Q v h → Q' v h) → wpT C e ρ h Q → wpT C e ρ h Q'
  | .not a, ρ, h, Q, Q', m, x => wpT_mono hC a (fun b h y => m _ _ y) x
  | .and a b, ρ, h, Q, Q', m, x => wpT_mono hC a (fun t h y => by cases t with | true => exact wpT_mono hC b m y | false => exact m _ _ y) x
  | .or a b, ρ, h, Q, Q', m, x => wpT_mono hC a (fun t h y => by cases t with | true => exact m _ _ y | false => exact wpT_mono hC b m y) x
  | .cmp op a b, ρ, h, Q, Q', m, x => wpE_mono hC a (fun v h y => wpE_mono hC b (fun v h z => CmpW.mono (fun r w => m _ _ w) z) y) x
  | .cmp2 op1 op2 a b c, ρ, h, Q, Q', m, x => wpE_mono hC a (fun v h y => wpE_mono hC b (fun v h z => CmpW.mono (fun r w => by
      cases r with
      | true => exact wpE_mono hC c (fun v h u => CmpW.mono (fun r w => m _ _ w) u) w
      | false => exact m _ _ w) z) y) x
  | .lit v, ρ, h, Q, Q', m, x => truth.mono (fun b y => m _ _ y) x
  | .var i, ρ, h, Q, Q', m, x => vK.mono (fun _ y => truth.mono (fun b y => m _ _ y) y) x
  | .call f args, ρ, h, Q, Q', m, x => wpEs_mono hC args (fun vs h y => hC _ _ _ _ _ (fun v h z => truth.mono (fun b w => m _ _ w) z) y) x
  | .isinst a t, ρ, h, Q, Q', m, x => wpE_mono hC a (fun v h y => IsW.mono (fun r z => m _ _ z) y) x
  | .meth mt o args, ρ, h, Q, Q', m, x => wpE_mono hC o (fun v h y => ⟨y.1, wpEs_mono hC args (fun vs h z => MethW.mono (fun v h w => truth.mono (fun b u => m _ _ u) w) z) y.2⟩) x
  | .bin .., _, _, _, _, _, x => x
  | .neg .., _, _, _, _, _, x => x
  | .sub .., _, _, _, _, _, x => x
  | .slice .., _, _, _, _, _, x => x
  | .tup .., _, _, _, _, _, x => x
  | .list .., _, _, _, _, _, x => x
  | .dict0, _, _, _, _, _, x => x
  | .dict1 .., _, _, _, _, _, x => x
  | .comp .., _, _, _, _, _, x => x
  | .bi .., _, _, _, _, _, x => x
end
mutual
theorem wpS_mono (hC : MonoC C) : ∀ (e : S) {ρ : Rho} {h : H} {Q Q' : Out → Rho → H → Prop}, (∀ o r h, Q o r h → Q' o r h) → wpS C e ρ h Q → wpS C e ρ h Q'
  | .assign t e, ρ, h, Q, Q', m, x => wpE_mono hC e (fun v h y => bindT.mono (fun r z => m _ _ _ z) y) x
  | .store o i e, ρ, h, Q, Q', m, x => wpE_mono hC e (fun v h y => wpE_mono hC o (fun v h z => wpE_mono hC i (fun v h w => StoreW.mono (fun h u => m _ _ _ u) w) z) y) x
  | .expr e, ρ, h, Q, Q', m, x => wpE_mono hC e (fun v h y => m _ _ _ y) x
  | .ite t a b, ρ, h, Q, Q', m, x => wpT_mono hC t (fun c h y => by cases c with | true => exact wpB_mono hC a m y | false => exact wpB_mono hC b m y) x
  | .while t b, ρ, h, Q, Q', m, x => by
      obtain ⟨f, x⟩ := x
      refine ⟨f, whileN_mono ?_ ?_ m _ _ _ x⟩
      · intro ρ h Q Q' m x; exact wpT_mono hC t m x
      · intro ρ h Q Q' m x; exact wpB_mono hC b m x
  | .for t it b, ρ, h, Q, Q', m, x => wpE_mono hC it (fun v h y => IterW.mono (fun i z => by
      obtain ⟨f, z⟩ := z
      refine ⟨f, forN_mono ?_ m _ _ _ _ z⟩
      intro v ρ h Q Q' m x
      refine bindT.mono (fun r y => ?_) x
      exact wpB_mono hC b m y) y) x
  | .ret none, ρ, h, Q, Q', m, x => m _ _ _ x
  | .ret (some e), ρ, h, Q, Q', m, x => wpE_mono hC e (fun v h y => m _ _ _ y) x
  | .raise, ρ, h, Q, Q', m, x => x
theorem wpB_mono (hC : MonoC C) : ∀ (e : List S) {ρ : Rho} {h : H} {Q Q' : Out → Rho → H → Prop}, (∀ o r h, Q o r h → Q' o r h) → wpB C e ρ h Q → wpB C e ρ h Q'
  | [], ρ, h, Q, Q', m, x => m _ _ _ x
  | s :: r, ρ, h, Q, Q', m, x => wpS_mono hC s (fun o ρ h y => by cases o with | next => exact wpB_mono hC r m y | ret v => exact m _ _ _ y) x
end
end

theorem calls_mono {Φ : Nat → Option Fn} : ∀ d, MonoC (Calls Φ d)
  | 0 => fun _ _ _ _ _ _ x => x
  | d + 1 => fun f vs h Q Q' m x => by
    obtain ⟨fn, h1, h2, h3⟩ := x
    exact ⟨fn, h1, h2, wpB_mono (calls_mono d) _ (fun o r h y => m _ _ y) h3⟩

/-! loops with an invariant -/
/-- an iterator that goes through a list, as long as K holds of the heap -/
noncomputable def Goes (it : Nat → It) (vs : List V) (K : H → Prop) : Prop := ∀ i h (stop : Prop) (item : V → It → Prop), K h → (match vs[i]? with | none => stop | some v => item v (it (i + 1))) → NextW (it i) h stop item
theorem goes_vals (vs : List V) : Goes (fun i => .vals (vs.drop i)) vs fun _ => True := by
  intro i h stop item _ x
  dsimp only at x ⊢
  by_cases hi : i < vs.length
  · rw [List.getElem?_eq_getElem hi] at x; rw [List.drop_eq_getElem_cons hi]; exact x
  · rw [List.getElem?_eq_none (by exact qm hi)] at x; rw [List.drop_of_length_le (show vs.length ≤ i by exact qm hi)]; exact x
theorem goes_seq (n : Nat) (vs : List V) : Goes (fun i => .seq n i) vs fun h => h[n]? = some (.list vs) := by
  intro i h stop item hk x
  unfold NextW
  dsimp only
  rw [hk]
  exact x
theorem forN_it {body : V → Rho → H → (Out → Rho → H → Prop) → Prop} (hb : MonoB body) {Q : Out → Rho → H → Prop} {it : Nat → It} {vs : List V} {K : H → Prop} (g : Goes it vs K) (I : Nat → Rho → H → Prop)
    (hl : ∀ i ρ h, I i ρ h → K h) (step : ∀ i v ρ h, vs[i]? = some v → I i ρ h → body v ρ h fun o ρ' h' => match o with | .next => I (i + 1) ρ' h' | .ret w => Q (.ret w) ρ' h')
    (fin : ∀ ρ h, I vs.length ρ h → Q .next ρ h) : ∀ (f i : Nat) ρ h, i ≤ vs.length → vs.length < f + i → I i ρ h → forN body f (it i) ρ h Q
  | 0, i, _, _, h1, h2, _ => by exact qf2 qc2 qv0 qv1 qs1 (qA qk0 qv0) qt h1 h2
  | f + 1, i, ρ, h, h1, h2, hI => by
    refine g i h _ _ (hl i ρ h hI) ?_
    by_cases hi : i < vs.length
    · rw [List.getElem?_eq_getElem hi]
      refine hb _ _ _ _ _ (fun o ρ' h' y => ?_) (step i vs[i] ρ h (List.getElem?_eq_getElem hi) hI)
      cases o with
      | ret w => exact y
      | next => exact forN_it hb g I hl step fin f (i + 1) ρ' h' (by exact hi) (by exact qp1 qc3 qs0 (qA qv1 qs2) qs0 (qA qs1 qv2) qt h2) y
    · have : i = vs.length := by exact Nat.le_antisymm (h1) (qm hi)
      subst this
      rw [List.getElem?_eq_none (Nat.le_refl _)]
      exact fin ρ h hI
theorem for_it {body : V → Rho → H → (Out → Rho → H → Prop) → Prop} (hb : MonoB body) {Q : Out → Rho → H → Prop} {it : Nat → It} {vs : List V} {K : H → Prop} (g : Goes it vs K) {ρ : Rho} {h : H} (I : Nat → Rho → H → Prop) (h0 : I 0 ρ h)
    (hl : ∀ i ρ h, I i ρ h → K h) (step : ∀ i v ρ h, vs[i]? = some v → I i ρ h → body v ρ h fun o ρ' h' => match o with | .next => I (i + 1) ρ' h' | .ret w => Q (.ret w) ρ' h')
    (fin : ∀ ρ h, I vs.length ρ h → Q .next ρ h) : ∃ f, forN body f (it 0) ρ h Q := ⟨vs.length + 1, forN_it hb g I hl step fin _ 0 ρ h (Nat.zero_le _) (by exact qp0 qc1 qs0 (qA qs0 qk0) qt ) h0⟩

theorem while_inv {test : Rho → H → (Bool → H → Prop) → Prop} {body : Rho → H → (Out → Rho → H → Prop) → Prop} (ht : MonoT test) (hb : MonoS body) {Q : Out → Rho → H → Prop} (I : Nat → Rho → H → Prop)
    (step : ∀ n ρ h, I n ρ h → test ρ h fun b h' => match b with
      | true => body ρ h' fun o ρ'' h'' => match o with | .next => ∃ m, m < n ∧ I m ρ'' h'' | .ret w => Q (.ret w) ρ'' h''
      | false => Q .next ρ h') : ∀ (n : Nat) ρ h, I n ρ h → ∃ f, whileN test body f ρ h Q := by
  have key : ∀ (n f : Nat) ρ h, n < f → I n ρ h → whileN test body f ρ h Q := by
    intro n
    induction n using Nat.strongRecOn with
    | ind n ih =>
      intro f ρ h hf hI
      cases f with
      | zero => exact qf1 qc1 qs0 qk0 qt hf
      | succ f =>
        refine ht _ _ _ _ (fun b h' y => ?_) (step n ρ h hI)
        cases b with
        | false => exact y
        | true =>
          refine hb _ _ _ _ (fun o ρ'' h'' z => ?_) y
          cases o with
          | ret w => exact z
          | next => obtain ⟨m, hm, hI'⟩ := z; exact ih m hm f ρ'' h'' (by exact qp2 qc3 qs0 qv1 qs2 qs1 qs0 qv2 qt hf hm) hI'
  exact fun n ρ h hI => ⟨n + 1, key n (n + 1) ρ h (by exact Nat.le_refl _) hI⟩

theorem compN_it {turn : V → H → (Option V → H → Prop) → Prop} (ht : MonoK turn) {Q : List V → H → Prop} {it : Nat → It} {vs : List V} {K : H → Prop} (g : Goes it vs K) (I : Nat → List V → H → Prop) (hl : ∀ i out h, I i out h → K h)
    (step : ∀ i v out h, vs[i]? = some v → I i out h → turn v h fun o h' => match o with | some x => out.length < SZ ∧ I (i + 1) (out ++ [x]) h' | none => I (i + 1) out h')
    (fin : ∀ out h, I vs.length out h → Q out h) : ∀ (f i : Nat) out h, i ≤ vs.length → vs.length < f + i → I i out h → compN turn f (it i) h out Q
  | 0, i, _, _, h1, h2, _ => by exact qf2 qc2 qv0 qv1 qs1 (qA qk0 qv0) qt h1 h2
  | f + 1, i, out, h, h1, h2, hI => by
    refine g i h _ _ (hl i out h hI) ?_
    by_cases hi : i < vs.length
    · rw [List.getElem?_eq_getElem hi]
      refine ht _ _ _ _ (fun o h' y => ?_) (step i vs[i] out h (List.getElem?_eq_getElem hi) hI)
      cases o with
      | some x => exact ⟨y.1, compN_it ht g I hl step fin f (i + 1) _ h' (by exact hi) (by exact qp1 qc3 qs0 (qA qv1 qs2) qs0 (qA qs1 qv2) qt h2) y.2⟩
      | none => exact compN_it ht g I hl step fin f (i + 1) _ h' (by exact hi) (by exact qp1 qc3 qs0 (qA qv1 qs2) qs0 (qA qs1 qv2) qt h2) y
    · have : i = vs.length := by exact Nat.le_antisymm (h1) (qm hi)
      subst this
      rw [List.getElem?_eq_none (Nat.le_refl _)]
      exact fin out h hI
theorem comp_it {turn : V → H → (Option V → H → Prop) → Prop} (ht : MonoK turn) {Q : List V → H → Prop} {it : Nat → It} {vs : List V} {K : H → Prop} (g : Goes it vs K) {h : H} (I : Nat → List V → H → Prop) (h0 : I 0 [] h) (hl : ∀ i out h, I i out h → K h)
    (step : ∀ i v out h, vs[i]? = some v → I i out h → turn v h fun o h' => match o with | some x => out.length < SZ ∧ I (i + 1) (out ++ [x]) h' | none => I (i + 1) out h') (fin : ∀ out h, I vs.length out h → Q out h) : ∃ f, compN turn f (it 0) h [] Q :=
  ⟨vs.length + 1, compN_it ht g I hl step fin _ 0 [] h (Nat.zero_le _) (by exact qp0 qc1 qs0 (qA qs0 qk0) qt ) h0⟩
end Tw
end

section
namespace Tw

theorem iter_list {n : Nat} {vs : List V} {h : H} {Q : It → Prop} (x : h[n]? = some (.list vs)) (q : Q (.seq n 0)) : IterW (.ref n) h Q := by
  unfold IterW; dsimp only; rw [x]; exact q

/-! rules, statement by statement -/
section
variable {C : Ora} {ρ : Rho} {h : H} {Q : Out → Rho → H → Prop} {r : List S}
theorem B_name {i : Nat} {e : E} (x : wpE C e ρ h fun v h₁ => wpB C r (upd ρ i v) h₁ Q) : wpB C (.assign (.name i) e :: r) ρ h Q := x
theorem B_expr {e : E} (x : wpE C e ρ h fun _ h₁ => wpB C r ρ h₁ Q) : wpB C (.expr e :: r) ρ h Q := x
theorem B_store {o i e : E} (x : wpE C e ρ h fun v h₁ => wpE C o ρ h₁ fun vo h₂ => wpE C i ρ h₂ fun vi h₃ => StoreW vo vi v h₃ fun h₄ => wpB C r ρ h₄ Q) : wpB C (.store o i e :: r) ρ h Q := x
theorem B_ret {e : E} (x : wpE C e ρ h fun v h₁ => Q (.ret v) ρ h₁) : wpB C (.ret (some e) :: r) ρ h Q := x
/-- what comes behind a block -/
noncomputable def thenB (C : Ora) (r : List S) (Q : Out → Rho → H → Prop) : Out → Rho → H → Prop := fun o ρ h => match o with
  | .next => wpB C r ρ h Q
  | .ret v => Q (.ret v) ρ h
theorem B_ite {t : E} {a b : List S} (x : wpT C t ρ h fun c h₁ => match c with | true => wpB C a ρ h₁ (thenB C r Q) | false => wpB C b ρ h₁ (thenB C r Q)) : wpB C (.ite t a b :: r) ρ h Q := x

variable (hC : MonoC C)
include hC
theorem B_for_it {t : Tgt} {e : E} {b : List S} {it : Nat → It} {vs : List V} {K : H → Prop} (g : Goes it vs K) (I : Nat → Rho → H → Prop) (hit : wpE C e ρ h fun v h₁ => (∀ Q : It → Prop, Q (it 0) → IterW v h₁ Q) ∧ I 0 ρ h₁) (hl : ∀ i ρ h, I i ρ h → K h)
    (step : ∀ i v ρ h, vs[i]? = some v → I i ρ h → bindT t v ρ fun ρ' => wpB C b ρ' h fun o ρ' h' => match o with | .next => I (i + 1) ρ' h' | .ret w => Q (.ret w) ρ' h') (fin : ∀ ρ h, I vs.length ρ h → wpB C r ρ h Q) : wpB C (.for t e b :: r) ρ h Q := by
  refine wpE_mono hC e (fun v h₁ ⟨hv, hI⟩ => hv _ ?_) hit
  have mb : MonoB (fun v ρ h k => bindT t v ρ fun ρ' => wpB C b ρ' h k) := by intro v ρ h Q Q' m x; exact bindT.mono (fun r y => wpB_mono hC b m y) x
  have : ∃ f, forN (fun v ρ h k => bindT t v ρ fun ρ' => wpB C b ρ' h k) f (it 0) ρ h₁ (thenB C r Q) := by
    refine for_it mb g I hI hl ?_ fin
    intro i v ρ h hv hI
    refine bindT.mono (fun r y => ?_) (step i v ρ h hv hI)
    exact wpB_mono hC b (fun o _ _ z => by cases o <;> exact z) y
  exact this
theorem B_while {t : E} {b : List S} (I : Nat → Rho → H → Prop) (n : Nat) (h0 : I n ρ h)
    (step : ∀ n ρ h, I n ρ h → wpT C t ρ h fun c h₁ => match c with
      | true => wpB C b ρ h₁ fun o ρ' h' => match o with | .next => ∃ m, m < n ∧ I m ρ' h' | .ret w => Q (.ret w) ρ' h'
      | false => wpB C r ρ h₁ Q) : wpB C (.while t b :: r) ρ h Q := by
  have : ∃ f, whileN (fun ρ h k => wpT C t ρ h k) (fun ρ h k => wpB C b ρ h k) f ρ h (thenB C r Q) := by
    have mt : MonoT (fun ρ h k => wpT C t ρ h k) := by intro ρ h Q Q' m x; exact wpT_mono hC t m x
    have mb : MonoS (fun ρ h k => wpB C b ρ h k) := by intro ρ h Q Q' m x; exact wpB_mono hC b m x
    refine while_inv mt mb I (fun n ρ h hI => ?_) n ρ h h0
    refine wpT_mono hC t (fun c h₁ y => ?_) (step n ρ h hI)
    cases c with
    | true => exact wpB_mono hC b (fun o _ _ z => by cases o <;> exact z) y
    | false => exact y
  exact this
end

section
variable {C : Ora} {ρ : Rho} {h : H} {Q : V → H → Prop} (hC : MonoC C)
include hC
theorem turn_mono {elt : E} {tgt : Tgt} {cond : Option E} : MonoK (fun v h k => bindT tgt v ρ fun ρ' => wpO C cond ρ' h fun b h₂ => match b with
        | true => wpE C elt ρ' h₂ fun x h₃ => k (some x) h₃
        | false => k none h₂) := fun v h K K' mk w => bindT.mono (fun r u => wpO_mono hC cond (fun b h t => by
        cases b with
        | true => exact wpE_mono hC elt (fun v h q => mk _ _ q) t
        | false => exact mk _ _ t) u) w
theorem E_comp_it {elt e : E} {tgt : Tgt} {cond : Option E} {it : Nat → It} {vs : List V} {K : H → Prop} (g : Goes it vs K) (I : Nat → List V → H → Prop) (hit : wpE C e ρ h fun v h₁ => (∀ Q : It → Prop, Q (it 0) → IterW v h₁ Q) ∧ I 0 [] h₁) (hl : ∀ i out h, I i out h → K h)
    (step : ∀ i v out h, vs[i]? = some v → I i out h → bindT tgt v ρ fun ρ' => wpO C cond ρ' h fun b h₂ => match b with | true => wpE C elt ρ' h₂ fun x h₃ => out.length < SZ ∧ I (i + 1) (out ++ [x]) h₃ | false => I (i + 1) out h₂)
    (fin : ∀ out h, I vs.length out h → Q (.ref h.length) (h ++ [.list out])) : wpE C (.comp elt tgt e cond) ρ h Q := by
  refine wpE_mono hC e (fun v h₁ ⟨hv, hI⟩ => hv _ ?_) hit
  exact comp_it (turn_mono hC) g I hI hl (fun i v out h hv hI => bindT.mono (fun r u => wpO_mono hC cond (fun b h t => by cases b <;> exact t) u) (step i v out h hv hI)) fin
theorem E_comp_seq {elt it : E} {tgt : Tgt} {cond : Option E} {n : Nat} {vs : List V} (I : Nat → List V → H → Prop) (hit : wpE C it ρ h fun v h₁ => v = .ref n ∧ I 0 [] h₁) (hl : ∀ i out h, I i out h → h[n]? = some (.list vs))
    (step : ∀ i v out h, vs[i]? = some v → I i out h → bindT tgt v ρ fun ρ' => wpO C cond ρ' h fun b h₂ => match b with | true => wpE C elt ρ' h₂ fun x h₃ => out.length < SZ ∧ I (i + 1) (out ++ [x]) h₃ | false => I (i + 1) out h₂)
    (fin : ∀ out h, I vs.length out h → Q (.ref h.length) (h ++ [.list out])) : wpE C (.comp elt tgt it cond) ρ h Q :=
  E_comp_it hC (goes_seq n vs) I (wpE_mono hC it (fun v h₁ ⟨e, hI⟩ => ⟨fun _ q => by rw [e]; exact iter_list (hl _ _ _ hI) q, hI⟩) hit) hl step fin
end

/-! ranges -/
theorem ints_get : ∀ (n : Nat) (a c : Int) (i : Nat), (intsV a c n)[i]? = if i < n then some (.int (a + i * c)) else none
  | 0, a, c, i => by simp [intsV]
  | n + 1, a, c, 0 => by simp [intsV]
  | n + 1, a, c, i + 1 => by
    rw [intsV, List.getElem?_cons_succ, ints_get n]
    by_cases h : i < n
    · simp [h]; grind
    · simp [h]
theorem rangeV_nat (n : Nat) : rangeV 0 n 1 = intsV 0 1 n := by
  unfold rangeV rangeLen
  by_cases h : (0 : Int) < n
  · rw [if_pos h]; congr 1; omega
  · rw [if_neg h]; congr 1; exact oq101 h
end Tw
end

section
namespace Tw

/-! each operator at values of a known kind -/
section
variable {h : H} {Q : V → H → Prop} {P : Bool → Prop} {R : V → Prop} {n : Nat} {vs : List V}
theorem x_addi {a b : Int} : BinW .add (.int a) (.int b) h Q = Q (.int (a + b)) h := rfl
theorem x_adds {a b : List Nat} : BinW .add (.str a) (.str b) h Q = (a.length + b.length ≤ SZ ∧ Q (.str (a ++ b)) h) := rfl
theorem x_addl {m : Nat} {ws : List V} (h1 : h[n]? = some (.list vs)) (h2 : h[m]? = some (.list ws)) : BinW .add (.ref n) (.ref m) h Q = (vs.length + ws.length ≤ SZ ∧ Q (.ref h.length) (h ++ [.list (vs ++ ws)])) :=
  propext ⟨fun ⟨a, b, g1, g2, g⟩ => by rw [h1] at g1; rw [h2] at g2; cases g1; cases g2; exact g, fun g => ⟨vs, ws, h1, h2, g⟩⟩
theorem x_subi {a b : Int} : BinW .sub (.int a) (.int b) h Q = Q (.int (a - b)) h := rfl
theorem x_muli {a b : Int} : BinW .mul (.int a) (.int b) h Q = (mulOk a b ∧ Q (.int (a * b)) h) := rfl
theorem x_fdiv {a b : Int} : BinW .fdiv (.int a) (.int b) h Q = (b ≠ 0 ∧ b.natAbs < 1073741824 ∧ Q (.int (a.fdiv b)) h) := rfl
theorem x_mod {a b : Int} : BinW .mod (.int a) (.int b) h Q = (b ≠ 0 ∧ Q (.int (a.fmod b)) h) := rfl
theorem x_tb {b : Bool} : truth (.bool b) h P = P b := rfl
theorem x_tn : truth .none h P = P false := rfl
theorem x_eqG {a b : V} {d₁ d₂ : D} {p : Prop} [Decidable p] (h1 : Snap h a d₁) (h2 : Snap h b d₂) (u1 : ∀ d, Snap h a d → d = d₁) (u2 : ∀ d, Snap h b d → d = d₂) (o1 : D.ok 9 d₁ = true) (o2 : D.ok 9 d₂ = true) (hp : (d₁ = d₂) ↔ p) : EqG a b h P = P (decide p) :=
  have e : decide (d₁ = d₂) = decide p := decide_eq_decide.mpr hp
  propext ⟨fun ⟨x, y, s1, s2, _, _, q⟩ => by rw [u1 x s1, u2 y s2, e] at q; exact q, fun q => ⟨d₁, d₂, h1, h2, o1, o2, by rw [e]; exact q⟩⟩
theorem sn_int {a : Int} {d : D} (x : Snap h (.int a) d) : d = .int a := by cases x; rfl
theorem sn_str {a : List Nat} {d : D} (x : Snap h (.str a) d) : d = .str a := by cases x; rfl
theorem D_int {a b : Int} : (D.int a = D.int b) ↔ a = b := ⟨fun h => D.int.inj h, fun h => h ▸ rfl⟩
theorem D_str {a b : List Nat} : (D.str a = D.str b) ↔ a = b := ⟨fun h => D.str.inj h, fun h => h ▸ rfl⟩
theorem x_eqi {a b : Int} : CmpW .eq (.int a) (.int b) h P = P (decide (a = b)) := x_eqG (.int _) (.int _) (fun _ => sn_int) (fun _ => sn_int) rfl rfl D_int
theorem x_eqs {a b : List Nat} : CmpW .eq (.str a) (.str b) h P = P (decide (a = b)) := x_eqG (.str _) (.str _) (fun _ => sn_str) (fun _ => sn_str) rfl rfl D_str
theorem x_eqb {a b : Bool} : CmpW .eq (.bool a) (.bool b) h P = P (decide (a = b)) := rfl
theorem x_nei {a b : Int} : CmpW .ne (.int a) (.int b) h P = P (!decide (a = b)) := x_eqi (P := fun r => P (!r))
theorem x_nes {a b : List Nat} : CmpW .ne (.str a) (.str b) h P = P (!decide (a = b)) := x_eqs (P := fun r => P (!r))
theorem x_lt {a b : Int} : CmpW .lt (.int a) (.int b) h P = P (decide (a < b)) := rfl
theorem x_le {a b : Int} : CmpW .le (.int a) (.int b) h P = P (decide (a ≤ b)) := rfl
theorem x_gt {a b : Int} : CmpW .gt (.int a) (.int b) h P = P (decide (b < a)) := rfl
theorem x_ge {a b : Int} : CmpW .ge (.int a) (.int b) h P = P (decide (b ≤ a)) := rfl
theorem x_isn {a : V} : CmpW .is a .none h P = P (decide (a = .none)) := rfl
theorem x_isnn {a : V} : CmpW .isNot a .none h P = P (!decide (a = .none)) := rfl
theorem x_isb {a b : Bool} : CmpW .is (.bool a) (.bool b) h P = P (decide (a = b)) := rfl
theorem x_isnb {a b : Bool} : CmpW .isNot (.bool a) (.bool b) h P = P (!decide (a = b)) := rfl
theorem x_eqd {a b : V} {d₁ d₂ : D} (h1 : Snap h a d₁) (h2 : Snap h b d₂) (h3 : D.ok 9 d₁ = true) (h4 : D.ok 9 d₂ = true) (x : P (decide (d₁ = d₂))) : EqW a b h P := by
  cases a with
  | bool => cases h1; cases h3
  | _ => exact ⟨d₁, d₂, h1, h2, h3, h4, x⟩
theorem x_in (P : Bool → Prop) {a : V} : InW a (.ref n) h P = (match h[n]? with
    | some (.list vs) => ∃ d ds, Snap h a d ∧ Snaps h vs ds ∧ D.ok 9 d = true ∧ (∀ d ∈ ds, D.ok 9 d = true) ∧ P (decide (d ∈ ds))
    | some (.dict es _) => a.isKey = true ∧ P (decide (a ∈ es.map (·.1)))
    | some (.frz _) => False
    | none => False) := rfl
theorem x_ind {a : V} {es : List (V × V)} {ver : Nat} (h1 : h[n]? = some (.dict es ver)) : CmpW .isIn a (.ref n) h P = (a.isKey = true ∧ P (decide (a ∈ es.map (·.1)))) := by
  show InW _ _ _ _ = _
  rw [x_in, h1]
theorem x_nid {a : V} {es : List (V × V)} {ver : Nat} (h1 : h[n]? = some (.dict es ver)) : CmpW .notIn a (.ref n) h P = (a.isKey = true ∧ P (!decide (a ∈ es.map (·.1)))) := by
  show InW a (.ref n) h (fun r => P (!r)) = _
  rw [x_in, h1]
theorem x_inl {a : V} (h1 : h[n]? = some (.list vs)) : CmpW .isIn a (.ref n) h P = ∃ d ds, Snap h a d ∧ Snaps h vs ds ∧ D.ok 9 d = true ∧ (∀ d ∈ ds, D.ok 9 d = true) ∧ P (decide (d ∈ ds)) := by
  show InW _ _ _ _ = _
  rw [x_in, h1]
theorem st_ex {k : Int} {v : V} (h0 : 0 ≤ k ∧ k < 2 ^ 62) (h1 : vs[k.toNat]? = some v) : SubW (.tup vs) (.int k) h R = R v := propext ⟨fun ⟨w, _, e, q⟩ => by rw [h1] at e; cases e; exact q, fun q => ⟨v, h0, h1, q⟩⟩
theorem x_st0 {a : V} {l : List V} : SubW (.tup (a :: l)) (.int 0) h R = R a := st_ex (by decide) rfl
theorem x_st1 {a b : V} {l : List V} : SubW (.tup (a :: b :: l)) (.int 1) h R = R b := st_ex (by decide) rfl
theorem x_st2 {a b c : V} {l : List V} : SubW (.tup (a :: b :: c :: l)) (.int 2) h R = R c := st_ex (by decide) rfl
theorem x_st3 {a b c d : V} {l : List V} : SubW (.tup (a :: b :: c :: d :: l)) (.int 3) h R = R d := st_ex (by decide) rfl
theorem x_ss {s : List Nat} {k : Int} : SubW (.str s) (.int k) h R = ∃ c, (0 ≤ k ∧ k < 2 ^ 62) ∧ s[k.toNat]? = some c ∧ R (.str [c]) := rfl
theorem x_sub {i : V} : SubW (.ref n) i h R = (match h[n]? with
    | some (.list vs) => asInt i fun k => (∃ v, (0 ≤ k ∧ k < 2 ^ 62) ∧ vs[k.toNat]? = some v ∧ R v) ∨ (∃ v, k = -1 ∧ vs.getLast? = some v ∧ R v)
    | some (.frz vs) => asInt i fun k => ∃ v, (0 ≤ k ∧ k < 2 ^ 62) ∧ vs[k.toNat]? = some v ∧ R v
    | some (.dict es _) => i.isKey = true ∧ ∃ v, dget es i = some v ∧ R v
    | none => False) := rfl
theorem x_sl {k : Int} {v : V} (h1 : h[n]? = some (.list vs)) (h0 : 0 ≤ k) (h2 : k < 2 ^ 62) (h3 : vs[k.toNat]? = some v) (x : R v) : SubW (.ref n) (.int k) h R := by
  rw [x_sub, h1]; exact .inl ⟨v, ⟨h0, h2⟩, h3, x⟩
theorem x_sln {k : Nat} {v : V} (h1 : h[n]? = some (.list vs)) (h2 : k < 2 ^ 62) (h3 : vs[k]? = some v) (x : R v) : SubW (.ref n) (.int k) h R := x_sl h1 (by exact oq4) (by omega) (by simpa using h3) x
theorem x_sf {k : Int} (h1 : h[n]? = some (.frz vs)) : SubW (.ref n) (.int k) h R = ∃ v, (0 ≤ k ∧ k < 2 ^ 62) ∧ vs[k.toNat]? = some v ∧ R v := by rw [x_sub, h1]; rfl
theorem x_lens {s : List Nat} : BiW .len [.str s] h Q = Q (.int s.length) h := rfl
theorem x_lent : BiW .len [.tup vs] h Q = Q (.int vs.length) h := rfl
theorem x_len : BiW .len [.ref n] h Q = (match h[n]? with
    | some (.list vs) => Q (.int vs.length) h
    | some (.frz vs) => Q (.int vs.length) h
    | some (.dict _ _) => False
    | none => False) := rfl
theorem x_lenl (h1 : h[n]? = some (.list vs)) : BiW .len [.ref n] h Q = Q (.int vs.length) h := by rw [x_len, h1]
theorem x_lenf (h1 : h[n]? = some (.frz vs)) : BiW .len [.ref n] h Q = Q (.int vs.length) h := by rw [x_len, h1]
theorem x_r1 {b : Int} : BiW .range [.int b] h Q = (smallI b ∧ Q (.rng 0 b 1) h) := rfl
theorem x_r2 {a b : Int} : BiW .range [.int a, .int b] h Q = (smallI a ∧ smallI b ∧ Q (.rng a b 1) h) := rfl
theorem x_r3 {a b c : Int} : BiW .range [.int a, .int b, .int c] h Q = (smallI a ∧ smallI b ∧ smallI c ∧ 0 < c ∧ Q (.rng a b c) h) := rfl
theorem x_li : BiW .list [.ref n] h Q = (match h[n]? with
    | some (.list vs) => vs.length ≤ SZ ∧ Q (.ref h.length) (h ++ [.list vs])
    | some (.frz _) => False
    | some (.dict es _) => Q (.ref h.length) (h ++ [.list (es.map (·.1))])
    | none => False) := rfl
theorem x_ld {es : List (V × V)} {ver : Nat} (h1 : h[n]? = some (.dict es ver)) : BiW .list [.ref n] h Q = Q (.ref h.length) (h ++ [.list (es.map (·.1))]) := by rw [x_li, h1]
theorem x_min {a b : Int} : BiW .min [.int a, .int b] h Q = Q (.int (min a b)) h := rfl
theorem x_ll (h1 : h[n]? = some (.list vs)) : BiW .list [.ref n] h Q = (vs.length ≤ SZ ∧ Q (.ref h.length) (h ++ [.list vs])) := by rw [x_li, h1]
theorem x_lr {a b c : Int} : BiW .list [.rng a b c] h Q = (rangeLen a b c ≤ SZ ∧ Q (.ref h.length) (h ++ [.list (rangeV a b c)])) := rfl
theorem x_get {T : List V → Prop} (h1 : h[n]? = some (.list vs)) : (∃ ws, h[n]? = some (.list ws) ∧ T ws) = T vs :=
  propext ⟨fun ⟨w, g, t⟩ => by rw [h1] at g; cases g; exact t, fun t => ⟨vs, h1, t⟩⟩
theorem x_app {v : V} (h1 : h[n]? = some (.list vs)) : MethW .append (.ref n) [v] h Q = (vs.length < SZ ∧ Q .none (h.set n (.list (vs ++ [v])))) := x_get (T := fun vs => vs.length < SZ ∧ Q .none (h.set n (.list (vs ++ [v])))) h1
theorem x_join {xs : List (List Nat)} (h1 : h[n]? = some (.list vs)) (h2 : isStrs vs = some xs) : MethW .join (.str []) [.ref n] h Q = ((xs.map List.length).sum ≤ SZ ∧ Q (.str (joinS [] xs)) h) :=
  propext ⟨fun ⟨ws, ys, g1, g2, _, g⟩ => by rw [h1] at g1; cases g1; rw [h2] at g2; cases g2; exact g, fun g => ⟨vs, xs, h1, h2, rfl, g⟩⟩
theorem x_pop {v : V} (h1 : h[n]? = some (.list (vs ++ [v]))) (q : Q v (h.set n (.list vs))) : MethW .pop (.ref n) [] h Q := ⟨vs, v, h1, q⟩
theorem x_rp (h1 : h[n]? = some (.list vs)) : recvOk .pop (.ref n) h := ⟨vs, h1⟩
theorem x_rj {s : List Nat} : recvOk .join (.str s) h = True := rfl
theorem x_sto {S : H → Prop} {i v : V} : StoreW (.ref n) i v h S = (match h[n]? with
    | some (.list _) => False
    | some (.dict es _) => i.isKey = true ∧ es.length < SZ ∧ ∀ ver, S (h.set n (.dict (dput es i v) ver))
    | some (.frz _) => False
    | none => False) := rfl
theorem x_std {S : H → Prop} {i v : V} {es : List (V × V)} {ver : Nat} (h1 : h[n]? = some (.dict es ver)) : StoreW (.ref n) i v h S = (i.isKey = true ∧ es.length < SZ ∧ ∀ ver, S (h.set n (.dict (dput es i v) ver))) := by rw [x_sto, h1]
theorem x_bn {v : V} {i : Nat} {ρ : Rho} {K : Rho → Prop} : bindT (.name i) v ρ K = K (upd ρ i v) := rfl
theorem x_bt {is : List Nat} {ρ : Rho} {K : Rho → Prop} : bindT (.tup is) (.tup vs) ρ K = (is.length = vs.length ∧ K (upds ρ is vs)) := rfl
theorem x_iil {a : Int} : IsW (.int a) .int h P = P true := rfl
theorem x_iib {a : Int} : IsW (.int a) .bool h P = P false := rfl
theorem x_iss {a : List Nat} : IsW (.str a) .str h P = P true := rfl
theorem x_itt : IsW (.tup vs) .tuple h P = P true := rfl
theorem x_is {t : Ty} : IsW (.ref n) t h P = (match h[n]? with
    | some (.list _) => P (tyEq t .list)
    | some (.dict _ _) => P false
    | some (.frz _) => False
    | none => False) := rfl
theorem x_inn : IsW .none .list h P = P false := rfl
end

section
variable {C : Ora} {ρ : Rho} {h : H} {Q : V → H → Prop}
theorem e_lit {v : V} : wpE C (.lit v) ρ h Q = Q v h := rfl
theorem e_vk {i : Nat} : wpE C (.var i) ρ h Q = vK (ρ i) fun v => Q v h := rfl
theorem vk_some {v : V} {k : V → Prop} : vK (some v) k = k v := rfl
theorem e_bin {op : Bop} {a b : E} : wpE C (.bin op a b) ρ h Q = wpE C a ρ h fun va h₁ => wpE C b ρ h₁ fun vb h₂ => BinW op va vb h₂ Q := rfl
theorem e_neg {i : Int} : wpE C (.neg (.lit (.int i))) ρ h Q = Q (.int (-i)) h := rfl
theorem e_not {a : E} : wpE C (.not a) ρ h Q = wpE C a ρ h fun v h₁ => truth v h₁ fun b => Q (.bool (!b)) h₁ := rfl
theorem e_and {a b : E} : wpE C (.and a b) ρ h Q = wpE C a ρ h fun v h₁ => truth v h₁ fun t => match t with | true => wpE C b ρ h₁ Q | false => Q v h₁ := rfl
theorem e_or {a b : E} : wpE C (.or a b) ρ h Q = wpE C a ρ h fun v h₁ => truth v h₁ fun t => match t with | true => Q v h₁ | false => wpE C b ρ h₁ Q := rfl
theorem e_cmp {op : Cmp} {a b : E} : wpE C (.cmp op a b) ρ h Q = wpE C a ρ h fun va h₁ => wpE C b ρ h₁ fun vb h₂ => CmpW op va vb h₂ fun r => Q (.bool r) h₂ := rfl
theorem e_cmp2 {op1 op2 : Cmp} {a b c : E} : wpE C (.cmp2 op1 op2 a b c) ρ h Q = wpE C a ρ h fun va h₁ => wpE C b ρ h₁ fun vb h₂ => CmpW op1 va vb h₂ fun r => match r with
    | true => wpE C c ρ h₂ fun vc h₃ => CmpW op2 vb vc h₃ fun r => Q (.bool r) h₃
    | false => Q (.bool false) h₂ := rfl
theorem e_sub {a i : E} : wpE C (.sub a i) ρ h Q = wpE C a ρ h fun va h₁ => wpE C i ρ h₁ fun vi h₂ => SubW va vi h₂ fun v => Q v h₂ := rfl
theorem e_slice {a lo hi : E} : wpE C (.slice a lo hi) ρ h Q = wpE C a ρ h fun va h₁ => wpE C lo ρ h₁ fun vl h₂ => wpE C hi ρ h₂ fun vh h₃ => SliceW va vl vh h₃ Q := rfl
theorem e_tup {es : List E} : wpE C (.tup es) ρ h Q = wpEs C es ρ h fun vs h₁ => Q (.tup vs) h₁ := rfl
theorem e_list {es : List E} : wpE C (.list es) ρ h Q = wpEs C es ρ h fun vs h₁ => Q (.ref h₁.length) (h₁ ++ [.list vs]) := rfl
theorem e_dict0 : wpE C .dict0 ρ h Q = ∀ ver, Q (.ref h.length) (h ++ [.dict [] ver]) := rfl
theorem e_dict1 {k v : E} : wpE C (.dict1 k v) ρ h Q = wpE C k ρ h fun vk h₁ => wpE C v ρ h₁ fun vv h₂ => vk.isKey = true ∧ ∀ ver, Q (.ref h₂.length) (h₂ ++ [.dict [(vk, vv)] ver]) := rfl
theorem e_call {f : Nat} {args : List E} : wpE C (.call f args) ρ h Q = wpEs C args ρ h fun vs h₁ => C f vs h₁ Q := rfl
theorem e_bi {b : Bi} {args : List E} : wpE C (.bi b args) ρ h Q = wpEs C args ρ h fun vs h₁ => BiW b vs h₁ Q := rfl
theorem e_isinst {a : E} {t : Ty} : wpE C (.isinst a t) ρ h Q = wpE C a ρ h fun v h₁ => IsW v t h₁ fun r => Q (.bool r) h₁ := rfl
theorem e_meth {m : Mt} {o : E} {args : List E} : wpE C (.meth m o args) ρ h Q = wpE C o ρ h fun vo h₁ => recvOk m vo h₁ ∧ wpEs C args ρ h₁ fun vs h₂ => MethW m vo vs h₂ Q := rfl
end
theorem x_eq {h : H} {P : Bool → Prop} {a b : V} : CmpW .eq a b h P = EqW a b h P := rfl
theorem x_ne {h : H} {P : Bool → Prop} {a b : V} : CmpW .ne a b h P = EqW a b h (fun r => P (!r)) := rfl

theorem upd_eq {ρ : Rho} {i : Nat} {v : V} : upd ρ i v i = some v := by simp [upd]
theorem upd_ne {ρ : Rho} {i j : Nat} {v : V} (h : j ≠ i) : upd ρ i v j = ρ j := by simp [upd, h]

section
variable {C : Ora} {ρ : Rho} {h : H} {Q : Bool → H → Prop}
theorem es_nil {Q : List V → H → Prop} : wpEs C [] ρ h Q = Q [] h := rfl
theorem es_cons {e : E} {es : List E} {Q : List V → H → Prop} : wpEs C (e :: es) ρ h Q = wpE C e ρ h fun v h₁ => wpEs C es ρ h₁ fun vs h₂ => Q (v :: vs) h₂ := rfl
theorem o_none : wpO C none ρ h Q = Q true h := rfl
theorem o_some {t : E} : wpO C (some t) ρ h Q = wpT C t ρ h Q := rfl
theorem t_not {a : E} : wpT C (.not a) ρ h Q = wpT C a ρ h fun b h₁ => Q (!b) h₁ := rfl
theorem t_and {a b : E} : wpT C (.and a b) ρ h Q = wpT C a ρ h fun t h₁ => match t with | true => wpT C b ρ h₁ Q | false => Q false h₁ := rfl
theorem t_or {a b : E} : wpT C (.or a b) ρ h Q = wpT C a ρ h fun t h₁ => match t with | true => Q true h₁ | false => wpT C b ρ h₁ Q := rfl
theorem t_cmp {op : Cmp} {a b : E} : wpT C (.cmp op a b) ρ h Q = wpE C a ρ h fun va h₁ => wpE C b ρ h₁ fun vb h₂ => CmpW op va vb h₂ fun r => Q r h₂ := rfl
theorem t_cmp2 {op1 op2 : Cmp} {a b c : E} : wpT C (.cmp2 op1 op2 a b c) ρ h Q = wpE C a ρ h fun va h₁ => wpE C b ρ h₁ fun vb h₂ => CmpW op1 va vb h₂ fun r => match r with
    | true => wpE C c ρ h₂ fun vc h₃ => CmpW op2 vb vc h₃ fun r => Q r h₃
    | false => Q false h₂ := rfl
theorem t_lit {v : V} : wpT C (.lit v) ρ h Q = truth v h fun b => Q b h := rfl
theorem t_vk {i : Nat} : wpT C (.var i) ρ h Q = vK (ρ i) fun v => truth v h fun b => Q b h := rfl
theorem t_call {f : Nat} {args : List E} : wpT C (.call f args) ρ h Q = wpEs C args ρ h fun vs h₁ => C f vs h₁ fun v h₂ => truth v h₂ fun b => Q b h₂ := rfl
theorem t_isinst {a : E} {t : Ty} : wpT C (.isinst a t) ρ h Q = wpE C a ρ h fun v h₁ => IsW v t h₁ fun r => Q r h₁ := rfl
theorem t_meth {m : Mt} {o : E} {args : List E} : wpT C (.meth m o args) ρ h Q = wpE C o ρ h fun vo h₁ => recvOk m vo h₁ ∧ wpEs C args ρ h₁ fun vs h₂ => MethW m vo vs h₂ fun v h₃ => truth v h₃ fun b => Q b h₃ := rfl
end
theorem u_nil {ρ : Rho} {vs : List V} : upds ρ [] vs = ρ := rfl
theorem u_cons {ρ : Rho} {i : Nat} {is : List Nat} {v : V} {vs : List V} : upds ρ (i :: is) (v :: vs) = upds (upd ρ i v) is vs := rfl
section
variable {C : Ora} {ρ : Rho} {h : H} {Q : Out → Rho → H → Prop} {r : List S}
theorem b_nil : wpB C [] ρ h Q = Q .next ρ h := rfl
theorem b_ret {e : E} : wpB C (.ret (some e) :: r) ρ h Q = wpE C e ρ h fun v h₁ => Q (.ret v) ρ h₁ := rfl
theorem b_ite {t : E} {a b : List S} : wpB C (.ite t a b :: r) ρ h Q = wpT C t ρ h fun c h₁ => match c with | true => wpB C a ρ h₁ (thenB C r Q) | false => wpB C b ρ h₁ (thenB C r Q) := rfl
theorem th_next : thenB C r Q .next ρ h = wpB C r ρ h Q := rfl
theorem th_ret {v : V} : thenB C r Q (.ret v) ρ h = Q (.ret v) ρ h := rfl
theorem ov_ret {v : V} : Out.val (.ret v) = v := rfl
theorem ov_next : Out.val .next = V.none := rfl
end
end Tw
end

section
namespace Tw
/-! short steps -/
section
variable {ρ : Rho} {h : H} {R : V → Prop} {C : Ora} {Q : V → H → Prop} {P : Bool → Prop}
end
end Tw
end

section
namespace Tw

/-! loops that only gather -/
section
variable {C : Ora} {ρ : Rho} {H : Tw.H} {α : Type} {l : List α} {f : α → V} {g : α → Option V} (hC : MonoC C)
theorem fm_take {i : Nat} {a : α} (h : l[i]? = some a) : (l.take (i + 1)).filterMap g = (l.take i).filterMap g ++ (g a).toList := by
  rw [List.take_add_one, h, List.filterMap_append]
  cases hg : g a <;> simp [hg]
theorem fm_len (i : Nat) (h : i ≤ l.length) : ((l.take i).filterMap g).length ≤ i := Nat.le_trans (List.length_filterMap_le _ _) (by rw [List.length_take]; exact oq102)
theorem map_at {i : Nat} {v : V} (h : (l.map f)[i]? = some v) : ∃ a, l[i]? = some a ∧ f a = v ∧ i < l.length := by
  rw [List.getElem?_map] at h
  obtain ⟨a, h1, h2⟩ := Option.map_eq_some_iff.mp h
  exact ⟨a, h1, h2, (List.getElem?_eq_some_iff.mp h1).1⟩
include hC
/-- a comprehension that changes no heap -/
theorem E_comp_pure {elt e : E} {tgt : Tgt} {cond : Option E} {it : Nat → It} {K : Tw.H → Prop} {Q : V → Tw.H → Prop} (go : Goes it (l.map f) K) (hit : wpE C e ρ H fun v h₁ => (∀ Q : It → Prop, Q (it 0) → IterW v H Q) ∧ h₁ = H) (hK : K H) (hl : l.length ≤ SZ)
    (step : ∀ a ∈ l, bindT tgt (f a) ρ fun ρ' => wpO C cond ρ' H fun b h₂ => h₂ = H ∧ b = (g a).isSome ∧ ∀ w, g a = some w → wpE C elt ρ' H fun x h₃ => x = w ∧ h₃ = H)
    (q : Q (.ref H.length) (H ++ [.list (l.filterMap g)])) : wpE C (.comp elt tgt e cond) ρ H Q := by
  refine E_comp_it hC go (fun i out h => h = H ∧ out = (l.take i).filterMap g) (wpE_mono hC e (fun v h₁ ⟨a, b⟩ => ⟨by rw [b]; exact a, b, by simp⟩) hit) (fun i out h ⟨a, _⟩ => by rw [a]; exact hK) ?_ ?_
  · rintro i v out h hv ⟨rfl, rfl⟩
    obtain ⟨a, ha, rfl, hil⟩ := map_at hv
    have hlen := fm_len (l := l) (g := g) i (by exact qp1 qc2 qv0 qv1 qs0 qv1 qt hil)
    rw [fm_take ha]
    refine bindT.mono (fun ρ' x => wpO_mono hC cond (fun b h₂ y => ?_) x) (step a (List.mem_of_getElem? ha))
    obtain ⟨rfl, rfl, y⟩ := y
    cases hg : g a with
    | none => exact ⟨rfl, by simp⟩
    | some w => exact wpE_mono hC elt (fun x h₃ ⟨a, b⟩ => ⟨by exact qp3 qc4 qs0 qv1 qv2 qv1 qs3 qv2 qv0 qv3 qt hl hil hlen, b, by rw [a]; rfl⟩) (y w hg)
  · rintro out h ⟨rfl, rfl⟩
    rw [List.length_map, List.take_length]; exact q
omit hC in
end
/-- a text's slice -/
theorem x_slice {h : H} {Q : V → H → Prop} {s : List Nat} {i k : Nat} (hk : i + k < 2 ^ 62) (q : Q (.str ((s.take (i + k)).drop i)) h) : SliceW (.str s) (.int i) (.int ((i : Int) + k)) h Q := by
  refine ⟨i, i + k, ?_, ?_, q⟩
  · unfold loOf; dsimp only; rw [if_pos (by omega)]; simp
  · unfold hiOf; dsimp only; rw [if_pos (by omega)]; congr 1
end Tw
end

section
namespace Tw

/-! plain expressions, by evaluation. An environment is a list of what is known, the newest first. -/
abbrev Env := List (Nat × V)
noncomputable def lk : Env → Nat → Option V
  | [], _ => none
  | (j, v) :: r, i => match Nat.beq i j with
    | true => some v
    | false => lk r i
noncomputable def Ag (L : Env) (ρ : Rho) : Prop := ∀ i v, lk L i = some v → ρ i = some v
theorem Ag.push {L : Env} {ρ : Rho} {i : Nat} {v : V} (r : Ag L ρ) : Ag ((i, v) :: L) (upd ρ i v) := fun j w e => by
  unfold lk at e
  cases hb : Nat.beq j i with
  | true => rw [hb] at e; cases e; rw [Nat.eq_of_beq_eq_true hb]; exact upd_eq
  | false => rw [hb] at e; rw [upd_ne (Nat.ne_of_beq_eq_false hb)]; exact r j w e
noncomputable def pushs (L : Env) : List Nat → List V → Env
  | i :: is, v :: vs => pushs ((i, v) :: L) is vs
  | _, _ => L
theorem Ag.pushs : ∀ {L : Env} {ρ : Rho} (is : List Nat) (vs : List V), Ag L ρ → Ag (pushs L is vs) (upds ρ is vs)
  | _, _, [], _, r => r
  | _, _, _ :: _, [], r => r
  | _, _, _ :: is, _ :: vs, r => Ag.pushs is vs r.push
noncomputable def argsL (k : Nat) : List V → Env
  | [] => []
  | v :: vs => (k, v) :: argsL (k + 1) vs
theorem lk_args : ∀ (vs : List V) (k i : Nat) (v : V), lk (argsL k vs) i = some v → ∃ j, i = k + j ∧ vs[j]? = some v
  | [], _, _, _, e => nomatch e
  | w :: vs, k, i, v, e => by
    unfold argsL lk at e
    cases hb : Nat.beq i k with
    | true => rw [hb] at e; cases e; exact ⟨0, Nat.eq_of_beq_eq_true hb, rfl⟩
    | false => rw [hb] at e; obtain ⟨j, h1, h2⟩ := lk_args vs (k + 1) i v e; exact ⟨j + 1, by exact Nat.le_antisymm (qp1 qc3 qv0 (qA qv1 qs2) qv0 (qA qs1 qv2) qt (qe h1)) (qp1 qc3 (qA qv0 qs1) qv2 (qA qs0 qv1) qv2 qt (qi h1)), h2⟩
theorem ag_args (vs : List V) : Ag (argsL 0 vs) (argsR vs) := fun i v e => by
  obtain ⟨j, h1, h2⟩ := lk_args vs 0 i v e
  rw [h1, Nat.zero_add]; exact h2
noncomputable def AllIn : Env → Env → Prop
  | [], _ => True
  | (i, v) :: r, L => lk L i = some v ∧ AllIn r L
theorem AllIn.ag {L : Env} {ρ : Rho} (a : Ag L ρ) : ∀ {L' : Env}, AllIn L' L → Ag L' ρ
  | [], _ => fun _ _ e => nomatch e
  | (j, w) :: r, h => fun i v e => by
    unfold lk at e
    cases hb : Nat.beq i j with
    | true => rw [hb] at e; cases e; rw [Nat.eq_of_beq_eq_true hb]; exact a j _ h.1
    | false => rw [hb] at e; exact AllIn.ag a h.2 i v e

noncomputable def AllP : List Prop → Prop
  | [] => True
  | p :: r => p ∧ AllP r
theorem allP_app {a b : List Prop} (h : AllP (a ++ b)) : AllP a ∧ AllP b := by
  induction a with
  | nil => exact ⟨trivial, h⟩
  | cons p a ih => exact ⟨⟨h.1, (ih h.2).1⟩, (ih h.2).2⟩

/-! evaluation: what the heap is asked is answered from a list, and stands among the conditions -/
noncomputable abbrev M (α : Type) := List V → Option (α × List Prop × List V)
section
variable {α β : Type}
noncomputable def M.ret (a : α) : M α := fun g => some (a, [], g)
noncomputable def M.fail : M α := fun _ => none
noncomputable def M.of (o : Option α) : M α := fun g => match o with
  | some a => some (a, [], g)
  | none => none
noncomputable def M.need (p : Prop) (a : α) : M α := fun g => some (a, [p], g)
noncomputable def next2 (c : List Prop) : Option (β × List Prop × List V) → Option (β × List Prop × List V)
  | some (b, c', g) => some (b, c ++ c', g)
  | none => none
noncomputable def M.bind (m : M α) (f : α → M β) : M β := fun g => match m g with
  | some (a, c, g) => next2 c (f a g)
  | none => none
noncomputable def M.ask (k : V → M α) : M α := fun g => match g with
  | v :: r => k v r
  | [] => none
noncomputable def evI (v : V) (k : Int → M α) : M α := match v with
  | .int i => k i
  | _ => M.fail
noncomputable def evS (v : V) (k : List Nat → M α) : M α := match v with
  | .str i => k i
  | _ => M.fail
noncomputable def evB (v : V) (k : Bool → M α) : M α := match v with
  | .bool i => k i
  | _ => M.fail
/-- sound: what comes out may be what goes on -/
noncomputable def Snd (m : M α) (W : (α → Prop) → Prop) : Prop := ∀ g a c g', m g = some (a, c, g') → AllP c → ∀ K : α → Prop, K a → W K
theorem Snd.fail {W : (α → Prop) → Prop} : Snd (M.fail : M α) W := fun _ _ _ _ e => nomatch e
theorem Snd.ret {a : α} {W : (α → Prop) → Prop} (h : ∀ K : α → Prop, K a → W K) : Snd (M.ret a) W := fun g b c g' e _ K q => by cases e; exact h K q
theorem Snd.need {p : Prop} {a : α} {W : (α → Prop) → Prop} (h : p → ∀ K : α → Prop, K a → W K) : Snd (M.need p a) W := fun g b c g' e hc K q => by cases e; exact h hc.1 K q
theorem Snd.of {o : Option α} {W : (α → Prop) → Prop} (h : ∀ a, o = some a → ∀ K : α → Prop, K a → W K) : Snd (M.of o) W := by
  cases o with
  | none => exact fun _ _ _ _ e => nomatch e
  | some x => exact fun g b c g' e _ K q => by cases e; exact h _ rfl K q
theorem Snd.bind {m : M α} {f : α → M β} {W1 : (α → Prop) → Prop} {W2 : α → (β → Prop) → Prop} (h1 : Snd m W1) (h2 : ∀ a, Snd (f a) (W2 a)) : Snd (M.bind m f) (fun K => W1 fun a => W2 a K) := fun g b c g' e hc K q => by
  unfold M.bind at e
  cases hm : m g with
  | none => rw [hm] at e; cases e
  | some x =>
    obtain ⟨a, c1, g1⟩ := x
    rw [hm] at e
    cases hf : f a g1 with
    | none => simp only [hf] at e; cases e
    | some y =>
      obtain ⟨b', c2, g2⟩ := y
      simp only [hf] at e
      cases e
      obtain ⟨p1, p2⟩ := allP_app hc
      exact h1 _ _ _ _ hm p1 _ (h2 a _ _ _ _ hf p2 K q)
theorem Snd.ask {k : V → M α} {W : (α → Prop) → Prop} (h : ∀ v, Snd (k v) W) : Snd (M.ask k) W := fun g b c g' e hc K q => by
  cases g with
  | nil => cases e
  | cons v r => exact h v _ _ _ _ e hc K q
theorem Snd.evI {v : V} {k : Int → M α} {W : (α → Prop) → Prop} (h : ∀ i, v = .int i → Snd (k i) W) : Snd (Tw.evI v k) W := by
  cases v with
  | int i => exact h i rfl
  | _ => exact Snd.fail
theorem Snd.evS {v : V} {k : List Nat → M α} {W : (α → Prop) → Prop} (h : ∀ i, v = .str i → Snd (k i) W) : Snd (Tw.evS v k) W := by
  cases v with
  | str i => exact h i rfl
  | _ => exact Snd.fail
theorem Snd.evB {v : V} {k : Bool → M α} {W : (α → Prop) → Prop} (h : ∀ i, v = .bool i → Snd (k i) W) : Snd (Tw.evB v k) W := by
  cases v with
  | bool i => exact h i rfl
  | _ => exact Snd.fail
theorem Snd.mono {m : M α} {W W' : (α → Prop) → Prop} (x : Snd m W) (h : ∀ K, W K → W' K) : Snd m W' := fun g a c g' e hc K q => h K (x g a c g' e hc K q)
end

/-! what the heap is asked -/
noncomputable def RdW (h : H) (a i v : V) : Prop := ∀ R : V → Prop, R v → SubW a i h R
noncomputable def LnW (h : H) (a v : V) : Prop := ∀ Q : V → H → Prop, Q v h → BiW .len [a] h Q
noncomputable def SlW (h : H) (a i j v : V) : Prop := ∀ Q : V → H → Prop, Q v h → SliceW a i j h Q
noncomputable def CmW (h : H) (op : Cmp) (a b : V) (r : Bool) : Prop := ∀ P : Bool → Prop, P r → CmpW op a b h P

/-! the operators -/
noncomputable def nthV : List V → Nat → Option V
  | [], _ => none
  | v :: r, k => match k with
    | 0 => some v
    | k + 1 => nthV r k
theorem nthV_get : ∀ (l : List V) (k : Nat), nthV l k = l[k]?
  | [], k => by simp [nthV]
  | v :: r, 0 => rfl
  | v :: r, k + 1 => by rw [nthV, nthV_get r k]; simp
noncomputable def isNoneB : V → Bool
  | .none => true
  | _ => false
theorem isNoneB_eq (v : V) : decide (v = .none) = isNoneB v := by
  cases v with
  | none => exact decide_eq_true rfl
  | _ => exact decide_eq_false (fun x => nomatch x)
noncomputable def mBin (op : Bop) (a b : V) : M V :=
  match op with
  | .add => match a with
    | .str a => evS b fun b => M.need (a.length + b.length ≤ SZ) (.str (a ++ b))
    | a => evI a fun a => evI b fun b => M.ret (.int (a + b))
  | .sub => evI a fun a => evI b fun b => M.ret (.int (a - b))
  | .mul => evI a fun a => evI b fun b => M.need (mulOk a b) (.int (a * b))
  | .fdiv => evI a fun a => evI b fun b => M.need (b ≠ 0 ∧ b.natAbs < 1073741824) (.int (a.fdiv b))
  | .mod => evI a fun a => evI b fun b => M.need (b ≠ 0) (.int (a.fmod b))
noncomputable def mSub (h : H) (a i : V) : M V :=
  match a with
  | .tup vs => evI i fun k => match k with
    | .ofNat k => match Nat.ble k 1000 with
      | true => M.of (nthV vs k)
      | false => M.fail
    | _ => M.fail
  | a => M.ask fun v => M.need (RdW h a i v) v
noncomputable def mEq (h : H) (op : Cmp) (f : Bool → Bool) (a b : V) : M Bool := match a with
  | .int a => evI b fun b => M.ret (f (decide (a = b)))
  | .str a => evS b fun b => M.ret (f (decide (a = b)))
  | .bool a => evB b fun b => M.ret (f (decide (a = b)))
  | a => M.ask fun r => evB r fun r => M.need (CmW h op a b r) r
noncomputable def mCmp (h : H) (op : Cmp) (a b : V) : M Bool :=
  match op with
  | .eq => mEq h .eq (fun r => r) a b
  | .ne => mEq h .ne (fun r => !r) a b
  | .lt => evI a fun a => evI b fun b => M.ret (decide (a < b))
  | .le => evI a fun a => evI b fun b => M.ret (decide (a ≤ b))
  | .gt => evI a fun a => evI b fun b => M.ret (decide (b < a))
  | .ge => evI a fun a => evI b fun b => M.ret (decide (b ≤ a))
  | .is => match b with
    | .none => M.ret (isNoneB a)
    | _ => M.fail
  | .isNot => match b with
    | .none => M.ret (!isNoneB a)
    | _ => M.fail
  | op => M.ask fun r => evB r fun r => M.need (CmW h op a b r) r
noncomputable def mLen (h : H) (v : V) : M V := match v with
  | .str s => M.ret (.int s.length)
  | .tup vs => M.ret (.int vs.length)
  | v => M.ask fun n => M.need (LnW h v n) n
noncomputable def mIs (v : V) (t : Ty) : M Bool := match v with
  | .none => M.ret false
  | .int _ => M.ret (tyEq t .int)
  | .str _ => M.ret (tyEq t .str)
  | .tup _ => M.ret (tyEq t .tuple)
  | _ => M.fail
noncomputable def guard (b : Bool) : List Prop → List Prop
  | [] => []
  | c => [b = true → AllP c]
theorem guard_ok {b : Bool} {c : List Prop} (h : AllP (guard b c)) (hb : b = true) : AllP c := by
  cases c with
  | nil => trivial
  | cons p r => exact h.1 hb
/-- the second only where the first says x -/
noncomputable def lazy2 (x : Bool) (f : Bool → Bool) (c : List Prop) : Option (Bool × List Prop × List V) → Option (Bool × List Prop × List V)
  | some (y, c', g) => some (f y, c ++ guard x c', g)
  | none => none
noncomputable def M.lazy (x : Bool) (f : Bool → Bool) (m : M Bool) : M Bool := fun g => lazy2 x f [] (m g)
theorem Snd.lazy {x : Bool} {f : Bool → Bool} {m : M Bool} {W W' : (Bool → Prop) → Prop} (h : Snd m W) (h1 : x = true → ∀ K, W (fun y => K (f y)) → W' K) (h2 : x = false → ∀ y K, K (f y) → W' K) : Snd (M.lazy x f m) W' := fun g a c g' e hc K q => by
  unfold M.lazy at e
  cases hm : m g with
  | none => rw [hm] at e; cases e
  | some z =>
    obtain ⟨y, c1, g1⟩ := z
    rw [hm] at e
    cases e
    cases hx : x with
    | true => exact h1 hx K (h _ _ _ _ hm (guard_ok hc hx) (fun y => K (f y)) q)
    | false => exact h2 hx y K q
noncomputable def mOne (vs : List V) (k : V → M V) : M V := match vs with
  | [v] => k v
  | _ => M.fail
theorem Snd.one {vs : List V} {k : V → M V} {W : (V → Prop) → Prop} (h : ∀ v, vs = [v] → Snd (k v) W) : Snd (mOne vs k) W := by
  match vs, h with
  | [], _ => exact Snd.fail
  | [v], h => exact h v rfl
  | _ :: _ :: _, _ => exact Snd.fail
mutual
noncomputable def ev (L : Env) (h : H) : E → M V
  | .lit v => M.ret v
  | .var i => M.of (lk L i)
  | .bin op a b => (ev L h a).bind fun x => (ev L h b).bind fun y => mBin op x y
  | .neg a => (ev L h a).bind fun x => evI x fun i => M.ret (.int (-i))
  | .sub a i => (ev L h a).bind fun x => (ev L h i).bind fun y => mSub h x y
  | .tup es => (evs L h es).bind fun vs => M.ret (.tup vs)
  | .bi b as => match b with
    | .len => (evs L h as).bind fun vs => mOne vs (mLen h)
    | .range => (evs L h as).bind fun vs => mOne vs fun v => evI v fun b => M.need (smallI b) (.rng 0 b 1)
    | _ => M.fail
  | .slice a lo hi => (ev L h a).bind fun x => (ev L h lo).bind fun y => (ev L h hi).bind fun z => M.ask fun w => M.need (SlW h x y z w) w
  | .not a => (ev L h a).bind fun x => evB x fun x => M.ret (.bool (!x))
  | .cmp op a b => (ev L h a).bind fun x => (ev L h b).bind fun y => (mCmp h op x y).bind fun r => M.ret (.bool r)
  | .isinst a t => (ev L h a).bind fun x => (mIs x t).bind fun r => M.ret (.bool r)
  | .and a b => (ev L h a).bind fun x => evB x fun x => (M.lazy x (fun y => x && y) ((ev L h b).bind fun y => evB y M.ret)).bind fun r => M.ret (.bool r)
  | .cmp2 o1 o2 a b c => (ev L h a).bind fun x => (ev L h b).bind fun y => (mCmp h o1 x y).bind fun r => (M.lazy r (fun z => r && z) ((ev L h c).bind fun z => mCmp h o2 y z)).bind fun r => M.ret (.bool r)
  | _ => M.fail
noncomputable def evs (L : Env) (h : H) : List E → M (List V)
  | [] => M.ret []
  | e :: es => (ev L h e).bind fun v => (evs L h es).bind fun vs => M.ret (v :: vs)
end
noncomputable def evT (L : Env) (h : H) : E → M Bool
  | .not a => (evT L h a).bind fun x => M.ret (!x)
  | .and a b => (evT L h a).bind fun x => M.lazy x (fun y => x && y) (evT L h b)
  | .or a b => (evT L h a).bind fun x => M.lazy (!x) (fun y => x || y) (evT L h b)
  | .cmp op a b => (ev L h a).bind fun x => (ev L h b).bind fun y => mCmp h op x y
  | .cmp2 o1 o2 a b c => (ev L h a).bind fun x => (ev L h b).bind fun y => (mCmp h o1 x y).bind fun r => M.lazy r (fun z => r && z) ((ev L h c).bind fun z => mCmp h o2 y z)
  | .lit v => evB v fun b => M.ret b
  | .var i => (M.of (lk L i)).bind fun v => match isNoneB v with
    | true => M.ret false
    | false => evB v fun b => M.ret b
  | .isinst a t => (ev L h a).bind fun x => mIs x t
  | _ => M.fail

/-! each is sound -/
section
variable {C : Ora} {ρ : Rho} {h : H}
noncomputable def WE (C : Ora) (ρ : Rho) (h : H) (e : E) (K : V → Prop) : Prop := ∀ Q : V → H → Prop, (∀ v, K v → Q v h) → wpE C e ρ h Q
noncomputable def WEs (C : Ora) (ρ : Rho) (h : H) (e : List E) (K : List V → Prop) : Prop := ∀ Q : List V → H → Prop, (∀ v, K v → Q v h) → wpEs C e ρ h Q
noncomputable def WT (C : Ora) (ρ : Rho) (h : H) (e : E) (K : Bool → Prop) : Prop := ∀ Q : Bool → H → Prop, (∀ v, K v → Q v h) → wpT C e ρ h Q
theorem mBin_ok (op : Bop) (a b : V) : Snd (mBin op a b) (fun K => ∀ Q : V → H → Prop, (∀ v, K v → Q v h) → BinW op a b h Q) := by
  cases op with
  | add =>
    cases a with
    | str a => exact .evS fun b e => .need fun p K k Q q => by subst e; exact ⟨p, q _ k⟩
    | int a => exact Snd.evI (v := b) fun b e' => .ret fun K k Q q => by subst e'; exact q _ k
    | _ => exact Snd.fail
  | sub => exact .evI fun a e => .evI fun b e' => .ret fun K k Q q => by subst e; subst e'; exact q _ k
  | mul => exact .evI fun a e => .evI fun b e' => .need fun p K k Q q => by subst e; subst e'; exact ⟨p, q _ k⟩
  | fdiv => exact .evI fun a e => .evI fun b e' => .need fun p K k Q q => by subst e; subst e'; exact ⟨p.1, p.2, q _ k⟩
  | mod => exact .evI fun a e => .evI fun b e' => .need fun p K k Q q => by subst e; subst e'; exact ⟨p, q _ k⟩
theorem mSub_ok (a i : V) : Snd (mSub h a i) (fun K => ∀ R : V → Prop, (∀ v, K v → R v) → SubW a i h R) := by
  have gen : Snd (M.ask fun v => M.need (RdW h a i v) v) (fun K => ∀ R : V → Prop, (∀ v, K v → R v) → SubW a i h R) := .ask fun v => .need fun p K k R q => p R (q v k)
  cases a with
  | tup vs =>
    refine .evI fun k e => ?_
    subst e
    cases k with
    | negSucc => exact Snd.fail
    | ofNat k =>
      show Snd (match Nat.ble k 1000 with | true => M.of (nthV vs k) | false => M.fail) _
      cases hb : Nat.ble k 1000 with
      | false => exact Snd.fail
      | true =>
        have hk := Nat.le_of_ble_eq_true hb
        exact .of fun v hv K kv R q => ⟨v, ⟨Int.natCast_nonneg k, by show (k : Int) < 4611686018427387904; exact oq103 hk⟩, (nthV_get vs k).symm.trans hv, q v kv⟩
  | _ => exact gen
theorem mEq_ok (op : Cmp) (f : Bool → Bool) (a b : V) (hf : ∀ P : Bool → Prop, EqW a b h (fun r => P (f r)) → CmpW op a b h P) : Snd (mEq h op f a b) (fun K => ∀ P : Bool → Prop, (∀ v, K v → P v) → CmpW op a b h P) := by
  have gen : Snd (M.ask fun r => Tw.evB r fun r => M.need (CmW h op a b r) r) (fun K => ∀ P : Bool → Prop, (∀ v, K v → P v) → CmpW op a b h P) := .ask fun v => .evB fun r e => .need fun p K k P q => p P (q r k)
  cases a with
  | int a => exact .evI fun b e => .ret fun K k P q => by subst e; exact hf P (by rw [← x_eq, x_eqi]; exact q _ k)
  | str a => exact .evS fun b e => .ret fun K k P q => by subst e; exact hf P (by rw [← x_eq, x_eqs]; exact q _ k)
  | bool a => exact .evB fun b e => .ret fun K k P q => by subst e; exact hf P (q _ k)
  | _ => exact gen
theorem mCmp_ok (op : Cmp) (a b : V) : Snd (mCmp h op a b) (fun K => ∀ P : Bool → Prop, (∀ v, K v → P v) → CmpW op a b h P) := by
  have gen : Snd (M.ask fun r => Tw.evB r fun r => M.need (CmW h op a b r) r) (fun K => ∀ P : Bool → Prop, (∀ v, K v → P v) → CmpW op a b h P) := .ask fun v => .evB fun r e => .need fun p K k P q => p P (q r k)
  cases op with
  | eq => exact mEq_ok .eq (fun r => r) a b fun P x => x
  | ne => exact mEq_ok .ne (fun r => !r) a b fun P x => x
  | lt => exact .evI fun a e => .evI fun b e' => .ret fun K k Q q => by subst e; subst e'; exact q _ k
  | le => exact .evI fun a e => .evI fun b e' => .ret fun K k Q q => by subst e; subst e'; exact q _ k
  | gt => exact .evI fun a e => .evI fun b e' => .ret fun K k Q q => by subst e; subst e'; exact q _ k
  | ge => exact .evI fun a e => .evI fun b e' => .ret fun K k Q q => by subst e; subst e'; exact q _ k
  | is =>
    cases b with
    | none => exact .ret fun K k P q => by rw [x_isn, isNoneB_eq]; exact q _ k
    | _ => exact Snd.fail
  | isNot =>
    cases b with
    | none => exact .ret fun K k P q => by rw [x_isnn, isNoneB_eq]; exact q _ k
    | _ => exact Snd.fail
  | isIn => exact gen
  | notIn => exact gen
theorem mLen_ok (v : V) : Snd (mLen h v) (fun K => ∀ Q : V → H → Prop, (∀ v, K v → Q v h) → BiW .len [v] h Q) := by
  have gen : Snd (M.ask fun n => M.need (LnW h v n) n) (fun K => ∀ Q : V → H → Prop, (∀ v, K v → Q v h) → BiW .len [v] h Q) := .ask fun n => .need fun p K k Q q => p Q (q n k)
  cases v with
  | str s => exact .ret fun K k Q q => q _ k
  | tup s => exact .ret fun K k Q q => q _ k
  | _ => exact gen
theorem mIs_ok (v : V) (t : Ty) : Snd (mIs v t) (fun K => ∀ P : Bool → Prop, (∀ v, K v → P v) → IsW v t h P) := by
  cases v with
  | bool => exact Snd.fail
  | rng => exact Snd.fail
  | ref => exact Snd.fail
  | _ => exact .ret fun K k Q q => q _ k
variable {L : Env} (ag : Ag L ρ)
include ag
mutual
theorem ev_snd : ∀ (e : E), Snd (ev L h e) (WE C ρ h e)
  | .lit v => .ret fun K k Q q => q _ k
  | .var i => .of fun v e K k Q q => by rw [e_vk, ag i v e]; exact q v k
  | .bin op a b => .mono (.bind (ev_snd a) fun x => .bind (ev_snd b) fun y => mBin_ok op x y) fun K w Q q => w _ fun x w => w _ fun y w => w Q q
  | .neg a => .mono (.bind (W2 := fun x K => ∀ Q : V → H → Prop, (∀ v, K v → Q v h) → asInt x fun i => Q (.int (-i)) h) (ev_snd a) fun x => .evI fun i e => .ret fun K k Q q => by subst e; exact q _ k) fun K w Q q => w _ fun x w => w Q q
  | .sub a b => .mono (.bind (ev_snd a) fun x => .bind (ev_snd b) fun y => mSub_ok x y) fun K w Q q => w _ fun x w => w _ fun y w => w _ q
  | .tup es => .mono (.bind (W2 := fun vs K => K (.tup vs)) (evs_snd es) fun vs => .ret fun K k => k) fun K w Q q => w _ fun vs k => q _ k
  | .bi b as => by
    cases b with
    | len =>
      exact .mono (.bind (W2 := fun vs K => ∀ Q : V → H → Prop, (∀ v, K v → Q v h) → BiW .len vs h Q) (evs_snd as) fun vs => .one fun v e => by subst e; exact mLen_ok v) fun K w Q q => w _ fun vs w => w Q q
    | range =>
      exact .mono (.bind (W2 := fun vs K => ∀ Q : V → H → Prop, (∀ v, K v → Q v h) → BiW .range vs h Q) (evs_snd as) fun vs => .one fun v e => .evI fun b e' => .need fun p K k Q q => by subst e; subst e'; exact ⟨p, q _ k⟩) fun K w Q q => w _ fun vs w => w Q q
    | _ => exact Snd.fail
  | .not a => .mono (.bind (W2 := fun x K => ∀ Q : V → H → Prop, (∀ v, K v → Q v h) → truth x h fun b => Q (.bool (!b)) h) (ev_snd a) fun x => .evB fun i e => .ret fun K k Q q => by subst e; exact q _ k) fun K w Q q => w _ fun x w => w Q q
  | .cmp op a b => .mono (.bind (ev_snd a) fun x => .bind (ev_snd b) fun y => .bind (W2 := fun r K => K (.bool r)) (mCmp_ok op x y) fun r => .ret fun K k => k) fun K w Q q => w _ fun x w => w _ fun y w => w _ fun r k => q _ k
  | .isinst a t => .mono (.bind (ev_snd a) fun x => .bind (W2 := fun r K => K (.bool r)) (mIs_ok x t) fun r => .ret fun K k => k) fun K w Q q => w _ fun x w => w _ fun r k => q _ k
  | .and a b => .mono (.bind (W2 := fun x K => ∀ Q : V → H → Prop, (∀ v, K v → Q v h) → truth x h fun t => match t with | true => wpE C b ρ h Q | false => Q x h) (ev_snd a) fun x => .evB fun i e => by
      subst e
      refine .mono (.bind (W2 := fun r K => K (.bool r)) (.lazy (W := fun K => ∀ Q : V → H → Prop, (∀ r, K r → Q (.bool r) h) → wpE C b ρ h Q) (W' := fun K => ∀ Q : V → H → Prop, (∀ r, K r → Q (.bool r) h) → match i with | true => wpE C b ρ h Q | false => Q (.bool false) h) (.mono (.bind (W2 := fun y K => ∀ Q : V → H → Prop, (∀ r, K r → Q (.bool r) h) → Q y h) (ev_snd b) fun y => .evB fun j e => .ret fun K k Q q => by subst e; exact q _ k) fun K w Q q => w _ fun y w => w Q q) (fun e K w Q q => by subst e; exact w Q fun r k => q _ k) fun e y K k Q q => by subst e; exact q _ k) fun r => .ret fun K k => k) fun K w Q q => ?_
      cases i with
      | true => exact w Q fun r k => q _ k
      | false => exact w Q fun r k => q _ k) fun K w Q q => w _ fun x w => w Q q
  | .cmp2 o1 o2 a b c => .mono (.bind (ev_snd a) fun x => .bind (ev_snd b) fun y => .bind (W2 := fun r K => ∀ Q : V → H → Prop, (∀ v, K v → Q v h) → match r with | true => wpE C c ρ h fun vc h₃ => CmpW o2 y vc h₃ fun r => Q (.bool r) h₃ | false => Q (.bool false) h) (mCmp_ok o1 x y) fun r => .mono (.bind (W2 := fun r K => K (.bool r)) (.lazy (W := fun K => ∀ Q : V → H → Prop, (∀ r, K r → Q (.bool r) h) → wpE C c ρ h fun vc h₃ => CmpW o2 y vc h₃ fun r => Q (.bool r) h₃) (W' := fun K => ∀ Q : V → H → Prop, (∀ r, K r → Q (.bool r) h) → match r with | true => wpE C c ρ h fun vc h₃ => CmpW o2 y vc h₃ fun r => Q (.bool r) h₃ | false => Q (.bool false) h) (.mono (.bind (ev_snd c) fun z => mCmp_ok o2 y z) fun K w Q q => w _ fun z w => w _ q) (fun e K w Q q => by subst e; exact w Q fun v k => q _ k) fun e y K k Q q => by subst e; exact q _ k) fun r => .ret fun K k => k) fun K w Q q => w Q fun r k => q _ k) fun K w Q q => w _ fun x w => w _ fun y w => w _ fun r w => w Q q
  | .or .. => Snd.fail
  | .slice a lo hi => .mono (.bind (ev_snd a) fun x => .bind (ev_snd lo) fun y => .bind (W2 := fun z K => ∀ Q : V → H → Prop, (∀ v, K v → Q v h) → SliceW x y z h Q) (ev_snd hi) fun z => .ask fun w => .need fun p K k Q q => p Q (q w k)) fun K w Q q => w _ fun x w => w _ fun y w => w _ fun z w => w Q q
  | .list .. => Snd.fail
  | .dict0 => Snd.fail
  | .dict1 .. => Snd.fail
  | .comp .. => Snd.fail
  | .call .. => Snd.fail
  | .meth .. => Snd.fail
theorem evs_snd : ∀ (es : List E), Snd (evs L h es) (WEs C ρ h es)
  | [] => .ret fun K k Q q => q _ k
  | e :: es => .mono (.bind (ev_snd e) fun v => .bind (W2 := fun vs K => K (v :: vs)) (evs_snd es) fun vs => .ret fun K k => k) fun K w Q q => w _ fun v w => w _ fun vs k => q _ k
end
theorem evT_snd : ∀ (e : E), Snd (evT L h e) (WT C ρ h e)
  | .not a => .mono (.bind (W2 := fun x K => K (!x)) (evT_snd a) fun x => .ret fun K k => k) fun K w Q q => w _ fun x k => q _ k
  | .and a b => .mono (.bind (W2 := fun x K => ∀ Q : Bool → H → Prop, (∀ v, K v → Q v h) → match x with | true => wpT C b ρ h Q | false => Q false h) (evT_snd a) fun x => .lazy (evT_snd b) (fun e K w Q q => by subst e; exact w Q fun v k => q _ k) fun e y K k Q q => by subst e; exact q _ k) fun K w Q q => w _ fun x w => w Q q
  | .or a b => .mono (.bind (W2 := fun x K => ∀ Q : Bool → H → Prop, (∀ v, K v → Q v h) → match x with | true => Q true h | false => wpT C b ρ h Q) (evT_snd a) fun x => by
      cases x with
      | true => exact .lazy (evT_snd b) (fun e => nomatch e) fun e y K k Q q => q _ k
      | false => exact .lazy (evT_snd b) (fun e K w Q q => w Q fun v k => q _ k) fun e => nomatch e) fun K w Q q => w _ fun x w => w Q q
  | .cmp op a b => .mono (.bind (ev_snd ag a) fun x => .bind (ev_snd ag b) fun y => mCmp_ok op x y) fun K w Q q => w _ fun x w => w _ fun y w => w _ q
  | .cmp2 o1 o2 a b c => .mono (.bind (ev_snd ag a) fun x => .bind (ev_snd ag b) fun y => .bind (W2 := fun r K => ∀ Q : Bool → H → Prop, (∀ v, K v → Q v h) → match r with | true => wpE C c ρ h fun vc h₃ => CmpW o2 y vc h₃ fun r => Q r h₃ | false => Q false h) (mCmp_ok o1 x y) fun r => .lazy (W := fun K => ∀ Q : Bool → H → Prop, (∀ v, K v → Q v h) → wpE C c ρ h fun vc h₃ => CmpW o2 y vc h₃ fun r => Q r h₃) (.mono (.bind (ev_snd ag c) fun z => mCmp_ok o2 y z) fun K w Q q => w _ fun z w => w _ q) (fun e K w Q q => by subst e; exact w Q fun v k => q _ k) fun e y K k Q q => by subst e; exact q _ k) fun K w Q q => w _ fun x w => w _ fun y w => w _ fun r w => w Q q
  | .lit v => .evB fun i e => .ret fun K k Q q => by subst e; exact q _ k
  | .var i => .mono (.bind (W1 := fun K => ∃ v, lk L i = some v ∧ K v) (W2 := fun v K => ∀ Q : Bool → H → Prop, (∀ v, K v → Q v h) → truth v h fun b => Q b h) (.of fun v e K k => ⟨v, e, k⟩) fun v => by
      cases v with
      | none => exact .ret fun K k Q q => q _ k
      | bool => exact .ret fun K k Q q => q _ k
      | _ => exact Snd.fail) fun K ⟨v, e, w⟩ Q q => by rw [t_vk, ag i v e]; exact w Q q
  | .isinst a t => .mono (.bind (ev_snd ag a) fun x => mIs_ok x t) fun K w Q q => w _ fun x w => w _ q
  | .bin .. => Snd.fail
  | .neg .. => Snd.fail
  | .sub .. => Snd.fail
  | .slice .. => Snd.fail
  | .tup .. => Snd.fail
  | .list .. => Snd.fail
  | .dict0 => Snd.fail
  | .dict1 .. => Snd.fail
  | .comp .. => Snd.fail
  | .call .. => Snd.fail
  | .bi .. => Snd.fail
  | .meth .. => Snd.fail
end
end Tw
end

section
namespace Tw

noncomputable def natV (n : Nat) : V := .int n

/-! rules over known environments -/
noncomputable def AE (C : Ora) (L : Env) (h : H) (e : E) (Q : V → H → Prop) : Prop := ∀ ρ, Ag L ρ → wpE C e ρ h Q
noncomputable def AB (C : Ora) (L : Env) (h : H) (r : List S) (Q : Out → Rho → H → Prop) : Prop := ∀ ρ, Ag L ρ → wpB C r ρ h Q
noncomputable def bindA (t : Tgt) (v : V) (L : Env) (K : Env → Prop) : Prop := match t with
  | .name i => K ((i, v) :: L)
  | .tup is => asTup v fun vs => is.length = vs.length ∧ K (pushs L is vs)
theorem bindA_ok {t : Tgt} {v : V} {L : Env} {K : Env → Prop} {ρ : Rho} {Q : Rho → Prop} (a : Ag L ρ) (x : bindA t v L K) (q : ∀ L' ρ', Ag L' ρ' → K L' → Q ρ') : bindT t v ρ Q := by
  cases t with
  | name i => exact q _ _ a.push x
  | tup is => exact asTup.mono (fun vs y => ⟨y.1, q _ _ (Ag.pushs is vs a) y.2⟩) x

section
variable {C : Ora} {L : Env} {h : H} {r : List S} {Q : Out → Rho → H → Prop} {e : E} {g g' : List V} {c : List Prop} {v : V}
theorem A_fn {vs : List V} (x : AB C (argsL 0 vs) h r Q) : wpB C r (argsR vs) h Q := x _ (ag_args vs)
theorem A_ev {Q : V → H → Prop} (x : ev L h e g = some (v, c, g')) (hc : AllP c) (q : Q v h) : AE C L h e Q := fun ρ ag => ev_snd ag e g v c g' x hc (fun w => w = v) rfl Q fun w e => e ▸ q
theorem A_set {i : Nat} (x : ev L h e g = some (v, c, g')) (hc : AllP c) (q : AB C ((i, v) :: L) h r Q) : AB C L h (.assign (.name i) e :: r) Q := fun ρ ag => A_ev (C := C) (Q := fun w h₁ => bindT (.name i) w ρ fun ρ' => wpB C r ρ' h₁ Q) x hc (q _ ag.push) ρ ag
theorem A_sets {is : List Nat} {vs : List V} (x : ev L h e g = some (.tup vs, c, g')) (hc : AllP c) (hl : is.length = vs.length) (q : AB C (pushs L is vs) h r Q) : AB C L h (.assign (.tup is) e :: r) Q := fun ρ ag => A_ev (C := C) (Q := fun w h₁ => bindT (.tup is) w ρ fun ρ' => wpB C r ρ' h₁ Q) x hc ⟨hl, q _ (Ag.pushs is vs ag)⟩ ρ ag
theorem A_ret (x : ev L h e g = some (v, c, g')) (hc : AllP c) (q : ∀ ρ, Q (.ret v) ρ h) : AB C L h (.ret (some e) :: r) Q := fun ρ ag => A_ev (C := C) (Q := fun w h₁ => Q (.ret w) ρ h₁) x hc (q ρ) ρ ag
theorem A_nil (q : ∀ ρ, Ag L ρ → Q .next ρ h) : AB C L h [] Q := q
theorem A_then (q : AB C L h r Q) : AB C L h [] (thenB C r Q) := q
theorem A_if {t : E} {a b : List S} {x : Bool} (he : evT L h t g = some (x, c, g')) (hc : AllP c) (h1 : x = true → AB C L h a (thenB C r Q)) (h2 : x = false → AB C L h b (thenB C r Q)) : AB C L h (.ite t a b :: r) Q := fun ρ ag =>
  B_ite (evT_snd ag t g x c g' he hc (fun y => y = x) rfl _ fun y e => by
    subst e
    cases y with
    | true => exact h1 rfl ρ ag
    | false => exact h2 rfl ρ ag)
theorem A_list0 {i : Nat} (q : AB C ((i, .ref h.length) :: L) (h ++ [.list []]) r Q) : AB C L h (.assign (.name i) (.list []) :: r) Q := fun ρ ag => q _ ag.push
theorem A_dict0 {i : Nat} (q : ∀ ver, AB C ((i, .ref h.length) :: L) (h ++ [.dict [] ver]) r Q) : AB C L h (.assign (.name i) .dict0 :: r) Q := fun ρ ag ver => q ver _ ag.push
theorem A_app {i n : Nat} {vs : List V} (hi : lk L i = some (.ref n)) (hn : h[n]? = some (.list vs)) (hl : vs.length < SZ) (x : ev L h e g = some (v, c, g')) (hc : AllP c) (q : AB C L (h.set n (.list (vs ++ [v]))) r Q) : AB C L h (.expr (.meth .append (.var i) [e]) :: r) Q := fun ρ ag => by
  refine B_expr ?_
  rw [e_meth, e_vk, ag i _ hi]
  refine ⟨⟨vs, hn⟩, ?_⟩
  rw [es_cons]
  refine A_ev (C := C) (Q := fun v h₁ => wpEs C [] ρ h₁ fun vs h₂ => MethW .append (.ref n) (v :: vs) h₂ fun _ h₁ => wpB C r ρ h₁ Q) x hc ?_ ρ ag
  rw [es_nil, x_app hn]
  exact ⟨hl, q ρ ag⟩
/-- append to what an expression names -/
theorem A_appE {o : E} {n : Nat} {vs : List V} {g₂ g₂' : List V} {c₂ : List Prop} (y : ev L h o g₂ = some (.ref n, c₂, g₂')) (hc₂ : AllP c₂) (hn : h[n]? = some (.list vs)) (hl : vs.length < SZ) (x : ev L h e g = some (v, c, g')) (hc : AllP c) (q : AB C L (h.set n (.list (vs ++ [v]))) r Q) : AB C L h (.expr (.meth .append o [e]) :: r) Q := fun ρ ag => by
  refine B_expr ?_
  rw [e_meth]
  refine A_ev (C := C) (Q := fun vo h₁ => recvOk .append vo h₁ ∧ wpEs C [e] ρ h₁ fun vs h₂ => MethW .append vo vs h₂ fun _ h₁ => wpB C r ρ h₁ Q) y hc₂ ⟨⟨vs, hn⟩, ?_⟩ ρ ag
  rw [es_cons]
  refine A_ev (C := C) (Q := fun v h₁ => wpEs C [] ρ h₁ fun vs h₂ => MethW .append (.ref n) (v :: vs) h₂ fun _ h₁ => wpB C r ρ h₁ Q) x hc ?_ ρ ag
  rw [es_nil, x_app hn]
  exact ⟨hl, q ρ ag⟩
theorem A_callE {f : Nat} {as : List E} {vs : List V} {Q : V → H → Prop} (x : evs L h as g = some (vs, c, g')) (hc : AllP c) (q : C f vs h Q) : AE C L h (.call f as) Q := fun ρ ag => evs_snd ag as g vs c g' x hc (fun w => w = vs) rfl _ fun w e => by rw [e]; exact q
variable (hC : MonoC C)
include hC
theorem A_name {i : Nat} (x : AE C L h e fun v h₁ => AB C ((i, v) :: L) h₁ r Q) : AB C L h (.assign (.name i) e :: r) Q := fun ρ ag => wpE_mono hC e (fun v h₁ y => y _ ag.push) (x ρ ag)
theorem A_tup {is : List Nat} (x : AE C L h e fun v h₁ => ∃ vs, v = .tup vs ∧ is.length = vs.length ∧ AB C (pushs L is vs) h₁ r Q) : AB C L h (.assign (.tup is) e :: r) Q := fun ρ ag => wpE_mono hC e (fun v h₁ ⟨vs, e, hl, y⟩ => by rw [e]; exact ⟨hl, y _ (Ag.pushs is vs ag)⟩) (x ρ ag)
theorem A_call {i f : Nat} {as : List E} {vs : List V} (x : evs L h as g = some (vs, c, g')) (hc : AllP c) (q : C f vs h fun v h₁ => AB C ((i, v) :: L) h₁ r Q) : AB C L h (.assign (.name i) (.call f as) :: r) Q := A_name hC (A_callE x hc q)
theorem A_calls {is : List Nat} {f : Nat} {as : List E} {vs : List V} (x : evs L h as g = some (vs, c, g')) (hc : AllP c) (q : C f vs h fun v h₁ => ∃ vs, v = .tup vs ∧ is.length = vs.length ∧ AB C (pushs L is vs) h₁ r Q) : AB C L h (.assign (.tup is) (.call f as) :: r) Q := A_tup hC (A_callE x hc q)
theorem A_callX {f : Nat} {as : List E} {vs : List V} (x : evs L h as g = some (vs, c, g')) (hc : AllP c) (q : C f vs h fun v h₁ => AB C L h₁ r Q) : AB C L h (.expr (.call f as) :: r) Q := fun ρ ag => B_expr (wpE_mono hC _ (fun v h₁ y => y ρ ag) (A_callE (Q := fun v h₁ => AB C L h₁ r Q) x hc q ρ ag))
/-- a loop: at its head the environment is L₀ of some state -/
theorem A_for {σ : Type} {t : Tgt} {b : List S} {it : Nat → It} {vs : List V} {K : H → Prop} (go : Goes it vs K) (L₀ : σ → Env) (I : Nat → σ → H → Prop) (s₀ : σ) (hin : AllIn (L₀ s₀) L) (x : AE C L h e fun v h₁ => (∀ Q : It → Prop, Q (it 0) → IterW v h₁ Q) ∧ I 0 s₀ h₁) (hl : ∀ i s h, I i s h → K h)
    (step : ∀ i v s h, vs[i]? = some v → I i s h → bindA t v (L₀ s) fun L' => AB C L' h b fun o ρ' h' => match o with | .next => ∃ s', Ag (L₀ s') ρ' ∧ I (i + 1) s' h' | .ret w => Q (.ret w) ρ' h') (fin : ∀ s h, I vs.length s h → AB C (L₀ s) h r Q) : AB C L h (.for t e b :: r) Q := fun ρ ag => by
  refine B_for_it hC go (fun i ρ' h' => ∃ s, Ag (L₀ s) ρ' ∧ I i s h') (wpE_mono hC e (fun v h₁ y => ⟨y.1, s₀, AllIn.ag ag hin, y.2⟩) (x ρ ag)) (fun i ρ' h' ⟨s, _, y⟩ => hl i s h' y) ?_ fun ρ' h' ⟨s, a, y⟩ => fin s h' y ρ' a
  rintro i v ρ' h' hv ⟨s, a, y⟩
  exact bindA_ok a (step i v s h' hv y) fun L' ρ'' a' z => z ρ'' a'
theorem A_while {σ : Type} {t : E} {b : List S} (L₀ : σ → Env) (I : Nat → σ → H → Prop) (n : Nat) (s₀ : σ) (hin : AllIn (L₀ s₀) L) (h0 : I n s₀ h)
    (step : ∀ n s h, I n s h → ∀ ρ, Ag (L₀ s) ρ → wpT C t ρ h fun c h₁ => match c with
      | true => AB C (L₀ s) h₁ b fun o ρ' h' => match o with | .next => ∃ m s', m < n ∧ Ag (L₀ s') ρ' ∧ I m s' h' | .ret w => Q (.ret w) ρ' h'
      | false => AB C (L₀ s) h₁ r Q) : AB C L h (.while t b :: r) Q := fun ρ ag => by
  refine B_while hC (fun n ρ' h' => ∃ s, Ag (L₀ s) ρ' ∧ I n s h') n ⟨s₀, AllIn.ag ag hin, h0⟩ ?_
  rintro n ρ' h' ⟨s, a, y⟩
  refine wpT_mono hC t (fun c h₁ z => ?_) (step n s h' y ρ' a)
  cases c with
  | true =>
    refine wpB_mono hC b (fun o ρ'' h'' w => ?_) (z ρ' a)
    cases o with
    | next => obtain ⟨m, s', hm, a', w⟩ := w; exact ⟨m, hm, s', a', w⟩
    | ret => exact w
  | false => exact z ρ' a
omit hC in
theorem A_next {σ : Type} {L₀ : σ → Env} {P : σ → H → Prop} {R : V → Rho → H → Prop} (s : σ) (hin : AllIn (L₀ s) L) (x : P s h) : AB C L h [] (fun o ρ' h' => match o with | .next => ∃ s', Ag (L₀ s') ρ' ∧ P s' h' | .ret w => R w ρ' h') := fun ρ ag => ⟨s, AllIn.ag ag hin, x⟩
omit hC in
theorem A_again {σ : Type} {L₀ : σ → Env} {P : Nat → σ → H → Prop} {R : V → Rho → H → Prop} {n : Nat} (m : Nat) (s : σ) (hm : m < n) (hin : AllIn (L₀ s) L) (x : P m s h) : AB C L h [] (fun o ρ' h' => match o with | .next => ∃ m s', m < n ∧ Ag (L₀ s') ρ' ∧ P m s' h' | .ret w => R w ρ' h') := fun ρ ag => ⟨m, s, hm, AllIn.ag ag hin, x⟩

end
section
variable {C : Ora} {L : Env} {h : H} {r : List S} {Q : Out → Rho → H → Prop} {e : E} {g g' : List V} {c : List Prop} {v : V}
theorem A_bi {b : Bi} {as : List E} {vs : List V} {Q : V → H → Prop} (x : evs L h as g = some (vs, c, g')) (hc : AllP c) (q : BiW b vs h Q) : AE C L h (.bi b as) Q := fun ρ ag => evs_snd ag as g vs c g' x hc (fun w => w = vs) rfl _ fun w e => by rw [e]; exact q
theorem A_bin {op : Bop} {a b : E} {Q : V → H → Prop} (hC : MonoC C) (x : AE C L h a fun v h₁ => AE C L h₁ b fun w h₂ => BinW op v w h₂ Q) : AE C L h (.bin op a b) Q := fun ρ ag => wpE_mono hC a (fun v h₁ y => y ρ ag) (x ρ ag)
theorem A_dict1 {i : Nat} {k : E} {vk : V} {g₂ g₂' : List V} {c₂ : List Prop} (x : ev L h k g₂ = some (vk, c₂, g₂')) (hc₂ : AllP c₂) (y : ev L h e g = some (v, c, g')) (hc : AllP c) (hk : vk.isKey = true) (q : ∀ ver, AB C ((i, .ref h.length) :: L) (h ++ [.dict [(vk, v)] ver]) r Q) : AB C L h (.assign (.name i) (.dict1 k e) :: r) Q := fun ρ ag => by
  refine B_name ?_
  rw [e_dict1]
  refine ev_snd ag k _ _ _ _ x hc₂ (fun w => w = vk) rfl _ fun w e1 => ?_
  refine ev_snd ag e _ _ _ _ y hc (fun w => w = v) rfl _ fun w e2 => ?_
  rw [e1, e2]
  exact ⟨hk, fun ver => q ver _ ag.push⟩
theorem A_list {i : Nat} {es : List E} {vs : List V} (x : evs L h es g = some (vs, c, g')) (hc : AllP c) (q : AB C ((i, .ref h.length) :: L) (h ++ [.list vs]) r Q) : AB C L h (.assign (.name i) (.list es) :: r) Q := fun ρ ag => evs_snd ag es g vs c g' x hc (fun w => w = vs) rfl _ fun w e => by rw [e]; exact q _ ag.push
theorem A_put {o n ver : Nat} {es : List (V × V)} {k : E} {vk : V} {g₂ g₂' : List V} {c₂ : List Prop} (ho : lk L o = some (.ref n)) (hn : h[n]? = some (.dict es ver)) (x : ev L h k g₂ = some (vk, c₂, g₂')) (hc₂ : AllP c₂) (y : ev L h e g = some (v, c, g')) (hc : AllP c) (hk : vk.isKey = true) (hl : es.length < SZ) (q : ∀ ver, AB C L (h.set n (.dict (dput es vk v) ver)) r Q) : AB C L h (.store (.var o) k e :: r) Q := fun ρ ag => by
  refine B_store (A_ev (C := C) (Q := fun v h₁ => wpE C (.var o) ρ h₁ fun vo h₂ => wpE C k ρ h₂ fun vi h₃ => StoreW vo vi v h₃ fun h₄ => wpB C r ρ h₄ Q) y hc ?_ ρ ag)
  rw [e_vk, ag o _ ho]
  refine A_ev (C := C) (Q := fun vi h₃ => StoreW (.ref n) vi v h₃ fun h₄ => wpB C r ρ h₄ Q) x hc₂ ?_ ρ ag
  rw [x_std hn]
  exact ⟨hk, hl, fun ver => q ver ρ ag⟩
variable (hC : MonoC C)
include hC
theorem A_retE (x : AE C L h e fun v h₁ => ∀ ρ, Q (.ret v) ρ h₁) : AB C L h (.ret (some e) :: r) Q := fun ρ ag => B_ret (wpE_mono hC e (fun v h₁ y => y ρ) (x ρ ag))
theorem A_forE {t : Tgt} {b : List S} (x : AE C L h e fun v h₁ => AB C L h₁ (.for t (.lit v) b :: r) Q) : AB C L h (.for t e b :: r) Q := fun ρ ag => wpE_mono hC e (fun v h₁ y => y ρ ag) (x ρ ag)
theorem A_whileT {σ : Type} {t : E} {b : List S} (L₀ : σ → Env) (I : Nat → σ → H → Prop) (n : Nat) (s₀ : σ) (hin : AllIn (L₀ s₀) L) (h0 : I n s₀ h)
    (step : ∀ n s h, I n s h → ∃ g x c g', evT (L₀ s) h t g = some (x, c, g') ∧ AllP c ∧ (x = true → AB C (L₀ s) h b fun o ρ' h' => match o with | .next => ∃ m s', m < n ∧ Ag (L₀ s') ρ' ∧ I m s' h' | .ret w => Q (.ret w) ρ' h') ∧ (x = false → AB C (L₀ s) h r Q)) : AB C L h (.while t b :: r) Q :=
  A_while hC L₀ I n s₀ hin h0 fun n s h hi ρ ag => by
    obtain ⟨g, x, c, g', h1, h2, h3, h4⟩ := step n s h hi
    refine evT_snd ag t _ _ _ _ h1 h2 (fun y => y = x) rfl _ fun y e => ?_
    subst e
    cases y with
    | true => exact h3 rfl
    | false => exact h4 rfl
theorem A_comp {α : Type} {l : List α} {f : α → V} {w : α → V} {elt : E} {tgt : Tgt} {it : Nat → It} {K : H → Prop} {Q : V → H → Prop} (go : Goes it (l.map f) K) (he : ev L h e g = some (v, c, g')) (hc : AllP c) (hv : ∀ Q : It → Prop, Q (it 0) → IterW v h Q) (hK : K h) (hl : l.length ≤ SZ)
    (step : ∀ a ∈ l, bindA tgt (f a) L fun L' => ∃ g₀ cs g₁, ev L' h elt g₀ = some (w a, cs, g₁) ∧ AllP cs) (q : Q (.ref h.length) (h ++ [.list (l.map w)])) : AE C L h (.comp elt tgt e none) Q := fun ρ ag => by
  refine E_comp_pure hC (g := fun a => some (w a)) go (A_ev (C := C) (Q := fun u h₁ => (∀ Q : It → Prop, Q (it 0) → IterW u h Q) ∧ h₁ = h) he hc ⟨hv, rfl⟩ ρ ag) hK hl (fun a ha => ?_) (by rw [List.filterMap_eq_map']; exact q)
  refine bindA_ok ag (step a ha) fun L' ρ' a' z => ⟨rfl, rfl, fun u hu => ?_⟩
  obtain ⟨g₀, cs, g₁, h1, h2⟩ := z
  cases hu
  exact ev_snd a' elt _ _ _ _ h1 h2 (fun y => y = w a) rfl _ fun y e => ⟨e, rfl⟩
theorem A_compIf {α : Type} {l : List α} {f : α → V} {ga : α → Option V} {elt t : E} {tgt : Tgt} {it : Nat → It} {K : H → Prop} {Q : V → H → Prop} (go : Goes it (l.map f) K) (he : ev L h e g = some (v, c, g')) (hc : AllP c) (hv : ∀ Q : It → Prop, Q (it 0) → IterW v h Q) (hK : K h) (hl : l.length ≤ SZ)
    (step : ∀ a ∈ l, bindA tgt (f a) L fun L' => ∃ g₀ b cs g₁, evT L' h t g₀ = some (b, cs, g₁) ∧ AllP cs ∧ b = (ga a).isSome ∧ ∀ w, ga a = some w → ∃ g₀ cs g₁, ev L' h elt g₀ = some (w, cs, g₁) ∧ AllP cs) (q : Q (.ref h.length) (h ++ [.list (l.filterMap ga)])) : AE C L h (.comp elt tgt e (some t)) Q := fun ρ ag => by
  refine E_comp_pure hC (g := ga) go (A_ev (C := C) (Q := fun u h₁ => (∀ Q : It → Prop, Q (it 0) → IterW u h Q) ∧ h₁ = h) he hc ⟨hv, rfl⟩ ρ ag) hK hl (fun a ha => ?_) q
  refine bindA_ok ag (step a ha) fun L' ρ' a' z => ?_
  obtain ⟨g₀, b, cs, g₁, h1, h2, h3, h4⟩ := z
  refine evT_snd a' t _ _ _ _ h1 h2 (fun y => y = b) rfl _ fun y e => ⟨rfl, e.trans h3, fun w hw => ?_⟩
  obtain ⟨g₀, cs, g₁, h5, h6⟩ := h4 w hw
  exact ev_snd a' elt _ _ _ _ h5 h6 (fun y => y = w) rfl _ fun y e => ⟨e, rfl⟩
end
theorem AB_heap {C : Ora} {L : Env} {h h' : H} {r : List S} {Q : Out → Rho → H → Prop} (e : h' = h) (x : AB C L h r Q) : AB C L h' r Q := e ▸ x
theorem no_b {p : Prop} (h : false = true) : p := nomatch h
theorem isS_if {α : Type} {p : Prop} [Decidable p] {x : α} {b : Bool} (h : b = decide p) : b = (if p then some x else none).isSome := by
  rw [h]; by_cases hp : p <;> simp [hp]
theorem some_if {α : Type} {p : Prop} [Decidable p] {x w : α} (h : (if p then some x else none) = some w) : p ∧ x = w := by
  by_cases hp : p
  · rw [if_pos hp] at h; exact ⟨hp, Option.some.inj h⟩
  · rw [if_neg hp] at h; cases h
theorem fm_filter {α β : Type} {p : α → Prop} [DecidablePred p] {f : α → β} (l : List α) : l.filterMap (fun a => if p a then some (f a) else none) = (l.filter fun a => decide (p a)).map f := by
  induction l with
  | nil => rfl
  | cons a r ih => by_cases hp : p a <;> simp [hp, ih]
/-! what the heap answers -/
theorem ln_map {α : Type} {f : α → V} {l : List α} {h : H} {n : Nat} (x : h[n]? = some (.list (l.map f))) : LnW h (.ref n) (.int l.length) := fun Q q => by rw [x_lenl x, List.length_map]; exact q
theorem rd_list {h : H} {n k : Nat} {vs : List V} {v : V} (x : h[n]? = some (.list vs)) (hk : k < 2 ^ 62) (y : vs[k]? = some v) : RdW h (.ref n) (.int k) v := fun R q => x_sln x hk y q
theorem cm_in {h : H} {n ver : Nat} {es : List (V × V)} {a : V} {p : Prop} [Decidable p] (x : h[n]? = some (.dict es ver)) (hk : a.isKey = true) (hp : a ∈ es.map (·.1) ↔ p) : CmW h .isIn a (.ref n) (decide p) := fun P q => by rw [x_ind x]; exact ⟨hk, by rw [decide_eq_decide.mpr hp]; exact q⟩
theorem cm_nin {h : H} {n ver : Nat} {es : List (V × V)} {a : V} {p : Prop} [Decidable p] (x : h[n]? = some (.dict es ver)) (hk : a.isKey = true) (hp : a ∈ es.map (·.1) ↔ p) : CmW h .notIn a (.ref n) (!decide p) := fun P q => by rw [x_nid x]; exact ⟨hk, by rw [decide_eq_decide.mpr hp]; exact q⟩
theorem it_list {h : H} {n : Nat} {vs : List V} (x : h[n]? = some (.list vs)) : ∀ Q : It → Prop, Q (.seq n 0) → IterW (.ref n) h Q := fun Q q => iter_list x q
theorem range_map (n : Nat) : rangeV 0 n 1 = (List.range n).map natV := by
  rw [rangeV_nat]
  apply List.ext_getElem?
  intro i
  rw [ints_get, List.getElem?_map]
  by_cases h : i < n
  · rw [if_pos h, List.getElem?_range h]; simp [natV]
  · rw [if_neg h, List.getElem?_eq_none (by simpa using h)]; rfl
theorem goes_range (n : Nat) : Goes (fun i => .vals ((rangeV 0 n 1).drop i)) ((List.range n).map natV) fun _ => True := range_map n ▸ goes_vals (rangeV 0 n 1)
end Tw
end

section
namespace Tw

noncomputable def sgA : List Nat := [32, 33, 34, 35, 36, 38, 39, 40, 41, 42, 43, 44, 45, 46, 47, 48, 49, 50, 51, 52, 53, 54, 55, 56, 57, 58, 59, 60, 61, 62, 63, 64, 65, 66, 67, 68, 69, 70, 71, 72, 73, 74, 75, 76, 77, 78, 79, 80, 81, 82, 83, 84, 85, 86, 87, 88, 89, 90, 91, 92, 93, 94, 95, 96]
noncomputable def sgB : List Nat := [97, 98, 99, 100, 101, 102, 103, 104, 105, 106, 107, 108, 109, 110, 111, 112, 113, 114, 115, 116, 117, 118, 119, 120, 121, 122, 123, 124, 125, 126]

noncomputable def fn_need : Fn := ⟨1, [
  .ite (.not (.var 0)) [
    .raise] []]⟩
noncomputable def fn_checked : Fn := ⟨1, [
  .assign (.tup [1, 2, 3, 4]) (.var 0),
  .expr (.call 0 [(.and (.cmp2 .le .le (.lit (.int 1)) (.var 1) (.lit (.int 100))) (.and (.cmp2 .le .lt (.lit (.int 0)) (.var 2) (.var 1)) (.cmp .le (.bi .len [(.var 4)]) (.lit (.int 1000)))))]),
  .assign (.name 5) .dict0,
  .for (.name 6) (.var 3) [
    .expr (.call 0 [(.cmp2 .le .lt (.lit (.int 0)) (.var 6) (.var 1))]),
    .store (.var 5) (.var 6) (.lit (.bool true))],
  .for (.tup [7, 8, 9, 10]) (.var 4) [
    .expr (.call 0 [(.and (.cmp2 .le .lt (.lit (.int 0)) (.var 7) (.var 1)) (.and (.cmp2 .le .lt (.lit (.int 0)) (.var 10) (.var 1)) (.and (.cmp .le (.bi .len [(.var 8)]) (.lit (.int 1))) (.cmp .le (.bi .len [(.var 9)]) (.lit (.int 1))))))])],
  .ret (some (.tup [(.var 1), (.var 2), (.var 5), (.bi .list [(.var 4)])]))]⟩
noncomputable def fn_leaving : Fn := ⟨2, [
  .assign (.name 2) (.comp (.list []) (.name 7) (.bi .range [(.var 0)]) none),
  .for (.name 3) (.bi .range [(.bi .len [(.var 1)])]) [
    .expr (.meth .append (.sub (.var 2) (.sub (.sub (.var 1) (.var 3)) (.lit (.int 0)))) [(.var 3)])],
  .ret (some (.var 2))]⟩
noncomputable def fn_gone_on : Fn := ⟨3, [
  .ite (.cmp .eq (.var 2) (.lit (.str []))) [
    .ret (some (.var 1))] [],
  .ite (.and (.cmp .lt (.var 1) (.bi .len [(.var 0)])) (.cmp .eq (.sub (.var 0) (.var 1)) (.var 2))) [
    .ret (some (.bin .add (.var 1) (.lit (.int 1))))] [],
  .ret (some (.lit .none))]⟩
noncomputable def fn__law_cell : Fn := ⟨2, [
  .ite (.cmp .lt (.var 1) (.bi .len [(.var 0)])) [
    .ret (some (.sub (.var 0) (.var 1)))] [],
  .ret (some (.lit (.int 0)))]⟩
noncomputable def fn__law_signs : Fn := ⟨1, [
  .assign (.name 1) (.lit (.str sgA)),
  .assign (.name 1) (.bin .add (.var 1) (.lit (.str sgB))),
  .assign (.name 2) (.bin .mod (.bin .add (.bin .add (.var 0) (.lit (.int 1))) (.bin .mod (.bin .fdiv (.var 0) (.lit (.int 94))) (.lit (.int 46)))) (.lit (.int 94))),
  .assign (.name 3) (.bin .mod (.bin .add (.bin .add (.var 0) (.lit (.int 47))) (.bin .mod (.bin .fdiv (.var 0) (.lit (.int 4324))) (.lit (.int 46)))) (.lit (.int 94))),
  .ret (some (.list [(.lit (.str [])), (.sub (.var 1) (.bin .mod (.var 0) (.lit (.int 94)))), (.sub (.var 1) (.var 2)), (.sub (.var 1) (.var 3))]))]⟩
noncomputable def fn_writings : Fn := ⟨3, [
  .assign (.tup [3, 4, 5, 6]) (.call 1 [(.var 0)]),
  .assign (.name 7) (.call 2 [(.var 3), (.var 6)]),
  .assign (.name 8) (.dict1 (.tup [(.var 4), (.lit (.int 0)), (.lit (.str []))]) (.lit (.bool true))),
  .assign (.name 9) (.list [(.tup [(.var 4), (.lit (.int 0)), (.lit (.str []))])]),
  .assign (.name 10) .dict0,
  .assign (.name 11) (.lit (.int 0)),
  .while (.cmp .lt (.var 11) (.bi .len [(.var 9)])) [
    .assign (.tup [12, 13, 14]) (.sub (.var 9) (.var 11)),
    .assign (.name 11) (.bin .add (.var 11) (.lit (.int 1))),
    .ite (.and (.cmp .isIn (.var 12) (.var 5)) (.cmp .eq (.var 13) (.bi .len [(.var 1)]))) [
      .store (.var 10) (.var 14) (.lit (.bool true))] [],
    .for (.name 15) (.sub (.var 7) (.var 12)) [
      .assign (.tup [16, 17, 18, 19]) (.sub (.var 6) (.var 15)),
      .assign (.name 20) (.tup [(.var 19), (.call 3 [(.var 1), (.var 13), (.var 17)]), (.bin .add (.var 14) (.var 18))]),
      .ite (.and (.cmp .isNot (.sub (.var 20) (.lit (.int 1))) (.lit .none)) (.and (.cmp .le (.bi .len [(.sub (.var 20) (.lit (.int 2)))]) (.var 2)) (.cmp .notIn (.var 20) (.var 8)))) [
        .store (.var 8) (.var 20) (.lit (.bool true)),
        .expr (.meth .append (.var 9) [(.var 20)])] []]],
  .ret (some (.bi .sorted [(.var 10)]))]⟩
end Tw
end

section
namespace Tw

/-! machines, plain -/
structure Mv where
  s : Nat
  t : List Nat
  g : List Nat
  q : Nat
structure Ma where
  n : Nat
  b : Nat
  ends : List Nat
  moves : List Mv
noncomputable def Mv.v (m : Mv) : V := .tup [.int m.s, .str m.t, .str m.g, .int m.q]
structure Ma.ok (M : Ma) : Prop where
  n1 : 1 ≤ M.n
  n2 : M.n ≤ 100
  b1 : M.b < M.n
  l1 : M.moves.length ≤ 1000
  l2 : M.ends.length ≤ 1000
  e1 : ∀ e ∈ M.ends, e < M.n
  m1 : ∀ m ∈ M.moves, m.s < M.n ∧ m.q < M.n ∧ m.t.length ≤ 1 ∧ m.g.length ≤ 1
noncomputable def IsMa (h : H) (v : V) (M : Ma) : Prop := ∃ e m : Nat, v = .tup [.int M.n, .int M.b, .ref e, .ref m] ∧ h[e]? = some (.list (M.ends.map natV)) ∧ h[m]? = some (.list (M.moves.map Mv.v))

theorem IsMa.app {h : H} {v : V} {M : Ma} (x : IsMa h v M) (t : H) : IsMa (h ++ t) v M := by
  obtain ⟨e, m, h1, h2, h3⟩ := x
  refine ⟨e, m, h1, ?_, ?_⟩
  · rw [List.getElem?_append_left (List.getElem?_eq_some_iff.mp h2).1]; exact h2
  · rw [List.getElem?_append_left (List.getElem?_eq_some_iff.mp h3).1]; exact h3
theorem get_last (h : H) (o : MO) : (h ++ [o])[h.length]? = some o := by simp
theorem get_app {h t : H} {n : Nat} {o : MO} (x : h[n]? = some o) : (h ++ t)[n]? = some o := by
  rw [List.getElem?_append_left (List.getElem?_eq_some_iff.mp x).1]; exact x

section
variable {Φ : Nat → Option Fn} {d : Nat} {h : H} {Q : V → H → Prop}

theorem SZ_val : SZ = 16777216 := rfl
theorem need_ok (hΦ : Φ 0 = some fn_need) (q : Q .none h) : Calls Φ (d + 1) 0 [.bool true] h Q := by
  refine ⟨fn_need, hΦ, rfl, ?_⟩
  simpa [fn_need, b_nil, b_ret, b_ite, th_next, th_ret, ov_ret, ov_next, e_lit, e_vk, vk_some, e_bin, e_neg, e_not, e_and, e_or, e_cmp, e_cmp2, e_sub, e_slice, e_tup, e_list, e_dict0, e_dict1, e_call, e_bi, e_isinst, e_meth, es_nil, es_cons, o_none, o_some, t_not, t_and, t_or, t_cmp, t_cmp2, t_lit, t_vk, t_call, t_isinst, t_meth, x_bn, x_bt, u_nil, u_cons, upd_eq, upd_ne, argsR, x_addi, x_adds, x_subi, x_muli, x_fdiv, x_mod, x_tb, x_tn, x_eqi, x_eqs, x_eqb, x_nei, x_nes, x_lt, x_le, x_gt, x_ge, x_isn, x_isnn, x_isb, x_isnb, x_st0, x_st1, x_st2, x_st3, x_ss, x_lens, x_lent, x_r1, x_r2, x_r3, x_lr, x_rj, x_iil, x_iib, x_iss, x_itt, x_inn] using q

theorem cell_ok {n k : Nat} {xs : List Int} (hΦ : Φ 25 = some fn__law_cell) (hn : h[n]? = some (.frz (xs.map V.int))) (hk : k < 1000) (q : Q (.int (xs.getD k 0)) h) :
    Calls Φ (d + 1) 25 [.ref n, .int k] h Q := by
  refine ⟨fn__law_cell, hΦ, rfl, ?_⟩
  simp [fn__law_cell, b_nil, b_ret, b_ite, th_next, th_ret, ov_ret, ov_next, e_lit, e_vk, vk_some, e_bin, e_neg, e_not, e_and, e_or, e_cmp, e_cmp2, e_sub, e_slice, e_tup, e_list, e_dict0, e_dict1, e_call, e_bi, e_isinst, e_meth, es_nil, es_cons, o_none, o_some, t_not, t_and, t_or, t_cmp, t_cmp2, t_lit, t_vk, t_call, t_isinst, t_meth, x_bn, x_bt, u_nil, u_cons, upd_eq, upd_ne, argsR, x_addi, x_adds, x_subi, x_muli, x_fdiv, x_mod, x_tb, x_tn, x_eqi, x_eqs, x_eqb, x_nei, x_nes, x_lt, x_le, x_gt, x_ge, x_isn, x_isnn, x_isb, x_isnb, x_st0, x_st1, x_st2, x_st3, x_ss, x_lens, x_lent, x_r1, x_r2, x_r3, x_lr, x_rj, x_iil, x_iib, x_iss, x_itt, x_inn, x_lenf hn, x_sf hn]
  by_cases hlt : k < xs.length
  · simp only [decide_eq_true hlt]
    refine ⟨by exact oq104 hk, _, ⟨xs[k], by simp [hlt], rfl⟩, ?_⟩
    simpa [List.getD, hlt] using q
  · simp only [decide_eq_false hlt]
    simpa [List.getD, hlt] using q

/-- where one stands in a text behind a sign or none -/
noncomputable def gone (text : List Nat) (at' : Nat) (sign : List Nat) : Option Nat :=
  if sign = [] then some at' else if (text[at']?.map fun c => [c]) = some sign then some (at' + 1) else none
noncomputable def optV : Option Nat → V
  | none => .none
  | some k => .int k
theorem gone_ok {text sign : List Nat} {k : Nat} (hΦ : Φ 3 = some fn_gone_on) (hk : k < 2 ^ 62) (q : Q (optV (gone text k sign)) h) : Calls Φ (d + 1) 3 [.str text, .int k, .str sign] h Q := by
  refine ⟨fn_gone_on, hΦ, rfl, ?_⟩
  simp [fn_gone_on, b_nil, b_ret, b_ite, th_next, th_ret, ov_ret, ov_next, e_lit, e_vk, vk_some, e_bin, e_neg, e_not, e_and, e_or, e_cmp, e_cmp2, e_sub, e_slice, e_tup, e_list, e_dict0, e_dict1, e_call, e_bi, e_isinst, e_meth, es_nil, es_cons, o_none, o_some, t_not, t_and, t_or, t_cmp, t_cmp2, t_lit, t_vk, t_call, t_isinst, t_meth, x_bn, x_bt, u_nil, u_cons, upd_eq, upd_ne, argsR, x_addi, x_adds, x_subi, x_muli, x_fdiv, x_mod, x_tb, x_tn, x_eqi, x_eqs, x_eqb, x_nei, x_nes, x_lt, x_le, x_gt, x_ge, x_isn, x_isnn, x_isb, x_isnb, x_st0, x_st1, x_st2, x_st3, x_ss, x_lens, x_lent, x_r1, x_r2, x_r3, x_lr, x_rj, x_iil, x_iib, x_iss, x_itt, x_inn]
  by_cases hs : sign = []
  · simp only [decide_eq_true hs]
    simpa [gone, hs, optV] using q
  · simp only [decide_eq_false hs]
    by_cases hlt : k < text.length
    · simp only [decide_eq_true hlt]
      refine ⟨by omega, ⟨text[k], by simp [hlt], ?_⟩⟩
      by_cases he : [text[k]] = sign
      · simp only [decide_eq_true he]
        simpa [gone, hs, optV, hlt, he] using q
      · simp only [decide_eq_false he]
        simpa [gone, hs, optV, hlt, he] using q
    · simp only [decide_eq_false hlt]
      simpa [gone, hs, optV, hlt] using q

/-- the ends as a dict -/
noncomputable def finD (es : List Nat) : List (V × V) := es.foldl (fun a e => dput a (natV e) (.bool true)) []
theorem dput_len (es : List (V × V)) (k v : V) : (dput es k v).length ≤ es.length + 1 := by
  unfold dput; split <;> simp
theorem finD_take {es : List Nat} {i e : Nat} (h : es[i]? = some e) : finD (es.take (i + 1)) = dput (finD (es.take i)) (natV e) (.bool true) := by
  unfold finD; rw [List.take_add_one, h]; simp
theorem finD_len (es : List Nat) : (finD es).length ≤ es.length := by
  have : ∀ (es : List Nat) a, (es.foldl (fun a e => dput a (natV e) (V.bool true)) a).length ≤ a.length + es.length := by
    intro es
    induction es with
    | nil => intro a; simp
    | cons e r ih => intro a; have := ih (dput a (natV e) (.bool true)); have := dput_len a (natV e) (.bool true); simp; exact qp2 qc4 qv0 (qA qv1 qs2) qv0 (qA qv3 qv2) qv3 qs1 qt (by assumption) this
  exact Nat.le_trans (this es []) (by simp)

theorem len2 (h : H) (a b : MO) : (h ++ [a, b])[h.length + 1]? = some b := by
  rw [List.getElem?_append_right (by exact qp0 qc1 qv0 qs0 qt )]; simp
theorem checked_ok {v : V} {M : Ma} (h0 : Φ 0 = some fn_need) (h1 : Φ 1 = some fn_checked) (hm : IsMa h v M) (ok : M.ok)
    (q : ∀ ver, Q (.tup [.int M.n, .int M.b, .ref h.length, .ref (h.length + 1)]) (h ++ [.dict (finD M.ends) ver, .list (M.moves.map Mv.v)])) : Calls Φ (d + 2) 1 [v] h Q := by
  obtain ⟨e, m, rfl, he, hmv⟩ := hm
  refine ⟨fn_checked, h1, rfl, A_fn ?_⟩
  have mC := calls_mono (Φ := Φ) (d + 1)
  have hz := SZ_val
  have n1 := ok.n1
  have n2 := ok.n2
  have b1 := ok.b1
  have l1 := ok.l1
  have l2 := ok.l2
  have need : ∀ {b : Bool} {h : H} {Q : V → H → Prop}, b = true → Q .none h → Calls Φ (d + 1) 0 [.bool b] h Q := fun e q => by subst e; exact need_ok h0 q
  refine A_sets (g := []) (vs := [.int M.n, .int M.b, .ref e, .ref m]) rfl trivial rfl (A_callX mC (g := [.int M.moves.length]) rfl ⟨fun _ => ⟨fun _ => ⟨ln_map hmv, trivial⟩, trivial⟩, trivial⟩ (need (by simp; exact oq105 n2 b1 l1) (A_dict0 fun ver => ?_)))
  refine A_for mC (goes_seq e (M.ends.map natV)) (fun _ : Unit => [(1, .int M.n), (2, .int M.b), (4, .ref m), (5, .ref h.length)]) (fun i _ H => ∃ ver, H = h ++ [.dict (finD (M.ends.take i)) ver]) () (by repeat (first | exact trivial | refine ⟨rfl, ?_⟩)) (A_ev (g := []) rfl trivial ⟨it_list (get_app he), ver, rfl⟩) (fun i _ H ⟨ver, x⟩ => by rw [x]; exact get_app he) ?_ ?_
  · rintro i v _ H hv ⟨ver, rfl⟩
    obtain ⟨x, hx, rfl, hil⟩ := map_at hv
    have hxn := ok.e1 x (List.mem_of_getElem? hx)
    refine A_callX mC (g := []) rfl trivial (need (by simp; exact hxn) (A_put (g := []) (g₂ := []) rfl (get_last _ _) rfl trivial rfl trivial rfl ?_ fun ver => ?_))
    · have h5 := finD_len (M.ends.take i); rw [List.length_take] at h5; exact oq106 hz l2 h5
    · exact A_next () (by repeat (first | exact trivial | refine ⟨rfl, ?_⟩)) ⟨ver, by rw [finD_take hx, List.set_append_right _ _ (Nat.le_refl _)]; simp⟩
  · rintro _ H ⟨ver, rfl⟩
    rw [List.length_map, List.take_length]
    have hmv' := get_app (t := [.dict (finD M.ends) ver]) hmv
    refine A_for mC (goes_seq m (M.moves.map Mv.v)) (fun _ : Unit => [(1, .int M.n), (2, .int M.b), (4, .ref m), (5, .ref h.length)]) (fun i _ H => H = h ++ [.dict (finD M.ends) ver]) () (by repeat (first | exact trivial | refine ⟨rfl, ?_⟩)) (A_ev (g := []) rfl trivial ⟨it_list hmv', rfl⟩) (fun i _ H x => by rw [x]; exact hmv') ?_ ?_
    · rintro i v _ H hv rfl
      obtain ⟨x, hx, rfl, hil⟩ := map_at hv
      obtain ⟨m1, m2, m3, m4⟩ := ok.m1 x (List.mem_of_getElem? hx)
      exact ⟨rfl, A_callX mC (g := []) rfl trivial (need (by simp; exact oq107 m1 m2 m3 m4) (A_next () (by repeat (first | exact trivial | refine ⟨rfl, ?_⟩)) rfl))⟩
    · rintro _ H rfl
      refine fun ρ ag => B_ret ?_
      simp [e_lit, e_vk, vk_some, e_bin, e_neg, e_not, e_and, e_or, e_cmp, e_cmp2, e_sub, e_slice, e_tup, e_list, e_dict0, e_dict1, e_call, e_bi, e_isinst, e_meth, es_nil, es_cons, o_none, o_some, t_not, t_and, t_or, t_cmp, t_cmp2, t_lit, t_vk, t_call, t_isinst, t_meth, x_bn, x_bt, u_nil, u_cons, upd_eq, upd_ne, argsR, x_addi, x_adds, x_subi, x_muli, x_fdiv, x_mod, x_tb, x_tn, x_eqi, x_eqs, x_eqb, x_nei, x_nes, x_lt, x_le, x_gt, x_ge, x_isn, x_isnn, x_isb, x_isnb, x_st0, x_st1, x_st2, x_st3, x_ss, x_lens, x_lent, x_r1, x_r2, x_r3, x_lr, x_rj, x_iil, x_iib, x_iss, x_itt, x_inn, ag 1 _ rfl, ag 2 _ rfl, ag 4 _ rfl, ag 5 _ rfl, x_ll hmv']
      exact ⟨by exact qp2 qc2 qv0 qv1 (qN 16777216) qv1 qv0 (qN 1000) qt (qi hz) l1, q ver⟩
end
end Tw
end

section
namespace Tw

section
variable {Φ : Nat → Option Fn} {d : Nat} {h : H} {Q : V → H → Prop}

theorem fmod_nat (a : Int) {b : Int} (hb : 0 < b) : ∃ k : Nat, a.fmod b = k ∧ (k : Int) < b := by
  have h1 := Int.fmod_nonneg_of_pos a hb
  have h2 := Int.fmod_lt_of_pos a hb
  exact ⟨(a.fmod b).toNat, by omega, by omega⟩

theorem sign_at {s : List Nat} {k : Nat} (hk : k < s.length) : ∃ c, s[k]? = some c := ⟨s[k], List.getElem?_eq_getElem hk⟩

theorem sg_a : sgA.length = 64 := rfl
theorem sg_b : sgB.length = 30 := rfl
theorem rd_str {s : List Nat} {k c : Nat} (hk : k < 1000) (y : s[k]? = some c) : RdW h (.str s) (.int k) (.str [c]) := fun R q => ⟨c, ⟨Int.natCast_nonneg k, by show (k : Int) < 4611686018427387904; exact oq104 hk⟩, y, q⟩
theorem A_retL {C : Ora} (hC : MonoC C) {L : Env} {r es : List S} {ls : List E} {vs g g' : List V} {c : List Prop} {Q : Out → Rho → H → Prop} (x : evs L h ls g = some (vs, c, g')) (hc : AllP c) (q : ∀ ρ, Q (.ret (.ref h.length)) ρ (h ++ [.list vs])) : AB C L h (.ret (some (.list ls)) :: r) Q :=
  A_retE hC fun ρ ag => by
    rw [e_list]
    exact evs_snd ag ls g vs c g' x hc (fun w => w = vs) rfl _ fun w e => by rw [e]; exact q
theorem signs_ok {c : Int} (hΦ : Φ 26 = some fn__law_signs) (q : ∀ a b e : Nat, Q (.ref h.length) (h ++ [.list [.str [], .str [a], .str [b], .str [e]]])) : Calls Φ (d + 1) 26 [.int c] h Q := by
  have mC := calls_mono (Φ := Φ) d
  have hS := SZ_val
  refine ⟨fn__law_signs, hΦ, rfl, A_fn (A_set (g := []) rfl trivial (A_set (g := []) rfl ⟨by rw [hS, sg_a, sg_b]; decide, trivial⟩ ?_))⟩
  have hl : (sgA ++ sgB).length = 94 := by rw [List.length_append, sg_a, sg_b]
  generalize sgA ++ sgB = sg at hl ⊢
  refine A_set (g := []) rfl ⟨by decide, by decide, by decide, trivial⟩ (A_set (g := []) rfl ⟨by decide, by decide, by decide, trivial⟩ ?_)
  obtain ⟨k1, e1, l1⟩ := fmod_nat c (b := 94) (by decide)
  obtain ⟨k2, e2, l2⟩ := fmod_nat (c + 1 + (c.fdiv 94).fmod 46) (b := 94) (by decide)
  obtain ⟨k3, e3, l3⟩ := fmod_nat (c + 47 + (c.fdiv 4324).fmod 46) (b := 94) (by decide)
  have lt : ∀ {k : Nat}, (k : Int) < 94 → k < sg.length ∧ k < 1000 := fun h => by exact oq108 hl h
  obtain ⟨x1, g1⟩ := sign_at (s := sg) (k := k1) (lt l1).1
  obtain ⟨x2, g2⟩ := sign_at (s := sg) (k := k2) (lt l2).1
  obtain ⟨x3, g3⟩ := sign_at (s := sg) (k := k3) (lt l3).1
  rw [e2, e3]
  exact A_retL (es := []) mC (g := [.str [x1], .str [x2], .str [x3]]) rfl ⟨by decide, by rw [e1]; exact rd_str (lt l1).2 g1, rd_str (lt l2).2 g2, rd_str (lt l3).2 g3, trivial⟩ fun ρ => q x1 x2 x3

/-! one move, out of a cell -/
theorem mulOk_r (a : Int) {b : Int} (hb : b.natAbs < 2 ^ 63) : mulOk a b := .inr hb
theorem four3 {a b e : Nat} {k : Nat} (hk : (k : Int) < 4) : ∃ s : List Nat, ([V.str [], V.str [a], V.str [b], V.str [e]] : List V)[k]? = some (.str s) ∧ s.length ≤ 1 ∧ ∀ c ∈ s, c ∈ [a, b, e] := by
  have : k = 0 ∨ k = 1 ∨ k = 2 ∨ k = 3 := by exact oq109 hk
  rcases this with rfl | rfl | rfl | rfl
  · exact ⟨[], rfl, by simp⟩
  · exact ⟨[a], rfl, by simp⟩
  · exact ⟨[b], rfl, by simp⟩
  · exact ⟨[e], rfl, by simp⟩
theorem four {a b e : Nat} {k : Nat} (hk : (k : Int) < 4) : ∃ s : List Nat, ([V.str [], V.str [a], V.str [b], V.str [e]] : List V)[k]? = some (.str s) ∧ s.length ≤ 1 := by
  obtain ⟨s, h1, h2, _⟩ := four3 (a := a) (b := b) (e := e) hk
  exact ⟨s, h1, h2⟩

/-- where the signs lie -/
noncomputable def SignsAt (h : H) (v : V) : Prop := ∃ n a b e : Nat, v = .ref n ∧ h[n]? = some (.list [.str [], .str [a], .str [b], .str [e]])
/-- the same, with the signs told -/
noncomputable def SgAt (h : H) (v : V) (cs : List Nat) : Prop := ∃ n a b e : Nat, v = .ref n ∧ cs = [a, b, e] ∧ h[n]? = some (.list [.str [], .str [a], .str [b], .str [e]])
theorem SgAt.pre {h h' : H} {v : V} {cs : List Nat} (x : SgAt h v cs) (p : h <+: h') : SgAt h' v cs := by
  obtain ⟨n, a, b, e, rfl, rfl, g⟩ := x
  obtain ⟨t, rfl⟩ := p
  exact ⟨n, a, b, e, rfl, rfl, get_app g⟩
theorem SgAt.at {h : H} {v : V} {cs : List Nat} (x : SgAt h v cs) : SignsAt h v := by
  obtain ⟨n, a, b, e, rfl, rfl, g⟩ := x
  exact ⟨n, a, b, e, rfl, g⟩
noncomputable def Mv.over (m : Mv) (cs : List Nat) : Prop := (∀ c ∈ m.t, c ∈ cs) ∧ ∀ c ∈ m.g, c ∈ cs
noncomputable def okMv (n : Nat) (m : Mv) : Prop := m.s < n ∧ m.q < n ∧ m.t.length ≤ 1 ∧ m.g.length ≤ 1

theorem pre_get {h h' : H} (p : h <+: h') {n : Nat} {o : MO} (x : h[n]? = some o) : h'[n]? = some o := by obtain ⟨t, rfl⟩ := p; exact get_app x
theorem IsMa.pre {h h' : H} (p : h <+: h') {v : V} {M : Ma} (x : IsMa h v M) : IsMa h' v M := by obtain ⟨t, rfl⟩ := p; exact x.app t
theorem set_last (h : H) (a b : MO) : (h ++ [a]).set h.length b = h ++ [b] := by simp

/-! is it whole -/
/-! machines seen through the heap -/
noncomputable def natD (n : Nat) : D := .int n
theorem snaps_map {α : Type} {f : α → V} {g : α → D} (hf : ∀ x, Snap h (f x) (g x)) : ∀ (l : List α), Snaps h (l.map f) (l.map g)
  | [] => .nil
  | x :: r => .cons (hf x) (snaps_map hf r)
theorem okD_nat (n : Nat) : ∀ (l : List Nat), (l.map natD).all (D.ok (n + 1)) = true
  | [] => rfl
  | x :: r => by simp [natD, D.ok]
end
end Tw
end

section
namespace Tw

/-! breadth first search, plain -/
theorem nodup_le {α : Type} [DecidableEq α] : ∀ (l m : List α), l.Nodup → (∀ x ∈ l, x ∈ m) → l.length ≤ m.length
  | [], m, _, _ => Nat.zero_le _
  | a :: l, m, h, s => by
    have ha := s a (by simp)
    have := nodup_le l (m.erase a) (List.nodup_cons.mp h).2 fun x hx => by
      have hne : x ≠ a := fun e => (List.nodup_cons.mp h).1 (e ▸ hx)
      exact (List.mem_erase_of_ne hne).mpr (s x (by simp [hx]))
    have h2 := List.length_erase_of_mem ha
    have h3 := List.length_pos_of_mem ha
    simp; exact qp3 qc4 qs0 qv1 qv0 qv2 qv2 qv3 qs3 qv1 qt this (qe h2) (qx (qp1 qc1 qk1 qv0 (qA qk0 qk1) qv0 qt h3))

structure Sys (N : Type) where
  b : N
  out : N → List Nat
  nx : N → Nat → Option N
  fin : N → Prop

inductive Run {N : Type} (s : Sys N) : List Nat → N → Prop
  | nil : Run s [] s.b
  | snoc {p : List Nat} {x y : N} {k : Nat} : Run s p x → k ∈ s.out x → s.nx x k = some y → Run s (p ++ [k]) y

/-- what was met: the node, a way to it, what the program noted -/
structure Ent (N : Type) where
  x : N
  p : List Nat
  w : V

structure Met {N : Type} (s : Sys N) (T : List (Ent N)) (a : Nat) : Prop where
  head : ∃ w, T[0]? = some ⟨s.b, [], w⟩
  runs : ∀ e ∈ T, Run s e.p e.x
  nodup : (T.map (·.x)).Nodup
  mono : T.Pairwise fun e f => e.p.length ≤ f.p.length
  idx : ∀ (i : Nat) (e : Ent N), T[i]? = some e → e.p.length ≤ i
  proc : ∀ (i : Nat) (e : Ent N), i < a → T[i]? = some e → ¬ s.fin e.x ∧ ∀ k ∈ s.out e.x, ∀ z, s.nx e.x k = some z → ∃ f ∈ T, f.x = z ∧ f.p.length ≤ e.p.length + 1

/-- the outer loop -/
structure MetO {N : Type} (s : Sys N) (T : List (Ent N)) (a : Nat) : Prop extends Met s T a where
  le : a ≤ T.length
  top : ∀ c : Ent N, T[a]? = some c → ∀ e ∈ T, e.p.length ≤ c.p.length + 1

/-- the inner loop: at c, i of its moves are done -/
structure MetI {N : Type} (s : Sys N) (T : List (Ent N)) (a : Nat) (c : Ent N) (i : Nat) : Prop extends Met s T a where
  here : T[a]? = some c
  top : ∀ e ∈ T, e.p.length ≤ c.p.length + 1
  part : ∀ j k, j < i → (s.out c.x)[j]? = some k → ∀ z, s.nx c.x k = some z → ∃ f ∈ T, f.x = z ∧ f.p.length ≤ c.p.length + 1

section
variable {N : Type} {s : Sys N} {T : List (Ent N)} {a i : Nat} {c : Ent N}
theorem MetO.start (w : V) : MetO s [⟨s.b, [], w⟩] 0 := {
  head := ⟨w, rfl⟩
  runs := fun e he => by simp at he; subst he; exact .nil
  nodup := by simp
  mono := by simp
  idx := fun i e h => by
    cases i with
    | zero => simp at h; subst h; simp
    | succ i => simp at h
  proc := fun i e h => absurd h (Nat.not_lt_zero _)
  le := by simp
  top := fun c _ e he => by simp at he; subst he; simp }
theorem MetO.enter (m : MetO s T a) (h : T[a]? = some c) : MetI s T a c 0 := { m.toMet with
  here := h
  top := m.top c h
  part := fun j k h => absurd h (Nat.not_lt_zero _) }
theorem MetI.leave (m : MetI s T a c i) (hf : ¬ s.fin c.x) (hi : (s.out c.x).length ≤ i) : MetO s T (a + 1) := { m.toMet with
  proc := fun j e hj h => by
    by_cases hja : j < a
    · exact m.proc j e hja h
    · have : j = a := by exact Nat.le_antisymm (qp1 qc2 qv0 qv1 qs0 qs1 qt hj) (qm hja)
      subst this
      rw [m.here] at h; injection h with h; subst h
      refine ⟨hf, fun k hk z hz => ?_⟩
      obtain ⟨j, hj, e⟩ := List.mem_iff_getElem.mp hk
      exact m.part j k (by exact qp2 qc3 qs0 qv1 qv2 qv1 qs0 qv2 qt hi hj) (by rw [← e]; exact List.getElem?_eq_getElem hj) z hz
  le := (List.getElem?_eq_some_iff.mp m.here).1
  top := fun c' h e he => by
    have h1 := m.top e he
    obtain ⟨l1, e1⟩ := List.getElem?_eq_some_iff.mp m.here
    obtain ⟨l2, e2⟩ := List.getElem?_eq_some_iff.mp h
    have := List.pairwise_iff_getElem.mp m.mono a (a + 1) l1 l2 (by exact Nat.le_refl _)
    rw [e1, e2] at this
    exact qp2 qc3 qv0 qs1 qv0 qs2 qv2 qv1 qt h1 this }
theorem MetI.skip (m : MetI s T a c i) {k : Nat} (hk : (s.out c.x)[i]? = some k) (h : ∀ z, s.nx c.x k = some z → z ∈ T.map (·.x)) : MetI s T a c (i + 1) := { m with
  part := fun j k' hj hk' z hz => by
    by_cases hji : j < i
    · exact m.part j k' hji hk' z hz
    · have : j = i := by exact Nat.le_antisymm (qp1 qc2 qv0 qv1 qs0 qs1 qt hj) (qm hji)
      subst this
      rw [hk] at hk'; injection hk' with hk'; subst hk'
      obtain ⟨f, hf, e⟩ := List.mem_map.mp (h z hz)
      exact ⟨f, hf, e, m.top f hf⟩ }
theorem MetI.push (m : MetI s T a c i) {k : Nat} {z : N} (w : V) (hk : (s.out c.x)[i]? = some k) (hz : s.nx c.x k = some z) (hn : z ∉ T.map (·.x)) : MetI s (T ++ [⟨z, c.p ++ [k], w⟩]) a c (i + 1) := by
  have hl := (List.getElem?_eq_some_iff.mp m.here).1
  have get : ∀ {j : Nat} {e : Ent N}, (T ++ [⟨z, c.p ++ [k], w⟩])[j]? = some e → T[j]? = some e ∨ (j = T.length ∧ e = ⟨z, c.p ++ [k], w⟩) := by
    intro j e h
    by_cases hj : j < T.length
    · rw [List.getElem?_append_left hj] at h; exact .inl h
    · rw [List.getElem?_append_right (by exact qm hj)] at h
      by_cases hj2 : j = T.length
      · subst hj2; simp at h; exact .inr ⟨rfl, h.symm⟩
      · have : j - T.length = (j - T.length - 1) + 1 := by exact oq110 hj hj2
        rw [this] at h; simp at h
  exact {
    head := by
      obtain ⟨w', h⟩ := m.head
      exact ⟨w', by rw [List.getElem?_append_left (by exact qp1 qc2 (qA qk0 qk1) qv0 qs1 qv0 qt hl)]; exact h⟩
    runs := fun e he => by
      rcases List.mem_append.mp he with he | he
      · exact m.runs e he
      · simp at he; subst he
        exact .snoc (m.runs c (List.mem_of_getElem? m.here)) (List.mem_of_getElem? hk) hz
    nodup := by
      rw [List.map_append, List.nodup_append]
      refine ⟨m.nodup, by simp, fun x hx y hy e => ?_⟩
      simp at hy; subst hy; subst e; exact hn hx
    mono := by
      rw [List.pairwise_append]
      refine ⟨m.mono, by simp, fun x hx y hy => ?_⟩
      simp at hy; subst hy
      have := m.top x hx
      simpa using this
    idx := fun j e h => by
      rcases get h with h | ⟨rfl, rfl⟩
      · exact m.idx j e h
      · have := m.idx a c m.here
        simp; exact qp2 qc3 qs0 qv1 qs2 qv1 qv0 qv2 qt hl this
    proc := fun j e hj h => by
      rcases get h with h | ⟨rfl, rfl⟩
      · refine ⟨(m.proc j e hj h).1, fun k hk z hz => ?_⟩
        obtain ⟨f, hf, r⟩ := (m.proc j e hj h).2 k hk z hz
        exact ⟨f, List.mem_append_left _ hf, r⟩
      · exact qf2 qc2 qs0 qv1 qs1 qv0 qt hl hj
    here := by rw [List.getElem?_append_left hl]; exact m.here
    top := fun e he => by
      rcases List.mem_append.mp he with he | he
      · exact m.top e he
      · simp at he; subst he; simp
    part := fun j k' hj hk' z' hz' => by
      by_cases hji : j < i
      · obtain ⟨f, hf, r⟩ := m.part j k' hji hk' z' hz'
        exact ⟨f, List.mem_append_left _ hf, r⟩
      · have : j = i := by exact Nat.le_antisymm (qp1 qc2 qv0 qv1 qs0 qs1 qt hj) (qm hji)
        subst this
        rw [hk] at hk'; injection hk' with hk'; subst hk'
        rw [hz] at hz'; injection hz' with hz'; subst hz'
        exact ⟨⟨z, c.p ++ [k], w⟩, List.mem_append_right _ (by simp), rfl, by simp⟩ }

/-- a way to a node leads over what was met -/
theorem Met.cover (m : Met s T a) {n : Nat} {p : List Nat} {x : N} (r : Run s p x) (hp : p.length ≤ n) (h : ∀ (i : Nat) (e : Ent N), T[i]? = some e → e.p.length ≤ n → i < a ∨ e.p.length = n) : ∃ e ∈ T, e.x = x ∧ e.p.length ≤ p.length := by
  induction r with
  | nil =>
    obtain ⟨w, h⟩ := m.head
    exact ⟨_, List.mem_of_getElem? h, rfl, by simp⟩
  | @snoc p x y k r hk hy ih =>
    simp at hp
    obtain ⟨e, he, rfl, hl⟩ := ih (by exact qp1 qc2 qv0 qv1 qs0 qv1 qt hp)
    obtain ⟨j, hj, hj2⟩ := List.mem_iff_getElem.mp he
    have hg : T[j]? = some e := by rw [← hj2]; exact List.getElem?_eq_getElem hj
    have hja : j < a := by
      rcases h j e hg (by exact qp2 qc3 qv0 qv1 qs2 qv1 qv0 qv2 qt hp hl) with h | h
      · exact h
      · exact qf3 qc3 qs0 qv1 qv2 qv0 qv1 qv2 qt hp hl (qi h)
    obtain ⟨f, hf, e1, e2⟩ := (m.proc j e hja hg).2 k hk y hy
    exact ⟨f, hf, e1, by simp; exact qp2 qc3 qv0 qs1 qv2 qv1 qv0 qs2 qt hl e2⟩
end
end Tw
end

section
--down
namespace Tw

section
variable {Φ : Nat → Option Fn} {d : Nat} {h : H} {Q : V → H → Prop}

theorem small_nat {n : Nat} (h : n < 2147483648) : smallI n := by unfold smallI; omega
theorem pre_set {h h' : H} (p : h <+: h') {k : Nat} (hk : h.length ≤ k) (o : MO) : h <+: h'.set k o := by
  obtain ⟨t, rfl⟩ := p
  exact ⟨t.set (k - h.length) o, by rw [List.set_append_right _ _ hk]⟩

/-! the moves that leave a state -/
noncomputable def outK (ms : List Mv) (i s : Nat) : List Nat := (List.range i).filter fun p => decide ((ms[p]?.map Mv.s) = some s)
noncomputable def outs (ms : List Mv) (s : Nat) : List Nat := outK ms ms.length s
theorem outK_len (ms : List Mv) (i s : Nat) : (outK ms i s).length ≤ i := by
  have := List.length_filter_le (fun p => decide ((ms[p]?.map Mv.s) = some s)) (List.range i)
  rw [List.length_range] at this; exact this
theorem mem_outs {ms : List Mv} {s k : Nat} : k ∈ outs ms s ↔ ∃ m, ms[k]? = some m ∧ m.s = s := by
  unfold outs outK
  rw [List.mem_filter, List.mem_range]
  constructor
  · intro ⟨h1, h2⟩
    simp at h2; exact h2
  · intro ⟨m, h1, h2⟩
    exact ⟨(List.getElem?_eq_some_iff.mp h1).1, by simp [h1, h2]⟩
theorem outK_succ {ms : List Mv} {i : Nat} {m : Mv} (hm : ms[i]? = some m) (s : Nat) : outK ms (i + 1) s = if m.s = s then outK ms i s ++ [i] else outK ms i s := by
  unfold outK
  rw [List.range_succ, List.filter_append]
  by_cases h : m.s = s <;> simp [hm, h]
noncomputable def OutAt (h : H) (v : V) (M : Ma) : Prop := ∃ L r : Nat, v = .ref L ∧ h[L]? = some (.list ((List.range M.n).map fun s => V.ref (r + s))) ∧ ∀ s, s < M.n → h[r + s]? = some (.list ((outs M.moves s).map natV))
theorem leaving_ok {m : Nat} {M : Ma} (h2 : Φ 2 = some fn_leaving) (hm : h[m]? = some (.list (M.moves.map Mv.v))) (ok : M.ok) (q : ∀ v h', h <+: h' → OutAt h' v M → Q v h') : Calls Φ (d + 1) 2 [.int M.n, .ref m] h Q := by
  have mC := calls_mono (Φ := Φ) d
  have hz := SZ_val
  have n2 := ok.n2
  have l1 := ok.l1
  refine ⟨fn_leaving, h2, rfl, A_fn (A_name mC fun ρ ag => ?_)⟩
  refine E_comp_it mC (goes_range M.n) (fun i out H => H = h ++ List.replicate i (.list []) ∧ out = (List.range i).map fun s => V.ref (h.length + s)) (A_ev (C := Calls Φ d) (L := argsL 0 [.int M.n, .ref m]) (e := .bi .range [.var 0]) (v := .rng 0 M.n 1) (c := [smallI M.n]) (Q := fun w h₁ => (∀ Q : It → Prop, Q (.vals ((rangeV 0 M.n 1).drop 0)) → IterW w h₁ Q) ∧ h₁ = h ++ List.replicate 0 (.list []) ∧ ([] : List V) = (List.range 0).map fun s => V.ref (h.length + s)) (g := []) rfl ⟨small_nat (n := M.n) (by exact qp1 qc1 qs0 (qN 2147483648) qv0 (qN 100) qt n2), trivial⟩ ⟨fun _ q => q, (List.append_nil _).symm, rfl⟩ ρ ag) (fun _ _ _ _ => trivial) ?_ ?_
  · rintro i v out H hv ⟨rfl, rfl⟩
    obtain ⟨k', hk', rfl, hkm⟩ := map_at hv
    rw [List.length_range] at hkm
    rw [x_bn, o_none]
    show wpE _ (.list []) _ _ _
    rw [e_list, es_nil]
    refine ⟨by rw [List.length_map, List.length_range]; exact qp3 qc3 qs0 qv1 (qN 16777216) qv1 qv2 (qN 100) qs0 qv2 qt (qi hz) n2 hkm, by rw [List.append_assoc, List.replicate_succ'], ?_⟩
    rw [List.range_succ, List.map_append, List.length_append, List.length_replicate]; rfl
  rintro out H ⟨rfl, rfl⟩
  rw [List.length_map, List.length_range]
  have hpre : h <+: h ++ List.replicate M.n (MO.list []) ++ [MO.list ((List.range M.n).map fun s => V.ref (h.length + s))] := by rw [List.append_assoc]; exact List.prefix_append _ _
  have q3 : (h ++ List.replicate M.n (MO.list [])).length = h.length + M.n := by rw [List.length_append, List.length_replicate]
  have q1 : (h ++ List.replicate M.n (MO.list []) ++ [MO.list ((List.range M.n).map fun s => V.ref (h.length + s))])[h.length + M.n]? = some (.list ((List.range M.n).map fun s => V.ref (h.length + s))) := by rw [← q3]; exact get_last _ _
  have q2 : ∀ s, s < M.n → (h ++ List.replicate M.n (MO.list []) ++ [MO.list ((List.range M.n).map fun s => V.ref (h.length + s))])[h.length + s]? = some (.list ((outK M.moves 0 s).map natV)) := fun s hs => by
    refine get_app ?_
    rw [List.getElem?_append_right (Nat.le_add_right ..), Nat.add_sub_cancel_left, List.getElem?_replicate, if_pos hs]; rfl
  rw [q3]
  generalize h ++ List.replicate M.n (MO.list []) ++ [MO.list ((List.range M.n).map fun s => V.ref (h.length + s))] = B at hpre q1 q2 ⊢
  clear ag ρ
  refine A_for mC (goes_range M.moves.length) (fun _ : Unit => [(1, .ref m), (2, .ref (h.length + M.n))]) (fun i _ H => h <+: H ∧ H[h.length + M.n]? = some (.list ((List.range M.n).map fun s => V.ref (h.length + s))) ∧ ∀ s, s < M.n → H[h.length + s]? = some (.list ((outK M.moves i s).map natV))) () (by repeat (first | exact trivial | refine ⟨rfl, ?_⟩)) (A_ev (g := [.int M.moves.length]) rfl ⟨ln_map (pre_get hpre hm), small_nat (by exact qp1 qc1 qs0 (qN 2147483648) qv0 (qN 1000) qt l1), trivial⟩ ⟨fun _ q => q, hpre, q1, q2⟩) (fun _ _ _ _ => trivial) ?_ fun _ H x => A_ret (g := []) rfl trivial fun ρ => q _ _ x.1 ⟨_, _, rfl, x.2.1, by rw [List.length_map, List.length_range] at x; exact x.2.2⟩
  rintro i v _ H hv ⟨p, g1, g2⟩
  obtain ⟨k', hk', rfl, hkm⟩ := map_at hv
  have : k' = i := by rw [List.getElem?_range (by simpa using hkm)] at hk'; exact (Option.some.inj hk').symm
  subst this
  rw [List.length_range] at hkm
  obtain ⟨x, hx⟩ : ∃ x, M.moves[k']? = some x := ⟨_, List.getElem?_eq_getElem hkm⟩
  have hxs := (ok.m1 x (List.mem_of_getElem? hx)).1
  have g3 := g2 x.s hxs
  have ol := outK_len M.moves k' x.s
  refine A_appE (g₂ := [x.v, .ref (h.length + x.s)]) rfl ⟨rd_list (pre_get p hm) (by omega) (by rw [List.getElem?_map, hx]; rfl), rd_list g1 (by omega) (by rw [List.getElem?_map, List.getElem?_range hxs]; rfl), trivial⟩ g3 (by rw [List.length_map]; exact qp4 qc4 qs0 qv1 (qN 16777216) qv1 qv2 (qN 1000) qs3 qv2 qv0 qv3 qt (qi hz) l1 hkm ol) (g := []) rfl trivial (A_next () (by repeat (first | exact trivial | refine ⟨rfl, ?_⟩)) ⟨pre_set p (Nat.le_add_right ..) _, ?_, fun s hs => ?_⟩)
  · rw [List.getElem?_set_ne (by exact fun e0 => qf2 qc3 qs0 qv1 (qA qv2 qv1) (qA qv2 qv0) qt hxs (qi e0))]; exact g1
  · rw [outK_succ hx]
    by_cases e : x.s = s
    · subst e
      rw [List.getElem?_set_self (List.getElem?_eq_some_iff.mp g3).1, if_pos rfl, List.map_append]; rfl
    · rw [List.getElem?_set_ne (by exact oq111 e), if_neg e]; exact g2 s hs

/-! the dict of what was met -/
noncomputable def Ent.kv {N : Type} (nv : N → V) (e : Ent N) : V × V := (nv e.x, e.w)
section
variable {N : Type} {nv : N → V} (inj : ∀ a b, nv a = nv b → a = b)
include inj
theorem keys_mem {T : List (Ent N)} {z : N} : nv z ∈ (T.map (Ent.kv nv)).map (·.1) ↔ z ∈ T.map (·.x) := by
  simp only [List.map_map, List.mem_map, Function.comp, Ent.kv]
  constructor
  · rintro ⟨e, he, h⟩; exact ⟨e, he, inj _ _ h⟩
  · rintro ⟨e, he, rfl⟩; exact ⟨e, he, rfl⟩
theorem dput_kv {T : List (Ent N)} {z : N} (p : List Nat) (w : V) (hz : z ∉ T.map (·.x)) : dput (T.map (Ent.kv nv)) (nv z) w = (T ++ [⟨z, p, w⟩] : List (Ent N)).map (Ent.kv nv) := by
  have : dget (T.map (Ent.kv nv)) (nv z) = none := by
    unfold dget
    rw [Option.map_eq_none_iff, List.find?_eq_none]
    intro e he hd
    have := of_decide_eq_true hd
    exact hz ((keys_mem inj).mp (List.mem_map.mpr ⟨e, he, this⟩))
  unfold dput
  rw [this]
  simp [Ent.kv]

end
end
end Tw
end

section
namespace Tw

/-! ways of a machine, plain -/
inductive Path (M : Ma) : List Nat → Nat → Prop
  | nil : Path M [] M.b
  | snoc {p : List Nat} {k : Nat} {m : Mv} : Path M p m.s → M.moves[k]? = some m → Path M (p ++ [k]) m.q
noncomputable def rdOf (M : Ma) (p : List Nat) : List Nat := p.flatMap fun k => (M.moves[k]?.map Mv.t).getD []
noncomputable def wrOf (M : Ma) (p : List Nat) : List Nat := p.flatMap fun k => (M.moves[k]?.map Mv.g).getD []
theorem rd_snoc {M : Ma} {k : Nat} {m : Mv} (h : M.moves[k]? = some m) (p : List Nat) : rdOf M (p ++ [k]) = rdOf M p ++ m.t := by simp [rdOf, h]
theorem wr_snoc {M : Ma} {k : Nat} {m : Mv} (h : M.moves[k]? = some m) (p : List Nat) : wrOf M (p ++ [k]) = wrOf M p ++ m.g := by simp [wrOf, h]
structure IsWay (M : Ma) (text writing p : List Nat) : Prop where
  path : ∃ s, Path M p s ∧ s ∈ M.ends
  rd : rdOf M p = text
  wr : wrOf M p = writing

theorem gone_some {t sg : List Nat} {i i' : Nat} (hs : sg.length ≤ 1) (hi : i ≤ t.length) (h : gone t i sg = some i') : i' ≤ t.length ∧ t.take i' = t.take i ++ sg := by
  unfold gone at h
  by_cases h0 : sg = []
  · simp [h0] at h; subst h; exact ⟨hi, by simp [h0]⟩
  · rw [if_neg h0] at h
    by_cases h1 : (t[i]?.map fun c => [c]) = some sg
    · rw [if_pos h1] at h; injection h with h; subst h
      obtain ⟨c, hc, e⟩ := Option.map_eq_some_iff.mp h1
      refine ⟨(List.getElem?_eq_some_iff.mp hc).1, ?_⟩
      rw [List.take_add_one, hc, ← e]; rfl
    · rw [if_neg h1] at h; cases h
theorem gone_pre {t l sg : List Nat} (hs : sg.length ≤ 1) (h : l ++ sg <+: t) : gone t l.length sg = some (l ++ sg).length := by
  obtain ⟨r, rfl⟩ := h
  unfold gone
  match sg, hs with
  | [], _ => simp
  | [c], _ => simp

section
variable {M : Ma} {t w : List Nat} (ok : M.ok)
include ok
theorem path_lt {p : List Nat} {s : Nat} (h : Path M p s) : s < M.n := by
  cases h with
  | nil => exact ok.b1
  | snoc h1 h2 => exact (ok.m1 _ (List.mem_of_getElem? h2)).2.1
end

/-! all places that there are -/
theorem len_flat {α β : Type} (f : α → List β) (c : Nat) (h : ∀ x, (f x).length = c) : ∀ l : List α, (l.flatMap f).length = l.length * c
  | [] => by simp
  | x :: r => by rw [List.flatMap_cons, List.length_append, h, len_flat f c h r, List.length_cons, Nat.add_mul]; exact Nat.le_antisymm (qp0 qc2 (qA qv0 qv1) (qA qv1 (qM 1 qv0)) qt ) (qp0 qc2 (qA qv0 (qM 1 qv1)) (qA qv1 qv0) qt )
theorem dput_mem {es : List (V × V)} {k k' v : V} : k' ∈ (dput es k v).map (·.1) ↔ k' ∈ es.map (·.1) ∨ k' = k := by
  unfold dput
  by_cases h : (dget es k).isSome
  · rw [if_pos h]
    have e : (es.map fun e => if e.1 = k then (e.1, v) else e).map (·.1) = es.map (·.1) := by
      rw [List.map_map]; apply List.map_congr_left; intro e _; simp only [Function.comp]; split <;> rfl
    rw [e]
    constructor
    · exact .inl
    · rintro (h' | rfl)
      · exact h'
      · obtain ⟨v', hv⟩ := Option.isSome_iff_exists.mp h
        obtain ⟨e, he, _⟩ := Option.map_eq_some_iff.mp hv
        have := List.find?_some he
        exact List.mem_map.mpr ⟨e, List.mem_of_find?_eq_some he, of_decide_eq_true this⟩
  · rw [if_neg h]; simp
theorem fin_mem {es : List Nat} {s : Nat} : natV s ∈ (finD es).map (·.1) ↔ s ∈ es := by
  have : ∀ (es : List Nat) (a : List (V × V)), natV s ∈ (es.foldl (fun a e => dput a (natV e) (V.bool true)) a).map (·.1) ↔ natV s ∈ a.map (·.1) ∨ s ∈ es := by
    intro es
    induction es with
    | nil => intro a; simp
    | cons e r ih =>
      intro a
      rw [List.foldl_cons, ih, dput_mem, List.mem_cons]
      have : natV s = natV e ↔ s = e := by simp [natV]; exact oq112
      rw [this, or_assoc]
  unfold finD
  rw [this]; simp
end Tw
end

section
namespace Tw

section
variable {Φ : Nat → Option Fn} {d : Nat} {h : H} {Q : V → H → Prop}

theorem last2a (h : H) (a b : MO) : (h ++ [a, b])[h.length]? = some a := by simp
theorem set2a (h : H) (a b c : MO) : (h ++ [a, b]).set h.length c = h ++ [c, b] := by simp
end
end Tw
end

section
namespace Tw

section
variable {Φ : Nat → Option Fn} {d : Nat} {h : H} {Q : V → H → Prop}

end
end Tw
end

section
namespace Tw

section
variable {Φ : Nat → Option Fn} {d : Nat} {h : H} {Q : V → H → Prop}

end
end Tw
end

section
namespace Tw

section
variable {Φ : Nat → Option Fn} {d : Nat} {h : H} {Q : V → H → Prop}

theorem snaps_nat (h : H) (l : List Nat) : Snaps h (l.map natV) (l.map natD) := snaps_map (fun _ => .int _) l
theorem natD_inj {a b : Nat} (e : natD a = natD b) : a = b := by injection e with e; exact oq113 e
theorem natD_mem {s : Nat} {es : List Nat} : natD s ∈ es.map natD ↔ s ∈ es := by
  rw [List.mem_map]
  exact ⟨fun ⟨x, hx, e⟩ => natD_inj e ▸ hx, fun hx => ⟨s, hx, rfl⟩⟩
theorem natD_ok (l : List Nat) : ∀ d ∈ l.map natD, D.ok 9 d = true := by
  intro d hd
  obtain ⟨x, _, rfl⟩ := List.mem_map.mp hd
  rfl
/-- is a whole number in a list of them -/
theorem x_inN {n s : Nat} {es : List Nat} {P : Bool → Prop} (h1 : h[n]? = some (.list (es.map natV))) (x : P (decide (s ∈ es))) : CmpW .isIn (.int s) (.ref n) h P := by
  rw [x_inl h1]
  exact ⟨natD s, es.map natD, .int _, snaps_nat h es, rfl, natD_ok es, by rw [decide_eq_decide.mpr natD_mem]; exact x⟩
/-- is a list of whole numbers empty -/
theorem x_nil {n m : Nat} {es : List Nat} {P : Bool → Prop} (h1 : h[n]? = some (.list (es.map natV))) (h2 : h[m]? = some (.list [])) (x : P (decide (es = []))) : CmpW .eq (.ref n) (.ref m) h P := by
  refine x_eqd (d₁ := .list (es.map natD)) (d₂ := .list []) (.list h1 (snaps_nat h es)) (.list h2 .nil) (okD_nat 7 es) rfl ?_
  rw [show decide (D.list (es.map natD) = D.list []) = decide (es = []) from decide_eq_decide.mpr ⟨fun e => by injection e with e; exact List.map_eq_nil_iff.mp e, fun e => by rw [e]; rfl⟩]
  exact x

/-! the texts of a way -/
theorem isStrs_map {α : Type} (f : α → List Nat) : ∀ l : List α, isStrs (l.map fun x => V.str (f x)) = some (l.map f)
  | [] => rfl
  | x :: r => by show (isStrs (r.map fun x => V.str (f x))).map _ = _; rw [isStrs_map f r]; rfl
theorem joinS_flat : ∀ l : List (List Nat), joinS [] l = l.flatten
  | [] => rfl
  | [x] => by simp [joinS]
  | x :: y :: r => by
    show x ++ [] ++ joinS [] (y :: r) = _
    rw [joinS_flat (y :: r)]; simp
/-! is it a way -/
end
end Tw
end

section
namespace Tw

section
variable {Φ : Nat → Option Fn} {d : Nat} {h : H} {Q : V → H → Prop}

theorem get_lt {h : H} {n : Nat} {o : MO} (x : h[n]? = some o) : n < h.length := (List.getElem?_eq_some_iff.mp x).1

end
end Tw
end

section
namespace Tw

/-! the ends, as a dict's keys -/
theorem dget_keys (es : List (V × V)) (k : V) : (dget es k).isSome = decide (k ∈ es.map (·.1)) := by
  unfold dget
  rw [Option.isSome_map, Bool.eq_iff_iff, List.find?_isSome, decide_eq_true_iff, List.mem_map]
  exact ⟨fun ⟨e, h1, h2⟩ => ⟨e, h1, of_decide_eq_true h2⟩, fun ⟨e, h1, h2⟩ => ⟨e, h1, decide_eq_true h2⟩⟩
theorem dput_keys (es : List (V × V)) (k v : V) : (dput es k v).map (·.1) = if k ∈ es.map (·.1) then es.map (·.1) else es.map (·.1) ++ [k] := by
  unfold dput
  rw [dget_keys]
  by_cases h : k ∈ es.map (·.1)
  · rw [if_pos (decide_eq_true h), if_pos h, List.map_map]
    apply List.map_congr_left
    intro e _
    simp only [Function.comp]
    split <;> rfl
  · rw [if_neg (by rw [decide_eq_false h]; exact Bool.false_ne_true), if_neg h, List.map_append]; rfl
theorem mulOk_nat {a b : Nat} (h : b < 1000000) : mulOk a b := .inr (by omega)
theorem mul_small8 (c : Int) (k : Nat) (hk : k < 1000) : mulOk 7919 k ∧ mulOk (7919 * k) k ∧ mulOk (c + 7919 * k * k) 48271 := ⟨.inl (by decide), .inr (by omega), mulOk_r _ (by decide)⟩
theorem cm_inN {h : H} {n s : Nat} {es : List Nat} (x : h[n]? = some (.list (es.map natV))) : CmW h .isIn (.int s) (.ref n) (decide (s ∈ es)) := fun P q => x_inN x q
end Tw
end

section
namespace Tw

/-! all that a machine writes, plain -/
noncomputable def sysW (M : Ma) (t : List Nat) (most : Nat) : Sys (Nat × Nat × List Nat) where
  b := (M.b, 0, [])
  out := fun x => outs M.moves x.1
  nx := fun x k => (M.moves[k]?).bind fun m => (gone t x.2.1 m.t).bind fun i => if (x.2.2 ++ m.g).length ≤ most then some (m.q, i, x.2.2 ++ m.g) else none
  fin := fun _ => False
noncomputable def nvW (x : Nat × Nat × List Nat) : V := .tup [.int x.1, .int x.2.1, .str x.2.2]
theorem nvW_inj (a b : Nat × Nat × List Nat) (h : nvW a = nvW b) : a = b := by
  obtain ⟨a1, a2, a3⟩ := a
  obtain ⟨b1, b2, b3⟩ := b
  simp [nvW] at h
  have h1 : a1 = b1 := by omega
  have h2 : a2 = b2 := by omega
  rw [h1, h2, h.2.2]
section
variable {M : Ma} {t : List Nat} {most : Nat} (ok : M.ok)
include ok
theorem run_pathW {p : List Nat} {x : Nat × Nat × List Nat} (r : Run (sysW M t most) p x) : Path M p x.1 ∧ x.2.1 ≤ t.length ∧ rdOf M p = t.take x.2.1 ∧ wrOf M p = x.2.2 ∧ x.2.2.length ≤ most := by
  induction r with
  | nil => exact ⟨.nil, Nat.zero_le _, rfl, rfl, Nat.zero_le _⟩
  | @snoc p x y k r hk hy ih =>
    obtain ⟨m, hm, e⟩ := mem_outs.mp hk
    simp only [sysW, hm, Option.bind_some] at hy
    obtain ⟨i, hi, hy⟩ := Option.bind_eq_some_iff.mp hy
    obtain ⟨h1, h2, h3, h4, h5⟩ := ih
    have hmo := ok.m1 m (List.mem_of_getElem? hm)
    obtain ⟨a1, a2⟩ := gone_some hmo.2.2.1 h2 hi
    by_cases hl : (x.2.2 ++ m.g).length ≤ most
    · rw [if_pos hl] at hy
      injection hy with hy
      subst hy
      exact ⟨.snoc (e ▸ h1) hm, a1, by rw [rd_snoc hm, h3, a2], by rw [wr_snoc hm, h4], hl⟩
    · rw [if_neg hl] at hy; cases hy
theorem path_runW {p : List Nat} {s : Nat} (h : Path M p s) (h1 : rdOf M p <+: t) (h2 : (wrOf M p).length ≤ most) : Run (sysW M t most) p (s, (rdOf M p).length, wrOf M p) := by
  induction h with
  | nil => exact .nil
  | @snoc p k m hp hm ih =>
    have hmo := ok.m1 m (List.mem_of_getElem? hm)
    rw [rd_snoc hm] at h1 ⊢
    rw [wr_snoc hm] at h2 ⊢
    refine .snoc (ih ((List.prefix_append _ _).trans h1) (by rw [List.length_append] at h2; exact qp1 qc3 qv0 qv1 (qA qv0 qv2) qv1 qt h2)) (mem_outs.mpr ⟨m, hm, rfl⟩) ?_
    simp only [sysW, hm, Option.bind_some, gone_pre hmo.2.2.1 h1, if_pos h2]
end

/-! all strs up to a length -/
noncomputable def strsUp (cs : List Nat) : Nat → List (List Nat)
  | 0 => [[]]
  | n + 1 => [] :: cs.flatMap fun c => (strsUp cs n).map (c :: ·)
noncomputable def cntUp (k : Nat) : Nat → Nat
  | 0 => 1
  | n + 1 => 1 + k * cntUp k n
theorem strsUp_len (cs : List Nat) : ∀ n, (strsUp cs n).length = cntUp cs.length n
  | 0 => rfl
  | n + 1 => by
    show ([] :: cs.flatMap fun c => (strsUp cs n).map (c :: ·)).length = 1 + cs.length * cntUp cs.length n
    rw [List.length_cons, len_flat _ (cntUp cs.length n) (fun c => by rw [List.length_map, strsUp_len cs n])]; exact Nat.le_antisymm (qp0 qc1 qs0 (qA qk1 qv0) qt ) (qp0 qc1 (qA qk1 qv0) qs0 qt )
theorem strsUp_mem {cs : List Nat} : ∀ {n : Nat} {w : List Nat}, (∀ c ∈ w, c ∈ cs) → w.length ≤ n → w ∈ strsUp cs n
  | 0, [], _, _ => List.mem_singleton.mpr rfl
  | 0, _ :: _, _, h => by simp at h
  | n + 1, [], _, _ => List.mem_cons_self
  | n + 1, c :: w, hc, h => List.mem_cons_of_mem _ (List.mem_flatMap.mpr ⟨c, hc c (by simp), List.mem_map.mpr ⟨w, strsUp_mem (fun x hx => hc x (by simp [hx])) (by simpa using h), rfl⟩⟩)
noncomputable def boxW (n a : Nat) (ws : List (List Nat)) : List (Nat × Nat × List Nat) := (List.range n).flatMap fun s => (List.range a).flatMap fun i => ws.map fun w => (s, i, w)
theorem boxW_len (n a : Nat) (ws : List (List Nat)) : (boxW n a ws).length = n * (a * ws.length) := by
  unfold boxW; rw [len_flat _ (a * ws.length) (fun s => by rw [len_flat _ ws.length (fun i => by simp)]; simp)]; simp
theorem boxW_mem {n a : Nat} {ws : List (List Nat)} {x : Nat × Nat × List Nat} (h1 : x.1 < n) (h2 : x.2.1 < a) (h3 : x.2.2 ∈ ws) : x ∈ boxW n a ws := by
  obtain ⟨s, i, w⟩ := x
  simp only [boxW, List.mem_flatMap, List.mem_map, List.mem_range]
  exact ⟨s, h1, i, h2, w, h3, rfl⟩
theorem wr_in {M : Ma} {cs : List Nat} (h : ∀ m ∈ M.moves, ∀ c ∈ m.g, c ∈ cs) {p : List Nat} : ∀ c ∈ wrOf M p, c ∈ cs := by
  intro c hc
  unfold wrOf at hc
  obtain ⟨k, _, hk⟩ := List.mem_flatMap.mp hc
  cases hm : M.moves[k]? with
  | none => rw [hm] at hk; cases hk
  | some m => rw [hm] at hk; exact h m (List.mem_of_getElem? hm) c hk

/-! the heap of the loop: the dict of what was met, the row, the dict of what was found -/
noncomputable def heapW (B : H) (T : List (Ent (Nat × Nat × List Nat))) (ver : Nat) (fe : List (V × V)) (fv : Nat) : H := B ++ [.dict (T.map (Ent.kv nvW)) ver, .list (T.map fun e => nvW e.x), .dict fe fv]
section
variable (B : H) (T : List (Ent (Nat × Nat × List Nat))) (ver : Nat) (fe : List (V × V)) (fv : Nat)
theorem heapW_d : (heapW B T ver fe fv)[B.length]? = some (.dict (T.map (Ent.kv nvW)) ver) := by simp [heapW]
theorem heapW_l : (heapW B T ver fe fv)[B.length + 1]? = some (.list (T.map fun e => nvW e.x)) := by
  unfold heapW; rw [List.getElem?_append_right (by exact qp0 qc1 qv0 qs0 qt )]; simp
theorem heapW_f : (heapW B T ver fe fv)[B.length + 2]? = some (.dict fe fv) := by
  unfold heapW; rw [List.getElem?_append_right (by exact qp0 qc1 qv0 (qA qv0 qk2) qt )]; simp
theorem heapW_p : B <+: heapW B T ver fe fv := List.prefix_append ..
theorem heapW_sf (fe' : List (V × V)) (fv' : Nat) : (heapW B T ver fe fv).set (B.length + 2) (.dict fe' fv') = heapW B T ver fe' fv' := by
  unfold heapW; rw [List.set_append_right _ _ (by exact qp0 qc1 qv0 (qA qv0 qk2) qt )]; simp
end
theorem heapW_n (B : H) {T : List (Ent (Nat × Nat × List Nat))} (ver ver' : Nat) (fe : List (V × V)) (fv : Nat) {z : Nat × Nat × List Nat} (p : List Nat) (w : V) (hz : z ∉ T.map (·.x)) :
    ((heapW B T ver fe fv).set B.length (.dict (dput (T.map (Ent.kv nvW)) (nvW z) w) ver')).set (B.length + 1) (.list ((T.map fun e => nvW e.x) ++ [nvW z])) = heapW B (T ++ [⟨z, p, w⟩]) ver' fe fv := by
  unfold heapW
  rw [List.set_append_right _ _ (Nat.le_refl _), List.set_append_right _ _ (by exact qp0 qc1 qv0 qs0 qt ), dput_kv nvW_inj p w hz]
  simp
end Tw
end

section
namespace Tw

/-- there are few places to come to -/
noncomputable def Few (M : Ma) (t : List Nat) (most K : Nat) : Prop := ∀ T : List (Nat × Nat × List Nat), T.Nodup → (∀ x ∈ T, ∃ p, Run (sysW M t most) p x) → T.length ≤ K
/-- a str that the machine writes for the text -/
noncomputable def Wrote (M : Ma) (t : List Nat) (most : Nat) (w : List Nat) : Prop := ∃ p s, Path M p s ∧ s ∈ M.ends ∧ rdOf M p = t ∧ wrOf M p = w ∧ w.length ≤ most
theorem strV_mem {w : List Nat} {ks : List (List Nat)} : V.str w ∈ ks.map V.str ↔ w ∈ ks := by
  rw [List.mem_map]
  exact ⟨fun ⟨x, hx, e⟩ => by injection e with e; exact e ▸ hx, fun h => ⟨w, h, rfl⟩⟩

section
variable {Φ : Nat → Option Fn} {d : Nat} {h : H} {Q : V → H → Prop}

theorem A_tup3c {C : Ora} {L : Env} {h : H} {Q : V → H → Prop} (hC : MonoC C) {e₁ e₃ : E} {f : Nat} {as : List E} {v₁ : V} {vs g₁ g₁' g₂ g₂' : List V} {c₁ c₂ : List Prop} (x₁ : ev L h e₁ g₁ = some (v₁, c₁, g₁')) (hc₁ : AllP c₁) (x₂ : evs L h as g₂ = some (vs, c₂, g₂')) (hc₂ : AllP c₂)
    (q : C f vs h fun v₂ h₁ => ∃ g₃ v₃ c₃ g₃', ev L h₁ e₃ g₃ = some (v₃, c₃, g₃') ∧ AllP c₃ ∧ Q (.tup [v₁, v₂, v₃]) h₁) : AE C L h (.tup [e₁, .call f as, e₃]) Q := fun ρ ag => by
  rw [e_tup, es_cons]
  refine ev_snd ag e₁ _ _ _ _ x₁ hc₁ (fun w => w = v₁) rfl _ fun w e => ?_
  subst e
  rw [es_cons]
  refine wpE_mono hC (.call f as) (fun v₂ h₁ y => ?_) (A_callE (C := C) x₂ hc₂ q ρ ag)
  obtain ⟨g₃, v₃, c₃, g₃', y1, y2, y3⟩ := y
  rw [es_cons]
  refine ev_snd ag e₃ _ _ _ _ y1 y2 (fun w => w = v₃) rfl _ fun w e => ?_
  subst e
  exact y3

noncomputable def wrL (vo : V) (t : List Nat) (most f m c : Nat) : Env := [(1, .str t), (2, .int most), (5, .ref f), (6, .ref m), (7, vo), (8, .ref c), (9, .ref (c + 1)), (10, .ref (c + 2))]
noncomputable def wrL2 (vo : V) (t : List Nat) (most f m c a : Nat) (x : Nat × Nat × List Nat) : Env := (11, .int (a + 1 : Nat)) :: (12, .int x.1) :: (13, .int x.2.1) :: (14, .str x.2.2) :: wrL vo t most f m c
theorem writings_ok {v : V} {M : Ma} {t : List Nat} {most K : Nat} (h0 : Φ 0 = some fn_need) (h1 : Φ 1 = some fn_checked) (h2 : Φ 2 = some fn_leaving) (h3 : Φ 3 = some fn_gone_on) (h7 : Φ 7 = some fn_writings)
    (hm : IsMa h v M) (ok : M.ok) (ht : t.length < SZ) (hmost : most < 1000000) (few : Few M t most K) (hb : K < SZ)
    (q : ∀ h' r l, h <+: h' → h.length ≤ r → l.length ≤ K → h'[r]? = some (.list (List.map V.str l)) → (∀ w, w ∈ l ↔ Wrote M t most w) → l.Nodup → l.Pairwise (fun a b => ¬ b < a) → Q (.ref r) h') : Calls Φ (d + 3) 7 [v, .str t, .int most] h Q := by
  refine ⟨fn_writings, h7, rfl, A_fn ?_⟩
  have mC := calls_mono (Φ := Φ) (d + 2)
  have hz := SZ_val
  have hn2 := ok.n2
  have hl1 := ok.l1
  refine A_calls mC (g := []) rfl trivial (checked_ok h0 h1 hm ok fun ver => ⟨_, rfl, rfl, ?_⟩)
  generalize hA : h ++ [MO.dict (finD M.ends) ver, MO.list (M.moves.map Mv.v)] = A
  have pA : h <+: A := ⟨_, hA⟩
  have gA1 : A[h.length]? = some (.dict (finD M.ends) ver) := by rw [← hA]; exact last2a ..
  have gA2 : A[h.length + 1]? = some (.list (M.moves.map Mv.v)) := by rw [← hA]; exact len2 ..
  clear hA
  refine A_call mC (g := []) rfl trivial (leaving_ok h2 gA2 ok fun vo B pB oB => ?_)
  obtain ⟨Lo, ro, rfl, gL, gr⟩ := oB
  have hp := pA.trans pB
  have gA1 := pre_get pB gA1
  have gA2 := pre_get pB gA2
  clear pA pB
  refine A_dict1 (g := []) (g₂ := []) rfl trivial rfl trivial rfl fun ver => A_list (g := []) rfl trivial (A_dict0 fun fver => A_set (g := []) rfl trivial ?_)
  have e0 : B ++ [MO.dict [(V.tup [.int M.b, .int 0, .str []], .bool true)] ver] ++ [MO.list [V.tup [.int M.b, .int 0, .str []]]] ++ [MO.dict [] fver] = heapW B [⟨(M.b, 0, []), [], .bool true⟩] ver [] fver := by rw [List.append_assoc, List.append_assoc]; rfl
  refine AB_heap e0 ?_
  rw [List.length_append, List.length_append]
  have bound : ∀ {T : List (Ent (Nat × Nat × List Nat))} {a : Nat}, Met (sysW M t most) T a → T.length ≤ K := fun {T a} mt => by
    have := few (T.map (·.x)) mt.nodup fun x hx => by
      obtain ⟨e, he, rfl⟩ := List.mem_map.mp hx
      exact ⟨_, mt.runs e he⟩
    rwa [List.length_map] at this
  refine A_whileT mC (fun a : Nat => (11, .int a) :: wrL (.ref Lo) t most h.length (h.length + 1) B.length) (fun n a H => ∃ T ver fe fv, ∃ ks : List (List Nat), n = K - a ∧ MetO (sysW M t most) T a ∧ H = heapW B T ver fe fv ∧ fe.map (·.1) = ks.map V.str ∧ ks.Nodup ∧ ks.length ≤ a ∧
    (∀ w, w ∈ ks ↔ ∃ i e, i < a ∧ T[i]? = some e ∧ e.x.1 ∈ M.ends ∧ e.x.2.1 = t.length ∧ e.x.2.2 = w)) _ 0 (by repeat (first | exact trivial | refine ⟨rfl, ?_⟩)) ⟨[⟨(M.b, 0, []), [], .bool true⟩], ver, [], fver, [], rfl, MetO.start (s := sysW M t most) _, rfl, rfl, List.nodup_nil, Nat.zero_le _, by simp⟩ ?_
  rintro n a H ⟨T, ver, fe, fv, ks, rfl, mt, rfl, hks, knd, kl, kmem⟩
  have hbd := bound mt.toMet
  have fl : fe.length = ks.length := by have := congrArg List.length hks; simpa using this
  refine ⟨[.int T.length], _, _, _, rfl, ⟨ln_map (heapW_l ..), trivial⟩, fun hlt => ?_, fun hlt => ?_⟩
  · have hlt : a < T.length := by simpa using hlt
    obtain ⟨c, hc⟩ : ∃ c, T[a]? = some c := ⟨_, List.getElem?_eq_getElem hlt⟩
    obtain ⟨hpc, hi1, _, hwx, hwl⟩ := run_pathW ok (mt.runs c (List.mem_of_getElem? hc))
    have hs := path_lt ok hpc
    refine A_sets (g := [nvW c.x]) (vs := [.int c.x.1, .int c.x.2.1, .str c.x.2.2]) rfl ⟨rd_list (heapW_l ..) (by omega) (by simp [hc]), trivial⟩ rfl (A_set (g := []) rfl trivial ?_)
    -- behind the noting
    have go : ∀ (fe' : List (V × V)) (fv' : Nat) (ks' : List (List Nat)), fe'.map (·.1) = ks'.map V.str → ks'.Nodup → ks'.length ≤ a + 1 → (∀ w, w ∈ ks' ↔ w ∈ ks ∨ (c.x.1 ∈ M.ends ∧ c.x.2.1 = t.length ∧ c.x.2.2 = w)) →
        AB (Calls Φ (d + 2)) (wrL2 (.ref Lo) t most h.length (h.length + 1) B.length a c.x) (heapW B T ver fe' fv') ((fn_writings.body.drop 6).head?.elim [] fun s => match s with | .while _ b => b.drop 3 | _ => []) fun o ρ' h' => match o with
          | .next => ∃ m s', m < K - a ∧ Ag ((11, .int (s' : Nat)) :: wrL (.ref Lo) t most h.length (h.length + 1) B.length) ρ' ∧ ∃ T ver fe fv, ∃ ks : List (List Nat), m = K - s' ∧ MetO (sysW M t most) T s' ∧ h' = heapW B T ver fe fv ∧ fe.map (·.1) = ks.map V.str ∧ ks.Nodup ∧ ks.length ≤ s' ∧ (∀ w, w ∈ ks ↔ ∃ i e, i < s' ∧ T[i]? = some e ∧ e.x.1 ∈ M.ends ∧ e.x.2.1 = t.length ∧ e.x.2.2 = w)
          | .ret w => Q w h' := by
      intro fe' fv' ks' hk' nd' kl' km'
      refine A_for mC (goes_seq (ro + c.x.1) ((outs M.moves c.x.1).map natV)) (fun _ : Unit => wrL2 (.ref Lo) t most h.length (h.length + 1) B.length a c.x) (fun i _ H => ∃ T' ver, MetI (sysW M t most) T' a c i ∧ T <+: T' ∧ H = heapW B T' ver fe' fv') () (by repeat (first | exact trivial | refine ⟨rfl, ?_⟩)) ?_ ?_ ?_ ?_
      · exact A_ev (g := [.ref (ro + c.x.1)]) rfl ⟨rd_list (pre_get (heapW_p ..) gL) (by omega) (by simp [hs]), trivial⟩ ⟨it_list (pre_get (heapW_p ..) (gr _ hs)), T, ver, mt.enter hc, List.prefix_refl _, rfl⟩
      · rintro i _ H ⟨T', ver, _, _, rfl⟩; exact pre_get (heapW_p ..) (gr _ hs)
      · rintro i v _ H hv ⟨T', ver, mi, hTT, rfl⟩
        obtain ⟨k, hk, rfl, hil⟩ := map_at hv
        obtain ⟨m, hm, hms⟩ := mem_outs.mp (List.mem_of_getElem? hk)
        have hkl := (List.getElem?_eq_some_iff.mp hm).1
        have hmo := ok.m1 m (List.mem_of_getElem? hm)
        refine A_sets (g := [m.v]) (vs := [.int m.s, .str m.t, .str m.g, .int m.q]) rfl ⟨rd_list (pre_get (heapW_p ..) gA2) (by omega) (by simp [hm]), trivial⟩ rfl ?_
        refine A_name mC (A_tup3c mC (g₁ := []) (g₂ := []) rfl trivial rfl trivial (gone_ok h3 (by omega) ⟨[], _, _, _, rfl, ⟨by exact qp4 qc4 (qA qv0 qv1) qv2 qs3 (qN 1000000) (qN 16777216) qv2 qv0 qv3 qv1 qk1 qt hmost (qi hz) hwl (And.right (And.right (And.right hmo))), trivial⟩, ?_⟩))
        have hnx : (sysW M t most).nx c.x k = (gone t c.x.2.1 m.t).bind fun i => if (c.x.2.2 ++ m.g).length ≤ most then some (m.q, i, c.x.2.2 ++ m.g) else none := by simp only [sysW, hm, Option.bind_some]
        have fin : ∀ {L' : Env} {T₂ : List (Ent (Nat × Nat × List Nat))} {ver' : Nat} {R : V → Rho → Tw.H → Prop}, AllIn (wrL2 (.ref Lo) t most h.length (h.length + 1) B.length a c.x) L' → MetI (sysW M t most) T₂ a c (i + 1) → T <+: T₂ → AB (Calls Φ (d + 2)) L' (heapW B T₂ ver' fe' fv') [] (fun o ρ' h' => match o with | .next => ∃ s' : Unit, Ag (wrL2 (.ref Lo) t most h.length (h.length + 1) B.length a c.x) ρ' ∧ (∃ T' ver, MetI (sysW M t most) T' a c (i + 1) ∧ T <+: T' ∧ h' = heapW B T' ver fe' fv') | .ret w => R w ρ' h') := fun hin m1 m2 ρ ag => ⟨(), AllIn.ag ag hin, _, _, m1, m2, rfl⟩
        cases hoi : gone t c.x.2.1 m.t with
        | none => exact A_if (g := [.bool true]) rfl ⟨(fun e => nomatch e), trivial⟩ no_b fun _ => A_then (fin (by repeat (first | exact trivial | refine ⟨rfl, ?_⟩)) (mi.skip hk fun z hz => by rw [hnx, hoi] at hz; cases hz) hTT)
        | some i' =>
          generalize hw' : c.x.2.2 ++ m.g = w' at *
          by_cases hle : w'.length ≤ most
          · rw [hoi] at hnx
            have hnx : (sysW M t most).nx c.x k = some (m.q, i', w') := by rw [hnx, Option.bind_some, if_pos hle]
            refine A_if (g := [.bool (!decide (((m.q, i', w') : Nat × Nat × List Nat) ∈ T'.map (·.x)))]) rfl ⟨fun _ => ⟨fun _ => ⟨cm_nin (heapW_d ..) rfl (keys_mem nvW_inj (z := (m.q, i', w'))), trivial⟩, trivial⟩, trivial⟩ (fun hc' => ?_) fun hc' => A_then (fin (by repeat (first | exact trivial | refine ⟨rfl, ?_⟩)) (mi.skip hk fun z hz => by rw [hnx] at hz; cases hz; simpa [isNoneB, optV, hle] using hc') hTT)
            have hnm : ((m.q, i', w') : Nat × Nat × List Nat) ∉ T'.map (·.x) := by
              simp only [Bool.and_eq_true] at hc'
              simpa using hc'.2.2
            have mi' := mi.push (.bool true) hk hnx hnm
            have hbd := bound mi'.toMet
            rw [List.length_append] at hbd
            simp only [List.length_cons, List.length_nil] at hbd
            refine A_put (g := []) (g₂ := []) rfl (heapW_d ..) rfl trivial rfl trivial rfl (by rw [List.length_map]; exact qp2 qc3 qs0 qv1 qs2 qv1 (qA qv0 (qA qk0 qk1)) qv2 qt hb hbd) fun ver' => ?_
            refine A_app rfl (vs := T'.map fun e => nvW e.x) (by rw [List.getElem?_set_ne (by exact fun e0 => qf1 qc1 qs0 qv0 qt (qi e0))]; exact heapW_l ..) (by rw [List.length_map]; exact qp2 qc3 qs0 qv1 qs2 qv1 (qA qv0 (qA qk0 qk1)) qv2 qt hb hbd) (g := []) rfl trivial (A_then ?_)
            exact AB_heap (heapW_n B ver ver' fe' fv' (z := (m.q, i', w')) (c.p ++ [k]) (.bool true) hnm) (fin (by repeat (first | exact trivial | refine ⟨rfl, ?_⟩)) mi' (hTT.trans (List.prefix_append _ _)))
          · have hnx : (sysW M t most).nx c.x k = none := by rw [hnx, hoi, Option.bind_some, if_neg hle]
            refine A_if (g := [.bool true]) rfl ⟨fun _ => ⟨fun e => absurd (of_decide_eq_true e) (by exact oq114 hle), trivial⟩, trivial⟩ (fun e => ?_) fun _ => A_then (fin (by repeat (first | exact trivial | refine ⟨rfl, ?_⟩)) (mi.skip hk fun z hz => by rw [hnx] at hz; cases hz) hTT)
            simp only [Bool.and_eq_true] at e
            exact absurd (of_decide_eq_true e.2.1) (by exact oq114 hle)
      · rintro _ H ⟨T', ver, mi, hTT, rfl⟩
        rw [List.length_map] at mi
        refine A_again (K - (a + 1)) (a + 1) (by exact qp2 qc4 qs0 qv1 (qA qv0 qs2) qv3 qv3 (qA qv1 qv2) qt (qx (qp2 qc3 qs0 qv1 qv2 qv1 qs0 qv2 qt hbd hlt)) qw) (by repeat (first | exact trivial | refine ⟨rfl, ?_⟩)) ⟨T', ver, fe', fv', ks', rfl, mi.leave (fun h => h) (Nat.le_refl _), rfl, hk', nd', kl', fun w => ?_⟩
        have get : ∀ i e, T[i]? = some e → T'[i]? = some e := fun i e hi => by
          obtain ⟨u, rfl⟩ := hTT
          rw [List.getElem?_append_left (List.getElem?_eq_some_iff.mp hi).1]; exact hi
        have back : ∀ i e, i ≤ a → T'[i]? = some e → T[i]? = some e := fun i e hi he => by
          have : T[i]? = some T[i] := List.getElem?_eq_getElem (by exact qp2 qc3 qs0 qv1 qs2 qv1 qv0 qv2 qt hlt hi)
          rw [get i _ this] at he
          rw [this, he]
        rw [km', kmem]
        constructor
        · rintro (⟨i, e, h1, h2, h3⟩ | h3)
          · exact ⟨i, e, by exact qp1 qc2 qs0 qs1 qs0 qv1 qt h1, get i e h2, h3⟩
          · exact ⟨a, c, by exact Nat.le_refl _, get a c hc, h3⟩
        · rintro ⟨i, e, h1, h2, h3⟩
          have h2 := back i e (by exact qp1 qc2 qv0 qv1 qs0 qs1 qt h1) h2
          by_cases hia : i < a
          · exact .inl ⟨i, e, hia, h2, h3⟩
          · have : i = a := by exact Nat.le_antisymm (qp1 qc2 qv0 qv1 qs0 qs1 qt h1) (qm hia)
            subst this
            rw [hc] at h2; injection h2 with h2; subst h2
            exact .inr h3
    refine A_if (g := [.bool (decide (c.x.1 ∈ M.ends))]) rfl ⟨cm_in (pre_get (heapW_p ..) gA1) rfl fin_mem, trivial⟩ (fun hf => ?_) fun hf => A_then fun ρ ag => go fe fv ks hks knd (by exact qp1 qc2 qv0 qs1 qv0 qv1 qt kl) (fun w => ⟨.inl, fun x => x.elim id fun y => by simp [y.1, y.2.1] at hf⟩) ρ (AllIn.ag ag (by repeat (first | exact trivial | refine ⟨rfl, ?_⟩)))
    simp only [Bool.and_eq_true, decide_eq_true_eq] at hf
    refine A_put (g := []) (g₂ := []) rfl (heapW_f ..) rfl trivial rfl trivial rfl (by exact qp5 qc6 qs0 qv1 qs2 qv1 qv3 qv4 qv5 qv2 qv0 qv3 qs4 qv5 qt hb kl hbd (qe fl) hlt) fun fv' => A_then ?_
    rw [heapW_sf]
    have hkeys := dput_keys fe (.str c.x.2.2) (.bool true)
    rw [hks] at hkeys
    by_cases hin : c.x.2.2 ∈ ks
    · rw [if_pos (strV_mem.mpr hin)] at hkeys
      exact fun ρ ag => go _ fv' ks hkeys knd (by exact qp1 qc2 qv0 qs1 qv0 qv1 qt kl) (fun w => ⟨.inl, fun x => x.elim id fun y => y.2.2 ▸ hin⟩) ρ (AllIn.ag ag (by repeat (first | exact trivial | refine ⟨rfl, ?_⟩)))
    · rw [if_neg (fun x => hin (strV_mem.mp x))] at hkeys
      refine fun ρ ag => go _ fv' (ks ++ [c.x.2.2]) (by rw [hkeys, List.map_append]; rfl) ?_ (by simp; exact kl) (fun w => ?_) ρ (AllIn.ag ag (by repeat (first | exact trivial | refine ⟨rfl, ?_⟩)))
      · rw [List.nodup_append]
        exact ⟨knd, by simp, fun x hx y hy e => by simp at hy; subst hy; subst e; exact hin hx⟩
      · rw [List.mem_append, List.mem_singleton]
        exact ⟨fun x => x.imp id fun y => ⟨hf.1, by omega, y.symm⟩, fun x => x.imp id fun y => y.2.2.symm⟩
  · have hlt : ¬ a < T.length := by simpa using hlt
    have kall : ∀ w, w ∈ ks ↔ Wrote M t most w := by
      intro w
      rw [kmem]
      constructor
      · rintro ⟨i, e, _, h2, h3, h4, rfl⟩
        obtain ⟨a1, a2, a3, a4, a5⟩ := run_pathW ok (mt.runs e (List.mem_of_getElem? h2))
        exact ⟨e.p, e.x.1, a1, h3, by rw [a3, h4, List.take_length], a4, a5⟩
      · rintro ⟨p, s, hps, hs, hr, rfl, hl⟩
        have run := path_runW (t := t) ok hps (by rw [hr]; exact List.prefix_refl _) hl
        obtain ⟨e, he, ex, _⟩ := mt.toMet.cover (n := p.length) run (Nat.le_refl _) fun i e hi _ => .inl (by have := (List.getElem?_eq_some_iff.mp hi).1; exact qp2 qc3 qs0 qv1 qv2 qv1 qs0 qv2 qt (qm hlt) this)
        obtain ⟨i, hi⟩ := List.mem_iff_getElem?.mp he
        exact ⟨i, e, by have := (List.getElem?_eq_some_iff.mp hi).1; exact qp2 qc3 qs0 qv1 qv2 qv1 qs0 qv2 qt (qm hlt) this, hi, by rw [ex]; exact hs, by rw [ex, hr], by rw [ex]⟩
    refine A_retE mC (A_bi (g := []) rfl trivial ?_)
    refine ⟨_, .inl ⟨fe, fv, heapW_f .., rfl⟩, .inr (.inl ⟨ks, hks, fun ks' p o => ?_⟩)⟩
    exact fun _ => q _ _ ks' ((hp.trans (heapW_p ..)).trans (List.prefix_append _ _)) (hp.trans (heapW_p ..)).length_le (by rw [p.length_eq]; exact Nat.le_trans kl (Nat.le_trans mt.le hbd)) (get_last _ _) (fun w => by rw [p.mem_iff, kall]) (p.nodup_iff.mpr knd) o
end
end Tw
end

section
namespace Tw

/-! search with a stack, plain -/
inductive Reach {N : Type} (b : N) (sc : N → List N) : N → Prop
  | nil : Reach b sc b
  | step {x y : N} : Reach b sc x → y ∈ sc x → Reach b sc y
structure Dfs {N : Type} (b : N) (sc : N → List N) (T W : List N) (P : N → Prop) : Prop where
  head : b ∈ T
  nodup : T.Nodup
  reach : ∀ x ∈ T, Reach b sc x
  sub : ∀ x ∈ W, x ∈ T
  clos : ∀ x ∈ T, x ∈ W ∨ P x ∨ ∀ y ∈ sc x, y ∈ T
structure DfI {N : Type} (b : N) (sc : N → List N) (T W : List N) (c : N) (i : Nat) : Prop extends Dfs b sc T W (fun x => x = c) where
  here : c ∈ T
  part : ∀ y ∈ (sc c).take i, y ∈ T
section
variable {N : Type} {b : N} {sc : N → List N} {T W : List N} {c : N} {i : Nat}
theorem Dfs.start : Dfs b sc [b] [b] (fun _ => False) := ⟨by simp, by simp, fun x hx => by simp at hx; subst hx; exact .nil, fun _ h => h, fun x hx => .inl hx⟩
theorem Dfs.pop (m : Dfs b sc T (W ++ [c]) (fun _ => False)) : DfI b sc T W c 0 where
  head := m.head
  nodup := m.nodup
  reach := m.reach
  sub := fun x hx => m.sub x (List.mem_append_left _ hx)
  clos := fun x hx => by
    rcases m.clos x hx with h | h | h
    · rcases List.mem_append.mp h with h | h
      · exact .inl h
      · exact .inr (.inl (List.mem_singleton.mp h))
    · exact h.elim
    · exact .inr (.inr h)
  here := m.sub c (List.mem_append_right _ (List.mem_singleton.mpr rfl))
  part := fun y hy => by simp at hy
theorem DfI.skip (m : DfI b sc T W c i) {y : N} (hy : (sc c)[i]? = some y) (h : y ∈ T) : DfI b sc T W c (i + 1) := { m with
  part := fun z hz => by
    rw [List.take_add_one, hy] at hz
    rcases List.mem_append.mp hz with hz | hz
    · exact m.part z hz
    · rw [List.mem_singleton.mp hz]; exact h }
theorem DfI.push (m : DfI b sc T W c i) {y : N} (hy : (sc c)[i]? = some y) (h : y ∉ T) : DfI b sc (T ++ [y]) (W ++ [y]) c (i + 1) where
  head := List.mem_append_left _ m.head
  nodup := by
    rw [List.nodup_append]
    exact ⟨m.nodup, by simp, fun x hx z hz e => by rw [List.mem_singleton.mp hz] at e; exact h (e ▸ hx)⟩
  reach := fun x hx => by
    rcases List.mem_append.mp hx with hx | hx
    · exact m.reach x hx
    · rw [List.mem_singleton.mp hx]; exact .step (m.reach c m.here) (List.mem_of_getElem? hy)
  sub := fun x hx => by
    rcases List.mem_append.mp hx with hx | hx
    · exact List.mem_append_left _ (m.sub x hx)
    · exact List.mem_append_right _ hx
  clos := fun x hx => by
    rcases List.mem_append.mp hx with hx | hx
    · rcases m.clos x hx with h | h | h
      · exact .inl (List.mem_append_left _ h)
      · exact .inr (.inl h)
      · exact .inr (.inr fun z hz => List.mem_append_left _ (h z hz))
    · exact .inl (List.mem_append_right _ hx)
  here := List.mem_append_left _ m.here
  part := fun z hz => by
    rw [List.take_add_one, hy] at hz
    rcases List.mem_append.mp hz with hz | hz
    · exact List.mem_append_left _ (m.part z hz)
    · exact List.mem_append_right _ hz
theorem DfI.leave (m : DfI b sc T W c i) (hi : (sc c).length ≤ i) : Dfs b sc T W (fun _ => False) where
  head := m.head
  nodup := m.nodup
  reach := m.reach
  sub := m.sub
  clos := fun x hx => by
    rcases m.clos x hx with h | h | h
    · exact .inl h
    · subst h
      refine .inr (.inr fun y hy => m.part y ?_)
      rw [List.take_of_length_le hi]; exact hy
    · exact .inr (.inr h)
theorem Dfs.done (m : Dfs b sc T [] (fun _ => False)) (x : N) : x ∈ T ↔ Reach b sc x := by
  refine ⟨m.reach x, fun r => ?_⟩
  induction r with
  | nil => exact m.head
  | step _ hy ih =>
    rcases m.clos _ ih with h | h | h
    · cases h
    · exact h.elim
    · exact h _ hy
end

/-! a dict whose values are all True -/
noncomputable def kvT {N : Type} (nv : N → V) (T : List N) : List (V × V) := T.map fun x => (nv x, .bool true)
theorem kvT_keys {N : Type} (nv : N → V) (T : List N) : (kvT nv T).map (·.1) = T.map nv := by
  unfold kvT; rw [List.map_map]; rfl
section
variable {N : Type} {nv : N → V} (inj : ∀ a b, nv a = nv b → a = b)
include inj
theorem nv_mem {T : List N} {z : N} : nv z ∈ T.map nv ↔ z ∈ T := by
  rw [List.mem_map]
  exact ⟨fun ⟨e, he, h⟩ => inj _ _ h ▸ he, fun h => ⟨z, h, rfl⟩⟩
theorem kvT_put {T : List N} {z : N} (hz : z ∉ T) : dput (kvT nv T) (nv z) (.bool true) = kvT nv (T ++ [z]) := by
  unfold dput
  rw [dget_keys, kvT_keys, decide_eq_false fun h => hz ((nv_mem inj).mp h), if_neg Bool.false_ne_true]
  simp [kvT]
/-- put in if it is not there yet -/
theorem kvT_put' (T : List N) (z : N) [Decidable (z ∈ T)] : dput (kvT nv T) (nv z) (.bool true) = kvT nv (if z ∈ T then T else T ++ [z]) := by
  by_cases hz : z ∈ T
  · rw [if_pos hz]
    unfold dput
    rw [dget_keys, kvT_keys, decide_eq_true ((nv_mem inj).mpr hz), if_pos rfl]
    unfold kvT
    rw [List.map_map]
    apply List.map_congr_left
    intro x _
    by_cases e : nv x = nv z <;> simp [e]
  · rw [if_neg hz]; exact kvT_put inj hz
end

/-! a text's part -/
theorem slice_gone {t r : List Nat} {i : Nat} (hr : r.length ≤ 1) (hi : i ≤ t.length) : (t.take (i + r.length)).drop i = r ↔ gone t i r = some (i + r.length) := by
  unfold gone
  match r, hr with
  | [], _ => simp
  | [c], _ =>
    rw [if_neg (by simp)]
    have e : (t.take (i + [c].length)).drop i = (t[i]?).toList := by
      show (t.take (i + 1)).drop i = _
      rw [List.take_add_one, List.drop_append_of_le_length (by rw [List.length_take]; exact oq115 hi), List.drop_of_length_le (by rw [List.length_take]; exact oq102), List.nil_append]
    rw [e]
    cases h : t[i]? with
    | none => simp
    | some d =>
      by_cases e : d = c <;> simp [e]

/-! lists of strs in order are the same where their items are -/
theorem sorted_eq {l l' : List (List Nat)} (h : ∀ x, x ∈ l ↔ x ∈ l') (n : l.Nodup) (n' : l'.Nodup) (s : l.Pairwise fun a b => ¬ b < a) (s' : l'.Pairwise fun a b => ¬ b < a) : l = l' := by
  refine List.Perm.eq_of_pairwise (le := fun a b => ¬ b < a) ?_ s s' ((List.perm_ext_iff_of_nodup n n').mpr h)
  intro a b _ _ h1 h2
  exact List.le_antisymm (List.not_lt.mp h1) (List.not_lt.mp h2)
noncomputable abbrev fits (t r : List Nat) (i : Nat) : Prop := (t.take (i + r.length)).drop i = r
end Tw
end

section
namespace Tw

/-! how many places there are to come to -/
theorem few_box {M : Ma} {t cs : List Nat} {most n : Nat} (ok : M.ok) (hcs : ∀ m ∈ M.moves, ∀ c ∈ m.g, c ∈ cs) (hw : ∀ p x, Run (sysW M t most) p x → x.2.2.length ≤ n) : Few M t most (M.n * ((t.length + 1) * cntUp cs.length n)) := fun T nd hT => by
  have := nodup_le T (boxW M.n (t.length + 1) (strsUp cs n)) nd fun x hx => by
    obtain ⟨p, r⟩ := hT x hx
    obtain ⟨a1, a2, _, a4, _⟩ := run_pathW ok r
    exact boxW_mem (path_lt ok a1) (Nat.lt_succ_of_le a2) (strsUp_mem (by rw [← a4]; exact wr_in hcs) (hw p x r))
  rwa [boxW_len, strsUp_len] at this
theorem wr_rd {M : Ma} (ok : M.ok) (hr : ∀ m ∈ M.moves, m.t ≠ []) {p : List Nat} {s : Nat} (h : Path M p s) : (wrOf M p).length ≤ (rdOf M p).length := by
  induction h with
  | nil => exact Nat.le_refl _
  | @snoc p k m _ hm ih =>
    have mm := List.mem_of_getElem? hm
    have h1 := List.length_pos_iff.mpr (hr m mm)
    have h2 := (ok.m1 m mm).2.2.2
    rw [rd_snoc hm, wr_snoc hm, List.length_append, List.length_append]
    exact qp3 qc4 (qA qv0 qv1) (qA qv2 qv3) qv0 qv2 (qA qk0 qk1) qv3 qv1 qk1 qt ih h1 h2
/-- where each move reads a sign, no more is written than read -/
theorem few_read {M : Ma} {t cs : List Nat} {most : Nat} (ok : M.ok) (hcs : ∀ m ∈ M.moves, ∀ c ∈ m.g, c ∈ cs) (hr : ∀ m ∈ M.moves, m.t ≠ []) : Few M t most (M.n * ((t.length + 1) * cntUp cs.length t.length)) :=
  few_box ok hcs fun p x r => by
    obtain ⟨a1, a2, a3, a4, _⟩ := run_pathW ok r
    have := wr_rd ok hr a1
    rw [a4, a3, List.length_take] at this
    exact oq116 this
/-- no state has two moves that read the same, nor one that reads nothing beside others -/
noncomputable def Apart (a b : Mv) : Prop := ¬ (a.s = b.s ∧ (a.t = b.t ∨ a.t = [] ∨ b.t = []))
theorem Run.fn {N : Type} {s : Sys N} {p : List Nat} {x y : N} (h : Run s p x) (h' : Run s p y) : x = y := by
  induction h generalizing y with
  | nil =>
    generalize e : ([] : List Nat) = q at h'
    cases h' with
    | nil => rfl
    | snoc => exact absurd e.symm (by simp)
  | @snoc p x z k r hk hz ih =>
    generalize e : p ++ [k] = q at h'
    cases h' with
    | nil => exact absurd e (by simp)
    | @snoc p' x' _ k' r' hk' hy =>
      obtain ⟨rfl, e2⟩ := List.append_inj' e rfl
      injection e2 with e2
      subst e2
      obtain rfl := ih r'
      rw [hz] at hy; injection hy
theorem Run.last {N : Type} {s : Sys N} {p : List Nat} {k : Nat} {y : N} (h : Run s (p ++ [k]) y) : ∃ x, Run s p x ∧ k ∈ s.out x ∧ s.nx x k = some y := by
  generalize e : p ++ [k] = q at h
  cases h with
  | nil => exact absurd e (by simp)
  | snoc r hk hy =>
    obtain ⟨rfl, e2⟩ := List.append_inj' e rfl
    injection e2 with e2
    subst e2
    exact ⟨_, r, hk, hy⟩
theorem Run.front {N : Type} {s : Sys N} {p : List Nat} : ∀ {r : List Nat} {y : N}, Run s (p ++ r) y → ∃ x, Run s p x := fun {r} => by
  generalize hn : r.length = n
  induction n generalizing r with
  | zero => intro y h; rw [List.length_eq_zero_iff.mp hn, List.append_nil] at h; exact ⟨y, h⟩
  | succ n ih =>
    intro y h
    have hr : r ≠ [] := fun e => by rw [e] at hn; cases hn
    rw [← List.dropLast_concat_getLast hr, ← List.append_assoc] at h
    obtain ⟨x, h', _⟩ := h.last
    exact ih (by rw [List.length_dropLast, hn]; rfl) h'
/-- with but one way on, of two runs one goes on from the other -/
theorem Run.comp {N : Type} {s : Sys N} (one : ∀ x k k' y y', k ∈ s.out x → s.nx x k = some y → k' ∈ s.out x → s.nx x k' = some y' → k = k') {p q : List Nat} {x y : N} (h : Run s p x) (h' : Run s q y) : p <+: q ∨ q <+: p := by
  induction h generalizing q y with
  | nil => exact .inl (List.nil_prefix)
  | @snoc p x z k r hk hz ih =>
    rcases ih h' with hp | hp
    · obtain ⟨u, rfl⟩ := hp
      cases u with
      | nil => rw [List.append_nil]; exact .inr (List.prefix_append _ _)
      | cons k' u =>
        rw [show p ++ k' :: u = p ++ [k'] ++ u by simp] at h' ⊢
        obtain ⟨y', h2⟩ := h'.front
        obtain ⟨x', h3, hk', hy'⟩ := h2.last
        obtain rfl := r.fn h3
        rw [one x k k' z y' hk hz hk' hy']
        exact .inl (List.prefix_append _ _)
    · exact .inr (hp.trans (List.prefix_append _ _))
theorem gone_next {t r : List Nat} {i j : Nat} (h : gone t i r = some j) : j = i + (if r = [] then 0 else 1) ∧ (r = [] ∨ t[i]?.map (fun c => [c]) = some r) := by
  unfold gone at h
  by_cases h0 : r = []
  · rw [if_pos h0] at h
    injection h with h
    exact ⟨by rw [if_pos h0]; exact h.symm, .inl h0⟩
  · rw [if_neg h0] at h ⊢
    by_cases h1 : t[i]?.map (fun c => [c]) = some r
    · rw [if_pos h1] at h
      injection h with h
      exact ⟨h.symm, .inr h1⟩
    · rw [if_neg h1] at h; cases h
theorem few_plain {M : Ma} {t : List Nat} {most : Nat} (ok : M.ok) (hp : M.moves.Pairwise Apart) : Few M t most (M.n * ((t.length + 1) * (most + 1))) := fun T nd hT => by
  have one : ∀ x k k' y y', k ∈ (sysW M t most).out x → (sysW M t most).nx x k = some y → k' ∈ (sysW M t most).out x → (sysW M t most).nx x k' = some y' → k = k' := by
    intro x k k' y y' hk hy hk' hy'
    obtain ⟨m, hm, e⟩ := mem_outs.mp hk
    obtain ⟨m', hm', e'⟩ := mem_outs.mp hk'
    simp only [sysW, hm, hm', Option.bind_some] at hy hy'
    obtain ⟨i, hi, _⟩ := Option.bind_eq_some_iff.mp hy
    obtain ⟨i', hi', _⟩ := Option.bind_eq_some_iff.mp hy'
    have same : m.t = m'.t ∨ m.t = [] ∨ m'.t = [] := by
      rcases (gone_next hi).2 with h | h
      · exact .inr (.inl h)
      · rcases (gone_next hi').2 with h' | h'
        · exact .inr (.inr h')
        · rw [h] at h'; exact .inl (Option.some.inj h')
    have far : ∀ {a b : Nat} {ma mb : Mv}, a < b → M.moves[a]? = some ma → M.moves[b]? = some mb → Apart ma mb := fun {a b ma mb} hab ha hb => by
      obtain ⟨la, rfl⟩ := List.getElem?_eq_some_iff.mp ha
      obtain ⟨lb, rfl⟩ := List.getElem?_eq_some_iff.mp hb
      exact List.pairwise_iff_getElem.mp hp a b la lb hab
    rcases Nat.lt_trichotomy k k' with h | h | h
    · exact absurd ⟨e.trans e'.symm, same⟩ (far h hm hm')
    · exact h
    · exact absurd ⟨e'.trans e.symm, same.elim (fun h => .inl h.symm) fun h => .inr h.symm⟩ (far h hm' hm)
  have inj : ∀ x ∈ T, ∀ y ∈ T, (x.1, x.2.1, x.2.2.length) = (y.1, y.2.1, y.2.2.length) → x = y := by
    have key : ∀ {p q : List Nat} {x y : Nat × Nat × List Nat}, Run (sysW M t most) p x → Run (sysW M t most) q y → p <+: q → x.2.2.length = y.2.2.length → x.2.2 = y.2.2 := fun {p q x y} r r' hpq e => by
      obtain ⟨_, _, _, a4, _⟩ := run_pathW ok r
      obtain ⟨_, _, _, b4, _⟩ := run_pathW ok r'
      obtain ⟨u, rfl⟩ := hpq
      have : wrOf M p <+: wrOf M (p ++ u) := ⟨wrOf M u, by unfold wrOf; rw [List.flatMap_append]⟩
      rw [a4, b4] at this
      exact this.eq_of_length e
    intro x hx y hy e
    obtain ⟨p, r⟩ := hT x hx
    obtain ⟨q, r'⟩ := hT y hy
    obtain ⟨x1, x2, x3⟩ := x
    obtain ⟨y1, y2, y3⟩ := y
    simp only [Prod.mk.injEq] at e
    obtain ⟨rfl, rfl, e⟩ := e
    have : x3 = y3 := (r.comp one r').elim (fun h => key r r' h e) fun h => (key r' r h e.symm).symm
    rw [this]
  have nd' : (T.map fun x => (x.1, x.2.1, x.2.2.length)).Nodup := by
    rw [List.Nodup, List.pairwise_map]
    refine List.Pairwise.imp_of_mem (fun hx hy hne e => hne (inj _ hx _ hy e)) nd
  have := nodup_le _ ((List.range M.n).flatMap fun s => (List.range (t.length + 1)).flatMap fun i => (List.range (most + 1)).map fun n => (s, i, n)) nd' fun z hz => by
    obtain ⟨x, hx, rfl⟩ := List.mem_map.mp hz
    obtain ⟨p, r⟩ := hT x hx
    obtain ⟨a1, a2, _, _, a5⟩ := run_pathW ok r
    exact List.mem_flatMap.mpr ⟨_, List.mem_range.mpr (path_lt ok a1), List.mem_flatMap.mpr ⟨_, List.mem_range.mpr (Nat.lt_succ_of_le a2), List.mem_map.mpr ⟨_, List.mem_range.mpr (Nat.lt_succ_of_le a5), rfl⟩⟩⟩
  rw [List.length_map, len_flat _ ((t.length + 1) * (most + 1)) (fun s => by rw [len_flat _ (most + 1) (fun i => by rw [List.length_map, List.length_range]), List.length_range]), List.length_range] at this
  exact this

/-! the law's own search -/
noncomputable def o5 (t : List Nat) (most : Nat) (x : Nat × Nat × List Nat) (m : Mv) : Option (Nat × Nat × List Nat) := if m.s = x.1 ∧ fits t m.t x.2.1 ∧ (x.2.2 ++ m.g).length ≤ most then some (m.q, x.2.1 + m.t.length, x.2.2 ++ m.g) else none
noncomputable def on5 (M : Ma) (t : List Nat) (most : Nat) (x : Nat × Nat × List Nat) : List (Nat × Nat × List Nat) := M.moves.filterMap (o5 t most x)
theorem o5_some {t : List Nat} {most : Nat} {x y : Nat × Nat × List Nat} {m : Mv} (h : o5 t most x m = some y) : (m.s = x.1 ∧ fits t m.t x.2.1 ∧ (x.2.2 ++ m.g).length ≤ most) ∧ y = (m.q, x.2.1 + m.t.length, x.2.2 ++ m.g) := by
  unfold o5 at h
  by_cases c : m.s = x.1 ∧ fits t m.t x.2.1 ∧ (x.2.2 ++ m.g).length ≤ most
  · rw [if_pos c] at h; injection h with h; exact ⟨c, h.symm⟩
  · rw [if_neg c] at h; cases h
theorem reach_run {M : Ma} {t : List Nat} {most : Nat} (ok : M.ok) {x : Nat × Nat × List Nat} (r : Reach (M.b, 0, []) (on5 M t most) x) : ∃ p, Run (sysW M t most) p x := by
  induction r with
  | nil => exact ⟨[], .nil⟩
  | @step x y _ hy ih =>
    obtain ⟨p, r⟩ := ih
    obtain ⟨m, hm, e⟩ := List.mem_filterMap.mp hy
    obtain ⟨⟨c1, c2, c3⟩, rfl⟩ := o5_some e
    obtain ⟨k, hk⟩ := List.mem_iff_getElem?.mp hm
    have a2 := (run_pathW ok r).2.1
    refine ⟨p ++ [k], .snoc r (mem_outs.mpr ⟨m, hk, c1⟩) ?_⟩
    simp only [sysW, hk, Option.bind_some, (slice_gone (ok.m1 m hm).2.2.1 a2).mp c2, if_pos c3]
theorem run_reach {M : Ma} {t : List Nat} {most : Nat} (ok : M.ok) {p : List Nat} {x : Nat × Nat × List Nat} (r : Run (sysW M t most) p x) : Reach (M.b, 0, []) (on5 M t most) x := by
  induction r with
  | nil => exact .nil
  | @snoc p x y k r hk hy ih =>
    obtain ⟨m, hm, e⟩ := mem_outs.mp hk
    have mm := List.mem_of_getElem? hm
    have a2 := (run_pathW ok r).2.1
    have m1 := (ok.m1 m mm).2.2.1
    simp only [sysW, hm, Option.bind_some] at hy
    obtain ⟨i, hi, hy⟩ := Option.bind_eq_some_iff.mp hy
    by_cases hl : (x.2.2 ++ m.g).length ≤ most
    · rw [if_pos hl] at hy
      injection hy with hy
      have ei : i = x.2.1 + m.t.length := by
        have := (gone_next hi).1
        by_cases h0 : m.t = []
        · rw [if_pos h0] at this; rw [h0]; exact this
        · rw [if_neg h0] at this
          have := List.length_pos_iff.mpr h0
          exact Nat.le_antisymm (qp2 qc3 qv0 (qA qv1 qv2) qv0 qs1 (qA qk0 qk1) qv2 qt (qe (by assumption)) this) (qp2 qc3 (qA qv0 qv1) qv2 qv1 qk1 qs0 qv2 qt m1 (qi (by assumption)))
      subst ei
      refine .step ih (List.mem_filterMap.mpr ⟨m, mm, ?_⟩)
      unfold o5
      rw [if_pos ⟨e, (slice_gone m1 a2).mpr hi, hl⟩, hy]
    · rw [if_neg hl] at hy; cases hy
/-- what is told at an end -/
theorem wrote_reach {M : Ma} {t w : List Nat} {most : Nat} (ok : M.ok) : Wrote M t most w ↔ ∃ s, s ∈ M.ends ∧ Reach (M.b, 0, []) (on5 M t most) (s, t.length, w) := by
  constructor
  · rintro ⟨p, s, hp, hs, hr, hw, hl⟩
    have := run_reach ok (path_runW (t := t) (most := most) ok hp (by rw [hr]; exact List.prefix_refl _) (by rw [hw]; exact hl))
    rw [hr, hw] at this
    exact ⟨s, hs, this⟩
  · rintro ⟨s, hs, r⟩
    obtain ⟨p, r⟩ := reach_run ok r
    obtain ⟨a1, _, a3, a4, a5⟩ := run_pathW ok r
    exact ⟨p, s, a1, hs, by rw [a3]; exact List.take_length, a4, a5⟩
theorem fm_more {α β : Type} {g : α → Option β} {l : List α} {i : Nat} {a : α} (h : l[i]? = some a) : ((l.take (i + 1)).filterMap g).length = ((l.take i).filterMap g).length + (g a).toList.length := by
  rw [List.take_add_one, h, List.filterMap_append, List.length_append]
  show _ + ([a].filterMap g).length = _
  rw [List.filterMap_cons]
  cases g a <;> rfl
theorem fm_at {α β : Type} {g : α → Option β} {l : List α} {i : Nat} {a : α} {y : β} (h : l[i]? = some a) (hy : g a = some y) : (l.filterMap g)[((l.take i).filterMap g).length]? = some y := by
  obtain ⟨hi, rfl⟩ := List.getElem?_eq_some_iff.mp h
  have e : l.filterMap g = (l.take i).filterMap g ++ y :: (l.drop (i + 1)).filterMap g := by
    conv => lhs; rw [← List.take_append_drop i l, List.drop_eq_getElem_cons hi]
    rw [List.filterMap_append, List.filterMap_cons, hy]
  rw [e, List.getElem?_append_right (Nat.le_refl _), Nat.sub_self]; rfl
end Tw
end

section
namespace Tw
namespace L05
noncomputable def fn__law_machine : Fn := ⟨3, [
  .assign (.name 3) (.bin .add (.lit (.int 1)) (.bin .mod (.var 0) (.lit (.int 5)))),
  .assign (.name 4) (.list []),
  .assign (.name 5) (.bin .fdiv (.bin .mod (.bin .mul (.var 0) (.lit (.int 48271))) (.lit (.int 2147483647))) (.lit (.int 25))),
  .for (.name 6) (.bi .range [(.var 3)]) [
    .ite (.or (.cmp .eq (.bin .mod (.var 5) (.lit (.int 3))) (.lit (.int 0))) (.and (.cmp .eq (.bin .add (.var 6) (.lit (.int 1))) (.var 3)) (.cmp .eq (.var 4) (.list [])))) [
      .expr (.meth .append (.var 4) [(.var 6)])] [],
    .assign (.name 5) (.bin .fdiv (.var 5) (.lit (.int 3)))],
  .ite (.cmp .eq (.bin .mod (.var 5) (.lit (.int 2))) (.lit (.int 1))) [
    .assign (.name 4) (.bin .add (.var 4) (.slice (.var 4) (.lit .none) (.lit (.int 1))))] [],
  .assign (.name 7) (.list []),
  .for (.name 8) (.var 1) [
    .assign (.name 8) (.bin .mod (.bin .mul (.var 8) (.lit (.int 48271))) (.lit (.int 2147483647))),
    .assign (.name 9) (.sub (.var 2) (.bin .mod (.var 8) (.lit (.int 4)))),
    .assign (.name 10) (.sub (.var 2) (.bin .mod (.bin .fdiv (.var 8) (.lit (.int 4))) (.lit (.int 4)))),
    .expr (.meth .append (.var 7) [(.tup [(.bin .mod (.bin .fdiv (.var 8) (.lit (.int 16))) (.var 3)), (.var 9), (.var 10), (.bin .mod (.bin .fdiv (.bin .fdiv (.var 8) (.lit (.int 16))) (.var 3)) (.var 3))])])],
  .ret (some (.tup [(.var 3), (.bin .mod (.bin .fdiv (.var 0) (.lit (.int 5))) (.var 3)), (.var 4), (.var 7)]))]⟩
noncomputable def fn__law_plain : Fn := ⟨1, [
  .assign (.name 1) (.list []),
  .for (.name 2) (.sub (.var 0) (.lit (.int 3))) [
    .ite (.cmp .eq (.comp (.var 4) (.name 4) (.var 1) (some (.and (.cmp .eq (.sub (.var 4) (.lit (.int 0))) (.sub (.var 2) (.lit (.int 0)))) (.or (.cmp .eq (.sub (.var 4) (.lit (.int 1))) (.sub (.var 2) (.lit (.int 1)))) (.cmp .isIn (.lit (.str [])) (.list [(.sub (.var 4) (.lit (.int 1))), (.sub (.var 2) (.lit (.int 1)))])))))) (.list [])) [
      .expr (.meth .append (.var 1) [(.var 2)])] []],
  .ret (some (.tup [(.sub (.var 0) (.lit (.int 0))), (.sub (.var 0) (.lit (.int 1))), (.sub (.var 0) (.lit (.int 2))), (.var 1)]))]⟩
noncomputable def fn__law_walk : Fn := ⟨3, [
  .assign (.name 3) (.list []),
  .assign (.name 4) (.sub (.var 0) (.lit (.int 1))),
  .for (.name 5) (.bi .range [(.var 2)]) [
    .assign (.name 6) (.comp (.var 10) (.name 10) (.bi .range [(.bi .len [(.sub (.var 0) (.lit (.int 3)))])]) (some (.cmp .eq (.sub (.sub (.sub (.var 0) (.lit (.int 3))) (.var 10)) (.lit (.int 0))) (.var 4)))),
    .ite (.cmp .ne (.var 6) (.list [])) [
      .expr (.meth .append (.var 3) [(.sub (.var 6) (.bin .mod (.bin .mod (.bin .mul (.bin .add (.var 1) (.bin .mul (.bin .mul (.lit (.int 7919)) (.var 5)) (.var 5))) (.lit (.int 48271))) (.lit (.int 2147483647))) (.bi .len [(.var 6)])))]),
      .assign (.name 4) (.sub (.sub (.sub (.var 0) (.lit (.int 3))) (.sub (.var 3) (.neg (.lit (.int 1))))) (.lit (.int 3)))] []],
  .ret (some (.var 3))]⟩
noncomputable def fn__law_text : Fn := ⟨2, [
  .assign (.name 2) (.lit (.str [])),
  .for (.name 3) (.bi .range [(.bin .mod (.var 0) (.lit (.int 5)))]) [
    .assign (.name 0) (.bin .fdiv (.var 0) (.lit (.int 5))),
    .assign (.name 2) (.bin .add (.var 2) (.sub (.var 1) (.bin .add (.lit (.int 1)) (.bin .mod (.var 0) (.lit (.int 3))))))],
  .ret (some (.var 2))]⟩
noncomputable def fn__law_all : Fn := ⟨3, [
  .assign (.name 3) (.dict1 (.tup [(.sub (.var 0) (.lit (.int 1))), (.lit (.int 0)), (.lit (.str []))]) (.lit (.bool true))),
  .assign (.name 4) (.bi .list [(.var 3)]),
  .while (.cmp .ne (.var 4) (.list [])) [
    .assign (.tup [5, 6, 7]) (.meth .pop (.var 4) []),
    .for (.tup [8, 9, 10, 11]) (.sub (.var 0) (.lit (.int 3))) [
      .assign (.name 12) (.tup [(.var 11), (.bin .add (.var 6) (.bi .len [(.var 9)])), (.bin .add (.var 7) (.var 10))]),
      .ite (.and (.cmp .eq (.var 8) (.var 5)) (.and (.cmp .eq (.slice (.var 1) (.var 6) (.bin .add (.var 6) (.bi .len [(.var 9)]))) (.var 9)) (.and (.cmp .le (.bi .len [(.sub (.var 12) (.lit (.int 2)))]) (.var 2)) (.cmp .notIn (.var 12) (.var 3))))) [
        .store (.var 3) (.var 12) (.lit (.bool true)),
        .expr (.meth .append (.var 4) [(.var 12)])] []]],
  .assign (.name 13) .dict0,
  .for (.tup [5, 6, 7]) (.bi .list [(.var 3)]) [
    .ite (.and (.cmp .isIn (.var 5) (.sub (.var 0) (.lit (.int 2)))) (.cmp .eq (.var 6) (.bi .len [(.var 1)]))) [
      .store (.var 13) (.var 7) (.lit (.bool true))] []],
  .ret (some (.bi .sorted [(.bi .list [(.var 13)])]))]⟩
noncomputable def fn_law : Fn := ⟨1, [
  .assign (.name 1) (.call 26 [(.call 25 [(.var 0), (.lit (.int 0))])]),
  .assign (.name 2) (.call 27 [(.call 25 [(.var 0), (.lit (.int 1))]), (.slice (.var 0) (.lit (.int 4)) (.lit (.int 12))), (.var 1)]),
  .assign (.name 3) (.call 29 [(.call 25 [(.var 0), (.lit (.int 2))]), (.var 1)]),
  .assign (.name 4) (.bin .mod (.bin .fdiv (.call 25 [(.var 0), (.lit (.int 3))]) (.lit (.int 2))) (.lit (.int 3))),
  .assign (.name 5) (.bin .mod (.bin .fdiv (.call 25 [(.var 0), (.lit (.int 3))]) (.lit (.int 36))) (.sub (.list [(.lit (.int 3)), (.lit (.int 9)), (.lit (.int 80))]) (.var 4))),
  .ite (.cmp .eq (.var 4) (.lit (.int 1))) [
    .assign (.name 2) (.tup [(.sub (.var 2) (.lit (.int 0))), (.sub (.var 2) (.lit (.int 1))), (.sub (.var 2) (.lit (.int 2))), (.comp (.var 22) (.name 22) (.sub (.var 2) (.lit (.int 3))) (some (.cmp .ne (.sub (.var 22) (.lit (.int 1))) (.lit (.str [])))))])] [],
  .ite (.cmp .eq (.var 4) (.lit (.int 2))) [
    .assign (.name 2) (.call 46 [(.var 2)]),
    .assign (.name 5) (.bi .min [(.var 5), (.bin .mul (.lit (.int 80)) (.bi .len [(.comp (.var 22) (.name 22) (.sub (.var 2) (.lit (.int 3))) (some (.cmp .ne (.sub (.var 22) (.lit (.int 1))) (.lit (.str [])))))]))])] [],
  .ite (.cmp .eq (.bin .mod (.call 25 [(.var 0), (.lit (.int 3))]) (.lit (.int 2))) (.lit (.int 1))) [
    .assign (.name 6) (.call 32 [(.var 2), (.call 25 [(.var 0), (.lit (.int 2))]), (.bin .mod (.bin .fdiv (.call 25 [(.var 0), (.lit (.int 3))]) (.lit (.int 6))) (.sub (.list [(.lit (.int 6)), (.lit (.int 6)), (.lit (.int 61))]) (.var 4)))]),
    .assign (.name 3) (.meth .join (.lit (.str [])) [(.comp (.sub (.sub (.sub (.var 2) (.lit (.int 3))) (.var 22)) (.lit (.int 1))) (.name 22) (.var 6) none)])] [],
  .assign (.name 7) (.call 39 [(.var 2), (.var 3), (.var 5)]),
  .assign (.name 8) (.call 7 [(.var 2), (.var 3), (.var 5)]),
  .ite (.or (.not (.isinst (.var 8) .list)) (.or (.cmp .ne (.var 8) (.var 7)) (.cmp .ne (.comp (.var 22) (.name 22) (.var 8) (some (.not (.isinst (.var 22) .str)))) (.list [])))) [
    .ret (some (.lit (.bool false)))] [],
  .expr (.meth .append (.var 8) [(.lit (.str []))]),
  .ret (some (.cmp .eq (.call 7 [(.var 2), (.var 3), (.var 5)]) (.var 7)))]⟩
end L05
end Tw
end

section
namespace Tw

/-- is a list of plain values empty -/
theorem x_neN {h : H} {N : Type} {nv : N → V} {nd : N → D} {n m : Nat} {l : List N} {P : Bool → Prop} (sn : ∀ x, Snap h (nv x) (nd x)) (ok : ∀ x, D.ok 8 (nd x) = true) (h1 : h[n]? = some (.list (l.map nv))) (h2 : h[m]? = some (.list [])) (x : P (!decide (l = []))) : CmpW .ne (.ref n) (.ref m) h P := by
  rw [x_ne]
  refine x_eqd (d₁ := .list (l.map nd)) (d₂ := .list []) (.list h1 (snaps_map sn l)) (.list h2 .nil) ?_ rfl ?_
  · show (l.map nd).all (D.ok 8) = true
    rw [List.all_eq_true]
    intro d hd
    obtain ⟨y, _, rfl⟩ := List.mem_map.mp hd
    exact ok y
  · rw [show decide (D.list (l.map nd) = D.list []) = decide (l = []) from decide_eq_decide.mpr ⟨fun e => by injection e with e; exact List.map_eq_nil_iff.mp e, fun e => by rw [e]; rfl⟩]
    exact x
noncomputable def ndW (x : Nat × Nat × List Nat) : D := .tup [.int x.1, .int x.2.1, .str x.2.2]
theorem snapW {h : H} (x : Nat × Nat × List Nat) : Snap h (nvW x) (ndW x) := .tup (.cons (.int _) (.cons (.int _) (.cons (.str _) .nil)))
theorem strV_inj (a b : List Nat) (h : V.str a = V.str b) : a = b := by injection h

/-- the heap of a search with a stack: the dict of what is known, the list of what waits -/
structure HD {N : Type} (nv : N → V) (h : H) (T W : List N) (ver : Nat) (H : H) : Prop where
  pre : h <+: H
  d : H[h.length]? = some (.dict (kvT nv T) ver)
  l : H[h.length + 1]? = some (.list (W.map nv))
section
variable {N : Type} {nv : N → V} {h H : Tw.H} {T W : List N} {ver : Nat}
theorem HD.app (x : HD nv h T W ver H) (t : Tw.H) : HD nv h T W ver (H ++ t) := ⟨x.pre.trans (List.prefix_append _ _), get_app x.d, get_app x.l⟩
theorem HD.wait (x : HD nv h T W ver H) (W' : List N) : HD nv h T W' ver (H.set (h.length + 1) (.list (W'.map nv))) :=
  ⟨pre_set x.pre (by exact qp0 qc1 qv0 qs0 qt ) _, by rw [List.getElem?_set_ne (by exact fun e0 => qf1 qc1 qs0 qv0 qt (qe e0))]; exact x.d, List.getElem?_set_self (get_lt x.l)⟩
theorem HD.push (inj : ∀ a b, nv a = nv b → a = b) (x : HD nv h T W ver H) {z : N} (hz : z ∉ T) (ver' : Nat) : HD nv h (T ++ [z]) (W ++ [z]) ver' ((H.set h.length (.dict (dput (kvT nv T) (nv z) (.bool true)) ver')).set (h.length + 1) (.list (W.map nv ++ [nv z]))) :=
  ⟨pre_set (pre_set x.pre (Nat.le_refl _) _) (by exact qp0 qc1 qv0 qs0 qt ) _, by rw [List.getElem?_set_ne (by exact fun e0 => qf1 qc1 qs0 qv0 qt (qe e0)), List.getElem?_set_self (get_lt x.d), kvT_put inj hz], by rw [List.getElem?_set_self (by rw [List.length_set]; exact get_lt x.l)]; simp⟩
end
theorem mem_app1 {α : Type} {x y : α} {l : List α} : x ∈ l ++ [y] ↔ x ∈ l ∨ x = y := by rw [List.mem_append, List.mem_singleton]
theorem nd_app1 {α : Type} {y : α} {l : List α} (n : l.Nodup) (hn : y ∉ l) : (l ++ [y]).Nodup := List.nodup_append.mpr ⟨n, List.nodup_cons.mpr ⟨(nomatch ·), List.nodup_nil⟩, fun a ha b hb e => by rw [List.mem_singleton.mp hb] at e; exact hn (e ▸ ha)⟩
/-- what is told of the known places -/
structure Told {N : Type} (P : N → Prop) (f : N → List Nat) (T : List N) (F : List (List Nat)) : Prop where
  nd : F.Nodup
  mem : ∀ w, w ∈ F ↔ ∃ y ∈ T, P y ∧ f y = w
theorem Told.more {N : Type} {P : N → Prop} {f : N → List Nat} {T : List N} {i : Nat} {y : N} {F : List (List Nat)} (hy : T[i]? = some y) (x : Told P f (T.take i) F) :
    (P y → Told P f (T.take (i + 1)) (if f y ∈ F then F else F ++ [f y])) ∧ (¬ P y → Told P f (T.take (i + 1)) F) := by
  have et : ∀ z, z ∈ T.take (i + 1) ↔ z ∈ T.take i ∨ z = y := fun z => by rw [List.take_add_one, hy]; exact mem_app1
  have more : ∀ w, (∃ z ∈ T.take (i + 1), P z ∧ f z = w) ↔ w ∈ F ∨ P y ∧ f y = w := fun w => by
    rw [x.mem w]
    constructor
    · rintro ⟨z, hz, c⟩
      rcases (et z).mp hz with hz | rfl
      · exact .inl ⟨z, hz, c⟩
      · exact .inr c
    · rintro (⟨z, hz, c⟩ | c)
      · exact ⟨z, (et z).mpr (.inl hz), c⟩
      · exact ⟨y, (et y).mpr (.inr rfl), c⟩
  refine ⟨fun hc => ?_, fun hc => ⟨x.nd, fun w => by rw [more w]; exact ⟨.inl, fun h => h.elim id fun h => absurd h.1 hc⟩⟩⟩
  by_cases hm : f y ∈ F
  · rw [if_pos hm]
    exact ⟨x.nd, fun w => by rw [more w]; exact ⟨.inl, fun h => h.elim id fun h => h.2 ▸ hm⟩⟩
  · rw [if_neg hm]
    exact ⟨nd_app1 x.nd hm, fun w => by rw [more w, mem_app1]; exact ⟨fun h => h.imp id fun e => ⟨hc, e.symm⟩, fun h => h.imp id fun e => e.2.symm⟩⟩
theorem Told.len {N : Type} {P : N → Prop} {f : N → List Nat} {T : List N} {F : List (List Nat)} (x : Told P f T F) : F.length ≤ T.length := by
  have := nodup_le F (T.map f) x.nd fun w hw => by
    obtain ⟨y, hy, _, rfl⟩ := (x.mem w).mp hw
    exact List.mem_map.mpr ⟨y, hy, rfl⟩
  rwa [List.length_map] at this

section
variable {Φ : Nat → Option Fn} {d : Nat} {h : H} {Q : V → H → Prop}

noncomputable def alL (v : V) (t : List Nat) (most l : Nat) : Env := [(0, v), (1, .str t), (2, .int most), (3, .ref l), (4, .ref (l + 1))]
noncomputable def alL2 (v : V) (t : List Nat) (most l : Nat) (x : Nat × Nat × List Nat) : Env := (5, .int x.1) :: (6, .int x.2.1) :: (7, .str x.2.2) :: alL v t most l
noncomputable abbrev Pe (M : Ma) (t : List Nat) (y : Nat × Nat × List Nat) : Prop := y.1 ∈ M.ends ∧ y.2.1 = t.length
theorem all5_ok {v : V} {M : Ma} {t : List Nat} {most U : Nat} (h39 : Φ 39 = some L05.fn__law_all) (hM : IsMa h v M) (ok : M.ok) (ht : t.length < 1000) (hm : most < 1000) (few : Few M t most U) (hb : U < 1000000)
    (q : ∀ (h' : H) (r : Nat) (ws : List (List Nat)), h <+: h' → h'[r]? = some (.list (ws.map V.str)) → (∀ w, w ∈ ws ↔ Wrote M t most w) → ws.Nodup → ws.Pairwise (fun a b => ¬ b < a) → Q (.ref r) h') : Calls Φ (d + 1) 39 [v, .str t, .int most] h Q := by
  obtain ⟨e, m, rfl, he, hmv⟩ := hM
  have mC := calls_mono (Φ := Φ) d
  have hz := SZ_val
  have bound : ∀ {T W : List (Nat × Nat × List Nat)} {P : Nat × Nat × List Nat → Prop}, Dfs (M.b, 0, []) (on5 M t most) T W P → T.length ≤ U := fun {T W P} mt => few T mt.nodup fun x hx => reach_run ok (mt.reach x hx)
  refine ⟨L05.fn__law_all, h39, rfl, A_fn (A_dict1 (g := []) (g₂ := []) rfl trivial rfl trivial rfl fun ver0 => A_name mC (A_bi (g := []) rfl trivial ?_))⟩
  rw [x_ld (get_last _ _), List.append_assoc, List.length_append]
  refine A_while mC (fun _ : Unit => alL (.tup [.int M.n, .int M.b, .ref e, .ref m]) t most h.length) (fun n _ H => ∃ T W ver, n = 2 * (U - T.length) + W.length ∧ 2 * (U - T.length) + W.length ≤ 2 * U + 1 ∧ Dfs (M.b, 0, []) (on5 M t most) T W (fun _ => False) ∧ HD nvW h T W ver H) _ () (by repeat (first | exact trivial | refine ⟨rfl, ?_⟩)) ⟨[(M.b, 0, [])], [(M.b, 0, [])], ver0, rfl, (show 2 * (U - 1) + 1 ≤ _ by exact qp1 qc2 (qA (qM 2 qv0) qk1) (qA (qM 2 qv1) qk1) (qM 2 qv0) (qM 2 qv1) qt (Nat.mul_le_mul_left 2 qu)), .start, ⟨List.prefix_append _ _, last2a .., len2 ..⟩⟩ ?_
  rintro n _ H ⟨T, W, ver, rfl, hle0, mt, hd⟩ ρ ag
  have hT := bound mt
  rw [t_cmp, e_vk, ag 4 _ rfl, vk_some, e_list, es_nil]
  refine x_neN snapW (fun _ => rfl) (get_app hd.l) (get_last _ _) ?_
  have hd := hd.app [MO.list []]
  generalize H ++ [MO.list []] = H1 at hd
  have hHl := get_lt hd.l
  clear ag ρ
  by_cases hW : W = []
  · -- nothing waits: the search is done
    subst hW
    rw [decide_eq_true rfl]
    have known := mt.done
    refine A_dict0 fun fv0 => A_forE mC (A_bi (g := []) rfl trivial ?_)
    rw [x_ld (get_app hd.d), kvT_keys, List.append_assoc, List.length_append]
    refine A_for mC (goes_seq (H1.length + 1) (T.map nvW)) (fun _ : Unit => (13, .ref H1.length) :: alL (.tup [.int M.n, .int M.b, .ref e, .ref m]) t most h.length) (fun i _ H' => ∃ (F : List (List Nat)) (fv : Nat), Told (Pe M t) (·.2.2) (T.take i) F ∧ H' = H1 ++ [.dict (kvT V.str F) fv, .list (T.map nvW)]) () (by repeat (first | exact trivial | refine ⟨rfl, ?_⟩)) (A_ev (g := []) rfl trivial ⟨it_list (len2 ..), [], fv0, ⟨List.nodup_nil, fun w => ⟨(nomatch ·), fun ⟨_, hm, _⟩ => nomatch hm⟩⟩, rfl⟩) ?_ ?_ ?_
    · rintro i _ H' ⟨F, fv, _, rfl⟩
      exact len2 ..
    · rintro i v _ H' hv ⟨F, fv, ft, rfl⟩
      obtain ⟨y, hy, rfl, hil⟩ := map_at hv
      have hFl := ft.len
      rw [List.length_take] at hFl
      obtain ⟨m1, m2⟩ := ft.more hy
      refine ⟨rfl, A_if (g := [.bool (decide (y.1 ∈ M.ends))]) rfl ⟨cm_inN (get_app (pre_get hd.pre he)), trivial⟩ (fun hc => ?_) fun hc => A_then (A_next () (by repeat (first | exact trivial | refine ⟨rfl, ?_⟩)) ⟨F, fv, m2 fun ⟨c1, c2⟩ => ?_, rfl⟩)⟩
      · simp only [Bool.and_eq_true, decide_eq_true_eq] at hc
        have n1 := m1 ⟨hc.1, by have := hc.2; exact oq113 this⟩
        refine A_put (g := []) (g₂ := []) rfl (last2a ..) rfl trivial rfl trivial rfl (by unfold kvT; rw [List.length_map]; exact oq117 hb hz hT hFl) fun fv' => A_then (A_next () (by repeat (first | exact trivial | refine ⟨rfl, ?_⟩)) ⟨_, fv', n1, ?_⟩)
        rw [set2a]; exact congrArg (fun z => H1 ++ [MO.dict z fv', MO.list (T.map nvW)]) (kvT_put' strV_inj F _)
      · rw [decide_eq_true c1, c2, decide_eq_true rfl] at hc; cases hc
    · rintro _ H' ⟨F, fv, ft, rfl⟩
      rw [List.length_map, List.take_length] at ft
      refine A_retE mC fun ρ ag => ?_
      rw [e_bi, es_cons, e_bi, es_cons, e_vk, ag 13 _ rfl, vk_some, es_nil, x_ld (last2a ..), kvT_keys, es_nil]
      refine ⟨F.map V.str, .inr (get_last _ _), .inr (.inl ⟨F, rfl, fun ks p o => fun ρ => ?_⟩)⟩
      refine q _ _ ks ?_ (get_last _ _) (fun w => ?_) (p.symm.nodup ft.nd) o
      · exact hd.pre.trans (by rw [List.append_assoc, List.append_assoc]; exact List.prefix_append _ _)
      · rw [p.mem_iff, ft.mem w, wrote_reach ok]
        constructor
        · rintro ⟨y, hy, ⟨c1, c2⟩, rfl⟩
          refine ⟨y.1, c1, ?_⟩
          rw [← c2]; exact (known y).mp hy
        · rintro ⟨s, c1, r⟩
          exact ⟨_, (known _).mpr r, ⟨c1, rfl⟩, rfl⟩
  · -- one more
    rw [decide_eq_false hW]
    obtain ⟨W', c, rfl⟩ : ∃ W' c, W = W' ++ [c] := ⟨W.dropLast, W.getLast hW, (List.dropLast_concat_getLast hW).symm⟩
    have hcT := mt.sub c (List.mem_append_right _ (List.mem_singleton.mpr rfl))
    rw [List.length_append, List.length_singleton] at hle0 ⊢
    obtain ⟨pc, rc⟩ := reach_run ok (mt.reach c hcT)
    obtain ⟨_, h2, _, _, h3⟩ := run_pathW ok rc
    refine A_tup mC fun ρ ag => ?_
    rw [e_meth, e_vk, ag 4 _ rfl, vk_some, es_nil]
    refine ⟨x_rp hd.l, x_pop (vs := W'.map nvW) (v := nvW c) (by rw [hd.l, List.map_append]; rfl) ⟨[.int c.1, .int c.2.1, .str c.2.2], rfl, rfl, ?_⟩⟩
    have hd := hd.wait W'
    generalize H1.set (h.length + 1) (.list (W'.map nvW)) = H2 at hd
    have hH2l : h.length + 1 < H2.length := get_lt hd.l
    have hml : m < h.length := get_lt hmv
    clear ag ρ
    refine A_for mC (goes_seq m (M.moves.map Mv.v)) (fun _ : Unit => alL2 (.tup [.int M.n, .int M.b, .ref e, .ref m]) t most h.length c) (fun i _ H' => ∃ T' V' ver, DfI (M.b, 0, []) (on5 M t most) T' V' c ((M.moves.take i).filterMap (o5 t most c)).length ∧ HD nvW h T' V' ver H' ∧ 2 * (U - T'.length) + V'.length ≤ 2 * (U - T.length) + W'.length) () (by repeat (first | exact trivial | refine ⟨rfl, ?_⟩)) (A_ev (g := []) rfl trivial ⟨it_list (pre_get hd.pre hmv), T, W', ver, mt.pop, hd, Nat.le_refl _⟩) ?_ ?_ ?_
    · rintro i _ H' ⟨T', V', ver, _, hd', _⟩
      exact pre_get hd'.pre hmv
    · rintro i v _ H' hv ⟨T', V', ver, mi, hd', hle⟩
      obtain ⟨a, ha, rfl, hil⟩ := map_at hv
      have ma := ok.m1 a (List.mem_of_getElem? ha)
      have hT' := bound mi.toDfs
      refine ⟨rfl, A_set (g := []) rfl ⟨(show c.2.2.length + a.g.length ≤ SZ by exact qp4 qc4 (qA qv0 qv1) qv2 qs3 (qN 1000) (qN 16777216) qv2 qv0 qv3 qv1 qk1 qt hm (qi hz) h3 (And.right (And.right (And.right ma)))), trivial⟩ ?_⟩
      have step : ((M.moves.take (i + 1)).filterMap (o5 t most c)).length = ((M.moves.take i).filterMap (o5 t most c)).length + (o5 t most c a).toList.length := fm_more ha
      refine A_if (g := [.str ((t.take (c.2.1 + a.t.length)).drop c.2.1), .bool (!decide ((a.q, c.2.1 + a.t.length, c.2.2 ++ a.g) ∈ T'))]) rfl ⟨fun _ => ⟨fun Q q => x_slice (by omega) q, fun _ => ⟨fun _ => ⟨cm_nin hd'.d rfl (by rw [kvT_keys]; exact nv_mem nvW_inj (z := (a.q, c.2.1 + a.t.length, c.2.2 ++ a.g))), trivial⟩, trivial⟩, trivial⟩, trivial⟩ (fun hc => ?_) fun hc => A_then (A_next () (by repeat (first | exact trivial | refine ⟨rfl, ?_⟩)) ⟨T', V', ver, ?_, hd', hle⟩)
      · simp only [Bool.and_eq_true, decide_eq_true_eq] at hc
        obtain ⟨c1, c2, c3, c4⟩ := hc
        have ho : o5 t most c a = some (a.q, c.2.1 + a.t.length, c.2.2 ++ a.g) := by
          unfold o5
          exact if_pos ⟨by exact oq113 c1, c2, by exact oq118 c3⟩
        have hn : (a.q, c.2.1 + a.t.length, c.2.2 ++ a.g) ∉ T' := by simpa using c4
        have mi' := mi.push (fm_at ha ho) hn
        have hT2 := bound mi'.toDfs
        rw [List.length_append, List.length_singleton] at hT2
        have hV : V'.length < SZ := by exact qp4 qc6 qs0 qv1 (qM 2 qs2) (qM 2 (qN 1000000)) (qN 16777216) qv1 (qA (qM 2 qv3) qs4) (qA (qM 2 qv2) qk1) (qA (qM 2 qv5) qv0) (qA (qM 2 qv3) qv4) qt (Nat.mul_le_mul_left 2 hb) (qi hz) hle0 hle
        refine A_put (g := []) (g₂ := []) rfl hd'.d rfl trivial rfl trivial rfl (by unfold kvT; rw [List.length_map]; exact qp3 qc3 qs0 qv1 qs2 (qN 1000000) (qN 16777216) qv1 qs0 qv2 qt hb (qi hz) hT2) fun ver' => ?_
        refine A_app rfl (vs := V'.map nvW) (by rw [List.getElem?_set_ne (by exact fun e0 => qf1 qc1 qs0 qv0 qt (qi e0))]; exact hd'.l) (by rw [List.length_map]; exact hV) (g := []) rfl trivial (A_then (A_next () (by repeat (first | exact trivial | refine ⟨rfl, ?_⟩)) ⟨_, _, ver', ?_, hd'.push nvW_inj hn ver', ?_⟩))
        · rw [step, ho]; exact mi'
        · rw [List.length_append, List.length_append, List.length_singleton]; exact qp3 qc7 (qA (qM 2 qv0) qs1) (qA (qM 2 qv2) qv3) (qA (qM 2 qv4) qv1) (qA (qM 2 qv2) qv3) (qM 2 qv5) (qM 2 (qA qv4 qv6)) (qM 2 (qA qv0 qs6)) (qM 2 qv5) qt hle (Nat.mul_le_mul_left 2 qw) (Nat.mul_le_mul_left 2 (qx (hT2)))
      · rw [step]
        cases ho : o5 t most c a with
        | none => exact mi
        | some y =>
          obtain ⟨⟨c1, c2, c3⟩, rfl⟩ := o5_some ho
          refine mi.skip (fm_at ha ho) ?_
          rw [c1, decide_eq_true rfl, decide_eq_true c2, decide_eq_true (Int.ofNat_le.mpr c3)] at hc
          simpa using hc
    · rintro _ H' ⟨T', V', ver, mi, hd', hle⟩
      rw [List.length_map, List.take_length] at mi
      exact A_again (2 * (U - T'.length) + V'.length) () (by exact qp1 qc4 (qA (qA (qM 2 qv0) qv1) qk1) (qA (qM 2 qv2) qs3) (qA (qM 2 qv0) qv1) (qA (qM 2 qv2) qv3) qt hle) (by repeat (first | exact trivial | refine ⟨rfl, ?_⟩)) ⟨T', V', ver, rfl, by exact qp2 qc5 (qA (qM 2 qv0) qv1) (qA (qM 2 qv2) qk1) (qA (qM 2 qv3) qs4) (qA (qM 2 qv2) qk1) (qA (qM 2 qv0) qv1) (qA (qM 2 qv3) qv4) qt hle0 hle, mi.leave (Nat.le_refl _), hd'⟩
end
end Tw
end

section
namespace Tw
theorem A_ifne {C : Ora} (hC : MonoC C) {L : Env} {h : H} {e : E} {a b r : List S} {Q : Out → Rho → H → Prop} (x : AE C L h e fun v h₁ => ∃ (α : Type) (l : List α) (f : α → V) (fd : α → D) (n : Nat), v = .ref n ∧ h₁[n]? = some (.list (l.map f)) ∧ (∀ h x, Snap h (f x) (fd x)) ∧ (∀ x, D.ok 8 (fd x) = true) ∧ (l ≠ [] → AB C L (h₁ ++ [.list []]) a (thenB C r Q)) ∧ (l = [] → AB C L (h₁ ++ [.list []]) b (thenB C r Q))) :
    AB C L h (.ite (.cmp .ne e (.list [])) a b :: r) Q := fun ρ ag => by
  refine B_ite ?_
  rw [t_cmp]
  refine wpE_mono hC e (fun v h₁ z => ?_) (x ρ ag)
  obtain ⟨α, l, f, fd, n, e1, hn, sn, ok, h1, h2⟩ := z
  subst e1
  rw [e_list, es_nil, x_ne]
  refine x_eqd (d₁ := .list (l.map fd)) (d₂ := .list []) (.list (get_app hn) (snaps_map (sn _) l)) (.list (get_last _ _) .nil) ?_ rfl ?_
  · show (l.map fd).all (D.ok 8) = true
    rw [List.all_eq_true]
    intro d hd
    obtain ⟨y, _, rfl⟩ := List.mem_map.mp hd
    exact ok y
  · cases l with
    | nil => rw [List.map_nil, decide_eq_true rfl]; exact h2 rfl ρ ag
    | cons x r => rw [decide_eq_false (fun e => by injection e with e; cases e)]; exact h1 (fun e => nomatch e) ρ ag
theorem rd_last {h : H} {n : Nat} {vs : List V} {v : V} (x : h[n]? = some (.list (vs ++ [v]))) : RdW h (.ref n) (.int (-1)) v := fun R q => by
  unfold SubW; dsimp only; rw [x]; exact .inr ⟨v, rfl, by simp, q⟩
theorem A_skip {C : Ora} (hC : MonoC C) {L : Env} {h : H} {r : List S} {Q : Out → Rho → H → Prop} {t : E} {a : List S} (x : ∀ ρ, Ag L ρ → wpT C t ρ h fun b h₁ => b = false ∧ AB C L h₁ r Q) : AB C L h (.ite t a [] :: r) Q := fun ρ ag =>
  B_ite (wpT_mono hC t (fun b h₁ ⟨e, y⟩ => by subst e; exact y ρ ag) (x ρ ag))
theorem cm_inS {h : H} {n : Nat} {s : List Nat} {l : List (List Nat)} (h1 : h[n]? = some (.list (l.map V.str))) : CmW h .isIn (.str s) (.ref n) (decide (s ∈ l)) := fun P x => by
  rw [x_inl h1]
  refine ⟨.str s, l.map D.str, .str _, snaps_map (fun _ => .str _) l, rfl, ?_, ?_⟩
  · intro d hd; obtain ⟨x, _, rfl⟩ := List.mem_map.mp hd; rfl
  · have : D.str s ∈ l.map D.str ↔ s ∈ l := by
      rw [List.mem_map]
      exact ⟨fun ⟨y, hy, e⟩ => by injection e with e; exact e ▸ hy, fun hy => ⟨s, hy, rfl⟩⟩
    rw [decide_eq_decide.mpr this]; exact x
theorem cm_neS {h : H} {n m : Nat} {l : List (List Nat)} (h1 : h[n]? = some (.list (l.map V.str))) (h2 : h[m]? = some (.list (l.map V.str))) : CmW h .ne (.ref n) (.ref m) false := fun P x => by
  have ok : D.ok 9 (.list (l.map D.str)) = true := by
    show (l.map D.str).all (D.ok 8) = true
    rw [List.all_eq_true]
    intro d hd; obtain ⟨x, _, rfl⟩ := List.mem_map.mp hd; rfl
  rw [x_ne]
  exact x_eqd (.list h1 (snaps_map (fun _ => .str _) l)) (.list h2 (snaps_map (fun _ => .str _) l)) ok ok (by rw [decide_eq_true rfl]; exact x)
section
variable {C : Ora} {L : Env} {h : H} {Q : V → H → Prop}
theorem A_ifW (hC : MonoC C) {t : E} {a b r : List S} {Q : Out → Rho → H → Prop} (x : ∀ ρ, Ag L ρ → wpT C t ρ h fun c h₁ => match c with | true => AB C L h₁ a (thenB C r Q) | false => AB C L h₁ b (thenB C r Q)) : AB C L h (.ite t a b :: r) Q := fun ρ ag =>
  B_ite (wpT_mono hC t (fun c h₁ y => by
    cases c with
    | true => exact y ρ ag
    | false => exact y ρ ag) (x ρ ag))
noncomputable def AEs (C : Ora) (L : Env) (h : H) (es : List E) (Q : List V → H → Prop) : Prop := ∀ ρ, Ag L ρ → wpEs C es ρ h Q
theorem As_nil {Q : List V → H → Prop} (q : Q [] h) : AEs C L h [] Q := fun ρ ag => q
theorem As_cons (hC : MonoC C) {e : E} {es : List E} {Q : List V → H → Prop} (x : AE C L h e fun v h1 => AEs C L h1 es fun vs h2 => Q (v :: vs) h2) : AEs C L h (e :: es) Q := fun ρ ag => by
  rw [es_cons]; exact wpE_mono hC e (fun v h1 y => y ρ ag) (x ρ ag)
theorem A_callG {f : Nat} {as : List E} (x : AEs C L h as fun vs h1 => C f vs h1 Q) : AE C L h (.call f as) Q := fun ρ ag => by rw [e_call]; exact x ρ ag
theorem A_tupG {as : List E} (x : AEs C L h as fun vs h1 => Q (.tup vs) h1) : AE C L h (.tup as) Q := fun ρ ag => by rw [e_tup]; exact x ρ ag
theorem A_sliceE (hC : MonoC C) {a : E} {lo hi : V} (x : AE C L h a fun v h1 => SliceW v lo hi h1 Q) : AE C L h (.slice a (.lit lo) (.lit hi)) Q := fun ρ ag => by
  rw [e_slice]; exact wpE_mono hC a (fun v h1 y => y) (x ρ ag)
end
theorem AB_in {C : Ora} {L L' : Env} {h : H} {r : List S} {Q : Out → Rho → H → Prop} (hin : AllIn L L') (x : AB C L h r Q) : AB C L' h r Q := fun ρ ag => x ρ (AllIn.ag ag hin)
theorem lo_nat {k : Nat} (h : k < 1000) : loOf (.int k) = some k := by unfold loOf; dsimp only; rw [if_pos (by omega)]; simp
theorem hi_nat {k n : Nat} (h : k < 1000) : hiOf n (.int k) = some k := by unfold hiOf; dsimp only; rw [if_pos (by omega)]; simp

theorem x_eqN {h : H} {N : Type} {nv : N → V} {nd : N → D} {n m : Nat} {l : List N} {P : Bool → Prop} (sn : ∀ x, Snap h (nv x) (nd x)) (ok : ∀ x, D.ok 8 (nd x) = true) (h1 : h[n]? = some (.list (l.map nv))) (h2 : h[m]? = some (.list [])) (x : P (decide (l = []))) : CmpW .eq (.ref n) (.ref m) h P := by
  have := x_neN (P := fun b => P (!b)) sn ok h1 h2 (by rw [Bool.not_not]; exact x)
  rw [x_ne] at this
  rw [x_eq]
  simpa using this
end Tw
end

section
namespace Tw
noncomputable def eaL (c : Int) (vk sv : V) (n l : Nat) (bits : Int) : Env := [(0, .int c), (1, vk), (2, sv), (3, .int n), (4, .ref l), (5, .int bits)]
noncomputable def sEnds : S := .for (.name 6) (.bi .range [(.var 3)]) [
    .ite (.or (.cmp .eq (.bin .mod (.var 5) (.lit (.int 3))) (.lit (.int 0))) (.and (.cmp .eq (.bin .add (.var 6) (.lit (.int 1))) (.var 3)) (.cmp .eq (.var 4) (.list [])))) [
      .expr (.meth .append (.var 4) [(.var 6)])] [],
    .assign (.name 5) (.bin .fdiv (.var 5) (.lit (.int 3)))]
section
variable {Φ : Nat → Option Fn} {d : Nat} {h : H}
theorem ends_A {g : H} {n l : Nat} {c bits : Int} {vk sv : V} {r : List S} {Q : Out → Rho → H → Prop} (hg : g <+: h) (hgl : g.length ≤ l) (hl : h[l]? = some (.list [])) (hn2 : n ≤ 100)
    (q : ∀ bits h' (es : List Nat), g <+: h' → h'[l]? = some (.list (es.map natV)) → es.length ≤ n → (∀ e ∈ es, e < n) → AB (Calls Φ d) (eaL c vk sv n l bits) h' r Q) : AB (Calls Φ d) (eaL c vk sv n l bits) h (sEnds :: r) Q := by
  have mC := calls_mono (Φ := Φ) d
  have hz := SZ_val
  refine A_for mC (goes_range n) (eaL c vk sv n l) (fun i bits H => ∃ es : List Nat, g <+: H ∧ H[l]? = some (.list (es.map natV)) ∧ es.length ≤ i ∧ ∀ e ∈ es, e < n) bits (by repeat (first | exact trivial | refine ⟨rfl, ?_⟩)) (A_ev (g := []) rfl ⟨small_nat (by exact qp1 qc1 qs0 (qN 2147483648) qv0 (qN 100) qt hn2), trivial⟩ ⟨fun _ q => q, [], hg, hl, Nat.le_refl _, fun e h => (nomatch h)⟩) (fun _ _ _ _ => trivial) ?_ ?_
  · rintro i v bits H hv ⟨es, hk, hL, hel, hen⟩
    obtain ⟨k', hk', rfl, hkm⟩ := map_at hv
    have : k' = i := by rw [List.getElem?_range (by simpa using hkm)] at hk'; exact (Option.some.inj hk').symm
    subst this
    rw [List.length_range] at hkm
    have gen : ∀ {R : Out → Rho → Tw.H → Prop}, (∀ ρ bits h' (es : List Nat), Ag (eaL c vk sv n l bits) ρ → g <+: h' → h'[l]? = some (.list (es.map natV)) → es.length ≤ k' + 1 → (∀ e ∈ es, e < n) → R .next ρ h') →
        (∀ {H' : Tw.H}, g <+: H' → H'[l]? = some (.list (es.map natV)) → AB (Calls Φ d) ((6, .int k') :: eaL c vk sv n l bits) H' [.expr (.meth .append (.var 4) [(.var 6)])] (thenB (Calls Φ d) [.assign (.name 5) (.bin .fdiv (.var 5) (.lit (.int 3)))] R)) ∧
        (∀ {H' : Tw.H}, g <+: H' → H'[l]? = some (.list (es.map natV)) → AB (Calls Φ d) ((6, .int k') :: eaL c vk sv n l bits) H' [] (thenB (Calls Φ d) [.assign (.name 5) (.bin .fdiv (.var 5) (.lit (.int 3)))] R)) := by
      intro R done
      refine ⟨fun {H'} hk' hL' => ?_, fun hk' hL' => A_then (A_set (g := []) rfl ⟨by decide, trivial⟩ (A_nil fun ρ ag => done ρ (bits.fdiv 3) _ es (AllIn.ag ag (by repeat (first | exact trivial | refine ⟨rfl, ?_⟩))) hk' hL' (Nat.le_succ_of_le hel) hen))⟩
      have em : es.map natV ++ [.int k'] = (es ++ [k']).map natV := by rw [List.map_append]; rfl
      refine A_app rfl hL' (by rw [List.length_map]; exact qp4 qc4 qs0 qv1 qv2 (qN 100) (qN 16777216) qv1 qv0 qv3 qs3 qv2 qt hn2 (qi hz) hel hkm) (g := []) rfl trivial (A_then (A_set (g := []) rfl ⟨by decide, trivial⟩ (A_nil fun ρ ag => done ρ (bits.fdiv 3) _ (es ++ [k']) (AllIn.ag ag (by repeat (first | exact trivial | refine ⟨rfl, ?_⟩))) (pre_set hk' hgl _) (by rw [List.getElem?_set_self (get_lt hL'), em]) (by rw [List.length_append]; exact Nat.succ_le_succ hel) fun e he => ?_)))
      rcases List.mem_append.mp he with he | he
      · exact hen e he
      · rw [List.mem_singleton.mp he]; exact hkm
    refine A_ifW mC fun ρ ag => ?_
    rw [t_or, t_cmp, e_bin, e_vk, ag 5 _ rfl, vk_some, e_lit, x_mod, e_lit, x_eqi]
    refine ⟨by decide, ?_⟩
    by_cases h3 : bits.fmod 3 = 0
    · rw [decide_eq_true h3]; exact (gen fun ρ bits h' es a b c d e => ⟨bits, a, es, b, c, d, e⟩).1 hk hL
    · rw [decide_eq_false h3]
      show wpT _ _ _ _ _
      rw [t_and, t_cmp, e_bin, e_vk, ag 6 (.int k') rfl, vk_some, e_lit, x_addi, e_vk, ag 3 _ rfl, vk_some, x_eqi]
      by_cases h4 : ((k' : Int) + 1 = n)
      · rw [decide_eq_true h4]
        show wpT _ _ _ _ _
        rw [t_cmp, e_vk, ag 4 _ rfl, vk_some, e_list, es_nil]
        refine x_nil (get_app hL) (get_last _ _) ?_
        have hk2 : g <+: H ++ [MO.list []] := hk.trans (List.prefix_append _ _)
        cases hes : decide (es = []) with
        | true => exact (gen fun ρ bits h' es a b c d e => ⟨bits, a, es, b, c, d, e⟩).1 hk2 (get_app hL)
        | false => exact (gen fun ρ bits h' es a b c d e => ⟨bits, a, es, b, c, d, e⟩).2 hk2 (get_app hL)
      · rw [decide_eq_false h4]; exact (gen fun ρ bits h' es a b c d e => ⟨bits, a, es, b, c, d, e⟩).2 hk hL
  · rintro bits H ⟨es, hk, hL, hel, hen⟩
    rw [List.length_map, List.length_range] at hel
    exact q bits H es hk hL hel hen
end
section
variable {Φ : Nat → Option Fn} {d : Nat} {h : H} {Q : V → H → Prop}
noncomputable def teL (sn : Nat) (s : Int × List Nat) : Env := [(0, .int s.1), (1, .ref sn), (2, .str s.2)]
theorem text5_ok {c : Int} {sv : V} (h29 : Φ 29 = some L05.fn__law_text) (hS : SignsAt h sv) (cont : ∀ t : List Nat, t.length < 5 → Q (.str t) h) : Calls Φ (d + 1) 29 [.int c, sv] h Q := by
  obtain ⟨sn, a, b, e, rfl, hsg⟩ := hS
  have mC := calls_mono (Φ := Φ) d
  have hz := SZ_val
  obtain ⟨k1, e1, l1⟩ := fmod_nat c (b := 5) (by decide)
  refine ⟨L05.fn__law_text, h29, rfl, A_fn (A_set (g := []) rfl trivial ?_)⟩
  refine A_for mC (goes_range k1) (teL sn) (fun i s H => H = h ∧ s.2.length ≤ i) (c, []) (by repeat (first | exact trivial | refine ⟨rfl, ?_⟩)) (A_ev (g := []) rfl ⟨by decide, by rw [e1]; exact small_nat (by exact oq119 l1), trivial⟩ ⟨fun _ q => by rw [e1]; exact q, rfl, Nat.le_refl _⟩) (fun _ _ _ _ => trivial) ?_ ?_
  · rintro i v ⟨c, t⟩ H hv ⟨rfl, hl⟩
    obtain ⟨k', hk', rfl, hkm⟩ := map_at hv
    rw [List.length_range] at hkm
    dsimp only at hl
    obtain ⟨k2, e2, l2⟩ := fmod_nat (c.fdiv 5) (b := 3) (by decide)
    obtain ⟨s1, g1, z1⟩ := four (a := a) (b := b) (e := e) (k := k2 + 1) (by exact oq120 l2)
    refine A_set (g := []) rfl ⟨by decide, trivial⟩ ?_
    refine A_set (g := [.str s1]) rfl ⟨by decide, ?_, (show t.length + s1.length ≤ SZ by exact oq121 hz l1 hl hkm z1), trivial⟩ (A_next (c.fdiv 5, t ++ s1) (by repeat (first | exact trivial | refine ⟨rfl, ?_⟩)) ⟨rfl, by show (t ++ s1).length ≤ _; rw [List.length_append]; exact qp2 qc3 (qA qv0 qv1) qs2 qv0 qv2 qv1 qk1 qt hl z1⟩)
    rw [show (1 + (c.fdiv 5).fmod 3 : Int) = ((k2 + 1 : Nat) : Int) from by rw [e2]; exact oq122]
    exact rd_list hsg (by omega) g1
  · rintro ⟨c, t⟩ H ⟨rfl, hl⟩
    rw [List.length_map, List.length_range] at hl
    exact A_ret (g := []) rfl trivial fun ρ => cont t (by dsimp only at hl; exact oq123 l1 hl)

noncomputable def wkL (v : V) (c : Int) (l s : Nat) : Env := [(0, v), (1, .int c), (3, .ref l), (4, .int s)]
theorem walk5_ok {c : Int} {v : V} {M : Ma} {many : Nat} (h32 : Φ 32 = some L05.fn__law_walk) (hm : IsMa h v M) (ok : M.ok) (hmany : many ≤ 200)
    (q : ∀ h' r (p : List Nat), h <+: h' → h'[r]? = some (.list (p.map natV)) → p.length ≤ many → (∀ k ∈ p, k < M.moves.length) → Q (.ref r) h') : Calls Φ (d + 1) 32 [v, .int c, .int many] h Q := by
  obtain ⟨e, m, rfl, he, hmv⟩ := hm
  have mC := calls_mono (Φ := Φ) d
  have hz := SZ_val
  have hl1 := ok.l1
  have hml : m ≠ h.length := Nat.ne_of_lt (get_lt hmv)
  refine ⟨L05.fn__law_walk, h32, rfl, A_fn (A_list0 (A_set (g := []) rfl trivial ?_))⟩
  refine A_for mC (goes_range many) (wkL (.tup [.int M.n, .int M.b, .ref e, .ref m]) c h.length) (fun i s H => ∃ p : List Nat, H[h.length]? = some (.list (p.map natV)) ∧ h <+: H ∧ p.length ≤ i ∧ ∀ k ∈ p, k < M.moves.length) M.b (by repeat (first | exact trivial | refine ⟨rfl, ?_⟩)) (A_ev (g := []) rfl ⟨small_nat (by exact qp1 qc1 qs0 (qN 2147483648) qv0 (qN 200) qt hmany), trivial⟩ ⟨fun _ q => q, [], get_last _ _, List.prefix_append _ _, Nat.le_refl _, fun k hk => nomatch hk⟩) (fun _ _ _ _ => trivial) ?_ ?_
  · rintro i v s H hv ⟨p, hL, hp, hpl, hpk⟩
    obtain ⟨k', hk', rfl, hkm⟩ := map_at hv
    have : k' = i := by rw [List.getElem?_range (by simpa using hkm)] at hk'; exact (Option.some.inj hk').symm
    subst this
    rw [List.length_range] at hkm
    have hmv := pre_get hp hmv
    refine A_name mC (A_compIf mC (goes_range M.moves.length) (l := List.range M.moves.length) (f := natV) (ga := fun k => if (M.moves[k]?.map Mv.s) = some s then some (natV k) else none) (g := [.int M.moves.length]) rfl ⟨ln_map hmv, small_nat (by exact qp1 qc1 qs0 (qN 2147483648) qv0 (qN 1000) qt hl1), trivial⟩ (fun _ q => q) trivial (by rw [List.length_range]; exact qp2 qc2 qv0 qv1 (qN 16777216) qv1 qv0 (qN 1000) qt (qi hz) hl1) ?_ ?_)
    · intro k hk
      have hk := List.mem_range.mp hk
      obtain ⟨mv, hmk⟩ : ∃ mv, M.moves[k]? = some mv := ⟨_, List.getElem?_eq_getElem hk⟩
      refine ⟨[mv.v], _, _, _, rfl, ⟨rd_list hmv (by omega) (by rw [List.getElem?_map, hmk]; rfl), trivial⟩, isS_if (Bool.eq_iff_iff.mpr ?_), fun w hw => ?_⟩
      · rw [hmk, decide_eq_true_eq, decide_eq_true_eq]
        exact ⟨fun h => congrArg some (Int.ofNat_inj.mp h), fun h => congrArg Int.ofNat (Option.some.inj h)⟩
      · obtain ⟨_, rfl⟩ := some_if hw
        exact ⟨[], _, _, rfl, trivial⟩
    rw [fm_filter]
    have hsub : ∀ k ∈ (List.range M.moves.length).filter (fun k => decide ((M.moves[k]?.map Mv.s) = some s)), k < M.moves.length := fun k hk => List.mem_range.mp (List.mem_filter.mp hk).1
    have hlen : ((List.range M.moves.length).filter (fun k => decide ((M.moves[k]?.map Mv.s) = some s))).length ≤ M.moves.length := by have := List.length_filter_le (fun k => decide ((M.moves[k]?.map Mv.s) = some s)) (List.range M.moves.length); rwa [List.length_range] at this
    generalize (List.range M.moves.length).filter _ = G at hsub hlen
    refine A_ifne mC (A_ev (g := []) rfl trivial ⟨Nat, G, natV, fun k => .int k, H.length, rfl, get_last _ _, fun _ _ => .int _, fun _ => rfl, fun hne => ?_, fun _ => A_then (A_next s (by repeat (first | exact trivial | refine ⟨rfl, ?_⟩)) ⟨p, get_app (get_app hL), (hp.trans (List.prefix_append _ _)).trans (List.prefix_append _ _), by exact qp1 qc2 qv0 qs1 qv0 qv1 qt hpl, hpk⟩)⟩)
    have g6 : (H ++ [MO.list (G.map natV)] ++ [MO.list []])[H.length]? = some (.list (G.map natV)) := get_app (get_last _ _)
    have gL : (H ++ [MO.list (G.map natV)] ++ [MO.list []])[h.length]? = some (.list (p.map natV)) := get_app (get_app hL)
    have gm : (H ++ [MO.list (G.map natV)] ++ [MO.list []])[m]? = some (.list (M.moves.map Mv.v)) := get_app (get_app hmv)
    have hp2 : h <+: H ++ [MO.list (G.map natV)] ++ [MO.list []] := (hp.trans (List.prefix_append _ _)).trans (List.prefix_append _ _)
    have hHl := get_lt hL
    generalize H ++ [MO.list (G.map natV)] ++ [MO.list []] = H2 at g6 gL gm hp2
    have hpos : 0 < G.length := List.length_pos_iff.mpr hne
    obtain ⟨m1, m2, m3⟩ := mul_small8 c k' (by exact qp2 qc2 qs0 (qN 1000) qv1 (qN 200) qs0 qv1 qt hmany hkm)
    obtain ⟨k1, e1, z1⟩ := fmod_nat (((c + 7919 * (k' : Int) * (k' : Int)) * 48271).fmod 2147483647) (b := G.length) (by exact oq124 hpos)
    obtain ⟨kk, hkk⟩ : ∃ kk, G[k1]? = some kk := ⟨_, List.getElem?_eq_getElem (by exact oq125 z1)⟩
    have hkl := hsub kk (List.mem_of_getElem? hkk)
    obtain ⟨mv, hmk⟩ : ∃ mv, M.moves[kk]? = some mv := ⟨_, List.getElem?_eq_getElem hkl⟩
    refine A_app rfl gL (by rw [List.length_map]; exact qp4 qc4 qs0 qv1 qv2 (qN 200) (qN 16777216) qv1 qv0 qv3 qs3 qv2 qt hmany (qi hz) hpl hkm) (g := [.int G.length, natV kk]) rfl ⟨m1, m2, m3, by decide, ln_map g6, by exact oq126 z1, by rw [e1]; exact rd_list g6 (by omega) (by rw [List.getElem?_map, hkk]; rfl), trivial⟩ ?_
    have gL2 : (H2.set h.length (.list (p.map natV ++ [natV kk])))[h.length]? = some (.list (p.map natV ++ [natV kk])) := List.getElem?_set_self (get_lt gL)
    refine A_set (g := [natV kk, mv.v]) rfl ⟨rd_last gL2, rd_list (by rw [List.getElem?_set_ne (Ne.symm hml)]; exact gm) (by omega) (by rw [List.getElem?_map, hmk]; rfl), trivial⟩ (A_then (A_next mv.q (by repeat (first | exact trivial | refine ⟨rfl, ?_⟩)) ⟨p ++ [kk], by rw [List.map_append]; exact gL2, pre_set hp2 (Nat.le_refl _) _, by rw [List.length_append]; exact Nat.succ_le_succ hpl, fun k hk => ?_⟩))
    rcases List.mem_append.mp hk with hk | hk
    · exact hpk k hk
    · rw [List.mem_singleton.mp hk]; exact hkl
  · rintro s H ⟨p, hL, hp, hpl, hpk⟩
    rw [List.length_map, List.length_range] at hpl
    exact A_ret (g := []) rfl trivial fun ρ => q _ _ p hp hL hpl hpk

/-- the machine of cells, perhaps with an end told twice -/
noncomputable def mvL (c : Int) (sv : V) (n l L : Nat) : Env := [(0, .int c), (2, sv), (3, .int n), (4, .ref l), (7, .ref L)]
theorem mach5_ok {c : Int} {k : Nat} {cs : List Nat} {ys : List Int} {sv : V} (h27 : Φ 27 = some L05.fn__law_machine) (hk : h[k]? = some (.list (ys.map V.int))) (hyl : ys.length ≤ 14) (hS : SgAt h sv cs)
    (q : ∀ (v : V) (h' : H) (M : Ma), h <+: h' → IsMa h' v M → M.ok → M.n ≤ 5 → M.moves.length ≤ 14 → (∀ m ∈ M.moves, m.over cs) → Q v h') : Calls Φ (d + 1) 27 [.int c, .ref k, sv] h Q := by
  have mC := calls_mono (Φ := Φ) d
  have hz := SZ_val
  obtain ⟨k1, e1, l1⟩ := fmod_nat c (b := 5) (by decide)
  refine ⟨L05.fn__law_machine, h27, rfl, A_fn (A_set (g := []) rfl ⟨by decide, trivial⟩ ?_)⟩
  rw [e1, show (1 : Int) + k1 = ((k1 + 1 : Nat) : Int) from by exact oq122]
  have hn1 : 1 ≤ k1 + 1 := by exact qp0 qc1 qk1 qs0 qt 
  have hn2 : k1 + 1 ≤ 5 := by exact oq127 l1
  generalize k1 + 1 = n at hn1 hn2 ⊢
  refine A_list0 (A_set (g := []) rfl ⟨mulOk_r _ (by decide), by decide, by decide, trivial⟩ ?_)
  refine AB_in (L := eaL c (.ref k) sv n h.length _) (by repeat (first | exact trivial | refine ⟨rfl, ?_⟩)) (ends_A (g := h) (List.prefix_append _ _) (Nat.le_refl _) (get_last _ _) (by exact qp1 qc1 qv0 (qN 100) qv0 (qN 5) qt hn2) fun bits H2 es p2 hL hel hen => ?_)
  -- the moves
  have fin : ∀ {L : Env} {H3 : Tw.H} {l : Nat} {es : List Nat} {Q' : Out → Rho → Tw.H → Prop}, h <+: H3 → H3[l]? = some (.list (es.map natV)) → es.length ≤ 10 → (∀ e ∈ es, e < n) → AllIn [(0, .int c), (1, .ref k), (2, sv), (3, .int n), (4, .ref l)] L → (∀ ρ v h' M, h <+: h' → IsMa h' v M → M.ok → M.n ≤ 5 → M.moves.length ≤ 14 → (∀ m ∈ M.moves, m.over cs) → Q' (.ret v) ρ h') → AB (Calls Φ d) L H3 (L05.fn__law_machine.body.drop 5) Q' := by
    intro L H3 l es Q' p3 hl hel hen hin q
    refine AB_in hin (A_list0 ?_)
    obtain ⟨sn, a, b, e, rfl, rfl, hsg⟩ := hS.pre p3
    refine A_for mC (goes_seq k (ys.map V.int)) (fun _ : Unit => mvL c (.ref sn) n l H3.length) (fun i _ H' => ∃ ms : List Mv, H' = H3 ++ [.list (ms.map Mv.v)] ∧ ms.length = i ∧ ∀ m ∈ ms, okMv n m ∧ m.over [a, b, e]) () (by repeat (first | exact trivial | refine ⟨rfl, ?_⟩)) (A_ev (g := []) rfl trivial ⟨it_list (get_app (pre_get p3 hk)), [], rfl, rfl, fun m hm => nomatch hm⟩) ?_ ?_ ?_
    · rintro i _ H' ⟨ms, rfl, _⟩; exact get_app (pre_get p3 hk)
    · rintro i v _ H' hv ⟨ms, rfl, hml, hmo⟩
      obtain ⟨y, hy, rfl, hil⟩ := map_at hv
      refine A_set (g := []) rfl ⟨mulOk_r _ (by decide), by decide, trivial⟩ ?_
      generalize (y * 48271).fmod 2147483647 = x
      obtain ⟨k1, e1, l1⟩ := fmod_nat x (b := 4) (by decide)
      obtain ⟨k2, e2, l2⟩ := fmod_nat (x.fdiv 4) (b := 4) (by decide)
      obtain ⟨k3, e3, l3⟩ := fmod_nat (x.fdiv 16) (b := n) (by exact oq128 hn1)
      obtain ⟨k4, e4, l4⟩ := fmod_nat ((x.fdiv 16).fdiv n) (b := n) (by exact oq128 hn1)
      obtain ⟨s1, g1, z1, y1⟩ := four3 (a := a) (b := b) (e := e) l1
      obtain ⟨s2, g2, z2, y2⟩ := four3 (a := a) (b := b) (e := e) l2
      refine A_set (g := [.str s1]) rfl ⟨by decide, by rw [e1]; exact rd_list (get_app hsg) (by omega) g1, trivial⟩ ?_
      refine A_set (g := [.str s2]) rfl ⟨by decide, by decide, by rw [e2]; exact rd_list (get_app hsg) (by omega) g2, trivial⟩ ?_
      refine A_app rfl (get_last _ _) (by rw [List.length_map]; exact qp4 qc4 qs0 qv1 qv2 (qN 14) (qN 16777216) qv1 qv0 qv3 qs3 qv2 qt hyl (qi hz) (qe hml) hil) (g := []) rfl ⟨by decide, by exact oq129 hn1, by decide, by omega, by exact oq129 hn1, trivial⟩ (A_nil fun ρ ag => ⟨(), AllIn.ag ag (by repeat (first | exact trivial | refine ⟨rfl, ?_⟩)), ms ++ [⟨k3, s1, s2, k4⟩], ?_, by rw [List.length_append, hml]; rfl, fun m hm => ?_⟩)
      · rw [set_last, e3, e4, List.map_append]; rfl
      · rcases List.mem_append.mp hm with hm | hm
        · exact hmo m hm
        · rw [List.mem_singleton.mp hm]
          exact ⟨⟨by show k3 < n; exact oq125 l3, by show k4 < n; exact oq125 l4, z1, z2⟩, y1, y2⟩
    · rintro _ H' ⟨ms, rfl, hml, hmo⟩
      rw [List.length_map] at hml
      obtain ⟨k2, e2, l2⟩ := fmod_nat (c.fdiv 5) (b := n) (by exact oq128 hn1)
      refine A_ret (g := []) rfl ⟨by decide, by exact oq129 hn1, trivial⟩ fun ρ => ?_
      rw [e2]
      exact q ρ _ _ ⟨n, k2, es, ms⟩ (p3.trans (List.prefix_append _ _)) ⟨l, H3.length, rfl, get_app hl, get_last _ _⟩ ⟨hn1, by show n ≤ 100; exact qp1 qc1 qv0 (qN 100) qv0 (qN 5) qt hn2, by show k2 < n; exact oq125 l2, by show ms.length ≤ 1000; exact qp2 qc2 qv0 (qN 1000) qv1 (qN 14) qv0 qv1 qt hyl (qe hml), by show es.length ≤ 1000; exact qp1 qc1 qv0 (qN 1000) qv0 (qN 10) qt hel, hen, fun m hm => (hmo m hm).1⟩ hn2 (by show ms.length ≤ 14; exact qp2 qc2 qv0 (qN 14) qv1 (qN 14) qv0 qv1 qt hyl (qe hml)) fun m hm => (hmo m hm).2
  refine A_if (g := []) rfl ⟨by decide, trivial⟩ (fun _ => A_name mC (A_bin mC (A_ev (g := []) rfl trivial (A_sliceE mC (A_ev (g := []) rfl trivial ⟨es.map natV, 0, 1, .inl hL, rfl, rfl, ?_⟩))))) fun _ => A_then (fin (l := h.length) (es := es) p2 hL (by exact qp2 qc2 qv0 (qN 10) qv1 (qN 5) qv0 qv1 qt hn2 hel) hen (by repeat (first | exact trivial | refine ⟨rfl, ?_⟩)) fun ρ v h' M p x1 x2 x3 x4 x5 => q v h' M p x1 x2 x3 x4 x5)
  show BinW .add _ _ _ _
  rw [x_addl (get_app hL) (get_last _ _)]
  rw [List.drop_zero, ← List.map_take, ← List.map_append]
  have hl : (es ++ es.take 1).length ≤ 10 := by rw [List.length_append, List.length_take]; exact oq130 hn2 hel
  refine ⟨by rw [List.length_map, List.length_map, ← List.length_append]; exact qp2 qc2 qv0 qv1 (qN 16777216) qv1 qv0 (qN 10) qt (qi hz) hl, A_then (fin (es := es ++ es.take 1) ?_ (get_last _ _) hl (fun e he => ?_) (by repeat (first | exact trivial | refine ⟨rfl, ?_⟩)) fun ρ v h' M p x1 x2 x3 x4 x5 => q v h' M p x1 x2 x3 x4 x5)⟩
  · rw [List.append_assoc]; exact p2.trans (List.prefix_append _ _)
  · rcases List.mem_append.mp he with he | he
    · exact hen e he
    · exact hen e (List.mem_of_mem_take he)
end
end Tw
end

section
namespace Tw
noncomputable def Mv.d (m : Mv) : D := .tup [.int m.s, .str m.t, .str m.g, .int m.q]
theorem snapM {h : H} (m : Mv) : Snap h m.v m.d := .tup (.cons (.int _) (.cons (.str _) (.cons (.str _) (.cons (.int _) .nil))))
/-- do two moves meet -/
noncomputable def meets (a o : Mv) : Bool := decide (o.s = a.s ∧ (o.t = a.t ∨ o.t = [] ∨ a.t = []))
theorem meets_not {a o : Mv} (h : ¬ meets a o = true) : Apart o a := fun x => h (decide_eq_true x)
section
variable {Φ : Nat → Option Fn} {d : Nat} {h : H} {Q : V → H → Prop}
noncomputable def cMeet : E := .and (.cmp .eq (.sub (.var 4) (.lit (.int 0))) (.sub (.var 2) (.lit (.int 0)))) (.or (.cmp .eq (.sub (.var 4) (.lit (.int 1))) (.sub (.var 2) (.lit (.int 1)))) (.cmp .isIn (.lit (.str [])) (.list [(.sub (.var 4) (.lit (.int 1))), (.sub (.var 2) (.lit (.int 1)))])))
theorem meet_T {C : Ora} {ρ : Rho} {a o : Mv} {P : Bool → H → Prop} (r4 : ρ 4 = some o.v) (r2 : ρ 2 = some a.v) (q : ∀ h', h <+: h' → P (meets a o) h') : wpT C cMeet ρ h P := by
  unfold cMeet
  rw [t_and, t_cmp, e_sub, e_vk, r4, vk_some, e_lit, Mv.v, x_st0, e_sub, e_vk, r2, vk_some, e_lit, Mv.v, x_st0, x_eqi]
  by_cases h1 : o.s = a.s
  · rw [decide_eq_true (show (o.s : Int) = a.s by rw [h1])]
    show wpT _ _ _ _ _
    rw [t_or, t_cmp, e_sub, e_vk, r4, vk_some, e_lit, Mv.v, x_st1, e_sub, e_vk, r2, vk_some, e_lit, Mv.v, x_st1, x_eqs]
    by_cases h2 : o.t = a.t
    · rw [decide_eq_true h2]
      have := q h (List.prefix_refl _)
      rwa [show meets a o = true from decide_eq_true ⟨h1, .inl h2⟩] at this
    · rw [decide_eq_false h2]
      show wpT _ _ _ _ _
      rw [t_cmp, e_lit, e_list, es_cons, e_sub, e_vk, r4, vk_some, e_lit, Mv.v, x_st1, es_cons, e_sub, e_vk, r2, vk_some, e_lit, Mv.v, x_st1, es_nil]
      refine cm_inS (l := [o.t, a.t]) (get_last _ _) _ ?_
      have := q _ (List.prefix_append h [.list [.str o.t, .str a.t]])
      rwa [show meets a o = decide (([] : List Nat) ∈ [o.t, a.t]) from decide_eq_decide.mpr (by rw [List.mem_cons, List.mem_singleton]; exact ⟨fun x => x.2.elim (fun h => absurd h h2) fun h => h.imp Eq.symm Eq.symm, fun x => ⟨h1, .inr (x.imp Eq.symm Eq.symm)⟩⟩)] at this
  · rw [decide_eq_false (fun e => h1 (by exact False.elim (oq131 h1 e)))]
    have := q h (List.prefix_refl _)
    rwa [show meets a o = false from decide_eq_false fun x => h1 x.1] at this
noncomputable def plL (v : V) (l : Nat) : Env := [(0, v), (1, .ref l)]
theorem plain5_ok {v : V} {M : Ma} (h46 : Φ 46 = some L05.fn__law_plain) (hM : IsMa h v M) (ok : M.ok) (hl : M.moves.length ≤ 100)
    (q : ∀ (v' : V) (h' : H) (ms : List Mv), h <+: h' → IsMa h' v' ⟨M.n, M.b, M.ends, ms⟩ → ms.Pairwise Apart → (∀ m ∈ ms, m ∈ M.moves) → ms.length ≤ M.moves.length → Q v' h') : Calls Φ (d + 1) 46 [v] h Q := by
  obtain ⟨e, m, rfl, he, hmv⟩ := hM
  have mC := calls_mono (Φ := Φ) d
  have hz := SZ_val
  refine ⟨L05.fn__law_plain, h46, rfl, A_fn (A_list0 ?_)⟩
  refine A_for mC (goes_seq m (M.moves.map Mv.v)) (fun _ : Unit => plL (.tup [.int M.n, .int M.b, .ref e, .ref m]) h.length) (fun i _ H => ∃ ms : List Mv, h <+: H ∧ H[h.length]? = some (.list (ms.map Mv.v)) ∧ ms.Pairwise Apart ∧ (∀ x ∈ ms, x ∈ M.moves) ∧ ms.length ≤ i) () (by repeat (first | exact trivial | refine ⟨rfl, ?_⟩)) (A_ev (g := []) rfl trivial ⟨it_list (get_app hmv), [], List.prefix_append _ _, get_last _ _, .nil, (fun x hx => nomatch hx), Nat.le_refl _⟩) ?_ ?_ ?_
  · rintro i _ H ⟨ms, hp, _⟩; exact pre_get hp hmv
  · rintro i v _ H hv ⟨ms, hp, hL, hap, hsub, hml⟩
    obtain ⟨a, ha, rfl, hil⟩ := map_at hv
    refine A_ifW mC fun ρ ag => ?_
    rw [t_cmp]
    refine E_comp_seq mC (n := h.length) (vs := ms.map Mv.v) (fun i out H' => H <+: H' ∧ out = ((ms.take i).filter (meets a)).map Mv.v) (by rw [e_vk, ag 1 _ rfl]; exact ⟨rfl, List.prefix_refl _, rfl⟩) (fun i out H' x => pre_get x.1 hL) ?_ ?_
    · rintro j v out H' hv ⟨hp', rfl⟩
      obtain ⟨o, ho, rfl, hjl⟩ := map_at hv
      have et : (ms.take (j + 1)).filter (meets a) = (ms.take j).filter (meets a) ++ if meets a o = true then [o] else [] := by
        rw [List.take_add_one, ho, List.filter_append]
        show _ ++ [o].filter (meets a) = _
        rw [List.filter_cons]; rfl
      have lf : ((ms.take j).filter (meets a)).length < SZ := by
        have := List.length_filter_le (meets a) (ms.take j)
        rw [List.length_take] at this
        exact oq132 hl hz hml hil this
      show wpT _ _ _ _ _
      refine meet_T (a := a) (o := o) upd_eq (by rw [upd_ne (by decide)]; exact ag 2 _ rfl) fun H'' hp'' => ?_
      rw [et]
      cases hm : meets a o with
      | true =>
        show wpE _ _ _ _ _
        rw [e_vk, upd_eq, vk_some]
        refine ⟨by rw [List.length_map]; exact lf, hp'.trans hp'', ?_⟩
        rw [if_pos rfl, List.map_append]; rfl
      | false =>
        refine ⟨hp'.trans hp'', ?_⟩
        rw [if_neg Bool.false_ne_true, List.append_nil]
    · rintro out H' ⟨hp', rfl⟩
      rw [List.length_map, List.take_length, e_list, es_nil]
      refine x_eqN snapM (fun _ => rfl) (get_app (get_last _ _)) (get_last _ _) ?_
      have hp2 : H <+: H' ++ [MO.list ((ms.filter (meets a)).map Mv.v)] ++ [MO.list []] := hp'.trans (by rw [List.append_assoc]; exact List.prefix_append _ _)
      generalize H' ++ [MO.list ((ms.filter (meets a)).map Mv.v)] ++ [MO.list []] = H2 at hp2
      have hL2 := pre_get hp2 hL
      by_cases hn : ms.filter (meets a) = []
      · rw [decide_eq_true hn]
        refine A_app rfl hL2 (by rw [List.length_map]; exact qp4 qc4 qs0 qv1 qv2 (qN 100) (qN 16777216) qv1 qv0 qv3 qs3 qv2 qt hl (qi hz) hml hil) (g := []) rfl trivial (A_then (A_next () (by repeat (first | exact trivial | refine ⟨rfl, ?_⟩)) ⟨ms ++ [a], pre_set (hp.trans hp2) (Nat.le_refl _) _, ?_, ?_, fun x hx => ?_, by rw [List.length_append]; exact Nat.succ_le_succ hml⟩))
        · rw [List.getElem?_set_self (get_lt hL2), List.map_append]; rfl
        · refine List.pairwise_append.mpr ⟨hap, List.pairwise_singleton .., fun x hx y hy => ?_⟩
          rw [List.mem_singleton.mp hy]
          exact meets_not (List.filter_eq_nil_iff.mp hn x hx)
        · rcases List.mem_append.mp hx with hx | hx
          · exact hsub x hx
          · rw [List.mem_singleton.mp hx]; exact List.mem_of_getElem? ha
      · rw [decide_eq_false hn]
        exact A_then (A_next () (by repeat (first | exact trivial | refine ⟨rfl, ?_⟩)) ⟨ms, hp.trans hp2, hL2, hap, hsub, Nat.le_succ_of_le hml⟩)
  · rintro _ H ⟨ms, hp, hL, hap, hsub, hml⟩
    rw [List.length_map] at hml
    exact A_ret (g := []) rfl trivial fun ρ => q _ _ ms hp ⟨e, h.length, rfl, pre_get hp he, hL⟩ hap hsub hml
/-- the moves that read a sign -/
noncomputable def reads1 (m : Mv) : Bool := decide (m.t ≠ [])
theorem sub_ok {M : Ma} (ok : M.ok) {ms : List Mv} (hs : ∀ m ∈ ms, m ∈ M.moves) (hl : ms.length ≤ M.moves.length) : (⟨M.n, M.b, M.ends, ms⟩ : Ma).ok :=
  ⟨ok.n1, ok.n2, ok.b1, Nat.le_trans hl ok.l1, ok.l2, ok.e1, fun m hm => ok.m1 m (hs m hm)⟩
theorem reads_E {C : Ora} (mC : MonoC C) {L : Env} {v : V} {M : Ma} (hM : IsMa h v M) (ok : M.ok) (l2 : lk L 2 = some v) (q : Q (.ref h.length) (h ++ [.list ((M.moves.filter reads1).map Mv.v)])) :
    AE C L h (.comp (.var 22) (.name 22) (.sub (.var 2) (.lit (.int 3))) (some (.cmp .ne (.sub (.var 22) (.lit (.int 1))) (.lit (.str []))))) Q := by
  obtain ⟨e, m, rfl, he, hmv⟩ := hM
  have hz := SZ_val
  have hl1 := ok.l1
  have : AE C [(2, .tup [.int M.n, .int M.b, .ref e, .ref m])] h (.comp (.var 22) (.name 22) (.sub (.var 2) (.lit (.int 3))) (some (.cmp .ne (.sub (.var 22) (.lit (.int 1))) (.lit (.str []))))) Q := by
    refine A_compIf mC (goes_seq m (M.moves.map Mv.v)) (l := M.moves) (f := Mv.v) (ga := fun x => if x.t ≠ [] then some x.v else none) (g := []) rfl trivial (it_list hmv) hmv (by exact qp2 qc2 qv0 qv1 (qN 16777216) qv1 qv0 (qN 1000) qt (qi hz) hl1) (fun x hx => ?_) (by rw [fm_filter]; exact q)
    refine ⟨[], _, _, _, rfl, trivial, isS_if (Bool.eq_iff_iff.mpr (by simp)), fun w hw => ?_⟩
    obtain ⟨_, rfl⟩ := some_if hw
    exact ⟨[], _, _, rfl, trivial⟩
  refine fun ρ ag => this ρ fun i u hu => ?_
  have hu : (match Nat.beq i 2 with | true => some (V.tup [.int M.n, .int M.b, .ref e, .ref m]) | false => none) = some u := hu
  cases hb : Nat.beq i 2 with
  | true => rw [hb] at hu; rw [Nat.eq_of_beq_eq_true hb, ag 2 _ l2]; exact hu
  | false => rw [hb] at hu; cases hu
end
end Tw
end

section
namespace Tw
section
variable {Φ : Nat → Option Fn} {d : Nat} {h : H} {Q : V → H → Prop}
theorem A_biG {C : Ora} {L : Env} {b : Bi} {as : List E} (x : AEs C L h as fun vs h1 => BiW b vs h1 Q) : AE C L h (.bi b as) Q := fun ρ ag => by rw [e_bi]; exact x ρ ag
theorem cm_eqS {h : H} {n m : Nat} {l : List (List Nat)} (h1 : h[n]? = some (.list (l.map V.str))) (h2 : h[m]? = some (.list (l.map V.str))) : CmW h .eq (.ref n) (.ref m) true := fun P x => by
  have := cm_neS h1 h2 (fun b => P (!b)) x
  rw [x_ne] at this
  rw [x_eq]
  simpa using this
theorem pick_val {a b c k : Nat} (hk : k < 3) : ∃ p : Nat, ([V.int a, V.int b, V.int c] : List V)[k]? = some (.int p) ∧ ((k = 0 ∧ p = a) ∨ (k = 1 ∧ p = b) ∨ (k = 2 ∧ p = c)) := by
  have : k = 0 ∨ k = 1 ∨ k = 2 := by exact oq133 hk
  rcases this with rfl | rfl | rfl
  · exact ⟨a, rfl, .inl ⟨rfl, rfl⟩⟩
  · exact ⟨b, rfl, .inr (.inl ⟨rfl, rfl⟩)⟩
  · exact ⟨c, rfl, .inr (.inr ⟨rfl, rfl⟩)⟩
theorem pick_E {C : Ora} {L : Env} {a b c k p : Nat} (l4 : lk L 4 = some (.int k)) (hk : k < 3) (hp : ([V.int a, V.int b, V.int c] : List V)[k]? = some (.int p)) (q : ∀ h', h <+: h' → Q (.int p) h') : AE C L h (.sub (.list [(.lit (.int a)), (.lit (.int b)), (.lit (.int c))]) (.var 4)) Q := fun ρ ag => by
  rw [e_sub, e_list, es_cons, e_lit, es_cons, e_lit, es_cons, e_lit, es_nil, e_vk, ag 4 _ l4, vk_some]
  exact rd_list (get_last _ _) (by omega) hp _ (q _ (List.prefix_append _ _))
theorem cnt5 {n : Nat} (h : n ≤ 5) : cntUp 3 n ≤ 364 := by
  have : n = 0 ∨ n = 1 ∨ n = 2 ∨ n = 3 ∨ n = 4 ∨ n = 5 := by exact oq134 h
  rcases this with rfl | rfl | rfl | rfl | rfl | rfl <;> decide
/-- what is known of the machine and of the greatest length, by the kind -/
structure K5 (k : Nat) (M : Ma) (cs : List Nat) (most : Nat) : Prop where
  ok : M.ok
  n5 : M.n ≤ 5
  m14 : M.moves.length ≤ 14
  wr : ∀ m ∈ M.moves, ∀ c ∈ m.g, c ∈ cs
  m80 : most < 80
  k0 : k = 0 → most ≤ 2
  k1 : k = 1 → ∀ m ∈ M.moves, m.t ≠ []
  k2 : k = 2 → M.moves.Pairwise Apart
theorem K5.few {k : Nat} {M : Ma} {t cs : List Nat} {most : Nat} (x : K5 k M cs most) (c3 : cs.length = 3) (hk : k < 3) (ht : t.length ≤ 60) (h5 : k ≠ 2 → t.length ≤ 5) : Few M t most 100000 := by
  have go : ∀ {K : Nat}, Few M t most K → K ≤ 100000 → Few M t most 100000 := fun f hK T nd hT => Nat.le_trans (f T nd hT) hK
  have : k = 0 ∨ k = 1 ∨ k = 2 := by exact oq133 hk
  rcases this with rfl | rfl | rfl
  · refine go (few_box (n := 2) x.ok x.wr fun p y r => Nat.le_trans (run_pathW x.ok r).2.2.2.2 (x.k0 rfl)) ?_
    rw [c3]
    exact Nat.le_trans (Nat.mul_le_mul x.n5 (Nat.mul_le_mul (show t.length + 1 ≤ 6 from Nat.succ_le_succ (h5 (by decide))) (cnt5 (by decide)))) (by decide)
  · refine go (few_read x.ok x.wr (x.k1 rfl)) ?_
    rw [c3]
    exact Nat.le_trans (Nat.mul_le_mul x.n5 (Nat.mul_le_mul (show t.length + 1 ≤ 6 from Nat.succ_le_succ (h5 (by decide))) (cnt5 (h5 (by decide))))) (by decide)
  · exact go (few_plain x.ok (x.k2 rfl)) (Nat.le_trans (Nat.mul_le_mul x.n5 (Nat.mul_le_mul (show t.length + 1 ≤ 61 from Nat.succ_le_succ ht) (show most + 1 ≤ 80 from x.m80))) (by decide))
theorem sums_le {α : Type} (f : α → List Nat) (l : List α) (h : ∀ x ∈ l, (f x).length ≤ 1) : ((l.map f).map List.length).sum ≤ l.length := by
  induction l with
  | nil => exact Nat.le_refl _
  | cons x r ih =>
    have h1 := h x (List.mem_cons_self ..)
    have h2 := ih fun y hy => h y (List.mem_cons_of_mem _ hy)
    rw [List.map_cons, List.map_cons, List.sum_cons, List.length_cons]; exact qp2 qc3 (qA qv0 qv1) qs2 qv0 qk1 qv1 qv2 qt h1 h2
noncomputable def jnL (v : V) (r : Nat) : Env := [(2, v), (6, .ref r)]
theorem join5 {C : Ora} (mC : MonoC C) {vA : V} {M : Ma} {r : Nat} {p : List Nat} (hA : IsMa h vA M) (ok : M.ok) (hr : h[r]? = some (.list (p.map natV))) (hpk : ∀ k ∈ p, k < M.moves.length) (hpl : p.length ≤ 1000) (q : ∀ t H', h <+: H' → t.length ≤ p.length → Q (.str t) H') :
    AE C (jnL vA r) h (.meth .join (.lit (.str [])) [(.comp (.sub (.sub (.sub (.var 2) (.lit (.int 3))) (.var 22)) (.lit (.int 1))) (.name 22) (.var 6) none)]) Q := fun ρ ag => by
  have hz := SZ_val
  obtain ⟨e, m, rfl, he, hmv⟩ := hA
  have hl1 := ok.l1
  rw [e_meth, e_lit]
  refine ⟨trivial, ?_⟩
  rw [es_cons]
  refine A_comp mC (goes_seq r _) (l := p) (f := natV) (w := fun k => .str ((M.moves[k]?.map Mv.t).getD [])) (L := jnL (.tup [.int M.n, .int M.b, .ref e, .ref m]) r) (e := .var 6) (v := .ref r) (c := []) (g := []) rfl trivial (it_list hr) hr (by exact qp2 qc2 qv0 qv1 qv0 (qN 1000) (qN 16777216) qv1 qt hpl (qi hz)) (fun k hk => ?_) ?_ ρ ag
  · obtain ⟨mv, hmk⟩ : ∃ mv, M.moves[k]? = some mv := ⟨_, List.getElem?_eq_getElem (hpk k hk)⟩
    rw [hmk]
    exact ⟨[mv.v], _, _, rfl, rd_list hmv (by have := hpk k hk; omega) (by rw [List.getElem?_map, hmk]; rfl), trivial⟩
  · rw [es_nil, x_join (get_last _ _) (isStrs_map (fun k => (M.moves[k]?.map Mv.t).getD []) p)]
    have hsum := sums_le (fun k => (M.moves[k]?.map Mv.t).getD []) p fun k hk => by
      have hmk := List.getElem?_eq_getElem (hpk k hk)
      rw [hmk]; exact (ok.m1 _ (List.mem_of_getElem? hmk)).2.2.1
    refine ⟨by exact qp3 qc3 qv0 qv1 qv2 (qN 1000) (qN 16777216) qv1 qv0 qv2 qt hpl (qi hz) hsum, q _ _ (List.prefix_append _ _) ?_⟩
    rw [joinS_flat, List.length_flatten]; exact hsum

section
variable (h0 : Φ 0 = some fn_need) (h1 : Φ 1 = some fn_checked) (h2 : Φ 2 = some fn_leaving) (h3 : Φ 3 = some fn_gone_on) (h7 : Φ 7 = some fn_writings)
  (h24 : Φ 24 = some L05.fn_law) (h25 : Φ 25 = some fn__law_cell) (h26 : Φ 26 = some fn__law_signs) (h27 : Φ 27 = some L05.fn__law_machine) (h29 : Φ 29 = some L05.fn__law_text) (h32 : Φ 32 = some L05.fn__law_walk) (h39 : Φ 39 = some L05.fn__law_all) (h46 : Φ 46 = some L05.fn__law_plain)
include h0 h1 h2 h3 h7 h39 in
theorem last5 {v : V} {M : Ma} {t : List Nat} {most : Nat} (hM : IsMa h v M) (ok : M.ok) (ht : t.length ≤ 60) (hm : most < 80) (few : Few M t most 100000) : AB (Calls Φ (d + 5)) [(2, v), (3, .str t), (5, .int most)] h (L05.fn_law.body.drop 8) fun o _ _ => o.val = .bool true := by
  have mC := calls_mono (Φ := Φ) (d + 5)
  have hz := SZ_val
  refine A_call mC (g := []) rfl trivial (all5_ok h39 hM ok (by exact qp1 qc1 qs0 (qN 1000) qv0 (qN 60) qt ht) (by exact qp1 qc1 qs0 (qN 1000) qs0 (qN 80) qt hm) few (by decide) fun H1 r1 ws p1 hr1 hmem nd srt => ?_)
  refine A_call mC (g := []) rfl trivial (writings_ok h0 h1 h2 h3 h7 (hM.pre p1) ok (by exact qp2 qc2 qs0 qv1 qv0 (qN 60) (qN 16777216) qv1 qt ht (qi hz)) (by exact qp1 qc1 qs0 (qN 1000000) qs0 (qN 80) qt hm) few (by decide) fun H2 r2 l p2 hle hlen hr2 hmem2 nd2 srt2 => ?_)
  obtain rfl : l = ws := sorted_eq (fun x => by rw [hmem2, hmem]) nd2 nd srt2 srt
  have hr12 := pre_get p2 hr1
  have hr1l := get_lt hr1
  refine A_skip mC fun ρ ag => ?_
  rw [t_or, t_not, t_isinst, e_vk, ag 8 _ rfl, vk_some, x_is, hr2]
  show wpT _ _ _ _ _
  rw [t_or, t_cmp, e_vk, ag 8 _ rfl, vk_some, e_vk, ag 7 _ rfl, vk_some]
  refine cm_neS hr2 hr12 _ ?_
  show wpT _ _ _ _ _
  rw [t_cmp]
  refine A_compIf mC (goes_seq r2 (l.map V.str)) (l := l) (f := V.str) (ga := fun _ => none) (L := [(8, .ref r2)]) (e := .var 8) (v := .ref r2) (c := []) (g := []) rfl trivial (it_list hr2) hr2 (by exact qp2 qc2 qv0 qv1 (qN 16777216) qv1 qv0 (qN 100000) qt (qi hz) hlen) (fun x hx => ?_) ?_ ρ (AllIn.ag ag (by repeat (first | exact trivial | refine ⟨rfl, ?_⟩)))
  · exact ⟨[], _, _, _, rfl, trivial, rfl, fun w hw => nomatch hw⟩
  rw [show l.filterMap (fun _ => (none : Option V)) = [] from List.filterMap_eq_nil_iff.mpr fun _ _ => rfl, e_list, es_nil]
  refine x_neN (l := ([] : List (List Nat))) (nv := V.str) (nd := D.str) (fun _ => .str _) (fun _ => rfl) (get_app (get_last _ _)) (get_last _ _) ⟨rfl, ?_⟩
  have p3 : H2 <+: H2 ++ [MO.list []] ++ [MO.list []] := by rw [List.append_assoc]; exact List.prefix_append _ _
  have hr3 := pre_get p3 hr2
  have hr13 := pre_get p3 hr12
  have p13 := p2.trans p3
  clear ag ρ hr2 hr12 hmem2 p3
  generalize H2 ++ [MO.list []] ++ [MO.list []] = H3 at *
  refine A_app rfl hr3 (by rw [List.length_map]; exact qp2 qc2 qs0 qv1 (qN 16777216) qv1 qv0 (qN 100000) qt (qi hz) hlen) (g := []) rfl trivial ?_
  have p4 : H1 <+: H3.set r2 (.list (l.map V.str ++ [.str []])) := pre_set p13 hle _
  have hr14 : (H3.set r2 (.list (l.map V.str ++ [.str []])))[r1]? = some (.list (l.map V.str)) := pre_get p4 hr1
  generalize H3.set r2 (.list (l.map V.str ++ [.str []])) = H4 at p4 hr14
  refine A_retE mC fun ρ ag => ?_
  rw [e_cmp, e_call, es_cons, e_vk, ag 2 _ rfl, vk_some, es_cons, e_vk, ag 3 _ rfl, vk_some, es_cons, e_vk, ag 5 _ rfl, vk_some, es_nil]
  refine writings_ok h0 h1 h2 h3 h7 ((hM.pre p1).pre p4) ok (by exact qp2 qc2 qs0 qv1 qv0 (qN 60) (qN 16777216) qv1 qt ht (qi hz)) (by exact qp1 qc1 qs0 (qN 1000000) qs0 (qN 80) qt hm) few (by decide) fun H5 r5 l5 p5 hle5 hlen5 hr5 hmem5 nd5 srt5 => ?_
  obtain rfl : l5 = l := sorted_eq (fun x => by rw [hmem5, hmem]) nd5 nd srt5 srt
  rw [e_vk, ag 7 _ rfl, vk_some]
  exact cm_eqS hr5 (pre_get p5 hr14) _ fun ρ => rfl
include h0 h1 h2 h3 h7 h25 h32 h39 in
/-- behind the kinds -/
theorem walk5 {v : V} {M : Ma} {t cs : List Nat} {k most : Nat} {xs : List Int} (hx : h[0]? = some (.frz (xs.map V.int))) (hM : IsMa h v M) (x : K5 k M cs most) (c3 : cs.length = 3) (hk : k < 3) (ht : t.length < 5) :
    AB (Calls Φ (d + 5)) [(0, .ref 0), (2, v), (3, .str t), (4, .int k), (5, .int most)] h (L05.fn_law.body.drop 7) fun o _ _ => o.val = .bool true := by
  have mC := calls_mono (Φ := Φ) (d + 5)
  have hz := SZ_val
  refine A_ifW mC fun ρ ag => ?_
  rw [t_cmp, e_bin, e_call, es_cons, e_vk, ag 0 _ rfl, vk_some, es_cons, e_lit, es_nil]
  refine cell_ok (k := 3) h25 hx (by decide) ?_
  rw [e_lit, x_mod, e_lit, x_eqi]
  refine ⟨by decide, ?_⟩
  cases decide ((xs.getD 3 0).fmod 2 = 1) with
  | false => exact A_then (AB_in (by repeat (first | exact trivial | refine ⟨rfl, ?_⟩)) (last5 h0 h1 h2 h3 h7 h39 hM x.ok (by exact qp1 qc1 qv0 (qN 60) qs0 (qN 5) qt ht) x.m80 (x.few c3 hk (by exact qp1 qc1 qv0 (qN 60) qs0 (qN 5) qt ht) fun _ => by exact qp1 qc1 qv0 (qN 5) qs0 (qN 5) qt ht)))
  | true =>
    clear ag ρ
    obtain ⟨p, hp, hpk⟩ := pick_val (a := 6) (b := 6) (c := 61) hk
    have hp1 : 1 ≤ p ∧ p ≤ 61 := by exact oq135 hpk
    refine A_name mC (A_callG (As_cons mC (A_ev (g := []) rfl trivial (As_cons mC (A_callE (g := []) rfl trivial (cell_ok (k := 2) h25 hx (by decide) (As_cons mC (A_bin mC (A_bin mC (A_callE (g := []) rfl trivial (cell_ok (k := 3) h25 hx (by decide) (A_ev (g := []) rfl trivial ?_))))))))))))
    rw [x_fdiv]
    refine ⟨by decide, by decide, pick_E rfl hk hp fun H1 p1 => ?_⟩
    obtain ⟨k4, e4, l4⟩ := fmod_nat ((xs.getD 3 0).fdiv 6) (b := p) (by exact oq136 hp1)
    rw [x_mod, e4]
    refine ⟨by exact oq126 l4, As_nil (walk5_ok h32 (hM.pre p1) x.ok (by exact oq137 hp1 l4) fun H2 r pa p2 hr hpl hpa => ?_)⟩
    refine A_name mC fun ρ ag => join5 mC (p := pa) ((hM.pre p1).pre p2) x.ok hr hpa (by exact oq138 hp1 l4 hpl) (fun t' H3 p3 tl => A_then (AB_in (by repeat (first | exact trivial | refine ⟨rfl, ?_⟩)) (last5 h0 h1 h2 h3 h7 h39 (((hM.pre p1).pre p2).pre p3) x.ok (by exact oq139 hp1 l4 hpl tl) x.m80 (x.few c3 hk (by exact oq139 hp1 l4 hpl tl) fun hk2 => by exact oq140 hpk l4 hpl tl hk2)))) ρ (AllIn.ag ag (by repeat (first | exact trivial | refine ⟨rfl, ?_⟩)))
include h0 h1 h2 h3 h7 h25 h32 h39 h46 in
/-- the second kind -/
theorem kind2 {v : V} {M : Ma} {t cs : List Nat} {k most : Nat} {xs : List Int} (hx : h[0]? = some (.frz (xs.map V.int))) (hM : IsMa h v M) (c3 : cs.length = 3) (hk : k < 3) (ht : t.length < 5)
    (ok : M.ok) (n5 : M.n ≤ 5) (m14 : M.moves.length ≤ 14) (wr : ∀ m ∈ M.moves, ∀ c ∈ m.g, c ∈ cs) (m80 : most < 80) (k0 : k = 0 → most ≤ 2) (k1 : k = 1 → ∀ m ∈ M.moves, m.t ≠ []) :
    AB (Calls Φ (d + 5)) [(0, .ref 0), (2, v), (3, .str t), (4, .int k), (5, .int most)] h (L05.fn_law.body.drop 6) fun o _ _ => o.val = .bool true := by
  have mC := calls_mono (Φ := Φ) (d + 5)
  have hz := SZ_val
  refine A_if (g := []) rfl trivial (fun hc => ?_) fun hc => A_then (AB_in (by repeat (first | exact trivial | refine ⟨rfl, ?_⟩)) (walk5 h0 h1 h2 h3 h7 h25 h32 h39 hx hM ⟨ok, n5, m14, wr, m80, k0, k1, fun e => ?_⟩ c3 hk ht))
  · have hk2 : k = 2 := by have := of_decide_eq_true hc; exact oq141 this
    refine A_call mC (g := []) rfl trivial (plain5_ok h46 hM ok (by exact qp1 qc1 qv0 (qN 100) qv0 (qN 14) qt m14) fun v' H1 ms p1 hM' hap hsub hml => ?_)
    refine A_name mC (A_biG (As_cons mC (A_ev (g := []) rfl trivial (As_cons mC (A_bin mC (A_ev (g := []) rfl trivial (A_biG (As_cons mC (reads_E mC hM' (sub_ok ok hsub hml) rfl (As_nil ?_))))))))))
    rw [x_lenl (get_last _ _), x_muli, List.length_map]
    have lf : (ms.filter reads1).length ≤ 14 := Nat.le_trans (List.length_filter_le _ _) (Nat.le_trans hml m14)
    generalize (ms.filter reads1).length = n at lf
    refine ⟨mulOk_nat (a := 80) (by exact qp1 qc1 qs0 (qN 1000000) qv0 (qN 14) qt lf), As_nil ?_⟩
    rw [x_min, show min (most : Int) (80 * (n : Int)) = ((min most (80 * n) : Nat) : Int) by exact oq142]
    exact A_then (AB_in (by repeat (first | exact trivial | refine ⟨rfl, ?_⟩)) (walk5 h0 h1 h2 h3 h7 h25 h32 h39 (get_app (pre_get p1 hx)) (hM'.app _) ⟨sub_ok ok hsub hml, n5, Nat.le_trans hml m14, fun m hm => wr m (hsub m hm), by exact oq143 m80, fun e => by exact qf2 qc1 qk2 qv0 qv0 qk0 qt (qi hk2) (qe e), fun e => by exact qf2 qc1 qk2 qv0 qv0 qk1 qt (qi hk2) (qe e), fun _ => hap⟩ c3 hk ht))
  · exact absurd (by subst e; rfl) (of_decide_eq_false hc)
include h0 h1 h2 h3 h7 h24 h25 h26 h27 h29 h32 h39 h46 in
theorem law05 {xs : List Int} (hx : h[0]? = some (.frz (xs.map V.int))) (hxl : xs.length ≤ 63) : Calls Φ (d + 6) 24 [.ref 0] h fun v _ => v = .bool true := by
  have mC := calls_mono (Φ := Φ) (d + 5)
  have hz := SZ_val
  refine ⟨L05.fn_law, h24, rfl, A_fn (A_name mC (A_callG (As_cons mC (A_callE (g := []) rfl trivial (cell_ok (k := 0) h25 hx (by decide) (As_nil (signs_ok h26 fun a b e => ?_)))))))⟩
  have p1 : h <+: h ++ [MO.list [.str [], .str [a], .str [b], .str [e]]] := List.prefix_append _ _
  have hS : SgAt (h ++ [MO.list [.str [], .str [a], .str [b], .str [e]]]) (.ref h.length) [a, b, e] := ⟨_, a, b, e, rfl, rfl, get_last _ _⟩
  have c3 : [a, b, e].length = 3 := rfl
  generalize [a, b, e] = cs at hS c3
  generalize V.ref h.length = sv at hS ⊢
  generalize h ++ [MO.list [.str [], .str [a], .str [b], .str [e]]] = H1 at p1 hS ⊢
  have hx1 := pre_get p1 hx
  refine A_name mC (A_callG (As_cons mC (A_callE (g := []) rfl trivial (cell_ok (k := 1) h25 hx1 (by decide) (As_cons mC (A_sliceE mC (A_ev (g := []) rfl trivial ⟨xs.map V.int, 4, 12, .inr hx1, lo_nat (k := 4) (by decide), hi_nat (k := 12) (by decide), As_cons mC (A_ev (g := []) rfl trivial (As_nil ?_))⟩)))))))
  rw [← List.map_take, ← List.map_drop]
  refine mach5_ok (ys := (xs.take 12).drop 4) h27 (get_last _ _) (by rw [List.length_drop, List.length_take]; exact oq144) (hS.pre (List.prefix_append _ _)) fun v H2 M p2 hM ok n5 m14 ov => ?_
  have p2 := (List.prefix_append _ _).trans p2
  have hS := hS.pre p2
  have hx2 := pre_get p2 hx1
  refine A_name mC (A_callG (As_cons mC (A_callE (g := []) rfl trivial (cell_ok (k := 2) h25 hx2 (by decide) (As_cons mC (A_ev (g := []) rfl trivial (As_nil (text5_ok h29 hS.at fun t tl => ?_))))))))
  obtain ⟨k, ek, lk3⟩ := fmod_nat ((xs.getD 3 0).fdiv 2) (b := 3) (by decide)
  have hk : k < 3 := by exact oq145 lk3
  refine A_name mC (A_bin mC (A_bin mC (A_callE (g := []) rfl trivial (cell_ok (k := 3) h25 hx2 (by decide) (A_ev (g := []) rfl trivial ?_)))))
  rw [x_fdiv]
  refine ⟨by decide, by decide, A_ev (g := []) rfl trivial ?_⟩
  rw [x_mod, ek]
  refine ⟨by decide, ?_⟩
  obtain ⟨p, hp, hpk⟩ := pick_val (a := 3) (b := 9) (c := 80) hk
  have hp1 : 1 ≤ p ∧ p ≤ 80 := by exact oq146 hpk
  refine A_name mC (A_bin mC (A_bin mC (A_callE (g := []) rfl trivial (cell_ok (k := 3) h25 hx2 (by decide) (A_ev (g := []) rfl trivial ?_)))))
  rw [x_fdiv]
  refine ⟨by decide, by decide, pick_E rfl hk hp fun H3 p3 => ?_⟩
  obtain ⟨most, em, lm⟩ := fmod_nat ((xs.getD 3 0).fdiv 36) (b := p) (by exact oq147 hp1)
  rw [x_mod, em]
  refine ⟨by exact oq126 lm, ?_⟩
  have hM := hM.pre p3
  have hx3 := pre_get p3 hx2
  have wr : ∀ m ∈ M.moves, ∀ c ∈ m.g, c ∈ cs := fun m hm => (ov m hm).2
  have m80 : most < 80 := by exact oq148 hp1 lm
  have k0 : k = 0 → most ≤ 2 := fun e => by exact oq149 hpk lm e
  refine A_if (g := []) rfl trivial (fun hc => ?_) fun hc => A_then (AB_in (by repeat (first | exact trivial | refine ⟨rfl, ?_⟩)) (kind2 h0 h1 h2 h3 h7 h25 h32 h39 h46 hx3 hM c3 hk tl ok n5 m14 wr m80 k0 fun e => ?_))
  · have hk1 : k = 1 := by have := of_decide_eq_true hc; exact oq150 this
    obtain ⟨e, m, rfl, he, hmv⟩ := hM
    refine A_name mC (A_tupG (As_cons mC (A_ev (g := []) rfl trivial (As_cons mC (A_ev (g := []) rfl trivial (As_cons mC (A_ev (g := []) rfl trivial (As_cons mC (reads_E mC ⟨e, m, rfl, he, hmv⟩ ok rfl (As_nil (A_then ?_)))))))))))
    have hs : ∀ x ∈ M.moves.filter reads1, x ∈ M.moves := fun x hx => (List.mem_filter.mp hx).1
    have hl := List.length_filter_le reads1 M.moves
    refine AB_in (by repeat (first | exact trivial | refine ⟨rfl, ?_⟩)) (kind2 h0 h1 h2 h3 h7 h25 h32 h39 h46 (M := ⟨M.n, M.b, M.ends, M.moves.filter reads1⟩) (get_app hx3) ⟨e, H3.length, rfl, get_app he, get_last _ _⟩ c3 hk tl (sub_ok ok hs hl) n5 (Nat.le_trans hl m14) (fun x hx => wr x (hs x hx)) m80 (fun e => by exact qf2 qc1 qk1 qv0 qv0 qk0 qt (qi hk1) (qe e)) fun _ x hx => of_decide_eq_true (List.mem_filter.mp hx).2)
  · exact absurd (by subst e; rfl) (of_decide_eq_false hc)
end
end
end Tw
end

open PySem PySem.W PyProof.Rows
set_option Elab.async false
namespace Tw
noncomputable def Φ05 : Nat → Option Fn := tabFn [(0, fn_need), (1, fn_checked), (2, fn_leaving), (3, fn_gone_on), (7, fn_writings), (24, L05.fn_law), (25, fn__law_cell), (26, fn__law_signs), (27, L05.fn__law_machine), (29, L05.fn__law_text), (32, L05.fn__law_walk), (39, L05.fn__law_all), (46, L05.fn__law_plain)]
noncomputable def view05 : PySem.Program := { PySem.Challenge.pw_uf030022_05 with main := { PySem.Challenge.pw_uf030022_05.main with body := (PySem.Challenge.pw_uf030022_05.main.body.drop 1).take 2 ++ (PySem.Challenge.pw_uf030022_05.main.body.drop 4).take 5 ++ (PySem.Challenge.pw_uf030022_05.main.body.drop 10).take 2 ++ (PySem.Challenge.pw_uf030022_05.main.body.drop 13).take 8 } }
end Tw
theorem PySem.Challenge.cw_uf030022_05_holds : PySem.Challenge.rw_uf030022_05.Holds := by
  w_on
  refine holds_law (by decide +kernel) fun said => ?_
  refine holds_open (q := Tw.view05) (loose := []) (Xt := fun s => xlAt Tw.view05 [] s && recOk (RowW.records (OpenRow.toRowW _)) s) (XP := XL Tw.view05 []) (Yf := Hook.obs Hook.none) (Ya := Hook.val Hook.none) (YP := Hook.says Hook.none) (N := 1886) ?hl (Hook.of Hook.none) (Hook.keeps Hook.none) (fun s e => xl_of s (Bool.and_eq_true_iff.mp e).1) XL.keeps (by rfl) (by rfl) (by rfl) (fun s e => recFacts_of (Bool.and_eq_true_iff.mp e).2) (by rfl) (by first | assumption | decide +kernel) (by decide +kernel) ⟨rfl, rfl, rfl, rfl, rfl, by decide +kernel⟩ ?hw ?hc
  case hl => intro w; kernel_rfl
  (case hw => w_witness2)
  refine (Tw.law_holds (D := 6) (kl := 24) (Φ := Tw.Φ05) (names := Tw.fnNames) rfl rfl (by decide) ?_ ?_ ?_ ?_ (by decide) ?_ rfl ?_ (by decide) fun xs hxs => Tw.law05 rfl rfl rfl rfl rfl rfl rfl rfl rfl rfl rfl rfl rfl rfl hxs)
  · kernel_rfl
  · kernel_rfl
  · kernel_rfl
  · kernel_rfl
  · exact Tw.tab_all (Tw.all_cons (by kernel_rfl) (Tw.all_cons (by kernel_rfl) (Tw.all_cons (by kernel_rfl) (Tw.all_cons (by kernel_rfl) (Tw.all_cons (by kernel_rfl) (Tw.all_cons (by kernel_rfl) (Tw.all_cons (by kernel_rfl) (Tw.all_cons (by kernel_rfl) (Tw.all_cons (by kernel_rfl) (Tw.all_cons (by kernel_rfl) (Tw.all_cons (by kernel_rfl) (Tw.all_cons (by kernel_rfl) (Tw.all_cons (by kernel_rfl) (Tw.all_nil))))))))))))))
  · kernel_rfl

