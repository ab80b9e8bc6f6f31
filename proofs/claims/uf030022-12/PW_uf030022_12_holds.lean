import PyProof.Rows.All
import PyProof.Cells
import PyProof.CompFree
import PyProof.DictKinds
import PyProof.RangeIter
import PyProof.NeKinds
import PyProof.TupleKey
import PyProof.DictRoadsH
import PyProof.Rows.StrRules
import PyProof.Rows.TupSub
import PyProof.Rows.StrTemp
import PyProof.Rows.RuleB_mod
import PyProof.Rows.RuleB_floordiv
import PyProof.Rows.RuleB_mul
import PyProof.Rows.Lst
import PyProof.ListOps
import PyProof.TupleOps
import PyProof.ListMulRoad
import PyProof.ListIndexNeg
import PyProof.SliceMore
import PyProof.SliceStr2
import PyProof.PureInt
import PyProof.DictIter
import PyProof.RangeFor
import PyProof.TupleIter
import PyProof.IsiHeapPairs
import PyProof.IsiPairs
import PyProof.IsiNone
import PyProof.ListCopy
import PyProof.ListRange
import PyProof.Rows.StrJoin2
import PyProof.Rows.Range3
import PyProof.DictWalks
import PyProof.CollectWalk
import PyProof.Rows.SortShell
import PyProof.DictUpdate
import PyProof.ListNew
import PyProof.AttrMissHeap
import PyProof.Rows.SeqRoads
import PyProof.MeetsDictList
import PyProof.StrCalls
import PyProof.StrLaws
import KE.KSortAsk
import PyProof.Rows.SortShellK
import PyProof.Rows.SortStr
import KE.KSortTup
import PyProof.Rows.SortWalk
import PyProof.WalkInts
import PyProof.MeetsSeq
import PyProof.Conv_int_bool
import PyProof.MakeMany
import PyProof.DictDisplay
import PyProof.Methods
import PyProof.CallRoads
import PyProof.Rows.OwnQ
import PyProof.StationsW
import PyProof.RulesDelMore
import PyProof.RulesAssignMore
import PyProof.RulesMatch
import PyProof.WalksMore
import PyProof.Raises
import PyProof.CompUse
import PyProof.ForAny
import PyProof.Rows.PlainStore
import PyProof.ExcBaseAll.ValueError
import PyProof.Rows.CatchBare
import PyProof.ExcAttrAll.ValueError
import PyProof.IsiBase
import PyProof.IsInstance
import PyProof.NsDelKeeps
import Wide.All
import Open.Line
import PySem.Challenge.RW_uf030022_12
set_option Elab.async false
set_option autoImplicit false
set_option maxRecDepth 100000
set_option maxHeartbeats 8000000
set_option linter.all false
set_option genSizeOf false
set_option tactic.hygienic false
set_option genInjectivity false
set_option genCtorIdx false
section
namespace Tw
theorem kH  {P0 P1 P2:Prop}{G:Prop}(h:P0∧P1∧P2)(k:P0→P1→P2→G):G:=k h.1 h.2.1 h.2.2
theorem Z03  {P0 P1 P2 P3:Prop}{G:Prop}(h:P0∧P1∧P2∧P3)(k:P0→P1→P2→P3→G):G:=k h.1 h.2.1 h.2.2.1 h.2.2.2
theorem Z04  {P0 P1 P2 P3 P4:Prop}{G:Prop}(h:P0∧P1∧P2∧P3∧P4)(k:P0→P1→P2→P3→P4→G):G:=k h.1 h.2.1 h.2.2.1 h.2.2.2.1 h.2.2.2.2
theorem Z10 {A0:Sort _}{P0:A0→Prop}{G:Prop}(h:∃ x0,P0 x0)(k:∀ x0,P0 x0→G):G:=h.elim fun x0 h0=>k x0 h0
theorem Z13 {A0:Sort _}{P0 P1 P2 P3:A0→Prop}{G:Prop}(h:∃ x0,P0 x0∧P1 x0∧P2 x0∧P3 x0)(k:∀ x0,P0 x0→P1 x0→P2 x0→P3 x0→G):G:=h.elim fun x0 h0=>k x0 h0.1 h0.2.1 h0.2.2.1 h0.2.2.2
theorem Z14 {A0:Sort _}{P0 P1 P2 P3 P4:A0→Prop}{G:Prop}(h:∃ x0,P0 x0∧P1 x0∧P2 x0∧P3 x0∧P4 x0)(k:∀ x0,P0 x0→P1 x0→P2 x0→P3 x0→P4 x0→G):G:=h.elim fun x0 h0=>k x0 h0.1 h0.2.1 h0.2.2.1 h0.2.2.2.1 h0.2.2.2.2
theorem WH {A0:Sort _}{A1:Sort _}{P0:A0→A1→Prop}{G:Prop}(h:∃ x0 x1,P0 x0 x1)(k:∀ x0 x1,P0 x0 x1→G):G:=h.elim fun x0 h0=>h0.elim fun x1 h1=>k x0 x1 h1
theorem Z25 {A0:Sort _}{A1:Sort _}{P0 P1 P2 P3 P4 P5:A0→A1→Prop}{G:Prop}(h:∃ x0 x1,P0 x0 x1∧P1 x0 x1∧P2 x0 x1∧P3 x0 x1∧P4 x0 x1∧P5 x0 x1)(k:∀ x0 x1,P0 x0 x1→P1 x0 x1→P2 x0 x1→P3 x0 x1→P4 x0 x1→P5 x0 x1→G):G:=h.elim fun x0 h0=>h0.elim fun x1 h1=>k x0 x1 h1.1 h1.2.1 h1.2.2.1 h1.2.2.2.1 h1.2.2.2.2.1 h1.2.2.2.2.2
theorem Z27 {A0:Sort _}{A1:Sort _}{P0 P1 P2 P3 P4 P5 P6 P7:A0→A1→Prop}{G:Prop}(h:∃ x0 x1,P0 x0 x1∧P1 x0 x1∧P2 x0 x1∧P3 x0 x1∧P4 x0 x1∧P5 x0 x1∧P6 x0 x1∧P7 x0 x1)(k:∀ x0 x1,P0 x0 x1→P1 x0 x1→P2 x0 x1→P3 x0 x1→P4 x0 x1→P5 x0 x1→P6 x0 x1→P7 x0 x1→G):G:=h.elim fun x0 h0=>h0.elim fun x1 h1=>k x0 x1 h1.1 h1.2.1 h1.2.2.1 h1.2.2.2.1 h1.2.2.2.2.1 h1.2.2.2.2.2.1 h1.2.2.2.2.2.2.1 h1.2.2.2.2.2.2.2
theorem Z30 {A0:Sort _}{A1:Sort _}{A2:Sort _}{P0:A0→A1→A2→Prop}{G:Prop}(h:∃ x0 x1 x2,P0 x0 x1 x2)(k:∀ x0 x1 x2,P0 x0 x1 x2→G):G:=h.elim fun x0 h0=>h0.elim fun x1 h1=>h1.elim fun x2 h2=>k x0 x1 x2 h2
theorem Z32 {A0:Sort _}{A1:Sort _}{A2:Sort _}{P0 P1 P2:A0→A1→A2→Prop}{G:Prop}(h:∃ x0 x1 x2,P0 x0 x1 x2∧P1 x0 x1 x2∧P2 x0 x1 x2)(k:∀ x0 x1 x2,P0 x0 x1 x2→P1 x0 x1 x2→P2 x0 x1 x2→G):G:=h.elim fun x0 h0=>h0.elim fun x1 h1=>h1.elim fun x2 h2=>k x0 x1 x2 h2.1 h2.2.1 h2.2.2
theorem Z33 {A0:Sort _}{A1:Sort _}{A2:Sort _}{P0 P1 P2 P3:A0→A1→A2→Prop}{G:Prop}(h:∃ x0 x1 x2,P0 x0 x1 x2∧P1 x0 x1 x2∧P2 x0 x1 x2∧P3 x0 x1 x2)(k:∀ x0 x1 x2,P0 x0 x1 x2→P1 x0 x1 x2→P2 x0 x1 x2→P3 x0 x1 x2→G):G:=h.elim fun x0 h0=>h0.elim fun x1 h1=>h1.elim fun x2 h2=>k x0 x1 x2 h2.1 h2.2.1 h2.2.2.1 h2.2.2.2
theorem WD {A0:Sort _}{A1:Sort _}{A2:Sort _}{A3:Sort _}{P0 P1:A0→A1→A2→A3→Prop}{G:Prop}(h:∃ x0 x1 x2 x3,P0 x0 x1 x2 x3∧P1 x0 x1 x2 x3)(k:∀ x0 x1 x2 x3,P0 x0 x1 x2 x3→P1 x0 x1 x2 x3→G):G:=h.elim fun x0 h0=>h0.elim fun x1 h1=>h1.elim fun x2 h2=>h2.elim fun x3 h3=>k x0 x1 x2 x3 h3.1 h3.2
theorem Z42 {A0:Sort _}{A1:Sort _}{A2:Sort _}{A3:Sort _}{P0 P1 P2:A0→A1→A2→A3→Prop}{G:Prop}(h:∃ x0 x1 x2 x3,P0 x0 x1 x2 x3∧P1 x0 x1 x2 x3∧P2 x0 x1 x2 x3)(k:∀ x0 x1 x2 x3,P0 x0 x1 x2 x3→P1 x0 x1 x2 x3→P2 x0 x1 x2 x3→G):G:=h.elim fun x0 h0=>h0.elim fun x1 h1=>h1.elim fun x2 h2=>h2.elim fun x3 h3=>k x0 x1 x2 x3 h3.1 h3.2.1 h3.2.2
theorem Z43 {A0:Sort _}{A1:Sort _}{A2:Sort _}{A3:Sort _}{P0 P1 P2 P3:A0→A1→A2→A3→Prop}{G:Prop}(h:∃ x0 x1 x2 x3,P0 x0 x1 x2 x3∧P1 x0 x1 x2 x3∧P2 x0 x1 x2 x3∧P3 x0 x1 x2 x3)(k:∀ x0 x1 x2 x3,P0 x0 x1 x2 x3→P1 x0 x1 x2 x3→P2 x0 x1 x2 x3→P3 x0 x1 x2 x3→G):G:=h.elim fun x0 h0=>h0.elim fun x1 h1=>h1.elim fun x2 h2=>h2.elim fun x3 h3=>k x0 x1 x2 x3 h3.1 h3.2.1 h3.2.2.1 h3.2.2.2
theorem Z44 {A0:Sort _}{A1:Sort _}{A2:Sort _}{A3:Sort _}{P0 P1 P2 P3 P4:A0→A1→A2→A3→Prop}{G:Prop}(h:∃ x0 x1 x2 x3,P0 x0 x1 x2 x3∧P1 x0 x1 x2 x3∧P2 x0 x1 x2 x3∧P3 x0 x1 x2 x3∧P4 x0 x1 x2 x3)(k:∀ x0 x1 x2 x3,P0 x0 x1 x2 x3→P1 x0 x1 x2 x3→P2 x0 x1 x2 x3→P3 x0 x1 x2 x3→P4 x0 x1 x2 x3→G):G:=h.elim fun x0 h0=>h0.elim fun x1 h1=>h1.elim fun x2 h2=>h2.elim fun x3 h3=>k x0 x1 x2 x3 h3.1 h3.2.1 h3.2.2.1 h3.2.2.2.1 h3.2.2.2.2
theorem Z45 {A0:Sort _}{A1:Sort _}{A2:Sort _}{A3:Sort _}{P0 P1 P2 P3 P4 P5:A0→A1→A2→A3→Prop}{G:Prop}(h:∃ x0 x1 x2 x3,P0 x0 x1 x2 x3∧P1 x0 x1 x2 x3∧P2 x0 x1 x2 x3∧P3 x0 x1 x2 x3∧P4 x0 x1 x2 x3∧P5 x0 x1 x2 x3)(k:∀ x0 x1 x2 x3,P0 x0 x1 x2 x3→P1 x0 x1 x2 x3→P2 x0 x1 x2 x3→P3 x0 x1 x2 x3→P4 x0 x1 x2 x3→P5 x0 x1 x2 x3→G):G:=h.elim fun x0 h0=>h0.elim fun x1 h1=>h1.elim fun x2 h2=>h2.elim fun x3 h3=>k x0 x1 x2 x3 h3.1 h3.2.1 h3.2.2.1 h3.2.2.2.1 h3.2.2.2.2.1 h3.2.2.2.2.2
theorem Z51 {A0:Sort _}{A1:Sort _}{A2:Sort _}{A3:Sort _}{A4:Sort _}{P0 P1:A0→A1→A2→A3→A4→Prop}{G:Prop}(h:∃ x0 x1 x2 x3 x4,P0 x0 x1 x2 x3 x4∧P1 x0 x1 x2 x3 x4)(k:∀ x0 x1 x2 x3 x4,P0 x0 x1 x2 x3 x4→P1 x0 x1 x2 x3 x4→G):G:=h.elim fun x0 h0=>h0.elim fun x1 h1=>h1.elim fun x2 h2=>h2.elim fun x3 h3=>h3.elim fun x4 h4=>k x0 x1 x2 x3 x4 h4.1 h4.2
theorem Z52 {A0:Sort _}{A1:Sort _}{A2:Sort _}{A3:Sort _}{A4:Sort _}{P0 P1 P2:A0→A1→A2→A3→A4→Prop}{G:Prop}(h:∃ x0 x1 x2 x3 x4,P0 x0 x1 x2 x3 x4∧P1 x0 x1 x2 x3 x4∧P2 x0 x1 x2 x3 x4)(k:∀ x0 x1 x2 x3 x4,P0 x0 x1 x2 x3 x4→P1 x0 x1 x2 x3 x4→P2 x0 x1 x2 x3 x4→G):G:=h.elim fun x0 h0=>h0.elim fun x1 h1=>h1.elim fun x2 h2=>h2.elim fun x3 h3=>h3.elim fun x4 h4=>k x0 x1 x2 x3 x4 h4.1 h4.2.1 h4.2.2
theorem Z53 {A0:Sort _}{A1:Sort _}{A2:Sort _}{A3:Sort _}{A4:Sort _}{P0 P1 P2 P3:A0→A1→A2→A3→A4→Prop}{G:Prop}(h:∃ x0 x1 x2 x3 x4,P0 x0 x1 x2 x3 x4∧P1 x0 x1 x2 x3 x4∧P2 x0 x1 x2 x3 x4∧P3 x0 x1 x2 x3 x4)(k:∀ x0 x1 x2 x3 x4,P0 x0 x1 x2 x3 x4→P1 x0 x1 x2 x3 x4→P2 x0 x1 x2 x3 x4→P3 x0 x1 x2 x3 x4→G):G:=h.elim fun x0 h0=>h0.elim fun x1 h1=>h1.elim fun x2 h2=>h2.elim fun x3 h3=>h3.elim fun x4 h4=>k x0 x1 x2 x3 x4 h4.1 h4.2.1 h4.2.2.1 h4.2.2.2
theorem Z54 {A0:Sort _}{A1:Sort _}{A2:Sort _}{A3:Sort _}{A4:Sort _}{P0 P1 P2 P3 P4:A0→A1→A2→A3→A4→Prop}{G:Prop}(h:∃ x0 x1 x2 x3 x4,P0 x0 x1 x2 x3 x4∧P1 x0 x1 x2 x3 x4∧P2 x0 x1 x2 x3 x4∧P3 x0 x1 x2 x3 x4∧P4 x0 x1 x2 x3 x4)(k:∀ x0 x1 x2 x3 x4,P0 x0 x1 x2 x3 x4→P1 x0 x1 x2 x3 x4→P2 x0 x1 x2 x3 x4→P3 x0 x1 x2 x3 x4→P4 x0 x1 x2 x3 x4→G):G:=h.elim fun x0 h0=>h0.elim fun x1 h1=>h1.elim fun x2 h2=>h2.elim fun x3 h3=>h3.elim fun x4 h4=>k x0 x1 x2 x3 x4 h4.1 h4.2.1 h4.2.2.1 h4.2.2.2.1 h4.2.2.2.2
theorem Z61 {A0:Sort _}{A1:Sort _}{A2:Sort _}{A3:Sort _}{A4:Sort _}{A5:Sort _}{P0 P1:A0→A1→A2→A3→A4→A5→Prop}{G:Prop}(h:∃ x0 x1 x2 x3 x4 x5,P0 x0 x1 x2 x3 x4 x5∧P1 x0 x1 x2 x3 x4 x5)(k:∀ x0 x1 x2 x3 x4 x5,P0 x0 x1 x2 x3 x4 x5→P1 x0 x1 x2 x3 x4 x5→G):G:=h.elim fun x0 h0=>h0.elim fun x1 h1=>h1.elim fun x2 h2=>h2.elim fun x3 h3=>h3.elim fun x4 h4=>h4.elim fun x5 h5=>k x0 x1 x2 x3 x4 x5 h5.1 h5.2
end Tw
end
section
namespace Tw
open Nat.Internal.Linear
noncomputable def qA:=Expr.add
noncomputable def qM:=Expr.mulL
noncomputable def qR:=Expr.mulR
noncomputable def jc:=Expr.var 0
noncomputable def ja:=Expr.var 1
noncomputable def jd:=Expr.var 2
noncomputable def je:=Expr.var 3
noncomputable def jl:=Expr.var 4
noncomputable def jM:=Expr.var 5
noncomputable def wc:=Expr.var 6
noncomputable def zB:=Expr.var 7
noncomputable def qv8:=Expr.var 8
noncomputable def qv9:=Expr.var 9
noncomputable def qv10:=Expr.var 10
noncomputable def qv11:=Expr.var 11
noncomputable def jg:=Expr.add (.var 0) (.num 1)
noncomputable def jA:=Expr.add (.var 1) (.num 1)
noncomputable def jD:=Expr.add (.var 2) (.num 1)
noncomputable def wG:=Expr.add (.var 3) (.num 1)
noncomputable def yF:=Expr.add (.var 4) (.num 1)
noncomputable def zo:=Expr.add (.var 5) (.num 1)
noncomputable def UK:=Expr.add (.var 6) (.num 1)
noncomputable def qs7:=Expr.add (.var 7) (.num 1)
noncomputable def qs8:=Expr.add (.var 8) (.num 1)
noncomputable def qs10:=Expr.add (.var 10) (.num 1)
noncomputable def jw:=Expr.num 0
noncomputable def jj:=Expr.num 1
noncomputable def qk2:=Expr.num 2
noncomputable def qk3:=Expr.num 3
noncomputable def qk4:=Expr.num 4
noncomputable def qN:=Expr.num
noncomputable def jO {x0:Nat}:Context:=.leaf x0
noncomputable def ju {x0 x1:Nat}:Context:=.branch 1 (.leaf x0) (.leaf x1)
noncomputable def jr {x0 x1 x2:Nat}:Context:=.branch 1 (.leaf x0) (.branch 2 (.leaf x1) (.leaf x2))
noncomputable def jE {x0 x1 x2 x3:Nat}:Context:=.branch 1 (.leaf x0) (.branch 2 (.leaf x1) (.branch 3 (.leaf x2) (.leaf x3)))
noncomputable def ka {x0 x1 x2 x3 x4:Nat}:Context:=.branch 1 (.leaf x0) (.branch 2 (.leaf x1) (.branch 3 (.leaf x2) (.branch 4 (.leaf x3) (.leaf x4))))
noncomputable def yn {x0 x1 x2 x3 x4 x5:Nat}:Context:=.branch 1 (.leaf x0) (.branch 2 (.leaf x1) (.branch 3 (.leaf x2) (.branch 4 (.leaf x3) (.branch 5 (.leaf x4) (.leaf x5)))))
noncomputable def KW {x0 x1 x2 x3 x4 x5 x6:Nat}:Context:=.branch 1 (.leaf x0) (.branch 2 (.leaf x1) (.branch 3 (.leaf x2) (.branch 4 (.leaf x3) (.branch 5 (.leaf x4) (.branch 6 (.leaf x5) (.leaf x6))))))
noncomputable def qc8 {x0 x1 x2 x3 x4 x5 x6 x7:Nat}:Context:=.branch 1 (.leaf x0) (.branch 2 (.leaf x1) (.branch 3 (.leaf x2) (.branch 4 (.leaf x3) (.branch 5 (.leaf x4) (.branch 6 (.leaf x5) (.branch 7 (.leaf x6) (.leaf x7)))))))
noncomputable def qc9 {x0 x1 x2 x3 x4 x5 x6 x7 x8:Nat}:Context:=.branch 1 (.leaf x0) (.branch 2 (.leaf x1) (.branch 3 (.leaf x2) (.branch 4 (.leaf x3) (.branch 5 (.leaf x4) (.branch 6 (.leaf x5) (.branch 7 (.leaf x6) (.branch 8 (.leaf x7) (.leaf x8))))))))
noncomputable def qc10 {x0 x1 x2 x3 x4 x5 x6 x7 x8 x9:Nat}:Context:=.branch 1 (.leaf x0) (.branch 2 (.leaf x1) (.branch 3 (.leaf x2) (.branch 4 (.leaf x3) (.branch 5 (.leaf x4) (.branch 6 (.leaf x5) (.branch 7 (.leaf x6) (.branch 8 (.leaf x7) (.branch 9 (.leaf x8) (.leaf x9)))))))))
noncomputable def qc11 {x0 x1 x2 x3 x4 x5 x6 x7 x8 x9 x10:Nat}:Context:=.branch 1 (.leaf x0) (.branch 2 (.leaf x1) (.branch 3 (.leaf x2) (.branch 4 (.leaf x3) (.branch 5 (.leaf x4) (.branch 6 (.leaf x5) (.branch 7 (.leaf x6) (.branch 8 (.leaf x7) (.branch 9 (.leaf x8) (.branch 10 (.leaf x9) (.leaf x10))))))))))
noncomputable def qc12 {x0 x1 x2 x3 x4 x5 x6 x7 x8 x9 x10 x11:Nat}:Context:=.branch 1 (.leaf x0) (.branch 2 (.leaf x1) (.branch 3 (.leaf x2) (.branch 4 (.leaf x3) (.branch 5 (.leaf x4) (.branch 6 (.leaf x5) (.branch 7 (.leaf x6) (.branch 8 (.leaf x7) (.branch 9 (.leaf x8) (.branch 10 (.leaf x9) (.branch 11 (.leaf x10) (.leaf x11)))))))))))
noncomputable def qV (l r:Expr):Bool:=(ExprCnstr.mk false l r).toNormPoly.isValid
theorem qz (c:Context)(l r L R:Expr)(h:qV (.add l R) (.add r L)=true)(H:L.denote c≤R.denote c):l.denote c≤r.denote c :=
 Nat.le_of_add_le_add_right (Nat.le_trans (of_eq_true (ExprCnstr.eq_true_of_isValid c _ h)) (Nat.add_le_add_left H (r.denote c)))
theorem jq (c:Context)(l r a1 b1:Expr)(h:qV (.add l b1) (.add r a1)=true)(h1:a1.denote c≤b1.denote c):l.denote c≤r.denote c :=
 qz c l r a1 b1 h h1
theorem ZN (c:Context)(a1 b1:Expr)(h:qV (.add (.num 1) b1) (.add (.num 0) a1)=true)(h1:a1.denote c≤b1.denote c){p:Prop}:p :=
 absurd (qz c (.num 1) (.num 0) a1 b1 h h1) (Nat.not_succ_le_zero 0)
theorem jt (c:Context)(l r a1 b1 a2 b2:Expr)(h:qV (.add l (.add b1 b2)) (.add r (.add a1 a2))=true)(h1:a1.denote c≤b1.denote c)(h2:a2.denote c≤b2.denote c):l.denote c≤r.denote c :=
 qz c l r (.add a1 a2) (.add b1 b2) h (Nat.add_le_add h1 h2)
theorem kc (c:Context)(a1 b1 a2 b2:Expr)(h:qV (.add (.num 1) (.add b1 b2)) (.add (.num 0) (.add a1 a2))=true)(h1:a1.denote c≤b1.denote c)(h2:a2.denote c≤b2.denote c){p:Prop}:p :=
 absurd (qz c (.num 1) (.num 0) (.add a1 a2) (.add b1 b2) h (Nat.add_le_add h1 h2)) (Nat.not_succ_le_zero 0)
theorem jV (c:Context)(l r a1 b1 a2 b2 a3 b3:Expr)(h:qV (.add l (.add (.add b1 b2) b3)) (.add r (.add (.add a1 a2) a3))=true)(h1:a1.denote c≤b1.denote c)(h2:a2.denote c≤b2.denote c)(h3:a3.denote c≤b3.denote c):l.denote c≤r.denote c :=
 qz c l r (.add (.add a1 a2) a3) (.add (.add b1 b2) b3) h (Nat.add_le_add (Nat.add_le_add h1 h2) h3)
theorem WO (c:Context)(a1 b1 a2 b2 a3 b3:Expr)(h:qV (.add (.num 1) (.add (.add b1 b2) b3)) (.add (.num 0) (.add (.add a1 a2) a3))=true)(h1:a1.denote c≤b1.denote c)(h2:a2.denote c≤b2.denote c)(h3:a3.denote c≤b3.denote c){p:Prop}:p :=
 absurd (qz c (.num 1) (.num 0) (.add (.add a1 a2) a3) (.add (.add b1 b2) b3) h (Nat.add_le_add (Nat.add_le_add h1 h2) h3)) (Nat.not_succ_le_zero 0)
theorem yS (c:Context)(l r a1 b1 a2 b2 a3 b3 a4 b4:Expr)(h:qV (.add l (.add (.add (.add b1 b2) b3) b4)) (.add r (.add (.add (.add a1 a2) a3) a4))=true)(h1:a1.denote c≤b1.denote c)(h2:a2.denote c≤b2.denote c)(h3:a3.denote c≤b3.denote c)(h4:a4.denote c≤b4.denote c):l.denote c≤r.denote c :=
 qz c l r (.add (.add (.add a1 a2) a3) a4) (.add (.add (.add b1 b2) b3) b4) h (Nat.add_le_add (Nat.add_le_add (Nat.add_le_add h1 h2) h3) h4)
theorem KS (c:Context)(a1 b1 a2 b2 a3 b3 a4 b4:Expr)(h:qV (.add (.num 1) (.add (.add (.add b1 b2) b3) b4)) (.add (.num 0) (.add (.add (.add a1 a2) a3) a4))=true)(h1:a1.denote c≤b1.denote c)(h2:a2.denote c≤b2.denote c)(h3:a3.denote c≤b3.denote c)(h4:a4.denote c≤b4.denote c){p:Prop}:p :=
 absurd (qz c (.num 1) (.num 0) (.add (.add (.add a1 a2) a3) a4) (.add (.add (.add b1 b2) b3) b4) h (Nat.add_le_add (Nat.add_le_add (Nat.add_le_add h1 h2) h3) h4)) (Nat.not_succ_le_zero 0)
theorem YG (c:Context)(l r a1 b1 a2 b2 a3 b3 a4 b4 a5 b5:Expr)(h:qV (.add l (.add (.add (.add (.add b1 b2) b3) b4) b5)) (.add r (.add (.add (.add (.add a1 a2) a3) a4) a5))=true)(h1:a1.denote c≤b1.denote c)(h2:a2.denote c≤b2.denote c)(h3:a3.denote c≤b3.denote c)(h4:a4.denote c≤b4.denote c)(h5:a5.denote c≤b5.denote c):l.denote c≤r.denote c :=
 qz c l r (.add (.add (.add (.add a1 a2) a3) a4) a5) (.add (.add (.add (.add b1 b2) b3) b4) b5) h (Nat.add_le_add (Nat.add_le_add (Nat.add_le_add (Nat.add_le_add h1 h2) h3) h4) h5)
theorem qf6 (c:Context)(a1 b1 a2 b2 a3 b3 a4 b4 a5 b5 a6 b6:Expr)(h:qV (.add (.num 1) (.add (.add (.add (.add (.add b1 b2) b3) b4) b5) b6)) (.add (.num 0) (.add (.add (.add (.add (.add a1 a2) a3) a4) a5) a6))=true)(h1:a1.denote c≤b1.denote c)(h2:a2.denote c≤b2.denote c)(h3:a3.denote c≤b3.denote c)(h4:a4.denote c≤b4.denote c)(h5:a5.denote c≤b5.denote c)(h6:a6.denote c≤b6.denote c){p:Prop}:p :=
 absurd (qz c (.num 1) (.num 0) (.add (.add (.add (.add (.add a1 a2) a3) a4) a5) a6) (.add (.add (.add (.add (.add b1 b2) b3) b4) b5) b6) h (Nat.add_le_add (Nat.add_le_add (Nat.add_le_add (Nat.add_le_add (Nat.add_le_add h1 h2) h3) h4) h5) h6)) (Nat.not_succ_le_zero 0)
theorem qp7 (c:Context)(l r a1 b1 a2 b2 a3 b3 a4 b4 a5 b5 a6 b6 a7 b7:Expr)(h:qV (.add l (.add (.add (.add (.add (.add (.add b1 b2) b3) b4) b5) b6) b7)) (.add r (.add (.add (.add (.add (.add (.add a1 a2) a3) a4) a5) a6) a7))=true)(h1:a1.denote c≤b1.denote c)(h2:a2.denote c≤b2.denote c)(h3:a3.denote c≤b3.denote c)(h4:a4.denote c≤b4.denote c)(h5:a5.denote c≤b5.denote c)(h6:a6.denote c≤b6.denote c)(h7:a7.denote c≤b7.denote c):l.denote c≤r.denote c :=
 qz c l r (.add (.add (.add (.add (.add (.add a1 a2) a3) a4) a5) a6) a7) (.add (.add (.add (.add (.add (.add b1 b2) b3) b4) b5) b6) b7) h (Nat.add_le_add (Nat.add_le_add (Nat.add_le_add (Nat.add_le_add (Nat.add_le_add (Nat.add_le_add h1 h2) h3) h4) h5) h6) h7)
theorem qf8 (c:Context)(a1 b1 a2 b2 a3 b3 a4 b4 a5 b5 a6 b6 a7 b7 a8 b8:Expr)(h:qV (.add (.num 1) (.add (.add (.add (.add (.add (.add (.add b1 b2) b3) b4) b5) b6) b7) b8)) (.add (.num 0) (.add (.add (.add (.add (.add (.add (.add a1 a2) a3) a4) a5) a6) a7) a8))=true)(h1:a1.denote c≤b1.denote c)(h2:a2.denote c≤b2.denote c)(h3:a3.denote c≤b3.denote c)(h4:a4.denote c≤b4.denote c)(h5:a5.denote c≤b5.denote c)(h6:a6.denote c≤b6.denote c)(h7:a7.denote c≤b7.denote c)(h8:a8.denote c≤b8.denote c){p:Prop}:p :=
 absurd (qz c (.num 1) (.num 0) (.add (.add (.add (.add (.add (.add (.add a1 a2) a3) a4) a5) a6) a7) a8) (.add (.add (.add (.add (.add (.add (.add b1 b2) b3) b4) b5) b6) b7) b8) h (Nat.add_le_add (Nat.add_le_add (Nat.add_le_add (Nat.add_le_add (Nat.add_le_add (Nat.add_le_add (Nat.add_le_add h1 h2) h3) h4) h5) h6) h7) h8)) (Nat.not_succ_le_zero 0)
theorem kg (c:Context)(l r:Expr)(h:qV l r=true):l.denote c≤r.denote c :=
 of_eq_true (ExprCnstr.eq_true_of_isValid c _ h)
theorem qg (c:Context)(l r:Expr)(g:Nat)(L R:Expr)(h:qV (.add (.mulL (g+1) l) R) (.add (.add (.mulL (g+1) r) (.num g)) L)=true)(H:L.denote c≤R.denote c):l.denote c≤r.denote c :=
 Nat.le_of_lt_succ (Nat.lt_of_mul_lt_mul_left (a:=g+1) (Nat.lt_of_le_of_lt (Nat.le_of_add_le_add_right (Nat.le_trans (of_eq_true (ExprCnstr.eq_true_of_isValid c _ h)) (Nat.add_le_add_left H _))) (Nat.lt_succ_self _)))
theorem qt:true=true:=rfl
theorem qe {a b:Nat}(h:a=b):a≤b:=Nat.le_of_eq h
theorem qi {a b:Nat}(h:a=b):b≤a:=Nat.le_of_eq h.symm
theorem qn {a b:Nat}(h:¬ a≤b):b<a:=Nat.lt_of_not_le h
theorem qm {a b:Nat}(h:¬ a<b):b≤a:=Nat.le_of_not_lt h
theorem qx {a b:Nat}(h:b≤a):a - b+b≤a:=Nat.le_of_eq (Nat.sub_add_cancel h)
theorem qy {a b:Nat}(h:a≤b):a - b≤0:=Nat.le_of_eq (Nat.sub_eq_zero_of_le h)
theorem qu {a b:Nat}:a - b≤a:=Nat.sub_le a b
theorem qw {a b:Nat}:a≤a - b+b:=Nat.le_add_of_sub_le (Nat.le_refl _)
theorem qa {a b:Nat}(h:a≤b)(k:b≤a):a=b:=Nat.le_antisymm h k
theorem qd {a b c d:Nat}(h:a≤b)(k:c≤d):a+c≤b+d:=Nat.add_le_add h k
theorem qr {a b:Nat}(k:Nat)(h:a≤b):k * a≤k * b:=Nat.mul_le_mul_left k h
theorem qo {a:Nat}(h:¬ a=0):0<a:=Nat.pos_of_ne_zero h
theorem qb {a b:Nat}:min a b≤a:=Nat.min_le_left a b
theorem qB {a b:Nat}:min a b≤b:=Nat.min_le_right a b
theorem qh {a b:Nat}:a≤max a b:=Nat.le_max_left a b
theorem qH {a b:Nat}:b≤max a b:=Nat.le_max_right a b
theorem ql {G:Prop}(a b:Nat)(h:a≤b→G)(k:b≤a→G):G:=(Nat.le_total a b).elim h k
theorem qj {G:Prop}{a b:Nat}(e:¬ a=b)(h:a<b→G)(k:b<a→G):G:=(Nat.lt_or_gt_of_ne e).elim h k
theorem qN2 {p q:Prop}(h:¬ (p∧q)):¬ p∨¬ q:=Classical.not_and_iff_not_or_not.mp h
end Tw
end
section
namespace Tw
variable {a b c d e f g i j l m n o p r s:Nat}
theorem sh47 {x0:Int}{x1 x2:Nat}:x0+1+x1+(46+x2 - x1)=x0+47+x2:=by rw[Int.add_assoc,Int.add_comm x1,Int.sub_add_cancel,Int.add_assoc,←Int.add_assoc 1,←Int.add_assoc];rfl
theorem leC {a b:Nat}(h:((a:Nat):Int) - ((b:Nat):Int)=((a - b:Nat):Int)):b≤a:=Int.ofNat_le.mp (Int.sub_nonneg.mp (h▸Int.natCast_nonneg _))
theorem em94 {x0 x1:Int}(h0:0<x0)(h1:x0<94):x1 % 94≠(x1+x0) % 94:=fun h=>Int.ne_of_gt h0 ((Int.emod_eq_of_lt (Int.le_of_lt h0) h1).symm.trans (by rw[←Int.emod_eq_emod_iff_emod_sub_eq_zero.mp h.symm,Int.add_comm,Int.add_sub_cancel]))
theorem oq0 (h0:a=b)(h1:b - 1<b):-((a:Nat):Int) ≤ -1:=by omega
theorem oq1:¬((a:Nat):Int)<0:=fun k1=>ZN jO jg jw qt (show a<0 from Int.ofNat_lt.mp k1)
theorem oq2 {x0:Int}(h0:0<x0):0≤x0:=by omega
theorem oq3 {x0:Int}{x1:Int}(h0:x0<x1):0≤x1 - x0 - 1:=by omega
theorem oq4:0≤((a:Nat):Int):=Int.ofNat_le.mpr (show 0≤a from kg jO jw jc qt )
theorem oq5 (h0:a - b=c+1):b<a:=ql a b (fun k1=>kc ju jg ja ja jw qt (qi h0) (qy (k1))) fun k2=>jt jE jg ja jD je (qA je jc) ja qt (qi h0) (qx (k2))
theorem oq6 (h0:a<b):a+(b - a) / 2+1≤b:=qg jE (qA (qA jc ja) jj) jd 1 (qA (qA jg (qA je jc)) (qM 2 ja)) (qA (qA jd jd) je) qt (qd (qd h0 (qx (jq ju jc ja jg ja qt h0))) (Nat.mul_div_le _ 2))
theorem oq7 (h0:a - b≤c - d):a - (b+(a - b) / 2+1)≤c - (d+1):=ql a b (fun k1=>jq ju jc ja jc jw qt (qy (jq jr jc (qA (qA ja jd) jj) jc ja qt k1))) fun k2=>ql c d (fun k3=>jq ju jc ja jc jw qt (qy (jV ka jc (qA (qA ja jd) jj) je jl jc (qA je ja) jl jw qt h0 qw (qy (k3))))) fun k4=>ql a ((b+((a - b) / 2))+1) (fun k5=>jq ju jc ja jc jw qt (qy (k5))) fun k6=>YG qc9 jc ja jd je jl (qA jd jM) (qA je wc) zB (qA jc (qA (qA jM qv8) jj)) jl zB (qA ja UK) qt h0 qw (qx (k4)) (qx (k6)) qw
theorem oq8 (h0:a<b+(c - b) / 2+1):a≤b+(c - b) / 2:=jq jr jc (qA ja jd) jg (qA (qA ja jd) jj) qt h0
theorem oq9 (h0:a≤b)(h1:c<a):c+(a - c) / 2<b:=by omega
theorem oq10:a≤a+(b - a) / 2:=kg ju jc (qA jc ja) qt
theorem oq11 (h0:a≤b)(h1:c<a):c+(a - c) / 2≤b:=qg ka (qA jc ja) jd 1 (qA (qA (qM 2 je) (qM 2 (qA jl jc))) (qM 2 ja)) (qA (qA (qM 2 jd) (qM 2 je)) jl) qt (qd (qd (qr 2 h0) (qr 2 (qx (jq ju jc ja jg ja qt h1)))) (Nat.mul_div_le _ 2))
theorem oq12 (h0:a - b≤c - d):b+(a - b) / 2 - b≤c - (d+1):=ql a b (fun k1=>qg ka jc ja 1 (qA (qA jd (qM 2 je)) (qM 2 (qA jc jl))) (qA (qA jw jd) (qM 2 (qA jl je))) qt (qd (qd (qy (k1)) (Nat.mul_div_le _ 2)) (qr 2 (qx (kg ju jc (qA jc ja) qt ))))) fun k2=>ql c d (fun k3=>qg yn jc ja 1 (qA (qA (qA jd je) (qM 2 jl)) (qM 2 (qA jc jM))) (qA (qA (qA je jw) jd) (qM 2 (qA jM jl))) qt (qd (qd (qd h0 (qy (k3))) (Nat.mul_div_le _ 2)) (qr 2 (qx (kg ju jc (qA jc ja) qt ))))) fun k4=>qg qc8 jc ja 1 (qA (qA (qA (qA jd (qA je jl)) (qM 2 wc)) (qM 2 (qA jc zB))) jM) (qA (qA (qA (qA je jM) jd) (qM 2 (qA zB wc))) (qA ja yF)) qt (qd (qd (qd (qd h0 (qx (k4))) (Nat.mul_div_le _ 2)) (qr 2 (qx (kg ju jc (qA jc ja) qt )))) qw)
theorem oq13 (h0:¬a≥b - c):c+a<b:=ql b c (fun k1=>kc ju jg ja ja jw qt (qn h0) (qy (k1))) fun k2=>jt jE (qA (qA jc ja) jj) jd jA je (qA je jc) jd qt (qn h0) (qx (k2))
theorem oq14 (h0:a<b)(h1:a<c - d):d+a+1≤d+min b (c - d):=ql c d (fun k1=>kc ju jg ja ja jw qt h1 (qy (k1))) fun k2=>ql b (c - d) (fun k3=>jt jE (qA (qA jc ja) jj) (qA jc jd) jA je je jd qt h0 (qi (Nat.min_eq_left (k3)))) fun k4=>jt jE (qA (qA jc ja) jj) (qA jc jd) jA je je jd qt h1 (qi (Nat.min_eq_right (k4)))
theorem oq15 (h0:a<b - c):c+min d (b - c)≤b:=ql b c (fun k1=>kc ju jg ja ja jw qt h0 (qy (k1))) fun k2=>jt jE (qA jc ja) jd (qA je jc) jd ja je qt (qx (k2)) qB
theorem oq16 (h0:a<b - c):c+a<b:=by omega
theorem oq17 (h0:a+min b (c - a)≤d)(h1:d<c)(h2:c - a≤b):False:=KS ka (qA jc ja) jd jD je je (qA jl jc) jl ja qt h0 h1 qw (qi (Nat.min_eq_right (h2)))
theorem oq18 (h0:a+min b (c - a)≤d)(h1:d<c):a+b≤d:=ql b (c - a) (fun k1=>jt jE (qA jc ja) jd (qA jc je) jd ja je qt h0 (qi (Nat.min_eq_left (k1)))) fun k2=>KS ka (qA jc ja) jd jD je je (qA jl jc) jl ja qt h0 h1 qw (qi (Nat.min_eq_right (k2)))
theorem oq19 (h0:a<b)(h1:b≤c):a+(b - a) / 2<c:=qg ka (qA (qA jc ja) jj) jd 1 (qA (qA (qA jg (qM 2 je)) (qA jl jc)) (qM 2 ja)) (qA (qA (qA je (qM 2 jd)) je) jl) qt (qd (qd (qd h0 (qr 2 h1)) (qx (jq ju jc ja jg ja qt h0))) (Nat.mul_div_le _ 2))
theorem oq20 (h0:a<b):c+1 - min b (c+1)≤c - a:=ql b (c+1) (fun k1=>yS yn jc ja jD je je jl (qA jc jl) zo jM (qA ja jd) qt h0 (qi (Nat.min_eq_left (k1))) (qx (qB)) qw) fun k2=>jt jE jc ja jD je (qA jc je) jD qt (qi (Nat.min_eq_right (k2))) (qx (qB))
theorem oq21 (h0:a<b+1 - min c (b+1))(h1:b+1≤c):False:=WO jE jg ja jD je (qA ja je) jD qt h0 (qi (Nat.min_eq_right (h1))) (qx (qB))
theorem oq22 (h0:a<b+1 - min c (b+1)):a≤b - c:=ql c (b+1) (fun k1=>yS yn jc ja jg jd je jl (qA jd jl) zo jM (qA ja je) qt h0 (qi (Nat.min_eq_left (k1))) (qx (qB)) qw) fun k2=>kc jr jg ja (qA jd ja) jc qt k2 (qx (WO jE jg ja jD je (qA ja je) jD qt h0 (qi (Nat.min_eq_right (k2))) (qx (qB))))
theorem YX (h0:a<min b c):a<b:=jt jr jg ja jg jd jd ja qt h0 qb
theorem oq24 (h0:¬a+1=b)(h1:a<b):a+1<b:=qj h0 (fun k1=>k1) fun k2=>kc ju jg ja jA jg qt h1 k2
theorem oq25 (h0:a+1<b)(h1:¬a+1+1=b):a+1+1<b:=qj h1 (fun k1=>k1) fun k2=>kc ju (qA jg jj) ja jA (qA jg jj) qt h0 k2
theorem oq26 (h0:a<b)(h1:¬a+1=b):a+1<b:=qj h1 (fun k1=>k1) fun k2=>kc ju jg ja jA jg qt h0 k2
theorem oq27 (h0:a+1+b≤c)(h1:¬a+1+b=c):a+1+b<c:=qj h1 (fun k1=>k1) fun k2=>kc jr (qA jg ja) jd jD (qA jg ja) qt h0 k2
theorem oq28 (h0:¬a+1=b)(h1:a+1+0≤b):a+1<b:=qj h0 (fun k1=>k1) fun k2=>kc ju (qA jg jw) ja jA jg qt h1 k2
theorem oq29 (h0:¬a+1=b)(h1:a+1+0≤b):a+1+0<b:=qj h0 (fun k1=>jq ju (qA (qA jg jw) jj) ja (qA jg jj) ja qt k1) fun k2=>kc ju (qA jg jw) ja jA jg qt h1 k2
theorem oq30 (h0:a+b≤c)(h1:¬a+b+1=c)(h2:¬a+b=c):a+b+1<c:=qj h1 (fun k1=>k1) fun k2=>qj h2 (fun k3=>kc jr jg (qA (qA ja jd) jj) (qA (qA ja jd) jj) jc qt k2 k3) fun k4=>kc jr (qA jc ja) jd jD (qA jc ja) qt h0 k4
theorem oq31 (h0:a+b≤c)(h1:¬a+b=c):a+b<c:=qj h1 (fun k1=>k1) fun k2=>kc jr (qA jc ja) jd jD (qA jc ja) qt h0 k2
theorem oq32 (h0:a≤b)(h1:c≤a):min a b - (a - c)=c:=qa (jV ka jc ja jd je je (qA jl ja) (qA jc jl) jd qt qb qw (qx (jt jr jc ja jd ja jc jd qt (qi (Nat.min_eq_left (h0))) qu))) (jV ka jc ja jd je (qA jl jc) jd je (qA ja jl) qt (qi (Nat.min_eq_left (h0))) (qx (h1)) qw)
theorem oq33 (h0:a≤b):b - 1 - (b - a)=a - 1:=ql b 1 (fun k1=>qa (jq ju jc ja jc jw qt (qy (jq ju jc ja jc jw qt (qy (k1))))) (jq ju jc ja jc jw qt (qy (jt ju jc jj jc ja ja jj qt h0 k1)))) fun k2=>ql (b - 1) (b - a) (fun k3=>qa (jq ju jc ja jc jw qt (qy (k3))) (jq ju jc ja jc jw qt (qy (jV jE jc jj ja jd je jA (qA jd jc) je qt k3 qw (qx (h0)))))) fun k4=>qa (yS yn jc ja jd (qA je jl) zo jd (qA jc je) jM jl jA qt qw (qx (k2)) (qx (k4)) qw) (yS yn jc ja (qA jd je) jl jl zo jM (qA ja jd) jg je qt (qx (h0)) qw qw (qx (jV jE jj jc ja jd je (qA ja jc) jD je qt k4 qw (qx (k2)))))
theorem oq34 (h0:a≤b)(h1:c<a - d):d≤b - 1 - (b - a+c):=ql a d (fun k1=>kc ju jg ja ja jw qt h1 (qy (k1))) fun k2=>YG qc8 jc ja jD je (qA je jc) jl jM UK (qA zB jl) jM wc (qA ja (qA zB jd)) qt h1 (qx (k2)) qw (qx (h0)) qw
theorem oq35 (h0:a<b - c):d - 1 - (d - b+a)<b:=ql b c (fun k1=>kc ju jg ja ja jw qt h0 (qy (k1))) fun k2=>ql d 1 (fun k3=>jV jE jg ja jD je je ja jc jw qt h0 qu (qy (jq jr jc (qA ja jd) jc jw qt (qy (k3))))) fun k4=>ql d b (fun k5=>jV jE jg ja jd ja wG jd jc je qt k5 (qx (k4)) qu) fun k6=>jV yn jg ja jD je je (qA jl ja) (qA jc (qA jl jM)) jd qt (qx (k4)) qw (qx (yS yn (qA jc ja) jd jA je je jl jM jD (qA jc jl) jM qt h0 qu qw (qx (k6))))
theorem oq36 (h0:a=1)(h1:b<min a c):b=0:=qa (jV jr jc jw ja jj jg jd jd ja qt (qe h0) h1 qb) (kg jO jw jc qt )
theorem oq37 (h0:0<min a b):0<a:=jt ju (qA jw jj) jc (qA jw jj) ja ja jc qt h0 qb
theorem oq38 (h0:¬a - 1=0):0<a - 1:=jq jO (qA jw jj) jc jj jc qt (qo h0)
theorem oq39 (h0:1≤a)(h1:¬a=1):1<a:=qj h1 (fun k1=>kc jO jj jc jg jj qt h0 k1) fun k2=>k2
theorem oq40 (h0:1≤a)(h1:b≤a):b - 1<a:=ql b 1 (fun k1=>jt ju jg ja jj ja jc jw qt h0 (qy (k1))) fun k2=>jt jr jg ja jd ja jg jd qt h1 (qx (k2))
theorem oq41 (h0:1<a)(h1:¬a - 1=1):1<a - 1:=qj h1 (fun k1=>WO ju (qA jj jj) jc jA jj jc jA qt h0 k1 qw) fun k2=>k2
theorem oq42 (h0:¬a=1)(h1:¬a=0):1<a:=qj h0 (fun k1=>kc jO jj jc jg jj qt (qo h1) k1) fun k2=>k2
theorem oq43 (h0:a≤b)(h1:a - 1 - c>0):c≤b:=ql (a - 1) c (fun k1=>kc jO (qA jw jj) jc jc jw qt h1 (qy (k1))) fun k2=>jV jE jc ja jd ja jc je je jd qt h0 k2 qu
theorem oq44 (h0:¬a=0):0<a:=jq jO (qA jw jj) jc jj jc qt (qo h0)
theorem oq45 (h0:a≤b)(h1:a - c>0):c≤b:=ql a c (fun k1=>kc jO (qA jw jj) jc jc jw qt h1 (qy (k1))) fun k2=>jt jr jc ja jd ja jc jd qt h0 k2
theorem oq46 (h0:¬a - b=0):a - 1<a:=qx (jt ju jj jc jj ja ja jc qt (qo h0) qu)
theorem oq47 (h0:¬a - b=0):c+b+(a - b) - 1=c+(a - 1):=ql a b (fun k1=>qa (kc jO jj jc jc jw qt (qo h0) (qy (k1))) (kc jO jj jc jc jw qt (qo h0) (qy (k1)))) fun k2=>qa (jV yn jc (qA ja jd) (qA je jl) jM jg (qA (qA ja jl) je) jM jD qt (qx (k2)) (qx (jq jr jj (qA (qA jc ja) jd) jj jd qt (qo h0))) qw) (jV yn (qA jc ja) jd je (qA jl jM) (qA (qA jc jM) jl) jD jA je qt qw qw (qx (jt ju jj jc jj ja ja jc qt (qo h0) qu)))
theorem oq48 (h0:a=b+c)(h1:¬c - d=0):a=b+d+(c - d):=ql c d (fun k1=>qa (kc jO jj jc jc jw qt (qo h1) (qy (k1))) (kc jO jj jc jc jw qt (qo h1) (qy (k1)))) fun k2=>qa (jt ka jc (qA (qA ja jd) je) jc (qA ja jl) jl (qA je jd) qt (qe h0) qw) (jt ka (qA (qA jc ja) jd) je (qA jc jl) je (qA jd ja) jl qt (qi h0) (qx (k2)))
theorem oq49 (h0:a=b)(h1:¬b - c=0):c≤a:=ql b c (fun k1=>kc jO jj jc jc jw qt (qo h1) (qy (k1))) fun k2=>jt jr jc ja jd ja jc jd qt (qi h0) k2
theorem oq50 (h0:a=b):b - c≤a - c:=ql b c (fun k1=>jq ju jc ja jc jw qt (qy (k1))) fun k2=>jV ka jc ja jd je (qA jc jl) jd je (qA ja jl) qt (qi h0) (qx (k2)) qw
theorem oq51 (h0:a=b):a - c≤b - c:=ql a c (fun k1=>jq ju jc ja jc jw qt (qy (k1))) fun k2=>jV ka jc ja jd je (qA jc jl) jd je (qA ja jl) qt (qe h0) (qx (k2)) qw
theorem oq52 (h0:a=b)(h1:c≤b):min c a=c:=qa (qb) (qi (Nat.min_eq_left (jt jr jc ja jd ja jc jd qt (qi h0) h1)))
theorem oq53 (h0:¬a - b=0):b+(a - b - 1)=a - 1:=ql a b (fun k1=>qa (kc jO jj jc jc jw qt (qo h0) (qy (k1))) (kc jO jj jc jc jw qt (qo h0) (qy (k1)))) fun k2=>qa (jV ka (qA jc ja) jd (qA je jc) jl jA je jl jD qt (qx (k2)) (qx (qo h0)) qw) (jV ka jc (qA ja jd) je (qA jl ja) jl jD jg je qt qw qw (qx (jt ju jj jc jj ja ja jc qt (qo h0) qu)))
theorem oq54 (h0:a=b)(h1:c=d)(h2:e≤d)(h3:f=a - g+min e c):f=b - g+e:=ql a g (fun k1=>qa (jV ka jc (qA ja jd) jc (qA je jl) je jw jl jd qt (qe h3) (qy (k1)) qb) (jV ka (qA jc ja) jd (qA je jl) jd ja jl jc jw qt (qi h3) (qi (Nat.min_eq_left (jt jr jc ja jd ja jc jd qt (qi h1) h2))) (qy (jt jr jc ja jc jd jd ja qt (qi h0) k1)))) fun k2=>qa (YG qc8 jc (qA ja jd) je jl jc (qA jM wc) (qA jM zB) je wc jd jl (qA ja zB) qt (qe h0) (qe h3) (qx (k2)) qb qw) (YG qc8 (qA jc ja) jd je jl (qA jM wc) jd jl (qA jM zB) ja wc (qA jc zB) je qt (qi h0) (qi h3) qw (qi (Nat.min_eq_left (jt jr jc ja jd ja jc jd qt (qi h1) h2))) (qx (jt jr jc ja jd ja jc jd qt (qe h0) k2)))
theorem oq55 (h0:a=b)(h1:c=d)(h2:e=f)(h3:¬d - g=0)(h4:i≤f)(h5:j=d - g+i)(h6:l=a+(c+(e+m))):b+g+0+j≤l:=ql d g (fun k1=>kc jO jj jc jc jw qt (qo h3) (qy (k1))) fun k2=>qp7 qc12 (qA (qA (qA jc ja) jw) jd) je jc jl jM wc zB qv8 qv9 zB jd (qA qv10 qv9) (qA jl (qA wc (qA qv8 qv11))) je (qA qv10 ja) jM qt (qi h0) (qi h1) (qi h2) h4 (qe h5) (qi h6) (qx (k2))
theorem oq56 (h0:¬a - b=0):c+b+(a - b+d)=c+(a+d):=ql a b (fun k1=>qa (kc jO jj jc jc jw qt (qo h0) (qy (k1))) (jq ka (qA jc (qA ja jd)) (qA (qA jc je) (qA jl jd)) ja (qA jl je) qt qw)) fun k2=>qa (jq ka (qA (qA jc ja) (qA jd je)) (qA jc (qA jl je)) (qA jd ja) jl qt (qx (k2))) (jq ka (qA jc (qA ja jd)) (qA (qA jc je) (qA jl jd)) ja (qA jl je) qt qw)
theorem oq57 (h0:¬a - b=0)(h1:c=a - b):1≤c:=jt ju jj jc jj ja ja jc qt (qo h0) (qi h1)
theorem oq58 (h0:¬a=0)(h1:b=a):1≤b:=jt ju jj jc jj ja ja jc qt (qo h0) (qi h1)
theorem oq59 (h0:a≤b):c+(c+d) - 1 - b≤c+(c+d) - 1 - a:=ql (c+(c+d)) 1 (fun k1=>jq ju jc ja jc jw qt (qy (jq ju jc ja jc jw qt (qy (k1))))) fun k2=>ql ((c+(c+d)) - 1) b (fun k3=>jq ju jc ja jc jw qt (qy (k3))) fun k4=>jV ka jc ja jd je (qA jc je) jl jl (qA ja jd) qt h0 (qx (k4)) qw
theorem oq60 (h0:a≤b)(h1:c<a+d):a+(a+d) - 1 - b<a+d:=ql ((a+(a+d)) - 1) b (fun k1=>jt jE jg (qA ja jd) wG (qA ja jd) jc jw qt h1 (qy (k1))) fun k2=>jV ka jg (qA ja jd) ja je yF (qA ja (qA ja jd)) (qA jc je) jl qt h0 (qx (jq jr jj (qA jc (qA jc ja)) jD (qA jc ja) qt h1)) (qx (k2))
theorem oq61 (h0:a≤b)(h1:c≤a∧a<d+e):c+(d+e) - 1 - b<d+e:=ql ((c+(d+e)) - 1) b (fun k1=>jt jE jg (qA ja jd) wG (qA ja jd) jc jw qt (And.right h1) (qy (k1))) fun k2=>yS KW jg (qA ja jd) je jl jM je UK (qA jM (qA ja jd)) (qA jc jl) wc qt h0 (And.left h1) (qx (jq jE jj (qA jc (qA ja jd)) wG (qA ja jd) qt (And.right h1))) (qx (k2))
theorem oq62 (h0:a<b - c):c+(a+1)≤b:=ql b c (fun k1=>kc ju jg ja ja jw qt h0 (qy (k1))) fun k2=>jt jE (qA jc jA) jd jA je (qA je jc) jd qt h0 (qx (k2))
theorem oq63 (h0:a+b - (c+1)≤d)(h1:e<a+b):a+b - (c+1)+(a+b) - 1 - d<a+b:=ql (a+b) (c+1) (fun k1=>jV ka jg (qA ja jd) je jw yF (qA je (qA ja jd)) jc jl qt (qy (k1)) (qx (jq jE jj (qA jc (qA ja jd)) wG (qA ja jd) qt h1)) qu) fun k2=>ql ((((a+b) - (c+1))+(a+b)) - 1) d (fun k3=>jt jE jg (qA ja jd) wG (qA ja jd) jc jw qt h1 (qy (k3))) fun k4=>jV yn jg (qA ja jd) je jl zo (qA je (qA ja jd)) (qA jc jl) jM qt h0 (qx (jq jE jj (qA jc (qA ja jd)) wG (qA ja jd) qt h1)) (qx (k4))
theorem oq64:a+(b+1) - (c+1+1)=a+b - (c+1):=ql (a+(b+1)) ((c+1)+1) (fun k1=>qa (jq ju jc ja jc jw qt (qy (k1))) (jq ju jc ja jc jw qt (qy (jq jr (qA jc ja) jD (qA jc jA) (qA jD jj) qt k1)))) fun k2=>qa (jt ka jc ja (qA jc (qA jD jj)) (qA je yF) (qA je jl) (qA ja jD) qt (qx (k2)) qw) (jt ka jc ja (qA jd wG) (qA ja (qA yF jj)) (qA jc yF) (qA jd je) qt qw (qx (jq jr jg (qA ja jd) (qA jg jj) (qA ja jD) qt k2)))
theorem oq65:a+b - (c+1)≤a+b - 1:=ql (a+b) (c+1) (fun k1=>jq ju jc ja jc jw qt (qy (k1))) fun k2=>jt ka jc ja (qA jc jD) (qA je jl) (qA je jl) jA qt (qx (k2)) qw
theorem oq66 (h0:a<b+(c+1))(h1:¬a=b+c):a<b+c:=qj h1 (fun k1=>k1) fun k2=>kc jr jg (qA ja jD) (qA (qA ja jd) jj) jc qt h0 k2
theorem oq67 (h0:a+b≤c)(h1:d<b - (e+1))(h2:f=c)(h3:e+1+d=g):a+g<f:=ql b (e+1) (fun k1=>kc ju jg ja ja jw qt h1 (qy (k1))) fun k2=>YG qc8 (qA (qA jc ja) jj) jd (qA jc je) jl zo wc jl jd ja (qA qs7 jM) (qA wc qs7) je qt h0 h1 (qi h2) (qi h3) (qx (k2))
theorem oq68 (h0:a<b - (c+1)):c+1+(a+1)≤b:=ql b (c+1) (fun k1=>kc ju jg ja ja jw qt h0 (qy (k1))) fun k2=>jt jE (qA jg jA) jd jA je (qA je jg) jd qt h0 (qx (k2))
theorem oq69 (h0:a+b≤c)(h1:d<b - (e+1))(h2:e+1+(d+1)=f+1):a+f<c:=ql b (e+1) (fun k1=>kc ju jg ja ja jw qt h1 (qy (k1))) fun k2=>yS KW (qA (qA jc ja) jj) jd (qA jc je) jd yF jM jA (qA UK yF) (qA jM UK) je qt h0 h1 (qi h2) (qx (k2))
theorem oq70 (h0:a+1+(b+1)=c+1):d+c - (e+1)<d+c:=ql (d+c) (e+1) (fun k1=>jt ka jg (qA ja jd) (qA wG yF) jD jc jw qt (qe h0) (qy (k1))) fun k2=>jq jE jg (qA ja jd) (qA jc wG) (qA ja jd) qt (qx (k2))
theorem oq71:a+b - (c+1)+(a+b) - 1 - (a+b - 1)=a+b - (c+1):=ql (a+b) (c+1) (fun k1=>ql (((a+b) - (c+1))+(a+b)) 1 (fun k3=>qa (jt jr jc ja jd jw jc jd qt (qy (k3)) qu) (jq ju jc ja jc jw qt (qy (k1)))) fun k4=>qa (jV yn jc ja jD (qA ja (qA je jl)) (qA je jl) zo (qA jc jM) jd qt (qx (k4)) qw (qx (jt ka jc ja (qA jd (qA je jl)) jA jg (qA je jl) qt qw (qx (jt jr jj (qA jc ja) jj (qA jd (qA jc ja)) jd jw qt k4 (qy (k1))))))) (jq ju jc ja jc jw qt (qy (k1)))) fun k2=>qa (jV yn jc ja jD (qA ja (qA je jl)) (qA je jl) zo (qA jc jM) jd qt (qx (jq jE jj (qA jc (qA ja jd)) wG (qA ja jd) qt k2)) qw (qx (jt ka jc ja (qA jd (qA je jl)) jA jg (qA je jl) qt qw (qx (jq jr jj (qA jc ja) jD (qA jc ja) qt k2))))) (jV yn jc ja (qA jc (qA jd je)) yF zo (qA jd je) jl (qA ja jM) qt qw (qx (jq jr jj (qA jc ja) jD (qA jc ja) qt k2)) qw)
theorem oq72 (h0:a+b≤c)(h1:d<b - (e+1))(h2:f=c)(h3:e+1+(d+1)=g+1):a+g<f:=ql b (e+1) (fun k1=>kc ju jg ja ja jw qt h1 (qy (k1))) fun k2=>YG qc8 (qA (qA jc ja) jj) jd (qA jc je) jl zo wc jl jd jA (qA qs7 zo) (qA wc qs7) je qt h0 h1 (qi h2) (qi h3) (qx (k2))
theorem oq73:a+(a+b) - 1 - (a+b - 1)=a:=ql (a+(a+b)) 1 (fun k1=>qa (jt jr jc ja jd jw jc jd qt (qy (k1)) qu) (qg jr jc ja 1 (qA jc (qA jc jd)) jj qt k1)) fun k2=>qa (jV ka jc ja jD (qA ja (qA ja je)) (qA ja je) yF (qA jc jl) jd qt (qx (k2)) qw (qx (jt jE jc ja (qA jd (qA jd je)) jA jg (qA jd je) qt qw (qx (qg ju jj (qA jc ja) 1 jj (qA jc (qA jc ja)) qt k2))))) (jV ka jc ja (qA jc (qA jc jd)) wG yF (qA jc jd) je (qA ja jl) qt qw (qx (qg ju jj (qA jc ja) 1 jj (qA jc (qA jc ja)) qt k2)) qw)
theorem oq74 (h0:a≤b):a - 1≤b - 1:=ql a 1 (fun k1=>jq ju jc ja jc jw qt (qy (k1))) fun k2=>jV jE jc ja jd je jg jd je jA qt h0 (qx (k2)) qw
theorem oq75 (h0:1≤a):max a 1=a:=qa (qe (Nat.max_eq_left (h0))) (qh)
theorem oq76 (h0:a+b≤c)(h1:d<b - e)(h2:e+d=f)(h3:g=c):a+f<g:=ql b e (fun k1=>kc ju jg ja ja jw qt h1 (qy (k1))) fun k2=>YG qc8 (qA (qA jc ja) jj) jd (qA jc je) jl zo wc ja (qA zB jM) jl jd (qA wc zB) je qt h0 h1 (qi h2) (qi h3) (qx (k2))
theorem oq77 (h0:a+b≤c)(h1:d<b - e)(h2:e+d=f)(h3:g=c)(h4:i≤j)(h5:j≤f):a+(i+j) / 2<g:=ql b e (fun k1=>kc ju jg ja ja jw qt h1 (qy (k1))) fun k2=>qg qc11 (qA (qA jc ja) jj) jd 1 (qA (qA (qA (qA (qA (qA (qA (qM 2 (qA jc je)) (qM 2 zo)) (qM 2 zB)) (qM 2 jl)) qv9) (qM 2 qv10)) (qM 2 (qA wc qv8))) (qM 2 ja)) (qA (qA (qA (qA (qA (qA (qA (qM 2 jl) (qM 2 wc)) (qM 2 (qA qv8 jM))) (qM 2 jd)) qv10) (qM 2 zB)) (qM 2 je)) (qA qv9 qv10)) qt (qd (qd (qd (qd (qd (qd (qd (qr 2 h0) (qr 2 h1)) (qr 2 (qi h2))) (qr 2 (qi h3))) h4) (qr 2 h5)) (qr 2 (qx (k2)))) (Nat.mul_div_le _ 2))
theorem oq78 (h0:¬a≥b):a≤(a+b) / 2:=qg jr jc ja 1 (qA jg (qA (qA jc jd) jj)) (qA jd (qM 2 jA)) qt (qd (qn h0) (Nat.lt_mul_div_succ _ (Nat.succ_pos 1)))
theorem oq79 (h0:a≤b)(h1:b≤c):(a+b) / 2≤c:=qg jE jc ja 1 (qA (qA jd (qM 2 je)) (qM 2 jc)) (qA (qA je (qM 2 ja)) (qA jd je)) qt (qd (qd h0 (qr 2 h1)) (Nat.mul_div_le _ 2))
theorem oq80 (h0:a - b≤c - d):(b+a) / 2 - b≤c - (d+1):=ql a b (fun k1=>jq ju jc ja jc jw qt (qy (qg jr jc ja 1 (qA jd (qM 2 jc)) (qA ja (qA ja jd)) qt (qd k1 (Nat.mul_div_le _ 2))))) fun k2=>ql c d (fun k3=>qg KW jc ja 1 (qA (qA (qA (qA jd jl) je) (qM 2 wc)) (qM 2 (qA jc jM))) (qA (qA (qA (qA je (qA jd jM)) jw) (qA jM jl)) (qM 2 wc)) qt (qd (qd (qd (qd h0 qw) (qy (k3))) (Nat.mul_div_le _ 2)) (qr 2 (qx (qg jr jc ja 1 (qA jc (qA (qA jc jd) jj)) (qA jd (qM 2 jA)) qt (qd k2 (Nat.lt_mul_div_succ _ (Nat.succ_pos 1)))))))) fun k4=>qg qc9 jc ja 1 (qA (qA (qA (qA (qA jd jl) (qA je wc)) (qM 2 qv8)) (qM 2 (qA jc jM))) zB) (qA (qA (qA (qA (qA je (qA jd jM)) zB) (qA jM jl)) (qM 2 qv8)) (qA ja UK)) qt (qd (qd (qd (qd (qd h0 qw) (qx (k4))) (Nat.mul_div_le _ 2)) (qr 2 (qx (qg jr jc ja 1 (qA jc (qA (qA jc jd) jj)) (qA jd (qM 2 jA)) qt (qd k2 (Nat.lt_mul_div_succ _ (Nat.succ_pos 1))))))) qw)
theorem oq81 (h0:a+b≤c)(h1:d<b - e)(h2:e+d=f)(h3:g=c)(h4:i≤f)(h5:¬j≥i):a+(j+i) / 2<g:=ql b e (fun k1=>kc ju jg ja ja jw qt h1 (qy (k1))) fun k2=>qg qc11 (qA (qA jc ja) jj) jd 1 (qA (qA (qA (qA (qA (qA (qA (qM 2 (qA jc je)) (qM 2 zo)) (qM 2 zB)) (qM 2 jl)) (qM 2 qv9)) qs10) (qM 2 (qA wc qv8))) (qM 2 ja)) (qA (qA (qA (qA (qA (qA (qA (qM 2 jl) (qM 2 wc)) (qM 2 (qA qv8 jM))) (qM 2 jd)) (qM 2 zB)) qv9) (qM 2 je)) (qA qv10 qv9)) qt (qd (qd (qd (qd (qd (qd (qd (qr 2 h0) (qr 2 h1)) (qr 2 (qi h2))) (qr 2 (qi h3))) (qr 2 h4)) (qn h5)) (qr 2 (qx (k2)))) (Nat.mul_div_le _ 2))
theorem oq82:a≤a+(b+c) / 2:=kg ju jc (qA jc ja) qt
theorem oq83 (h0:(a+b) / 2≤c):d+(a+b) / 2≤d+c:=jq jr (qA jc ja) (qA jc jd) ja jd qt h0
theorem oq84 (h0:¬a≥b):(a+b) / 2+1≤b:=qg jr jg ja 1 (qA jD (qM 2 jc)) (qA ja (qA jd ja)) qt (qd (qn h0) (Nat.mul_div_le _ 2))
theorem oq85 (h0:a - b≤c - d):a - ((b+a) / 2+1)≤c - (d+1):=ql a b (fun k1=>jq ju jc ja jc jw qt (qy (qg jr jc jA 1 (qA jc (qA (qA jd jc) jj)) (qA jd (qM 2 jA)) qt (qd k1 (Nat.lt_mul_div_succ _ (Nat.succ_pos 1)))))) fun k2=>ql c d (fun k3=>jq ju jc ja jc jw qt (qy (qg ka jc jA 1 (qA (qA (qA jd jc) je) (qA (qA jl jc) jj)) (qA (qA (qA je (qA jd jl)) jw) (qM 2 jA)) qt (qd (qd (qd h0 qw) (qy (k3))) (Nat.lt_mul_div_succ _ (Nat.succ_pos 1)))))) fun k4=>ql a (((b+a) / 2)+1) (fun k5=>jq ju jc ja jc jw qt (qy (k5))) fun k6=>qp7 qc9 jc ja jd je yF jM jM (qA jd wc) (qA je zB) qv8 (qA (qA wc jM) jj) (qM 2 yF) (qA jc yF) jM qv8 (qA ja qs7) qt h0 k6 qw (qx (k4)) (Nat.lt_mul_div_succ _ (Nat.succ_pos 1)) (qx (k6)) qw
theorem oq86 (h0:a<(b+c) / 2+1):d+a≤d+(b+c) / 2:=jq jr (qA jc ja) (qA jc jd) jA jD qt h0
theorem oq87 (h0:a≤b)(h1:¬c≥a):d+(c+a) / 2<d+b:=qg ka (qA (qA jc ja) jj) (qA jc jd) 1 (qA (qA (qM 2 je) yF) (qM 2 ja)) (qA (qA (qM 2 jd) je) (qA jl je)) qt (qd (qd (qr 2 h0) (qn h1)) (Nat.mul_div_le _ 2))
theorem oq88 (h0:a<b):¬a=b+c - (b+c - (b+d)):=fun k1=>ql (b+c) (b+d) (fun k2=>KS ka jg ja jd jc je jw (qA ja jl) (qA jd je) qt h0 (qi k1) (qy (k2)) qw) fun k3=>KS yn jg ja jd jc (qA je (qA ja jl)) (qA ja jM) (qA ja jM) (qA jd je) qt h0 (qi k1) (qx (k3)) qw
theorem oq89 (h0:a<b):¬(b+c - (b+c - (b+d))<a∧a≤b+c):=fun k1=>ql (b+c) (b+d) (fun k2=>KS ka jg ja ja (qA jd je) jl jw (qA jd je) (qA jc jl) qt (And.left k1) (And.right k1) (qy (k2)) qw) fun k3=>KS yn jg ja jD jc (qA je (qA ja jl)) (qA ja jM) (qA ja jM) (qA jd je) qt h0 (And.left k1) (qx (k3)) qw
theorem oq90 (h0:a+1<b):min a b=a:=qa (qb) (qi (Nat.min_eq_left (jq ju jc ja (qA jg jj) ja qt h0)))
theorem oq91 (h0:a<min b (c - d)):d+a<d+b:=jt jE (qA (qA jc ja) jj) (qA jc jd) jA je je jd qt h0 qb
theorem oq92 (h0:a=b)(h1:c=d)(h2:e≤a - d)(h3:c+f=b):min e f=e:=qa (qb) (qi (Nat.min_eq_left (YG KW jc ja jd je jl jM jc wc je (qA jl ja) (qA wc jM) jd qt (qe h0) (qe h1) h2 (qi h3) (qx (jV ka jc ja jd ja jc je (qA je jl) jd qt (qi h0) (qi h1) (qe h3))))))
theorem oq93 (h0:a=b)(h1:c=b)(h2:¬d≥a)(h3:e=c):d+min (a - d) f≤e:=YG KW (qA jc ja) jd je jl jl jM jM jd (qA wc jc) je ja wc qt (qe h0) (qi h1) (qi h3) (qx (jq ju jc ja jg ja qt (qn h2))) qb
theorem oq94 (h0:((a:Nat):Int)=((b:Nat):Int)):a=b:=qa (qe (show a=b from Int.ofNat_inj.mp h0)) (qi (show a=b from Int.ofNat_inj.mp h0))
theorem oq95 (h0:((a:Nat):Int)=((b:Nat):Int)):a<b∨a=b∧c<d↔((c:Nat):Int)<((d:Nat):Int):=⟨fun k1=>Int.ofNat_lt.mpr (show c<d from Or.elim k1 (fun k3=>kc ju jc ja jA jc qt (qi (show a=b from Int.ofNat_inj.mp h0)) k3) (fun k4=>And.right k4)),fun k2=>(Classical.em (a<b)).elim (fun k5=>Or.inl k5) (fun k6=>Or.inr (⟨qa (qe (show a=b from Int.ofNat_inj.mp h0)) (qi (show a=b from Int.ofNat_inj.mp h0)),show c<d from Int.ofNat_lt.mp k2⟩))⟩
theorem oq96 (h0:¬((a:Nat):Int)=((b:Nat):Int)):a<b∨a=b∧c<d↔((a:Nat):Int)<((b:Nat):Int):=⟨fun k1=>Int.ofNat_lt.mpr (show a<b from Or.elim k1 (fun k3=>k3) (fun k4=>qj (fun z=>h0 (Int.ofNat_inj.mpr z)) (fun k5=>kc ju jc ja jA jc qt (qi (And.left k4)) k5) fun k6=>kc ju jc ja jA jc qt (qe (And.left k4)) k6)),fun k2=>Or.inl (show a<b from Int.ofNat_lt.mp k2)⟩
theorem oq97 {x0:Int}{x1:Int}{x2:Int}:x0+x1+x2=x0+(x2+x1):=by rw[Int.add_assoc,Int.add_comm x1]
theorem oq98 {x0:Int}(h0:0<x0):x0≠0:=by omega
theorem oq99 {x0:Int}{x1:Int}(h0:x0<x1):min x1 x0=x0:=Int.min_eq_right (Int.le_of_lt h0)
theorem oq100 {x0:Int}{x1:Int}(h0:¬x0<x1):min x1 x0=x1:=Int.min_eq_left (Int.not_lt.mp h0)
theorem oq101 {x0:Int}{x1:Int}(h0:x0>x1):max x1 x0=x0:=Int.max_eq_right (Int.le_of_lt h0)
theorem oq102 {x0:Int}{x1:Int}(h0:¬x0>x1):max x1 x0=x1:=Int.max_eq_left (Int.not_lt.mp h0)
theorem oq103 (h0:a≤b):min c a - d≤b:=jV jE jc ja jd ja je jd jc je qt h0 qB qu
theorem oq104 (h0:((a:Nat):Int)<((b:Nat):Int)):a<b:=show a<b from Int.ofNat_lt.mp h0
theorem oq105:min a b≤a:=qb
theorem oq106 (h0:a≤1000):((a:Nat):Int)<4611686018427387904:=Int.ofNat_lt.mpr (show a<4611686018427387904 from jq jO jg (qN 4611686018427387904) jc (qN 1000) qt h0)
theorem oq107 (h0:a<1000):((a:Nat):Int)<4611686018427387904:=Int.ofNat_lt.mpr (show a<4611686018427387904 from jq jO jg (qN 4611686018427387904) jg (qN 1000) qt h0)
theorem oq108 (h0:a≤100)(h1:b<a)(h2:c≤1000):(1≤((a:Nat):Int)∧((a:Nat):Int)≤100)∧b<a∧((c:Nat):Int)≤1000:=⟨⟨Int.ofNat_le.mpr (show 1≤a from jq ju jj jc jA jc qt h1),Int.ofNat_le.mpr (show a≤100 from h0)⟩,⟨h1,Int.ofNat_le.mpr (show c≤1000 from h2)⟩⟩
theorem oq109 (h0:a=16777216)(h1:b≤1000)(h2:c≤min d b):c<a:=yS jE jg ja (qN 16777216) ja jd (qN 1000) jc je je jd qt (qi h0) h1 h2 qB
theorem oq110 (h0:a<b)(h1:c<b)(h2:d≤1)(h3:e≤1):a<b∧c<b∧((d:Nat):Int)≤1∧((e:Nat):Int)≤1:=⟨h0,⟨h1,⟨Int.ofNat_le.mpr (show d≤1 from h2),Int.ofNat_le.mpr (show e≤1 from h3)⟩⟩⟩
theorem oq111 (h0:¬a=b):c+a≠c+b:=fun k1=>qj h0 (fun k2=>kc jr (qA jc ja) (qA jc jd) jD ja qt (qi k1) k2) fun k3=>kc jr (qA jc ja) (qA jc jd) jD ja qt (qe k1) k3
theorem oq112 (h0:((a:Nat):Int)=((b:Nat):Int)∧((c:Nat):Int)=((d:Nat):Int)):a=b:=qa (qe (show a=b from Int.ofNat_inj.mp (And.left h0))) (qi (show a=b from Int.ofNat_inj.mp (And.left h0)))
theorem oq113 (h0:((a:Nat):Int)=((b:Nat):Int)∧((c:Nat):Int)=((d:Nat):Int)):c=d:=qa (qe (show c=d from Int.ofNat_inj.mp (And.right h0))) (qi (show c=d from Int.ofNat_inj.mp (And.right h0)))
theorem oq114:((a:Nat):Int)=((b:Nat):Int)↔a=b:=⟨fun k1=>qa (qe (show a=b from Int.ofNat_inj.mp k1)) (qi (show a=b from Int.ofNat_inj.mp k1)),fun k2=>Int.ofNat_inj.mpr (show a=b from qa (qe k2) (qi k2))⟩
theorem oq115 (h0:a<b+1)(h1:¬a=b):a<b:=qj h1 (fun k1=>k1) fun k2=>kc ju jg jA jA jc qt h0 k2
theorem oq116 (h0:0=a+b)(h1:¬b=0):False:=kc ju (qA jc ja) jw jj ja qt (qi h0) (qo h1)
theorem oq117 (h0:a+b=0)(h1:¬b=0):False:=kc ju (qA jc ja) jw jj ja qt (qe h0) (qo h1)
theorem oq118 (h0:¬a=0)(h1:b≤c)(h2:b=c+a):False:=WO jr jj jc ja jd (qA jd jc) ja qt (qo h0) h1 (qi h2)
theorem oq119 (h0:¬a=0)(h1:b≤c)(h2:c+a=b):False:=WO jr jj jc ja jd (qA jd jc) ja qt (qo h0) h1 (qe h2)
theorem oq120 (h0:a<b+(b+c)):a - b<b+c:=ql a b (fun k1=>qg jE jg (qA ja jd) 1 (qA (qA wG jc) jc) (qA (qA (qA ja (qA ja jd)) jw) je) qt (qd (qd h0 (qy (k1))) qu)) fun k2=>jt jE jg (qA ja jd) wG (qA ja (qA ja jd)) (qA jc ja) je qt h0 (qx (k2))
theorem oq121 (h0:min a b=min c b)(h1:b≤a):min (a+1) b=min c b:=qa (jt jr jc ja jd ja jc jd qt (qi (Nat.min_eq_right (jV jE jc ja jd je jc jd je ja qt (qe h0) (qi (Nat.min_eq_right (h1))) qb))) qB) (jt jr jc ja jc jd jd ja qt qB (qi (Nat.min_eq_right (jq ju jc jA jc ja qt h1))))
theorem oq122 (h0:min a b=min c b)(h1:¬b≤a):c=a:=ql c b (fun k1=>qa (jV jE jc ja jd je je ja jc jd qt (qi h0) qb (qi (Nat.min_eq_left (k1)))) (jV jE jc ja jd je jc jd je ja qt (qe h0) (qi (Nat.min_eq_left (jq ju jc ja jg ja qt (qn h1)))) qb)) fun k2=>qa (KS jE jc ja jD je ja jd je jc qt (qi h0) (qn h1) qb (qi (Nat.min_eq_right (k2)))) (jt jr jc ja jg jd jd ja qt (qn h1) k2)
theorem oq123 (h0:a - b+(c - b)≤d+1):a - (b+1)+(c - (b+1))≤d:=ql a b (fun k1=>ql c b (fun k3=>jt jr (qA jc ja) jd jc jw ja jw qt (qy (jq ju jc jA jc ja qt k1)) (qy (jq ju jc jA jc ja qt k3))) fun k4=>ql c (b+1) (fun k5=>jt jr (qA jc ja) jd jc jw ja jw qt (qy (jq ju jc jA jc ja qt k1)) (qy (k5))) fun k6=>yS KW (qA jc ja) jd (qA je jl) jD jM (qA jl wc) jc jw (qA ja UK) jM qt h0 qw (qy (jq ju jc jA jc ja qt k1)) (qx (k6))) fun k2=>ql c b (fun k7=>ql a (b+1) (fun k9=>jt jr (qA jc ja) jd jc jw ja jw qt (qy (k9)) (qy (jq ju jc jA jc ja qt k7))) fun k10=>yS KW (qA jc ja) jd (qA je jl) jD jM (qA je wc) (qA jc UK) jM ja jw qt h0 qw (qx (k10)) (qy (jq ju jc jA jc ja qt k7))) fun k8=>ql a (b+1) (fun k11=>ql c (b+1) (fun k13=>jt jr (qA jc ja) jd jc jw ja jw qt (qy (k11)) (qy (k13))) fun k14=>yS KW (qA jc ja) jd (qA je jl) jD jM (qA jl wc) jc jw (qA ja UK) jM qt h0 qw (qy (k11)) (qx (k14))) fun k12=>ql c (b+1) (fun k15=>yS KW (qA jc ja) jd (qA je jl) jD jM (qA je wc) (qA jc UK) jM ja jw qt h0 qw (qx (k12)) (qy (k15))) fun k16=>YG qc8 (qA jc ja) jd (qA je jl) jD jM (qA je wc) zB (qA jl wc) (qA jc UK) jM (qA ja UK) zB qt h0 qw qw (qx (k12)) (qx (k16))
theorem oq124 (h0:min a b=min c b)(h1:b≤d)(h2:¬a<d):b≤c:=jt jr jc ja jd ja jc jd qt qb (qi (Nat.min_eq_right (jV jE jc ja jd je jc jd je ja qt (qe h0) (qi (Nat.min_eq_right (jt jr jc ja jc jd jd ja qt h1 (qm h2)))) qb)))
theorem oq125 (h0:a≤b)(h1:¬c<b)(h2:a≤d):min c a=min (d+1) a:=qa (jt jr jc ja jc jd jd ja qt qB (qi (Nat.min_eq_right (jq ju jc jA jc ja qt h2)))) (jt jr jc ja jd ja jc jd qt (qi (Nat.min_eq_right (jt jr jc ja jc jd jd ja qt h0 (qm h1)))) qB)
theorem oq126 (h0:a≤b):min a c≤b:=jt jr jc ja jd ja jc jd qt h0 qb
theorem oq127 (h0:a≤b):c+a - b≤c - 0:=ql (c+a) b (fun k1=>jq ju jc ja jc jw qt (qy (k1))) fun k2=>jV ka jc ja jd je (qA jc je) (qA jl jd) jl (qA ja jw) qt h0 (qx (k2)) qw
theorem oq128 (h0:a<b):max b a=b:=qa (qe (Nat.max_eq_left (jq ju jc ja jg ja qt h0))) (qh)
theorem oq129 (h0:a<b):min b a=a:=qa (qB) (qi (Nat.min_eq_right (jq ju jc ja jg ja qt h0)))
theorem oq130 (h0:a<b):c+a - d≤c+b - d:=ql (c+a) d (fun k1=>jq ju jc ja jc jw qt (qy (k1))) fun k2=>jV yn jc ja jD je (qA jc jl) (qA jM jd) (qA jM je) (qA ja jl) qt h0 (qx (k2)) qw
theorem oq131 (h0:¬a<b):c+b - d≤c+a - d:=ql (c+b) d (fun k1=>jq ju jc ja jc jw qt (qy (k1))) fun k2=>jV yn jc ja jd je (qA jc jl) (qA jM jd) (qA jM je) (qA ja jl) qt (qm h0) (qx (k2)) qw
theorem oq132 (h0:¬a<b):max b a=a:=qa (qe (Nat.max_eq_right (qm h0))) (qH)
theorem oq133 (h0:¬a<b):min b a=b:=qa (qb) (qi (Nat.min_eq_left (qm h0)))
theorem oq134:min a a=min (a+(b+1)) a:=(Nat.min_self _).trans (Nat.min_eq_right (Nat.le_add_right _ _)).symm
theorem oq135:min (a+(b+1)) a=min a a:=(Nat.min_eq_right (Nat.le_add_right _ _)).trans (Nat.min_self _).symm
theorem oq136:min (a+b) a=min (a+c) a:=qa (jt jr jc ja jc jd jd ja qt qB (qi (Nat.min_eq_right (kg ju jc (qA jc ja) qt )))) (jt jr jc ja jd ja jc jd qt (qi (Nat.min_eq_right (kg ju jc (qA jc ja) qt ))) qB)
theorem oq137 (h0:a≤b)(h1:c≤d)(h2:min e b=min c b)(h3:d≤b+a)(h4:e=0):c=0:=ql c b (fun k1=>qa (yS jE jc jw ja jd je jw jd je jc ja qt (qi h2) (qe h4) qb (qi (Nat.min_eq_left (k1)))) (kg jO jw jc qt )) fun k2=>qa (qp7 KW jc jw ja jd jc je (qM 2 jl) (qM 2 jM) je (qA jd ja) (qM 2 wc) (qM 2 jw) (qM 2 jM) (qM 2 wc) (qM 2 jd) (qM 2 jl) qt h0 h1 (qr 2 (qi h2)) h3 (qr 2 (qe h4)) (qr 2 qb) (qr 2 (qi (Nat.min_eq_right (k2))))) (kg jO jw jc qt )
theorem oq138 (h0:¬a=0)(h1:a≤b):a - 1<b:=jt jr jg ja jd ja jg jd qt h1 (qx (qo h0))
theorem oq139 (h0:¬a=0):a - 1+1=a:=qa (qx (qo h0)) (qw)
theorem oq140 (h0:¬a=0):1≤a:=qo h0
theorem oq141 (h0:min a b=min c b)(h1:a≤b∧c≤b):a=c:=(Nat.min_eq_left h1.1).symm.trans (h0.trans (Nat.min_eq_left h1.2))
theorem oq142 (h0:min a b=min c b)(h1:¬(a≤b∧c≤b)):b≤a:=Or.elim (qN2 h1) (fun k1=>jq ju jc ja jg ja qt (qn k1)) (fun k2=>jV jE jc ja jd je je ja jc jd qt (qi h0) qb (qi (Nat.min_eq_right (jq ju jc ja jg ja qt (qn k2)))))
theorem oq143 (h0:min a b=min c b)(h1:b≤a):b≤c:=jt jr jc ja jd ja jc jd qt qb (qi (Nat.min_eq_right (jV jE jc ja jd je jc jd je ja qt (qe h0) (qi (Nat.min_eq_right (h1))) qb)))
theorem oq144 (h0:a=b)(h1:¬(b+0≤b∧b+c≤b))(h2:b+c≤a):False:=Or.elim (qN2 h1) (fun k1=>ZN jO jg (qA jc jw) qt (qn k1)) (fun k2=>WO jr jc ja (qA ja jd) jc jA (qA ja jd) qt (qe h0) h2 (qn k2))
theorem oq145 (h0:¬(a+0≤a∧a+b≤a))(h1:c≤a+d)(h2:a+b≤c):b - 1<d:=Or.elim (qN2 h0) (fun k1=>ZN jO jg (qA jc jw) qt (qn k1)) (fun k2=>jV ka jg ja jd (qA je ja) (qA je jl) jd jg jl qt h1 h2 (qx (jq ju jj jc jA (qA ja jc) qt (qn k2))))
theorem oq146 (h0:¬(a+0≤a∧a+b≤a)):b - 1+1=b:=Nat.sub_add_cancel (Nat.pos_of_ne_zero fun h=>h0 ⟨Nat.le_refl _,h▸Nat.le_refl _⟩)
theorem oq147 (h0:¬(a+0≤a∧a+b≤a)):1≤b:=Or.elim (qN2 h0) (fun k1=>ZN jO jg (qA jc jw) qt (qn k1)) (fun k2=>jq ju jj jc jA (qA ja jc) qt (qn k2))
theorem oq148 (h0:a≤b+c)(h1:b+d≤a)(h2:¬(b+d≤b∧b+0≤b)):d - 1<c:=Or.elim (qN2 h2) (fun k1=>jV ka jg ja jd (qA je ja) (qA je jl) jd jg jl qt h0 h1 (qx (jq ju jj jc jA (qA ja jc) qt (qn k1)))) (fun k2=>ZN jO jg (qA jc jw) qt (qn k2))
theorem oq149 (h0:¬(a+b≤a∧a+0≤a)):b - 1+1=b:=Nat.sub_add_cancel (Nat.pos_of_ne_zero fun h=>h0 ⟨h▸Nat.le_refl _,Nat.le_refl _⟩)
theorem oq150 (h0:¬(a+b≤a∧a+0≤a)):1≤b:=Nat.pos_of_ne_zero fun h=>h0 ⟨h▸Nat.le_refl _,Nat.le_refl _⟩
theorem oq151 (h0:¬(a+b≤a∧a+c≤a)):0<b+c:=Or.elim (qN2 h0) (fun k1=>jq jr (qA jw jj) (qA jc ja) jD (qA jd jc) qt (qn k1)) (fun k2=>jq jr (qA jw jj) (qA jc ja) jD (qA jd ja) qt (qn k2))
theorem oq152 (h0:a<b):¬(a+1=b+(a+1)∧a+1=b+(a+1)∨True∧a+1=b+(a+1)∨a+1=b+(a+1))∧¬(b+(a+1)=a+1∨True∧b+(a+1)=a+1)∧¬(a+1=b+(a+1)∧b+(a+1)=a+1):=⟨fun k1=>Or.elim k1 (fun k2=>kc ju jg ja (qA ja jg) jg qt h0 (qi (And.left k2))) (fun k3=>Or.elim k3 (fun k4=>kc ju jg ja (qA ja jg) jg qt h0 (qi (And.right k4))) (fun k5=>kc ju jg ja (qA ja jg) jg qt h0 (qi k5))),⟨fun k6=>Or.elim k6 (fun k7=>kc ju jg ja (qA ja jg) jg qt h0 (qe k7)) (fun k8=>kc ju jg ja (qA ja jg) jg qt h0 (qe (And.right k8))),fun k9=>kc ju jg ja (qA ja jg) jg qt h0 (qi (And.left k9))⟩⟩
theorem oq153 (h0:a<b)(h1:b<c)(h2:d=a+1∨d=c+(a+1))(h3:e=b+1∨e=c+(b+1)):f=g→d=e→False:=fun k1=>fun k2=>Or.elim h2 (fun k3=>Or.elim h3 (fun k5=>KS jE jg ja jd je je jg jA jd qt h0 (qi k2) (qe k3) (qi k5)) (fun k6=>KS ka jg ja jd je je jg (qA jl jA) jd qt h0 (qi k2) (qe k3) (qi k6))) (fun k4=>Or.elim h3 (fun k7=>KS ka jg ja jd je (qA ja yF) jd je jg qt h1 (qe k2) (qi k4) (qe k7)) (fun k8=>KS ka jg ja jd je je (qA jl jg) (qA jl jA) jd qt h0 (qi k2) (qe k4) (qi k8)))
theorem oq154 (h0:a=b+1∨a=c+(b+1)):0=d→0=a→False:=fun k1=>fun k2=>Or.elim h0 (fun k3=>kc ju jc jw jA jc qt (qi k2) (qi k3)) (fun k4=>kc jr jc jw (qA ja jD) jc qt (qi k2) (qi k4))
theorem oq155 (h0:a<b)(h1:c=d∧e=2 * d+(a+1)∨c=2 * d+(a+1)∧e=d)(h2:f=d∧g=2 * d+(b+1)∨f=2 * d+(b+1)∧g=d):c=f→e=g→False:=fun k1=>fun k2=>Or.elim h1 (fun k3=>Or.elim h2 (fun k5=>KS ka jg ja jd je je (qA (qM 2 jl) jg) (qA (qM 2 jl) jA) jd qt h0 (qi k2) (qe (And.right k3)) (qi (And.right k5))) (fun k6=>WO jE jc ja ja jd (qA (qM 2 jd) wG) jc qt (qi k1) (qe (And.left k3)) (qi (And.left k6)))) (fun k4=>Or.elim h2 (fun k7=>WO jE jc ja ja jd (qA (qM 2 jd) wG) jc qt (qi k2) (qe (And.right k4)) (qi (And.right k7))) (fun k8=>KS ka jg ja jd je je (qA (qM 2 jl) jg) (qA (qM 2 jl) jA) jd qt h0 (qi k1) (qe (And.left k4)) (qi (And.left k8))))
theorem oq156 (h0:1≤a)(h1:b=a∧c=2 * a+(d+1)∨b=2 * a+(d+1)∧c=a):0=b→0=c→False:=fun k1=>fun k2=>Or.elim h1 (fun k3=>kc jr jc jw (qA (qM 2 ja) jD) jc qt (qi k2) (qi (And.right k3))) (fun k4=>kc jr jc jw (qA (qM 2 ja) jD) jc qt (qi k1) (qi (And.left k4)))
theorem oq157 (h0:a=b∧c=2 * b+(d+1)∨a=2 * b+(d+1)∧c=b)(h1:e=f+1∨e=b+(f+1))(h2:g=f+1∨g=b+(f+1)):e=a→g=c→False:=fun k1=>fun k2=>Or.elim h0 (fun k3=>Or.elim h1 (fun k5=>Or.elim h2 (fun k7=>qf6 KW (qM 2 jc) (qM 2 ja) jd je (qM 2 ja) (qM 2 jl) (qA (qM 2 jl) zo) jd (qM 2 UK) (qM 2 jc) je UK qt (qr 2 (qe k1)) (qi k2) (qr 2 (qe (And.left k3))) (qi (And.right k3)) (qr 2 (qi k5)) (qe k7)) (fun k8=>qf6 KW jc ja jd je ja jl (qA (qM 2 jl) zo) jd UK jc je (qA jl UK) qt (qe k1) (qi k2) (qe (And.left k3)) (qi (And.right k3)) (qi k5) (qe k8))) (fun k6=>WO jE jc ja ja jd (qA jd wG) jc qt (qe k1) (qe (And.left k3)) (qi k6))) (fun k4=>Or.elim h1 (fun k9=>Or.elim h2 (fun k11=>qf6 KW jc ja (qM 2 jd) (qM 2 je) (qA (qM 2 jl) zo) jc (qM 2 je) (qM 2 jl) ja UK UK jd qt (qi k1) (qr 2 (qe k2)) (qi (And.left k4)) (qr 2 (qe (And.right k4))) (qe k9) (qi k11)) (fun k12=>WO jE jc ja ja jd (qA jd wG) jc qt (qe k2) (qe (And.right k4)) (qi k12))) (fun k10=>Or.elim h2 (fun k13=>qf6 KW jc ja jd je (qA (qM 2 jl) zo) jc je jl ja (qA jl UK) UK jd qt (qi k1) (qe k2) (qi (And.left k4)) (qe (And.right k4)) (qe k10) (qi k13)) (fun k14=>WO jE jc ja ja jd (qA jd wG) jc qt (qe k2) (qe (And.right k4)) (qi k14))))
theorem oq158 (h0:0<a+b)(h1:c=2 * d+a)(h2:e=2 * d+b)(h3:f<d)(h4:g=f+1∨g=d+(f+1))(h5:i=f+1∨i=d+(f+1)):g=c→i=e→False:=fun k1=>fun k2=>Or.elim h4 (fun k3=>KS ka (qA (qM 2 jc) ja) jd (qM 2 wG) (qM 2 jc) jd jl jl wG qt (qi h1) (qr 2 h3) (qi k1) (qe k3)) (fun k4=>Or.elim h5 (fun k5=>KS ka (qA (qM 2 jc) ja) jd (qM 2 wG) (qM 2 jc) jd jl jl wG qt (qi h2) (qr 2 h3) (qi k2) (qe k5)) (fun k6=>qf8 qc8 (qA jw jj) (qA jc ja) (qA (qM 2 jd) jc) je (qA (qM 2 jd) ja) jl (qM 2 zo) (qM 2 jd) je wc jl zB wc (qA jd zo) zB (qA jd zo) qt h0 (qi h1) (qi h2) (qr 2 h3) (qi k1) (qi k2) (qe k4) (qe k6)))
theorem oq159 (h0:1≤a)(h1:b=2 * a+c)(h2:d=2 * a+e)(h3:f=a∧g=2 * a+(i+1)∨f=2 * a+(i+1)∧g=a):f=b→g=d→False:=fun k1=>fun k2=>Or.elim h3 (fun k3=>KS jE jj jc (qA (qM 2 jc) ja) jd jd je je jc qt h0 (qi h1) (qi k1) (qe (And.left k3))) (fun k4=>KS jE jj jc (qA (qM 2 jc) ja) jd jd je je jc qt h0 (qi h2) (qi k2) (qe (And.right k4)))
theorem oq160 {x0:Int}{x1:Int}(h0:0<x0)(h1:x0<94):x1 % 94≠(x1+x0) % 94:=fun h=>Int.ne_of_gt h0 ((Int.emod_eq_of_lt (Int.le_of_lt h0) h1).symm.trans (by rw[←Int.emod_eq_emod_iff_emod_sub_eq_zero.mp h.symm,Int.add_comm,Int.add_sub_cancel]))
theorem oq161 (h0:a≤1000)(h1:b=16777216):min c a - d≤b:=yS jE jc ja jd (qN 1000) (qN 16777216) ja je jd jc je qt h0 (qi h1) qB qu
theorem oq162 (h0:a=94)(h1:((b:Nat):Int)<94):b<a∧b<1000:=⟨jt ju jg ja (qN 94) ja jg (qN 94) qt (qi h0) (show b<94 from Int.ofNat_lt.mp h1),jq jO jg (qN 1000) jg (qN 94) qt (show b<94 from Int.ofNat_lt.mp h1)⟩
theorem oq163:0<1+((a:Nat):Int):=Int.ofNat_lt.mpr (show 0<(1+a) from kg jO (qA jw jj) (qA jj jc) qt )
theorem oq164 (h0:((a:Nat):Int)<46):1+((a:Nat):Int)<94:=Int.ofNat_lt.mpr (show(1+a)<94 from jq jO (qA (qA jj jc) jj) (qN 94) jg (qN 46) qt (show a<46 from Int.ofNat_lt.mp h0))
theorem oq165:0<47+((a:Nat):Int):=Int.ofNat_lt.mpr (show 0<(47+a) from kg jO (qA jw jj) (qA (qN 47) jc) qt )
theorem oq166 {x0:Int}{x1:Nat}{x2:Nat}{x3:Nat}(h0:x0 % 94=((x1:Nat):Int))(h1:((x2:Nat):Int)<46)(h2:(x0+47+((x2:Nat):Int)) % 94=((x3:Nat):Int))(h3:x1=x3):False:=em94 (x0:=47+x2) (Int.lt_of_lt_of_le (by decide) (Int.le_add_of_nonneg_right (Int.natCast_nonneg _))) (Int.lt_trans (Int.add_lt_add_left h1 47) (by decide)) (h0.trans (by rw[h3,←h2,Int.add_assoc]))
theorem oq167 (h0:((a:Nat):Int)<46):0<46+((b:Nat):Int) - ((a:Nat):Int):=Int.sub_pos_of_lt (Int.lt_of_lt_of_le h0 (Int.le_add_of_nonneg_right (Int.natCast_nonneg _)))
theorem oq168 {x0:Nat}{x1:Nat}{x2:Int}{x3:Nat}{x4:Nat}(h0:((x0:Nat):Int)<46)(h1:((x1:Nat):Int)<46)(h2:(x2+1+((x0:Nat):Int)) % 94=((x3:Nat):Int))(h3:(x2+47+((x1:Nat):Int)) % 94=((x4:Nat):Int))(h4:x3=x4):False:=em94 (Int.sub_pos_of_lt (Int.lt_of_lt_of_le h0 (Int.le_add_of_nonneg_right (Int.natCast_nonneg x1)))) (Int.lt_of_le_of_lt (Int.sub_le_self _ (Int.natCast_nonneg _)) (Int.lt_trans (Int.add_lt_add_left h1 46) (by decide))) (h2.trans (by rw[h4,←h3,sh47]))
theorem oq169 {x0:Int}{x1:Nat}{x2:Nat}:x0+1+((x1:Nat):Int)+(46+((x2:Nat):Int) - ((x1:Nat):Int))=x0+47+((x2:Nat):Int):=sh47
theorem oq170 (h0:a=3)(h1:((b:Nat):Int)<3):b<a:=jt ju jg ja qk3 ja jg qk3 qt (qi h0) (show b<3 from Int.ofNat_lt.mp h1)
theorem oq171 (h0:a≤2 * b+c):1+2 * ((b:Nat):Int)+((c:Nat):Int) - 1 - ((a:Nat):Int)=((2 * b+c - a:Nat):Int):=by rw[Int.ofNat_sub h0,Int.add_assoc 1,Int.add_comm 1,Int.add_sub_cancel];rfl
theorem oq172 (h0:1≤a)(h1:b=a)(h2:c+a=d)(h3:e<d):e - c<b:=ql e c (fun k1=>jV jr jg ja jj jd jd ja jc jw qt h0 (qi h1) (qy (k1))) fun k2=>yS yn jg ja jd ja je (qA jl jd) zo je (qA jc jl) jM qt (qi h1) (qi h2) h3 (qx (k2))
theorem oq173 (h0:a<b):a - min a b=0:=qa (jt jr jc jw ja jd (qA jc jd) ja qt (qi (Nat.min_eq_left (jq ju jc ja jg ja qt h0))) (qx (qb))) (kg jO jw jc qt )
theorem oq174:((a:Nat):Int)+((b:Nat):Int)+1=((a:Nat):Int)+(((b:Nat):Int)+1):=Int.ofNat_inj.mpr (show((a+b)+1)=(a+(b+1)) from qa (kg ju (qA (qA jc ja) jj) (qA jc jA) qt ) (kg ju (qA jc jA) (qA (qA jc ja) jj) qt ))
theorem oq175 (h0:a≤b):((b:Nat):Int) - ((a:Nat):Int)=((b - a:Nat):Int):=(Int.ofNat_sub h0).symm
theorem oq176:((a:Nat):Int)+1=1+((a:Nat):Int):=Int.ofNat_inj.mpr (show(a+1)=(1+a) from qa (kg jO jg (qA jj jc) qt ) (kg jO (qA jj jc) jg qt ))
theorem oq177:1+((a:Nat):Int)=((a+1:Nat):Int):=Int.ofNat_inj.mpr (show(1+a)=(a+1) from qa (kg jO (qA jj jc) jg qt ) (kg jO jg (qA jj jc) qt ))
theorem oq178:max 0 (((a+1:Nat):Int) - ((b:Nat):Int))=((a+1 - b:Nat):Int):=by rw[←Int.toNat_sub,Int.toNat_eq_max,Int.max_comm]
theorem oq179 (h0:((a+1:Nat):Int)=((b:Nat):Int)):a+1=b:=qa (qe (show(a+1)=b from Int.ofNat_inj.mp h0)) (qi (show(a+1)=b from Int.ofNat_inj.mp h0))
theorem oq180:((a - b:Nat):Int)+((c+1:Nat):Int)=((a - b+(c+1):Nat):Int):=Int.ofNat_inj.mpr (show((a - b)+(c+1))=((a - b)+(c+1)) from qa (Nat.le_refl _) (Nat.le_refl _))
theorem oq181 (h0:a≤40)(h1:((a:Nat):Int) - ((b:Nat):Int)=((a - b:Nat):Int))(h2:c<b):a - b+(c+1)<1000:=Nat.lt_of_le_of_lt (Nat.le_trans (Nat.add_le_add_left h2 _) (Nat.le_of_eq (Nat.sub_add_cancel (leC h1)))) (Nat.lt_of_le_of_lt h0 (by decide))
theorem oq182 (h0:a=16777216)(h1:b≤40)(h2:((b:Nat):Int) - ((c:Nat):Int)=((b - c:Nat):Int))(h3:d<c)(h4:e≤1+b * 4+d * 2):e+2≤a:=h0▸Nat.le_trans (Nat.add_le_add_right (Nat.le_trans h4 (Nat.add_le_add (Nat.add_le_add_left (Nat.mul_le_mul_right 4 h1) 1) (Nat.mul_le_mul_right 2 (Nat.le_trans (Nat.le_of_lt h3) (Nat.le_trans (leC h2) h1))))) 2) (by decide)
theorem oq183 (h0:a+1=b)(h1:¬((a+1:Nat):Int)=((b:Nat):Int)):False:=qj (fun z=>h1 (Int.ofNat_inj.mpr z)) (fun k1=>kc ju jc jA (qA jA jj) jc qt (qi h0) k1) fun k2=>kc ju jg ja jA jg qt (qe h0) k2
theorem oq184:min ((a:Nat):Int) ((b:Nat):Int)=((min a b:Nat):Int):=(Nat.le_total a b).elim (fun h=>by rw[Nat.min_eq_left h,Int.min_eq_left (Int.ofNat_le.mpr h)]) fun h=>by rw[Nat.min_eq_right h,Int.min_eq_right (Int.ofNat_le.mpr h)]
theorem oq185:((a - b:Nat):Int)+((min c d:Nat):Int)=((a - b+min c d:Nat):Int):=Int.ofNat_inj.mpr (show((a - b)+(min c d))=((a - b)+(min c d)) from qa (Nat.le_refl _) (Nat.le_refl _))
theorem oq186 (h0:a≤40)(h1:b≤9)(h2:c<b+1):a - b+min d c<1000:=YG ka (qA (qA jc ja) jj) (qN 1000) jd (qN 40) je (qN 9) yF wG jc jd ja jl qt h0 h1 h2 qu qB
theorem oq187:((a - b:Nat):Int)+max ((c:Nat):Int) ((d:Nat):Int)=((a - b+max c d:Nat):Int):=(Nat.le_total c d).elim (fun h=>by rw[Nat.max_eq_right h,Int.max_eq_right (Int.ofNat_le.mpr h)];rfl) fun h=>by rw[Nat.max_eq_left h,Int.max_eq_left (Int.ofNat_le.mpr h)];rfl
theorem oq188 (h0:a≤40)(h1:((a:Nat):Int) - ((b:Nat):Int)=((a - b:Nat):Int))(h2:c<b+1)(h3:d<b+1):a - b+max c d<1000:=Nat.lt_of_le_of_lt (Nat.le_trans (Nat.add_le_add_left (Nat.max_le.mpr ⟨Nat.le_of_lt_succ h2,Nat.le_of_lt_succ h3⟩) _) (Nat.le_of_eq (Nat.sub_add_cancel (leC h1)))) (Nat.lt_of_le_of_lt h0 (by decide))
theorem oq189 (h0:0<((a:Nat):Int)+((b:Nat):Int)):0<a+b:=show 0<(a+b) from Int.ofNat_lt.mp h0
theorem oq190 (h0:0<a+b)(h1:¬0<((a:Nat):Int)+((b:Nat):Int)):False:=kc ju (qA jw jj) (qA jc ja) (qA jc ja) jw qt h0 (qm (fun z=>h1 (Int.ofNat_lt.mpr z)))
theorem oq191 (h0:a<2):a=0∨a=1:=(Classical.em (a=0)).elim (fun k1=>Or.inl k1) (fun k2=>Or.inr (qa (jq jO jc jj jg qk2 qt h0) (qo k2)))
theorem oq192 (h0:((a:Nat):Int)<40):a+1≤40:=show a<40 from Int.ofNat_lt.mp h0
theorem oq193 (h0:1≤a):0<((a:Nat):Int):=Int.natCast_pos.mpr h0
theorem oq194 (h0:1≤a):((a:Nat):Int)≠0:=Int.ne_of_gt (Int.natCast_pos.mpr h0)
theorem oq195 (h0:a=b)(h1:((c:Nat):Int)<((b:Nat):Int)):c<a:=jt jr jg ja jd ja jg jd qt (qi h0) (show c<b from Int.ofNat_lt.mp h1)
theorem oq196 (h0:a≤40)(h1:((b:Nat):Int)<((a:Nat):Int)):b<1000:=jt ju jg (qN 1000) ja (qN 40) jg ja qt h0 (show b<a from Int.ofNat_lt.mp h1)
theorem oq197:0<((a:Nat):Int)+1:=by omega
theorem oq198:((a:Nat):Int)+1≠0:=Int.ne_of_gt (Int.lt_add_one_of_le (Int.natCast_nonneg _))
theorem oq199 (h0:((a:Nat):Int)<((b:Nat):Int)+1):a≤b:=jq ju jc ja jg jA qt (show a<(b+1) from Int.ofNat_lt.mp h0)
theorem oq200 (h0:9<((a:Nat):Int)):9<a:=show 9<a from Int.ofNat_lt.mp h0
theorem oq201 (h0:((a:Nat):Int)<((b:Nat):Int)+1)(h1:9<a)(h2:((c:Nat):Int)<9):c+1≤b:=jV jr jg ja jD jA (qA (qN 9) jj) jd jg (qN 9) qt (show a<(b+1) from Int.ofNat_lt.mp h0) h1 (show c<9 from Int.ofNat_lt.mp h2)
theorem oq202 (h0:((a:Nat):Int)<9):a+1≤9:=show a<9 from Int.ofNat_lt.mp h0
theorem oq203 (h0:¬9<((a:Nat):Int)):a≤9:=qm (fun z=>h0 (Int.ofNat_lt.mpr z))
end Tw
end
section
namespace Tw
theorem jP  {P0 P1:Prop}{G:Prop}(h:P0∧P1)(k:P0→P1→G):G:=k h.1 h.2
theorem jo {A0:Sort _}{P0 P1:A0→Prop}{G:Prop}(h:∃ x0,P0 x0∧P1 x0)(k:∀ x0,P0 x0→P1 x0→G):G:=h.elim fun x0 h0=>k x0 h0.1 h0.2
theorem yI {A0:Sort _}{A1:Sort _}{P0 P1:A0→A1→Prop}{G:Prop}(h:∃ x0 x1,P0 x0 x1∧P1 x0 x1)(k:∀ x0 x1,P0 x0 x1→P1 x0 x1→G):G:=h.elim fun x0 h0=>h0.elim fun x1 h1=>k x0 x1 h1.1 h1.2
theorem Zz {A0:Sort _}{A1:Sort _}{A2:Sort _}{P0 P1:A0→A1→A2→Prop}{G:Prop}(h:∃ x0 x1 x2,P0 x0 x1 x2∧P1 x0 x1 x2)(k:∀ x0 x1 x2,P0 x0 x1 x2→P1 x0 x1 x2→G):G:=h.elim fun x0 h0=>h0.elim fun x1 h1=>h1.elim fun x2 h2=>k x0 x1 x2 h2.1 h2.2
theorem kL {A0:Sort _}{P0 P1 P2:A0→Prop}{G:Prop}(h:∃ x0,P0 x0∧P1 x0∧P2 x0)(k:∀ x0,P0 x0→P1 x0→P2 x0→G):G:=h.elim fun x0 h0=>k x0 h0.1 h0.2.1 h0.2.2
theorem wZ {A0:Sort _}{A1:Sort _}{P0 P1 P2:A0→A1→Prop}{G:Prop}(h:∃ x0 x1,P0 x0 x1∧P1 x0 x1∧P2 x0 x1)(k:∀ x0 x1,P0 x0 x1→P1 x0 x1→P2 x0 x1→G):G:=h.elim fun x0 h0=>h0.elim fun x1 h1=>k x0 x1 h1.1 h1.2.1 h1.2.2
theorem Z23 {A0:Sort _}{A1:Sort _}{P0 P1 P2 P3:A0→A1→Prop}{G:Prop}(h:∃ x0 x1,P0 x0 x1∧P1 x0 x1∧P2 x0 x1∧P3 x0 x1)(k:∀ x0 x1,P0 x0 x1→P1 x0 x1→P2 x0 x1→P3 x0 x1→G):G:=h.elim fun x0 h0=>h0.elim fun x1 h1=>k x0 x1 h1.1 h1.2.1 h1.2.2.1 h1.2.2.2
theorem Z24 {A0:Sort _}{A1:Sort _}{P0 P1 P2 P3 P4:A0→A1→Prop}{G:Prop}(h:∃ x0 x1,P0 x0 x1∧P1 x0 x1∧P2 x0 x1∧P3 x0 x1∧P4 x0 x1)(k:∀ x0 x1,P0 x0 x1→P1 x0 x1→P2 x0 x1→P3 x0 x1→P4 x0 x1→G):G:=h.elim fun x0 h0=>h0.elim fun x1 h1=>k x0 x1 h1.1 h1.2.1 h1.2.2.1 h1.2.2.2.1 h1.2.2.2.2
set_option genInjectivity true in
set_option genCtorIdx true in
inductive V where
 | none
 | bool (b:Bool)
 | int (i:Int)
 | str (s:List Nat)
 | tup (vs:List V)
 | rng (a b c:Int)
 | ref (n:Nat)
noncomputable instance:DecidableEq V:=fun J J=>Classical.propDecidable _
set_option genInjectivity true in
set_option genCtorIdx true in
inductive MO where
 | list (vs:List V)
 | frz (vs:List V)
 | dict (es:List (V×V)) (ver:Nat)
abbrev H:=List MO
abbrev jz:=Nat→Option V
abbrev SZ:Nat:=16777216
set_option genInjectivity true in
set_option genCtorIdx true in
inductive D where
 | none
 | bool (b:Bool)
 | int (i:Int)
 | str (s:List Nat)
 | tup (vs:List D)
 | list (vs:List D)
noncomputable instance:DecidableEq D:=fun J J=>Classical.propDecidable _
noncomputable def D.ok:Nat→D→Bool
 | 0,_=>false
 | _+1,.bool _=>false
 | n+1,.tup vs=>vs.all (D.ok n)
 | n+1,.list vs=>vs.all (D.ok n)
 | _+1,_=>true
mutual
inductive Snap (h:H):V→D→Prop
 | none:Snap h .none .none
 | bool (b:Bool):Snap h (.bool b) (.bool b)
 | int (i:Int):Snap h (.int i) (.int i)
 | str (s:List Nat):Snap h (.str s) (.str s)
 | tup {vs:List V} {ds:List D}:Snaps h vs ds→Snap h (.tup vs) (.tup ds)
 | list {n:Nat} {vs:List V} {ds:List D}:h[n]?=some (.list vs)→Snaps h vs ds→Snap h (.ref n) (.list ds)
inductive Snaps (h:H):List V→List D→Prop
 | nil:Snaps h [] []
 | cons {v:V} {vs:List V} {d:D} {ds:List D}:Snap h v d→Snaps h vs ds→Snaps h (v::vs) (d::ds)
end
noncomputable def V.isAtom:V→Bool
 | .int _=>true
 | _=>false
noncomputable def V.isKey:V→Bool
 | .int _=>true
 | .tup vs=>vs.all V.isAtom
 | _=>false
noncomputable def wH (es:List (V×V))(k:V):Option V:=(es.find? fun e=>decide (e.1=k)).map (·.2)
noncomputable def kB (es:List (V×V))(k v:V):List (V×V) :=
 if (wH es k).isSome then es.map (fun e=>if e.1=k then (e.1,v) else e) else es++[(k,v)]
set_option genCtorIdx true in
inductive Bop where | add | sub | mul | fdiv | mod
set_option genCtorIdx true in
inductive Cmp where | eq | ne | lt | le | gt | ge | isIn | notIn | is | isNot
set_option genCtorIdx true in
inductive Bi where | len | range | list | dict | sorted | int | min | max
set_option genCtorIdx true in
inductive Ty where | int | bool | list | tuple | str
set_option genCtorIdx true in
inductive Mt where | append | reverse | pop | dpop | clear | index | update | get | join | startswith
set_option genCtorIdx true in
inductive Tgt where
 | name (i:Nat)
 | tup (is:List Nat)
inductive E where
 | lit (v:V)
 | var (i:Nat)
 | bin (op:Bop) (a b:E)
 | neg (a:E)
 | not (a:E)
 | and (a b:E)
 | or (a b:E)
 | cmp (op:Cmp) (a b:E)
 | cmp2 (op1 op2:Cmp) (a b c:E)
 | sub (a i:E)
 | slice (a lo hi:E)
 | tup (es:List E)
 | list (es:List E)
 | dict0
 | dict1 (k v:E)
 | comp (elt:E) (tgt:Tgt) (iter:E) (cond:Option E)
 | call (f:Nat) (args:List E)
 | bi (b:Bi) (args:List E)
 | isinst (a:E) (t:Ty)
 | meth (m:Mt) (o:E) (args:List E)
inductive S where
 | assign (t:Tgt) (e:E)
 | store (o i e:E)
 | expr (e:E)
 | ite (t:E) (a b:List S)
 | while (t:E) (b:List S)
 | for (t:Tgt) (it:E) (b:List S)
 | ret (e:Option E)
 | raise
set_option genCtorIdx true in
inductive Out where
 | next
 | ret (v:V)
structure Fn where
 arity:Nat
 body:List S
abbrev kO:=Nat→List V→H→(V→H→Prop)→Prop
noncomputable def upd (ρ:jz)(i:Nat)(v:V):jz:=fun j=>if j=i then some v else ρ j
noncomputable def KK (ρ:jz):List Nat→List V→jz
 | i::is,v::vs=>KK (upd ρ i v) is vs
 | _,_=>ρ
def asInt (v:V)(k:Int→Prop):Prop:=match v with | .int i=>k i | _=>False
def asStr (v:V)(k:List Nat→Prop):Prop:=match v with | .str i=>k i | _=>False
def asTup (v:V)(k:List V→Prop):Prop:=match v with | .tup i=>k i | _=>False
def asRef (v:V)(k:Nat→Prop):Prop:=match v with | .ref i=>k i | _=>False
def asBool (v:V)(k:Bool→Prop):Prop:=match v with | .bool i=>k i | _=>False
def arg0 (vs:List V)(k:Prop):Prop:=match vs with | []=>k | _=>False
def arg1 (vs:List V)(k:V→Prop):Prop:=match vs with | [v]=>k v | _=>False
theorem asInt.inv {v:V}{k:Int→Prop}(h:asInt v k):∃ i,v=.int i∧k i:=by cases v <;> first | exact⟨_,rfl,h⟩ | exact h.elim
theorem asInt.mono {v:V}{k k':Int→Prop}(m:∀ i,k i→k' i)(h:asInt v k):asInt v k':=by cases v <;> first | exact m _ h | exact h
theorem asStr.inv {v:V}{k:List Nat→Prop}(h:asStr v k):∃ i,v=.str i∧k i:=by cases v <;> first | exact⟨_,rfl,h⟩ | exact h.elim
theorem asStr.mono {v:V}{k k':List Nat→Prop}(m:∀ i,k i→k' i)(h:asStr v k):asStr v k':=by cases v <;> first | exact m _ h | exact h
theorem asTup.inv {v:V}{k:List V→Prop}(h:asTup v k):∃ i,v=.tup i∧k i:=by cases v <;> first | exact⟨_,rfl,h⟩ | exact h.elim
theorem asTup.mono {v:V}{k k':List V→Prop}(m:∀ i,k i→k' i)(h:asTup v k):asTup v k':=by cases v <;> first | exact m _ h | exact h
theorem asRef.inv {v:V}{k:Nat→Prop}(h:asRef v k):∃ i,v=.ref i∧k i:=by cases v <;> first | exact⟨_,rfl,h⟩ | exact h.elim
theorem asRef.mono {v:V}{k k':Nat→Prop}(m:∀ i,k i→k' i)(h:asRef v k):asRef v k':=by cases v <;> first | exact m _ h | exact h
theorem asBool.inv {v:V}{k:Bool→Prop}(h:asBool v k):∃ i,v=.bool i∧k i:=by cases v <;> first | exact⟨_,rfl,h⟩ | exact h.elim
theorem asBool.mono {v:V}{k k':Bool→Prop}(m:∀ i,k i→k' i)(h:asBool v k):asBool v k':=by cases v <;> first | exact m _ h | exact h
theorem arg0.inv {vs:List V}{k:Prop}(h:arg0 vs k):vs=[]∧k:=by
 cases vs with
 | nil=>exact⟨rfl,h⟩
 | cons _ _=>exact h.elim
theorem arg0.mono {vs:List V}{k k':Prop}(m:k→k')(h:arg0 vs k):arg0 vs k':=by
 obtain⟨rfl,h⟩:=h.inv;exact m h
theorem arg1.inv {vs:List V}{k:V→Prop}(h:arg1 vs k):∃ v,vs=[v]∧k v:=by
 cases vs with
 | nil=>exact h.elim
 | cons v r=>cases r with
  | nil=>exact⟨v,rfl,h⟩
  | cons _ _=>exact h.elim
theorem arg1.mono {vs:List V}{k k':V→Prop}(m:∀ v,k v→k' v)(h:arg1 vs k):arg1 vs k':=by
 obtain⟨v,rfl,h⟩:=h.inv;exact m _ h
def vK (o:Option V)(k:V→Prop):Prop:=match o with | some v=>k v | none=>False
theorem vK.inv {o:Option V}{k:V→Prop}(h:vK o k):∃ v,o=some v∧k v:=by cases o <;> first | exact⟨_,rfl,h⟩ | exact h.elim
theorem vK.mono {o:Option V}{k k':V→Prop}(m:∀ v,k v→k' v)(h:vK o k):vK o k':=by cases o <;> first | exact m _ h | exact h
def bindT (t:Tgt)(v:V)(ρ:jz)(Q:jz→Prop):Prop :=
 match t with
 | .name i=>Q (upd ρ i v)
 | .tup is=>asTup v fun vs=>is.length=vs.length∧Q (KK ρ is vs)
def jab (a b:Int):Prop:=a.natAbs<2 ^ 63∨b.natAbs<2 ^ 63
def AddW (a b:V)(h:H)(Q:V→H→Prop):Prop :=
 match a with
 | .int a=>asInt b fun b=>Q (.int (a+b)) h
 | .str a=>asStr b fun b=>a.length+b.length≤SZ∧Q (.str (a++b)) h
 | .tup a=>asTup b fun b=>a≠[]∧b≠[]∧a.length+b.length≤SZ∧Q (.tup (a++b)) h
 | .ref m=>asRef b fun n=>∃ a b,h[m]?=some (.list a)∧h[n]?=some (.list b)∧a.length+b.length≤SZ∧Q (.ref h.length) (h++[.list (a++b)])
 | _=>False
def MulW (a b:V)(h:H)(Q:V→H→Prop):Prop :=
 match a with
 | .int a=>asInt b fun b=>jab a b∧Q (.int (a * b)) h
 | .ref m=>asInt b fun k=>∃ a,h[m]?=some (.list a)∧0≤k∧k<2 ^ 62∧a.length * k.toNat≤SZ∧Q (.ref h.length) (h++[.list (List.replicate k.toNat a).flatten])
 | _=>False
def BinW (op:Bop)(a b:V)(h:H)(Q:V→H→Prop):Prop :=
 match op with
 | .add=>AddW a b h Q
 | .sub=>asInt a fun a=>asInt b fun b=>Q (.int (a - b)) h
 | .mul=>MulW a b h Q
 | .fdiv=>asInt a fun a=>asInt b fun b=>b≠0∧b.natAbs<1073741824∧Q (.int (a.fdiv b)) h
 | .mod=>asInt a fun a=>asInt b fun b=>b≠0∧Q (.int (a.fmod b)) h
def truth (v:V)(_:H)(Q:Bool→Prop):Prop :=
 match v with
 | .none=>Q false
 | .bool b=>Q b
 | _=>False
def EqG (a b:V)(h:H)(Q:Bool→Prop):Prop:=∃ d₁ d₂,Snap h a d₁∧Snap h b d₂∧D.ok 9 d₁=true∧D.ok 9 d₂=true∧Q (decide (d₁=d₂))
def EqW (a b:V)(h:H)(Q:Bool→Prop):Prop :=
 match a with
 | .bool a=>asBool b fun b=>Q (decide (a=b))
 | a=>EqG a b h Q
def InW (a b:V)(h:H)(Q:Bool→Prop):Prop :=
 asRef b fun n=>match h[n]? with
  | some (.list vs)=>∃ d ds,Snap h a d∧Snaps h vs ds∧D.ok 9 d=true∧(∀ d∈ds,D.ok 9 d=true)∧Q (decide (d∈ds))
  | some (.dict es _)=>a.isKey=true∧Q (decide (a∈es.map (·.1)))
  | some (.frz _)=>False
  | none=>False
def SameW (a b:V)(Q:Bool→Prop):Prop :=
 match b with
 | .none=>Q (decide (a=.none))
 | .bool c=>asBool a fun d=>Q (decide (d=c))
 | _=>False
def CmpW (op:Cmp)(a b:V)(h:H)(Q:Bool→Prop):Prop :=
 match op with
 | .eq=>EqW a b h Q
 | .ne=>EqW a b h (fun r=>Q (!r))
 | .lt=>asInt a fun a=>asInt b fun b=>Q (decide (a<b))
 | .le=>asInt a fun a=>asInt b fun b=>Q (decide (a≤b))
 | .gt=>asInt a fun a=>asInt b fun b=>Q (decide (b<a))
 | .ge=>asInt a fun a=>asInt b fun b=>Q (decide (b≤a))
 | .isIn=>InW a b h Q
 | .notIn=>InW a b h (fun r=>Q (!r))
 | .is=>SameW a b Q
 | .isNot=>SameW a b (fun r=>Q (!r))
def SubW (a i:V)(h:H)(Q:V→Prop):Prop :=
 match a with
 | .tup vs=>asInt i fun k=>∃ v,(0≤k∧k<2 ^ 62)∧vs[k.toNat]?=some v∧Q v
 | .str s=>asInt i fun k=>∃ c,(0≤k∧k<2 ^ 62)∧s[k.toNat]?=some c∧Q (.str [c])
 | .ref n=>match h[n]? with
  | some (.list vs)=>asInt i fun k=>(∃ v,(0≤k∧k<2 ^ 62)∧vs[k.toNat]?=some v∧Q v)∨(∃ v,k = -1∧vs.getLast?=some v∧Q v)
  | some (.frz vs)=>asInt i fun k=>∃ v,(0≤k∧k<2 ^ 62)∧vs[k.toNat]?=some v∧Q v
  | some (.dict es _)=>i.isKey=true∧∃ v,wH es i=some v∧Q v
  | none=>False
 | _=>False
noncomputable def Kz:V→Option Nat
 | .none=>some 0
 | .int k=>if 0≤k∧k<2 ^ 62 then some k.toNat else none
 | _=>none
noncomputable def Kq (n:Nat):V→Option Nat
 | .none=>some n
 | .int k=>if 0≤k∧k<2 ^ 62 then some k.toNat else none
 | _=>none
def SliceW (a lo hi:V)(h:H)(Q:V→H→Prop):Prop :=
 match a with
 | .str s=>∃ i j,Kz lo=some i∧Kq s.length hi=some j∧Q (.str ((s.take j).drop i)) h
 | .ref n=>∃ vs i j,(h[n]?=some (.list vs)∨h[n]?=some (.frz vs))∧Kz lo=some i∧Kq vs.length hi=some j∧Q (.ref h.length) (h++[.list ((vs.take j).drop i)])
 | _=>False
noncomputable def yK (a c:Int):Nat→List V
 | 0=>[]
 | n+1=>.int a::yK (a+c) c n
noncomputable def kC (a b c:Int):Nat:=if a<b then ((b - a - 1) / c+1).toNat else 0
noncomputable def kF (a b c:Int):List V:=yK a c (kC a b c)
def jH (a:Int):Prop := -(2 ^ 31)≤a∧a<2 ^ 31
def LenW (v:V)(h:H)(Q:V→H→Prop):Prop :=
 match v with
 | .str s=>Q (.int s.length) h
 | .tup vs=>Q (.int vs.length) h
 | .ref n=>match h[n]? with
  | some (.list vs)=>Q (.int vs.length) h
  | some (.frz vs)=>Q (.int vs.length) h
  | some (.dict _ _)=>False
  | none=>False
 | _=>False
def RangeW (vs:List V)(h:H)(Q:V→H→Prop):Prop :=
 match vs with
 | [a]=>asInt a fun b=>jH b∧Q (.rng 0 b 1) h
 | [a,b]=>asInt a fun a=>asInt b fun b=>jH a∧jH b∧Q (.rng a b 1) h
 | [a,b,c]=>asInt a fun a=>asInt b fun b=>asInt c fun c=>jH a∧jH b∧jH c∧0<c∧Q (.rng a b c) h
 | _=>False
def ListW (v:V)(h:H)(Q:V→H→Prop):Prop :=
 match v with
 | .ref n=>match h[n]? with
  | some (.list vs)=>vs.length≤SZ∧Q (.ref h.length) (h++[.list vs])
  | some (.frz _)=>False
  | some (.dict _ _)=>False
  | none=>False
 | .rng a b c=>kC a b c≤SZ∧Q (.ref h.length) (h++[.list (kF a b c)])
 | _=>False
noncomputable def Jo (x:Nat×Nat):V:=.tup [.int x.1,.int x.2]
def jX (a b:Nat×Nat):Prop:=a.1<b.1∨(a.1=b.1∧a.2<b.2)
noncomputable def Zf (x:(Nat×Nat)×List (List Nat)):V:=.tup (.int x.1.1::.int x.1.2::x.2.map V.str)
def Wp (h:H)(n:Nat)(ks:List V):Prop:=(∃ es ver,h[n]?=some (.dict es ver)∧es.map (·.1)=ks)∨h[n]?=some (.list ks)
def SortW (v:V)(h:H)(Q:V→H→Prop):Prop :=
 asRef v fun n=>∃ vs,Wp h n vs ∧
  (False ∨
   False ∨
   (∃ ks,vs=List.map Zf ks∧(ks.map (·.1)).Nodup∧∀ ks':List ((Nat×Nat)×List (List Nat)),ks'.Perm ks→ks'.Pairwise (fun a b=>¬ jX b.1 a.1)→Q (.ref h.length) (h++[.list (ks'.map Zf)])) ∨
   False)
def BiW (b:Bi)(vs:List V)(h:H)(Q:V→H→Prop):Prop :=
 match b with
 | .len=>arg1 vs fun v=>LenW v h Q
 | .range=>RangeW vs h Q
 | .list=>arg1 vs fun v=>ListW v h Q
 | .dict=>False
 | .sorted=>arg1 vs fun v=>SortW v h Q
 | .int=>arg1 vs fun v=>asBool v fun b=>Q (.int (if b then 1 else 0)) h
 | .min=>match vs with | [a,b]=>asInt a fun a=>asInt b fun b=>Q (.int (min a b)) h | _=>False
 | .max=>match vs with | [a,b]=>asInt a fun a=>asInt b fun b=>Q (.int (max a b)) h | _=>False
noncomputable def Wu:Ty→Ty→Bool
 | .int,.int=>true
 | .bool,.bool=>true
 | .list,.list=>true
 | .tuple,.tuple=>true
 | .str,.str=>true
 | _,_=>false
def IsW (v:V)(t:Ty)(h:H)(Q:Bool→Prop):Prop :=
 match v with
 | .none=>Q false
 | .bool _=>Q (Wu t .bool || Wu t .int)
 | .int _=>Q (Wu t .int)
 | .str _=>Q (Wu t .str)
 | .tup _=>Q (Wu t .tuple)
 | .rng ..=>False
 | .ref n=>match h[n]? with
  | some (.list _)=>Q (Wu t .list)
  | some (.dict _ _)=>Q false
  | some (.frz _)=>False
  | none=>False
def yo (m:Mt)(v:V)(h:H):Prop :=
 match m with
 | .append=>asRef v fun n=>∃ vs,h[n]?=some (.list vs)
 | .reverse=>asRef v fun n=>∃ vs,h[n]?=some (.list vs)
 | .clear=>asRef v fun n=>∃ vs,h[n]?=some (.list vs)
 | .index=>asRef v fun n=>∃ vs,h[n]?=some (.list vs)
 | .pop=>asRef v fun n=>∃ vs,h[n]?=some (.list vs)
 | .dpop=>asRef v fun n=>∃ es ver,h[n]?=some (.dict es ver)
 | .update=>asRef v fun n=>∃ es ver,h[n]?=some (.dict es ver)
 | .get=>asRef v fun n=>∃ es ver,h[n]?=some (.dict es ver)
 | .join=>asStr v fun J=>True
 | .startswith=>asStr v fun J=>True
noncomputable def zK:List V→Option (List (List Nat))
 | []=>some []
 | .str s::r=>(zK r).map (s::·)
 | _::_=>none
noncomputable def zb (sep:List Nat):List (List Nat)→List Nat
 | []=>[]
 | [x]=>x
 | x::y::r=>x++sep++zb sep (y::r)
def MethW (m:Mt)(o:V)(args:List V)(h:H)(Q:V→H→Prop):Prop :=
 match m with
 | .append=>asRef o fun n=>arg1 args fun v=>∃ vs,h[n]?=some (.list vs)∧vs.length<SZ∧Q .none (h.set n (.list (vs++[v])))
 | .reverse=>asRef o fun n=>arg0 args (∃ vs,h[n]?=some (.list vs)∧Q .none (h.set n (.list vs.reverse)))
 | .clear=>False
 | .pop=>False
 | .join=>asStr o fun sep=>arg1 args fun v=>asRef v fun n=>∃ vs xs,h[n]?=some (.list vs)∧zK vs=some xs∧sep=[]∧(xs.map List.length).sum≤SZ∧Q (.str (zb sep xs)) h
 | .dpop=>False
 | .index=>asRef o fun n=>arg1 args fun v=>asStr v fun s=>∃ (l:List (List Nat)) (k:Nat),h[n]?=some (.list (l.map V.str))∧l[k]?=some s∧(∀ j,j<k→l[j]?≠some s)∧Q (.int k) h
 | .update=>False
 | .get=>False
 | .startswith=>asStr o fun a=>arg1 args fun b=>asStr b fun b=>Q (.bool (decide (b <+: a))) h
def StoreW (o i v:V)(h:H)(Q:H→Prop):Prop :=
 asRef o fun n=>match h[n]? with
  | some (.list vs)=>asInt i fun k=>0≤k∧k<2 ^ 62∧k.toNat<vs.length∧Q (h.set n (.list (vs.set k.toNat v)))
  | some (.dict es _)=>i.isKey=true∧es.length<SZ∧∀ ver,Q (h.set n (.dict (kB es i v) ver))
  | some (.frz _)=>False
  | none=>False
set_option genCtorIdx true in
inductive It where
 | vals (vs:List V)
 | seq (n i:Nat)
 | keys (n ver len i:Nat)
def IterW (v:V)(h:H)(Q:It→Prop):Prop :=
 match v with
 | .tup vs=>Q (.vals vs)
 | .rng a b c=>Q (.vals (kF a b c))
 | .ref n=>match h[n]? with
  | some (.list _)=>Q (.seq n 0)
  | some (.frz _)=>False
  | some (.dict es ver)=>Q (.keys n ver es.length 0)
  | none=>False
 | _=>False
def NextW (it:It)(h:H)(stop:Prop)(item:V→It→Prop):Prop :=
 match it with
 | .vals []=>stop
 | .vals (v::vs)=>item v (.vals vs)
 | .seq n i=>match h[n]? with
  | some (.list vs)=>match vs[i]? with
   | none=>stop
   | some v=>item v (.seq n (i+1))
  | some (.frz _)=>False
  | some (.dict _ _)=>False
  | none=>False
 | .keys n ver len i=>match h[n]? with
  | some (.dict es ver')=>ver'=ver∧es.length=len∧match es[i]? with
   | none=>stop
   | some e=>item e.1 (.keys n ver len (i+1))
  | some (.frz _)=>False
  | some (.list _)=>False
  | none=>False
noncomputable def YC (body:V→jz→H→(Out→jz→H→Prop)→Prop):Nat→It→jz→H→(Out→jz→H→Prop)→Prop
 | 0,_,_,_,_=>False
 | f+1,it,ρ,h,Q=>NextW it h (Q .next ρ h) fun v it' =>
   body v ρ h fun o ρ' h'=>match o with
    | .next=>YC body f it' ρ' h' Q
    | .ret v=>Q (.ret v) ρ' h'
noncomputable def yO (test:jz→H→(Bool→H→Prop)→Prop)(body:jz→H→(Out→jz→H→Prop)→Prop):Nat→jz→H→(Out→jz→H→Prop)→Prop
 | 0,_,_,_=>False
 | f+1,ρ,h,Q=>test ρ h fun b h'=>match b with
   | true=>body ρ h' fun o ρ'' h''=>(match o with
    | .next=>yO test body f ρ'' h'' Q
    | .ret v=>Q (.ret v) ρ'' h'')
   | false=>Q .next ρ h'
noncomputable def Jn (turn:V→H→(Option V→H→Prop)→Prop):Nat→It→H→List V→(List V→H→Prop)→Prop
 | 0,_,_,_,_=>False
 | f+1,it,h,out,Q=>NextW it h (Q out h) fun v it' =>
   turn v h fun r h'=>match r with
    | some x=>out.length<SZ∧Jn turn f it' h' (out++[x]) Q
    | none=>Jn turn f it' h' out Q
mutual
noncomputable def jW (C:kO):E→jz→H→(V→H→Prop)→Prop
 | .lit v,_,h,Q=>Q v h
 | .var i,ρ,h,Q=>vK (ρ i) fun v=>Q v h
 | .bin op a b,ρ,h,Q=>jW C a ρ h fun va h₁=>jW C b ρ h₁ fun vb h₂=>BinW op va vb h₂ Q
 | .neg a,ρ,h,Q=>jW C a ρ h fun v h₁=>asInt v fun i=>Q (.int (-i)) h₁
 | .not a,ρ,h,Q=>jW C a ρ h fun v h₁=>truth v h₁ fun b=>Q (.bool (!b)) h₁
 | .and a b,ρ,h,Q=>jW C a ρ h fun v h₁=>truth v h₁ fun t=>match t with | true=>jW C b ρ h₁ Q | false=>Q v h₁
 | .or a b,ρ,h,Q=>jW C a ρ h fun v h₁=>truth v h₁ fun t=>match t with | true=>Q v h₁ | false=>jW C b ρ h₁ Q
 | .cmp op a b,ρ,h,Q=>jW C a ρ h fun va h₁=>jW C b ρ h₁ fun vb h₂=>CmpW op va vb h₂ fun r=>Q (.bool r) h₂
 | .cmp2 op1 op2 a b c,ρ,h,Q=>jW C a ρ h fun va h₁=>jW C b ρ h₁ fun vb h₂=>CmpW op1 va vb h₂ fun r=>match r with
  | true=>jW C c ρ h₂ fun vc h₃=>CmpW op2 vb vc h₃ fun r=>Q (.bool r) h₃
  | false=>Q (.bool false) h₂
 | .sub a i,ρ,h,Q=>jW C a ρ h fun va h₁=>jW C i ρ h₁ fun vi h₂=>SubW va vi h₂ fun v=>Q v h₂
 | .slice a lo hi,ρ,h,Q=>jW C a ρ h fun va h₁=>jW C lo ρ h₁ fun vl h₂=>jW C hi ρ h₂ fun vh h₃=>SliceW va vl vh h₃ Q
 | .tup es,ρ,h,Q=>wpEs C es ρ h fun vs h₁=>Q (.tup vs) h₁
 | .list es,ρ,h,Q=>wpEs C es ρ h fun vs h₁=>Q (.ref h₁.length) (h₁++[.list vs])
 | .dict0,_,h,Q=>∀ ver,Q (.ref h.length) (h++[.dict [] ver])
 | .dict1 k v,ρ,h,Q=>jW C k ρ h fun vk h₁=>jW C v ρ h₁ fun vv h₂=>vk.isKey=true∧∀ ver,Q (.ref h₂.length) (h₂++[.dict [(vk,vv)] ver])
 | .comp elt tgt iter cond,ρ,h,Q=>jW C iter ρ h fun vi h₁=>IterW vi h₁ fun it=>∃ f,
   Jn (fun v h k=>bindT tgt v ρ fun ρ'=>wpO C cond ρ' h fun b h₂=>match b with
    | true=>jW C elt ρ' h₂ fun x h₃=>k (some x) h₃
    | false=>k none h₂) f it h₁ [] fun out h₂=>Q (.ref h₂.length) (h₂++[.list out])
 | .call f args,ρ,h,Q=>wpEs C args ρ h fun vs h₁=>C f vs h₁ Q
 | .bi b args,ρ,h,Q=>wpEs C args ρ h fun vs h₁=>BiW b vs h₁ Q
 | .isinst a t,ρ,h,Q=>jW C a ρ h fun v h₁=>IsW v t h₁ fun r=>Q (.bool r) h₁
 | .meth m o args,ρ,h,Q=>jW C o ρ h fun vo h₁=>yo m vo h₁∧wpEs C args ρ h₁ fun vs h₂=>MethW m vo vs h₂ Q
noncomputable def wpEs (C:kO):List E→jz→H→(List V→H→Prop)→Prop
 | [],_,h,Q=>Q [] h
 | e::es,ρ,h,Q=>jW C e ρ h fun v h₁=>wpEs C es ρ h₁ fun vs h₂=>Q (v::vs) h₂
noncomputable def wpO (C:kO):Option E→jz→H→(Bool→H→Prop)→Prop
 | none,_,h,Q=>Q true h
 | some t,ρ,h,Q=>wpT C t ρ h Q
noncomputable def wpT (C:kO):E→jz→H→(Bool→H→Prop)→Prop
 | .not a,ρ,h,Q=>wpT C a ρ h fun b h₁=>Q (!b) h₁
 | .and a b,ρ,h,Q=>wpT C a ρ h fun t h₁=>match t with | true=>wpT C b ρ h₁ Q | false=>Q false h₁
 | .or a b,ρ,h,Q=>wpT C a ρ h fun t h₁=>match t with | true=>Q true h₁ | false=>wpT C b ρ h₁ Q
 | .cmp op a b,ρ,h,Q=>jW C a ρ h fun va h₁=>jW C b ρ h₁ fun vb h₂=>CmpW op va vb h₂ fun r=>Q r h₂
 | .cmp2 op1 op2 a b c,ρ,h,Q=>jW C a ρ h fun va h₁=>jW C b ρ h₁ fun vb h₂=>CmpW op1 va vb h₂ fun r=>match r with
  | true=>jW C c ρ h₂ fun vc h₃=>CmpW op2 vb vc h₃ fun r=>Q r h₃
  | false=>Q false h₂
 | .lit v,_,h,Q=>truth v h fun b=>Q b h
 | .var i,ρ,h,Q=>vK (ρ i) fun v=>truth v h fun b=>Q b h
 | .call f args,ρ,h,Q=>wpEs C args ρ h fun vs h₁=>C f vs h₁ fun v h₂=>truth v h₂ fun b=>Q b h₂
 | .isinst a t,ρ,h,Q=>jW C a ρ h fun v h₁=>IsW v t h₁ fun r=>Q r h₁
 | .meth m o args,ρ,h,Q=>jW C o ρ h fun vo h₁=>yo m vo h₁∧wpEs C args ρ h₁ fun vs h₂=>MethW m vo vs h₂ fun v h₃=>truth v h₃ fun b=>Q b h₃
 | _,_,_,_=>False
end
mutual
noncomputable def wpS (C:kO):S→jz→H→(Out→jz→H→Prop)→Prop
 | .assign t e,ρ,h,Q=>jW C e ρ h fun v h₁=>bindT t v ρ fun ρ'=>Q .next ρ' h₁
 | .store o i e,ρ,h,Q=>jW C e ρ h fun v h₁=>jW C o ρ h₁ fun vo h₂=>jW C i ρ h₂ fun vi h₃=>StoreW vo vi v h₃ fun h₄=>Q .next ρ h₄
 | .expr e,ρ,h,Q=>jW C e ρ h fun J h₁=>Q .next ρ h₁
 | .ite t a b,ρ,h,Q=>wpT C t ρ h fun c h₁=>match c with | true=>wpB C a ρ h₁ Q | false=>wpB C b ρ h₁ Q
 | .while t b,ρ,h,Q=>∃ f,yO (fun ρ h k=>wpT C t ρ h k) (fun ρ h k=>wpB C b ρ h k) f ρ h Q
 | .for t it b,ρ,h,Q=>jW C it ρ h fun v h₁=>IterW v h₁ fun i=>∃ f,
   YC (fun v ρ h k=>bindT t v ρ fun ρ'=>wpB C b ρ' h k) f i ρ h₁ Q
 | .ret none,ρ,h,Q=>Q (.ret .none) ρ h
 | .ret (some e),ρ,h,Q=>jW C e ρ h fun v h₁=>Q (.ret v) ρ h₁
 | .raise,_,_,_=>False
noncomputable def wpB (C:kO):List S→jz→H→(Out→jz→H→Prop)→Prop
 | [],ρ,h,Q=>Q .next ρ h
 | s::r,ρ,h,Q=>wpS C s ρ h fun o ρ' h'=>match o with
  | .next=>wpB C r ρ' h' Q
  | .ret v=>Q (.ret v) ρ' h'
end
noncomputable def KR (vs:List V):jz:=fun i=>vs[i]?
noncomputable def Out.val:Out→V
 | .next=>.none
 | .ret v=>v
noncomputable def Calls (Φ:Nat→Option Fn):Nat→kO
 | 0=>fun J J J J=>False
 | d+1=>fun f vs h Q=>∃ fn,Φ f=some fn∧fn.arity=vs.length∧wpB (Calls Φ d) fn.body (KR vs) h fun o J h'=>Q o.val h'
end Tw
end
section
namespace Tw
open PySem PySem.SeqAt
theorem SZ_eq:SZ=sizeLine:=rfl
def yu (o:Obj):Prop:=(o.cls=.type "tuple"∧∃ xs n,o.data=.seq xs n)∨(o.cls=.type "range"∧∃ vs,o.data=.fields vs)
def Imm (h h':Heap):Prop:=∀ b o,h.get? b=some o→yu o→h'.get? b=some o
theorem Imm.refl (h:Heap):Imm h h:=fun J J e J=>e
theorem Imm.trans {h₁ h₂ h₃:Heap}(x:Imm h₁ h₂)(y:Imm h₂ h₃):Imm h₁ h₃:=fun b o e c=>y b o (x b o e c) c
theorem Imm.of_ext {h h':Heap}(x:∀ b o,h.get? b=some o→h'.get? b=some o):Imm h h':=fun b o e J=>x b o e
theorem Imm.of_but {h h':Heap}{a:Addr}(x:Heap.ExtBut a h h')(hn:∀ o,h.get? a=some o→¬ yu o):Imm h h' :=
 fun b o e c=>by
  by_cases hb:b=a
  ·subst hb;exact absurd c (hn o e)
  ·exact x b o hb e
theorem ym {o:Obj}{es ep}(h:o.data=.dict es ep):¬ yu o:=by
 rintro(⟨_,_,_,e⟩ | ⟨_,_,e⟩) <;> rw[h] at e <;> cases e
theorem Yd {o:Obj}{v}(h:o.data=.cell v):¬ yu o:=by
 rintro(⟨_,_,_,e⟩ | ⟨_,_,e⟩) <;> rw[h] at e <;> cases e
theorem wD {o:Obj}(h:o.cls=.type "list"):¬ yu o:=by
 rintro(⟨e,_⟩ | ⟨e,_⟩) <;> rw[h] at e <;> injection e with e <;> exact absurd e (by decide)
theorem wC {o:Obj}{vs}{T:String}(h:o.data=.fields vs)(hc:o.cls=.type T)(hT:T≠"range"):¬ yu o:=by
 rintro(⟨_,_,_,e⟩ | ⟨e,_⟩)
 ·rw[h] at e;cases e
 ·rw[hc] at e;injection e with e;exact hT e
mutual
inductive RepV (ι:List Addr)(h:Heap):Value→V→Prop
 | none:RepV ι h .none .none
 | bool (b:Bool):RepV ι h (.bool b) (.bool b)
 | int (i:Int) (t:Tok):RepV ι h (.int i t) (.int i)
 | str (x:Str) (t:Tok):x.length≤SZ→RepV ι h (.str x t) (.str x.cps.toList)
 | tup {a:Addr} {n:Nat} {vals:Array Value} {vs:List V}:h.get? a=some { cls:=.type "tuple",data:=.seq vals n }→vals.size≤SZ →
   RepVs ι h vals.toList vs→RepV ι h (.ref a) (.tup vs)
 | rng {a:Addr} {x y z:Int} {t u v:Tok}:IsRange h a x y z t u v→(jH x∧jH y∧jH z∧0<z)→RepV ι h (.ref a) (.rng x y z)
 | ref {a:Addr} {n:Nat}:ι[n]?=some a→RepV ι h (.ref a) (.ref n)
inductive RepVs (ι:List Addr)(h:Heap):List Value→List V→Prop
 | nil:RepVs ι h [] []
 | cons {x:Value} {xs:List Value} {v:V} {vs:List V}:RepV ι h x v→RepVs ι h xs vs→RepVs ι h (x::xs) (v::vs)
end
theorem RepV.mono {ι ι':List Addr}{h h':Heap}(hi:ι <+: ι')(hm:Imm h h'){x:Value}{v:V}(r:RepV ι h x v):RepV ι' h' x v :=
 RepV.rec (motive_1:=fun x v J=>RepV ι' h' x v) (motive_2:=fun xs vs J=>RepVs ι' h' xs vs) .none .bool .int (fun x t z=>.str x t z) (fun g z J ih=>.tup (hm _ _ g (.inl ⟨rfl,_,_,rfl⟩)) z ih)
  (fun g z=>.rng (hm _ _ g (.inr ⟨rfl,_,rfl⟩)) z) (fun g=>.ref (by
   obtain⟨t,rfl⟩:=hi
   rw[List.getElem?_append_left (List.getElem?_eq_some_iff.mp g).1];exact g)) .nil (fun J J a b=>.cons a b) r
theorem RepVs.mono {ι ι':List Addr}{h h':Heap}(hi:ι <+: ι')(hm:Imm h h'){xs:List Value}{vs:List V}(r:RepVs ι h xs vs):RepVs ι' h' xs vs :=
 RepVs.rec (motive_1:=fun J J J=>True) (motive_2:=fun xs vs J=>RepVs ι' h' xs vs) trivial (fun J=>trivial) (fun J J=>trivial) (fun J J J=>trivial) (fun J J J J=>trivial) (fun J J=>trivial) (fun J=>trivial)
  .nil (fun g J J ih=>.cons (g.mono hi hm) ih) r
section
variable {ι:List Addr}{h:Heap}
theorem RepVs.length {xs:List Value}{vs:List V}(r:RepVs ι h xs vs):xs.length=vs.length:=by
 induction xs generalizing vs with
 | nil=>cases r;rfl
 | cons x xs ih=>cases r with | cons _ r=>simp [ih r]
theorem RepVs.append {xs ys:List Value}{vs ws:List V}(r:RepVs ι h xs vs)(q:RepVs ι h ys ws):RepVs ι h (xs++ys) (vs++ws):=by
 induction xs generalizing vs with
 | nil=>cases r;exact q
 | cons x xs ih=>cases r with | cons g r=>exact .cons g (ih r)
theorem RepVs.reverse {xs:List Value}{vs:List V}(r:RepVs ι h xs vs):RepVs ι h xs.reverse vs.reverse:=by
 induction xs generalizing vs with
 | nil=>cases r;exact .nil
 | cons x xs ih=>cases r with | cons g r=>simpa using (ih r).append (.cons g .nil)
theorem RepVs.get {xs:List Value}{vs:List V}(r:RepVs ι h xs vs){k:Nat}{v:V}(e:vs[k]?=some v):∃ x,xs[k]?=some x∧RepV ι h x v:=by
 induction xs generalizing vs k with
 | nil=>cases r;simp at e
 | cons x xs ih =>
  cases r with
  | cons g r =>
   cases k with
   | zero=>simp at e;subst e;exact⟨x,rfl,g⟩
   | succ k=>simpa using ih r (by simpa using e)
theorem RepVs.get' {xs:List Value}{vs:List V}(r:RepVs ι h xs vs){k:Nat}{x:Value}(e:xs[k]?=some x):∃ v,vs[k]?=some v∧RepV ι h x v:=by
 induction xs generalizing vs k with
 | nil=>simp at e
 | cons y xs ih =>
  cases r with
  | cons g r =>
   cases k with
   | zero=>simp at e;subst e;exact⟨_,rfl,g⟩
   | succ k=>simpa using ih r (by simpa using e)
theorem RepVs.take {xs:List Value}{vs:List V}(r:RepVs ι h xs vs)(k:Nat):RepVs ι h (xs.take k) (vs.take k):=by
 induction xs generalizing vs k with
 | nil=>cases r;simpa using RepVs.nil
 | cons x xs ih =>
  cases r with
  | cons g r =>
   cases k with
   | zero=>simpa using RepVs.nil
   | succ k=>simpa using RepVs.cons g (ih r k)
theorem RepVs.drop {xs:List Value}{vs:List V}(r:RepVs ι h xs vs)(k:Nat):RepVs ι h (xs.drop k) (vs.drop k):=by
 induction xs generalizing vs k with
 | nil=>cases r;simpa using RepVs.nil
 | cons x xs ih =>
  cases r with
  | cons g r =>
   cases k with
   | zero=>simpa using RepVs.cons g r
   | succ k=>simpa using ih r k
theorem RepVs.set {xs:List Value}{vs:List V}(r:RepVs ι h xs vs)(k:Nat){x:Value}{v:V}(g:RepV ι h x v):RepVs ι h (xs.set k x) (vs.set k v):=by
 induction xs generalizing vs k with
 | nil=>cases r;simpa using RepVs.nil
 | cons y xs ih =>
  cases r with
  | cons g' r =>
   cases k with
   | zero=>simpa using RepVs.cons g r
   | succ k=>simpa using RepVs.cons g' (ih r k)
theorem RepV.strInv {x:Value}{s:List Nat}(r:RepV ι h x (.str s)):∃ y t,x=.str y t∧y.cps.toList=s∧y.length≤SZ:=by
 cases r with | str y t z=>exact⟨y,t,rfl,rfl,z⟩
theorem RepV.noneI {x:Value}(r:RepV ι h x .none):x=.none:=by cases r;rfl
theorem RepV.boolI {x:Value}{b:Bool}(r:RepV ι h x (.bool b)):x=.bool b:=by cases r;rfl
theorem RepV.intI {x:Value}{i:Int}(r:RepV ι h x (.int i)):∃ t,x=.int i t:=by cases r;exact⟨_,rfl⟩
theorem RepV.tupI {x:Value}{vs:List V}(r:RepV ι h x (.tup vs)):∃ a n vals,x=.ref a∧h.get? a=some { cls:=.type "tuple",data:=.seq vals n }∧vals.size≤SZ∧RepVs ι h vals.toList vs:=by
 cases r with | tup g z r=>exact⟨_,_,_,rfl,g,z,r⟩
theorem RepV.rngI {v:Value}{x y z:Int}(r:RepV ι h v (.rng x y z)):∃ a t u w,v=.ref a∧IsRange h a x y z t u w∧jH x∧jH y∧jH z∧0<z:=by
 cases r with | rng g z=>exact⟨_,_,_,_,rfl,g,z⟩
theorem RepV.refI {x:Value}{n:Nat}(r:RepV ι h x (.ref n)):∃ a,x=.ref a∧ι[n]?=some a:=by
 cases r with | ref g=>exact⟨_,rfl,g⟩
theorem RepVs.nilI {xs:List Value}(r:RepVs ι h xs []):xs=[]:=by cases r;rfl
theorem RepVs.consI {xs:List Value}{v:V}{vs:List V}(r:RepVs ι h xs (v::vs)):∃ x ys,xs=x::ys∧RepV ι h x v∧RepVs ι h ys vs:=by
 cases r with | cons g r=>exact⟨_,_,rfl,g,r⟩
theorem RepVs.oneI {xs:List Value}{v:V}(r:RepVs ι h xs [v]):∃ x,xs=[x]∧RepV ι h x v:=by
 obtain⟨x,ys,rfl,g,r⟩:=r.consI
 exact⟨x,by rw[r.nilI],g⟩
theorem RepV.strOf {y:Str}{t:Tok}{s:List Nat}(e:y.cps.toList=s)(z:y.length≤SZ):RepV ι h (.str y t) (.str s):=e▸.str y t z
end
noncomputable def hashA (w:World):V→Int
 | .int i=>hashInt i
 | .str s=>hashStr w ⟨s.toArray⟩
 | _=>0
noncomputable def yJ (w:World):V→Int
 | .tup vs=>reduceHash (Builtin.Tuple.tupleHashOf (vs.map (hashA w)))
 | v=>hashA w v
inductive RepEs (w:World)(ι:List Addr)(h:Heap):List DictEntry→List (V×V)→Prop
 | nil:RepEs w ι h [] []
 | cons {e:DictEntry} {es:List DictEntry} {k v:V} {r:List (V×V)}:e.hash=yJ w k→RepV ι h e.key k→RepV ι h e.val v→k.isKey=true→RepEs w ι h es r→RepEs w ι h (e::es) ((k,v)::r)
theorem RepEs.mono {w:World}{ι ι':List Addr}{h h':Heap}(hi:ι <+: ι')(hm:Imm h h'){es:List DictEntry}{r:List (V×V)}(x:RepEs w ι h es r):RepEs w ι' h' es r:=by
 induction x with
 | nil=>exact .nil
 | cons a b c d _ ih=>exact .cons a (b.mono hi hm) (c.mono hi hm) d ih
noncomputable def RepO (w:World)(ι:List Addr)(h:Heap)(a:Addr):MO→Prop
 | .list vs=>∃ vals n,h.get? a=some { cls:=.type "list",data:=.seq vals n }∧RepVs ι h vals.toList vs∧vs.length≤SZ
 | .frz vs=>∃ vals,h.IsList a vals∧RepVs ι h vals.toList vs∧vs.length≤SZ
 | .dict es n=>∃ ents,h.get? a=some { cls:=.type "dict",data:=.dict ents n }∧RepEs w ι h ents.toList es∧(es.map (·.1)).Nodup∧es.length≤SZ
theorem RepO.mono {w:World}{ι ι':List Addr}{h h':Heap}{a:Addr}{o:MO}(hi:ι <+: ι')(hm:Imm h h')(ha:∀ o,h.get? a=some o→h'.get? a=some o)(x:RepO w ι h a o):RepO w ι' h' a o:=by
 cases o with
 | list vs=>refine wZ x fun vals n g r z=>?_;exact⟨vals,n,ha _ g,r.mono hi hm,z⟩
 | frz vs=>refine kL x fun vals zb1 r z=>?_;obtain⟨o,g,c⟩:=zb1;exact⟨vals,⟨o,ha _ g,c⟩,r.mono hi hm,z⟩
 | dict es n=>refine kL x fun ents g r z=>?_;exact⟨ents,ha _ g,r.mono hi hm,z⟩
theorem RepO.get {w:World}{ι:List Addr}{h:Heap}{a:Addr}{o:MO}(x:RepO w ι h a o):∃ ob,h.get? a=some ob∧¬ yu ob:=by
 cases o with
 | list vs=>refine wZ x fun vals n g r z=>?_;exact⟨_,g,wD rfl⟩
 | frz vs=>refine kL x fun vals zc2 r z=>?_;obtain⟨o,g,c,_⟩:=zc2;exact⟨_,g,wD c⟩
 | dict es n=>refine kL x fun ents g r z=>?_;exact⟨_,g,ym rfl⟩
structure Cx where
 w:World
 env:Env
 nm:Str→Option Nat
 st:Str→Bool
 P:Addr→Obj→Prop
 s0:Shared
 scr:Addr
def VarAt (env:Env)(h:Heap)(x:Str)(val:Value):Prop :=
 (env.kindOf x=some .local∧∃ m,h.Ns env.locals m∧m x=some val) ∨
 ((env.kindOf x=some .cell∨env.kindOf x=some .free)∧∃ c,env.cells.lookup x=some c∧h.IsCell c (some val))
def Mk (o:Obj):Prop:=o.slots=#[none]∧∃ es n,o.data=.dict es n
def Kp (s0:Shared)(h:Heap)(a:Addr)(o:Obj):Prop:=h.get? a=some o∨(s0.heap.get? a=none∧Mk o∧∃ sl,h.get? a=some { o with slots:=sl })
theorem Kp.obj {s0:Shared}{h:Heap}{a:Addr}{o:Obj}(x:Kp s0 h a o):∃ o',h.get? a=some o'∧o'.data=o.data:=by
 rcases x with e | ⟨_,_,sl,e⟩
 ·exact⟨o,e,rfl⟩
 ·exact⟨_,e,rfl⟩
theorem Kp.lt {s0:Shared}{h:Heap}{a:Addr}{o:Obj}(x:Kp s0 h a o):a<h.objs.size:=let ⟨_,e,_⟩:=x.obj;Heap.lt_size e
theorem Kp.mono {s0:Shared}{h h':Heap}{a:Addr}{o:Obj}(x:Kp s0 h a o)(hk:∀ o,h.get? a=some o→h'.get? a=some o):Kp s0 h' a o :=
 x.imp (hk _) fun⟨e1,e2,sl,e⟩=>⟨e1,e2,sl,hk _ e⟩
theorem Kp.base {s0:Shared}{h:Heap}{a:Addr}{o:Obj}(x:Kp s0 h a o)(e:s0.heap.get? a=some o):h.get? a=some o:=by
 rcases x with x | ⟨x,_⟩
 ·exact x
 ·rw[x] at e;cases e
theorem Kp.exact {s0:Shared}{h:Heap}{a:Addr}{o:Obj}(x:Kp s0 h a o)(hd:¬ Mk o):h.get? a=some o :=
 x.elim id fun⟨_,e,_⟩=>absurd e hd
theorem wP {o:Obj}{vs}(h:o.data=.fields vs):¬ Mk o:=fun⟨_,_,_,e⟩=>by rw[h] at e;cases e
theorem Uz {o:Obj}{vs n}(h:o.data=.seq vs n):¬ Mk o:=fun⟨_,_,_,e⟩=>by rw[h] at e;cases e
theorem notMk_new {o:Obj}(h:o.slots=#[]):¬ Mk o:=fun⟨e,_⟩=>by rw[h] at e;cases e
theorem Kp.ns {s0:Shared}{h h':Heap}{a:Addr}{m:Str→Option Value}(x:∀ o,h.get? a=some o→Kp s0 h' a o)(n:h.Ns a m):h'.Ns a m:=by
 refine Z32 n fun o es ep g d r=>?_
 refine jo ((x o g).obj) fun o' g' d'=>?_
 exact⟨o',es,ep,g',d'.trans d,r⟩
structure CxOk (cx:Cx):Prop where
 fn:cx.env.scope.kind=.function
 gl:cx.env.globals=mainGlobals
 bl:cx.env.builtins=builtinsNs
 inj:∀ x y i,cx.nm x=some i→cx.nm y=some i→x=y
 kinds:∀ x i,cx.nm x=some i→cx.env.kindOf x=some .local∨((cx.env.kindOf x=some .cell∨cx.env.kindOf x=some .free)∧∃ c,cx.env.cells.lookup x=some c)
 plain:∀ x i,cx.nm x=some i→(x == ("__debug__":Str))=false∧(x == ("__classdict__":Str))=false
 cinj:∀ x y c,cx.env.cells.lookup x=some c→cx.env.cells.lookup y=some c→x=y
 own:∀ x c o,cx.st x=true→cx.env.kindOf x=some .cell→cx.env.cells.lookup x=some c→¬ cx.P c o
 loc:∀ o,¬ cx.P cx.env.locals o
 base:∀ a o,cx.s0.heap.get? a=some o→a≠cx.scr→cx.P a o
 lowL:sysModules<cx.env.locals
structure St (cx:Cx)(ι:List Addr)(ρ:jz)(H:H)(s:Shared):Prop where
 same:∃ h tk,s={ cx.s0 with heap:=h,toks:=tk }
 len:ι.length=H.length
 nodup:ι.Nodup
 objs:∀ (n:Nat) (a:Addr) (o:MO),ι[n]?=some a→H[n]?=some o→RepO cx.w ι s.heap a o
 low:∀ a∈ι,a≠sysModules
 scr:∀ o,cx.s0.heap.get? cx.scr=some o→s.heap.get? cx.scr=some o
 scrI:∀ (n:Nat),ι[n]?=some cx.scr→∃ vs,H[n]?=some (.frz vs)
 scrIn:cx.scr∈ι
 prot:∀ a o,cx.P a o→Kp cx.s0 s.heap a o
 protI:∀ a o,cx.P a o→a ∉ ι
 ns:∃ m,s.heap.Ns cx.env.locals m
 nsI:cx.env.locals ∉ ι
 cells:∀ x c,cx.env.cells.lookup x=some c→(∃ ov,s.heap.IsCell c ov)∧c ∉ ι∧c≠cx.env.locals
 vars:∀ x i v,cx.nm x=some i→ρ i=some v→∃ val,VarAt cx.env s.heap x val∧RepV ι s.heap val v
structure Mono (ι:List Addr)(s:Shared)(ι':List Addr)(s':Shared):Prop where
 pre:ι <+: ι'
 imm:Imm s.heap s'.heap
theorem Mono.refl (ι:List Addr)(s:Shared):Mono ι s ι s:=⟨List.prefix_refl _,.refl _⟩
theorem Mono.trans {ι ι' ι'':List Addr}{s s' s'':Shared}(x:Mono ι s ι' s')(y:Mono ι' s' ι'' s''):Mono ι s ι'' s'':=⟨x.pre.trans y.pre,x.imm.trans y.imm⟩
theorem Mono.rep {ι ι':List Addr}{s s':Shared}(x:Mono ι s ι' s'){v:Value}{d:V}(r:RepV ι s.heap v d):RepV ι' s'.heap v d:=r.mono x.pre x.imm
theorem Mono.reps {ι ι':List Addr}{s s':Shared}(x:Mono ι s ι' s'){v:List Value}{d:List V}(r:RepVs ι s.heap v d):RepVs ι' s'.heap v d:=r.mono x.pre x.imm
section
variable {cx:Cx}{ι:List Addr}{ρ:jz}{H:H}{s:Shared}
theorem IsCell.obj {h:Heap}{c:Addr}{v:Option Value}(x:h.IsCell c v):∃ o,h.get? c=some o:=let ⟨o,g,_⟩:=x;⟨o,g⟩
theorem Ns.obj {h:Heap}{a:Addr}{m}(x:h.Ns a m):∃ o,h.get? a=some o:=let ⟨o,_,_,g,_⟩:=x;⟨o,g⟩
theorem VarAt.keeps {env:Env}{h h':Heap}{x:Str}{val:Value}(v:VarAt env h x val)(hk:∀ b o,h.get? b=some o→h'.get? b=some o):VarAt env h' x val:=by
 rcases v with ⟨k,m,n,e⟩ | ⟨k,c,l,i⟩
 ·exact .inl ⟨k,m,n.keeps hk,e⟩
 ·exact .inr ⟨k,c,l,i.keeps hk⟩
theorem St.ext (S:St cx ι ρ H s){h':Heap}(tk:Nat)(hk:∀ b o,s.heap.get? b=some o→h'.get? b=some o):St cx ι ρ H { s with heap:=h',toks:=tk } where
 same:=by refine WH (S.same) fun h t zd3=>?_;subst zd3;exact⟨h',tk,rfl⟩
 len:=S.len
 nodup:=S.nodup
 objs:=fun n a o hn ho=>(S.objs n a o hn ho).mono (List.prefix_refl _) (.of_ext hk) (hk _)
 low:=S.low
 scr:=fun o e=>hk _ _ (S.scr o e)
 scrI:=S.scrI
 scrIn:=S.scrIn
 prot:=fun a o p=>(S.prot a o p).mono (hk _)
 protI:=S.protI
 ns:=let ⟨m,n⟩:=S.ns;⟨m,n.keeps hk⟩
 nsI:=S.nsI
 cells:=fun x c l=>let ⟨⟨ov,i⟩,r⟩:=S.cells x c l;⟨⟨ov,i.keeps hk⟩,r⟩
 vars:=fun x i v hx hv=>let ⟨val,a,r⟩:=S.vars x i v hx hv;⟨val,a.keeps hk,r.mono (List.prefix_refl _) (.of_ext hk)⟩
theorem St.toks (S:St cx ι ρ H s)(tk:Nat):St cx ι ρ H { s with toks:=tk }:=S.ext tk fun J J e=>e
theorem St.push (S:St cx ι ρ H s)(o:Obj)(tk:Nat):St cx ι ρ H { s with heap:=s.heap.push o,toks:=tk }:=S.ext tk fun J J e=>Heap.get?_push_of_some _ e
theorem Mono.ext {ι:List Addr}{s:Shared}{h':Heap}{tk:Nat}(hk:∀ b o,s.heap.get? b=some o→h'.get? b=some o):Mono ι s ι { s with heap:=h',toks:=tk }:=⟨List.prefix_refl _,.of_ext hk⟩
theorem St.alloc (S:St cx ι ρ H s){a:Addr}{o:MO}(hr:RepO cx.w ι s.heap a o)(ha:a ∉ ι)(hlow:a≠sysModules)(hP:∀ ob,¬ cx.P a ob)(hL:a≠cx.env.locals)
  (hc:∀ x c,cx.env.cells.lookup x=some c→c≠a):St cx (ι++[a]) ρ (H++[o]) s where
 same:=S.same
 len:=by simp [S.len]
 nodup:=by
  rw[List.nodup_append]
  refine⟨S.nodup,by simp,fun x hx y hy=>?_⟩
  simp at hy;subst hy;rintro rfl;exact ha hx
 objs:=fun n b ob hn ho=>by
  by_cases hlt:n<ι.length
  ·rw[List.getElem?_append_left hlt] at hn
   rw[List.getElem?_append_left (S.len▸hlt)] at ho
   exact(S.objs n b ob hn ho).mono (List.prefix_append _ _) (.refl _) fun J e=>e
  ·have hn':=(List.getElem?_eq_some_iff.mp hn).1
   simp at hn'
   have:n=ι.length:=by exact qa (jq ju jc ja jg jA qt hn') (qm hlt)
   subst this
   rw[List.getElem?_append_right (Nat.le_refl _)] at hn
   rw[S.len,List.getElem?_append_right (Nat.le_refl _)] at ho
   simp at hn ho
   subst hn;subst ho
   exact hr.mono (List.prefix_append _ _) (.refl _) fun J e=>e
 low:=fun b hb=>by
  rcases List.mem_append.mp hb with hb | hb
  ·exact S.low b hb
  ·simp at hb;subst hb;exact hlow
 scr:=S.scr
 scrI:=fun n hn=>by
  by_cases hlt:n<ι.length
  ·rw[List.getElem?_append_left hlt] at hn
   rw[List.getElem?_append_left (S.len▸hlt)]
   exact S.scrI n hn
  ·exfalso
   rw[List.getElem?_append_right (Nat.le_of_not_lt hlt)] at hn
   have hm:=List.mem_of_getElem? hn
   simp at hm
   exact ha (hm▸S.scrIn)
 scrIn:=List.mem_append_left _ S.scrIn
 prot:=S.prot
 protI:=fun b ob p hb=>by
  rcases List.mem_append.mp hb with hb | hb
  ·exact S.protI b ob p hb
  ·simp at hb;subst hb;exact hP ob p
 ns:=S.ns
 nsI:=fun hb=>by
  rcases List.mem_append.mp hb with hb | hb
  ·exact S.nsI hb
  ·simp at hb;exact hL hb.symm
 cells:=fun x c l=>by
  refine kH (S.cells x c l) fun i h1 h2=>?_
  refine⟨i,fun hb=>?_,h2⟩
  rcases List.mem_append.mp hb with hb | hb
  ·exact h1 hb
  ·simp at hb;exact hc x c l hb
 vars:=fun x i v hx hv=>let ⟨val,a,r⟩:=S.vars x i v hx hv;⟨val,a,r.mono (List.prefix_append _ _) (.refl _)⟩
theorem St.fresh (S:St cx ι ρ H s)(ok:CxOk cx){a:Addr}(ha:s.heap.objs.size≤a):a ∉ ι∧a≠sysModules∧(∀ ob,¬ cx.P a ob)∧a≠cx.env.locals∧(∀ x c,cx.env.cells.lookup x=some c→c≠a):=by
 have none:∀ o,s.heap.get? a=some o→False:=fun o e=>absurd (Heap.lt_size e) (Nat.not_lt.mpr ha)
 refine⟨fun hm=>?_,?_,fun ob p=>let ⟨_,e,_⟩:=(S.prot _ _ p).obj;none _ e,fun e=>?_,fun x c l e=>?_⟩
 ·obtain⟨n,hn⟩:=List.mem_iff_getElem?.mp hm
  have hlt:n<H.length:=S.len▸(List.getElem?_eq_some_iff.mp hn).1
  refine jo ((S.objs n a _ hn (List.getElem?_eq_getElem hlt)).get) fun ob g J=>?_
  exact none _ g
 ·obtain⟨m,hn⟩:=S.ns
  exact Nat.ne_of_gt (Nat.lt_of_lt_of_le (Nat.lt_trans ok.lowL hn.lt) ha)
 ·obtain⟨m,hn⟩:=S.ns
  obtain⟨o,g⟩:=Ns.obj hn
  exact none o (e▸g)
 ·obtain⟨⟨ov,i⟩,_⟩:=S.cells x c l
  obtain⟨o,g⟩:=IsCell.obj i
  exact none o (e▸g)
theorem St.obj (S:St cx ι ρ H s){n:Nat}{a:Addr}(ha:ι[n]?=some a):∃ o,H[n]?=some o∧RepO cx.w ι s.heap a o:=by
 have hlt:n<H.length:=S.len▸(List.getElem?_eq_some_iff.mp ha).1
 exact⟨_,List.getElem?_eq_getElem hlt,S.objs n a _ ha (List.getElem?_eq_getElem hlt)⟩
theorem St.objOf (S:St cx ι ρ H s){n:Nat}{a:Addr}{o:MO}(ha:ι[n]?=some a)(ho:H[n]?=some o):RepO cx.w ι s.heap a o:=S.objs n a o ha ho
theorem VarAt.extBut {env:Env}{h h':Heap}{x:Str}{val:Value}{a:Addr}(v:VarAt env h x val)(hk:Heap.ExtBut a h h')(hL:env.locals≠a)(hc:∀ x c,env.cells.lookup x=some c→c≠a):VarAt env h' x val:=by
 rcases v with ⟨k,m,n,e⟩ | ⟨k,c,l,o,g,d⟩
 ·exact .inl ⟨k,m,n.extBut hk hL,e⟩
 ·exact .inr ⟨k,c,l,o,hk _ _ (hc _ _ l) g,d⟩
theorem St.set (S:St cx ι ρ H s){n:Nat}{a:Addr}{o':MO}{h':Heap}(tk:Nat)(ha:ι[n]?=some a)(hnf:∀ vs,H[n]?≠some (.frz vs))(hk:Heap.ExtBut a s.heap h')(hr:RepO cx.w ι h' a o') :
  St cx ι ρ (H.set n o') { s with heap:=h',toks:=tk }∧Mono ι s ι { s with heap:=h',toks:=tk }:=by
 refine jo (S.obj ha) fun o ho r=>?_
 refine jo (r.get) fun ob g c1=>?_
 have imm:Imm s.heap h':=.of_but hk fun o' e=>by rw[g] at e;cases e;exact c1
 have hmem:a∈ι:=List.mem_of_getElem? ha
 have hscr:cx.scr≠a:=by
  rintro rfl
  obtain⟨vs,e⟩:=S.scrI n ha
  exact hnf vs e
 refine⟨?_,⟨List.prefix_refl _,imm⟩⟩
 exact {
  same:=by refine WH (S.same) fun h t ze4=>?_;subst ze4;exact⟨h',tk,rfl⟩
  len:=by simp [S.len]
  scr:=fun o e=>hk _ _ hscr (S.scr o e)
  scrI:=fun k hk'=>by
   have hne:n≠k:=by
    rintro rfl
    rw[ha] at hk';cases hk';exact hscr rfl
   rw[List.getElem?_set_ne hne];exact S.scrI k hk'
  scrIn:=S.scrIn
  nodup:=S.nodup
  objs:=fun k b o₂ hb ho₂=>by
   by_cases hkn:k=n
   ·subst hkn
    rw[ha] at hb;cases hb
    have hlt:k<H.length:=S.len▸(List.getElem?_eq_some_iff.mp ha).1
    rw[List.getElem?_set_self hlt] at ho₂
    cases ho₂;exact hr
   ·rw[List.getElem?_set_ne (fun e=>hkn e.symm)] at ho₂
    refine(S.objs k b o₂ hb ho₂).mono (List.prefix_refl _) imm fun ob e=>hk _ _ (fun e'=>?_) e
    subst e'
    exact hkn ((List.getElem?_inj (List.getElem?_eq_some_iff.mp hb).1 S.nodup).mp (hb.trans ha.symm))
  low:=S.low
  prot:=fun b ob p=>(S.prot b ob p).mono fun o=>hk _ o fun e=>S.protI b ob p (e▸hmem)
  protI:=S.protI
  ns:=let ⟨m,hn⟩:=S.ns;⟨m,hn.extBut hk fun e=>S.nsI (e▸hmem)⟩
  nsI:=S.nsI
  cells:=fun x c l=>by
   refine kH (S.cells x c l) fun zf5 h1 h2=>?_;obtain⟨ov,oc,gc,dc⟩:=zf5
   exact⟨⟨ov,oc,hk _ _ (fun e=>h1 (e▸hmem)) gc,dc⟩,h1,h2⟩
  vars:=fun x i v hx hv=>by
   refine jo (S.vars x i v hx hv) fun val va rv=>?_
   exact⟨val,va.extBut hk (fun e=>S.nsI (e▸hmem)) fun y c l e=>(S.cells y c l).2.1 (e▸hmem),rv.mono (List.prefix_refl _) imm⟩ }
theorem Ns.notImm {h:Heap}{a:Addr}{m}(x:h.Ns a m):∀ o,h.get? a=some o→¬ yu o:=fun o g=>by
 refine Z32 x fun o' es ep g' d J=>?_
 rw[g] at g';cases g';exact ym d
theorem IsCell.notImm {h:Heap}{c:Addr}{v}(x:h.IsCell c v):∀ o,h.get? c=some o→¬ yu o:=fun o g=>by
 refine jo x fun o' g' d=>?_
 rw[g] at g';cases g';exact Yd d
theorem Ns.uniq {h:Heap}{a:Addr}{m m'}(x:h.Ns a m)(y:h.Ns a m'):m=m':=by
 refine Z33 x fun o es ep g d J e=>?_
 refine Z33 y fun o' es' ep' g' d' J e'=>?_
 rw[g] at g';cases g'
 rw[d] at d';cases d'
 funext z;rw[←e,←e']
theorem St.local (S:St cx ι ρ H s)(ok:CxOk cx){x:Str}{i:Nat}{v:V}{val:Value}{h':Heap}{m:Str→Option Value}(tk:Nat)(hx:cx.nm x=some i)(hl:cx.env.kindOf x=some .local)
  (hm:s.heap.Ns cx.env.locals m) (hn:h'.Ns cx.env.locals (fun y=>if y=x then some val else m y)) (hs:Heap.ExtBut cx.env.locals s.heap h') (r:RepV ι s.heap val v) :
  St cx ι (upd ρ i v) H { s with heap:=h',toks:=tk }∧Mono ι s ι { s with heap:=h',toks:=tk }:=by
 have imm:Imm s.heap h':=.of_but hs (Ns.notImm hm)
 refine⟨?_,⟨List.prefix_refl _,imm⟩⟩
 exact {
  same:=by refine WH (S.same) fun h t zg6=>?_;subst zg6;exact⟨h',tk,rfl⟩
  len:=S.len
  nodup:=S.nodup
  objs:=fun k b o₂ hb ho₂=>(S.objs k b o₂ hb ho₂).mono (List.prefix_refl _) imm fun ob e=>hs _ _ (fun e'=>S.nsI (e'▸List.mem_of_getElem? hb)) e
  low:=S.low
  scr:=fun o e=>hs _ _ (fun e'=>S.nsI (e'▸S.scrIn)) (S.scr o e)
  scrI:=S.scrI
  scrIn:=S.scrIn
  prot:=fun b ob p=>(S.prot b ob p).mono fun o=>hs _ o fun e=>ok.loc ob (e▸p)
  protI:=S.protI
  ns:=⟨_,hn⟩
  nsI:=S.nsI
  cells:=fun y c l=>by
   refine kH (S.cells y c l) fun zh7 h1 h2=>?_;obtain⟨ov,oc,gc,dc⟩:=zh7
   exact⟨⟨ov,oc,hs _ _ h2 gc,dc⟩,h1,h2⟩
  vars:=fun y j w hy hw=>by
   unfold upd at hw
   by_cases hj:j=i
   ·subst hj
    obtain rfl:=ok.inj y x j hy hx
    rw[if_pos rfl] at hw;cases hw
    exact⟨val,.inl ⟨hl,_,hn,by simp⟩,r.mono (List.prefix_refl _) imm⟩
   ·rw[if_neg hj] at hw
    refine jo (S.vars y j w hy hw) fun val' va rv=>?_
    refine⟨val',?_,rv.mono (List.prefix_refl _) imm⟩
    have hyx:y≠x:=fun e=>hj (by rw[e,hx] at hy;exact(Option.some.inj hy).symm)
    rcases va with ⟨k,m',n',e⟩ | ⟨k,c,l,o,g,d⟩
    ·obtain rfl:=Ns.uniq hm n'
     exact .inl ⟨k,_,hn,by simp [hyx,e]⟩
    ·exact .inr ⟨k,c,l,o,hs _ _ (S.cells y c l).2.2 g,d⟩ }
theorem St.cell (S:St cx ι ρ H s)(ok:CxOk cx){x:Str}{i:Nat}{v:V}{val:Value}{h':Heap}{c:Addr}(tk:Nat)(hx:cx.nm x=some i)(hst:cx.st x=true)(hl:cx.env.kindOf x=some .cell)
  (hc:cx.env.cells.lookup x=some c) (hn:h'.IsCell c (some val)) (hs:Heap.ExtBut c s.heap h') (r:RepV ι s.heap val v) :
  St cx ι (upd ρ i v) H { s with heap:=h',toks:=tk }∧Mono ι s ι { s with heap:=h',toks:=tk }:=by
 refine kH (S.cells x c hc) fun zi8 hcI hcL=>?_;obtain⟨ov,hov⟩:=zi8
 have imm:Imm s.heap h':=.of_but hs (IsCell.notImm hov)
 refine⟨?_,⟨List.prefix_refl _,imm⟩⟩
 exact {
  same:=by refine WH (S.same) fun h t zj9=>?_;subst zj9;exact⟨h',tk,rfl⟩
  len:=S.len
  nodup:=S.nodup
  objs:=fun k b o₂ hb ho₂=>(S.objs k b o₂ hb ho₂).mono (List.prefix_refl _) imm fun ob e=>hs _ _ (fun e'=>hcI (e'▸List.mem_of_getElem? hb)) e
  low:=S.low
  scr:=fun o e=>hs _ _ (fun e'=>hcI (e'▸S.scrIn)) (S.scr o e)
  scrI:=S.scrI
  scrIn:=S.scrIn
  prot:=fun b ob p=>(S.prot b ob p).mono fun o=>hs _ o fun e=>ok.own x c ob hst hl hc (e▸p)
  protI:=S.protI
  ns:=let ⟨m,n⟩:=S.ns;⟨m,n.extBut hs fun e=>hcL e.symm⟩
  nsI:=S.nsI
  cells:=fun y c' l=>by
   refine kH (S.cells y c' l) fun zk10 h1 h2=>?_;obtain⟨ov',oc,gc,dc⟩:=zk10
   by_cases hcc:c'=c
   ·subst hcc;exact⟨⟨_,hn⟩,h1,h2⟩
   ·exact⟨⟨ov',oc,hs _ _ hcc gc,dc⟩,h1,h2⟩
  vars:=fun y j w hy hw=>by
   unfold upd at hw
   by_cases hj:j=i
   ·subst hj
    obtain rfl:=ok.inj y x j hy hx
    rw[if_pos rfl] at hw;cases hw
    exact⟨val,.inr ⟨.inl hl,c,hc,hn⟩,r.mono (List.prefix_refl _) imm⟩
   ·rw[if_neg hj] at hw
    refine jo (S.vars y j w hy hw) fun val' va rv=>?_
    refine⟨val',?_,rv.mono (List.prefix_refl _) imm⟩
    have hyx:y≠x:=fun e=>hj (by rw[e,hx] at hy;exact(Option.some.inj hy).symm)
    rcases va with ⟨k,m',n',e⟩ | ⟨k,c',l,o,g,d⟩
    ·exact .inl ⟨k,_,n'.extBut hs fun e=>hcL e.symm,e⟩
    ·exact .inr ⟨k,c',l,o,hs _ _ (fun e=>hyx (ok.cinj y x c' l (e▸hc))) g,d⟩ }
theorem St.rho (S:St cx ι ρ H s){ρ':jz}(h:∀ x i v,cx.nm x=some i→ρ' i=some v→ρ i=some v):St cx ι ρ' H s :=
 { S with vars:=fun x i v hx hv=>S.vars x i v hx (h x i v hx hv) }
noncomputable def Cx.keep (cx:Cx)(a:Addr)(o:Obj):Cx:={ cx with P:=fun b ob=>cx.P b ob∨(b=a∧ob=o) }
theorem CxOk.keep (ok:CxOk cx){a:Addr}{o:Obj}(hL:a≠cx.env.locals)(hc:∀ x c,cx.env.kindOf x=some .cell→cx.env.cells.lookup x=some c→c≠a):CxOk (cx.keep a o) where
 fn:=ok.fn
 gl:=ok.gl
 bl:=ok.bl
 inj:=ok.inj
 kinds:=ok.kinds
 plain:=ok.plain
 cinj:=ok.cinj
 own:=fun x c ob hs hk l p=>p.elim (ok.own x c ob hs hk l) fun e=>hc x c hk l e.1
 loc:=fun ob p=>p.elim (ok.loc ob) fun e=>hL e.1.symm
 base:=fun b ob e n=>.inl (ok.base b ob e n)
 lowL:=ok.lowL
theorem St.keep (S:St cx ι ρ H s){a:Addr}{o:Obj}(g:s.heap.get? a=some o)(ha:a ∉ ι):St (cx.keep a o) ι ρ H s :=
 { S with
  prot:=fun b ob p=>p.elim (S.prot b ob) fun e=>by rw[e.1,e.2];exact .inl g
  protI:=fun b ob p hm=>p.elim (fun p=>S.protI b ob p hm) fun e=>ha (e.1▸hm) }
theorem St.unkeep {a:Addr}{o:Obj}(S:St (cx.keep a o) ι ρ H s):St cx ι ρ H s :=
 { S with
  prot:=fun b ob p=>S.prot b ob (.inl p)
  protI:=fun b ob p=>S.protI b ob (.inl p) }
theorem str_inj {x y:Str}(h:x.cps.toList=y.cps.toList):x=y:=by
 cases x;cases y;simp only[Str.mk.injEq];exact Array.toList_inj.mp h
theorem RepV.refV {h:Heap}{a:Addr}{b:V}(r:RepV ι h (.ref a) b):(∃ n vals vs,b=.tup vs∧h.get? a=some { cls:=.type "tuple",data:=.seq vals n }∧RepVs ι h vals.toList vs) ∨
  (∃ x y z t u v,b=.rng x y z∧IsRange h a x y z t u v)∨∃ n,b=.ref n∧ι[n]?=some a:=by
 cases r with
 | tup g _ r=>exact .inl ⟨_,_,_,rfl,g,r⟩
 | rng g _=>exact .inr (.inl ⟨_,_,_,_,_,_,rfl,g⟩)
 | ref g=>exact .inr (.inr ⟨_,rfl,g⟩)
theorem St.noTup (S:St cx ι ρ H s){n k:Nat}{a:Addr}{vals:Array Value}(gi:ι[n]?=some a)(g:s.heap.get? a=some { cls:=.type "tuple",data:=.seq vals k }):False:=by
 refine jo (S.obj gi) fun o J ro=>?_
 refine jo (ro.get) fun ob gb nb=>?_
 exact nb (Option.some.inj (g.symm.trans gb)▸.inl ⟨rfl,_,_,rfl⟩)
theorem St.noRng (S:St cx ι ρ H s){n:Nat}{a:Addr}{x y z:Int}{t u v:Tok}(gi:ι[n]?=some a)(g:IsRange s.heap a x y z t u v):False:=by
 refine jo (S.obj gi) fun o J ro=>?_
 refine jo (ro.get) fun ob gb nb=>?_
 exact nb (Option.some.inj (g.symm.trans gb)▸.inr ⟨rfl,_,rfl⟩)
theorem tup_rng {h:Heap}{a:Addr}{vals:Array Value}{k:Nat}{x y z:Int}{t u v:Tok}(g:h.get? a=some { cls:=.type "tuple",data:=.seq vals k }) (g':IsRange h a x y z t u v):False:=by
 have e:=congrArg Obj.data (Option.some.inj (g.symm.trans g'))
 cases e
theorem RepV.fn (S:St cx ι ρ H s){u:Value}{a b:V}(r:RepV ι s.heap u a)(q:RepV ι s.heap u b):a=b:=by
 refine RepV.rec (motive_1:=fun u a J=>∀ b,RepV ι s.heap u b→a=b) (motive_2:=fun us a J=>∀ b,RepVs ι s.heap us b→a=b) ?_ ?_ ?_ ?_ ?_ ?_ ?_ ?_ ?_ r b q
 ·intro b x;cases x;rfl
 ·intro _ b x;cases x;rfl
 ·intro _ _ b x;cases x;rfl
 ·intro _ _ _ b x;cases x;rfl
 ·intro a n vals vs g z r ih b x
  obtain⟨_,_,_,rfl,g',r'⟩ | ⟨_,_,_,_,_,_,rfl,g'⟩ | ⟨_,rfl,g'⟩:=x.refV
  ·obtain⟨e,_⟩:=Data.seq.inj (congrArg Obj.data (Option.some.inj (g.symm.trans g')))
   exact congrArg V.tup (ih _ (e▸r'))
  ·exact(tup_rng g g').elim
  ·exact(S.noTup g' g).elim
 ·intro a x y z t u v g _ b x
  obtain⟨_,_,_,rfl,g',r'⟩ | ⟨_,_,_,_,_,_,rfl,g'⟩ | ⟨_,rfl,g'⟩:=x.refV
  ·exact(tup_rng g' g).elim
  ·have e:=Data.fields.inj (congrArg Obj.data (Option.some.inj (g.symm.trans g')))
   injection e with e
   injection e with e1 e
   injection e with e2 e
   injection e with e3 e
   injection e1 with e1
   injection e2 with e2
   injection e3 with e3
   rw[e1,e2,e3]
  ·exact(S.noRng g' g).elim
 ·intro a n g b x
  obtain⟨_,_,_,rfl,g',r'⟩ | ⟨_,_,_,_,_,_,rfl,g'⟩ | ⟨_,rfl,g'⟩:=x.refV
  ·exact(S.noTup g g').elim
  ·exact(S.noRng g g').elim
  ·rw[(List.getElem?_inj (List.getElem?_eq_some_iff.mp g).1 S.nodup).mp (g.trans g'.symm)]
 ·intro b x;cases x;rfl
 ·intro _ _ _ _ g r i1 i2 b x
  cases x with
  | cons g' r'=>rw[i1 _ g',i2 _ r']
theorem RepVs.fn (S:St cx ι ρ H s){us:List Value}{a b:List V}(r:RepVs ι s.heap us a)(q:RepVs ι s.heap us b):a=b:=by
 refine RepVs.rec (motive_1:=fun J J J=>True) (motive_2:=fun us a J=>∀ b,RepVs ι s.heap us b→a=b) trivial (fun J=>trivial) (fun J J=>trivial) (fun J J J=>trivial) (fun J J J J=>trivial) (fun J J=>trivial) (fun J=>trivial) ?_ ?_ r b q
 ·intro b x;cases x;rfl
 ·intro _ _ _ _ g r _ i2 b x
  cases x with
  | cons g' r'=>rw[g.fn S g',i2 _ r']
theorem Snap.fn {H:Tw.H}{a:V}{d e:D}(r:Snap H a d)(q:Snap H a e):d=e:=by
 refine Snap.rec (motive_1:=fun a d J=>∀ e,Snap H a e→d=e) (motive_2:=fun a d J=>∀ e,Snaps H a e→d=e) ?_ ?_ ?_ ?_ ?_ ?_ ?_ ?_ r e q
 ·intro e x;cases x;rfl
 ·intro _ e x;cases x;rfl
 ·intro _ e x;cases x;rfl
 ·intro _ e x;cases x;rfl
 ·intro _ _ r ih e x;cases x with | tup r'=>rw[ih _ r']
 ·intro _ _ _ g r ih e x
  cases x with
  | list g' r'=>exact congrArg D.list (ih _ (MO.list.inj (Option.some.inj (g.symm.trans g'))▸r'))
 ·intro e x;cases x;rfl
 ·intro _ _ _ _ g r i1 i2 e x
  cases x with
  | cons g' r'=>rw[i1 _ g',i2 _ r']
theorem Snaps.fn {H:Tw.H}{a:List V}{d e:List D}(r:Snaps H a d)(q:Snaps H a e):d=e:=by
 refine Snaps.rec (motive_1:=fun J J J=>True) (motive_2:=fun a d J=>∀ e,Snaps H a e→d=e) trivial (fun J=>trivial) (fun J=>trivial) (fun J=>trivial) (fun J J=>trivial) (fun J J J=>trivial) ?_ ?_ r e q
 ·intro e x;cases x;rfl
 ·intro _ _ _ _ g r _ i2 e x
  cases x with
  | cons g' r'=>rw[g.fn g',i2 _ r']
theorem Snaps.length {H:Tw.H}{vs:List V}{ds:List D}(x:Snaps H vs ds):vs.length=ds.length:=by
 induction vs generalizing ds with
 | nil=>cases x;rfl
 | cons v vs ih=>cases x with | cons _ r=>simp [ih r]
theorem Snaps.get {H:Tw.H}{vs:List V}{ds:List D}(x:Snaps H vs ds){i:Nat}{v:V}{d:D}(hv:vs[i]?=some v)(hd:ds[i]?=some d):Snap H v d:=by
 induction vs generalizing ds i with
 | nil=>simp at hv
 | cons w vs ih =>
  cases x with
  | cons g r =>
   cases i with
   | zero=>simp at hv hd;subst hv;subst hd;exact g
   | succ i=>exact ih r (by simpa using hv) (by simpa using hd)
structure EqAll (A:Around)(s:Shared)(u v:Value)(k:Bool):Prop where
 rc:RcAt A s u v k
 eq:EqAt A s u v k
 ne:RcNeAt A s u v (!k)
theorem Jc {ds es:List D}(hl:ds.length=es.length)(e:Nat→Bool)(he:∀ i d d',ds[i]?=some d→es[i]?=some d'→e i=decide (d=d')) :
  (List.range ds.length).all e=decide (ds=es):=by
 rw[Bool.eq_iff_iff,List.all_eq_true,decide_eq_true_iff]
 constructor
 ·intro h
  refine List.ext_getElem? fun i=>?_
  by_cases hi:i<ds.length
  ·have hi':i<es.length:=hl▸hi
   have:=h i (List.mem_range.mpr hi)
   rw[he i ds[i] es[i] (List.getElem?_eq_getElem hi) (List.getElem?_eq_getElem hi'),decide_eq_true_iff] at this
   rw[List.getElem?_eq_getElem hi,List.getElem?_eq_getElem hi',this]
  ·rw[List.getElem?_eq_none (by exact qm hi),List.getElem?_eq_none (by exact jt jr jc ja jc jd jd ja qt (qi hl) (qm hi))]
 ·rintro rfl i hi
  have hi:=List.mem_range.mp hi
  rw[he i ds[i] ds[i] (List.getElem?_eq_getElem hi) (List.getElem?_eq_getElem hi)]
  simp
theorem jv {h:Heap}{a:Addr}{vals:Array Value}{n:Nat}(g:h.get? a=some { cls:=.type "tuple",data:=.seq vals n }):h.IsTuple a vals:=⟨_,g,rfl,n,rfl⟩
theorem jm {h:Heap}{a:Addr}{vals:Array Value}{n:Nat}(g:h.get? a=some { cls:=.type "list",data:=.seq vals n }):h.IsList a vals:=⟨_,g,rfl,n,rfl⟩
theorem KY {xs ys:List D}(e:Nat→Bool)(he:∀ i d d',xs[i]?=some d→ys[i]?=some d'→e i=decide (d=d')) :
  ((List.range (min xs.length ys.length)).all e && xs.length == ys.length)=decide (xs=ys):=by
 by_cases hl:xs.length=ys.length
 ·rw[hl,Nat.min_self,beq_self_eq_true,Bool.and_true,←hl]
  exact Jc hl e he
 ·have h1:(xs.length == ys.length)=false:=by simpa using hl
  rw[h1,Bool.and_false,decide_eq_false]
  intro e;exact hl (by rw[e])
theorem EqAll.no {A:Around}{u v:Value}{d e:D}(h:d≠e)(x:EqAll A s u v false):EqAll A s u v (decide (d=e)):=by rw[decide_eq_false h];exact x
theorem EqAll.yes {A:Around}{u v:Value}{d e:D}(h:d=e)(x:EqAll A s u v true):EqAll A s u v (decide (d=e)):=by rw[decide_eq_true h];exact x
theorem Snap.tupI {H:Tw.H}{a:V}{ds:List D}(x:Snap H a (.tup ds)):∃ vs,a=.tup vs∧Snaps H vs ds:=by cases x;exact⟨_,rfl,by assumption⟩
theorem Snap.listI {H:Tw.H}{a:V}{ds:List D}(x:Snap H a (.list ds)):∃ n vs,a=.ref n∧H[n]?=some (.list vs)∧Snaps H vs ds:=by cases x;exact⟨_,_,rfl,by assumption,by assumption⟩
theorem Snap.noneI {H:Tw.H}{a:V}(x:Snap H a .none):a=.none:=by cases x;rfl
theorem Snap.intI {H:Tw.H}{a:V}{i:Int}(x:Snap H a (.int i)):a=.int i:=by cases x;rfl
theorem Snap.strI {H:Tw.H}{a:V}{i:List Nat}(x:Snap H a (.str i)):a=.str i:=by cases x;rfl
inductive Kd (s:Shared)(ι:List Addr)(H:Tw.H):Value→D→Prop
 | none:Kd s ι H .none .none
 | int (i:Int) (t:Tok):Kd s ι H (.int i t) (.int i)
 | str (x:Str) (t:Tok):Kd s ι H (.str x t) (.str x.cps.toList)
 | tup {a:Addr} {vals:Array Value} {n:Nat} {vs:List V} {ds:List D}:s.heap.get? a=some { cls:=.type "tuple",data:=.seq vals n }→RepVs ι s.heap vals.toList vs→Snaps H vs ds→Kd s ι H (.ref a) (.tup ds)
 | list {a:Addr} {vals:Array Value} {n m:Nat} {vs:List V} {ds:List D}:s.heap.get? a=some { cls:=.type "list",data:=.seq vals n }→ι[m]?=some a→H[m]?=some (.list vs)→RepVs ι s.heap vals.toList vs→Snaps H vs ds→Kd s ι H (.ref a) (.list ds)
theorem kd_of (S:St cx ι ρ H s){n:Nat}{u:Value}{a:V}{d:D}(r:RepV ι s.heap u a)(x:Snap H a d)(h:D.ok (n+1) d=true):Kd s ι H u d:=by
 cases d with
 | bool=>cases h
 | none=>obtain rfl:=x.noneI;obtain rfl:=r.noneI;exact .none
 | int=>obtain rfl:=x.intI;obtain⟨t,rfl⟩:=r.intI;exact .int _ _
 | str=>obtain rfl:=x.strI;refine yI (r.strInv) fun y t zl11 zm12=>?_;subst zl11;refine jP zm12 fun zn13 J=>?_;subst zn13;exact .str _ _
 | tup ds=>refine jo (x.tupI) fun vs zq16 sn=>?_;subst zq16;refine Zz (r.tupI) fun a n vals zo14 zp15=>?_;subst zo14;refine kH zp15 fun g J rv=>?_;exact .tup g rv sn
 | list ds =>
  refine yI (x.listI) fun n vs zr17 zs18=>?_;subst zr17;refine jP zs18 fun hH sn=>?_
  refine jo (r.refI) fun a zt19 gi=>?_;subst zt19
  refine wZ (S.objOf gi hH) fun vals m gl rl J=>?_
  exact .list gl gi hH rl sn
theorem eq_none {A:Around}{v:Value}{e:D}(hu:A.units<cLine)(k:Kd s ι H v e):EqAll A s .none v (decide (D.none=e)):=by
 cases k with
 | none=>exact .yes rfl ⟨RcAt.none_none,EqAt.same _,RcNeAt.none_none⟩
 | int=>exact .no nofun ⟨RcAt.none_int _ _,EqAt.none_int _ _,RcNeAt.none_int _ _⟩
 | str=>exact .no nofun ⟨RcAt.none_str _ _,EqAt.none_str _ _,RcNeAt.none_str _ _⟩
 | tup g=>exact .no nofun ⟨RcAt.none_tuple (jv g) hu,EqAt.none_tuple (jv g) hu,RcNeAt.none_tuple (jv g) hu⟩
 | list g=>exact .no nofun ⟨RcAt.none_list (jm g) hu,EqAt.none_list (jm g) hu,RcNeAt.none_list (jm g) hu⟩
theorem eq_int {A:Around}{v:Value}{e:D}(i:Int)(t:Tok)(hu:A.units<cLine)(k:Kd s ι H v e):EqAll A s (.int i t) v (decide (D.int i=e)):=by
 cases k with
 | none=>exact .no nofun ⟨RcAt.int_none _ _,EqAt.int_none _ _,RcNeAt.int_none _ _⟩
 | int j u =>
  have e:decide (D.int i=D.int j)=(i == j):=by by_cases h:i=j <;> simp [h]
  rw[e]
  exact⟨RcAt.int_int _ _ _ _,EqAt.int_int _ _ _ _,RcNeAt.int_int _ _ _ _⟩
 | str=>exact .no nofun ⟨RcAt.int_str _ _ _ _,EqAt.int_str _ _ _ _,RcNeAt.int_str _ _ _ _⟩
 | tup g=>exact .no nofun ⟨RcAt.int_tuple _ _ (jv g) hu,EqAt.int_tuple _ _ (jv g) hu,RcNeAt.int_tuple _ _ (jv g) hu⟩
 | list g=>exact .no nofun ⟨RcAt.int_list _ _ (jm g) hu,EqAt.int_list _ _ (jm g) hu,RcNeAt.int_list _ _ (jm g) hu⟩
theorem eq_str {A:Around}{v:Value}{e:D}(y:Str)(t:Tok)(hu:A.units<cLine)(k:Kd s ι H v e):EqAll A s (.str y t) v (decide (D.str y.cps.toList=e)):=by
 cases k with
 | none=>exact .no nofun ⟨RcAt.str_none _ _,EqAt.str_none _ _,RcNeAt.str_none _ _⟩
 | int=>exact .no nofun ⟨RcAt.str_int _ _ _ _,EqAt.str_int _ _ _ _,RcNeAt.str_int _ _ _ _⟩
 | str y' =>
  have e:decide (D.str y.cps.toList=D.str y'.cps.toList)=(y == y'):=by
   by_cases h:y=y'
   ·subst h;simp
   ·have:¬ y.cps.toList=y'.cps.toList:=fun q=>h (str_inj q)
    simp [h,this]
  rw[e]
  exact⟨RcAt.str_str _ _ _ _,EqAt.str_str _ _ _ _,RcNeAt.str_str _ _ _ _⟩
 | tup g=>exact .no nofun ⟨RcAt.str_tuple _ _ (jv g) hu,EqAt.str_tuple _ _ (jv g) hu,RcNeAt.str_tuple _ _ (jv g) hu⟩
 | list g=>exact .no nofun ⟨RcAt.str_list _ _ (jm g) hu,EqAt.str_list _ _ (jm g) hu,RcNeAt.str_list _ _ (jm g) hu⟩
noncomputable def Zs (ds es:List D)(j:Nat):Bool:=match ds[j]?,es[j]? with | some d,some e=>decide (d=e) | _,_=>false
theorem Jv {ds es:List D}(i:Nat)(d d':D)(h1:ds[i]?=some d)(h2:es[i]?=some d'):Zs ds es i=decide (d=d'):=by
 unfold Zs;rw[h1,h2]
def Items (A:Around)(s:Shared)(n:Nat)(ι:List Addr)(H:Tw.H):Prop:=∀ {xs ys:Array Value} {vs ws:List V} {ds es:List D},RepVs ι s.heap xs.toList vs→RepVs ι s.heap ys.toList ws→Snaps H vs ds→Snaps H ws es→ds.all (D.ok n)=true→es.all (D.ok n)=true →
    ∀ j (h1:j<xs.size) (h2:j<ys.size),EqAt A.in1 s xs[j] ys[j] (Zs ds es j)
theorem eq_tup (S:St cx ι ρ H s){A:Around}{v:Value}{e:D}{n m:Nat}{la:Addr}{va:Array Value}{vs:List V}{ds:List D}(hu:A.units<cLine)(it:Items A s n ι H)(g:s.heap.get? la=some { cls:=.type "tuple",data:=.seq va m }) (q:RepVs ι s.heap va.toList vs) (r:Snaps H vs ds)
  (hd:ds.all (D.ok n)=true) (he:D.ok (n+1) e=true) (k:Kd s ι H v e):EqAll A s (.ref la) v (decide (D.tup ds=e)):=by
 cases k with
 | none=>exact .no nofun ⟨RcAt.tuple_none (jv g) hu,EqAt.tuple_none (jv g) hu,RcNeAt.tuple_none (jv g) hu⟩
 | int=>exact .no nofun ⟨RcAt.tuple_int _ _ (jv g) hu,EqAt.tuple_int _ _ (jv g) hu,RcNeAt.tuple_int _ _ (jv g) hu⟩
 | str=>exact .no nofun ⟨RcAt.tuple_str _ _ (jv g) hu,EqAt.tuple_str _ _ (jv g) hu,RcNeAt.tuple_str _ _ (jv g) hu⟩
 | list g'=>exact .no nofun ⟨RcAt.tuple_list (jv g) (jm g') hu,EqAt.tuple_list (jv g) (jm g') hu,RcNeAt.tuple_list (jv g) (jm g') hu⟩
 | @tup lb vb _ ws es g' q' r' =>
  have hsz1:va.size=ds.length:=by rw[←Array.length_toList,q.length,r.length]
  have hsz2:vb.size=es.length:=by rw[←Array.length_toList,q'.length,r'.length]
  have e0:decide (D.tup ds=D.tup es)=decide (ds=es):=by by_cases h:ds=es <;> simp [h]
  have it:=it q q' r r' hd he
  have e1:=KY (xs:=ds) (ys:=es) _ Jv
  rw[←hsz1,←hsz2] at e1
  rw[e0]
  have rc:=RcAt.tuples (jv g) (jv g') hu it
  have ne:=RcNeAt.tuples (jv g) (jv g') hu it
  rw[e1] at rc ne
  by_cases hab:la=lb
  ·subst hab
   rw[g] at g';cases g'
   have:=RepVs.fn S q q'
   subst this
   have:=Snaps.fn r r'
   subst this
   refine⟨rc,?_,ne⟩
   rw[decide_eq_true rfl];exact EqAt.same _
  ·exact⟨rc,.of_refs hab rc,ne⟩
theorem eq_list (S:St cx ι ρ H s){A:Around}{v:Value}{e:D}{n m na:Nat}{la:Addr}{va:Array Value}{vs:List V}{ds:List D}(hu:A.units<cLine)(it:Items A s n ι H)(g:s.heap.get? la=some { cls:=.type "list",data:=.seq va m }) (gi:ι[na]?=some la) (ga:H[na]?=some (.list vs)) (q:RepVs ι s.heap va.toList vs) (r:Snaps H vs ds)
  (hd:ds.all (D.ok n)=true) (he:D.ok (n+1) e=true) (k:Kd s ι H v e):EqAll A s (.ref la) v (decide (D.list ds=e)):=by
 cases k with
 | none=>exact .no nofun ⟨RcAt.list_none (jm g) hu,EqAt.list_none (jm g) hu,RcNeAt.list_none (jm g) hu⟩
 | int=>exact .no nofun ⟨RcAt.list_int _ _ (jm g) hu,EqAt.list_int _ _ (jm g) hu,RcNeAt.list_int _ _ (jm g) hu⟩
 | str=>exact .no nofun ⟨RcAt.list_str _ _ (jm g) hu,EqAt.list_str _ _ (jm g) hu,RcNeAt.list_str _ _ (jm g) hu⟩
 | tup g'=>exact .no nofun ⟨RcAt.list_tuple (jm g) (jv g') hu,EqAt.list_tuple (jm g) (jv g') hu,RcNeAt.list_tuple (jm g) (jv g') hu⟩
 | @list lb vb _ nb ws es g' gi' gb q' r' =>
  have hsz1:va.size=ds.length:=by rw[←Array.length_toList,q.length,r.length]
  have hsz2:vb.size=es.length:=by rw[←Array.length_toList,q'.length,r'.length]
  have e0:decide (D.list ds=D.list es)=decide (ds=es):=by by_cases h:ds=es <;> simp [h]
  rw[e0]
  have both:RcAt A s (.ref la) (.ref lb) (decide (ds=es))∧RcNeAt A s (.ref la) (.ref lb) (!decide (ds=es)):=by
   by_cases hl:va.size=vb.size
   ·have it:=it q q' r r' hd he
    have e1:=Jc (ds:=ds) (es:=es) (by rw[←hsz1,←hsz2,hl]) _ Jv
    rw[←hsz1] at e1
    have rc:=RcAt.lists (jm g) (jm g') hl hu it
    have ne:=RcNeAt.lists (jm g) (jm g') hl hu it
    rw[e1] at rc ne
    exact⟨rc,ne⟩
   ·have hne:ds≠es:=fun e=>hl (by rw[hsz1,hsz2,e])
    rw[decide_eq_false hne]
    exact⟨RcAt.lists_lengths (jm g) (jm g') (by simpa using hl) hu,RcNeAt.lists_lengths (jm g) (jm g') (by simpa using hl) hu⟩
  by_cases hab:la=lb
  ·subst hab
   have:=RepV.fn S (.ref gi) (.ref gi')
   cases this
   rw[ga] at gb;cases gb
   have:=Snaps.fn r r'
   subst this
   refine⟨both.1,?_,both.2⟩
   rw[decide_eq_true rfl];exact EqAt.same _
  ·exact⟨both.1,.of_refs hab both.1,both.2⟩
theorem JS (S:St cx ι ρ H s):∀ (n:Nat) {A:Around} {u v:Value} {a b:V} {d e:D},A.units+n<cLine→RepV ι s.heap u a→RepV ι s.heap v b→Snap H a d→Snap H b e→D.ok n d=true→D.ok n e=true →
  EqAll A s u v (decide (d=e))
 | 0,_,_,_,_,_,_,_,_,_,_,_,_,hd,_=>nomatch hd
 | n+1,A,u,v,a,b,d,e,hu,ru,rv,sa,sb,hd,he=>by
  have hu0:A.units<cLine:=by exact jq jr jg ja (qA (qA jc jD) jj) ja qt hu
  have items:Items A s n ι H:=fun {xs ys vs ws ds es} rx ry sx sy okx oky j h1 h2=>by
   have hu1:A.in1.units+n<cLine:=by show A.units+1+n<cLine;exact jq jr (qA (qA jg ja) jj) jd (qA (qA jc jA) jj) jd qt hu
   have e1:xs.toList[j]?=some xs[j]:=by simp [h1]
   have e2:ys.toList[j]?=some ys[j]:=by simp [h2]
   refine jo (rx.get' e1) fun vj hvj rj=>?_
   refine jo (ry.get' e2) fun wj hwj qj=>?_
   have l1:j<ds.length:=by rw[←sx.length];exact(List.getElem?_eq_some_iff.mp hvj).1
   have l2:j<es.length:=by rw[←sy.length];exact(List.getElem?_eq_some_iff.mp hwj).1
   rw[Jv j _ _ (List.getElem?_eq_getElem l1) (List.getElem?_eq_getElem l2)]
   exact(JS S n hu1 rj qj (sx.get hvj (List.getElem?_eq_getElem l1)) (sy.get hwj (List.getElem?_eq_getElem l2))
    (List.all_eq_true.mp okx _ (List.getElem_mem l1)) (List.all_eq_true.mp oky _ (List.getElem_mem l2))).eq
  have ke:=kd_of S rv sb he
  cases kd_of S ru sa hd with
  | none=>exact eq_none hu0 ke
  | int=>exact eq_int _ _ hu0 ke
  | str=>exact eq_str _ _ hu0 ke
  | tup g q r=>exact eq_tup S hu0 items g q r hd he ke
  | list g gi ga q r=>exact eq_list S hu0 items g gi ga q r hd he ke
end
noncomputable def V.toD:V→D
 | .none=>.none
 | .bool b=>.bool b
 | .int i=>.int i
 | .str s=>.str s
 | .tup vs=>.tup (V.toDs vs)
 | _=>.none
where V.toDs:List V→List D
 | []=>[]
 | .int i::r=>.int i::V.toDs r
 | .str s::r=>.str s::V.toDs r
 | _::r=>.none::V.toDs r
theorem yX {H:H}:∀ {vs:List V},vs.all V.isAtom=true→Snaps H vs (V.toD.V.toDs vs)
 | [],_=>.nil
 | v::r,h=>by
  simp only[List.all_cons,Bool.and_eq_true] at h
  cases v with
  | int i=>exact .cons (.int i) (yX h.2)
  | str s=>exact .cons (.str s) (yX h.2)
  | _=>exact Bool.noConfusion h.1
theorem Yu {H:H}{k:V}(h:k.isKey=true):Snap H k k.toD:=by
 cases k with
 | int i=>exact .int i
 | str s=>exact .str s
 | tup vs=>exact .tup (yX h)
 | _=>exact Bool.noConfusion h
theorem Kw {n:Nat}:∀ {vs:List V},vs.all V.isAtom=true→(V.toD.V.toDs vs).all (D.ok (n+1))=true
 | [],_=>rfl
 | v::r,h=>by
  simp only[List.all_cons,Bool.and_eq_true] at h
  cases v with
  | int i=>simpa [V.toD.V.toDs,D.ok] using Kw h.2
  | str s=>simpa [V.toD.V.toDs,D.ok] using Kw h.2
  | _=>exact Bool.noConfusion h.1
theorem ok_key {n:Nat}{k:V}(h:k.isKey=true):D.ok (n+2) k.toD=true:=by
 cases k with
 | int i=>rfl
 | str s=>rfl
 | tup vs=>exact Kw h
 | _=>exact Bool.noConfusion h
noncomputable def D.atomV:D→V
 | .int i=>.int i
 | .str s=>.str s
 | _=>.none
noncomputable def D.keyV:D→V
 | .tup ds=>.tup (ds.map D.atomV)
 | d=>d.atomV
theorem UI:∀ {vs:List V},vs.all V.isAtom=true→(V.toD.V.toDs vs).map D.atomV=vs
 | [],_=>rfl
 | v::r,h=>by
  rw[List.all_cons,Bool.and_eq_true] at h
  have ih:=UI h.2
  cases v with
  | int i=>exact congrArg (V.int i::·) ih
  | str s=>exact congrArg (V.str s::·) ih
  | _=>exact Bool.noConfusion h.1
theorem Yb {k:V}(h:k.isKey=true):k.toD.keyV=k:=by
 cases k with
 | int=>rfl
 | str=>rfl
 | tup vs=>exact congrArg V.tup (UI h)
 | _=>exact Bool.noConfusion h
theorem toD_inj {k k':V}(h:k.isKey=true)(h':k'.isKey=true)(e:k.toD=k'.toD):k=k':=(Yb h).symm.trans ((congrArg D.keyV e).trans (Yb h'))
section
variable {cx:Cx}{ι:List Addr}{ρ:jz}{H:H}{s:Shared}{A:Around}
theorem eq_key (S:St cx ι ρ H s){u v:Value}{k k':V}(hu:A.units+9<cLine)(r:RepV ι s.heap u k)(r':RepV ι s.heap v k')(h:k.isKey=true)(h':k'.isKey=true) :
  EqAt A s u v (decide (k=k')):=by
 have e:=(JS S 9 (A:=A) hu r r' (Yu h) (Yu h') (ok_key h) (ok_key h')).eq
 have:decide (k.toD=k'.toD)=decide (k=k'):=by
  by_cases q:k=k'
  ·subst q;simp
  ·have:¬ k.toD=k'.toD:=fun q'=>q (toD_inj h h' q')
   simp [q,this]
 rw[this] at e;exact e
theorem KT {h:Heap}{xs:List Value}{vs:List V}(r:RepVs ι h xs vs):vs.all V.isAtom=true→∀ x∈xs,carriedByValue x=true:=by
 induction xs generalizing vs with
 | nil=>exact fun J x hx=>nomatch hx
 | cons y ys ih =>
  cases r with
  | cons g r =>
   intro h x hx
   rw[List.all_cons,Bool.and_eq_true] at h
   rcases List.mem_cons.mp hx with rfl | hx
   ·cases g <;> first | rfl | exact Bool.noConfusion h.1
   ·exact ih r h.2 x hx
theorem Ul {prog:Program}{w:World}{E:Value→Shared→Prop}{u:Value}{k:V}{Q:Bool→Shared→Prop}(r:RepV ι s.heap u k)(h:k.isKey=true)(q:Q true s):wpAny (model prog w) A (eqIsQuiet 8 u) Q E s:=by
 cases r with
 | none=>exact Bool.noConfusion h
 | bool=>exact Bool.noConfusion h
 | int i t=>rw[eqIsQuiet_byValue 8 rfl];exact wpAny_pure q
 | str x t z=>rw[eqIsQuiet_byValue 8 rfl];exact wpAny_pure q
 | rng=>exact Bool.noConfusion h
 | ref=>exact Bool.noConfusion h
 | @tup a n vals vs g z r =>
  have hT:s.TypeIs (.ref a) "tuple":=⟨_,g,rfl⟩
  have hv:=KT r h
  unfold eqIsQuiet
  refine wpAny_bind (wpAny_specialOf hT F.slot_tuple_eq.lookup ?_)
  show wpAny _ _ (isInstance (.ref a) (.type "tuple") >>= _) _ _ s
  refine wpAny_bind (wpAny_isInstance hT isSubtype_tuple_tuple ?_)
  simp only[Bool.not_true,Bool.false_eq_true,if_false]
  refine wpAny_bind (wpAny_seqItems g rfl ?_)
  refine wpAny_bind ?_
  show wpAny _ _ (forIn vals _ _) _ _ s
  rw[←Array.forIn_toList]
  refine wpAny_forIn_list _ (fun rest r s'=>r.1=none∧s'=s∧∀ v∈rest,carriedByValue v=true) _ ?_ ?_ _ _ ⟨rfl,rfl,hv⟩
  ·intro v rest r s' zz41
   refine kH zz41 fun hr zy40 hall=>?_
   subst zy40
   rw[eqIsQuiet_byValue _ (hall v List.mem_cons_self)]
   refine wpAny_bind (wpAny_pure ?_)
   simp only[Bool.not_true,Bool.false_eq_true,if_false]
   exact wpAny_pure ⟨rfl,rfl,fun u hu'=>hall u (List.mem_cons_of_mem _ hu')⟩
  ·rintro⟨r1,r2⟩ s'
   intro zb43
   refine kH zb43 fun hr za42 J=>?_
   subst za42
   simp only at hr
   subst hr
   exact wpAny_pure q
theorem tells_key {prog:Program}{w:World}{E:Value→Shared→Prop}{u:Value}{k:V}{stored:List Value}{Q:Bool→Shared→Prop}(r:RepV ι s.heap u k)(h:k.isKey=true)
  (hst:∀ v∈stored,∃ k',RepV ι s.heap v k'∧k'.isKey=true) (q:Q false s):wpAny (model prog w) A (tableMayTell u stored) Q E s:=by
 unfold tableMayTell
 split
 ·exact wpAny_pure q
 ·refine wpAny_bind (Ul r h ?_)
  simp only[Bool.not_true,Bool.false_eq_true,if_false]
  refine wpAny_bind ?_
  refine wpAny_forIn_list _ (fun rest r s'=>s'=s∧r=(none,())∧∀ v∈rest,∃ k',RepV ι s.heap v k'∧k'.isKey=true) _ ?_ ?_ _ _ ⟨rfl,rfl,hst⟩
  ·intro x rest r s' ze46
   refine jP ze46 fun zc44 zd45=>?_
   subst zc44
   refine jP zd45 fun zf47 hr=>?_
   subst zf47
   refine jo (hr x List.mem_cons_self) fun k' hb hk'=>?_
   refine wpAny_bind (Ul hb hk' ?_)
   simp only[Bool.not_true,Bool.false_eq_true,if_false]
   exact wpAny_pure ⟨rfl,rfl,fun v hv=>hr v (List.mem_cons_of_mem _ hv)⟩
  ·intro r s' zi50
   refine jP zi50 fun zg48 zh49=>?_
   subst zg48
   refine jP zh49 fun zj51 J=>?_
   subst zj51
   exact wpAny_pure q
theorem RepEs.length {w:World}{h:Heap}{es:List DictEntry}{r:List (V×V)}(x:RepEs w ι h es r):es.length=r.length:=by
 induction x with
 | nil=>rfl
 | cons _ _ _ _ _ ih=>simp [ih]
theorem RepEs.get {w:World}{h:Heap}{es:List DictEntry}{r:List (V×V)}(x:RepEs w ι h es r){i:Nat}{e:DictEntry}(he:es[i]?=some e) :
  ∃ k v,r[i]?=some (k,v)∧e.hash=yJ w k∧RepV ι h e.key k∧RepV ι h e.val v∧k.isKey=true:=by
 induction x generalizing i with
 | nil=>simp at he
 | cons a b c d _ ih =>
  cases i with
  | zero=>simp at he;subst he;exact⟨_,_,rfl,a,b,c,d⟩
  | succ i=>simpa using ih (by simpa using he)
theorem RepEs.get' {w:World}{h:Heap}{es:List DictEntry}{r:List (V×V)}(x:RepEs w ι h es r){i:Nat}{k v:V}(he:r[i]?=some (k,v)) :
  ∃ e,es[i]?=some e∧e.hash=yJ w k∧RepV ι h e.key k∧RepV ι h e.val v∧k.isKey=true:=by
 induction x generalizing i with
 | nil=>simp at he
 | cons a b c d _ ih =>
  cases i with
  | zero=>simp at he;obtain⟨rfl,rfl⟩:=he;exact⟨_,rfl,a,b,c,d⟩
  | succ i=>simpa using ih (by simpa using he)
theorem keys_idx {es:List (V×V)}(nd:(es.map (·.1)).Nodup){i j:Nat}{k v v':V}(h1:es[i]?=some (k,v))(h2:es[j]?=some (k,v')):i=j:=by
 have e1:(es.map (·.1))[i]?=some k:=by simp [h1]
 have e2:(es.map (·.1))[j]?=some k:=by simp [h2]
 exact(List.getElem?_inj (List.getElem?_eq_some_iff.mp e1).1 nd).mp (e1.trans e2.symm)
theorem Um {prog:Program}{w:World}{E:Value→Shared→Prop}{β:Type}{n:Nat}{p:Nat→Bool}{f:Nat→β→Sem (ForInStep β)}{b0:β}{Q:β→Shared→Prop}(Inv:Nat→β→Prop)(h0:Inv 0 b0)
  (skip:∀ i b,p i=false→Inv i b→Inv (i+1) b) (step:∀ i b,i<n→p i=true→Inv i b→wpAny (model prog w) A (f i b) (fun r s'=>match r with | .yield b'=>s'=s∧Inv (i+1) b' | .done b'=>Q b' s') E s)
  (fin:∀ b,Inv n b→Q b s):wpAny (model prog w) A (forIn ((List.range n).filter p) b0 f) Q E s:=by
 have jump:∀ m i b,(∀ j,i≤j→j<i+m→p j=false)→Inv i b→Inv (i+m) b:=by
  intro m
  induction m with
  | zero=>intro i b _ h;exact h
  | succ m ih=>intro i b hp h;exact skip _ _ (hp (i+m) (Nat.le_add_right _ _) (Nat.lt_succ_self _)) (ih i b (fun j a c=>hp j a (Nat.lt_succ_of_lt c)) h)
 refine wpAny_forIn_list _ (fun rest b s'=>s'=s∧∃ i,i≤n∧rest=(List.range' i (n - i)).filter p∧Inv i b) _ ?_ ?_ _ _ ⟨rfl,0,Nat.zero_le _,by rw[List.range_eq_range',Nat.sub_zero],h0⟩
 ·intro x rest b s' h
  refine jP h fun zu20 zv21=>?_;subst zu20;refine kL zv21 fun i hi hr hI=>?_
  refine Z04 (filter_range'_cons _ _ _ _ _ hr.symm) fun h1 h2 h3 h4 h5=>?_
  have hIx:Inv x b:=by
   have:=jump (x - i) i b (fun j a c=>h4 j a (by rw[Nat.add_sub_cancel' h1] at c;exact c)) hI
   rw[Nat.add_sub_cancel' h1] at this;exact this
  have hin:=Nat.add_sub_cancel' hi
  have hxn:x<n:=by rw[hin] at h2;exact h2
  refine wpAny_mono (step x b hxn h3 hIx) (fun r s'' hr=>?_) fun J J e=>e
  cases r with
  | yield b'=>exact⟨hr.1,x+1,hxn,by rw[h5,hin],hr.2⟩
  | done b'=>exact hr
 ·intro b s' h
  refine jP h fun zw22 zx23=>?_;subst zw22;refine kL zx23 fun i hi hr hI=>?_
  refine fin b ?_
  have:=jump (n - i) i b (fun j a c=>by
   have:=List.filter_eq_nil_iff.mp hr.symm j (List.mem_range'_1.mpr ⟨a,c⟩)
   simpa using this) hI
  rw[Nat.add_sub_cancel' hi] at this;exact this
structure Fk (A:Around)(s:Shared)(ents:Array DictEntry)(es:List (V×V))(key:Value)(k:V)(hv:Int):Prop where
 nd:(es.map (·.1)).Nodup
 get:∀ i (hi:i<ents.size),∃ k' v',es[i]?=some (k',v')∧(k'=k→ents[i].hash=hv)∧EqAt A s ents[i].key key (decide (k'=k))
 sz:ents.size=es.length
noncomputable def hasH (ents:Array DictEntry)(hv:Int)(i:Nat):Bool:=(ents[i]?.map (·.hash)) == some hv
section
variable {ents:Array DictEntry}{es:List (V×V)}{key:Value}{k:V}{hv:Int}(F:Fk A s ents es key k hv)
include F
theorem Fk.skip {i:Nat}(hp:hasH ents hv i=false)(v:V):es[i]?≠some (k,v):=fun he=>by
 have hi:i<ents.size:=by rw[F.sz];exact(List.getElem?_eq_some_iff.mp he).1
 refine wZ (F.get i hi) fun k' v' he' hh J=>?_
 rw[he] at he';cases he'
 rw[hasH,Array.getElem?_eq_getElem hi,Option.map_some,hh rfl] at hp
 simp at hp
theorem Fk.out {v:V}{i:Nat}(hi:ents.size≤i):es[i]?≠some (k,v):=fun he=>by
 have:=(List.getElem?_eq_some_iff.mp he).1
 rw[F.sz] at hi;exact kc ju jc ja jA jc qt hi this
omit F in
theorem Fk.less {n:Nat}(h:∀ (j:Nat) v,j<n→es[j]?≠some (k,v))(hn:∀ v,es[n]?≠some (k,v)):∀ (j:Nat) v,j<n+1→es[j]?≠some (k,v):=fun j v hj=>by
 rcases Nat.lt_or_ge j n with h' | h'
 ·exact h j v h'
 ·have:j=n:=by exact qa (jq ju jc ja jg jA qt hj) (h')
  subst this;exact hn v
theorem Fk.none (h:∀ (j:Nat) v,j<ents.size→es[j]?≠some (k,v))(j:Nat)(v:V):es[j]?≠some (k,v):=by
 rcases Nat.lt_or_ge j ents.size with h' | h'
 ·exact h j v h'
 ·exact F.out h'
end
theorem hasH_eq {ents:Array DictEntry}{hv:Int}{i:Nat}(hi:i<ents.size)(hp:hasH ents hv i=true):(ents[i].hash == hv)=true:=by
 rw[hasH,Array.getElem?_eq_getElem hi,Option.map_some] at hp
 simpa using hp
section
variable {prog:Program}{w:World}{E:Value→Shared→Prop}{d:Addr}{o:Obj}{ents:Array DictEntry}{ep:Nat}{es:List (V×V)}{key:Value}{k:V}{hv:Int}{Q:Option Nat→Shared→Prop}
theorem YY (ho:s.heap.get? d=some o)(hd:o.data=.dict ents ep)(F:Fk A s ents es key k hv)(hnone:(∀ (i:Nat) (v:V),es[i]?≠some (k,v))→Q none s)(hsome:∀ (i:Nat) (v:V),es[i]?=some (k,v)→Q (some i) s) :
  wpAny (model prog w) A (dictWalkPlain d key hv ents ((List.range ents.size).filter (hasH ents hv))) Q E s:=by
 refine wpAny_bind (Um (fun i b=>b=(none,())∧∀ (j:Nat) v,j<i→es[j]?≠some (k,v)) ⟨rfl,fun J J h=>absurd h (Nat.not_lt_zero _)⟩ (fun i b hp h=>⟨h.1,Fk.less h.2 (F.skip hp)⟩) ?_ ?_)
 ·intro x b hlt hp h
  obtain⟨rfl,hno⟩:=h
  obtain⟨k',v',he,_,eqb⟩:=F.get x hlt
  simp only[Array.getElem?_eq_getElem hlt]
  rw[if_pos (hasH_eq hlt hp)]
  refine wpAny_bind (wpAny_dictEpoch ho hd (wpAny_bind (eqb _ _ _ _ (wpAny_bind (wpAny_dictEpoch ho hd ?_)))))
  rw[if_neg (by simp)]
  by_cases hkk:k'=k
  ·rw[decide_eq_true hkk]
   exact wpAny_bind (wpAny_rule (wpAny_pure (wpAny_pure (hsome x v' (hkk▸he)))))
  ·rw[decide_eq_false hkk]
   exact wpAny_bind (wpAny_rule (wpAny_pure ⟨rfl,rfl,Fk.less hno fun v hv=>by rw[he] at hv;cases hv;exact hkk rfl⟩))
 ·intro b h
  obtain⟨rfl,hno⟩:=h
  exact wpAny_pure (hnone (F.none hno))
theorem ite_bind {α:Type}{c:Prop}[Decidable c]{m:Sem Bool}{f:Bool→Sem α}{Q:α→Shared→Prop}(hp:wpAny (model prog w) A (f false) Q E s)(ht:¬ c→∀ Q':Bool→Shared→Prop,Q' false s→wpAny (model prog w) A m Q' E s) :
  wpAny (model prog w) A (if c then f false else m >>= f) Q E s:=by
 by_cases h:c
 ·rw[if_pos h];exact hp
 ·rw[if_neg h];exact wpAny_bind (ht h _ hp)
theorem ite_of {α:Type}{c:Prop}[Decidable c]{a b:Sem α}{Q:α→Shared→Prop}(h1:wpAny (model prog w) A a Q E s)(h2:wpAny (model prog w) A b Q E s):wpAny (model prog w) A (if c then a else b) Q E s:=by
 by_cases h:c
 ·rw[if_pos h];exact h1
 ·rw[if_neg h];exact h2
theorem ite_no {α:Type}{c:Prop}[Decidable c]{a b:Sem α}{Q:α→Shared→Prop}(h:¬ c)(h2:wpAny (model prog w) A b Q E s):wpAny (model prog w) A (if c then a else b) Q E s:=by
 rw[if_neg h];exact h2
noncomputable def findT (d:Addr)(key:Value)(ents:Array DictEntry)(hv:Int)(stored:List Value):Sem (Option Nat):=do
     let tells ←if stored == [key] then pure false else tableMayTell key stored
     if tells && stored.length≥2 then unsupported "dict.find:order-among-keys-of-one-hash"
     let mut hit:Option Nat:=none
     for i in (List.range ents.size).filter (hasH ents hv) do
      if let some e:=ents[i]? then
       if e.hash == hv then
        let before ←dictEpoch d (keyPart key)
        let same ←eqBool e.key key
        if (←dictEpoch d (keyPart key)) != before then unsupported "dict.changed-during-lookup"
        if same then
         if hit.isSome then unsupported "dict.find:order-among-keys-of-one-hash"
         rule "dict.find.hit"
         if stored.length<2 then return some i
         hit:=some i
        else
         rule "dict.find.same-hash-other-key"
         if tells && !(0≤hv && hv<32) then unsupported "dict.find:asked-again-or-not-hangs-on-the-table"
     return hit
theorem find_tail {stored:List Value}(ho:s.heap.get? d=some o)(hd:o.data=.dict ents ep)(F:Fk A s ents es key k hv)(hnone:(∀ (i:Nat) (v:V),es[i]?≠some (k,v))→Q none s)(hsome:∀ (i:Nat) (v:V),es[i]?=some (k,v)→Q (some i) s)
  (told:∀ Q':Bool→Shared→Prop,Q' false s→wpAny (model prog w) A (tableMayTell key stored) Q' E s) :
  wpAny (model prog w) A (findT d key ents hv stored) Q E s:=by
 unfold findT
 dsimp only
 refine ite_bind ?_ fun J=>told
 rw[if_neg (by simp)]
 refine wpAny_bind (Um (fun i b=>∃ hit,b=(none,hit)∧((hit=none∧∀ (j:Nat) v,j<i→es[j]?≠some (k,v))∨∃ j v,hit=some j∧j<i∧es[j]?=some (k,v))) ⟨none,rfl,.inl ⟨rfl,fun J J h=>absurd h (Nat.not_lt_zero _)⟩⟩ ?_ ?_ ?_)
 ·intro i b hp h
  obtain⟨hit,rfl,h⟩:=h
  refine⟨hit,rfl,?_⟩
  rcases h with ⟨h0,hno⟩ | ⟨j,v,h1,h2,h3⟩
  ·exact .inl ⟨h0,Fk.less hno (F.skip hp)⟩
  ·exact .inr ⟨j,v,h1,by omega,h3⟩
 ·intro x b hlt hp h
  obtain⟨hit,rfl,h⟩:=h
  obtain⟨k',v',he,_,eqb⟩:=F.get x hlt
  simp only[Array.getElem?_eq_getElem hlt]
  rw[if_pos (hasH_eq hlt hp)]
  refine wpAny_bind (wpAny_dictEpoch ho hd (wpAny_bind (eqb _ _ _ _ (wpAny_bind (wpAny_dictEpoch ho hd ?_)))))
  rw[if_neg (by simp)]
  by_cases hkk:k'=k
  ·rw[decide_eq_true hkk]
   subst hkk
   rcases h with ⟨rfl,_⟩ | ⟨j,p,_,hjx,hj⟩
   ·simp only[Option.isSome_none,Bool.false_eq_true,if_false,if_true]
    refine wpAny_bind (wpAny_rule ?_)
    split
    ·exact wpAny_pure (wpAny_pure (hsome x _ he))
    ·exact wpAny_pure ⟨rfl,some x,rfl,.inr ⟨x,_,rfl,Nat.lt_succ_self x,he⟩⟩
   ·exact absurd (keys_idx F.nd hj he) (by omega)
  ·rw[decide_eq_false hkk]
   simp only[Bool.false_eq_true,if_false,Bool.false_and]
   refine wpAny_bind (wpAny_rule (wpAny_pure ⟨rfl,hit,rfl,?_⟩))
   rcases h with ⟨h0,hno⟩ | ⟨j,v,h1,h2,h3⟩
   ·exact .inl ⟨h0,Fk.less hno fun v hv=>by rw[he] at hv;cases hv;exact hkk rfl⟩
   ·exact .inr ⟨j,v,h1,by omega,h3⟩
 ·intro b h
  obtain⟨hit,rfl,h⟩:=h
  rcases h with ⟨rfl,hno⟩ | ⟨j,p,rfl,_,hj⟩
  ·exact wpAny_pure (hnone (F.none hno))
  ·exact wpAny_pure (hsome j p hj)
end
theorem kinds {h:Heap}{key:Value}{k:V}(rk:RepV ι h key k)(hk:k.isKey=true):(∃ i t,key=.int i t)∨∃ a,key=.ref a:=by
 cases k with
 | int=>obtain⟨t,rfl⟩:=rk.intI;exact .inl ⟨_,_,rfl⟩
 | tup=>refine Zz (rk.tupI) fun a J J zy24 J=>?_;subst zy24;exact .inr ⟨_,rfl⟩
 | _=>cases hk
theorem Yp {prog:Program}{E:Value→Shared→Prop}(S:St cx ι ρ H s)(hu:A.units+9<cLine){d:Addr}{o:Obj}{ents:Array DictEntry}{ep:Nat}{es:List (V×V)}{key:Value}{k:V}
  {Q:Option Nat→Shared→Prop} (ho:s.heap.get? d=some o) (hd:o.data=.dict ents ep) (re:RepEs cx.w ι s.heap ents.toList es) (nd:(es.map (·.1)).Nodup) (rk:RepV ι s.heap key k) (hk:k.isKey=true)
  (hnone:(∀ (i:Nat) (v:V),es[i]?≠some (k,v))→Q none s) (hsome:∀ (i:Nat) (v:V),es[i]?=some (k,v)→Q (some i) s) :
  wpAny (model prog cx.w) A (dictFind d key (yJ cx.w k)) Q E s:=by
 have F:Fk A s ents es key k (yJ cx.w k):=⟨nd,fun i hi=>by
  refine Z24 (re.get (e:=ents[i]) (i:=i) (by simp [hi])) fun k' v' he hh r1 J h1=>?_
  exact⟨k',v',he,fun e=>e▸hh,eq_key S hu r1 rk h1 hk⟩,by rw[←Array.length_toList,re.length]⟩
 have plain:=YY (prog:=prog) (w:=cx.w) (E:=E) ho hd F hnone hsome
 have tail:∀ {stored:List Value},(∀ v∈stored,∃ k',RepV ι s.heap v k'∧k'.isKey=true)→_:=fun {stored} hst =>
  find_tail (stored:=stored) (prog:=prog) (w:=cx.w) (E:=E) ho hd F hnone hsome fun J q=>tells_key rk hk hst q
 have hst:∀ v∈(placesWithHash ents.size (fun i=>ents[i]?.map (·.hash)) (yJ cx.w k)).filterMap (fun i=>ents[i]?.map (·.key)),∃ k',RepV ι s.heap v k'∧k'.isKey=true:=by
  intro v hv
  refine jo (List.mem_filterMap.mp hv) fun i J hi=>?_
  refine jo (Option.map_eq_some_iff.mp hi) fun e hei zz25=>?_;subst zz25
  refine Z24 (re.get (i:=i) (e:=e) (by simpa using hei)) fun k' J J J r1 J h1=>?_
  exact⟨k',r1,h1⟩
 have tail:=tail hst
 have hany:¬ (ents.any fun e=>e.key == key && e.hash != yJ cx.w k)=true:=by
  rw[←Array.any_toList,List.any_eq_true]
  intro zk52
  refine jo zk52 fun e hin hc=>?_
  obtain⟨i,hi⟩:=List.mem_iff_getElem?.mp hin
  refine Z24 (re.get hi) fun k' J J h1 r1 J J=>?_
  simp only[Bool.and_eq_true,beq_iff_eq,bne_iff_ne,ne_eq] at hc
  rw[hc.1] at r1
  rw[RepV.fn S r1 rk] at h1
  exact hc.2 h1
 clear nd hst
 clear S re
 refine wpAny_holding (wpAny_bind (wpAny_dictEntries ho hd ?_))
 rcases kinds rk hk with ⟨i,t,rfl⟩ | ⟨a,rfl⟩
 ·exact ite_of plain tail
 ·exact ite_of plain (ite_no hany tail)
end
section
variable {cx:Cx}{ι:List Addr}{ρ:jz}{H:H}{s:Shared}{A:Around}{prog:Program}{E:Value→Shared→Prop}
theorem YK {h:Heap}{xs:List Value}{vs:List V}(r:RepVs ι h xs vs):vs.all V.isAtom=true →
  ∃ ks,ItemsAre (intKind prog cx.w) ks xs∧ks.map (intKind prog cx.w).hash=vs.map (hashA cx.w):=by
 induction xs generalizing vs with
 | nil=>cases r;exact fun J=>⟨[],.nil,rfl⟩
 | cons y ys ih =>
  cases r with
  | cons g r =>
   intro hh
   rw[List.all_cons,Bool.and_eq_true] at hh
   refine jo (ih r hh.2) fun ks h1 h2=>?_
   cases g with
   | int i t=>exact⟨i::ks,.cons (by simp [intKind,Value.isInt]) h1,by rw[List.map_cons,List.map_cons,h2];rfl⟩
   | _=>exact Bool.noConfusion hh.1
theorem YH (hu:A.units<cLine){u:Value}{k:V}{Q:Int→Shared→Prop}(r:RepV ι s.heap u k)(h:k.isKey=true)
  (q:∀ tk,Q (yJ cx.w k) { s with toks:=tk }):wpAny (model prog cx.w) A (pyHash u) Q E s:=by
 cases r with
 | none=>exact Bool.noConfusion h
 | bool=>exact Bool.noConfusion h
 | rng=>exact Bool.noConfusion h
 | ref=>exact Bool.noConfusion h
 | int i t=>exact wpAny_pyHash_int (q _)
 | str=>exact Bool.noConfusion h
 | @tup a n vals vs g z r =>
  refine jo (YK (prog:=prog) (cx:=cx) r h) fun ks h1 h2=>?_
  refine wpAny_pyHash_tuple (knd:=intKind prog cx.w) hu (ks:=ks) ⟨_,vals,n,g,rfl,rfl,h1⟩ ?_
  have:=q (s.toks+(ks.length+1))
  rw[tupleKeyHash,h2];exact this
theorem dget_at {es:List (V×V)}(nd:(es.map (·.1)).Nodup){i:Nat}{k v:V}(h:es[i]?=some (k,v)):wH es k=some v:=by
 induction es generalizing i with
 | nil=>simp at h
 | cons e r ih =>
  simp only[List.map_cons,List.nodup_cons] at nd
  cases i with
  | zero=>simp at h;subst h;simp [wH]
  | succ i =>
   simp only[List.getElem?_cons_succ] at h
   have hm:k∈r.map (·.1):=List.mem_map.mpr ⟨(k,v),List.mem_of_getElem? h,rfl⟩
   have hne:¬ e.1=k:=fun q=>nd.1 (q▸hm)
   have:=ih nd.2 h
   simpa [wH,List.find?_cons,hne] using this
theorem Uv {es:List (V×V)}{k:V}(h:∀ (i:Nat) (v:V),es[i]?≠some (k,v)):wH es k=none:=by
 have:(es.find? fun e=>decide (e.1=k))=none:=by
  rw[List.find?_eq_none]
  intro x hx hk
  obtain⟨j,hj⟩:=List.mem_iff_getElem?.mp hx
  have hk':x.1=k:=of_decide_eq_true hk
  exact h j x.2 (by rw[hj,←hk'])
 simp [wH,this]
theorem Kv {es:List (V×V)}{k:V}:(wH es k).isSome=decide (k∈es.map (·.1)):=by
 induction es with
 | nil=>simp [wH]
 | cons e r ih =>
  by_cases h:e.1=k
  ·simp [wH,h]
  ·have h':¬ k=e.1:=fun q=>h q.symm
   have e1:wH (e::r) k=wH r k:=by simp [wH,h]
   rw[e1,ih]
   simp [h']
theorem KV (es:List (V×V))(k v:V):(es.map (fun e=>if e.1=k then (e.1,v) else e)).map (·.1)=es.map (·.1):=by
 induction es with
 | nil=>rfl
 | cons e r ih =>
  simp only[List.map_cons,ih]
  by_cases h:e.1=k <;> simp [h]
theorem Ki {es:List (V×V)}(nd:(es.map (·.1)).Nodup)(k v:V):((kB es k v).map (·.1)).Nodup:=by
 unfold kB
 split
 ·rw[KV];exact nd
 ·rename_i h
  rw[List.map_append,List.nodup_append]
  refine⟨nd,by simp,fun x hx y hy=>?_⟩
  simp at hy;subst hy
  rintro rfl
  rw[Kv] at h
  simp only[decide_eq_true_eq] at h
  exact h hx
theorem Jy (es:List (V×V))(k v:V)(h:k ∉ es.map (·.1)):es.map (fun e=>if e.1=k then (e.1,v) else e)=es:=by
 induction es with
 | nil=>rfl
 | cons e r ih =>
  simp only[List.map_cons,List.mem_cons,not_or] at h ⊢
  rw[if_neg (fun q=>h.1 q.symm),ih h.2]
theorem RepEs.modify {w:World}{h:Heap}{ents:List DictEntry}{es:List (V×V)}(re:RepEs w ι h ents es)(nd:(es.map (·.1)).Nodup){i:Nat}{k v₀ v:V}{val:Value}(hi:es[i]?=some (k,v₀))(rv:RepV ι h val v) :
  RepEs w ι h (ents.modify i fun e=>{ e with val:=val }) (es.map (fun e=>if e.1=k then (e.1,v) else e)):=by
 induction re generalizing i with
 | nil=>simp at hi
 | @cons e ents k' v' r a b c d re ih =>
  simp only[List.map_cons,List.nodup_cons] at nd
  cases i with
  | zero =>
   simp at hi
   obtain⟨rfl,rfl⟩:=hi
   simp only[List.modify_zero_cons,List.map_cons,if_true]
   rw[Jy r k' v nd.1]
   exact .cons a b rv d re
  | succ i =>
   simp only[List.getElem?_cons_succ] at hi
   have hm:k∈r.map (·.1):=List.mem_map.mpr ⟨(k,v₀),List.mem_of_getElem? hi,rfl⟩
   have hne:¬ k'=k:=fun q=>nd.1 (q▸hm)
   simp only[List.modify_succ_cons,List.map_cons,if_neg hne]
   exact .cons a b c d (ih nd.2 hi)
theorem RepEs.push {w:World}{h:Heap}{ents:List DictEntry}{es:List (V×V)}(re:RepEs w ι h ents es){k v:V}{key val:Value}(rk:RepV ι h key k)(rv:RepV ι h val v)(hk:k.isKey=true) :
  RepEs w ι h (ents++[⟨yJ w k,key,val⟩]) (es++[(k,v)]):=by
 induction re with
 | nil=>exact .cons rfl rk rv hk .nil
 | cons a b c d _ ih=>exact .cons a b c d ih
structure DictAt (cx:Cx)(ι:List Addr)(s:Shared)(d:Addr)(es:List (V×V))(ents:Array DictEntry)(ep:Nat):Prop where
 get:s.heap.get? d=some { cls:=.type "dict",data:=.dict ents ep }
 rep:RepEs cx.w ι s.heap ents.toList es
 nd:(es.map (·.1)).Nodup
 le:es.length≤SZ
theorem St.dict (S:St cx ι ρ H s){n:Nat}{d:Addr}{es:List (V×V)}{ep:Nat}(hi:ι[n]?=some d)(hH:H[n]?=some (.dict es ep)):∃ ents,DictAt cx ι s d es ents ep:=by
 refine Z13 (S.objOf hi hH) fun ents g re nd le=>?_
 exact⟨ents,g,re,nd,le⟩
theorem JI (S:St cx ι ρ H s)(hu:A.units+9<cLine){d:Addr}{es:List (V×V)}{ents:Array DictEntry}{ep:Nat}(D:DictAt cx ι s d es ents ep){key:Value}{k:V}{Q:Option Value→Shared→Prop}
  (rk:RepV ι s.heap key k) (hk:k.isKey=true) (hnone:wH es k=none→∀ tk,Q none { s with toks:=tk }) (hsome:∀ v val,wH es k=some v→RepV ι s.heap val v→∀ tk,Q (some val) { s with toks:=tk }) :
  wpAny (model prog cx.w) A (dictGet d key) Q E s:=by
 unfold dictGet
 refine wpAny_holding (wpAny_bind (YH (cx:=cx) (by exact jq ju jg ja (qA (qA jc (qN 9)) jj) ja qt hu) rk hk fun tk=>wpAny_bind ?_))
 refine Yp (S.toks tk) hu (s:={ s with toks:=tk }) D.get rfl D.rep D.nd rk hk (fun h=>wpAny_pure (hnone (Uv h) tk)) fun i v h=>?_
 refine wpAny_bind (wpAny_dictEntries (s:={ s with toks:=tk }) D.get rfl ?_)
 refine Z14 (D.rep.get' h) fun e he J J rv J=>?_
 have he':ents[i]?=some e:=by simpa using he
 rw[he']
 exact wpAny_pure (hsome v _ (dget_at D.nd h) rv tk)
theorem Wl (S:St cx ι ρ H s)(hu:A.units+9<cLine){n:Nat}{d:Addr}(hi:ι[n]?=some d){es:List (V×V)}{ents:Array DictEntry}{ep:Nat}(hH:H[n]?=some (.dict es ep))(D:DictAt cx ι s d es ents ep)(hlt:es.length<SZ){key val:Value}{k v:V}{Q:Unit→Shared→Prop}
  (rk:RepV ι s.heap key k) (rv:RepV ι s.heap val v) (hk:k.isKey=true)
  (q:∀ ver s',St cx ι ρ (H.set n (.dict (kB es k v) ver)) s'→Mono ι s ι s'→Q () s') :
  wpAny (model prog cx.w) A (dictSetHashed d key (yJ cx.w k) val) Q E s:=by
 unfold dictSetHashed
 refine wpAny_holding (wpAny_bind ?_)
 have hsz:ents.size=es.length:=by rw[←Array.length_toList,D.rep.length]
 have imm:∀ f,Imm s.heap (s.heap.update d f):=fun f=>.of_but (Heap.SameBut.update ..).extBut fun o e=>by rw[D.get] at e;cases e;exact ym rfl
 refine Yp S hu D.get rfl D.rep D.nd rk hk (fun h=>?_) fun i v₀ h=>?_
 ·have hn:=Uv h
  refine wpAny_bind (wpAny_rule (wpAny_updateDictKeys (hz:=by rw[←SZ_eq];exact jt jr jc ja jD ja jc jd qt hlt (qe hsz)) D.get rfl ?_))
  have e:kB es k v=es++[(k,v)]:=by simp [kB,hn]
  have R:=S.set (h':=s.heap.update d (Obj.mapDictKeys fun x=>x.push ⟨yJ cx.w k,key,val⟩)) (o':=.dict (kB es k v) (ep+1)) s.toks hi (fun vs e=>by rw[hH] at e;cases e) (Heap.SameBut.update ..).extBut ?_
  ·exact q _ _ R.1 ⟨R.2.pre,R.2.imm⟩
  ·refine⟨ents.push ⟨yJ cx.w k,key,val⟩,?_,?_,Ki D.nd k v,?_⟩
   ·exact Heap.get?_update_self _ D.get rfl
   ·rw[e]
    simpa using (D.rep.mono (List.prefix_refl _) (imm _)).push (rk.mono (List.prefix_refl _) (imm _)) (rv.mono (List.prefix_refl _) (imm _)) hk
   ·rw[e];simp;exact hlt
 ·have hs:=dget_at D.nd h
  refine wpAny_bind (wpAny_rule (wpAny_bind (wpAny_updateDict D.get rfl (wpAny_point ?_))))
  have e:kB es k v=es.map (fun e=>if e.1=k then (e.1,v) else e):=by simp [kB,hs]
  have R:=S.set (h':=s.heap.update d (Obj.mapDict fun x=>x.modify i fun e=>{ e with val:=val })) (o':=.dict (kB es k v) ep) s.toks hi (fun vs e=>by rw[hH] at e;cases e) (Heap.SameBut.update ..).extBut ?_
  ·exact q _ _ R.1 ⟨R.2.pre,R.2.imm⟩
  ·refine⟨ents.modify i (fun e=>{ e with val:=val }),?_,?_,Ki D.nd k v,?_⟩
   ·exact Heap.get?_update_self _ D.get rfl
   ·rw[e]
    have:=(D.rep.mono (List.prefix_refl _) (imm (Obj.mapDict fun x=>x.modify i fun e=>{ e with val:=val }))).modify D.nd h (rv.mono (List.prefix_refl _) (imm _))
    simpa using this
   ·rw[e];simp;exact jq ju jc ja jg ja qt hlt
theorem JL (S:St cx ι ρ H s)(hu:A.units+9<cLine){n:Nat}{d:Addr}(hi:ι[n]?=some d){es:List (V×V)}{ents:Array DictEntry}{ep:Nat}(hH:H[n]?=some (.dict es ep))(D:DictAt cx ι s d es ents ep)(hlt:es.length<SZ){key val:Value}{k v:V}{Q:Unit→Shared→Prop}
  (rk:RepV ι s.heap key k) (rv:RepV ι s.heap val v) (hk:k.isKey=true)
  (q:∀ ver s',St cx ι ρ (H.set n (.dict (kB es k v) ver)) s'→Mono ι s ι s'→Q () s') :
  wpAny (model prog cx.w) A (dictSet d key val) Q E s:=by
 unfold dictSet
 refine wpAny_holding (wpAny_bind (YH (cx:=cx) (by exact jq ju jg ja (qA (qA jc (qN 9)) jj) ja qt hu) rk hk fun tk=>?_))
 exact Wl (s:={ s with toks:=tk }) (S.toks tk) hu hi hH ⟨D.get,D.rep,D.nd,D.le⟩ hlt rk rv hk fun ver s' S' M=>q ver s' S' ⟨M.pre,M.imm⟩
end
structure AOk (A:Around)(d:Nat):Prop where
 hd:A.handled=none
 dp:A.depth+d<recursionLimit
 un:A.units+4 * d+100<cLine
theorem AOk.u {A:Around}{d:Nat}(a:AOk A d):A.units+50<cLine:=by have:=a.un;exact jq jr (qA (qA jc (qN 50)) jj) ja (qA (qA (qA jc (qM 4 jd)) (qN 100)) jj) ja qt this
inductive Post (cx:Cx)(ι:List Addr)(ρ:jz)(s:Shared)(Q:V→H→Prop)(val:Value)(s':Shared):Prop
 | mk (v:V) (ι':List Addr) (H':H) (M:Mono ι s ι' s') (S:St cx ι' ρ H' s') (r:RepV ι' s'.heap val v) (q:Q v H')
theorem Post.el {cx:Cx}{ι:List Addr}{ρ:jz}{s:Shared}{Q:V→H→Prop}{val:Value}{s':Shared}{G:Prop}(h:Post cx ι ρ s Q val s')(k:∀ v ι' H',Mono ι s ι' s'→St cx ι' ρ H' s'→RepV ι' s'.heap val v→Q v H'→G):G:=by cases h;apply k <;> assumption
inductive PostB (s:Shared)(Q:Bool→Prop)(val:Value)(s':Shared):Prop
 | mk (r:Bool) (tk:Nat) (e:val=.bool r) (e':s'={ s with toks:=tk }) (q:Q r)
theorem PostB.el {s:Shared}{Q:Bool→Prop}{val:Value}{s':Shared}{G:Prop}(h:PostB s Q val s')(k:∀ r tk,val=.bool r→s'={ s with toks:=tk }→Q r→G):G:=by cases h;apply k <;> assumption
inductive PostR (ι:List Addr)(s:Shared)(Q:V→Prop)(val:Value)(s':Shared):Prop
 | mk (v:V) (tk:Nat) (e:s'={ s with toks:=tk }) (r:RepV ι s.heap val v) (q:Q v)
section
variable {cx:Cx}{ι:List Addr}{ρ:jz}{H:H}{s:Shared}{A:Around}{prog:Program}{E:Value→Shared→Prop}
theorem Mono.tk (tk:Nat):Mono ι s ι { s with toks:=tk }:=⟨List.prefix_refl _,.refl _⟩
theorem Post.tok (S:St cx ι ρ H s){val:Value}{v:V}{Q:V→Tw.H→Prop}(r:RepV ι s.heap val v)(q:Q v H)(tk:Nat):Post cx ι ρ s Q val { s with toks:=tk } :=
 ⟨v,ι,H,.tk tk,S.toks tk,r,q⟩
theorem Post.here (S:St cx ι ρ H s){val:Value}{v:V}{Q:V→Tw.H→Prop}(r:RepV ι s.heap val v)(q:Q v H):Post cx ι ρ s Q val s:=⟨v,ι,H,.refl _ _,S,r,q⟩
theorem PostR.post (S:St cx ι ρ H s){val:Value}{s':Shared}{Q:V→Tw.H→Prop}(p:PostR ι s (fun v=>Q v H) val s'):Post cx ι ρ s Q val s':=by
 obtain⟨v,tk,rfl,r,q⟩:=p;exact .tok S r q tk
theorem PostB.post (S:St cx ι ρ H s){val:Value}{s':Shared}{Q:V→Tw.H→Prop}(p:PostB s (fun r=>Q (.bool r) H) val s'):Post cx ι ρ s Q val s':=by
 obtain⟨r,tk,rfl,rfl,q⟩:=p;exact .tok S (.bool r) q tk
theorem get?_fresh {h:Heap}{o:Obj}(hf:o.isFreed=false):(h.push o).get? h.objs.size=some o:=Heap.get?_push_size _ hf
theorem St.new (S:St cx ι ρ H s)(ok:CxOk cx){h':Heap}{a:Addr}{o:MO}(tk:Nat)(hk:∀ b ob,s.heap.get? b=some ob→h'.get? b=some ob)(ha:s.heap.objs.size≤a)(r:RepO cx.w ι h' a o) :
  St cx (ι++[a]) ρ (H++[o]) { s with heap:=h',toks:=tk }∧Mono ι s (ι++[a]) { s with heap:=h',toks:=tk }:=by
 refine Z04 (S.fresh ok ha) fun f1 f2 f3 f4 f5=>?_
 exact⟨(S.ext tk hk).alloc r f1 f2 f3 f4 f5,⟨List.prefix_append _ _,.of_ext hk⟩⟩
theorem Ja (S:St cx ι ρ H s){h:Heap}(a:Addr):RepV (ι++[a]) h (.ref a) (.ref H.length):=.ref (by rw[←S.len];simp)
theorem Post.list (S:St cx ι ρ H s)(ok:CxOk cx){vals:Array Value}{n:Nat}{vs:List V}{Q:V→Tw.H→Prop}(r:RepVs ι s.heap vals.toList vs)(hl:vs.length≤SZ)(q:Q (.ref H.length) (H++[.list vs]))(tk:Nat) :
  Post cx ι ρ s Q (.ref s.heap.objs.size) { s with heap:=s.heap.push { cls:=.type "list",data:=.seq vals n },toks:=tk }:=by
 have hk:∀ b ob,s.heap.get? b=some ob→(s.heap.push { cls:=.type "list",data:=.seq vals n }).get? b=some ob:=fun J J e=>Heap.get?_push_of_some _ e
 obtain⟨S',M⟩:=S.new ok (o:=.list vs) tk hk (Nat.le_refl _) ⟨vals,n,get?_fresh rfl,r.mono (List.prefix_refl _) (.of_ext hk),hl⟩
 exact⟨_,_,_,M,S',Ja S _,q⟩
theorem Post.dict (S:St cx ι ρ H s)(ok:CxOk cx){Q:V→Tw.H→Prop}(q:Q (.ref H.length) (H++[.dict [] 0]))(tk:Nat) :
  Post cx ι ρ s Q (.ref s.heap.objs.size) { s with heap:=s.heap.push { cls:=.type "dict",data:=.dict #[] },toks:=tk }:=by
 have hk:∀ b ob,s.heap.get? b=some ob→(s.heap.push { cls:=.type "dict",data:=.dict #[] }).get? b=some ob:=fun J J e=>Heap.get?_push_of_some _ e
 obtain⟨S',M⟩:=S.new ok (o:=.dict [] 0) tk hk (Nat.le_refl _) ⟨#[],get?_fresh rfl,.nil,List.nodup_nil,Nat.zero_le _⟩
 exact⟨_,_,_,M,S',Ja S _,q⟩
theorem Post.tup (S:St cx ι ρ H s){vals:Array Value}{n:Nat}{vs:List V}{Q:V→Tw.H→Prop}(r:RepVs ι s.heap vals.toList vs)(hl:vs.length≤SZ)(q:Q (.tup vs) H)(tk:Nat) :
  Post cx ι ρ s Q (.ref s.heap.objs.size) { s with heap:=s.heap.push { cls:=.type "tuple",data:=.seq vals n },toks:=tk }:=by
 have hk:∀ b ob,s.heap.get? b=some ob→(s.heap.push { cls:=.type "tuple",data:=.seq vals n }).get? b=some ob:=fun J J e=>Heap.get?_push_of_some _ e
 exact⟨.tup vs,ι,H,.ext hk,S.ext tk hk,.tup (get?_fresh rfl) (by rw[←Array.length_toList,r.length];exact hl) (r.mono (List.prefix_refl _) (.of_ext hk)),q⟩
theorem len_app (x y:Str):(x++y).length=x.length+y.length:=by
 show(Str.append x y).length=_
 cases x;cases y;simp [Str.append,Str.length]
theorem zO (x y:Str):(x++y).cps.toList=x.cps.toList++y.cps.toList:=by
 show(Str.append x y).cps.toList=_
 cases x;cases y;simp [Str.append]
theorem ki (x:Str):x.cps.toList.length=x.length:=by cases x;simp [Str.length]
theorem ZX {a:Int}(h:a.natAbs<2 ^ 63):Builtin.Int.intBits a≤64:=by
 unfold Builtin.Int.intBits
 split
 ·omega
 ·rename_i h0
  have h0':a.natAbs≠0:=by simpa using h0
  have:=(Nat.log2_lt h0').mpr h
  exact jq jO jg (qN 64) jg (qN 63) qt this
theorem mulOk_ok {a b:Int}(h:jab a b):IntMulOk a b:=h.elim (fun h=>.of_left (ZX h)) fun h=>.of_right (ZX h)
noncomputable def Bop.py:Bop→Operator
 | .add=>.Add | .sub=>.Sub | .mul=>.Mult | .fdiv=>.FloorDiv | .mod=>.Mod
theorem KQ {α:Type}(xs:Array α):∀ (k:Nat) (acc:Array α),(List.foldl (fun x1 x2=>x1++x2) acc (List.replicate k xs)).toList=acc.toList++(List.replicate k xs.toList).flatten
 | 0,acc=>by simp
 | k+1,acc=>by
  rw[List.replicate_succ,List.foldl_cons,KQ xs k (acc++xs)]
  simp [List.replicate_succ]
theorem RepVs.flat {h:Heap}{xs:List Value}{vs:List V}(r:RepVs ι h xs vs):∀ k,RepVs ι h (List.replicate k xs).flatten (List.replicate k vs).flatten
 | 0=>.nil
 | k+1=>by rw[List.replicate_succ,List.replicate_succ];simpa using r.append (r.flat k)
theorem add_sound (S:St cx ι ρ H s)(ok:CxOk cx){x y:Value}{a b:V}{Q:V→Tw.H→Prop}(ra:RepV ι s.heap x a)(rb:RepV ι s.heap y b)(h:AddW a b H Q) :
  wpAny (model prog cx.w) A (binaryOp .Add x y) (Post cx ι ρ s Q) E s:=by
 cases a with
 | int i =>
  obtain⟨j,rfl,h⟩:=asInt.inv h
  obtain⟨t,rfl⟩:=ra.intI
  obtain⟨u,rfl⟩:=rb.intI
  exact PySem.P.add_int (.tok S (.int _ _) h _)
 | str v =>
  obtain⟨w,rfl,h0,h⟩:=asStr.inv h
  obtain⟨x,t,rfl,rfl,z⟩:=ra.strInv
  obtain⟨y,u,rfl,rfl,z'⟩:=rb.strInv
  have hz:x.length+y.length≤SZ:=by rw[ki,ki] at h0;exact h0
  exact PyProof.Rows.add_str (fun t' tk=>.tok S (.strOf (zO x y) (by rw[len_app];exact hz)) h tk) hz
 | tup vs =>
  refine jo (asTup.inv h) fun ws za26 zb27=>?_;subst za26;refine Z03 zb27 fun h1 h2 h3 h4=>?_
  refine Zz (ra.tupI) fun a n vals zc28 zd29=>?_;subst zc28;refine kH zd29 fun g z r=>?_
  refine Zz (rb.tupI) fun b n' vals' ze30 zf31=>?_;subst ze30;refine kH zf31 fun g' z' r'=>?_
  have l1:vals.size=vs.length:=by rw[←Array.length_toList,r.length]
  have l2:vals'.size=ws.length:=by rw[←Array.length_toList,r'.length]
  have e1:¬ vals.isEmpty=true:=fun e=>h1 (List.length_eq_zero_iff.mp (by rw[←l1];simpa using e))
  have e2:¬ vals'.isEmpty=true:=fun e=>h2 (List.length_eq_zero_iff.mp (by rw[←l2];simpa using e))
  refine P.add_tuple g g' e1 e2 ?_ (by rw[l1,l2];exact h3)
  exact Post.tup S (vs:=vs++ws) (by rw[Array.toList_append];exact r.append r') (by rw[List.length_append];exact h3) h4 s.toks
 | ref m =>
  refine jo (asRef.inv h) fun n zg32 zh33=>?_;subst zg32;refine Z23 zh33 fun vs ws h1 h2 h3 h4=>?_
  refine jo (ra.refI) fun a zi34 gi=>?_;subst zi34
  refine jo (rb.refI) fun b zj35 gj=>?_;subst zj35
  refine wZ (S.objOf gi h1) fun va na g r J=>?_
  refine wZ (S.objOf gj h2) fun vb nb g' r' J=>?_
  have l1:va.size=vs.length:=by rw[←Array.length_toList,r.length]
  have l2:vb.size=ws.length:=by rw[←Array.length_toList,r'.length]
  refine P.add_list g g' ?_ (by rw[l1,l2];exact h3)
  exact Post.list S ok (vs:=vs++ws) (by rw[Array.toList_append];exact r.append r') (by rw[List.length_append];exact h3) h4 s.toks
 | _=>exact h.elim
theorem foldl_if {va:Array Value}(k:Nat):(List.foldl (fun x1 x2=>x1++x2) #[] (List.replicate (if va.isEmpty=true then 0 else k) va)).toList=(List.replicate k va.toList).flatten:=by
 rw[KQ]
 by_cases he:va.isEmpty=true
 ·have:va=#[]:=by simpa using he
  subst this
  simp
 ·simp [he]
theorem mul_sound (S:St cx ι ρ H s)(ok:CxOk cx){x y:Value}{a b:V}{Q:V→Tw.H→Prop}(ra:RepV ι s.heap x a)(rb:RepV ι s.heap y b)(h:MulW a b H Q) :
  wpAny (model prog cx.w) A (binaryOp .Mult x y) (Post cx ι ρ s Q) E s:=by
 cases a with
 | int i =>
  obtain⟨j,rfl,h⟩:=asInt.inv h
  obtain⟨t,rfl⟩:=ra.intI
  obtain⟨u,rfl⟩:=rb.intI
  exact PySem.P.mul_int (.tok S (.int _ _) h.2 _) (mulOk_ok h.1)
 | ref m =>
  refine jo (asInt.inv h) fun k zk36 zl37=>?_;subst zk36;refine Z14 zl37 fun vs h1 h0 h62 h3 h4=>?_
  refine jo (ra.refI) fun a zm38 gi=>?_;subst zm38
  obtain⟨u,rfl⟩:=rb.intI
  refine wZ (S.objOf gi h1) fun va na g r J=>?_
  have l1:va.size=vs.length:=by rw[←Array.length_toList,r.length]
  have q:=Post.list S ok (vals:=List.foldl (fun x1 x2=>x1++x2) #[] (List.replicate (if va.isEmpty=true then 0 else k.toNat) va)) (n:=0) (vs:=(List.replicate k.toNat vs).flatten) (Q:=Q)
   (by rw[foldl_if];exact r.flat _) (by simp [Nat.mul_comm] at h3 ⊢;exact h3) h4 s.toks
  exact wpAny_binaryOp_repeat_ref (T:="list") (U:="int") (by decide) ⟨_,g,rfl⟩ (fun s'=>typeIs_int s' k u) noFill_list_mul F.fills_int_mul F.slot_int_rmul repeat_list F.slot_int_index.lookup
   (call_meets F.slot_int_rmul (typeIs_int s k u) F.entry_int_rmul (F.args_int_rmul_2 _ _) (int___rmul___int_list k u a va na)
    ⟨g,rfl,⟨_,g,rfl⟩,call_meets F.slot_list_mul ⟨_,g,rfl⟩ F.entry_list_mul (F.args_list_mul_2 _ _)
     (AutoListH.list___mul___list_int_3 a va na k u (by simp [Builtin.List.listFitsIndex];omega) (by rw[l1];have:vs.length * k.toNat≤16777216:=h3;omega) (by simp [Builtin.List.listTooLong,sizeLine,l1];omega))
     ⟨g,q⟩⟩)
 | _=>exact h.elim
theorem bin_sound (S:St cx ι ρ H s)(ok:CxOk cx){op:Bop}{x y:Value}{a b:V}{Q:V→Tw.H→Prop}(ra:RepV ι s.heap x a)(rb:RepV ι s.heap y b)(h:BinW op a b H Q) :
  wpAny (model prog cx.w) A (binaryOp op.py x y) (Post cx ι ρ s Q) E s:=by
 cases op with
 | add=>exact add_sound S ok ra rb h
 | mul=>exact mul_sound S ok ra rb h
 | sub =>
  refine jo (asInt.inv h) fun i zn39 h=>?_;subst zn39
  obtain⟨j,rfl,h⟩:=asInt.inv h
  obtain⟨t,rfl⟩:=ra.intI
  obtain⟨u,rfl⟩:=rb.intI
  exact PySem.P.sub_int (.tok S (.int _ _) h _)
 | fdiv =>
  refine jo (asInt.inv h) fun i zo40 h=>?_;subst zo40
  obtain⟨j,rfl,h⟩:=asInt.inv h
  obtain⟨t,rfl⟩:=ra.intI
  obtain⟨u,rfl⟩:=rb.intI
  exact PyProof.Rows.floordiv_int h.1 (.tok S (.int _ _) h.2.2 _) (Or.inl (PyProof.noPylong_small h.2.1))
 | mod =>
  refine jo (asInt.inv h) fun i zp41 h=>?_;subst zp41
  obtain⟨j,rfl,h⟩:=asInt.inv h
  obtain⟨t,rfl⟩:=ra.intI
  obtain⟨u,rfl⟩:=rb.intI
  exact PyProof.Rows.mod_int' h.1 (.tok S (.int _ _) h.2 _)
noncomputable def Cmp.py:Cmp→CmpOp
 | .eq=>.Eq | .ne=>.NotEq | .lt=>.Lt | .le=>.LtE | .gt=>.Gt | .ge=>.GtE | .isIn=>.In | .notIn=>.NotIn | .is=>.Is | .isNot=>.IsNot
theorem EqW.snap {a b:V}{Q:Bool→Prop}(h:EqW a b H Q):(∃ p q,a=.bool p∧b=.bool q∧Q (decide (p=q))) ∨
  ∃ d₁ d₂,Snap H a d₁∧Snap H b d₂∧D.ok 9 d₁=true∧D.ok 9 d₂=true∧Q (decide (d₁=d₂)):=by
 cases a with
 | bool p=>refine jo (asBool.inv h) fun q zq42 h=>?_;subst zq42;exact .inl ⟨_,_,rfl,rfl,h⟩
 | _=>exact .inr h
theorem Yg (S:St cx ι ρ H s)(hu:A.units+50<cLine){x y:Value}{a b:V}{Q:Bool→Prop}(ra:RepV ι s.heap x a)(rb:RepV ι s.heap y b)(h:EqW a b H Q) :
  ∃ k,Q k∧EqAll A s x y k:=by
 rcases h.snap with ⟨p,q,rfl,rfl,h⟩ | ⟨d₁,d₂,s1,s2,o1,o2,h⟩
 ·obtain rfl:=ra.boolI
  obtain rfl:=rb.boolI
  refine⟨_,h,?_⟩
  have e:decide (p=q)=(p == q):=by cases p <;> cases q <;> rfl
  rw[e]
  exact⟨RcAt.bool_bool _ _,EqAt.bool_bool _ _,RcNeAt.bool_bool _ _⟩
 ·exact⟨_,h,JS S 9 (by exact jq ju (qA (qA jc (qN 9)) jj) ja (qA (qA jc (qN 50)) jj) ja qt hu) ra rb s1 s2 o1 o2⟩
theorem PostB.here {Q:Bool→Prop}{r:Bool}(q:Q r):PostB s Q (.bool r) s:=⟨r,s.toks,rfl,rfl,q⟩
open Classical in
theorem zw (S:St cx ι ρ H s)(hu:A.units+50<cLine){x:Value}{a:V}{n:Nat}{l:Addr}{vs:List V}{d:D}{ds:List D}(ra:RepV ι s.heap x a)(gi:ι[n]?=some l)(hH:H[n]?=some (.list vs))
  (sa:Snap H a d) (sv:Snaps H vs ds) (od:D.ok 9 d=true) (ods:∀ d∈ds,D.ok 9 d=true) :
  ∃ (items:Array Value) (e:Value→Bool),s.heap.IsList l items∧(∀ y,y∈items→EqAt A.in1 s y x (e y))∧items.any e=decide (d∈ds):=by
 refine wZ (S.objOf gi hH) fun vals m g r J=>?_
 have one:∀ (y:Value),y∈vals→∃ v d',RepV ι s.heap y v∧Snap H v d'∧d'∈ds:=by
  intro y hy
  obtain⟨i,hi⟩:=List.mem_iff_getElem?.mp (Array.mem_toList_iff.mpr hy)
  refine jo (r.get' hi) fun v hv rv=>?_
  have hl:i<ds.length:=by rw[←sv.length];exact(List.getElem?_eq_some_iff.mp hv).1
  exact⟨v,ds[i],rv,sv.get hv (List.getElem?_eq_getElem hl),List.getElem_mem hl⟩
 let e:Value→Bool:=fun y=>decide (∃ v d',RepV ι s.heap y v∧Snap H v d'∧d'=d)
 have ee:∀ {y:Value} {v:V} {d':D},RepV ι s.heap y v→Snap H v d'→e y=decide (d'=d):=by
  intro y v d' rv sd
  by_cases q:d'=d
  ·subst q
   have:e y=true:=decide_eq_true ⟨v,d',rv,sd,rfl⟩
   rw[this];simp
  ·have:e y=false:=decide_eq_false (by
    intro zm54
    refine wZ zm54 fun v' d'' rv' sd' zl53=>?_
    subst zl53
    have:=RepV.fn S rv rv'
    subst this
    exact q (Snap.fn sd sd'))
   rw[this];simp [q]
 refine⟨vals,e,jm g,fun y hy=>?_,?_⟩
 ·refine wZ (one y hy) fun v d' rv sd hm=>?_
  rw[ee rv sd]
  have:=(JS S 9 (A:=A.in1) (by show A.units+1+9<cLine;exact jq ju (qA (qA jg (qN 9)) jj) ja (qA (qA jc (qN 50)) jj) ja qt hu) rv ra sd sa (ods d' hm) od).eq
  exact this
 ·rw[Bool.eq_iff_iff,decide_eq_true_iff,Array.any_eq_true]
  constructor
  ·rintro⟨i,hi,he⟩
   refine wZ (one vals[i] (Array.getElem_mem hi)) fun v d' rv sd hm=>?_
   rw[ee rv sd] at he
   have:=of_decide_eq_true he
   subst this;exact hm
  ·intro hm
   obtain⟨i,hi⟩:=List.mem_iff_getElem?.mp hm
   have hl:i<vs.length:=by rw[sv.length];exact(List.getElem?_eq_some_iff.mp hi).1
   refine jo (r.get (List.getElem?_eq_getElem hl)) fun y hy ry=>?_
   have hy':vals[i]?=some y:=by simpa using hy
   obtain⟨hlt,rfl⟩:=Array.getElem?_eq_some_iff.mp hy'
   exact⟨i,hlt,by rw[ee ry (sv.get (List.getElem?_eq_getElem hl) hi)];simp⟩
theorem St.notMods (S:St cx ι ρ H s){n:Nat}{d:Addr}(gi:ι[n]?=some d):(d == sysModules)=false:=by
 have h1:=S.low d (List.mem_of_getElem? gi)
 simpa using h1
theorem zv (S:St cx ι ρ H s)(hu:A.units+50<cLine){x:Value}{a:V}{n:Nat}{d:Addr}{es:List (V×V)}{ep:Nat}{Q:Bool→Prop}(ra:RepV ι s.heap x a)(gi:ι[n]?=some d)(hH:H[n]?=some (.dict es ep))
  (hk:a.isKey=true) (h:Q (decide (a∈es.map (·.1)))) (f:Bool→Bool) (Q':Bool→Prop) (hf:∀ r,Q r→Q' (f r)) :
  wpAny (model prog cx.w) A (contains (.ref d) x) (fun r s'=>∃ tk,s'={ s with toks:=tk }∧Q' (f r)) E s:=by
 obtain⟨ents,D⟩:=S.dict gi hH
 have hT:s.TypeIs (.ref d) "dict":=⟨_,D.get,rfl⟩
 unfold contains
 refine wpAny_holding ?_
 refine wpAny_bind (wpAny_specialOf hT slot_dict_contains.lookup ?_)
 show wpAny _ _ (if (some (Value.builtin "dict.__contains__") == some Value.none)=true then _ else _) _ E s
 rw[if_neg (by rw[beq_builtin_none];exact Bool.false_ne_true)]
 refine wpAny_bind (wpAny_callSpecialUnlessNone?_slot (name:=Str.ofString "__contains__") hT slot_dict_contains
  (wpAny_call_entry slot_dict_contains hT entry_dict_contains ?_ (args_dict_contains _ _)))
 show wpAny _ _ (dictGet d x >>= _) _ _ s
 refine wpAny_bind (JI S (by show A.units+1+9<cLine;exact jq ju (qA (qA jg (qN 9)) jj) ja (qA (qA jc (qN 50)) jj) ja qt hu) D ra hk (fun hn tk=>?_) fun v val hv rv tk=>?_)
 ·show wpAny _ _ (Builtin.Dict.pendingKey? d x >>= _) _ _ _
  refine wpAny_bind (wpAny_pendingKey_other (S.notMods gi) (wpAny_pure ⟨_,rfl,wpAny_truthy_bool ⟨tk,rfl,hf _ ?_⟩⟩))
  have:=Kv (es:=es) (k:=a)
  rw[hn] at this
  rw[←this] at h;exact h
 ·show wpAny _ _ (ret (.bool true)) _ _ _
  refine wpAny_pure ⟨_,rfl,wpAny_truthy_bool ⟨tk,rfl,hf _ ?_⟩⟩
  have:=Kv (es:=es) (k:=a)
  rw[hv] at this
  rw[←this] at h;exact h
theorem Yt (v:Value):isSame v .none=pure (v == .none):=by cases v <;> rfl
theorem WP (b c:Bool):isSame (.bool b) (.bool c)=pure (b == c):=by cases b <;> cases c <;> rfl
theorem rep_none {x:Value}{a:V}{h:Heap}(r:RepV ι h x a):(x == .none)=decide (a=.none):=by
 cases r <;> first | (exact(decide_eq_true rfl).symm) | (exact(decide_eq_false nofun).symm)
theorem JZ {x y:Value}{a b:V}{Q:Bool→Prop}{f:Bool→Value}{P:Value→Shared→Prop}(ra:RepV ι s.heap x a)(rb:RepV ι s.heap y b)(h:SameW a b Q)(q:∀ r,Q r→P (f r) s) :
  wpAny (model prog cx.w) A (isSame x y >>= fun r=>pure (f r)) P E s:=by
 cases b with
 | none =>
  obtain rfl:=rb.noneI
  rw[Yt,rep_none ra];exact wpAny_bind (wpAny_pure (wpAny_pure (q _ h)))
 | bool c =>
  refine jo (asBool.inv h) fun d zr43 h=>?_;subst zr43
  obtain rfl:=rb.boolI
  obtain rfl:=ra.boolI
  rw[WP]
  refine wpAny_bind (wpAny_pure (wpAny_pure (q _ ?_)))
  rw[show(d == c)=decide (d=c) from by cases d <;> cases c <;> rfl];exact h
 | _=>exact h.elim
theorem wU (S:St cx ι ρ H s)(hu:A.units+50<cLine){op:Cmp}{x y:Value}{a b:V}{Q:Bool→Prop}(ra:RepV ι s.heap x a)(rb:RepV ι s.heap y b)(h:CmpW op a b H Q) :
  wpAny (model prog cx.w) A (compareOp op.py x y) (PostB s Q) E s:=by
 have bothI:∀ {K:Int→Int→Prop},(asInt a fun a=>asInt b fun b=>K a b)→∃ i t j u,x=.int i t∧y=.int j u∧K i j:=fun h0=>by
  refine jo (asInt.inv h0) fun i e1 h1=>?_
  refine jo (asInt.inv h1) fun j e2 h2=>?_
  rw[e1] at ra
  rw[e2] at rb
  obtain⟨t,rfl⟩:=ra.intI
  obtain⟨u,rfl⟩:=rb.intI
  exact⟨i,t,j,u,rfl,rfl,h2⟩
 cases op with
 | eq =>
  refine jo (Yg S hu ra rb h) fun k hq e=>?_
  exact e.rc _ _ _ _ (.here hq)
 | ne =>
  refine jo (Yg (Q:=fun r=>Q (!r)) S hu ra rb h) fun k hq e=>?_
  exact e.ne _ _ _ _ (.here hq)
 | lt=>refine WD (bothI h) fun i t j u zs44 zt45=>?_;subst zs44;refine jP zt45 fun zu46 h=>?_;subst zu46;exact PySem.P.lt_int (.here h)
 | le=>refine WD (bothI h) fun i t j u zv47 zw48=>?_;subst zv47;refine jP zw48 fun zx49 h=>?_;subst zx49;exact PySem.P.le_int (.here h)
 | gt=>refine WD (bothI h) fun i t j u zy50 zz51=>?_;subst zy50;refine jP zz51 fun za52 h=>?_;subst za52;exact PySem.P.gt_int (.here h)
 | ge=>refine WD (bothI h) fun i t j u zb53 zc54=>?_;subst zb53;refine jP zc54 fun zd55 h=>?_;subst zd55;exact PySem.P.ge_int (.here h)
 | is=>exact JZ ra rb h fun r q=>.here q
 | isNot=>exact JZ (Q:=fun r=>Q (!r)) (f:=fun r=>.bool (!r)) ra rb h fun r q=>.here q
 | isIn =>
  refine jo (asRef.inv h) fun n ze56 h1=>?_;subst ze56
  clear h
  refine jo (rb.refI) fun l zf57 gi=>?_;subst zf57
  refine jo (S.obj gi) fun o hH J=>?_
  rw[hH] at h1
  have h:=h1
  clear h1
  cases o with
  | list vs =>
   refine Z24 h fun d ds sa sv od ods hq=>?_
   refine wZ (zw S hu ra gi hH sa sv od ods) fun items e hl he ha=>?_
   refine in_listAt e hl he ?_
   rw[ha];exact .here hq
  | dict es ep=>exact wpAny_bind (wpAny_mono (zv S hu ra gi hH h.1 h.2 id Q fun J q=>q) (fun r s' h=>wpAny_pure ⟨_,h.choose,rfl,h.choose_spec.1,h.choose_spec.2⟩) fun J J e=>e)
  | frz vs=>exact h.elim
 | notIn =>
  refine jo (asRef.inv h) fun n zg58 h1=>?_;subst zg58
  clear h
  refine jo (rb.refI) fun l zh59 gi=>?_;subst zh59
  refine jo (S.obj gi) fun o hH J=>?_
  rw[hH] at h1
  have h:=h1
  clear h1
  cases o with
  | list vs =>
   refine Z24 h fun d ds sa sv od ods hq=>?_
   refine wZ (zw S hu ra gi hH sa sv od ods) fun items e hl he ha=>?_
   refine notIn_listAt e hl he ?_
   rw[ha];exact .here hq
  | dict es ep=>exact wpAny_bind (wpAny_mono (zv S hu ra gi hH (Q:=fun r=>Q (!r)) h.1 h.2 (fun r=>!r) Q fun J q=>q) (fun r s' h=>wpAny_pure ⟨_,h.choose,rfl,h.choose_spec.1,h.choose_spec.2⟩) fun J J e=>e)
  | frz vs=>exact h.elim
theorem wT {i:Expr}(hns:∀ a b c p,i≠.Slice a b c p)(o iv:Value):subscripted i false o iv=operate [o,iv] (getItem o iv):=by
 cases i <;> first | rfl | exact absurd rfl (hns _ _ _ _)
theorem zQ {k:Int}{n:Nat}(h0:0≤k)(h1:k.toNat<n):seqIndex? k n=some k.toNat:=seqIndex_of h0 (by omega)
theorem sub_dict (S:St cx ι ρ H s)(hu:A.units+50<cLine){l:Addr}{n ep:Nat}{es:List (V×V)}{y:Value}{i v:V}{Q:V→Prop}(gi:ι[n]?=some l)(hH:H[n]?=some (.dict es ep))(ri:RepV ι s.heap y i)(hk:i.isKey=true)(hv:wH es i=some v)(hq:Q v) :
  wpAny (model prog cx.w) A (getItem (.ref l) y) (PostR ι s Q) E s:=by
 obtain⟨ents,D⟩:=S.dict gi hH
 have hT:s.TypeIs (.ref l) "dict":=⟨_,D.get,rfl⟩
 refine wpAny_holding (wpAny_bind (wpAny_sequenceKey hT (by decide) ?_))
 refine wpAny_bind (wpAny_callSpecial?_slot (name:=Str.ofString "__getitem__") hT slot_dict_getitem
  (wpAny_call_entry slot_dict_getitem hT entry_dict_getitem ?_ (args_dict_getitem _ _)))
 show wpAny _ _ (dictGet l y >>= _) _ _ s
 refine wpAny_bind (JI S (by show A.units+1+9<cLine;exact jq ju (qA (qA jg (qN 9)) jj) ja (qA (qA jc (qN 50)) jj) ja qt hu) D ri hk (fun hn tk=>?_) fun v' val hv' rv tk=>?_)
 ·rw[hv] at hn;cases hn
 ·rw[hv] at hv';cases hv'
  exact wpAny_pure ⟨val,rfl,wpAny_pure ⟨v,tk,rfl,rv,hq⟩⟩
theorem sub_sound (S:St cx ι ρ H s)(hu:A.units+50<cLine){value slice:Expr}(hns:∀ a b c p,slice≠.Slice a b c p){x y:Value}{a i:V}{Q:V→Prop}(ra:RepV ι s.heap x a)(ri:RepV ι s.heap y i)(h:SubW a i H Q) :
  wpAny (model prog cx.w) A (PyProof.Rows.subscriptTail value slice x y) (PostR ι s Q) E s:=by
 cases a with
 | str w =>
  refine jo (asInt.inv h) fun k zi60 zj61=>?_;subst zi60;refine kL zj61 fun c h0 hc hq=>?_
  obtain⟨u,rfl⟩:=ri.intI
  obtain⟨x,t,rfl,rfl,z⟩:=ra.strInv
  have hlt:k.toNat<x.length:=by rw[←ki];exact(List.getElem?_eq_some_iff.mp hc).1
  refine PyProof.Rows.tail_any (typeIs_str s x t) F.slot_str_getitem.lookup (PyProof.Rows.getItem_str (c:=c) ?_ ?_ ?_) (wT hns _ _)
  ·simp;omega
  ·rw[zQ h0.1 hlt]
   simpa using hc
  ·exact⟨.str [c],_,rfl,.strOf rfl (by show 1≤SZ;decide),hq⟩
 | tup vs =>
  refine jo (asInt.inv h) fun k zk62 zl63=>?_;subst zk62;refine kL zl63 fun v h0 hv hq=>?_
  obtain⟨u,rfl⟩:=ri.intI
  refine Zz (ra.tupI) fun a n vals zm64 zn65=>?_;subst zm64;refine kH zn65 fun g z r=>?_
  refine jo (r.get hv) fun y hy ry=>?_
  have hlt:k.toNat<vals.size:=by
   have:=(List.getElem?_eq_some_iff.mp hy).1
   simpa using this
  exact PyProof.Rows.tail_any ⟨_,g,rfl⟩ F.slot_tuple_getitem.lookup (PySem.P.getItem_tuple g (by omega) (by omega) (zQ h0.1 hlt) (by simpa using hy) ⟨v,s.toks,rfl,ry,hq⟩) (wT hns _ _)
 | ref n =>
  refine jo (ra.refI) fun l zo66 gi=>?_;subst zo66
  refine jo (S.obj gi) fun o hH J=>?_
  unfold SubW at h
  dsimp only at h
  rw[hH] at h
  cases o with
  | list vs =>
   refine jo (asInt.inv h) fun k zp67 h=>?_;subst zp67
   obtain⟨u,rfl⟩:=ri.intI
   refine wZ (S.objOf gi hH) fun vals m g r J=>?_
   rcases h with ⟨v,⟨h0,h1⟩,hv,hq⟩ | ⟨v,rfl,hv,hq⟩
   ·refine jo (r.get hv) fun y hy ry=>?_
    exact PyProof.Rows.tail_any ⟨_,g,rfl⟩ slot_list_getitem.lookup (wpAny_getItem_list (jm g) h0 (by omega) (by simpa using hy) ⟨v,s.toks,rfl,ry,hq⟩) (wT hns _ _)
   ·have hl1:vals.size=vs.length:=by rw[←Array.length_toList,r.length]
    have hv':vs[vs.length - 1]?=some v:=by rw[←List.getLast?_eq_getElem?];exact hv
    have hpos:=(List.getElem?_eq_some_iff.mp hv').1
    refine jo (r.get hv') fun y hy ry=>?_
    refine PyProof.Rows.tail_any ⟨_,g,rfl⟩ slot_list_getitem.lookup (wpAny_getItem_list_neg (jm g) (by decide) (by exact oq0 hl1 hpos) (by decide) ?_ ⟨v,s.toks,rfl,ry,hq⟩) (wT hns _ _)
    rw[show((-1:Int)+vals.size).toNat=vs.length - 1 from by omega]
    simpa using hy
  | frz vs =>
   refine jo (asInt.inv h) fun k zq68 zr69=>?_;subst zq68;refine kL zr69 fun v zs70 hv hq=>?_;obtain⟨h0,h1⟩:=zs70
   obtain⟨u,rfl⟩:=ri.intI
   refine kL (S.objOf gi hH) fun vals g r J=>?_
   refine jo (r.get hv) fun y hy ry=>?_
   exact PyProof.Rows.tail_any g.typeIs slot_list_getitem.lookup (wpAny_getItem_list g h0 (by omega) (by simpa using hy) ⟨v,s.toks,rfl,ry,hq⟩) (wT hns _ _)
  | dict es ep =>
   refine jP h fun hk zt71=>?_;refine jo zt71 fun v hv hq=>?_
   obtain⟨ents,D⟩:=S.dict gi hH
   exact PyProof.Rows.tail_any ⟨_,D.get,rfl⟩ slot_dict_getitem.lookup (sub_dict S hu gi hH ri hk hv hq) (wT hns _ _)
 | _=>exact h.elim
end
section
variable {s:Shared}{A:Around}{prog:Program}{w:World}{E:Value→Shared→Prop}
theorem WJ {d:Addr}{ents:Array DictEntry}{ep:Nat}{Q:Value→Shared→Prop}(lo:(d == sysModules)=false)(g:s.heap.get? d=some { cls:=.type "dict",data:=.dict ents ep })
  (q:Q (.ref s.heap.objs.size) { s with heap:=s.heap.push { cls:=.type "dict_keyiterator",data:=.fields #[.ref d,.int 0 0,.int ents.size 0,.int ep 0] } }):wpAny (model prog w) A (pyIter (.ref d)) Q E s:=by
 have hT:s.TypeIs (.ref d) "dict":=⟨_,g,rfl⟩
 refine wpAny_pyIter_slot hT F.slot_dict_iter (wpAny_call_entry F.slot_dict_iter hT F.entry_dict_iter ?_ (F.args_dict_iter_1 _))
 unfold Builtin.«dict.__iter__» Builtin.Dict.dictSlotNone
 refine wpAny_bind (wpAny_bind (wpAny_notOrdered_dict hT (wpAny_pure ?_)))
 show wpAny _ _ (Builtin.Dict.showsAll d >>= _) _ _ s
 unfold Builtin.Dict.showsAll
 rw[if_neg (by rw[lo];exact Bool.false_ne_true)]
 refine wpAny_bind (wpAny_pure (wpAny_bind (wpAny_dictEntries g rfl (wpAny_bind (wpAny_dictEpoch g rfl ?_)))))
 exact wpAny_bind (wpAny_newObj_type (wpAny_pure ⟨_,rfl,"dict_keyiterator",_,⟨_,Heap.get?_push_size _ rfl,rfl⟩,F.slot_dict_keyiterator_next.lookup,q⟩))
theorem Kf {it d:Addr}{i ep:Nat}{ents:Array DictEntry}{Q:Option Value→Shared→Prop}(hh:A.handled=none)(hit:s.heap.IsKeyIter it d i ents.size ep)(g:s.heap.get? d=some { cls:=.type "dict",data:=.dict ents ep })
  (hi:∀ e,ents[i]?=some e→∀ h',h'.IsKeyIter it d (i+1) ents.size ep→Heap.SameBut it s.heap h'→Q (some e.key) { s with heap:=h' })
  (hn:ents[i]?=none→∀ h',Heap.ExtBut it s.heap h'→Q none { s with heap:=h' }):wpAny (model prog w) A (pyNext (.ref it)) Q E s:=by
 refine kL (id hit) fun o ho hc hd=>?_
 unfold pyNext
 refine wpAny_bind (wpAny_attempt (wpAny_callSpecial?_slot (name:=Str.ofString "__next__") hit.typeIs F.slot_dict_keyiterator_next
  (wpAny_call_entry F.slot_dict_keyiterator_next hit.typeIs F.entry_dict_keyiterator_next ?_ (F.args_dict_keyiterator_next_1 _))))
 refine wpAny_bind (wpAny_pure (wpAny_bind (wpAny_bind ?_)))
 first | refine wpAny_bind (wpAny_typeNameOfWhole_keyiter hit.typeIs (wpAny_pure ?_)) | refine wpAny_bind (wpAny_typeNameOf_keyiter hit.typeIs (wpAny_pure ?_))
 refine wpAny_bind (wpAny_fieldsOf ho hd ?_)
 have hown:Builtin.Dict_items.ownsTuple "dict_keyiterator"=false:=by decide
 rw[hown,if_neg Bool.false_ne_true]
 show wpAny _ _ (if (Value.ref d == Value.none)=true then _ else _) _ _ s
 rw[if_neg (show ¬ ((Value.ref d == Value.none)=true) from Bool.false_ne_true)]
 refine wpAny_bind (wpAny_pure (wpAny_bind (wpAny_dictEntries g rfl ?_)))
 rw[if_neg (by simp)]
 refine wpAny_bind (wpAny_pure (wpAny_bind (wpAny_dictEpoch g rfl ?_)))
 rw[if_neg (by simp)]
 refine wpAny_pure ?_
 dsimp only
 rw[if_neg (show ¬ ((i:Int)<0) from by exact oq1),Int.toNat_natCast]
 cases hx:ents[i]? with
 | some e =>
  refine wpAny_bind ?_
  first | refine wpAny_bind (wpAny_typeNameOfWhole_keyiter hit.typeIs (wpAny_pure ?_)) | refine wpAny_bind (wpAny_typeNameOf_keyiter hit.typeIs (wpAny_pure ?_))
  refine wpAny_bind (wpAny_isOneOf_keyiter hit.typeIs ?_)
  show wpAny _ _ (setField (.ref it) 1 (rawInt ((i:Int)+1)) >>= _) _ _ s
  refine wpAny_bind (wpAny_setField ho hd (by simp) ?_)
  have hit':(s.heap.update it (Obj.mapFields (·.setIfInBounds 1 (rawInt ((i:Int)+1))))).IsKeyIter it d (i+1) ents.size ep :=
   ⟨_,Heap.get?_update_self _ ho (Obj.isFreed_of_fields (Obj.data_mapFields hd _)),(Obj.cls_mapFields ..).trans hc,by rw[Obj.data_mapFields hd];simp [rawInt]⟩
  refine wpAny_bind (wpAny_holding ?_)
  refine wpAny_bind (wpAny_isOneOf_keyiter (s:={ s with heap:=s.heap.update it (Obj.mapFields (·.setIfInBounds 1 (rawInt ((i:Int)+1)))) }) hit'.typeIs ?_)
  show wpAny _ _ (pure e.key) _ _ _
  exact wpAny_pure (wpAny_pure ⟨_,rfl,wpAny_pure (hi e hx _ hit' (Heap.SameBut.update ..))⟩)
 | none =>
  refine wpAny_bind ?_
  first | refine wpAny_bind (wpAny_typeNameOfWhole_keyiter hit.typeIs (wpAny_pure ?_)) | refine wpAny_bind (wpAny_typeNameOf_keyiter hit.typeIs (wpAny_pure ?_))
  show wpAny _ _ (setField (.ref it) 0 .none >>= _) _ _ s
  refine wpAny_bind (wpAny_setField ho hd (by simp) ?_)
  show wpAny _ _ (newExc (.type "StopIteration") [] >>= _) _ _ _
  refine wpAny_bind ?_
  simp only[newExc,newTuple]
  refine wpAny_bind (wpAny_newObj_type ?_ (by size_fits))
  refine wpAny_bind (m:=firstArgMember _ _) (wpAny_of_eq (a:=Value.none) (by first | rfl | (simp only[firstArgMember];rfl)) ?_)
  refine wpAny_newObj_type ?_ (by size_fits)
  unfold raiseNew
  refine wpAny_bind (wpAny_handled ?_)
  rw[show A.in1.handled=none from hh]
  refine wpAny_bind (wpAny_pure (wpAny_throw ?_))
  refine wpAny_bind (wpAny_isInstance (T:="StopIteration") (b:=true) ⟨_,Heap.get?_push_size _ rfl,rfl⟩ isSubtype_stop ?_)
  exact wpAny_pure (hn hx _ (((Heap.SameBut.update ..).extBut.push _).push _))
end
section
variable {cx:Cx}{ι:List Addr}{ρ:jz}{H:H}{s:Shared}{A:Around}{prog:Program}{E:Value→Shared→Prop}
structure Aside (cx:Cx)(a:Addr):Prop where
 np:∀ ob,¬ cx.P a ob
 nl:a≠cx.env.locals
 nc:∀ x c,cx.env.cells.lookup x=some c→c≠a
theorem St.aside (S:St cx ι ρ H s)(ok:CxOk cx){a:Addr}(ha:s.heap.objs.size≤a):Aside cx a∧a ∉ ι:=by
 refine Z04 (S.fresh ok ha) fun f1 f2 f3 f4 f5=>?_
 exact⟨⟨f3,f4,f5⟩,f1⟩
theorem CxOk.keepA (ok:CxOk cx){a:Addr}(as:Aside cx a)(o:Obj):CxOk (cx.keep a o):=ok.keep as.nl fun x c J l=>as.nc x c l
theorem St.but (S:St cx ι ρ H s){a:Addr}(as:Aside cx a)(hI:a ∉ ι){h':Heap}(tk:Nat)(hs:Heap.ExtBut a s.heap h')(hno:∀ o,s.heap.get? a=some o→¬ yu o) :
  St cx ι ρ H { s with heap:=h',toks:=tk }∧Mono ι s ι { s with heap:=h',toks:=tk }:=by
 have imm:Imm s.heap h':=.of_but hs hno
 refine⟨?_,⟨List.prefix_refl _,imm⟩⟩
 exact {
  same:=by refine WH (S.same) fun h t zu72=>?_;subst zu72;exact⟨h',tk,rfl⟩
  len:=S.len
  nodup:=S.nodup
  objs:=fun k b o₂ hb ho₂=>(S.objs k b o₂ hb ho₂).mono (List.prefix_refl _) imm fun ob e=>hs _ _ (fun e'=>hI (e'▸List.mem_of_getElem? hb)) e
  low:=S.low
  scr:=fun o e=>hs _ _ (fun e'=>hI (e'▸S.scrIn)) (S.scr o e)
  scrI:=S.scrI
  scrIn:=S.scrIn
  prot:=fun b ob p=>(S.prot b ob p).mono fun o=>hs _ o fun e=>as.np ob (e▸p)
  protI:=S.protI
  ns:=let ⟨m,n⟩:=S.ns;⟨m,n.extBut hs fun e=>as.nl e.symm⟩
  nsI:=S.nsI
  cells:=fun y c l=>by
   refine kH (S.cells y c l) fun zv73 h1 h2=>?_;obtain⟨ov,oc,gc,dc⟩:=zv73
   exact⟨⟨ov,oc,hs _ _ (as.nc y c l) gc,dc⟩,h1,h2⟩
  vars:=fun x i v hx hv=>by
   refine jo (S.vars x i v hx hv) fun val va rv=>?_
   exact⟨val,va.extBut hs (fun e=>as.nl e.symm) as.nc,rv.mono (List.prefix_refl _) imm⟩ }
theorem St.kept {a:Addr}{o:Obj}(S:St (cx.keep a o) ι ρ H s)(hd:¬ Mk o):s.heap.get? a=some o:=(S.prot a o (.inr ⟨rfl,rfl⟩)).exact hd
theorem St.keptI {a:Addr}{o:Obj}(S:St (cx.keep a o) ι ρ H s):a ∉ ι:=S.protI a o (.inr ⟨rfl,rfl⟩)
noncomputable def ItRep (ι:List Addr)(h:Heap)(o:Obj):It→Prop
 | .seq n i=>∃ l,ι[n]?=some l∧o.cls=.type "list_iterator"∧o.data=.fields #[.ref l,.int i 0]
 | .vals vs=>(∃ (t:Addr) (i:Nat) (items:Array Value) (n:Nat),o.cls=.type "tuple_iterator"∧o.data=.fields #[.ref t,.int i 0]∧h.get? t=some { cls:=.type "tuple",data:=.seq items n }∧i≤items.size∧RepVs ι h (items.toList.drop i) vs) ∨
   (∃ (x left step:Int),o={ cls:=.type "range_iterator",data:=.fields #[rawInt x,rawInt left,rawInt step] }∧0≤left∧vs=yK x step left.toNat)
 | .keys n ver len i=>∃ d,ι[n]?=some d∧(d == sysModules)=false∧o.cls=.type "dict_keyiterator"∧o.data=.fields #[.ref d,.int i 0,.int len 0,.int ver 0]
theorem ItRep.mono {ι ι':List Addr}{h h':Heap}{o:Obj}{i:It}(hi:ι <+: ι')(hm:Imm h h')(r:ItRep ι h o i):ItRep ι' h' o i:=by
 cases i with
 | keys n ver len i =>
  refine Z13 r fun l g z c d=>?_
  refine⟨l,?_,z,c,d⟩
  obtain⟨t,rfl⟩:=hi
  rw[List.getElem?_append_left (List.getElem?_eq_some_iff.mp g).1];exact g
 | seq n i =>
  refine kL r fun l g c d=>?_
  refine⟨l,?_,c,d⟩
  obtain⟨t,rfl⟩:=hi
  rw[List.getElem?_append_left (List.getElem?_eq_some_iff.mp g).1];exact g
 | vals vs =>
  rcases r with ⟨t,i,items,n,c,d,g,le,rv⟩ | q
  ·exact .inl ⟨t,i,items,n,c,d,hm _ _ g (.inl ⟨rfl,_,_,rfl⟩),le,rv.mono hi hm⟩
  ·exact .inr q
theorem ItRep.notImm {ι:List Addr}{h:Heap}{o:Obj}{i:It}(r:ItRep ι h o i):¬ yu o:=by
 cases i with
 | keys n ver len i=>refine Z13 r fun l g J c d=>?_;exact wC d c (by decide)
 | seq n i=>refine kL r fun l g c d=>?_;exact wC d c (by decide)
 | vals vs =>
  rcases r with ⟨t,i,items,n,c,d,_⟩ | ⟨x,l,st,rfl,_⟩
  ·exact wC d c (by decide)
  ·exact wC rfl rfl (by decide)
theorem ItRep.notMk {ι:List Addr}{h:Heap}{o:Obj}{i:It}(r:ItRep ι h o i):¬ Mk o:=by
 cases i with
 | keys n ver len i=>refine Z13 r fun l g J c d=>?_;exact wP d
 | seq n i=>refine kL r fun l g c d=>?_;exact wP d
 | vals vs =>
  rcases r with ⟨t,i,items,n,c,d,_⟩ | ⟨x,l,st,rfl,_⟩
  ·exact wP d
  ·exact wP rfl
theorem zD {a:Int}(h:jH a):Builtin.Range.rangeFitsLong a=true:=by
 unfold jH at h
 unfold Builtin.Range.rangeFitsLong
 simp only[Bool.and_eq_true,decide_eq_true_eq]
 omega
theorem wM {a b c:Int}(hc:0<c):Builtin.Range.rangeSize a b c=(kC a b c:Int):=by
 unfold Builtin.Range.rangeSize kC
 rw[if_pos hc]
 split
 ·have:0≤(b - a - 1) / c:=Int.ediv_nonneg (by omega) (by exact oq2 hc)
  omega
 ·rfl
theorem YN {a b c:Int}(hc:0<c)(h:a<b):(kC a b c:Int)≤b - a:=by
 unfold kC
 rw[if_pos h]
 have h0:0≤(b - a - 1) / c:=Int.ediv_nonneg (by exact oq3 h) (by exact oq2 hc)
 have h1:(b - a - 1) / c≤b - a - 1:=Int.ediv_le_self _ (by exact oq3 h)
 omega
theorem JJ {a b c:Int}(h:jH a∧jH b∧jH c∧0<c):Builtin.Range.small a b c=true:=by
 refine Z03 h fun ha hb hc h0=>?_
 unfold Builtin.Range.small
 rw[wM h0,zD ha,zD hb,zD hc,if_pos h0]
 have e1:Builtin.Range.rangeFitsLong (kC a b c:Int)=true:=by
  unfold Builtin.Range.rangeFitsLong
  simp only[Bool.and_eq_true,decide_eq_true_eq]
  unfold jH at ha hb
  by_cases h:a<b
  ·have:=YN h0 h;omega
  ·simp [kC,h]
 have e2:Builtin.Range.rangeFitsLong (b+(c - 1))=true:=by
  unfold jH at hb hc
  unfold Builtin.Range.rangeFitsLong
  simp only[Bool.and_eq_true,decide_eq_true_eq]
  omega
 rw[e1,e2];simp
inductive PostI (cx:Cx)(ι:List Addr)(ρ:jz)(H:Tw.H)(s:Shared)(Q:It→Prop)(it:Value)(s':Shared):Prop
 | mk (a:Addr) (o:Obj) (i:It) (e:it=.ref a) (as:Aside cx a) (S:St (cx.keep a o) ι ρ H s') (M:Mono ι s ι s') (r:ItRep ι s'.heap o i) (q:Q i)
inductive PostX (cx:Cx)(ι:List Addr)(ρ:jz)(H:Tw.H)(s:Shared)(it:Addr)(item:V→It→Prop)(x:Value)(s':Shared):Prop
 | mk (v:V) (i':It) (o':Obj) (q:item v i') (S:St (cx.keep it o') ι ρ H s') (M:Mono ι s ι s') (r:RepV ι s'.heap x v) (ri:ItRep ι s'.heap o' i')
theorem KC (S:St cx ι ρ H s)(ok:CxOk cx){x:Value}{v:V}{Q:It→Prop}(r:RepV ι s.heap x v)(h:IterW v H Q) :
  wpAny (model prog cx.w) A (pyIter x) (PostI cx ι ρ H s Q) E s:=by
 have fin:∀ (o:Obj) (i:It),o.isFreed=false→(∀ h',(∀ b ob,s.heap.get? b=some ob→h'.get? b=some ob)→ItRep ι h' o i)→Q i →
   PostI cx ι ρ H s Q (Value.ref s.heap.objs.size) { s with heap:=s.heap.push o }:=by
  intro o i hf hr hq
  have hk:∀ b ob,s.heap.get? b=some ob→(s.heap.push o).get? b=some ob:=fun J J e=>Heap.get?_push_of_some _ e
  obtain⟨as,hI⟩:=S.aside ok (Nat.le_refl _)
  exact⟨_,o,i,rfl,as,(S.ext s.toks hk).keep (get?_fresh hf) hI,.ext (tk:=s.toks) hk,hr _ hk,hq⟩
 cases v with
 | tup vs =>
  refine Zz (r.tupI) fun a n vals zw74 zx75=>?_;subst zw74;refine kH zx75 fun g z rv=>?_
  refine wpAny_pyIter_tuple (jv g) ?_
  exact fin _ (.vals vs) rfl (fun h' hk=>.inl ⟨a,0,vals,n,rfl,rfl,hk _ _ g,Nat.zero_le _,by simpa using rv.mono (List.prefix_refl _) (.of_ext hk)⟩) h
 | rng x y z =>
  refine WD (r.rngI) fun a t u v zy76 zz77=>?_;subst zy76;refine jP zz77 fun g hs=>?_
  refine wpAny_pyIter_range g (JJ hs) ?_
  refine fin _ (.vals (kF x y z)) rfl (fun h' hk=>.inr ⟨x,_,z,rfl,by rw[wM hs.2.2.2];exact oq4,?_⟩) h
  rw[wM hs.2.2.2];simp [kF]
 | ref n =>
  refine jo (r.refI) fun a za78 gi=>?_;subst za78
  refine jo (S.obj gi) fun o hH J=>?_
  unfold IterW at h
  dsimp only at h
  rw[hH] at h
  cases o with
  | list vs =>
   refine wZ (S.objOf gi hH) fun vals m g rv J=>?_
   refine wpAny_pyIter_list (jm g) ?_
   exact fin _ (.seq n 0) rfl (fun h' hk=>⟨a,gi,rfl,rfl⟩) h
  | dict es ep =>
   obtain⟨ents,D⟩:=S.dict gi hH
   have lo:=S.notMods gi
   refine WJ lo D.get ?_
   have e:ents.size=es.length:=by rw[←Array.length_toList,D.rep.length]
   rw[e]
   exact fin _ (.keys n ep es.length 0) rfl (fun h' hk=>⟨a,gi,lo,rfl,rfl⟩) h
  | frz vs=>exact h.elim
 | _=>exact h.elim
theorem KJ {it:Addr}{o:Obj}(S:St (cx.keep it o) ι ρ H s)(as:Aside cx it)(hh:A.handled=none){i:It}{stop:Prop}{item:V→It→Prop}(r:ItRep ι s.heap o i)(h:NextW i H stop item) :
  wpAny (model prog cx.w) A (pyNext (.ref it)) (fun v s'=>match v with
   | none=>stop∧St cx ι ρ H s'∧Mono ι s ι s'
   | some x=>PostX cx ι ρ H s it item x s') E s:=by
 have g:=S.kept r.notMk
 have hI:=S.keptI
 have hno:∀ ob,s.heap.get? it=some ob→¬ yu ob:=fun ob e=>by rw[g] at e;cases e;exact r.notImm
 have done:stop→∀ h',Heap.ExtBut it s.heap h'→stop∧St cx ι ρ H { s with heap:=h' }∧Mono ι s ι { s with heap:=h' }:=fun hs h' hk =>
  ⟨hs,S.unkeep.but as hI s.toks hk hno⟩
 have more:∀ {x:Value} {v:V} {i':It} {o':Obj} {h':Heap} (tk:Nat),item v i'→Heap.ExtBut it s.heap h'→h'.get? it=some o'→(Imm s.heap h'→RepV ι h' x v∧ItRep ι h' o' i') →
   PostX cx ι ρ H s it item x { s with heap:=h',toks:=tk }:=by
  intro x v i' o' h' tk hq hk g' hr
  obtain⟨S',M⟩:=S.unkeep.but as hI tk hk hno
  exact⟨v,i',o',hq,S'.keep g' hI,M,(hr M.imm).1,(hr M.imm).2⟩
 cases i with
 | keys n ver len i =>
  refine Z13 r fun l gi lo c d=>?_
  refine jo (S.obj gi) fun ob hH J=>?_
  unfold NextW at h
  dsimp only at h
  rw[hH] at h
  cases ob with
  | list vs=>exact h.elim
  | frz vs=>exact h.elim
  | dict es ep =>
   refine jP h fun zb79 zc80=>?_;subst zb79;refine jP zc80 fun zd81 h=>?_;subst zd81
   obtain⟨ents,D⟩:=S.dict gi hH
   have e:ents.size=es.length:=by rw[←Array.length_toList,D.rep.length]
   have hit:s.heap.IsKeyIter it l i ents.size ep:=⟨o,g,c,by rw[d,e]⟩
   refine Kf hh hit D.get (fun en hx h' hit' hs'=>?_) fun hx h' hk=>?_
   ·have hx':ents.toList[i]?=some en:=by simpa using hx
    have hil:i<es.length:=by rw[←e];exact(Array.getElem?_eq_some_iff.mp hx).1
    rw[List.getElem?_eq_getElem hil] at h
    refine Z14 (D.rep.get' (List.getElem?_eq_getElem hil)) fun en' he' J rk J J=>?_
    rw[hx'] at he';cases he'
    refine kL hit' fun o' g' c' d'=>?_
    exact more s.toks h hs'.extBut g' fun imm=>⟨rk.mono (List.prefix_refl _) imm,l,gi,lo,c',by rw[d',e]⟩
   ·have hil:es.length≤i:=by rw[←e];exact Array.getElem?_eq_none_iff.mp hx
    rw[List.getElem?_eq_none hil] at h
    exact done h h' hk
 | seq n i =>
  refine kL r fun l gi c d=>?_
  refine jo (S.obj gi) fun ob hH J=>?_
  unfold NextW at h
  dsimp only at h
  rw[hH] at h
  cases ob with
  | dict es ep=>exact h.elim
  | frz vs=>exact h.elim
  | list vs =>
   dsimp only at h
   refine wZ (S.objOf gi hH) fun vals m gl rv J=>?_
   have hit:s.heap.IsListIter it l i:=⟨o,g,c,d⟩
   cases hv:vs[i]? with
   | none =>
    rw[hv] at h
    refine wpAny_pyNext_list_end hh hit (jm gl) ?_ (done h)
    have:vals.size=vs.length:=by rw[←Array.length_toList,rv.length]
    have:=List.getElem?_eq_none_iff.mp hv
    exact Array.getElem?_eq_none (by exact jt jr jc ja jc jd jd ja qt (qe (by assumption)) this)
   | some v =>
    rw[hv] at h
    refine jo (rv.get hv) fun x hx rx=>?_
    refine wpAny_pyNext_list_item hit (jm gl) (by simpa using hx) fun h' hit' hs'=>?_
    refine kL hit' fun o' g' c' d'=>?_
    exact more s.toks h hs'.extBut g' fun imm=>⟨rx.mono (List.prefix_refl _) imm,l,gi,c',d'⟩
 | vals vs =>
  rcases r with ⟨t,i,items,n,c,d,gt,le,rv⟩ | ⟨x,left,step,rfl,h0,rfl⟩
  ·have hit:s.heap.IsTupleIter it t i:=⟨o,g,c,d⟩
   cases vs with
   | nil =>
    have hlen:=rv.length
    simp at hlen
    refine wpAny_pyNext_tuple_end hh hit (jv gt) (Array.getElem?_eq_none (by exact jt jr jc ja jd jw jc (qA jd ja) qt (qe hlen) qw)) (done h)
   | cons v vs =>
    have hlt:i<items.size:=by have:=rv.length;simp at this;exact oq5 this
    have ed:items.toList.drop i=items[i]::items.toList.drop (i+1):=by
     rw[List.drop_eq_getElem_cons (by simpa using hlt)];simp
    rw[ed] at rv
    cases rv with
    | cons rx rvs =>
     refine wpAny_pyNext_tuple_item hit (jv gt) (Array.getElem?_eq_getElem hlt) fun h' hit' hs'=>?_
     refine kL hit' fun o' g' c' d'=>?_
     exact more s.toks h hs'.extBut g' fun imm=>⟨rx.mono (List.prefix_refl _) imm,.inl ⟨t,i+1,items,n,c',d',imm _ _ gt (.inl ⟨rfl,_,_,rfl⟩),hlt,rvs.mono (List.prefix_refl _) imm⟩⟩
  ·by_cases hl:0<left
   ·have e:left.toNat=(left - 1).toNat+1:=by omega
    rw[e] at h
    refine wpAny_pyNext_range_item g hl fun h' hit' hs'=>?_
    exact more (s.toks+1) h hs'.extBut hit' fun imm=>⟨.int _ _,.inr ⟨x+step,left - 1,step,rfl,by omega,rfl⟩⟩
   ·have e:left.toNat=0:=by omega
    rw[e] at h
    exact wpAny_pyNext_range_end hh g (by omega) (done h)
theorem WI {it:Addr}{o:Obj}{i:It}(S:St (cx.keep it o) ι ρ H s)(r:ItRep ι s.heap o i){target:Expr}{v:Value}{Q:Unit→Shared→Prop}(q:Q () s) :
  wpAny (model prog cx.w) A (letOwnedTupleGo target (.ref it) v) Q E s:=by
 have g:=S.kept r.notMk
 have key:∀ {T:String} {vs:Array Value},o.cls=.type T→o.data=.fields vs→(["enumerate","zip","dict_itemiterator","dict_reverseitemiterator","odict_iterator","itertools.zip_longest","itertools.pairwise"].contains T)=false →
   ∀ a:Addr,wpAny (model prog cx.w) A (do
    let o ←load it
    match o.cls,o.data with
    | .type n,.fields vs =>
     if ["enumerate","zip","dict_itemiterator","dict_reverseitemiterator","odict_iterator","itertools.zip_longest","itertools.pairwise"].contains n && vs[0]? == some (rawInt a) then
      rule "for.unpacks-the-owned-tuple"
      updateField it 0 .none
    | _,_=>pure ()) Q E s:=by
  intro T vs c d hT a
  refine wpAny_bind (wpAny_load g ?_)
  rw[c,d]
  dsimp only
  rw[hT,Bool.false_and]
  exact wpAny_pure q
 have key':∀ a:Addr,wpAny (model prog cx.w) A (do
    let o ←load it
    match o.cls,o.data with
    | .type n,.fields vs =>
     if ["enumerate","zip","dict_itemiterator","dict_reverseitemiterator","odict_iterator","itertools.zip_longest","itertools.pairwise"].contains n && vs[0]? == some (rawInt a) then
      rule "for.unpacks-the-owned-tuple"
      updateField it 0 .none
    | _,_=>pure ()) Q E s:=by
  cases i with
  | keys n ver len i=>refine Z13 r fun l gi J c d=>?_;exact key c d (by decide)
  | seq n i=>refine kL r fun l gi c d=>?_;exact key c d (by decide)
  | vals vs =>
   rcases r with ⟨t,i,items,n,c,d,_⟩ | ⟨x,l,st,rfl,_⟩
   ·exact key c d (by decide)
   ·exact key rfl rfl (by decide)
 cases target with
 | Tuple es k pos =>
  cases v with
  | ref a=>exact key' a
  | _=>exact wpAny_pure q
 | List es pos =>
  cases v with
  | ref a=>exact key' a
  | _=>exact wpAny_pure q
 | _=>exact wpAny_pure q
end
section
variable {s:Shared}{A:Around}{prog:Program}{w:World}{E:Value→Shared→Prop}
theorem rawKeys (hh:A.handled=none)(I d:Addr)(hne:d≠I)(ents:Array DictEntry)(ep:Nat) :
  Walks prog w A I [I,d] [I] ents.size (fun i v=>∃ e,ents[i]?=some e∧v=e.key) (fun i h=>h.IsKeyIter I d i ents.size ep∧h.get? d=some { cls:=.type "dict",data:=.dict ents ep }) where
 sub:=fun b hb=>by simp at hb;simp [hb]
 frame:=fun J J J st hk=>⟨st.1.at fun o e=>hk I (by simp) o e,hk d (by simp) _ st.2⟩
 item:=fun i s Q E hi st hQ=>Kf hh st.1 st.2 (fun e hx h' hit' hs'=>hQ e.key h' s.toks ⟨e,hx,rfl⟩ ⟨hit',hs'.extBut d _ hne st.2⟩ fun b o hb e=>hs'.extBut b o (fun h=>hb (by simp [h])) e)
  fun hx=>absurd (Array.getElem?_eq_none_iff.mp hx) (Nat.not_le.mpr hi)
 done:=fun s Q E st hQ=>Kf hh st.1 st.2 (fun e hx=>absurd (Array.getElem?_eq_some_iff.mp hx).1 (Nat.lt_irrefl _)) fun hx h' he'=>hQ h' s.toks fun b o hb e=>he' b o (fun h=>hb (by simp [h])) e
 self:=fun J J J J st hQ=>wpAny_pyIter_keyiter st.1 hQ
theorem room_dict {d:Addr}{Q:Bool→Shared→Prop}(hT:s.TypeIs (.ref d) "dict")(q:Q false s):wpAny (model prog w) A (Builtin.List.listLengthHint (.ref d)) Q E s:=by
 unfold Builtin.List.listLengthHint
 refine wpAny_bind (wpAny_specialOf hT F.slot_dict_len.lookup ?_)
 obtain⟨id,hid⟩:∃ id:String,id="dict.__len__":=⟨_,rfl⟩
 have hsp:splitId id=some ("dict","__len__"):=by rw[hid];decide +kernel
 rw[←hid]
 dsimp only
 rw[hsp]
 dsimp only
 refine wpAny_bind (wpAny_isInstance (T:="dict") (b:=true) hT (by rw[isSubtype_type];kernel_rfl) ?_)
 rw[if_neg (show ¬ ((!true)=true) by decide)]
 refine wpAny_ite_split (fun J=>wpAny_bind (wpAny_typeOf hT (wpAny_pure q))) fun hab=>?_
 subst hid
 exact absurd (by decide +kernel) hab
theorem Yc {R:Result→Shared→Prop}{d S:Addr}{res:Value}{ents:Array DictEntry}{ep c₀:Nat}(hh:A.handled=none)(lo:(d == sysModules)=false)(g:s.heap.get? d=some { cls:=.type "dict",data:=.dict ents ep }) (hn:ents.size≤sizeLine)
  (hS:s.heap.get? S=some { cls:=.type "list",data:=.seq #[] c₀ })
  (q:∀ (h':Heap) (tk c':Nat),(∀ b o,b≠S→s.heap.get? b=some o→h'.get? b=some o)→h'.get? S=some { cls:=.type "list",data:=.seq (ents.map (·.key)) c' }→R (.ok (.ret res)) { s with heap:=h',toks:=tk }) :
  wpAny (model prog w) A.in1 (Builtin.List.listExtendWith (.ref S) (.ref d) res)
   (fun fin s'=>match fin with | .done f=>R (.ok f) s' | .again c'=>c'.quiet=true∧codeAny (model prog w) A c' R s') (fun e s'=>R (.error e) s') s:=by
 have hdS:d≠S:=fun e=>by rw[e,hS] at g;simp at g
 have hT:s.TypeIs (.ref d) "dict":=⟨_,g,rfl⟩
 unfold Builtin.List.listExtendWith
 refine wpAny_bind (wpAny_typeOf hT ?_)
 rw[if_neg (by
  have:Builtin.List.listSameRef (.ref S) (.ref d)=false:=by simp [Builtin.List.listSameRef,Ne.symm hdS]
  rw[this];decide)]
 refine wpAny_bind (WJ lo g ?_)
 generalize hI:s.heap.objs.size=I at *
 have hSI:S≠I:=by rw[←hI];exact Nat.ne_of_lt (Heap.lt_size hS)
 have hdI:d≠I:=by rw[←hI];exact Nat.ne_of_lt (Heap.lt_size g)
 have st2:(s.heap.push { cls:=.type "dict_keyiterator",data:=.fields #[.ref d,.int 0 0,.int ents.size 0,.int ep 0] }).IsKeyIter I d 0 ents.size ep:=⟨_,by rw[←hI];exact Heap.get?_push_size _ rfl,rfl,rfl⟩
 have k2:∀ b o,s.heap.get? b=some o→(s.heap.push { cls:=.type "dict_keyiterator",data:=.fields #[.ref d,.int 0 0,.int ents.size 0,.int ep 0] }).get? b=some o:=fun b o e=>Heap.get?_push_of_some _ e
 have oldI:∀ b o,s.heap.get? b=some o→b≠I:=fun b o e=>by rw[←hI];exact Nat.ne_of_lt (Heap.lt_size e)
 generalize s.heap.push { cls:=.type "dict_keyiterator",data:=.fields #[.ref d,.int 0 0,.int ents.size 0,.int ep 0] }=h2 at *
 have W:=(rawKeys (prog:=prog) (w:=w) (A:=A.in1) hh I d hdI ents ep).toS
 have hSf:S ∉ [I,d]:=by
  intro hmem
  rcases List.mem_cons.mp hmem with e | hmem
  ·exact hSI e
  ·exact hdS (List.mem_singleton.mp hmem).symm
 have loop:∀ (h3:Heap) (c:Nat),h3.get? S=some { cls:=.type "list",data:=.seq #[] c }→(∀ b o,b≠S→h2.get? b=some o→h3.get? b=some o) →
   codeAny (model prog w) A (.builtin "list.extend.loop" ⟨[.ref S,.ref I,res],[]⟩) R { s with heap:=h3 }:=by
  intro h3 c g3 k3
  refine codeAny_extend_loopS W hn S hSf res ents.size 0 _ #[] c rfl (Nat.zero_le _) ⟨st2.at fun o e=>k3 I o (Ne.symm hSI) e,k3 d _ hdS (k2 _ _ g)⟩ g3 (ItemsOf.nil _) fun s' acc' c' hmv g' hacc=>?_
  have e:acc'=ents.map (·.key):=by
   apply Array.ext
   ·rw[hacc.1,Array.size_map]
   ·intro i h1 h2
    refine jo (hacc.2 i acc'[i] (Array.getElem?_eq_getElem h1)) fun e he hv=>?_
    rw[hv]
    obtain⟨h4,h5⟩:=Array.getElem?_eq_some_iff.mp he
    rw[Array.getElem_map,h5]
  subst e
  rw[Moved.eq_with hmv]
  refine q s'.heap s'.toks c' (fun b o hb e=>hmv.heap b o (fun hm=>?_) (k3 b o hb (k2 b o e))) g'
  rcases List.mem_cons.mp hm with e' | hm
  ·exact hb e'
  ·exact oldI b o e (List.mem_singleton.mp hm)
 refine wpAny_bind (wpAny_holding (room_dict (s:={ s with heap:=h2 }) ⟨_,k2 _ _ g,rfl⟩ ?_))
 have g2:=k2 _ _ hS
 refine wpAny_ite_split (fun J=>?_) fun J=>wpAny_pure ⟨plainId_quiet F.plain_extend_loop _,loop _ _ g2 fun b o J e=>e⟩
 refine wpAny_bind (wpAny_rule (wpAny_bind ?_))
 show wpAny _ _ (updateSeq S (·.push .none) >>= fun J=>updateSeq S (·.pop)) _ _ _
 refine wpAny_bind (wpAny_updateSeq g2 rfl ?_)
 have g3:=Heap.get?_update_self (Obj.mapSeq (·.push Value.none)) g2 rfl
 refine wpAny_updateSeq (hz:=by seq_fits) g3 rfl ?_
 have g4:=Heap.get?_update_self (Obj.mapSeq (·.pop)) g3 rfl
 exact wpAny_pure ⟨plainId_quiet F.plain_extend_loop _,loop _ _ g4 fun b o hb e=>(Heap.get?_update_other _ _ (Ne.symm hb)).trans ((Heap.get?_update_other _ _ (Ne.symm hb)).trans e)⟩
theorem YD {d:Addr}{ents:Array DictEntry}{ep:Nat}{R:List Value→Shared→Prop}(hh:A.handled=none)(lo:(d == sysModules)=false)(g:s.heap.get? d=some { cls:=.type "dict",data:=.dict ents ep }) (hn:ents.size≤sizeLine)
  (q:∀ (h':Heap) (tk:Nat),(∀ b o,s.heap.get? b=some o→h'.get? b=some o)→s.heap.objs.size<h'.objs.size→R (ents.toList.map (·.key)) { s with heap:=h',toks:=tk }):wpAny (model prog w) A (collect (.ref d)) R E s:=by
 unfold collect
 refine wpAny_bind (wpAny_runValue (codeAny_builtin F.entry_proto_collect ?_))
 rw[Around.under_plainId F.plain_proto_collect _]
 show wpAny _ A.in1 (newList [] >>= fun l=>again (.builtin "list.__iadd__" ⟨[l,.ref d],[]⟩)) _ _ s
 refine wpAny_bind (wpAny_newObj_type (wpAny_pure ⟨plainId_quiet F.plain_list_iadd _,codeAny_builtin F.entry_list_iadd ?_⟩))
 rw[Around.under_plainId F.plain_list_iadd _]
 have g1:(s.heap.push { cls:=.type "list",data:=.seq ([]:List Value).toArray }).get? s.heap.objs.size=some { cls:=.type "list",data:=.seq #[] }:=Heap.get?_push_size _ rfl
 show wpAny _ A.in1 (Builtin.List.listExtendWith (.ref s.heap.objs.size) (.ref d) (.ref s.heap.objs.size)) _ _ { s with heap:=s.heap.push { cls:=.type "list",data:=.seq ([]:List Value).toArray } }
 refine Yc (s:={ s with heap:=s.heap.push { cls:=.type "list",data:=.seq ([]:List Value).toArray } }) (R:=fun r s'=>match r with
  | .ok (.ret v)=>wpAny (model prog w) A (match v with
   | .ref a=>do
    let o ←load a
    match o.data with
    | .seq xs _=>pure xs.toList
    | _=>unsupported "internal:collect"
   | _=>unsupported "internal:collect") R E s'
  | .ok _=>False
  | .error e=>E e s') hh lo (Heap.get?_push_of_some _ g) hn g1 fun h' tk c' hk g'=>?_
 show wpAny _ A (load s.heap.objs.size >>= _) _ _ _
 refine wpAny_bind (wpAny_load g' (wpAny_pure ?_))
 have:=q h' tk (fun b o e=>hk b o (Nat.ne_of_lt (Heap.lt_size e)) (Heap.get?_push_of_some _ e)) (Heap.lt_size g')
 simpa using this
theorem keys_reps {ι:List Addr}{h:Heap}{ents:List DictEntry}{es:List (V×V)}(r:RepEs w ι h ents es):RepVs ι h (ents.map (·.key)) (es.map (·.1)):=by
 induction r with
 | nil=>exact .nil
 | cons _ rk _ _ _ ih=>exact .cons rk ih
end
section
variable {cx:Cx}{ι:List Addr}{ρ:jz}{H:H}{s:Shared}{A:Around}{prog:Program}{E:Value→Shared→Prop}
theorem Zo (x y:Str):Txt.startswith x y=decide (y.cps.toList <+: x.cps.toList):=by
 unfold Txt.startswith
 rw[StrLaws.subAt_eq,List.drop_zero,Bool.eq_iff_iff,Bool.and_eq_true,decide_eq_true_eq,decide_eq_true_eq,beq_iff_eq]
 constructor
 ·rintro⟨_,h⟩
  rw[←h];exact List.take_prefix _ _
 ·intro h
  have hl:=h.length_le
  rw[Array.length_toList,Array.length_toList] at hl
  refine⟨by rw[Nat.zero_add];exact hl,?_⟩
  have:=List.prefix_iff_eq_take.mp h
  rw[Array.length_toList] at this
  exact this.symm
end
end Tw
end
section
namespace Tw
open PySem PySem.W PyProof.Rows
noncomputable def Jj:Bool→Keyed→Array Keyed→Nat→Nat→Nat→StateT SortSt Sem (Option Nat):=sortPriv% PySem.Builtin.gallop
noncomputable def mergeLoT:Array Keyed→Array Keyed→StateT SortSt Sem (Array Keyed):=sortPriv% PySem.Builtin.mergeLo
noncomputable def mergeHiT:Array Keyed→Array Keyed→StateT SortSt Sem (Array Keyed):=sortPriv% PySem.Builtin.mergeHi
section
variable {M:Model}{A:Around}{E:Value→Shared→Prop}{σ β:Type}
theorem loopC {b:Nat}{c:β}{f:Nat→β→StateT σ Sem (ForInStep β)}{Q:β→σ→Shared→Prop}{st:σ}{s:Shared}(I:Nat→β→σ→Shared→Prop)(h0:I 0 c st s)
  (step:∀ i c st s,i<b→I i c st s→kasC M A E (f i c) (fun r st' s'=>match r with | .done c'=>Q c' st' s' | .yield c'=>I (i+1) c' st' s') st s)
  (fin:∀ c st s,I b c st s→Q c st s):kasC M A E (forIn [:b] c f) Q st s:=by
 refine kasC_range ?_
 rw[Nat.sub_zero]
 have key:∀ (k i:Nat) c st s,i+k=b→I i c st s→kasC M A E (forIn (List.range' i k) c f) Q st s:=by
  intro k
  induction k with
  | zero=>intro i c st s e h;exact kasC_nil (fin c st s (by rw[←e];exact h))
  | succ k ih =>
   intro i c st s e h
   rw[List.range'_succ]
   refine kasC_cons (wpAny_mono (step i c st s (by exact jq jr jg ja (qA jc jD) ja qt (qe e)) h) (fun r s' h'=>?_) fun J J e=>e)
   obtain⟨r,st'⟩:=r
   cases r with
   | done c'=>exact h'
   | yield c'=>exact ih (i+1) c' st' s' (by exact qa (jq jr (qA jg ja) jd (qA jc jA) jd qt (qe e)) (jq jr jc (qA jA jd) jc (qA ja jD) qt (qi e))) h'
 exact key b 0 c st s (by exact qa (kg jO (qA jw jc) jc qt ) (kg jO jc (qA jw jc) qt )) h0
theorem yN {b:Nat}{c:β}{f:Nat→β→StateT σ Sem (ForInStep β)}{Q:β→σ→Shared→Prop}{st:σ}{s:Shared}(I:Nat→β→σ→Shared→Prop)(h0:I 0 c st s)
  (step:∀ (F:Nat→β→StateT σ Sem (ForInStep β)) (R:ForInStep β→σ→Shared→Prop),F=f→(∀ c' st' s',Q c' st' s'→R (.done c') st' s')→∀ i,(∀ c' st' s',I (i+1) c' st' s'→R (.yield c') st' s')→∀ c st s,i<b→I i c st s→kasC M A E (F i c) R st s)
  (fin:∀ c st s,I b c st s→Q c st s):kasC M A E (forIn [:b] c f) Q st s :=
 loopC I h0 (fun i c st s hi h=>step f _ rfl (fun J J J h=>h) i (fun J J J h=>h) c st s hi h) fin
theorem UC {α γ:Type}{g:γ→StateT σ Sem α}{Q':α→σ→Shared→Prop}{Q:γ→σ→Shared→Prop}(h:∀ (G:γ→StateT σ Sem α) (R:α→σ→Shared→Prop),G=g→R=Q'→∀ c st s,Q c st s→kasC M A E (G c) R st s):∀ c st s,Q c st s→kasC M A E (g c) Q' st s:=h g Q' rfl rfl
theorem jS {α:Type}{m:StateT σ Sem α}{Q Q':α→σ→Shared→Prop}{st:σ}{s:Shared}(h:kasC M A E m Q st s)(hq:∀ a st' s',Q a st' s'→Q' a st' s'):kasC M A E m Q' st s :=
 wpAny_mono h (fun r s' h'=>hq _ _ _ h') fun J J e=>e
end
structure OrdP (lt:Keyed→Keyed→Bool)(P:Keyed→Prop):Prop where
 irr:∀ x,P x→lt x x=false
 tr:∀ x y z,P x→P y→P z→lt x y=false→lt y z=false→lt x z=false
 asy:∀ x y,P x→P y→lt x y=true→lt y x=false
theorem OrdP.flip {lt:Keyed→Keyed→Bool}{P:Keyed→Prop}(O:OrdP lt P):OrdP (fun x y=>lt y x) P :=
 ⟨O.irr,fun x y z px py pz h1 h2=>O.tr z y x pz py px h2 h1,fun x y px py h=>O.asy y x py px h⟩
structure Ord9 (prog:Program)(w:World)(A:Around)(κ:SortKind)(lt:Keyed→Keyed→Bool)(P:Keyed→Prop)(I:Shared→Prop):Prop extends OrdP lt P where
 cmp:∀ x y s (Q:Bool→Shared→Prop),P x→P y→I s→(∀ s',I s'→Q (lt x y) s')→wpAny (model prog w) A (keyLt' κ x.1 y.1) Q (fun J J=>False) s
section
variable {prog:Program}{w:World}{A:Around}{E:Value→Shared→Prop}{κ:SortKind}{lt:Keyed→Keyed→Bool}{P:Keyed→Prop}{I:Shared→Prop}(O:Ord9 prog w A κ lt P I)
include O
theorem ltC {x y:Keyed}{Q:Option Bool→SortSt→Shared→Prop}{st:SortSt}{s:Shared}(hk:kindOf st=κ)(px:P x)(py:P y)(hI:I s)(q:∀ s',I s'→Q (some (lt x y)) st s'):kasC (model prog w) A E (lt' x y) Q st s:=by
 rw[lt'_eq]
 refine kasC_bind (kasC_get ?_)
 refine kasC_bind (kasC_lift ?_)
 rw[hk]
 refine wpAny_attempt ?_
 refine wpAny_mono (O.cmp x y s (fun b s'=>Q (some b) st s') px py hI q) (fun b s' h=>kasC_pure h) fun J J e=>e.elim
omit O in
theorem elemC {arr:Array Keyed}{i:Nat}{x:Keyed}{Q:Keyed→SortSt→Shared→Prop}{st:SortSt}{s:Shared}(h:arr[i]?=some x)(q:Q x st s):kasC (model prog w) A E (elem' arr i) Q st s:=by
 rw[elem'_eq,h];exact kasC_pure q
omit O in
theorem kJ {β:Type}{arr:Array Keyed}{i:Nat}{x:Keyed}{f:Keyed→StateT SortSt Sem β}{Q:β→SortSt→Shared→Prop}{st:SortSt}{s:Shared}(h:arr[i]?=some x)(q:kasC (model prog w) A E (f x) Q st s):kasC (model prog w) A E (elem' arr i >>= f) Q st s:=kasC_bind (elemC h q)
omit O in
theorem WG {β:Type}{f:SortSt→StateT SortSt Sem β}{Q:β→SortSt→Shared→Prop}{st:SortSt}{s:Shared}(q:kasC (model prog w) A E (f st) Q st s):kasC (model prog w) A E (get >>= f) Q st s:=kasC_bind (kasC_get q)
omit O in
theorem ZH {β:Type}{g:SortSt→SortSt}{f:PUnit→StateT SortSt Sem β}{Q:β→SortSt→Shared→Prop}{st:SortSt}{s:Shared}(q:kasC (model prog w) A E (f ⟨⟩) Q (g st) s):kasC (model prog w) A E (modify g >>= f) Q st s:=kasC_bind (kasC_modify q)
noncomputable def WL (lt:Keyed→Keyed→Bool)(left:Bool)(key x:Keyed):Bool:=if left=true then lt x key else !lt key x
noncomputable def kU (lt:Keyed→Keyed→Bool)(left:Bool)(key:Keyed)(arr:Array Keyed)(i:Nat):Bool:=match arr[i]? with
 | some x=>WL lt left key x
 | none=>false
structure Cut (B:Nat→Bool)(n k:Nat):Prop where
 le:k≤n
 lo:∀ i,i<k→B i=true
 hi:∀ i,k≤i→i<n→B i=false
theorem bey_down {left:Bool}{key x y:Keyed}(pk:P key)(px:P x)(py:P y)(hxy:lt y x=false)(h:WL lt left key y=true):WL lt left key x=true:=by
 unfold WL at h ⊢
 cases left with
 | true =>
  rw[if_pos rfl] at h ⊢
  cases e:lt x key with
  | true=>rfl
  | false=>rw[O.tr y x key py px pk hxy e] at h;cases h
 | false =>
  rw[if_neg Bool.false_ne_true] at h ⊢
  have h:lt key y=false:=by simpa using h
  rw[O.tr key y x pk py px h hxy];rfl
omit O in
theorem binC {B:Nat→Bool}{st:SortSt}{n lo hi:Nat}{f:Nat→Option (Option Nat)×Nat×Nat→StateT SortSt Sem (ForInStep (Option (Option Nat)×Nat×Nat))}{s:Shared}{Q:Option (Option Nat)×Nat×Nat→SortSt→Shared→Prop}
  (down:∀ i j,i≤j→j<n→B j=true→B i=true)
  (hf:∀ i lo hi s R,lo<hi→hi≤n→I s→(∀ s',I s'→(B (lo+(hi - lo) / 2)=true→R (.yield (none,lo+(hi - lo) / 2+1,hi)) st s')∧(B (lo+(hi - lo) / 2)=false→R (.yield (none,lo,lo+(hi - lo) / 2)) st s'))→kasC (model prog w) A E (f i (none,lo,hi)) R st s)
  (hd:∀ i lo hi s R,hi≤lo→R (.done (none,lo,hi)) st s→kasC (model prog w) A E (f i (none,lo,hi)) R st s)
  (hI:I s) (h1:lo≤hi) (h2:hi≤n) (h3:∀ i,i<lo→B i=true) (h4:∀ i,hi≤i→i<n→B i=false) (q:∀ k s',I s'→Cut B n k→Q (none,k,k) st s'):kasC (model prog w) A E (forIn [:n] (none,lo,hi) f) Q st s:=by
 refine loopC (fun i c st' s'=>st'=st∧I s'∧∃ lo hi,c=(none,lo,hi)∧lo≤hi∧hi≤n∧hi - lo≤n - i∧(∀ i,i<lo→B i=true)∧∀ i,hi≤i→i<n→B i=false) ⟨rfl,hI,lo,hi,rfl,h1,h2,by exact jV jE jc ja jd je jc jd je (qA ja jw) qt h2 qu qw,h3,h4⟩ ?_ ?_
 ·intro i c st' s' hi' zp57
  refine jP zp57 fun zn55 zo56=>?_
  subst zn55
  refine jP zo56 fun hI' zq58=>?_
  refine yI zq58 fun lo hi zr59 zs60=>?_
  subst zr59
  refine Z04 zs60 fun g1 g2 g3 g4 g5=>?_
  rcases Nat.lt_or_ge lo hi with hlt | hge
  ·refine hf i lo hi s' _ hlt g2 hI' fun s₂ h₂=>⟨fun hb=>?_,fun hb=>?_⟩
   ·exact⟨rfl,h₂,_,_,rfl,by exact oq6 hlt,g2,by exact oq7 g3,fun j hj=>down j _ (by exact oq8 hj) (by exact oq9 g2 hlt) hb,g5⟩
   ·refine⟨rfl,h₂,_,_,rfl,by exact oq10,by exact oq11 g2 hlt,by exact oq12 g3,g4,fun j hj hj'=>?_⟩
    cases e:B j with
    | false=>rfl
    | true=>rw[down _ j hj hj' e] at hb;cases hb
  ·obtain rfl:lo=hi:=Nat.le_antisymm g1 hge
   exact hd i lo lo s' _ (Nat.le_refl _) (q lo s' hI' ⟨g2,g4,g5⟩)
 ·intro c st' s' zv63
  refine jP zv63 fun zt61 zu62=>?_
  subst zt61
  refine jP zu62 fun hI' zw64=>?_
  refine yI zw64 fun lo hi zx65 zy66=>?_
  subst zx65
  refine Z04 zy66 fun g1 g2 g3 g4 g5=>?_
  obtain rfl:lo=hi:=by exact qa (g1) (jV ka jc ja jd je jc (qA jd ja) (qA je jl) jl qt g3 qw (qx (Nat.le_refl _)))
  exact q lo s' hI' ⟨g2,g4,g5⟩
theorem zr {left:Bool}{key:Keyed}{arr:Array Keyed}{base n hint:Nat}{Q:Option Nat→SortSt→Shared→Prop}{st:SortSt}{s:Shared}(hk:kindOf st=κ)(hI:I s)(pk:P key)(hn:hint<n)
  (all:∀ i,i<n→∃ x,arr[base+i]?=some x∧P x) (srt:∀ i j x y,i≤j→j<n→arr[base+i]?=some x→arr[base+j]?=some y→lt y x=false)
  (q:∀ k s',I s'→Cut (fun i=>kU lt left key arr (base+i)) n k→Q (some k) st s'):kasC (model prog w) A E (Jj left key arr base n hint) Q st s:=by
 have ask:∀ {i:Nat} {s:Shared} {R:Option Bool→SortSt→Shared→Prop},i<n→I s→(∀ s',I s'→R (some (kU lt left key arr (base+i))) st s')→kasC (model prog w) A E (do
   let x ←elem' arr (base+i)
   if left=true then lt' x key else do
    let r ←lt' key x
    pure (r.map fun x=>!x)) R st s:=by
  intro i s R hi hI r
  refine jo (all i hi) fun x hx px=>?_
  have e:kU lt left key arr (base+i)=WL lt left key x:=by unfold kU;rw[hx]
  rw[e] at r
  refine kJ hx ?_
  cases left with
  | true=>rw[if_pos rfl];exact ltC O hk px pk hI r
  | false=>rw[if_neg Bool.false_ne_true];exact kasC_bind (ltC O hk pk px hI fun s' h'=>kasC_pure (r s' h'))
 have down:∀ i j,i≤j→j<n→kU lt left key arr (base+j)=true→kU lt left key arr (base+i)=true:=fun i j h1 h2 hb=>by
  refine jo (all i (by exact jt jr jg ja jc jd jD ja qt h1 h2)) fun x hx px=>?_
  refine jo (all j h2) fun y hy py=>?_
  unfold kU at hb ⊢
  rw[hy] at hb
  rw[hx]
  exact bey_down O pk px py (srt i j x y h1 h2 hx hy) hb
 generalize hB:(fun i=>kU lt left key arr (base+i))=B at q
 have eB:∀ i,kU lt left key arr (base+i)=B i:=fun i=>by rw[←hB]
 simp only[eB] at ask down
 clear hB
 refine kasC_bind (ask hn hI fun s₁ h₁=>?_)
 have half:∀ {lo hi:Nat} {s:Shared},I s→lo≤hi→hi≤n→(∀ i,i<lo→B i=true)→(∀ i,hi≤i→i<n→B i=false)→∀ {f:Nat→Option (Option Nat)×Nat×Nat→StateT SortSt Sem (ForInStep (Option (Option Nat)×Nat×Nat))},
   (∀ i lo hi s R,lo<hi→hi≤n→I s→(∀ s',I s'→(B (lo+(hi - lo) / 2)=true→R (.yield (none,lo+(hi - lo) / 2+1,hi)) st s')∧(B (lo+(hi - lo) / 2)=false→R (.yield (none,lo,lo+(hi - lo) / 2)) st s'))→kasC (model prog w) A E (f i (none,lo,hi)) R st s) →
   (∀ i lo hi s R,hi≤lo→R (.done (none,lo,hi)) st s→kasC (model prog w) A E (f i (none,lo,hi)) R st s) →
   kasC (model prog w) A E (forIn [:n] (none,lo,hi) f) (fun c st' s'=>∃ k,c=(none,k,k)∧st'=st∧I s'∧Cut B n k) st s:=fun hI h1 h2 h3 h4 J hf hd =>
  binC down hf hd hI h1 h2 h3 h4 fun k s' h' c=>⟨k,rfl,rfl,h',c⟩
 cases hb:B hint with
 | true =>
  dsimp only
  rw[if_pos rfl]
  refine kasC_bind (jS (yN (Q:=fun c st' s'=>st'=st∧I s'∧∃ l o,c=(none,l,o)∧l<o∧l<n - hint∧B (hint+l)=true∧(n - hint≤o∨B (hint+o)=false)) (fun i c st' s'=>st'=st∧I s'∧∃ l o,c=(none,l,o)∧i+1≤o∧l<o∧l<n - hint∧B (hint+l)=true) ⟨rfl,h₁,0,1,rfl,by omega,by omega,by exact jt jr (qA jw jj) jc jA jd jd (qA jc ja) qt hn qw,hb⟩ ?_ ?_) ?_)
  ·intro F1 R1 hF1 hD1 i hY1
   intro c st' s' hi' zb69
   refine jP zb69 fun zz67 za68=>?_
   subst zz67
   refine jP za68 fun hI' zc70=>?_
   refine yI zc70 fun l o zd71 ze72=>?_
   subst zd71
   refine Z03 ze72 fun g1 g2 g3 g4=>?_
   subst hF1
   dsimp only
   by_cases ho:o≥n - hint
   ·rw[if_pos ho];exact kasC_pure (hD1 _ _ _ ⟨rfl,hI',l,o,rfl,g2,g3,g4,.inl ho⟩)
   ·rw[if_neg ho]
    refine kasC_bind (ask (by exact oq13 ho) hI' fun s₂ h₂=>?_)
    cases hm:B (hint+o) with
    | true=>exact kasC_pure (hY1 _ _ _ ⟨rfl,h₂,o,2 * o+1,rfl,by exact jq ju (qA jg jj) (qA (qM 2 ja) jj) jg ja qt g1,by exact kg jO jg (qA (qM 2 jc) jj) qt ,by exact qn ho,hm⟩)
    | false=>exact kasC_pure (hD1 _ _ _ ⟨rfl,h₂,l,o,rfl,g2,g3,g4,.inr hm⟩)
  ·intro c st' s' zh75
   refine jP zh75 fun zf73 zg74=>?_
   subst zf73
   refine jP zg74 fun hI' zi76=>?_
   refine yI zi76 fun l o zj77 zk78=>?_
   subst zj77
   refine Z03 zk78 fun g1 g2 g3 g4=>?_
   exact⟨rfl,hI',l,o,rfl,g2,g3,g4,.inl (by exact jt jr jc ja jD ja jc jd qt g1 qu)⟩
  ·refine UC fun G1 J hG1 hR=>?_
   subst hR
   intro c st' s' zn81
   refine jP zn81 fun zl79 zm80=>?_
   subst zl79
   refine jP zm80 fun hI' zo82=>?_
   refine yI zo82 fun l o zp83 zq84=>?_
   subst zp83
   refine Z03 zq84 fun g2 g3 g4 g5=>?_
   subst hG1
   dsimp only
   refine kasC_bind (jS (half hI' (by exact oq14 g2 g3) (by exact oq15 g3) (fun i hi=>down i (hint+l) (by exact jq jr jc (qA ja jd) jg (qA (qA ja jd) jj) qt hi) (by exact oq16 g3) g4) (fun i hi hi'=>?_) ?_ ?_) ?_)
   ·rcases g5 with g5 | g5
    ·exact False.elim (oq17 hi hi' g5)
    ·cases e:B i with
     | false=>rfl
     | true=>rw[down (hint+o) i (by exact oq18 hi hi') hi' e] at g5;cases g5
   ·intro i lo hi s R hlt hle hI r
    dsimp only
    rw[if_neg (by exact fun e0=>kc ju jg ja ja jc qt hlt e0)]
    refine kasC_bind (ask (by exact oq19 hlt hle) hI fun s₂ h₂=>?_)
    cases hm:B (lo+(hi - lo) / 2) with
    | true=>exact kasC_pure ((r s₂ h₂).1 hm)
    | false=>exact kasC_pure ((r s₂ h₂).2 hm)
   ·intro i lo hi s R hge r
    dsimp only
    rw[if_pos hge]
    exact kasC_pure r
   ·intro c st' s' zt87
    refine jo zt87 fun k zr85 zs86=>?_
    subst zr85
    refine jP zs86 fun zu88 zv89=>?_
    subst zu88
    refine jP zv89 fun hI' cut=>?_
    exact kasC_pure (q k s' hI' cut)
 | false =>
  dsimp only
  rw[if_neg Bool.false_ne_true]
  refine kasC_bind (jS (yN (Q:=fun c st' s'=>st'=st∧I s'∧∃ l o,c=(none,l,o)∧l<o∧l<hint+1∧B (hint - l)=false∧(hint+1≤o∨B (hint - o)=true)) (fun i c st' s'=>st'=st∧I s'∧∃ l o,c=(none,l,o)∧i+1≤o∧l<o∧l<hint+1∧B (hint - l)=false) ⟨rfl,h₁,0,1,rfl,by omega,by omega,by exact kg jO (qA jw jj) jg qt ,hb⟩ ?_ ?_) ?_)
  ·intro F1 R1 hF1 hD1 i hY1
   intro c st' s' hi' zy2
   refine jP zy2 fun zw0 zx1=>?_
   subst zw0
   refine jP zx1 fun hI' zz3=>?_
   refine yI zz3 fun l o za4 zb5=>?_
   subst za4
   refine Z03 zb5 fun g1 g2 g3 g4=>?_
   subst hF1
   dsimp only
   by_cases ho:o≥hint+1
   ·rw[if_pos ho];exact kasC_pure (hD1 _ _ _ ⟨rfl,hI',l,o,rfl,g2,g3,g4,.inl ho⟩)
   ·rw[if_neg ho]
    refine kasC_bind (ask (by exact jt jr jg ja jD ja jc jd qt hn qu) hI' fun s₂ h₂=>?_)
    cases hm:B (hint - o) with
    | true=>exact kasC_pure (hD1 _ _ _ ⟨rfl,h₂,l,o,rfl,g2,g3,g4,.inr hm⟩)
    | false=>exact kasC_pure (hY1 _ _ _ ⟨rfl,h₂,o,2 * o+1,rfl,by exact jq ju (qA jg jj) (qA (qM 2 ja) jj) jg ja qt g1,by exact kg jO jg (qA (qM 2 jc) jj) qt ,by exact qn ho,hm⟩)
  ·intro c st' s' ze8
   refine jP ze8 fun zc6 zd7=>?_
   subst zc6
   refine jP zd7 fun hI' zf9=>?_
   refine yI zf9 fun l o zg10 zh11=>?_
   subst zg10
   refine Z03 zh11 fun g1 g2 g3 g4=>?_
   exact⟨rfl,hI',l,o,rfl,g2,g3,g4,.inl (by exact jt jr jg ja jg jd jD ja qt hn g1)⟩
  ·refine UC fun G1 J hG1 hR=>?_
   subst hR
   intro c st' s' zk14
   refine jP zk14 fun zi12 zj13=>?_
   subst zi12
   refine jP zj13 fun hI' zl15=>?_
   refine yI zl15 fun l o zm16 zn17=>?_
   subst zm16
   refine Z03 zn17 fun g2 g3 g4 g5=>?_
   subst hG1
   dsimp only
   refine kasC_bind (jS (half hI' (by exact oq20 g2) (by exact jt jr jc ja jD ja jc jd qt hn qu) (fun i hi=>?_) (fun i hi hi'=>?_) ?_ ?_) ?_)
   ·rcases g5 with g5 | g5
    ·exact False.elim (oq21 hi g5)
    ·exact down i (hint - o) (by exact oq22 hi) (by exact jt jr jg ja jD ja jc jd qt hn qu) g5
   ·cases e:B i with
    | false=>rfl
    | true=>rw[down (hint - l) i (by exact hi) hi' e] at g4;cases g4
   ·intro i lo hi s R hlt hle hI r
    dsimp only
    rw[if_neg (by exact fun e0=>kc ju jg ja ja jc qt hlt e0)]
    refine kasC_bind (ask (by exact oq19 hlt hle) hI fun s₂ h₂=>?_)
    cases hm:B (lo+(hi - lo) / 2) with
    | true=>exact kasC_pure ((r s₂ h₂).1 hm)
    | false=>exact kasC_pure ((r s₂ h₂).2 hm)
   ·intro i lo hi s R hge r
    dsimp only
    rw[if_pos hge]
    exact kasC_pure r
   ·intro c st' s' zq20
    refine jo zq20 fun k zo18 zp19=>?_
    subst zo18
    refine jP zp19 fun zr21 zs22=>?_
    subst zr21
    refine jP zs22 fun hI' cut=>?_
    exact kasC_pure (q k s' hI' cut)
end
section
variable {α:Type}{le:α→α→Prop}{a b L:List α}{i j k:Nat}
structure Mg (le:α→α→Prop)(a b L:List α)(i j:Nat):Prop where
 perm:(L++(a.drop i++b.drop j)).Perm (a++b)
 srt:L.Pairwise le
 bnd:∀ x∈L,∀ y∈a.drop i++b.drop j,le x y
theorem Mg.byA (m:Mg le a b L i j)(sa:a.Pairwise le)(h:∀ x∈(a.drop i).take k,∀ y∈b.drop j,le x y):Mg le a b (L++(a.drop i).take k) (i+k) j:=by
 have e:a.drop i=(a.drop i).take k++a.drop (i+k):=by rw[←List.drop_drop];exact(List.take_append_drop k _).symm
 have sd:(a.drop i).Pairwise le:=sa.sublist (List.drop_sublist _ _)
 rw[e] at sd
 refine kH (List.pairwise_append.mp sd) fun s1 s2 s3=>?_
 refine⟨?_,List.pairwise_append.mpr ⟨m.srt,s1,fun x hx y hy=>m.bnd x hx y (List.mem_append_left _ (List.mem_of_mem_take hy))⟩,fun x hx y hy=>?_⟩
 ·have:=m.perm
  rw[e] at this
  simpa [List.append_assoc] using this
 ·rcases List.mem_append.mp hx with hx | hx
  ·refine m.bnd x hx y ?_
   rcases List.mem_append.mp hy with hy | hy
   ·rw[e];exact List.mem_append_left _ (List.mem_append_right _ hy)
   ·exact List.mem_append_right _ hy
  ·rcases List.mem_append.mp hy with hy | hy
   ·exact s3 x hx y hy
   ·exact h x hx y hy
theorem Mg.byB (m:Mg le a b L i j)(sb:b.Pairwise le)(h:∀ x∈(b.drop j).take k,∀ y∈a.drop i,le x y):Mg le a b (L++(b.drop j).take k) i (j+k):=by
 have e:b.drop j=(b.drop j).take k++b.drop (j+k):=by rw[←List.drop_drop];exact(List.take_append_drop k _).symm
 have sd:(b.drop j).Pairwise le:=sb.sublist (List.drop_sublist _ _)
 rw[e] at sd
 refine kH (List.pairwise_append.mp sd) fun s1 s2 s3=>?_
 refine⟨?_,List.pairwise_append.mpr ⟨m.srt,s1,fun x hx y hy=>m.bnd x hx y (List.mem_append_right _ (List.mem_of_mem_take hy))⟩,fun x hx y hy=>?_⟩
 ·have:=m.perm
  rw[e] at this
  refine List.Perm.trans ?_ this
  rw[List.append_assoc]
  refine List.Perm.append_left _ ?_
  rw[←List.append_assoc,←List.append_assoc]
  exact List.Perm.append_right _ List.perm_append_comm
 ·rcases List.mem_append.mp hx with hx | hx
  ·refine m.bnd x hx y ?_
   rcases List.mem_append.mp hy with hy | hy
   ·exact List.mem_append_left _ hy
   ·rw[e];exact List.mem_append_right _ (List.mem_append_right _ hy)
  ·rcases List.mem_append.mp hy with hy | hy
   ·exact h x hx y hy
   ·exact s3 x hx y hy
structure Mrd (le:α→α→Prop)(a b r:List α):Prop where
 perm:r.Perm (a++b)
 srt:r.Pairwise le
theorem Mg.done (m:Mg le a b L i j)(sa:a.Pairwise le)(sb:b.Pairwise le)(h:∀ x∈a.drop i,∀ y∈b.drop j,le x y):Mrd le a b (L++a.drop i++b.drop j):=by
 refine⟨by rw[List.append_assoc];exact m.perm,List.pairwise_append.mpr ⟨List.pairwise_append.mpr ⟨m.srt,sa.sublist (List.drop_sublist _ _),fun x hx y hy=>m.bnd x hx y (List.mem_append_left _ hy)⟩,sb.sublist (List.drop_sublist _ _),fun x hx y hy=>?_⟩⟩
 rcases List.mem_append.mp hx with hx | hx
 ·exact m.bnd x hx y (List.mem_append_right _ hy)
 ·exact h x hx y hy
theorem Mg.doneB (m:Mg le a b L i j)(sa:a.Pairwise le)(sb:b.Pairwise le)(h:∀ x∈b.drop j,∀ y∈a.drop i,le x y):Mrd le a b (L++b.drop j++a.drop i):=by
 refine⟨?_,List.pairwise_append.mpr ⟨List.pairwise_append.mpr ⟨m.srt,sb.sublist (List.drop_sublist _ _),fun x hx y hy=>m.bnd x hx y (List.mem_append_right _ hy)⟩,sa.sublist (List.drop_sublist _ _),fun x hx y hy=>?_⟩⟩
 ·refine List.Perm.trans ?_ m.perm
  rw[List.append_assoc]
  exact List.Perm.append_left _ List.perm_append_comm
 ·rcases List.mem_append.mp hx with hx | hx
  ·exact m.bnd x hx y (List.mem_append_left _ hy)
  ·exact h x hx y hy
theorem Mg.len (m:Mg le a b L i j)(hi:i≤a.length)(hj:j≤b.length):L.length=i+j:=by
 have:=m.perm.length_eq
 simp only[List.length_append,List.length_drop] at this
 exact qa (jV KW jc (qA ja jd) (qA jc (qA je jl)) (qA jM wc) jM (qA je ja) wc (qA jl jd) qt (qe this) qw qw) (jV KW (qA jc ja) jd (qA je jl) (qA jd (qA jM wc)) (qA jM jc) je (qA wc ja) jl qt (qi this) (qx (hi)) (qx (hj)))
theorem take1 {x:α}(h:a[i]?=some x):(a.drop i).take 1=[x]:=by
 have hl:=(List.getElem?_eq_some_iff.mp h).1
 rw[List.drop_eq_getElem_cons hl]
 have:=(List.getElem?_eq_some_iff.mp h).2
 rw[this];rfl
theorem from_le {x:α}(refl:le x x)(sa:a.Pairwise le)(h:a[i]?=some x):∀ y∈a.drop i,le x y:=fun y hy=>by
 have hl:=(List.getElem?_eq_some_iff.mp h).1
 have hx:=(List.getElem?_eq_some_iff.mp h).2
 have sd:(a.drop i).Pairwise le:=sa.sublist (List.drop_sublist _ _)
 rw[List.drop_eq_getElem_cons hl,hx] at sd hy
 rcases List.mem_cons.mp hy with rfl | hy
 ·exact refl
 ·exact(List.pairwise_cons.mp sd).1 y hy
end
structure Same (st st':SortSt):Prop where
 k:kindOf st'=kindOf st
 a:arrOf st'=arrOf st
 p:pendingOf st'=pendingOf st
 f:failedOf st'=failedOf st
theorem Same.rfl {st:SortSt}:Same st st:=⟨Eq.refl _,Eq.refl _,Eq.refl _,Eq.refl _⟩
section
variable {α:Type}{xs ys:Array α}{i j k:Nat}
theorem zj:(xs.extract i (i+k)).toList=(xs.toList.drop i).take k:=by
 rw[Array.toList_extract,List.extract_eq_take_drop,Nat.add_sub_cancel_left]
theorem zk:(xs.extract i).toList=xs.toList.drop i:=by
 rw[Array.toList_extract,List.extract_eq_take_drop]
 rw[List.take_of_length_le]
 simp
theorem jx {x:α}:xs[i]?=some x↔xs.toList[i]?=some x:=by rw[Array.getElem?_toList]
end
section
variable {lt:Keyed→Keyed→Bool}{P:Keyed→Prop}
def kq (lt:Keyed→Keyed→Bool)(x y:Keyed):Prop:=lt y x=false
structure Two2 (lt:Keyed→Keyed→Bool)(P:Keyed→Prop)(a b:Array Keyed):Prop where
 pa:∀ x∈a.toList,P x
 pb:∀ x∈b.toList,P x
 sa:a.toList.Pairwise (kq lt)
 sb:b.toList.Pairwise (kq lt)
variable (O:OrdP lt P){a b:Array Keyed}(T:Two2 lt P a b)
include O T
theorem Two2.below_a {x y:Keyed}{i:Nat}(px:P x)(hx:kq lt x y)(h:a[i]?=some y):∀ z∈a.toList.drop i,kq lt x z:=fun z hz=>by
 have h:=jx.mp h
 have py:=T.pa y (List.mem_of_getElem? h)
 exact O.tr z y x (T.pa z (List.mem_of_mem_drop hz)) py px (from_le (O.irr y py) T.sa h z hz) hx
theorem Two2.below_b {x y:Keyed}{i:Nat}(px:P x)(hx:kq lt x y)(h:b[i]?=some y):∀ z∈b.toList.drop i,kq lt x z:=fun z hz=>by
 have h:=jx.mp h
 have py:=T.pb y (List.mem_of_getElem? h)
 exact O.tr z y x (T.pb z (List.mem_of_mem_drop hz)) py px (from_le (O.irr y py) T.sb h z hz) hx
abbrev Ux (lt:Keyed→Keyed→Bool)(a b out:Array Keyed)(i j:Nat):Prop:=Mg (kq lt) a.toList b.toList out.toList i j
theorem US {out:Array Keyed}{i j:Nat}{x y:Keyed}(m:Ux lt a b out i j)(hb:b[j]?=some x)(ha:a[i]?=some y)(h:kq lt x y):Ux lt a b (out.push x) i (j+1):=by
 have px:=T.pb x (List.mem_of_getElem? (jx.mp hb))
 have:=Mg.byB (k:=1) m T.sb fun z hz=>by
  rw[take1 (jx.mp hb)] at hz
  rw[List.mem_singleton.mp hz]
  exact T.below_a O px h ha
 rw[take1 (jx.mp hb)] at this
 show Mg _ _ _ (out.push x).toList _ _
 rw[Array.toList_push];exact this
theorem ZK {out:Array Keyed}{i j:Nat}{x y:Keyed}(m:Ux lt a b out i j)(ha:a[i]?=some x)(hb:b[j]?=some y)(h:kq lt x y):Ux lt a b (out.push x) (i+1) j:=by
 have px:=T.pa x (List.mem_of_getElem? (jx.mp ha))
 have:=Mg.byA (k:=1) m T.sa fun z hz=>by
  rw[take1 (jx.mp ha)] at hz
  rw[List.mem_singleton.mp hz]
  exact T.below_b O px h hb
 rw[take1 (jx.mp ha)] at this
 show Mg _ _ _ (out.push x).toList _ _
 rw[Array.toList_push];exact this
theorem many_a {out:Array Keyed}{i j k:Nat}{y:Keyed}(m:Ux lt a b out i j)(hb:b[j]?=some y)(h:∀ r,r<k→∀ x,a[i+r]?=some x→kq lt x y):Ux lt a b (out++a.extract i (i+k)) (i+k) j:=by
 have:=Mg.byA (k:=k) m T.sa fun z hz=>by
  obtain⟨r,hr⟩:=List.mem_iff_getElem?.mp hz
  have hrk:r<k:=by
   have:=(List.getElem?_eq_some_iff.mp hr).1
   rw[List.length_take] at this;exact YX this
  rw[List.getElem?_take_of_lt hrk,List.getElem?_drop] at hr
  exact T.below_b O (T.pa z (List.mem_of_getElem? hr)) (h r hrk z (jx.mpr hr)) hb
 show Mg _ _ _ (out++a.extract i (i+k)).toList _ _
 rw[Array.toList_append,zj];exact this
theorem many_b {out:Array Keyed}{i j k:Nat}{y:Keyed}(m:Ux lt a b out i j)(ha:a[i]?=some y)(h:∀ r,r<k→∀ x,b[j+r]?=some x→kq lt x y):Ux lt a b (out++b.extract j (j+k)) i (j+k):=by
 have:=Mg.byB (k:=k) m T.sb fun z hz=>by
  obtain⟨r,hr⟩:=List.mem_iff_getElem?.mp hz
  have hrk:r<k:=by
   have:=(List.getElem?_eq_some_iff.mp hr).1
   rw[List.length_take] at this;exact YX this
  rw[List.getElem?_take_of_lt hrk,List.getElem?_drop] at hr
  exact T.below_a O (T.pb z (List.mem_of_getElem? hr)) (h r hrk z (jx.mpr hr)) ha
 show Mg _ _ _ (out++b.extract j (j+k)).toList _ _
 rw[Array.toList_append,zj];exact this
omit O in
theorem UX {out:Array Keyed}{i j:Nat}(m:Ux lt a b out i j)(hj:j=b.size):Mrd (kq lt) a.toList b.toList (out++a.extract i++b.extract j).toList:=by
 rw[Array.toList_append,Array.toList_append,zk,zk]
 refine Mg.done m T.sa T.sb fun x J y hy=>?_
 rw[hj,List.drop_of_length_le (by simp)] at hy
 exact nomatch hy
omit O in
theorem done_a {out:Array Keyed}{i j:Nat}(m:Ux lt a b out i j)(hi:i=a.size):Mrd (kq lt) a.toList b.toList (out++a.extract i++b.extract j).toList:=by
 rw[Array.toList_append,Array.toList_append,zk,zk]
 refine Mg.done m T.sa T.sb fun x hx y J=>?_
 rw[hi,List.drop_of_length_le (by simp)] at hx
 exact nomatch hx
omit O in
theorem Wm {out:Array Keyed}{i j:Nat}(m:Ux lt a b out i j)(hi:i+1=a.size)(hl:∀ x∈b.toList,∀ y,a[a.size - 1]?=some y→kq lt x y):Mrd (kq lt) a.toList b.toList (out++b.extract j++a.extract i).toList:=by
 rw[Array.toList_append,Array.toList_append,zk,zk]
 refine Mg.doneB m T.sa T.sb fun x hx y hy=>hl x (List.mem_of_mem_drop hx) y ?_
 obtain⟨r,hr⟩:=List.mem_iff_getElem?.mp hy
 have hrl:=(List.getElem?_eq_some_iff.mp hr).1
 rw[List.length_drop,Array.length_toList] at hrl
 rw[List.getElem?_drop] at hr
 rw[show a.size - 1=i+r by exact qa (jt jE jc (qA ja jd) je jA jg je qt (qi hi) (qx (jq ju jj jc jA jc qt (qe hi)))) (jV ka (qA jc ja) jd jA je (qA je jc) jl jl jD qt hrl (qx (jq ju jc ja jg ja qt (qe hi))) qw)]
 exact jx.mpr hr
end
section
variable {prog:Program}{w:World}{A:Around}{E:Value→Shared→Prop}{κ:SortKind}{lt:Keyed→Keyed→Bool}{P:Keyed→Prop}{I:Shared→Prop}
theorem ruleC {x:String}{Q:Unit→SortSt→Shared→Prop}{st:SortSt}{s:Shared}(q:Q () st s):kasC (model prog w) A E (liftM (rule x):StateT SortSt Sem Unit) Q st s:=kasC_lift (wpAny_rule q)
theorem UE {β:Type}{x:String}{f:Unit→StateT SortSt Sem β}{Q:β→SortSt→Shared→Prop}{st:SortSt}{s:Shared}(q:kasC (model prog w) A E (f ()) Q st s):kasC (model prog w) A E ((liftM (rule x):StateT SortSt Sem Unit) >>= f) Q st s:=kasC_bind (ruleC q)
theorem kZ {β:Type}{c:Prop}[Decidable c]{X Y:StateT SortSt Sem β}{Q:β→SortSt→Shared→Prop}{st:SortSt}{s:Shared}{M:Model}(hc:c)(h:kasC M A E X Q st s):kasC M A E (if c then X else Y) Q st s:=by rw[if_pos hc];exact h
theorem kM {β:Type}{c:Prop}[Decidable c]{X Y:StateT SortSt Sem β}{Q:β→SortSt→Shared→Prop}{st:SortSt}{s:Shared}{M:Model}(hc:¬ c)(h:kasC M A E Y Q st s):kasC M A E (if c then X else Y) Q st s:=by rw[if_neg hc];exact h
theorem Two2.at_a {a b:Array Keyed}(T:Two2 lt P a b){i:Nat}(h:i<a.size):∃ x,a[i]?=some x∧P x:=⟨a[i],Array.getElem?_eq_getElem h,T.pa _ (Array.getElem_mem_toList h)⟩
theorem Two2.at_b {a b:Array Keyed}(T:Two2 lt P a b){i:Nat}(h:i<b.size):∃ x,b[i]?=some x∧P x:=⟨b[i],Array.getElem?_eq_getElem h,T.pb _ (Array.getElem_mem_toList h)⟩
theorem JR {a:Array Keyed}(sa:a.toList.Pairwise (kq lt))(irr:∀ x∈a.toList,lt x x=false){i j:Nat}{x y:Keyed}(h:i≤j)(hx:a[i]?=some x)(hy:a[j]?=some y):lt y x=false:=by
 rcases Nat.lt_or_ge i j with hij | hij
 ·obtain⟨h1,e1⟩:=Array.getElem?_eq_some_iff.mp hx
  obtain⟨h2,e2⟩:=Array.getElem?_eq_some_iff.mp hy
  have:=List.pairwise_iff_getElem.mp sa i j (by simpa using h1) (by simpa using h2) hij
  rw[←e1,←e2]
  simpa [kq] using this
 ·obtain rfl:i=j:=Nat.le_antisymm h hij
  rw[hx] at hy;cases hy
  exact irr x (List.mem_of_getElem? (jx.mp hx))
variable (O:Ord9 prog w A κ lt P I){a b:Array Keyed}(T:Two2 lt P a b)
structure Lv (lt:Keyed→Keyed→Bool)(a b out:Array Keyed)(i j:Nat):Prop where
 m:Ux lt a b out i j
 ia:i+1<a.size
 jb:j<b.size
theorem Lv.sz {out:Array Keyed}{i j:Nat}(x:Lv lt a b out i j):out.size=i+j:=by
 have h1:=x.ia
 have h2:=x.jb
 have:=Mg.len x.m (by simp;exact jq ju jc ja (qA jg jj) ja qt h1) (by simp;exact jq ju jc ja jg ja qt h2)
 simpa using this
include O T
theorem gal_a {key:Keyed}{i:Nat}{Q:Option Nat→SortSt→Shared→Prop}{st:SortSt}{s:Shared}(hk:kindOf st=κ)(hI:I s)(pk:P key)(hi:i<a.size)
  (q:∀ k s',I s'→i+k≤a.size→(∀ r,r<k→∀ x,a[i+r]?=some x→kq lt x key)→(∀ x,i+k<a.size→a[i+k]?=some x→lt key x=true)→Q (some k) st s'):kasC (model prog w) A E (Jj false key a i (a.size - i) 0) Q st s:=by
 refine zr O hk hI pk (by exact jt jr (qA jw jj) jc jA jd jd (qA jc ja) qt hi qw) (fun r hr=>T.at_a (by exact oq16 hr)) (fun r t x y h1 h2 hx hy=>JR T.sa (fun x hx=>O.irr x (T.pa x hx)) (by exact jq jr (qA jc ja) (qA jc jd) ja jd qt h1) hx hy) fun k s' h' c=>q k s' h' (by have:=c.le;exact jt jE (qA jc ja) jd ja je (qA je jc) jd qt this (qx (jq ju jc ja jg ja qt hi))) (fun r hr x hx=>?_) fun x hk' hx=>?_
 ·have:=c.lo r hr
  unfold kU WL at this
  rw[hx] at this
  simpa [kq] using this
 ·have:=c.hi k (Nat.le_refl _) (by exact jt jE jg ja (qA (qA jd jc) jj) je je (qA ja jd) qt hk' qw)
  unfold kU WL at this
  rw[hx] at this
  simpa using this
theorem gal_b {key:Keyed}{j:Nat}{Q:Option Nat→SortSt→Shared→Prop}{st:SortSt}{s:Shared}(hk:kindOf st=κ)(hI:I s)(pk:P key)(hj:j<b.size)
  (q:∀ k s',I s'→j+k≤b.size→(∀ r,r<k→∀ x,b[j+r]?=some x→kq lt x key)→(∀ x,j+k<b.size→b[j+k]?=some x→kq lt key x)→Q (some k) st s'):kasC (model prog w) A E (Jj true key b j (b.size - j) 0) Q st s:=by
 refine zr O hk hI pk (by exact jt jr (qA jw jj) jc jA jd jd (qA jc ja) qt hj qw) (fun r hr=>T.at_b (by exact oq16 hr)) (fun r t x y h1 h2 hx hy=>JR T.sb (fun x hx=>O.irr x (T.pb x hx)) (by exact jq jr (qA jc ja) (qA jc jd) ja jd qt h1) hx hy) fun k s' h' c=>q k s' h' (by have:=c.le;exact jt jE (qA jc ja) jd ja je (qA je jc) jd qt this (qx (jq ju jc ja jg ja qt hj))) (fun r hr x hx=>?_) fun x hk' hx=>?_
 ·have:=c.lo r hr
  unfold kU WL at this
  rw[hx] at this
  have px:=T.pb x (List.mem_of_getElem? (jx.mp hx))
  exact O.asy x key px pk (by simpa using this)
 ·have:=c.hi k (Nat.le_refl _) (by exact jt jE jg ja (qA (qA jd jc) jj) je je (qA ja jd) qt hk' qw)
  unfold kU WL at this
  rw[hx] at this
  simpa [kq] using this
def LoQ (lt:Keyed→Keyed→Bool)(I:Shared→Prop)(a b:Array Keyed)(st:SortSt)(n:Nat)(r:Option (Array Keyed))(out:Array Keyed)(i j:Nat)(st':SortSt)(s':Shared):Prop :=
 Same st st'∧I s'∧match r with
  | some r=>Mrd (kq lt) a.toList b.toList r.toList
  | none=>Lv lt a b out i j∧n≤out.size
theorem mergeLoC {Q:Array Keyed→SortSt→Shared→Prop}{st:SortSt}{s:Shared}(hk:kindOf st=κ)(hI:I s)(ha:1≤a.size)(hb:1≤b.size)(h0:∀ x y,b[0]?=some x→a[0]?=some y→kq lt x y)
  (hl:∀ x∈b.toList,∀ y,a[a.size - 1]?=some y→kq lt x y) (q:∀ r st' s',Same st st'→I s'→Mrd (kq lt) a.toList b.toList r.toList→Q r st' s'):kasC (model prog w) A E (mergeLoT a b) Q st s:=by
 refine jo (T.at_b (i:=0) (by exact jq jO (qA jw jj) jc jj jc qt hb)) fun x0 hx0 px0=>?_
 refine jo (T.at_a (i:=0) (by exact jq jO (qA jw jj) jc jj jc qt ha)) fun y0 hy0 py0=>?_
 have m0:Ux lt a b #[x0] 0 1:=US O.toOrdP T (out:=#[]) (i:=0) (j:=0) ⟨by simp,by simp,by simp⟩ hx0 hy0 (h0 x0 y0 hx0 hy0)
 refine UE ?_
 refine kJ hx0 ?_
 extract_lets o1 i1 i2
 by_cases e1:1=b.size
 ·exact kZ (beq_iff_eq.mpr e1) (kasC_pure (q _ _ _ .rfl hI (UX T m0 e1)))
 refine kM (fun h=>e1 (beq_iff_eq.mp h)) ?_
 by_cases e2:0+1=a.size
 ·exact kZ (beq_iff_eq.mpr e2) (kasC_pure (q _ _ _ .rfl hI (Wm T m0 e2 hl)))
 refine kM (fun h=>e2 (beq_iff_eq.mp h)) ?_
 refine WG ?_
 refine kasC_bind (jS (yN (Q:=fun c st' s'=>∃ r,c.1=some r∧Same st st'∧I s'∧Mrd (kq lt) a.toList b.toList r.toList) (fun i c st' s'=>Same st st'∧I s'∧∃ out ia ib mg,c=(none,out,ia,ib,mg)∧Lv lt a b out ia ib∧i+1≤out.size)
  ⟨.rfl,hI,_,_,_,_,rfl,⟨m0,by omega,by omega⟩,Nat.le_refl 1⟩ ?_ ?_) ?_)
 ·intro F1 R1 hF1 hD1 i hY1
  intro c st' s' hi' zu24
  refine kH zu24 fun sm hI' zt23=>?_
  refine WD zt23 fun out ia ib mg zv25 zw26=>?_
  subst zv25
  refine jP zw26 fun lv hsz=>?_
  subst hF1
  refine kasC_bind (jS (yN (Q:=fun c st₂ s₂=>LoQ lt I a b st (out.size+1) c.1 c.2.1 c.2.2.1 c.2.2.2.1 st₂ s₂) (fun t c st₂ s₂=>Same st st₂∧I s₂∧∃ out' ia ib ac bc,c=(none,out',ia,ib,ac,bc)∧Lv lt a b out' ia ib∧out.size+t≤out'.size)
   ⟨sm,hI',_,_,_,_,_,rfl,lv,Nat.le_refl _⟩ ?_ ?_) ?_)
  ·intro F2 R2 hF2 hD2 t hY2
   intro c st₂ s₂ ht zy28
   refine kH zy28 fun sm₂ hI₂ zx27=>?_
   refine Z51 zx27 fun out₂ ia ib ac bc zz29 za30=>?_
   subst zz29
   refine jP za30 fun lv₂ hsz₂=>?_
   subst hF2
   have hia:=lv₂.ia
   refine jo (T.at_a (i:=ia) (by exact jq ju jg ja (qA jg jj) ja qt hia)) fun y hy py=>?_
   refine jo (T.at_b lv₂.jb) fun x hx px=>?_
   dsimp only
   refine kJ hx (kJ hy (kasC_bind (ltC O (sm₂.k.trans hk) px py hI₂ fun s₃ h₃=>?_)))
   cases hb':lt x y with
   | true =>
    dsimp only
    rw[if_pos rfl]
    refine kJ hx ?_
    have m₃:=US O.toOrdP T lv₂.m hx hy (O.asy x y px py hb')
    by_cases e3:ib+1=b.size
    ·exact kZ (beq_iff_eq.mpr e3) (kasC_pure (hD2 _ _ _ ⟨sm₂,h₃,UX T m₃ e3⟩))
    refine kM (fun h=>e3 (beq_iff_eq.mp h)) ?_
    have lv₃:Lv lt a b (out₂.push x) ia (ib+1):=⟨m₃,lv₂.ia,by have:=lv₂.jb;exact oq24 e3 this⟩
    have hs:out.size+(t+1)≤(out₂.push x).size:=by rw[Array.size_push];exact jq jr (qA jc jA) jD (qA jc ja) jd qt hsz₂
    split
    ·exact kasC_pure (hD2 _ _ _ ⟨sm₂,h₃,lv₃,show out.size+1≤(out₂.push x).size by exact jq jr jg ja (qA jc jD) ja qt hs⟩)
    ·exact kasC_pure (hY2 _ _ _ ⟨sm₂,h₃,_,_,_,_,_,rfl,lv₃,hs⟩)
   | false =>
    dsimp only
    rw[if_neg Bool.false_ne_true]
    refine kJ hy ?_
    have m₃:=ZK O.toOrdP T lv₂.m hy hx hb'
    by_cases e3:ia+1+1=a.size
    ·exact kZ (beq_iff_eq.mpr e3) (kasC_pure (hD2 _ _ _ ⟨sm₂,h₃,Wm T m₃ e3 hl⟩))
    refine kM (fun h=>e3 (beq_iff_eq.mp h)) ?_
    have lv₃:Lv lt a b (out₂.push y) (ia+1) ib:=⟨m₃,by exact oq25 hia e3,lv₂.jb⟩
    have hs:out.size+(t+1)≤(out₂.push y).size:=by rw[Array.size_push];exact jq jr (qA jc jA) jD (qA jc ja) jd qt hsz₂
    split
    ·exact kasC_pure (hD2 _ _ _ ⟨sm₂,h₃,lv₃,show out.size+1≤(out₂.push y).size by exact jq jr jg ja (qA jc jD) ja qt hs⟩)
    ·exact kasC_pure (hY2 _ _ _ ⟨sm₂,h₃,_,_,_,_,_,rfl,lv₃,hs⟩)
  ·intro c st₂ s₂ zc32
   refine kH zc32 fun sm₂ hI₂ zb31=>?_
   refine Z51 zb31 fun out₂ ia ib ac bc zd33 ze34=>?_
   subst zd33
   refine jP ze34 fun lv₂ hsz₂=>?_
   have:=lv₂.sz
   have:=lv₂.ia
   have:=lv₂.jb
   exact KS yn (qA jc (qA ja jd)) je je (qA jl jM) (qA yF jj) ja zo jd qt hsz₂ (qe (by assumption)) (by assumption) this
  ·refine UC fun G2 J hG2 hR=>?_
   subst hR
   rintro⟨r,out₂,ia,ib,ac,bc⟩ st₂ s₂
   intro zf35
   refine kH zf35 fun sm₂ hI₂ h₂=>?_
   subst hG2
   cases r with
   | some r=>exact kasC_pure (hD1 _ _ _ ⟨r,rfl,sm₂,hI₂,h₂⟩)
   | none =>
    obtain⟨lv₂,hsz₂⟩:=h₂
    refine UE ?_
    refine kasC_bind (jS (yN (Q:=fun c st₂ s₂=>LoQ lt I a b st (out.size+1) c.1 c.2.1 c.2.2.1 c.2.2.2.1 st₂ s₂) (fun t c st₂ s₂=>Same st st₂∧I s₂∧∃ out' ia ib mg ac bc,c=(none,out',ia,ib,mg,ac,bc)∧Lv lt a b out' ia ib∧out.size+1+t≤out'.size)
     ⟨sm₂,hI₂,_,_,_,_,_,_,rfl,lv₂,hsz₂⟩ ?_ ?_) ?_)
    ·intro F3 R3 hF3 hD3 t hY3
     intro c st₃ s₃ ht zh37
     refine kH zh37 fun sm₃ hI₃ zg36=>?_
     refine Z61 zg36 fun out₃ ia ib mg ac bc zi38 zj39=>?_
     subst zi38
     refine jP zj39 fun lv₃ hsz₃=>?_
     subst hF3
     dsimp -zeta only
     have hia:=lv₃.ia
     have hjb:=lv₃.jb
     refine jo (T.at_b lv₃.jb) fun x hx px=>?_
     extract_lets z1 z2 z3 z4 z5 z6 z7 z8 z9 z10 z11 z12 jp
     have hj:∀ z,kasC (model prog w) A E (jp () z) R3 st₃ s₃:=by
      intro z
      refine ZH ?_
      refine kJ hx ?_
      refine kasC_bind (gal_a O T (i:=ia) (sm₃.k.trans hk) hI₃ px (by exact jq ju jg ja (qA jg jj) ja qt hia) fun k s₄ h₄ hk1 hk2 hk3=>?_)
      dsimp -zeta only
      show kasC _ _ _ _ _ (SortSt.mk' (kindOf st₃) (arrOf st₃) (pendingOf st₃) z (failedOf st₃)) _
      generalize hst:SortSt.mk' (kindOf st₃) (arrOf st₃) (pendingOf st₃) z (failedOf st₃)=st₄
      have sm₄:Same st st₄:=by rw[←hst];exact⟨sm₃.k,sm₃.a,sm₃.p,sm₃.f⟩
      clear hst
      extract_lets kk jp2 o2 i2
      have hj2:∀ (out':Array Keyed) (ia':Nat),Ux lt a b out' ia' ib→ia'+1<a.size→out₃.size≤out'.size→(∀ y,a[ia']?=some y→lt x y=true)→kasC (model prog w) A E (jp2 () out' ia') R3 st₄ s₄:=by
       intro out' ia' m' hia' hs' hlt
       refine jo (T.at_a (i:=ia') (by exact jq ju jg ja (qA jg jj) ja qt hia')) fun y hy py=>?_
       have m₅:=US O.toOrdP T m' hx hy (O.asy x y px py (hlt y hy))
       refine kJ hx ?_
       extract_lets o5
       by_cases e5:ib+1=b.size
       ·exact kZ (beq_iff_eq.mpr e5) (kasC_pure (hD3 _ _ _ ⟨sm₄,h₄,UX T m₅ e5⟩))
       refine kM (fun h=>e5 (beq_iff_eq.mp h)) ?_
       refine kJ hy ?_
       refine kasC_bind (gal_b O T (j:=ib+1) (sm₄.k.trans hk) h₄ py (by exact oq26 hjb e5) fun k₅ s₅ h₅ hk4 hk5 hk6=>?_)
       dsimp -zeta only
       extract_lets bb jp3 o6 i6
       have hj3:∀ (out':Array Keyed) (ib':Nat),Ux lt a b out' ia' ib'→ib'<b.size→o5.size≤out'.size→(∀ y',b[ib']?=some y'→kq lt y y')→kasC (model prog w) A E (jp3 () out' ib') R3 st₄ s₅:=by
        intro out'' ib'' m'' hib hs'' hle
        refine jo (T.at_b hib) fun y' hy' py'=>?_
        have m₇:=ZK O.toOrdP T m'' hy hy' (hle y' hy')
        refine kJ hy ?_
        extract_lets o7 i7
        by_cases e7:ia'+1+1=a.size
        ·exact kZ (beq_iff_eq.mpr e7) (kasC_pure (hD3 _ _ _ ⟨sm₄,h₅,Wm T m₇ e7 hl⟩))
        refine kM (fun h=>e7 (beq_iff_eq.mp h)) ?_
        have lv₇:Lv lt a b (out''.push y) (ia'+1) ib'':=⟨m₇,by exact oq25 hia' e7,hib⟩
        have hs₇:out.size+1+(t+1)≤(out''.push y).size:=by
         rw[Array.size_push]
         have:o5.size=out'.size+1:=Array.size_push _
         exact yS yn (qA jg jA) jD (qA jg ja) je je jl jM jd yF jM qt hsz₃ hs' hs'' (qi this)
        split
        ·exact kasC_pure (hD3 _ _ _ ⟨sm₄,h₅,lv₇,show out.size+1≤(out''.push y).size by exact jq jr jg ja (qA jg jD) ja qt hs₇⟩)
        ·exact kasC_pure (hY3 _ _ _ ⟨sm₄,h₅,_,_,_,_,_,_,rfl,lv₇,hs₇⟩)
       clear_value jp3
       by_cases hk0:k₅>0
       ·rw[if_pos hk0]
        have m₆:=many_b O.toOrdP T m₅ hy hk5
        by_cases e6:ib+1+k₅=b.size
        ·exact kZ (beq_iff_eq.mpr e6) (kasC_pure (hD3 _ _ _ ⟨sm₄,h₅,UX T m₆ e6⟩))
        ·refine kM (fun h=>e6 (beq_iff_eq.mp h)) ?_
         exact hj3 _ _ m₆ (show ib+1+k₅<b.size by exact oq27 hk4 e6) (by show o5.size≤(o5++b.extract z12 (z12+k₅)).size;rw[Array.size_append];exact kg ju jc (qA jc ja) qt ) fun y' hy'=>hk6 y' (by exact oq27 hk4 e6) hy'
       ·rw[if_neg hk0]
        obtain rfl:k₅=0:=by exact qa (qm hk0) (kg jO jw jc qt )
        exact hj3 _ _ m₅ (show ib+1<b.size by exact oq28 e5 hk4) (Nat.le_refl _) fun y' hy'=>hk6 y' (by exact oq29 e5 hk4) hy'
      clear_value jp2
      by_cases hk0:k>0
      ·rw[if_pos hk0]
       have m₅:=many_a O.toOrdP T lv₃.m hx hk2
       by_cases e5:ia+k+1=a.size
       ·exact kZ (beq_iff_eq.mpr e5) (kasC_pure (hD3 _ _ _ ⟨sm₄,h₄,Wm T m₅ e5 hl⟩))
       refine kM (fun h=>e5 (beq_iff_eq.mp h)) ?_
       by_cases e6:ia+k=a.size
       ·exact kZ (beq_iff_eq.mpr e6) (kasC_pure (hD3 _ _ _ ⟨sm₄,h₄,done_a T m₅ e6⟩))
       refine kM (fun h=>e6 (beq_iff_eq.mp h)) ?_
       exact hj2 _ _ m₅ (show ia+k+1<a.size by exact oq30 hk1 e5 e6) (by show out₃.size≤(out₃++a.extract ia (ia+k)).size;rw[Array.size_append];exact kg ju jc (qA jc ja) qt ) fun y hy=>hk3 y (by exact oq31 hk1 e6) hy
      ·rw[if_neg hk0]
       obtain rfl:k=0:=by exact qa (qm hk0) (kg jO jw jc qt )
       exact hj2 _ _ lv₃.m lv₃.ia (Nat.le_refl _) fun y hy=>hk3 y (by exact jq ju (qA (qA jc jw) jj) ja (qA jg jj) ja qt hia) hy
     clear_value jp
     split
     ·exact hj _
     ·exact hj _
    ·intro c st₃ s₃ zl41
     refine kH zl41 fun sm₃ hI₃ zk40=>?_
     refine Z61 zk40 fun out₃ ia ib mg ac bc zm42 zn43=>?_
     subst zm42
     refine jP zn43 fun lv₃ hsz₃=>?_
     have:=lv₃.sz
     have:=lv₃.ia
     have:=lv₃.jb
     exact KS yn (qA jg (qA ja jd)) je je (qA jl jM) (qA yF jj) ja zo jd qt hsz₃ (qe (by assumption)) (by assumption) this
    ·refine UC fun G3 J hG3 hR=>?_
     subst hR
     rintro⟨r,out₃,ia,ib,mg,ac,bc⟩ st₃ s₃
     intro zo44
     refine kH zo44 fun sm₃ hI₃ h₃=>?_
     subst hG3
     cases r with
     | some r=>exact kasC_pure (hD1 _ _ _ ⟨r,rfl,sm₃,hI₃,h₃⟩)
     | none =>
      refine ZH ?_
      exact kasC_pure (hY1 _ _ _ ⟨⟨sm₃.k,sm₃.a,sm₃.p,sm₃.f⟩,hI₃,_,_,_,_,rfl,h₃.1,Nat.le_trans (show i+1+1≤out.size+1 by exact jq ju (qA jg jj) jA jg ja qt hsz) h₃.2⟩)
 ·intro c st' s' zq46
  refine kH zq46 fun sm hI' zp45=>?_
  refine WD zp45 fun out ia ib mg zr47 zs48=>?_
  subst zr47
  refine jP zs48 fun lv hsz=>?_
  have:=lv.sz
  have:=lv.ia
  have:=lv.jb
  exact KS ka (qA (qA jc ja) jj) jd jd (qA je jl) (qA wG jj) jc yF ja qt hsz (qe (by assumption)) (by assumption) this
 ·rintro⟨c,_⟩ st' s'
  intro zv51
  refine jo zv51 fun r zt49 zu50=>?_
  subst zt49
  refine kH zu50 fun sm hI' mr=>?_
  exact kasC_pure (q r st' s' sm hI' mr)
end
section
variable {α:Type}{l:List α}{n k:Nat}
theorem ze (h:n≤l.length):l.reverse.drop (l.length - n)=(l.take n).reverse:=by
 rw[List.drop_reverse];congr 2;exact qa (jt jE jc ja jd (qA je ja) (qA jc je) jd qt qw (qx (qu))) (jt jE jc ja (qA jd jc) je je (qA ja jd) qt (qx (h)) qw)
theorem take_rev (h:n≤l.length)(hk:k≤n):(l.reverse.drop (l.length - n)).take (n - k)=((l.take n).drop k).reverse:=by
 rw[ze h,List.take_reverse,List.length_take]
 congr 2;exact oq32 h hk
theorem Mrd.rev {le:α→α→Prop}{a b r:List α}(m:Mrd (fun x y=>le y x) a.reverse b.reverse r):Mrd le a b r.reverse :=
 ⟨(List.reverse_perm r).trans (m.perm.trans ((List.reverse_perm a).append (List.reverse_perm b))),List.pairwise_reverse.mpr m.srt⟩
end
section
variable {lt:Keyed→Keyed→Bool}{P:Keyed→Prop}{a b out:Array Keyed}{na nb:Nat}
theorem zq (h1:1≤na)(h2:na≤a.size):a.reverse[a.size - na]?=a[na - 1]?:=by
 rw[Array.getElem?_reverse (by exact jt jr jg ja jj jd (qA jc jd) ja qt h1 (qx (h2)))]
 congr 1;exact oq33 h2
theorem Jm:(a.extract 0 na).toList=a.toList.take na:=by
 have:=zj (xs:=a) (i:=0) (k:=na)
 rw[Nat.zero_add] at this
 rw[this,List.drop_zero]
abbrev ltR (lt:Keyed→Keyed→Bool):Keyed→Keyed→Bool:=fun x y=>lt y x
theorem Two2.rev (T:Two2 lt P a b):Two2 (ltR lt) P a.reverse b.reverse:=by
 refine⟨fun x hx=>T.pa x ?_,fun x hx=>T.pb x ?_,?_,?_⟩
 ·rw[Array.toList_reverse] at hx;exact List.mem_reverse.mp hx
 ·rw[Array.toList_reverse] at hx;exact List.mem_reverse.mp hx
 ·rw[Array.toList_reverse];exact List.pairwise_reverse.mpr T.sa
 ·rw[Array.toList_reverse];exact List.pairwise_reverse.mpr T.sb
abbrev MgH (lt:Keyed→Keyed→Bool)(a b out:Array Keyed)(na nb:Nat):Prop:=Ux (ltR lt) a.reverse b.reverse out (a.size - na) (b.size - nb)
theorem hi_end (T:Two2 lt P a b)(m:MgH lt a b out na nb)(ha:na≤a.size)(hb:nb≤b.size)(h:∀ x∈b.toList.take nb,∀ y∈a.toList.take na,kq lt y x):Mrd (kq lt) a.toList b.toList (a.extract 0 na++b.extract 0 nb++out.reverse).toList:=by
 have e1:a.reverse.toList.drop (a.size - na)=(a.toList.take na).reverse:=by rw[Array.toList_reverse];exact ze (by simpa using ha)
 have e2:b.reverse.toList.drop (b.size - nb)=(b.toList.take nb).reverse:=by rw[Array.toList_reverse];exact ze (by simpa using hb)
 have:=Mg.doneB m T.rev.sa T.rev.sb fun x hx y hy=>by
  rw[e2] at hx
  rw[e1] at hy
  exact h x (List.mem_reverse.mp hx) y (List.mem_reverse.mp hy)
 rw[e1,e2,Array.toList_reverse,Array.toList_reverse] at this
 have:=Mrd.rev (le:=kq lt) this
 rw[Array.toList_append,Array.toList_append,Jm,Jm,Array.toList_reverse]
 simpa using this
theorem hi_first (T:Two2 lt P a b)(m:MgH lt a b out na nb)(ha:na≤a.size)(hb:nb≤b.size)(h:∀ x∈a.toList.take na,∀ y∈b.toList.take nb,kq lt y x):Mrd (kq lt) a.toList b.toList (b.extract 0 nb++a.extract 0 na++out.reverse).toList:=by
 have e1:a.reverse.toList.drop (a.size - na)=(a.toList.take na).reverse:=by rw[Array.toList_reverse];exact ze (by simpa using ha)
 have e2:b.reverse.toList.drop (b.size - nb)=(b.toList.take nb).reverse:=by rw[Array.toList_reverse];exact ze (by simpa using hb)
 have:=Mg.done m T.rev.sa T.rev.sb fun x hx y hy=>by
  rw[e1] at hx
  rw[e2] at hy
  exact h x (List.mem_reverse.mp hx) y (List.mem_reverse.mp hy)
 rw[e1,e2,Array.toList_reverse,Array.toList_reverse] at this
 have:=Mrd.rev (le:=kq lt) this
 rw[Array.toList_append,Array.toList_append,Jm,Jm,Array.toList_reverse]
 simpa using this
structure LvH (lt:Keyed→Keyed→Bool)(a b out:Array Keyed)(na nb:Nat):Prop where
 m:MgH lt a b out na nb
 a0:0<na
 aa:na≤a.size
 b1:1<nb
 bb:nb≤b.size
theorem MgH.sz (m:MgH lt a b out na nb)(aa:na≤a.size)(bb:nb≤b.size):out.size+na+nb=a.size+b.size:=by
 have:=Mg.len m (by rw[Array.length_toList,Array.size_reverse];exact qu) (by rw[Array.length_toList,Array.size_reverse];exact qu)
 rw[Array.length_toList] at this
 exact qa (jV KW (qA (qA jc ja) jd) (qA je jl) jc (qA jM wc) (qA jM ja) je (qA wc jd) jl qt (qe this) (qx (aa)) (qx (bb))) (jV KW (qA jc ja) (qA (qA jd je) jl) (qA jM wc) jd jc (qA jM je) ja (qA wc jl) qt (qi this) qw qw)
variable (O:OrdP lt P)(T:Two2 lt P a b)
include O T
theorem JG {x y:Keyed}(m:MgH lt a b out na nb)(h0:1≤na)(aa:na≤a.size)(b0:1≤nb)(bb:nb≤b.size)(ha:a[na - 1]?=some x)(hb:b[nb - 1]?=some y)(h:kq lt y x):MgH lt a b (out.push x) (na - 1) nb:=by
 have:=ZK O.flip T.rev m ((zq h0 aa).trans ha) ((zq b0 bb).trans hb) h
 have e:a.size - na+1=a.size - (na - 1):=by exact qa (jV ka jg ja (qA jc jd) je yF jd je (qA ja jl) qt (qx (aa)) (qx (h0)) qw) (jV ka jc jA jd (qA ja je) je yF (qA jc jl) jd qt qw qw (qx (jt jr jc ja jd ja jg jd qt aa (qx (h0)))))
 rw[e] at this
 exact this
theorem Ur {x y:Keyed}(m:MgH lt a b out na nb)(h0:1≤na)(aa:na≤a.size)(b0:1≤nb)(bb:nb≤b.size)(hb:b[nb - 1]?=some x)(ha:a[na - 1]?=some y)(h:kq lt y x):MgH lt a b (out.push x) na (nb - 1):=by
 have:=US O.flip T.rev m ((zq b0 bb).trans hb) ((zq h0 aa).trans ha) h
 have e:b.size - nb+1=b.size - (nb - 1):=by exact qa (jV ka jg ja (qA jc jd) je yF jd je (qA ja jl) qt (qx (bb)) (qx (b0)) qw) (jV ka jc jA jd (qA ja je) je yF (qA jc jl) jd qt qw qw (qx (jt jr jc ja jd ja jg jd qt bb (qx (b0)))))
 rw[e] at this
 exact this
omit O T in
theorem rev_ex {xs:Array Keyed}{n k:Nat}(h:n≤xs.size)(hk:k≤n):(xs.extract k n).reverse.toList=(xs.reverse.extract (xs.size - n) (xs.size - n+(n - k))).toList:=by
 rw[zj,Array.toList_reverse,Array.toList_reverse]
 have e1:(xs.extract k n).toList=(xs.toList.take n).drop k:=by
  rw[Array.toList_extract,List.extract_eq_take_drop,List.drop_take]
 have e2:=take_rev (l:=xs.toList) (n:=n) (k:=k) (by simpa using h) hk
 rw[Array.length_toList] at e2
 rw[e1,e2]
theorem hi_many_a {y:Keyed}{k:Nat}(m:MgH lt a b out na nb)(aa:na≤a.size)(hk:k≤na)(b0:1≤nb)(bb:nb≤b.size)(hb:b[nb - 1]?=some y)(h:∀ r x,k≤r→r<na→a[r]?=some x→kq lt y x):MgH lt a b (out++(a.extract k na).reverse) k nb:=by
 have:=many_a (k:=na - k) O.flip T.rev m ((zq b0 bb).trans hb) fun r hr x hx=>by
  rw[Array.getElem?_reverse (by exact jV ka (qA (qA jc ja) jj) jd jA je je jl (qA jc jl) jd qt hr qu (qx (aa)))] at hx
  exact h _ x (by exact oq34 aa hr) (by exact oq35 hr) hx
 have e:a.size - na+(na - k)=a.size - k:=by exact qa (jV yn (qA jc ja) jd (qA jc je) jl (qA ja jM) je jl (qA jd jM) qt (qx (aa)) (qx (hk)) qw) (jV yn jc (qA ja jd) je (qA ja jl) jl (qA jd jM) (qA jc jM) je qt qw qw (qx (jt jr jc ja jd ja jc jd qt aa hk)))
 rw[e] at this
 show Mg _ _ _ (out++(a.extract k na).reverse).toList _ _
 rw[Array.toList_append,rev_ex aa hk,e]
 have t:Ux (ltR lt) a.reverse b.reverse (out++a.reverse.extract (a.size - na) (a.size - k)) (a.size - k) (b.size - nb):=this
 unfold Ux at t
 rw[Array.toList_append] at t
 exact t
theorem hi_many_b {y:Keyed}{k:Nat}(m:MgH lt a b out na nb)(bb:nb≤b.size)(hk:k≤nb)(a0:1≤na)(aa:na≤a.size)(ha:a[na - 1]?=some y)(h:∀ r x,k≤r→r<nb→b[r]?=some x→kq lt y x):MgH lt a b (out++(b.extract k nb).reverse) na k:=by
 have:=many_b (k:=nb - k) O.flip T.rev m ((zq a0 aa).trans ha) fun r hr x hx=>by
  rw[Array.getElem?_reverse (by exact jV ka (qA (qA jc ja) jj) jd jA je je jl (qA jc jl) jd qt hr qu (qx (bb)))] at hx
  exact h _ x (by exact oq34 bb hr) (by exact oq35 hr) hx
 have e:b.size - nb+(nb - k)=b.size - k:=by exact qa (jV yn (qA jc ja) jd (qA jc je) jl (qA ja jM) je jl (qA jd jM) qt (qx (bb)) (qx (hk)) qw) (jV yn jc (qA ja jd) je (qA ja jl) jl (qA jd jM) (qA jc jM) je qt qw qw (qx (jt jr jc ja jd ja jc jd qt bb hk)))
 rw[e] at this
 show Mg _ _ _ (out++(b.extract k nb).reverse).toList _ _
 rw[Array.toList_append,rev_ex bb hk,e]
 have t:Ux (ltR lt) a.reverse b.reverse (out++b.reverse.extract (b.size - nb) (b.size - k)) (a.size - na) (b.size - k):=this
 unfold Ux at t
 rw[Array.toList_append] at t
 exact t
end
section
variable {prog:Program}{w:World}{A:Around}{E:Value→Shared→Prop}{κ:SortKind}{lt:Keyed→Keyed→Bool}{P:Keyed→Prop}{I:Shared→Prop}
variable (O:Ord9 prog w A κ lt P I){a b:Array Keyed}(T:Two2 lt P a b)
include O T
theorem gal_a2 {key:Keyed}{n:Nat}{Q:Option Nat→SortSt→Shared→Prop}{st:SortSt}{s:Shared}(hk:kindOf st=κ)(hI:I s)(pk:P key)(h0:0<n)(hn:n≤a.size)
  (q:∀ k s',I s'→k≤n→(∀ r x,k≤r→r<n→a[r]?=some x→kq lt key x)→(∀ x,0<k→a[k - 1]?=some x→kq lt x key)→Q (some k) st s'):kasC (model prog w) A E (Jj false key a 0 n (n - 1)) Q st s:=by
 refine zr O hk hI pk (by exact qx (jq jO jj jc (qA jw jj) jc qt h0)) (fun r hr=>T.at_a (by exact jt jr (qA (qA jw jc) jj) ja jd ja jg jd qt hn hr)) (fun r t x y h1 h2 hx hy=>JR T.sa (fun x hx=>O.irr x (T.pa x hx)) (by exact jq ju (qA jw jc) (qA jw ja) jc ja qt h1) hx hy) fun k s' h' c=>q k s' h' c.le (fun r x h1 h2 hx=>?_) fun x h0 hx=>?_
 ·have:=c.hi r h1 h2
  rw[Nat.zero_add] at this
  unfold kU WL at this
  rw[hx] at this
  have px:=T.pa x (List.mem_of_getElem? (jx.mp hx))
  exact O.asy key x pk px (by simpa using this)
 ·have:=c.lo (k - 1) (by exact qx (jq jO jj jc (qA jw jj) jc qt h0))
  rw[Nat.zero_add] at this
  unfold kU WL at this
  rw[hx] at this
  simpa [kq] using this
theorem gal_b2 {key:Keyed}{n:Nat}{Q:Option Nat→SortSt→Shared→Prop}{st:SortSt}{s:Shared}(hk:kindOf st=κ)(hI:I s)(pk:P key)(h0:0<n)(hn:n≤b.size)
  (q:∀ k s',I s'→k≤n→(∀ r x,k≤r→r<n→b[r]?=some x→kq lt key x)→(∀ x,0<k→b[k - 1]?=some x→kq lt x key)→Q (some k) st s'):kasC (model prog w) A E (Jj true key b 0 n (n - 1)) Q st s:=by
 refine zr O hk hI pk (by exact qx (jq jO jj jc (qA jw jj) jc qt h0)) (fun r hr=>T.at_b (by exact jt jr (qA (qA jw jc) jj) ja jd ja jg jd qt hn hr)) (fun r t x y h1 h2 hx hy=>JR T.sb (fun x hx=>O.irr x (T.pb x hx)) (by exact jq ju (qA jw jc) (qA jw ja) jc ja qt h1) hx hy) fun k s' h' c=>q k s' h' c.le (fun r x h1 h2 hx=>?_) fun x h0 hx=>?_
 ·have:=c.hi r h1 h2
  rw[Nat.zero_add] at this
  unfold kU WL at this
  rw[hx] at this
  simpa [kq] using this
 ·have:=c.lo (k - 1) (by exact qx (jq jO jj jc (qA jw jj) jc qt h0))
  rw[Nat.zero_add] at this
  unfold kU WL at this
  rw[hx] at this
  have px:=T.pb x (List.mem_of_getElem? (jx.mp hx))
  exact O.asy x key px pk (by simpa using this)
def HiQ (lt:Keyed→Keyed→Bool)(I:Shared→Prop)(a b:Array Keyed)(st:SortSt)(n:Nat)(r:Option (Array Keyed))(na nb:Nat)(out:Array Keyed)(st':SortSt)(s':Shared):Prop :=
 Same st st'∧I s'∧match r with
  | some r=>Mrd (kq lt) a.toList b.toList r.toList
  | none=>LvH lt a b out na nb∧n≤out.size
theorem mergeHiC {Q:Array Keyed→SortSt→Shared→Prop}{st:SortSt}{s:Shared}(hk:kindOf st=κ)(hI:I s)(ha:1≤a.size)(hb:1≤b.size)(h0:∀ x y,b[0]?=some x→y∈a.toList→kq lt x y)
  (hl:∀ x∈b.toList,∀ y,a[a.size - 1]?=some y→kq lt x y) (q:∀ r st' s',Same st st'→I s'→Mrd (kq lt) a.toList b.toList r.toList→Q r st' s'):kasC (model prog w) A E (mergeHiT a b) Q st s:=by
 refine jo (T.at_a (i:=a.size - 1) (by exact qx (ha))) fun x0 hx0 px0=>?_
 refine jo (T.at_b (i:=b.size - 1) (by exact qx (hb))) fun y0 hy0 py0=>?_
 have m0:MgH lt a b #[x0] (a.size - 1) b.size:=JG O.toOrdP T (out:=#[]) (na:=a.size) (nb:=b.size) ⟨by simp,by simp,by simp⟩ ha (Nat.le_refl _) hb (Nat.le_refl _) hx0 hy0 (hl y0 (List.mem_of_getElem? (jx.mp hy0)) x0 hx0)
 have first:∀ {out:Array Keyed} {na nb:Nat},MgH lt a b out na nb→na≤a.size→nb=1→Mrd (kq lt) a.toList b.toList (b.extract 0 nb++a.extract 0 na++out.reverse).toList:=fun {out na nb} m h1 h2=>hi_first T m h1 (by exact jt ju jc ja jj ja jc jj qt hb (qe h2)) fun x hx y hy=>by
  obtain⟨r,hr⟩:=List.mem_iff_getElem?.mp hy
  have hr1:=(List.getElem?_eq_some_iff.mp hr).1
  rw[List.length_take] at hr1
  obtain rfl:r=0:=by exact oq36 h2 hr1
  rw[List.getElem?_take_of_lt (by exact oq37 hr1)] at hr
  exact h0 y x (jx.mpr hr) (List.mem_of_mem_take hx)
 have endA:∀ {out:Array Keyed} {na nb:Nat},MgH lt a b out na nb→na=0→nb≤b.size→Mrd (kq lt) a.toList b.toList (a.extract 0 na++b.extract 0 nb++out.reverse).toList:=fun {out na nb} m h1 h2=>hi_end T m (by exact jq ju jc ja jc jw qt (qe h1)) h2 fun x hx y hy=>by rw[h1] at hy;simp at hy
 have endB:∀ {out:Array Keyed} {na nb:Nat},MgH lt a b out na nb→na≤a.size→nb=0→Mrd (kq lt) a.toList b.toList (a.extract 0 na++b.extract 0 nb++out.reverse).toList:=fun {out na nb} m h1 h2=>hi_end T m h1 (by exact jq ju jc ja jc jw qt (qe h2)) fun x hx y hy=>by rw[h2] at hx;simp at hx
 refine UE ?_
 refine kJ hx0 ?_
 extract_lets o1
 by_cases e1:a.size - 1=0
 ·exact kZ (beq_iff_eq.mpr e1) (kasC_pure (q _ _ _ .rfl hI (endA m0 e1 (Nat.le_refl _))))
 refine kM (fun h=>e1 (beq_iff_eq.mp h)) ?_
 by_cases e2:b.size=1
 ·exact kZ (beq_iff_eq.mpr e2) (kasC_pure (q _ _ _ .rfl hI (first m0 (by exact qu) e2)))
 refine kM (fun h=>e2 (beq_iff_eq.mp h)) ?_
 refine WG ?_
 refine kasC_bind (jS (yN (Q:=fun c st' s'=>∃ r,c.1=some r∧Same st st'∧I s'∧Mrd (kq lt) a.toList b.toList r.toList) (fun i c st' s'=>Same st st'∧I s'∧∃ na nb out mg,c=(none,na,nb,out,mg)∧LvH lt a b out na nb∧i+1≤out.size)
  ⟨.rfl,hI,_,_,_,_,rfl,⟨m0,by exact oq38 e1,by exact qu,by exact oq39 hb e2,Nat.le_refl _⟩,Nat.le_refl 1⟩ ?_ ?_) ?_)
 ·intro F1 R1 hF1 hD1 i hY1
  intro c st' s' hi' zx53
  refine kH zx53 fun sm hI' zw52=>?_
  refine WD zw52 fun na nb out mg zy54 zz55=>?_
  subst zy54
  refine jP zz55 fun lv hsz=>?_
  subst hF1
  refine kasC_bind (jS (yN (Q:=fun c st₂ s₂=>HiQ lt I a b st (out.size+1) c.1 c.2.1 c.2.2.1 c.2.2.2.1 st₂ s₂) (fun t c st₂ s₂=>Same st st₂∧I s₂∧∃ na nb out' ac bc,c=(none,na,nb,out',ac,bc)∧LvH lt a b out' na nb∧out.size+t≤out'.size)
   ⟨sm,hI',_,_,_,_,_,rfl,lv,Nat.le_refl _⟩ ?_ ?_) ?_)
  ·intro F2 R2 hF2 hD2 t hY2
   intro c st₂ s₂ ht zb57
   refine kH zb57 fun sm₂ hI₂ za56=>?_
   refine Z51 za56 fun na nb out₂ ac bc zc58 zd59=>?_
   subst zc58
   refine jP zd59 fun lv₂ hsz₂=>?_
   subst hF2
   obtain⟨m₂,a0,aa,b1,bb⟩:=lv₂
   refine jo (T.at_a (i:=na - 1) (by exact jt jr jg ja jd ja jg jd qt aa (qx (jq jO jj jc (qA jw jj) jc qt a0)))) fun y hy py=>?_
   refine jo (T.at_b (i:=nb - 1) (by exact oq40 hb bb)) fun x hx px=>?_
   dsimp only
   refine kJ hx (kJ hy (kasC_bind (ltC O (sm₂.k.trans hk) px py hI₂ fun s₃ h₃=>?_)))
   cases hb':lt x y with
   | true =>
    dsimp only
    rw[if_pos rfl]
    refine kJ hy ?_
    have m₃:=JG O.toOrdP T m₂ a0 aa (by exact jq jO jj jc (qA jj jj) jc qt b1) bb hy hx (O.asy x y px py hb')
    by_cases e3:na - 1=0
    ·exact kZ (beq_iff_eq.mpr e3) (kasC_pure (hD2 _ _ _ ⟨sm₂,h₃,endA m₃ e3 bb⟩))
    refine kM (fun h=>e3 (beq_iff_eq.mp h)) ?_
    have lv₃:LvH lt a b (out₂.push y) (na - 1) nb:=⟨m₃,by exact oq38 e3,by exact jt jr jc ja jd ja jc jd qt aa qu,b1,bb⟩
    have hs:out.size+(t+1)≤(out₂.push y).size:=by rw[Array.size_push];exact jq jr (qA jc jA) jD (qA jc ja) jd qt hsz₂
    split
    ·exact kasC_pure (hD2 _ _ _ ⟨sm₂,h₃,lv₃,show out.size+1≤(out₂.push y).size by exact jq jr jg ja (qA jc jD) ja qt hs⟩)
    ·exact kasC_pure (hY2 _ _ _ ⟨sm₂,h₃,_,_,_,_,_,rfl,lv₃,hs⟩)
   | false =>
    dsimp only
    rw[if_neg Bool.false_ne_true]
    refine kJ hx ?_
    have m₃:=Ur O.toOrdP T m₂ a0 aa (by exact jq jO jj jc (qA jj jj) jc qt b1) bb hx hy hb'
    by_cases e3:nb - 1=1
    ·exact kZ (beq_iff_eq.mpr e3) (kasC_pure (hD2 _ _ _ ⟨sm₂,h₃,first m₃ aa e3⟩))
    refine kM (fun h=>e3 (beq_iff_eq.mp h)) ?_
    have lv₃:LvH lt a b (out₂.push x) na (nb - 1):=⟨m₃,a0,aa,by exact oq41 b1 e3,by exact jt jr jc ja jd ja jc jd qt bb qu⟩
    have hs:out.size+(t+1)≤(out₂.push x).size:=by rw[Array.size_push];exact jq jr (qA jc jA) jD (qA jc ja) jd qt hsz₂
    split
    ·exact kasC_pure (hD2 _ _ _ ⟨sm₂,h₃,lv₃,show out.size+1≤(out₂.push x).size by exact jq jr jg ja (qA jc jD) ja qt hs⟩)
    ·exact kasC_pure (hY2 _ _ _ ⟨sm₂,h₃,_,_,_,_,_,rfl,lv₃,hs⟩)
  ·intro c st₂ s₂ zf61
   refine kH zf61 fun sm₂ hI₂ ze60=>?_
   refine Z51 ze60 fun na nb out₂ ac bc zg62 zh63=>?_
   subst zg62
   refine jP zh63 fun lv₂ hsz₂=>?_
   have:=lv₂.m.sz lv₂.aa lv₂.bb
   have:=lv₂.a0
   have:=lv₂.b1
   exact WO yn (qA jc (qA ja jd)) je (qA (qA je jl) jM) (qA ja jd) (qA jw jj) jl qt hsz₂ (qe (by assumption)) (by assumption)
  ·refine UC fun G2 J hG2 hR=>?_
   subst hR
   rintro⟨r,na,nb,out₂,ac,bc⟩ st₂ s₂
   intro zi64
   refine kH zi64 fun sm₂ hI₂ h₂=>?_
   subst hG2
   cases r with
   | some r=>exact kasC_pure (hD1 _ _ _ ⟨r,rfl,sm₂,hI₂,h₂⟩)
   | none =>
    obtain⟨lv₂,hsz₂⟩:=h₂
    refine UE ?_
    refine kasC_bind (jS (yN (Q:=fun c st₂ s₂=>HiQ lt I a b st (out.size+1) c.1 c.2.1 c.2.2.1 c.2.2.2.1 st₂ s₂) (fun t c st₂ s₂=>Same st st₂∧I s₂∧∃ na nb out' mg ac bc,c=(none,na,nb,out',mg,ac,bc)∧LvH lt a b out' na nb∧out.size+1+t≤out'.size)
     ⟨sm₂,hI₂,_,_,_,_,_,_,rfl,lv₂,hsz₂⟩ ?_ ?_) ?_)
    ·intro F3 R3 hF3 hD3 t hY3
     intro c st₃ s₃ ht zk66
     refine kH zk66 fun sm₃ hI₃ zj65=>?_
     refine Z61 zj65 fun na nb out₃ mg ac bc zl67 zm68=>?_
     subst zl67
     refine jP zm68 fun lv₃ hsz₃=>?_
     subst hF3
     dsimp -zeta only
     obtain⟨m₃,a0,aa,b1,bb⟩:=lv₃
     refine jo (T.at_b (i:=nb - 1) (by exact jt jr jg ja jd ja jg jd qt bb (qx (jq jO jj jc (qA jj jj) jc qt b1)))) fun x hx px=>?_
     extract_lets z1 z2 z3 z4 z5 z6 z7 z8 z9 z10 z11 z12 jp
     have hj:∀ z,kasC (model prog w) A E (jp () z) R3 st₃ s₃:=by
      intro z
      refine ZH ?_
      refine kJ hx ?_
      refine kasC_bind (gal_a2 O T (n:=na) (sm₃.k.trans hk) hI₃ px a0 aa fun k s₄ h₄ hk1 hk2 hk3=>?_)
      dsimp -zeta only
      show kasC _ _ _ _ _ (SortSt.mk' (kindOf st₃) (arrOf st₃) (pendingOf st₃) z (failedOf st₃)) _
      generalize hst:SortSt.mk' (kindOf st₃) (arrOf st₃) (pendingOf st₃) z (failedOf st₃)=st₄
      have sm₄:Same st st₄:=by rw[←hst];exact⟨sm₃.k,sm₃.a,sm₃.p,sm₃.f⟩
      clear hst
      extract_lets kk k2 jp2 o2
      have hj2:∀ (na':Nat) (out':Array Keyed),MgH lt a b out' na' nb→0<na'→na'≤a.size→out₃.size≤out'.size→(∀ y,a[na' - 1]?=some y→kq lt y x)→kasC (model prog w) A E (jp2 () na' out') R3 st₄ s₄:=by
       intro na' out' m' hna' hna2 hs' hle
       refine jo (T.at_a (i:=na' - 1) (by exact jt jr jg ja jd ja jg jd qt hna2 (qx (jq jO jj jc (qA jw jj) jc qt hna')))) fun y hy py=>?_
       have m₅:=Ur O.toOrdP T m' hna' hna2 (by exact jq jO jj jc (qA jj jj) jc qt b1) bb hx hy (hle y hy)
       refine kJ hx ?_
       extract_lets o5
       by_cases e5:nb - 1=1
       ·exact kZ (beq_iff_eq.mpr e5) (kasC_pure (hD3 _ _ _ ⟨sm₄,h₄,first m₅ hna2 e5⟩))
       refine kM (fun h=>e5 (beq_iff_eq.mp h)) ?_
       refine kJ hy ?_
       refine kasC_bind (gal_b2 O T (n:=nb - 1) (sm₄.k.trans hk) h₄ py (by exact jt ju (qA jw jj) jc (qA jj jj) ja ja jg qt b1 qw) (by exact jt jr jc ja jd ja jc jd qt bb qu) fun k₅ s₅ h₅ hk4 hk5 hk6=>?_)
       dsimp -zeta only
       extract_lets bb3 b4 jp3 o6 n6
       have hj3:∀ (nb':Nat) (out'':Array Keyed),MgH lt a b out'' na' nb'→1<nb'→nb'≤b.size→o5.size≤out''.size→(∀ y',b[nb' - 1]?=some y'→kq lt y' y)→kasC (model prog w) A E (jp3 () nb' out'') R3 st₄ s₅:=by
        intro nb' out'' m'' hnb hnb2 hs'' hle'
        refine jo (T.at_b (i:=nb' - 1) (by exact jt jr jg ja jd ja jg jd qt hnb2 (qx (jq jO jj jc (qA jj jj) jc qt hnb)))) fun y' hy' py'=>?_
        have m₇:=JG O.toOrdP T m'' hna' hna2 (by exact jq jO jj jc (qA jj jj) jc qt hnb) hnb2 hy hy' (hle' y' hy')
        refine kJ hy ?_
        extract_lets o7
        by_cases e7:na' - 1=0
        ·exact kZ (beq_iff_eq.mpr e7) (kasC_pure (hD3 _ _ _ ⟨sm₄,h₅,endA m₇ e7 hnb2⟩))
        refine kM (fun h=>e7 (beq_iff_eq.mp h)) ?_
        have lv₇:LvH lt a b (out''.push y) (na' - 1) nb':=⟨m₇,by exact oq38 e7,by exact jt jr jc ja jd ja jc jd qt hna2 qu,hnb,hnb2⟩
        have hs₇:out.size+1+(t+1)≤(out''.push y).size:=by
         rw[Array.size_push]
         have:o5.size=out'.size+1:=Array.size_push _
         exact yS yn (qA jg jA) jD (qA jg ja) je je jl jM jd yF jM qt hsz₃ hs' hs'' (qi this)
        split
        ·exact kasC_pure (hD3 _ _ _ ⟨sm₄,h₅,lv₇,show out.size+1≤(out''.push y).size by exact jq jr jg ja (qA jg jD) ja qt hs₇⟩)
        ·exact kasC_pure (hY3 _ _ _ ⟨sm₄,h₅,_,_,_,_,_,_,rfl,lv₇,hs₇⟩)
       clear_value jp3
       by_cases hk0:nb - 1 - k₅>0
       ·refine kZ hk0 ?_
        have m₆:=hi_many_b O.toOrdP T m₅ (by exact jt jr jc ja jd ja jc jd qt bb qu) hk4 hna' hna2 hy hk5
        by_cases e6:k₅=1
        ·exact kZ (beq_iff_eq.mpr e6) (kasC_pure (hD3 _ _ _ ⟨sm₄,h₅,first m₆ hna2 e6⟩))
        refine kM (fun h=>e6 (beq_iff_eq.mp h)) ?_
        by_cases e7:k₅=0
        ·exact kZ (beq_iff_eq.mpr e7) (kasC_pure (hD3 _ _ _ ⟨sm₄,h₅,endB m₆ hna2 e7⟩))
        refine kM (fun h=>e7 (beq_iff_eq.mp h)) ?_
        exact hj3 _ _ m₆ (by exact oq42 e6 e7) (by exact oq43 bb hk0) (by show o5.size≤(o5++(b.extract k₅ z12).reverse).size;rw[Array.size_append];exact kg ju jc (qA jc ja) qt ) fun y' hy'=>hk6 y' (by exact oq44 e7) hy'
       ·refine kM hk0 ?_
        obtain rfl:k₅=nb - 1:=by exact qa (hk4) (jt jr jc ja jd jw jc (qA jd ja) qt (qm hk0) qw)
        exact hj3 _ _ m₅ (show 1<nb - 1 by exact oq41 b1 e5) (show nb - 1≤b.size by exact jt jr jc ja jd ja jc jd qt bb qu) (Nat.le_refl _) fun y' hy'=>hk6 y' (by exact jt ju (qA jw jj) jc (qA jj jj) ja ja jg qt b1 qw) hy'
      clear_value jp2
      by_cases hk0:na - k>0
      ·refine kZ hk0 ?_
       have m₅:=hi_many_a O.toOrdP T m₃ aa hk1 (by exact jq jO jj jc (qA jj jj) jc qt b1) bb hx hk2
       by_cases e5:k=0
       ·exact kZ (beq_iff_eq.mpr e5) (kasC_pure (hD3 _ _ _ ⟨sm₄,h₄,endA m₅ e5 bb⟩))
       refine kM (fun h=>e5 (beq_iff_eq.mp h)) ?_
       exact hj2 _ _ m₅ (by exact oq44 e5) (by exact oq45 aa hk0) (by show out₃.size≤(out₃++(a.extract k na).reverse).size;rw[Array.size_append];exact kg ju jc (qA jc ja) qt ) fun y hy=>hk3 y (by exact oq44 e5) hy
      ·refine kM hk0 ?_
       obtain rfl:k=na:=by exact qa (hk1) (jt jr jc ja jd jw jc (qA jd ja) qt (qm hk0) qw)
       exact hj2 _ _ m₃ a0 aa (Nat.le_refl _) fun y hy=>hk3 y a0 hy
     clear_value jp
     split
     ·exact hj _
     ·exact hj _
    ·intro c st₃ s₃ zo70
     refine kH zo70 fun sm₃ hI₃ zn69=>?_
     refine Z61 zn69 fun na nb out₃ mg ac bc zp71 zq72=>?_
     subst zp71
     refine jP zq72 fun lv₃ hsz₃=>?_
     have:=lv₃.m.sz lv₃.aa lv₃.bb
     have:=lv₃.a0
     have:=lv₃.b1
     exact kc yn (qA jg (qA ja jd)) je (qA (qA je jl) jM) (qA ja jd) qt hsz₃ (qe (by assumption))
    ·refine UC fun G3 J hG3 hR=>?_
     subst hR
     rintro⟨r,na,nb,out₃,mg,ac,bc⟩ st₃ s₃
     intro zr73
     refine kH zr73 fun sm₃ hI₃ h₃=>?_
     subst hG3
     cases r with
     | some r=>exact kasC_pure (hD1 _ _ _ ⟨r,rfl,sm₃,hI₃,h₃⟩)
     | none =>
      refine ZH ?_
      exact kasC_pure (hY1 _ _ _ ⟨⟨sm₃.k,sm₃.a,sm₃.p,sm₃.f⟩,hI₃,_,_,_,_,rfl,h₃.1,Nat.le_trans (show i+1+1≤out.size+1 by exact jq ju (qA jg jj) jA jg ja qt hsz) h₃.2⟩)
 ·intro c st' s' zt75
  refine kH zt75 fun sm hI' zs74=>?_
  refine WD zs74 fun na nb out mg zu76 zv77=>?_
  subst zu76
  refine jP zv77 fun lv hsz=>?_
  have:=lv.m.sz lv.aa lv.bb
  have:=lv.a0
  have:=lv.b1
  exact kc ka (qA (qA jc ja) jj) jd (qA (qA jd je) jl) (qA jc ja) qt hsz (qe (by assumption))
 ·rintro⟨c,_⟩ st' s'
  intro zy80
  refine jo zy80 fun r zw78 zx79=>?_
  subst zw78
  refine kH zx79 fun sm hI' mr=>?_
  exact kasC_pure (q r st' s' sm hI' mr)
end
section
variable {α:Type}
theorem Yl (o:Nat):∀ (m:List α) (n:Nat) (X:Array α),o+n+m.length≤X.size→((m.zipIdx n).foldl (fun a x=>match x with | (p,j)=>a.setIfInBounds (o+j) p) X).toList=X.toList.take (o+n)++m++X.toList.drop (o+n+m.length)
 | [],n,X,h=>by simp
 | p::m,n,X,h=>by
  rw[List.length_cons] at h
  rw[List.zipIdx_cons,List.foldl_cons]
  have:=Yl o m (n+1) (X.setIfInBounds (o+n) p) (by rw[Array.size_setIfInBounds];exact jq jE (qA (qA jc jA) jd) je (qA (qA jc ja) jD) je qt h)
  rw[show o+(n+1)=o+n+1 by exact qa (kg ju (qA jc jA) (qA (qA jc ja) jj) qt ) (kg ju (qA (qA jc ja) jj) (qA jc jA) qt )] at this
  refine this.trans ?_
  rw[Array.toList_setIfInBounds,List.length_cons]
  have hl:o+n<X.toList.length:=by rw[Array.length_toList];exact jq jE (qA (qA jc ja) jj) jd (qA (qA jc ja) wG) jd qt h
  rw[List.take_add_one,List.getElem?_set_self hl,List.take_set_of_le (Nat.le_refl _),List.drop_set_of_lt (by exact kg jr (qA (qA jc ja) jj) (qA (qA (qA jc ja) jj) jd) qt )]
  rw[show o+n+1+m.length=o+n+(m.length+1) by exact qa (kg jr (qA (qA (qA jc ja) jj) jd) (qA (qA jc ja) jD) qt ) (kg jr (qA (qA jc ja) jD) (qA (qA (qA jc ja) jj) jd) qt )]
  simp only[Option.toList_some,List.append_assoc,List.cons_append,List.nil_append]
end
section
variable {lt:Keyed→Keyed→Bool}{P:Keyed→Prop}(O:OrdP lt P){A B:List Keyed}{k l:Nat}
include O
theorem glue (pA:∀ x∈A++B,P x)(sA:A.Pairwise (kq lt))(sB:B.Pairwise (kq lt))(H1:∀ x∈A.take k,∀ y∈B,kq lt x y)(H2:∀ x∈A,∀ y∈B.drop l,kq lt x y){r:List Keyed}(m:Mrd (kq lt) (A.drop k) (B.take l) r) :
  (A.take k++(r++B.drop l)).Perm (A++B)∧(A.take k++(r++B.drop l)).Pairwise (kq lt):=by
 have hm:∀ x,x∈r→x∈A.drop k∨x∈B.take l:=fun x hx=>List.mem_append.mp (m.perm.mem_iff.mp hx)
 refine⟨?_,List.pairwise_append.mpr ⟨sA.sublist (List.take_sublist _ _),List.pairwise_append.mpr ⟨m.srt,sB.sublist (List.drop_sublist _ _),fun x hx y hy=>?_⟩,fun x hx y hy=>?_⟩⟩
 ·have h1:(A.take k++(r++B.drop l)).Perm (A.take k++((A.drop k++B.take l)++B.drop l)):=List.Perm.append_left _ (List.Perm.append_right _ m.perm)
  refine h1.trans (List.Perm.of_eq ?_)
  rw[List.append_assoc,List.take_append_drop,←List.append_assoc,List.take_append_drop]
 ·rcases hm x hx with h | h
  ·exact H2 x (List.mem_of_mem_drop h) y hy
  ·have:=sB
   rw[←List.take_append_drop l B] at this
   exact(List.pairwise_append.mp this).2.2 x h y hy
 ·rcases List.mem_append.mp hy with hy | hy
  ·rcases hm y hy with h | h
   ·have:=sA
    rw[←List.take_append_drop k A] at this
    exact(List.pairwise_append.mp this).2.2 x hx y h
   ·exact H1 x hx y (List.mem_of_mem_take h)
  ·exact H1 x hx y (List.mem_of_mem_drop hy)
end
section
variable {prog:Program}{w:World}{Ar:Around}{E:Value→Shared→Prop}{κ:SortKind}{lt:Keyed→Keyed→Bool}{P:Keyed→Prop}{I:Shared→Prop}(O:Ord9 prog w Ar κ lt P I)
include O
theorem mergeAtC {i sa na pw sb nb pw2:Nat}{Q:Bool→SortSt→Shared→Prop}{st:SortSt}{s:Shared}{pre A B post:List Keyed}(h1:(pendingOf st)[i]?=some (sa,na,pw))(h2:(pendingOf st)[i+1]?=some (sb,nb,pw2))(hk:kindOf st=κ)(hfl:failedOf st=none)(hI:I s)
  (hX:(arrOf st).toList=pre++(A++(B++post))) (e1:pre.length=sa) (e2:A.length=na) (e3:B.length=nb) (e4:sb=sa+na) (n1:1≤na) (n2:1≤nb) (pA:∀ x∈A++B,P x) (sA:A.Pairwise (kq lt)) (sB:B.Pairwise (kq lt))
  (q:∀ (M:List Keyed) (st':SortSt) (s':Shared),I s'→M.Perm (A++B)→M.Pairwise (kq lt)→kindOf st'=κ→failedOf st'=none→(arrOf st').toList=pre++(M++post)→pendingOf st'=((pendingOf st).setIfInBounds i (sa,na+nb,pw)).eraseIdxIfInBounds (i+1)→Q true st' s') :
  kasC (model prog w) Ar E (mergeAt' i) Q st s:=by
 have gA:∀ r,r<na→(arrOf st)[sa+r]?=A[r]?:=fun r hr=>by
  rw[←Array.getElem?_toList,hX,List.getElem?_append_right (by exact jq jr jc (qA ja jd) jc ja qt (qe e1)),e1,Nat.add_sub_cancel_left,List.getElem?_append_left (by exact jt jr jg ja jd ja jg jd qt (qi e2) hr)]
 have gB:∀ r,r<nb→(arrOf st)[sb+r]?=B[r]?:=fun r hr=>by
  rw[←Array.getElem?_toList,hX,List.getElem?_append_right (by exact jt ka jc (qA ja jd) jc je (qA je jl) ja qt (qe e1) (qi e4)),List.getElem?_append_right (by exact yS KW jc ja jd je jc jl (qA je jl) jM (qA jM wc) (qA ja jd) qt (qe e1) (qe e2) (qi e4) qw),List.getElem?_append_left (by exact qp7 qc10 jg ja jd je jl jM wc ja zB (qA jd jl) qs8 wc (qA qv9 je) (qA zB qv8) (qA jc jM) qv9 qt (qi e1) (qi e2) (qi e3) (qe e4) hr (qx (jt ka jc (qA ja jd) jc je (qA je jl) ja qt (qe e1) (qi e4))) (qx (yS KW jc ja jd je jc jl (qA je jl) jM (qA jM wc) (qA ja jd) qt (qe e1) (qe e2) (qi e4) qw)))]
  congr 1;exact qa (YG qc8 jc ja jd je jl jM wc (qA jd jl) (qA zB je) (qA wc ja) (qA jc jM) zB qt (qi e1) (qi e2) (qe e4) (qx (jt ka jc (qA ja jd) jc je (qA je jl) ja qt (qe e1) (qi e4))) (qx (yS KW jc ja jd je jc jl (qA je jl) jM (qA jM wc) (qA ja jd) qt (qe e1) (qe e2) (qi e4) qw))) (YG qc8 jc ja jd je jl jM (qA je jM) wc (qA wc jc) (qA zB jd) zB (qA ja jl) qt (qe e1) (qe e2) (qi e4) qw qw)
 have atA:∀ r,r<na→∃ x,A[r]?=some x∧P x:=fun r hr=>⟨A[r],List.getElem?_eq_getElem (by exact jt jr jg ja jd ja jg jd qt (qi e2) hr),pA _ (List.mem_append_left _ (List.getElem_mem _))⟩
 have atB:∀ r,r<nb→∃ x,B[r]?=some x∧P x:=fun r hr=>⟨B[r],List.getElem?_eq_getElem (by exact jt jr jg ja jd ja jg jd qt (qi e3) hr),pA _ (List.mem_append_right _ (List.getElem_mem _))⟩
 have srt:∀ {L:List Keyed},L.Pairwise (kq lt)→(∀ x∈L,P x)→∀ (i j:Nat) x y,i≤j→L[i]?=some x→L[j]?=some y→lt y x=false:=fun {L} hL hP i j x y hij hx hy=>by
  rcases Nat.lt_or_ge i j with h | h
  ·obtain⟨a1,b1⟩:=List.getElem?_eq_some_iff.mp hx
   obtain⟨a2,b2⟩:=List.getElem?_eq_some_iff.mp hy
   have:=List.pairwise_iff_getElem.mp hL i j a1 a2 h
   rw[b1,b2] at this;exact this
  ·obtain rfl:i=j:=Nat.le_antisymm hij h
   rw[hx] at hy;cases hy
   exact O.irr x (hP x (List.mem_of_getElem? hx))
 have pA':∀ x∈A,P x:=fun x hx=>pA x (List.mem_append_left _ hx)
 have pB':∀ x∈B,P x:=fun x hx=>pA x (List.mem_append_right _ hx)
 refine jo (atB 0 (by exact jq jO (qA jw jj) jc jj jc qt n2)) fun b0 hb0 pb0=>?_
 refine jo (atA (na - 1) (by exact qx (n1))) fun al hal pal=>?_
 have leB0:∀ y∈B,kq lt b0 y:=fun y hy=>by
  obtain⟨r,hr⟩:=List.mem_iff_getElem?.mp hy
  exact srt sB pB' 0 r b0 y (Nat.zero_le _) hb0 hr
 have leAl:∀ x∈A,kq lt x al:=fun x hx=>by
  obtain⟨r,hr⟩:=List.mem_iff_getElem?.mp hx
  have:=(List.getElem?_eq_some_iff.mp hr).1
  exact srt sA pA' r (na - 1) x al (by exact jV jE jc ja jd je jg jd je jA qt (qe e2) this qw) hr hal
 have hb0':(arrOf st)[sb]?=some b0:=by have:=gB 0 (by exact jq jO (qA jw jj) jc jj jc qt n2);rw[Nat.add_zero] at this;exact this.trans hb0
 refine WG ?_
 have e0:((pendingOf st)[i]?,(pendingOf st)[i+1]?)=(some (sa,na,pw),some (sb,nb,pw2)):=by rw[h1,h2]
 show kasC _ _ _ (match ((pendingOf st)[i]?,(pendingOf st)[i+1]?) with | (some (sa,na,power),some (sb,nb,snd))=>_ | x=>_) _ _ _
 rw[e0]
 dsimp -zeta only
 refine kasC_bind (wpAny_pure ?_)
 obtain⟨st₁,hst⟩:∃ st₁:SortSt,st₁=SortSt.mk' (kindOf st) (arrOf st) (((pendingOf st).setIfInBounds i (sa,na+nb,pw)).eraseIdxIfInBounds (i+1)) (gallopOf st) (failedOf st):=⟨_,rfl⟩
 show kasC _ _ _ _ _ (SortSt.mk' (kindOf st) (arrOf st) (((pendingOf st).setIfInBounds i (sa,na+nb,pw)).eraseIdxIfInBounds (i+1)) (gallopOf st) (failedOf st)) _
 rw[←hst]
 have k1:kindOf st₁=κ:=by rw[hst];exact hk
 have k2:failedOf st₁=none:=by rw[hst];exact hfl
 have k3:arrOf st₁=arrOf st:=by rw[hst]
 have k4:pendingOf st₁=((pendingOf st).setIfInBounds i (sa,na+nb,pw)).eraseIdxIfInBounds (i+1):=by rw[hst]
 clear hst
 have keepAll:∀ s',I s'→(∀ x∈A,∀ y∈B,kq lt x y)→Q true st₁ s':=fun s' h' hAB=>q (A++B) st₁ s' h' (.refl _) (List.pairwise_append.mpr ⟨sA,sB,hAB⟩) k1 k2 (by rw[k3,hX,List.append_assoc]) k4
 refine kJ hb0' ?_
 refine kasC_bind (zr O k1 hI pb0 (by exact jq jO (qA jw jj) jc jj jc qt n1) (fun r hr=>by refine jo (atA r hr) fun x h p=>?_;exact⟨x,(gA r hr).trans h,p⟩) (fun r t x y h1 h2 hx hy=>srt sA pA' r t x y h1 ((gA r (by exact jt jr jg ja jc jd jD ja qt h1 h2)).symm.trans hx) ((gA t h2).symm.trans hy)) fun k s₁ h₁ c=>?_)
 have c1:∀ x∈A.take k,kq lt x b0:=fun x hx=>by
  obtain⟨r,hr⟩:=List.mem_iff_getElem?.mp hx
  have hrk:r<k:=by
   have:=(List.getElem?_eq_some_iff.mp hr).1
   rw[List.length_take] at this;exact YX this
  rw[List.getElem?_take_of_lt hrk] at hr
  have:=c.lo r hrk
  unfold kU WL at this
  rw[gA r (by have:=c.le;exact jt jr jg ja jg jd jd ja qt hrk this),hr] at this
  simpa [kq] using this
 have c2:∀ x∈A.drop k,kq lt b0 x:=fun x hx=>by
  obtain⟨r,hr⟩:=List.mem_iff_getElem?.mp hx
  rw[List.getElem?_drop] at hr
  have hl:=(List.getElem?_eq_some_iff.mp hr).1
  have:=c.hi (k+r) (by exact kg ju jc (qA jc ja) qt ) (by exact jt jE (qA (qA jc ja) jj) jd je jd (qA (qA jc ja) jj) je qt (qe e2) hl)
  unfold kU WL at this
  rw[gA (k+r) (by exact jt jE (qA (qA jc ja) jj) jd je jd (qA (qA jc ja) jj) je qt (qe e2) hl),hr] at this
  exact O.asy b0 x pb0 (pA' x (List.mem_of_getElem? hr)) (by simpa using this)
 have H1:∀ x∈A.take k,∀ y∈B,kq lt x y:=fun x hx y hy=>O.tr y b0 x (pB' y hy) pb0 (pA' x (List.mem_of_mem_take hx)) (leB0 y hy) (c1 x hx)
 have hkn:=c.le
 clear c
 dsimp -zeta only
 by_cases z0:na - k=0
 ·refine kZ (beq_iff_eq.mpr z0) (kasC_pure (keepAll s₁ h₁ fun x hx=>H1 x ?_))
  rw[List.take_of_length_le (by exact jV jE jc ja jc jd je jw jd (qA je ja) qt (qe e2) (qe z0) qw)];exact hx
 refine kM (fun h=>z0 (beq_iff_eq.mp h)) ?_
 have hal':(arrOf st)[sa+k+(na - k) - 1]?=some al:=by
  have:=gA (na - 1) (by exact oq46 z0)
  rw[←hal,←this]
  congr 1;exact oq47 z0
 refine kJ hal' ?_
 refine kasC_bind (zr O k1 h₁ pal (by exact qx (n2)) (fun r hr=>by refine jo (atB r hr) fun x h p=>?_;exact⟨x,(gB r hr).trans h,p⟩) (fun r t x y h1 h2 hx hy=>srt sB pB' r t x y h1 ((gB r (by exact jt jr jg ja jc jd jD ja qt h1 h2)).symm.trans hx) ((gB t h2).symm.trans hy)) fun l s₂ h₂ c=>?_)
 have d1:∀ x∈B.take l,kq lt x al:=fun x hx=>by
  obtain⟨r,hr⟩:=List.mem_iff_getElem?.mp hx
  have hrk:r<l:=by
   have:=(List.getElem?_eq_some_iff.mp hr).1
   rw[List.length_take] at this;exact YX this
  rw[List.getElem?_take_of_lt hrk] at hr
  have:=c.lo r hrk
  unfold kU WL at this
  rw[gB r (by have:=c.le;exact jt jr jg ja jg jd jd ja qt hrk this),hr] at this
  exact O.asy x al (pB' x (List.mem_of_getElem? hr)) pal (by simpa using this)
 have d2:∀ x∈B.drop l,kq lt al x:=fun x hx=>by
  obtain⟨r,hr⟩:=List.mem_iff_getElem?.mp hx
  rw[List.getElem?_drop] at hr
  have hl:=(List.getElem?_eq_some_iff.mp hr).1
  have:=c.hi (l+r) (by exact kg ju jc (qA jc ja) qt ) (by exact jt jE (qA (qA jc ja) jj) jd je jd (qA (qA jc ja) jj) je qt (qe e3) hl)
  unfold kU WL at this
  rw[gB (l+r) (by exact jt jE (qA (qA jc ja) jj) jd je jd (qA (qA jc ja) jj) je qt (qe e3) hl),hr] at this
  simpa [kq] using this
 have H2:∀ x∈A,∀ y∈B.drop l,kq lt x y:=fun x hx y hy=>O.tr y al x (pB' y (List.mem_of_mem_drop hy)) pal (pA' x hx) (d2 y hy) (leAl x hx)
 have hln:=c.le
 clear c
 dsimp -zeta only
 by_cases y0:l=0
 ·refine kZ (beq_iff_eq.mpr y0) (kasC_pure (keepAll s₂ h₂ fun x hx y hy=>H2 x hx y ?_))
  rw[y0,List.drop_zero];exact hy
 refine kM (fun h=>y0 (beq_iff_eq.mp h)) ?_
 extract_lets xx yy jp
 have dp:∀ j,(arrOf st).toList.drop (sa+j)=(A++(B++post)).drop j:=fun j=>by rw[hX,←e1,List.drop_length_add_append]
 have ex:xx.toList=A.drop k:=by
  show((arrOf st).extract (sa+k) sb).toList=_
  rw[show sb=sa+k+(na - k) by exact oq48 e4 z0,zj,dp,List.drop_append_of_le_length (by exact oq49 e2 z0),List.take_append_of_le_length (by rw[List.length_drop];exact oq50 e2),List.take_of_length_le (by rw[List.length_drop];exact oq51 e2)]
 have ey:yy.toList=B.take l:=by
  show((arrOf st).extract sb (sb+l)).toList=_
  rw[zj,e4,dp,List.drop_append_of_le_length (by exact qi e2),List.drop_of_length_le (by exact qe e2),List.nil_append,List.take_append_of_le_length (by exact jt jr jc ja jd ja jc jd qt (qi e3) hln)]
 have T:Two2 lt P xx yy:=by
  refine⟨fun x hx=>?_,fun x hx=>?_,?_,?_⟩
  ·rw[ex] at hx;exact pA' x (List.mem_of_mem_drop hx)
  ·rw[ey] at hx;exact pB' x (List.mem_of_mem_take hx)
  ·rw[ex];exact sA.sublist (List.drop_sublist _ _)
  ·rw[ey];exact sB.sublist (List.take_sublist _ _)
 have sx:xx.size=na - k:=by rw[←Array.length_toList,ex,List.length_drop,e2]
 have sy:yy.size=l:=by rw[←Array.length_toList,ey,List.length_take];exact oq52 e3 hln
 have hb:∀ x,yy[0]?=some x→x=b0:=fun x hx=>by
  have:=jx.mp hx
  rw[ey,List.getElem?_take_of_lt (by exact oq44 y0),hb0] at this
  exact(Option.some.inj this).symm
 have h0:∀ x y,yy[0]?=some x→y∈xx.toList→kq lt x y:=fun x y hx hy=>by
  rw[hb x hx];rw[ex] at hy;exact c2 y hy
 have hl:∀ x∈yy.toList,∀ y,xx[xx.size - 1]?=some y→kq lt x y:=fun x hx y hy=>by
  rw[ey] at hx
  have:=jx.mp hy
  rw[ex,List.getElem?_drop,sx,show k+(na - k - 1)=na - 1 by exact oq53 z0,hal] at this
  cases this
  exact d1 x hx
 have hj:∀ (r:Array Keyed) (st₂:SortSt) (s₃:Shared),Same st₁ st₂→I s₃→Mrd (kq lt) xx.toList yy.toList r.toList→kasC (model prog w) Ar E (jp r) Q st₂ s₃:=by
  intro r st₂ s₃ sm h₃ m
  rw[ex,ey] at m
  obtain⟨g1,g2⟩:=glue O.toOrdP pA sA sB H1 H2 m
  refine ZH ?_
  refine WG ?_
  refine kasC_pure ?_
  have hlen:r.toList.length=(na - k)+l:=by
   have:=m.perm.length_eq
   rw[List.length_append,List.length_drop,List.length_take] at this;exact oq54 e2 e3 hln this
  have hsz:(arrOf st).size=pre.length+(A.length+(B.length+post.length)):=by rw[←Array.length_toList,hX];simp
  have key:=q (A.take k++(r.toList++B.drop l)) (SortSt.mk' (kindOf st₂) (r.toList.zipIdx.foldl (fun a x=>match x with | (p,j)=>a.setIfInBounds (sa+k+j) p) (arrOf st₂)) (pendingOf st₂) (gallopOf st₂) (failedOf st₂)) s₃ h₃ g1 g2 (sm.k.trans k1) (sm.f.trans k2) ?_ (sm.p.trans k4)
  ·have ef:(failedOf st₂).isNone=true:=by rw[sm.f.trans k2];rfl
   show Q (failedOf st₂).isNone (SortSt.mk' (kindOf st₂) (r.toList.zipIdx.foldl (fun a x=>match x with | (p,j)=>a.setIfInBounds (sa+k+j) p) (arrOf st₂)) (pendingOf st₂) (gallopOf st₂) (failedOf st₂)) s₃
   rw[ef]
   exact key
  ·show(r.toList.zipIdx.foldl (fun a x=>match x with | (p,j)=>a.setIfInBounds (sa+k+j) p) (arrOf st₂)).toList=_
   rw[Yl (sa+k) r.toList 0 (arrOf st₂) (by rw[sm.a,k3];exact oq55 e1 e2 e3 z0 hln hlen hsz),sm.a,k3,Nat.add_zero,hlen,show sa+k+(na - k+l)=sa+(na+l) by exact oq56 z0,dp,hX]
   rw[List.take_append (i:=sa+k),e1,Nat.add_sub_cancel_left,List.take_of_length_le (by exact jq jr jc (qA ja jd) jc ja qt (qe e1)),List.take_append_of_le_length (by exact oq49 e2 z0)]
   rw[List.drop_append (i:=na+l),List.drop_of_length_le (by exact jq jr jc (qA ja jd) jc ja qt (qe e2)),e2,Nat.add_sub_cancel_left,List.nil_append,List.drop_append_of_le_length (by exact jt jr jc ja jd ja jc jd qt (qi e3) hln)]
   simp only[List.append_assoc]
 clear_value jp
 by_cases hc:na - k≤l
 ·refine kZ hc (kasC_bind (mergeLoC O T k1 h₂ (by exact oq57 z0 sx) (by exact oq58 y0 sy) (fun x y hx hy=>h0 x y hx (List.mem_of_getElem? (jx.mp hy))) hl fun r st₂ s₃ sm h₃ m=>hj r st₂ s₃ sm h₃ m))
 ·refine kM hc (kasC_bind (mergeHiC O T k1 h₂ (by exact jt jr jj jc ja jc jD ja qt (qi sx) (qn hc)) (by exact oq58 y0 sy) h0 hl fun r st₂ s₃ sm h₃ m=>hj r st₂ s₃ sm h₃ m))
end
section
variable {M:Model}{A:Around}{E:Value→Shared→Prop}{σ β:Type}
theorem YR {a b:Nat}{c:β}{f:Nat→β→StateT σ Sem (ForInStep β)}{Q:β→σ→Shared→Prop}{st:σ}{s:Shared}(I:Nat→β→σ→Shared→Prop)(h0:I 0 c st s)
  (step:∀ i c st s,i<b - a→I i c st s→kasC M A E (f (a+i) c) (fun r st' s'=>match r with | .done c'=>Q c' st' s' | .yield c'=>I (i+1) c' st' s') st s)
  (fin:∀ c st s,I (b - a) c st s→Q c st s):kasC M A E (forIn [a:b] c f) Q st s:=by
 refine kasC_range ?_
 have key:∀ (k i:Nat) c st s,i+k=b - a→I i c st s→kasC M A E (forIn (List.range' (a+i) k) c f) Q st s:=by
  intro k
  induction k with
  | zero=>intro i c st s e h;exact kasC_nil (fin c st s (by rw[←e];exact h))
  | succ k ih =>
   intro i c st s e h
   rw[List.range'_succ]
   refine kasC_cons (wpAny_mono (step i c st s (by exact jq jr jg ja (qA jc jD) ja qt (qe e)) h) (fun r s' h'=>?_) fun J J e=>e)
   obtain⟨r,st'⟩:=r
   cases r with
   | done c'=>exact h'
   | yield c'=>exact ih (i+1) c' st' s' (by exact qa (jq jr (qA jg ja) jd (qA jc jA) jd qt (qe e)) (jq jr jc (qA jA jd) jc (qA ja jD) qt (qi e))) h'
 exact key (b - a) 0 c st s (by exact qa (kg jO (qA jw jc) jc qt ) (kg jO jc (qA jw jc) qt )) h0
end
section
variable {lt:Keyed→Keyed→Bool}{P:Keyed→Prop}{X Y:Array Keyed}{lo n i j k:Nat}
def NL (lt:Keyed→Keyed→Bool)(X:Array Keyed)(i j:Nat):Prop:=∀ x y,X[i]?=some x→X[j]?=some y→lt x y=false
def YA (lt:Keyed→Keyed→Bool)(X:Array Keyed)(lo n:Nat):Prop:=∀ i j,lo≤i→i≤j→j<lo+n→NL lt X j i
def Dsc (lt:Keyed→Keyed→Bool)(X:Array Keyed)(lo n:Nat):Prop:=∀ i j,lo≤i→i≤j→j<lo+n→NL lt X i j
def Eqv (lt:Keyed→Keyed→Bool)(X:Array Keyed)(i j:Nat):Prop:=∀ p q,i≤p→p<j→i≤q→q<j→NL lt X p q
theorem NL.congr {Z:Array Keyed}{i' j':Nat}(h:NL lt X i j)(h1:Z[i']?=X[i]?)(h2:Z[j']?=X[j]?):NL lt Z i' j':=fun x y hx hy=>h x y (h1.symm.trans hx) (h2.symm.trans hy)
variable (O:OrdP lt P)(pX:∀ x∈X.toList,P x)
include O pX
theorem NL.tr (hj:j<X.size)(h1:NL lt X i j)(h2:NL lt X j k):NL lt X i k:=fun x z hx hz=>by
 have hy:X[j]?=some X[j]:=Array.getElem?_eq_getElem hj
 have m:∀ {t:Nat} {v:Keyed},X[t]?=some v→P v:=fun h=>pX _ (List.mem_of_getElem? (jx.mp h))
 exact O.tr x X[j] z (m hx) (m hy) (m hz) (h1 x _ hx hy) (h2 _ z hy hz)
theorem NL.refl:NL lt X i i:=fun x y hx hy=>by rw[hx] at hy;cases hy;exact O.irr x (pX _ (List.mem_of_getElem? (jx.mp hx)))
theorem asc_ext (h:YA lt X lo n)(hn:1≤n)(hs:lo+n≤X.size)(h1:NL lt X (lo+n) (lo+n - 1)):YA lt X lo (n+1):=fun i j hi hij hj=>by
 rcases Nat.lt_or_ge j (lo+n) with h' | h'
 ·exact h i j hi hij h'
 ·obtain rfl:j=lo+n:=by exact qa (jq jr jc (qA ja jd) jg (qA ja jD) qt hj) (h')
  rcases Nat.lt_or_ge i (lo+n) with h'' | h''
  ·exact NL.tr O pX (by exact jt jE jg ja (qA jd je) ja jg (qA jd je) qt hs (qx (jq jr jj (qA jc ja) jD (qA jc ja) qt h''))) h1 (h i (lo+n - 1) hi (by exact jt jE jc ja jg (qA jd je) (qA jd je) jA qt h'' qw) (by exact qx (jq jr jj (qA jc ja) jD (qA jc ja) qt h'')))
  ·obtain rfl:i=lo+n:=by exact qa (hij) (h'')
   exact NL.refl O pX
theorem JQ (h:Dsc lt X lo n)(hn:1≤n)(hs:lo+n≤X.size)(h1:NL lt X (lo+n - 1) (lo+n)):Dsc lt X lo (n+1):=fun i j hi hij hj=>by
 rcases Nat.lt_or_ge j (lo+n) with h' | h'
 ·exact h i j hi hij h'
 ·obtain rfl:j=lo+n:=by exact qa (jq jr jc (qA ja jd) jg (qA ja jD) qt hj) (h')
  rcases Nat.lt_or_ge i (lo+n) with h'' | h''
  ·exact NL.tr O pX (by exact jt jE jg ja (qA jd je) ja jg (qA jd je) qt hs (qx (jq jr jj (qA jc ja) jD (qA jc ja) qt h''))) (h i (lo+n - 1) hi (by exact jt jE jc ja jg (qA jd je) (qA jd je) jA qt h'' qw) (by exact qx (jq jr jj (qA jc ja) jD (qA jc ja) qt h''))) h1
  ·obtain rfl:i=lo+n:=by exact qa (hij) (h'')
   exact NL.refl O pX
theorem asc_one:YA lt X lo 1:=fun i j hi hij hj=>by
 obtain rfl:i=j:=by exact qa (hij) (jt jr jc ja jd ja jg jD qt hi hj)
 exact NL.refl O pX
omit O pX in
theorem wx (hj:j≤X.size)(k:Nat):(mirror X i j ((j - i) / 2))[k]?=if i≤k∧k<j then X[i+j - 1 - k]? else X[k]?:=getElem?_mirror_all hj k
omit O pX in
theorem mir_dsc (h:Dsc lt X lo n)(hs:lo+n≤X.size):YA lt (mirror X lo (lo+n) ((lo+n - lo) / 2)) lo n:=fun i j hi hij hj=>by
 refine(h (lo+(lo+n) - 1 - j) (lo+(lo+n) - 1 - i) (by exact jV ka jc ja jD (qA jc je) (qA jc (qA jc je)) yF jl (qA ja jd) qt hj qw qw) (by exact oq59 hij) (by exact oq60 hi hj)).congr ?_ ?_
 ·rw[wx hs,if_pos ⟨by exact jt jr jc ja jc jd jd ja qt hi hij,hj⟩]
 ·rw[wx hs,if_pos ⟨hi,by exact jt jE jg (qA ja jd) jc je wG (qA ja jd) qt hij hj⟩]
omit O pX in
theorem mir_eqv (h:Dsc lt X lo n)(hs:lo+n≤X.size)(hi:lo≤i)(he:Eqv lt X i (lo+n)):Dsc lt (mirror X i (lo+n) ((lo+n - i) / 2)) lo n:=fun p q hp hpq hq=>by
 have g:∀ t,(mirror X i (lo+n) ((lo+n - i) / 2))[t]?=X[if i≤t∧t<lo+n then i+(lo+n) - 1 - t else t]?:=fun t=>by rw[wx hs];split <;> rfl
 refine NL.congr (i:=if i≤p∧p<lo+n then i+(lo+n) - 1 - p else p) (j:=if i≤q∧q<lo+n then i+(lo+n) - 1 - q else q) ?_ (g p) (g q)
 by_cases h1:i≤p∧p<lo+n
 ·rw[if_pos h1,if_pos ⟨by exact jt jr jc ja jd ja jc jd qt hpq (And.left h1),hq⟩]
  exact he _ _ (by exact jV yn jc ja jD (qA je jl) (qA jc (qA je jl)) zo jM (qA ja jd) qt (And.right h1) qw qw) (by exact jV yn jg (qA ja jd) je jl zo (qA je (qA ja jd)) (qA jc jl) jM qt (And.left h1) (qx (jq jE jj (qA jc (qA ja jd)) wG (qA ja jd) qt (And.right h1))) (qx (jt ka jc ja jg (qA jd je) (qA jl (qA jd je)) jA qt (And.right h1) qw))) (by exact jV yn jc ja jD (qA je jl) (qA jc (qA je jl)) zo jM (qA ja jd) qt hq qw qw) (by exact oq61 hpq h1)
 ·rw[if_neg h1]
  split
  ·exact h _ _ hp (by omega) (by exact jV yn jg (qA ja jd) je jl zo (qA je (qA ja jd)) (qA jc jl) jM qt (And.left (by assumption)) (qx (jq jE jj (qA jc (qA ja jd)) wG (qA ja jd) qt (And.right (by assumption)))) (qx (jt ka jc ja jg (qA jd je) (qA jl (qA jd je)) jA qt (And.right (by assumption)) qw)))
  ·exact h _ _ hp hpq hq
end
structure Bk (st₀ st:SortSt)(lo:Nat):Prop where
 perm:(arrOf st).toList.Perm (arrOf st₀).toList
 pre:∀ k,k<lo→(arrOf st)[k]?=(arrOf st₀)[k]?
 k:kindOf st=kindOf st₀
 f:failedOf st=failedOf st₀
 p:pendingOf st=pendingOf st₀
theorem Bk.rfl {st:SortSt}{lo:Nat}:Bk st st lo:=⟨.refl _,fun J J=>Eq.refl _,Eq.refl _,Eq.refl _,Eq.refl _⟩
theorem Bk.size {st₀ st:SortSt}{lo:Nat}(h:Bk st₀ st lo):(arrOf st).size=(arrOf st₀).size:=by rw[←Array.length_toList,←Array.length_toList];exact h.perm.length_eq
theorem Bk.mir {st₀ st:SortSt}{lo i j:Nat}(h:Bk st₀ st lo)(hi:lo≤i)(hj:j≤(arrOf st).size):Bk st₀ (setArr st (mirror (arrOf st) i j ((j - i) / 2))) lo :=
 ⟨(mirror_perm _ _ _ _).toList.trans h.perm,fun k hk=>by
  show(mirror (arrOf st) i j ((j - i) / 2))[k]?=_
  rw[wx hj,if_neg (by exact fun e0=>WO jr jc ja jD jc ja jd qt hi hk (And.left e0))];exact h.pre k hk,h.k,h.f,h.p⟩
theorem Bk.pX {P:Keyed→Prop}{st₀ st:SortSt}{lo:Nat}(h:Bk st₀ st lo)(p0:∀ x∈(arrOf st₀).toList,P x):∀ x∈(arrOf st).toList,P x:=fun x hx=>p0 x (h.perm.mem_iff.mp hx)
section
variable {prog:Program}{w:World}{A:Around}{E:Value→Shared→Prop}{κ:SortKind}{lt:Keyed→Keyed→Bool}{P:Keyed→Prop}{I:Shared→Prop}(O:Ord9 prog w A κ lt P I)
include O
theorem UF {i j:Nat}{Q:Option Bool→SortSt→Shared→Prop}{st:SortSt}{s:Shared}(hk:kindOf st=κ)(pX:∀ x∈(arrOf st).toList,P x)(hi:i<(arrOf st).size)(hj:j<(arrOf st).size)(hI:I s)
  (q:∀ x y s',I s'→(arrOf st)[i]?=some x→(arrOf st)[j]?=some y→Q (some (lt x y)) st s'):kasC (model prog w) A E (ltAt' i j) Q st s:=by
 have h1:(arrOf st)[i]?=some (arrOf st)[i]:=Array.getElem?_eq_getElem hi
 have h2:(arrOf st)[j]?=some (arrOf st)[j]:=Array.getElem?_eq_getElem hj
 rw[ltAt'_eq]
 refine kasC_bind (kasC_get (kasC_bind (elemC h1 (kJ h2 ?_))))
 exact ltC O hk (pX _ (List.mem_of_getElem? (jx.mp h1))) (pX _ (List.mem_of_getElem? (jx.mp h2))) hI fun s' h'=>q _ _ s' h' h1 h2
omit O in
theorem revC {i j:Nat}{Q:Unit→SortSt→Shared→Prop}{st:SortSt}{s:Shared}(q:Q () (setArr st (mirror (arrOf st) i j ((j - i) / 2))) s):kasC (model prog w) A E (reverseSlice' i j) Q st s:=by
 rw[reverseSlice'_eq];exact kasC_modify q
theorem ascC {lo nrem n:Nat}{f:Nat→Option (Option Nat)×Nat→StateT SortSt Sem (ForInStep (Option (Option Nat)×Nat))}{Q:Option (Option Nat)×Nat→SortSt→Shared→Prop}{st:SortSt}{s:Shared}(hk:kindOf st=κ)(pX:∀ x∈(arrOf st).toList,P x)(hs:lo+nrem≤(arrOf st).size)(hI:I s)(h1:1≤n)(hn:n≤nrem)(ha:YA lt (arrOf st) lo n)
  (hf:∀ i n s (R:ForInStep (Option (Option Nat)×Nat)→SortSt→Shared→Prop),1≤n→n<nrem→I s→(∀ x y s',I s'→(arrOf st)[lo+n]?=some x→(arrOf st)[lo+n - 1]?=some y→(lt x y=true→R (.done (none,n)) st s')∧(lt x y=false→R (.yield (none,n+1)) st s'))→kasC (model prog w) A E (f i (none,n)) R st s)
  (q:∀ m s',I s'→n≤m→m≤nrem→YA lt (arrOf st) lo m→(m=nrem∨(m<nrem∧∀ x y,(arrOf st)[lo+m]?=some x→(arrOf st)[lo+m - 1]?=some y→lt x y=true))→Q (none,m) st s'):kasC (model prog w) A E (forIn [n:nrem] (none,n) f) Q st s:=by
 refine YR (fun i c st' s'=>st'=st∧I s'∧c=(none,n+i)∧n+i≤nrem∧YA lt (arrOf st) lo (n+i)) ⟨rfl,hI,rfl,hn,ha⟩ ?_ ?_
 ·intro i c st' s' hi zb83
  refine jP zb83 fun zz81 za82=>?_
  subst zz81
  refine kH za82 fun hI' zc84 zd85=>?_
  subst zc84
  refine jP zd85 fun g1 g2=>?_
  refine hf _ _ _ _ (by exact jq ju jj (qA jc ja) jj jc qt h1) (by exact oq16 hi) hI' fun x y s₂ h₂ hx hy=>⟨fun e=>?_,fun e=>?_⟩
  ·exact q _ s₂ h₂ (by exact kg ju jc (qA jc ja) qt ) (by exact g1) g2 (.inr ⟨by exact oq16 hi,fun x' y' hx' hy'=>by rw[hx] at hx';rw[hy] at hy';cases hx';cases hy';exact e⟩)
  ·exact⟨rfl,h₂,rfl,by exact oq62 hi,asc_ext (n:=n+i) O.toOrdP pX g2 (by exact jq ju jj (qA jc ja) jj jc qt h1) (by exact jt ka (qA jc (qA ja jd)) je (qA jc jl) je (qA ja jd) jl qt hs g1) fun x' y' hx' hy'=>by rw[hx] at hx';rw[hy] at hy';cases hx';cases hy';exact e⟩
 ·intro c st' s' zg88
  refine jP zg88 fun ze86 zf87=>?_
  subst ze86
  refine kH zf87 fun hI' zh89 zi0=>?_
  subst zh89
  refine jP zi0 fun g1 g2=>?_
  exact q _ s' hI' (by exact kg ju jc (qA jc ja) qt ) g1 g2 (.inl (by exact qa (g1) (jq jr jc (qA ja jd) jc (qA jd ja) qt qw)))
include O
structure Fall (lt:Keyed→Keyed→Bool)(st₀ st:SortSt)(lo n neq:Nat):Prop where
 b:Bk st₀ st lo
 d:Dsc lt (arrOf st) lo n
 le:neq+1≤n
 e:Eqv lt (arrOf st) (lo+n - (neq+1)) (lo+n)
theorem Fall.turn {st₀ st:SortSt}{lo n neq:Nat}(x:Fall lt st₀ st lo n neq)(hs:lo+n≤(arrOf st).size):Fall lt st₀ (setArr st (mirror (arrOf st) (lo+n - (neq+1)) (lo+n) ((lo+n - (lo+n - (neq+1))) / 2))) lo n neq:=by
 have hle:=x.le
 refine⟨x.b.mir (by exact jt jE jc ja jD je (qA jc je) (qA ja jD) qt hle qw) hs,mir_eqv x.d hs (by exact jt jE jc ja jD je (qA jc je) (qA ja jD) qt hle qw) x.e,hle,fun p q h1 h2 h3 h4=>?_⟩
 refine NL.congr (i:=(lo+n - (neq+1))+(lo+n) - 1 - p) (j:=(lo+n - (neq+1))+(lo+n) - 1 - q) (x.e _ _ (by exact jV yn jc ja jD (qA je jl) (qA jc (qA je jl)) zo jM (qA ja jd) qt h2 qw qw) (by exact oq63 h1 h4) (by exact jV yn jc ja jD (qA je jl) (qA jc (qA je jl)) zo jM (qA ja jd) qt h4 qw qw) (by exact jV yn jg (qA ja jd) je jl zo (qA je (qA ja jd)) (qA jc jl) jM qt h3 (qx (jq jE jj (qA jc (qA ja jd)) wG (qA ja jd) qt h4)) (qx (jt ka jc ja jg (qA jd je) (qA jl (qA jd je)) jA qt h4 qw)))) ?_ ?_
 ·show(mirror _ _ _ _)[p]?=_
  rw[wx hs,if_pos ⟨h1,h2⟩]
 ·show(mirror _ _ _ _)[q]?=_
  rw[wx hs,if_pos ⟨h3,h4⟩]
theorem Fall.next {st₀ st:SortSt}{lo n neq:Nat}(p0:∀ x∈(arrOf st₀).toList,P x)(x:Fall lt st₀ st lo n neq)(hs:lo+n<(arrOf st).size)(h:NL lt (arrOf st) (lo+n - 1) (lo+n)):Fall lt st₀ st lo (n+1) 0:=by
 have hle:=x.le
 refine⟨x.b,JQ O.toOrdP (x.b.pX p0) x.d (by exact jq ju jj jc jA jc qt hle) (by exact jq jr (qA jc ja) jd (qA (qA jc ja) jj) jd qt hs) h,by exact kg jO (qA jw jj) jg qt ,fun p t h1 h2 h3 h4=>?_⟩
 obtain rfl:p=t:=by exact qa (jV ka jc ja jg (qA jd wG) jl ja (qA jd wG) (qA jl (qA jw jj)) qt h2 h3 qw) (jV ka jc ja jd ja jg (qA je yF) (qA je yF) (qA jd (qA jw jj)) qt h1 h4 qw)
 exact NL.refl O.toOrdP (x.b.pX p0)
theorem Fall.same {st₀ st:SortSt}{lo n neq:Nat}(p0:∀ x∈(arrOf st₀).toList,P x)(x:Fall lt st₀ st lo n neq)(hs:lo+n<(arrOf st).size)(h:NL lt (arrOf st) (lo+n - 1) (lo+n))(h':NL lt (arrOf st) (lo+n) (lo+n - 1)):Fall lt st₀ st lo (n+1) (neq+1):=by
 have hle:=x.le
 have pX:=x.b.pX p0
 have st':lo+(n+1) - (neq+1+1)=lo+n - (neq+1):=by exact oq64
 refine⟨x.b,JQ O.toOrdP pX x.d (by exact jq ju jj jc jA jc qt hle) (by exact jq jr (qA jc ja) jd (qA (qA jc ja) jj) jd qt hs) h,by exact jq ju (qA jg jj) jA jg ja qt hle,fun p t h1 h2 h3 h4=>?_⟩
 rw[st'] at h1 h3
 have blk:∀ p t,lo+n - (neq+1)≤p→p<lo+n→lo+n - (neq+1)≤t→t<lo+n→NL lt (arrOf st) p t:=x.e
 by_cases e1:p=lo+n
 ·by_cases e2:t=lo+n
  ·rw[e1,e2];exact NL.refl O.toOrdP pX
  ·rw[e1];exact NL.tr O.toOrdP pX (by exact jt jE jg ja (qA (qA jd je) jj) ja jc (qA jd je) qt hs qu) h' (blk _ _ (by exact oq65) (by exact qx (jq jr jj (qA jc ja) jD ja qt hle)) h3 (by exact oq66 h4 e2))
 ·by_cases e2:t=lo+n
  ·rw[e2];exact NL.tr O.toOrdP pX (by exact jt jE jg ja (qA (qA jd je) jj) ja jc (qA jd je) qt hs qu) (blk _ _ h1 (by exact oq66 h2 e1) (by exact oq65) (by exact qx (jq jr jj (qA jc ja) jD ja qt hle))) h
  ·exact blk _ _ h1 (by exact oq66 h2 e1) h3 (by exact oq66 h4 e2)
theorem countRunC {lo nrem:Nat}{Q:Option Nat→SortSt→Shared→Prop}{st:SortSt}{s:Shared}(hk:kindOf st=κ)(p0:∀ x∈(arrOf st).toList,P x)(hs:lo+nrem≤(arrOf st).size)(h1:1≤nrem)(hI:I s)
  (q:∀ n st' s',I s'→Bk st st' lo→1≤n→n≤nrem→YA lt (arrOf st') lo n→Q (some n) st' s'):kasC (model prog w) A E (countRun' lo nrem) Q st s:=by
 refine kasC_bind (ascC O hk p0 hs hI (n:=1) (Nat.le_refl _) h1 (asc_one O.toOrdP p0) ?hf ?q)
 case hf =>
  intro i n s R hn1 hn2 hI r
  refine kasC_bind (UF O hk p0 (by show lo+n<_;exact jt jE (qA (qA jc ja) jj) jd (qA jc je) jd jA je qt hs hn2) (by show lo+n - 1<_;exact jV ka jg ja (qA jd je) ja yF je jc (qA jd jl) qt hs hn2 qu) hI fun x y s' h' hx hy=>?_)
  cases e:lt x y with
  | true=>exact kasC_pure ((r x y s' h' hx hy).1 e)
  | false=>exact kasC_pure ((r x y s' h' hx hy).2 e)
 case q =>
  intro m s₁ hI₁ hm1 hm2 ha hor
  by_cases em:m=nrem
  ·exact kZ (beq_iff_eq.mpr em) (kasC_pure (q m st s₁ hI₁ .rfl hm1 hm2 ha))
  refine kM (fun h=>em (beq_iff_eq.mp h)) ?_
  obtain⟨hmn,hsm⟩:=hor.resolve_left em
  have small:NL lt (arrOf st) (lo+m - 1) (lo+m):=fun x y hx hy=>by
   have m':∀ {t:Nat} {v:Keyed},(arrOf st)[t]?=some v→P v:=fun h=>p0 _ (List.mem_of_getElem? (jx.mp h))
   exact O.asy y x (m' hy) (m' hx) (hsm y x hy hx)
  extract_lets zm z0 jp
  have hj:∀ st₁ s₁,Bk st st₁ lo→I s₁→Dsc lt (arrOf st₁) lo (m+1)→kasC (model prog w) A E (jp ()) Q st₁ s₁:=by
   intro st₁ s₁ bk hI₁ hd
   have hsz:=bk.size
   refine UE ?_
   refine kasC_bind (jS (YR (a:=m+1) (Q:=fun c st' s'=>I s'∧∃ n neq,c=(none,n,neq)∧m+1≤n∧n≤nrem∧Fall lt st st' lo n neq) (fun i c st' s'=>I s'∧∃ neq,c=(none,m+1+i,neq)∧m+1+i≤nrem∧Fall lt st st' lo (m+1+i) neq)
    ⟨hI₁,0,rfl,by exact jq ju (qA jg jw) ja jg ja qt hmn,bk,hd,by exact kg jO (qA jw jj) (qA jg jw) qt ,fun p t h1 h2 h3 h4=>by
     obtain rfl:p=t:=by exact qa (jV ka jc ja jg (qA jd (qA wG jw)) jl ja (qA jd (qA wG jw)) (qA jl (qA jw jj)) qt h2 h3 qw) (jV ka jc ja jd ja jg (qA je (qA yF jw)) (qA je (qA yF jw)) (qA jd (qA jw jj)) qt h1 h4 qw)
     exact NL.refl O.toOrdP (bk.pX p0)⟩ ?_ ?_) ?_)
   ·intro i c st₂ s₂ hi zk2
    refine jP zk2 fun hI₂ zj1=>?_
    refine jo zj1 fun neq zl3 zm4=>?_
    subst zl3
    refine jP zm4 fun g1 fl=>?_
    have hsz₂:=fl.b.size
    have pX₂:=fl.b.pX p0
    generalize hn:m+1+i=n at fl g1 ⊢
    have hle:=fl.le
    refine kasC_bind (UF O (fl.b.k.trans hk) pX₂ (by show lo+n<_;exact oq67 hs hi hsz₂ hn) (by show lo+n - 1<_;exact yS yn jg ja (qA jd je) jl jl ja jM je jg (qA jd jM) qt hs (qi hsz₂) g1 (qx (jq jr jj (qA jc ja) jD ja qt hle))) hI₂ fun x y s₃ h₃ hx hy=>?_)
    have mP:∀ {t:Nat} {v:Keyed},(arrOf st₂)[t]?=some v→P v:=fun h=>pX₂ _ (List.mem_of_getElem? (jx.mp h))
    have e3:m+1+(i+1)=n+1:=by exact qa (jq jr (qA jg jA) jD (qA jg ja) jd qt (qe hn)) (jq jr jg (qA jA jD) jc (qA jA jd) qt (qi hn))
    cases e:lt x y with
    | true =>
     have small:NL lt (arrOf st₂) (lo+n - 1) (lo+n):=fun x' y' hx' hy'=>by rw[hy] at hx';rw[hx] at hy';cases hx';cases hy';exact O.asy x y (mP hx) (mP hy) e
     dsimp only
     rw[if_pos rfl]
     by_cases hq:neq>0
     ·rw[if_pos hq]
      refine kasC_bind (revC (kasC_pure ⟨h₃,0,by rw[e3],by exact oq68 hi,?_⟩))
      have ft:=fl.turn O (by exact jV ka (qA jc ja) jd (qA jc je) jl jl jd ja je qt hs (qi hsz₂) g1)
      have fsz:=ft.b.size
      rw[e3]
      refine ft.next O p0 (by rw[fsz];exact oq69 hs hi e3) (NL.congr (NL.tr O.toOrdP pX₂ (by exact yS yn jg ja (qA jd je) jl jl ja jM je jg (qA jd jM) qt hs (qi hsz₂) g1 (qx (jq jE jj (qA jc ja) (qA jD wG) jA qt (qe e3)))) (fl.e (lo+n - (neq+1)) (lo+n - 1) (by exact Nat.le_refl _) (by exact oq70 e3) (by exact oq65) (by exact qx (jq jE jj (qA jc ja) (qA jD wG) jA qt (qe e3)))) small) ?_ ?_)
      ·show(mirror _ _ _ _)[lo+n - 1]?=_
       rw[wx (by exact jV ka (qA jc ja) jd (qA jc je) jl jl jd ja je qt hs (qi hsz₂) g1),if_pos ⟨by exact oq65,by exact qx (jq jE jj (qA jc ja) (qA jD wG) jA qt (qe e3))⟩];congr 1;exact oq71
      ·show(mirror _ _ _ _)[lo+n]?=_
       rw[wx (by exact jV ka (qA jc ja) jd (qA jc je) jl jl jd ja je qt hs (qi hsz₂) g1),if_neg (by exact fun e0=>ZN ju (qA (qA jc ja) jj) (qA jc ja) qt (And.right e0))]
     ·rw[if_neg hq]
      refine kasC_pure ⟨h₃,0,by rw[e3],by exact oq68 hi,?_⟩
      rw[e3]
      exact fl.next O p0 (by exact oq72 hs hi hsz₂ e3) small
    | false =>
     dsimp only
     rw[if_neg Bool.false_ne_true]
     refine kasC_bind (UF O (fl.b.k.trans hk) pX₂ (by exact yS yn jg ja (qA jd je) jl jl ja jM je jg (qA jd jM) qt hs (qi hsz₂) g1 (qx (jq jr jj (qA jc ja) jD ja qt hle))) (by exact oq67 hs hi hsz₂ hn) h₃ fun y' x' s₄ h₄ hy' hx'=>?_)
     rw[hy] at hy';rw[hx] at hx';cases hy';cases hx'
     cases e':lt y x with
     | true =>
      dsimp only
      rw[if_pos rfl]
      exact kasC_pure ⟨h₄,n,neq,rfl,by exact jq jr jg ja (qA jg jD) jA qt (qe e3),by exact g1,fl⟩
     | false =>
      dsimp only
      rw[if_neg Bool.false_ne_true]
      refine kasC_pure ⟨h₄,neq+1,by rw[e3],by exact oq68 hi,?_⟩
      rw[e3]
      exact fl.same O p0 (by exact oq67 hs hi hsz₂ hn) (fun x' y' hx' hy'=>by rw[hy] at hx';rw[hx] at hy';cases hx';cases hy';exact e') fun x' y' hx' hy'=>by rw[hx] at hx';rw[hy] at hy';cases hx';cases hy';exact e
   ·intro c st₂ s₂ zo6
    refine jP zo6 fun hI₂ zn5=>?_
    refine jo zn5 fun neq zp7 zq8=>?_
    subst zp7
    refine jP zq8 fun g1 fl=>?_
    exact⟨hI₂,_,_,rfl,by exact kg ju jg (qA jg ja) qt ,g1,fl⟩
   ·intro c st₂ s₂ zs10
    refine jP zs10 fun hI₂ zr9=>?_
    refine yI zr9 fun n neq zt11 zu12=>?_
    subst zt11
    refine kH zu12 fun g0 g1 fl=>?_
    have hsz₂:=fl.b.size
    extract_lets w1 w2 w3 w4 jp2
    have hj2:∀ st₃ s₃,Bk st st₃ lo→I s₃→Dsc lt (arrOf st₃) lo n→kasC (model prog w) A E (jp2 ()) Q st₃ s₃:=by
     intro st₃ s₃ bk₃ hI₃ hd₃
     have hsz₃:=bk₃.size
     refine kasC_bind (revC ?_)
     have bk₄:=bk₃.mir (i:=lo) (j:=lo+n) (Nat.le_refl _) (by exact jV ka (qA jc ja) jd (qA jc je) jl ja je jl jd qt hs g1 (qi hsz₃))
     have as₄:YA lt (arrOf (setArr st₃ (mirror (arrOf st₃) lo (lo+n) ((lo+n - lo) / 2)))) lo n:=mir_dsc hd₃ (by exact jV ka (qA jc ja) jd (qA jc je) jl ja je jl jd qt hs g1 (qi hsz₃))
     show kasC _ _ _ _ _ (setArr st₃ (mirror (arrOf st₃) lo (lo+n) ((lo+n - lo) / 2))) _
     generalize setArr st₃ (mirror (arrOf st₃) lo (lo+n) ((lo+n - lo) / 2))=st₄ at bk₄ as₄ ⊢
     have sz₄:=bk₄.size
     refine kasC_bind (ascC O (bk₄.k.trans hk) (bk₄.pX p0) (show lo+nrem≤_ by exact jt jE (qA jc ja) jd (qA jc ja) je je jd qt hs (qi sz₄)) hI₃ (n:=n) (show 1≤n by exact jq ju jj jc jA jc qt g0) g1 as₄ ?hf2 ?q2)
     case hf2 =>
      intro i n s R hn1 hn2 hI r
      refine kasC_bind (UF O (bk₄.k.trans hk) (bk₄.pX p0) (by show lo+n<_;exact jV ka (qA (qA jc ja) jj) jd (qA jc je) jl jl jd jA je qt hs (qi sz₄) hn2) (by show lo+n - 1<_;exact yS yn jg ja (qA jd je) jl jl ja zo je jc (qA jd jM) qt hs (qi sz₄) hn2 qu) hI fun x y s' h' hx hy=>?_)
      cases e:lt x y with
      | true=>exact kasC_pure ((r x y s' h' hx hy).1 e)
      | false=>exact kasC_pure ((r x y s' h' hx hy).2 e)
     case q2 =>
      intro m' s₅ hI₅ h5 h6 h7 h8
      exact kasC_pure (q m' _ s₅ hI₅ bk₄ (Nat.le_trans (show 1≤n by exact jq ju jj jc jA jc qt g0) h5) h6 h7)
    clear_value jp2
    by_cases hq:neq>0
    ·refine kZ hq (kasC_bind (revC ?_))
     have ft:=fl.turn O (by exact jV ka (qA jc ja) jd (qA jc je) jl ja je jl jd qt hs g1 (qi hsz₂))
     exact hj2 _ _ ft.b hI₂ ft.d
    ·exact kM hq (hj2 _ _ fl.b hI₂ fl.d)
  clear_value jp
  by_cases hm:m>1
  ·refine kZ hm ?_
   refine kasC_bind (UF O hk p0 (by exact jt jE jg ja (qA jc jd) ja wG jd qt hs hmn) (by exact jV ka jg ja (qA jd je) ja yF je jc (qA jd jl) qt hs hmn qu) hI₁ fun x y s₂ h₂ hx hy=>?_)
   cases e:lt x y with
   | true=>exact kasC_pure (q m st s₂ h₂ .rfl hm1 hm2 ha)
   | false =>
    have rose:NL lt (arrOf st) lo (lo+m - 1):=fun x' y' hx' hy'=>by rw[hx] at hx';rw[hy] at hy';cases hx';cases hy';exact e
    have eqv:Eqv lt (arrOf st) lo (lo+m):=fun p t h1 h2 h3 h4 =>
     NL.tr O.toOrdP p0 (by omega) (NL.tr O.toOrdP p0 (by omega) (ha lo p (Nat.le_refl _) h1 h2) rose) (ha t (lo+m - 1) h3 (by exact jt jE jc ja jg (qA jd je) (qA jd je) jA qt h4 qw) (by exact qx (jq ju jj (qA jc ja) jj ja qt hm1)))
    have dsc:Dsc lt (arrOf st) lo m:=fun i j hi hij hj=>eqv i j hi (by exact jt jE jg (qA ja jd) jc je wG (qA ja jd) qt hij hj) (by exact jt jr jc ja jc jd jd ja qt hi hij) hj
    refine kasC_bind (revC ?_)
    have bk:=Bk.mir (st₀:=st) (st:=st) (lo:=lo) (i:=lo) (j:=lo+m) .rfl (Nat.le_refl _) (by exact jt jE (qA jc ja) jd (qA jc je) jd jA je qt hs hmn)
    refine hj _ _ bk h₂ (JQ O.toOrdP (bk.pX p0) (mir_eqv dsc (by exact jt jE (qA jc ja) jd (qA jc je) jd jA je qt hs hmn) (Nat.le_refl _) eqv) hm1 (by rw[bk.size];exact jt jE (qA jc ja) jd (qA jc je) jd jA je qt hs hmn) ?_)
    refine NL.congr (NL.tr O.toOrdP p0 (by exact jV ka jg ja (qA jd je) ja yF je jc (qA jd jl) qt hs hmn qu) rose small) ?_ ?_
    ·show(mirror _ _ _ _)[lo+m - 1]?=_
     rw[wx (by exact jt jE (qA jc ja) jd (qA jc je) jd jA je qt hs hmn),if_pos ⟨by exact jt jr jc ja (qA jj jj) jd (qA jc jd) jA qt hm qw,by exact qx (jq ju jj (qA jc ja) (qA jj jj) ja qt hm)⟩];congr 1;exact oq73
    ·show(mirror _ _ _ _)[lo+m]?=_
     rw[wx (by exact jt jE (qA jc ja) jd (qA jc je) jd jA je qt hs hmn),if_neg (by exact fun e0=>ZN ju (qA (qA jc ja) jj) (qA jc ja) qt (And.right e0))]
  ·refine kM hm ?_
   obtain rfl:m=1:=by exact qa (qm hm) (hm1)
   exact hj _ _ .rfl hI₁ (JQ O.toOrdP p0 (fun i j hi hij hj=>by
    obtain rfl:i=j:=by exact qa (hij) (jt jr jc ja jd ja jg jD qt hi hj)
    exact NL.refl O.toOrdP p0) (Nat.le_refl _) (by exact jt jr jg ja (qA jc jd) ja (qA jj jj) jd qt hs hmn) small)
end
section
variable {prog:Program}{w:World}{A:Around}{E:Value→Shared→Prop}{κ:SortKind}{lt:Keyed→Keyed→Bool}{P:Keyed→Prop}{I:Shared→Prop}
theorem Bk.trans {st₀ st₁ st₂:SortSt}{lo:Nat}(x:Bk st₀ st₁ lo)(y:Bk st₁ st₂ lo):Bk st₀ st₂ lo :=
 ⟨y.perm.trans x.perm,fun k hk=>(y.pre k hk).trans (x.pre k hk),y.k.trans x.k,y.f.trans x.f,y.p.trans x.p⟩
theorem moveC {src dst:Nat}{Q:Unit→SortSt→Shared→Prop}{st:SortSt}{s:Shared}(q:Q () (setArr st (bubble (arrOf st) src (src - dst))) s):kasC (model prog w) A E (moveDown' src dst) Q st s:=by
 rw[moveDown'_eq];exact kasC_modify q
variable (O:Ord9 prog w A κ lt P I)
include O
theorem YW {X:Array Keyed}(pX:∀ x∈X.toList,P x){lo k l:Nat}(hs:lo+k<X.size)(hl:l≤k)(ha:YA lt X lo k)(h1:∀ p,p<l→NL lt X (lo+k) (lo+p))(h2:∀ p,l≤p→p<k→NL lt X (lo+p) (lo+k)) :
  YA lt (bubble X (lo+k) (lo+k - (lo+l))) lo (k+1):=fun i j hi hij hj=>by
 have g:∀ t,(bubble X (lo+k) (lo+k - (lo+l)))[t]?=X[if t=lo+l then lo+k else if lo+l<t∧t≤lo+k then t - 1 else t]?:=fun t=>by
  rw[getElem?_bubble hs _ (by exact qu),show lo+k - (lo+k - (lo+l))=lo+l by exact qa (jt ka jc (qA ja jd) (qA ja je) (qA jl (qA ja jd)) (qA jc jl) (qA ja je) qt qw (qx (qu))) (jt ka (qA jc ja) jd (qA je (qA jc ja)) (qA jc jl) (qA jc jl) (qA jd je) qt (qx (jq jr (qA jc ja) (qA jc jd) ja jd qt hl)) qw)]
  split
  ·rfl
  ·split <;> rfl
 refine NL.congr (i:=if j=lo+l then lo+k else if lo+l<j∧j≤lo+k then j - 1 else j) (j:=if i=lo+l then lo+k else if lo+l<i∧i≤lo+k then i - 1 else i) ?_ (g j) (g i)
 rcases Nat.lt_trichotomy i (lo+l) with hi1 | hi1 | hi1
 ·rw[if_neg (show ¬ i=lo+l by exact fun e0=>kc jr jg (qA ja jd) (qA ja jd) jc qt hi1 (qi e0)),if_neg (show ¬ (lo+l<i∧i≤lo+k) by exact fun e0=>kc jr jg (qA ja jd) (qA (qA ja jd) jj) jc qt hi1 (And.left e0))]
  rcases Nat.lt_trichotomy j (lo+l) with hj1 | hj1 | hj1
  ·rw[if_neg (by exact fun e0=>kc jr jg (qA ja jd) (qA ja jd) jc qt hj1 (qi e0)),if_neg (by exact fun e0=>kc jr jg (qA ja jd) (qA (qA ja jd) jj) jc qt hj1 (And.left e0))];exact ha i j hi hij (by exact jt jE jg (qA ja jd) je jd jg (qA ja je) qt hl hj1)
  ·rw[if_pos hj1]
   have:=h1 (i - lo) (by exact jt jE jg ja jD (qA je ja) (qA jc je) jd qt hi1 (qx (hi)))
   rw[show lo+(i - lo)=i by exact qa (jq jr (qA jc ja) jd (qA ja jc) jd qt (qx (hi))) (jq jr jc (qA ja jd) jc (qA jd ja) qt qw)] at this;exact this
  ·rw[if_neg (by exact fun e0=>kc jr (qA (qA jc ja) jj) jd jd (qA jc ja) qt hj1 (qe e0)),if_pos ⟨hj1,by exact jq jr jc (qA ja jd) jg (qA ja jD) qt hj⟩];exact ha i (j - 1) hi (by exact jV ka jc ja jg (qA jd je) (qA (qA jd je) jj) jl jl jA qt hi1 hj1 qw) (by exact jt jE jg (qA ja jd) wG (qA ja jD) jg je qt hj (qx (jq jr jj jc (qA (qA ja jd) jj) jc qt hj1)))
 ·rw[if_pos hi1]
  rcases Nat.lt_or_ge (lo+l) j with hj1 | hj1
  ·rw[if_neg (by exact fun e0=>kc jr (qA (qA jc ja) jj) jd jd (qA jc ja) qt hj1 (qe e0)),if_pos ⟨hj1,by exact jq jr jc (qA ja jd) jg (qA ja jD) qt hj⟩]
   have:=h2 (j - 1 - lo) (by exact jV ka jc ja (qA (qA jd jc) jj) je je yF jl (qA ja jd) qt hj1 qw qw) (by exact jV ka jg ja jD (qA je jA) yF jd (qA jc je) jl qt hj (qx (jq jr jj jc (qA (qA ja jd) jj) jc qt hj1)) (qx (jt jE jc ja (qA (qA jc jd) jj) je je jA qt hj1 qw)))
   rw[show lo+(j - 1 - lo)=j - 1 by exact qa (jq jr (qA jc ja) jd (qA ja jc) jd qt (qx (jt jE jc ja (qA (qA jc jd) jj) je je jA qt hj1 qw))) (jq jr jc (qA ja jd) jc (qA jd ja) qt qw)] at this;exact this
  ·rw[if_pos (by exact qa (hj1) (jt jE (qA jc ja) jd je jd (qA jc ja) je qt hij (qi hi1)))];exact NL.refl O.toOrdP pX
 ·have ei:(if i=lo+l then lo+k else if lo+l<i∧i≤lo+k then i - 1 else i)=i - 1:=by rw[if_neg (by exact fun e0=>kc jr (qA (qA jc ja) jj) jd jd (qA jc ja) qt hi1 (qe e0)),if_pos ⟨hi1,by exact jt jE jc (qA ja jd) jc je wG (qA ja jD) qt hij hj⟩]
  have ej:(if j=lo+l then lo+k else if lo+l<j∧j≤lo+k then j - 1 else j)=j - 1:=by rw[if_neg (by exact fun e0=>WO jE jc ja (qA (qA jd je) jj) jc ja (qA jd je) qt hij hi1 (qe e0)),if_pos ⟨by exact jt jE (qA (qA jc ja) jj) jd je jd (qA (qA jc ja) jj) je qt hij hi1,by exact jq jr jc (qA ja jd) jg (qA ja jD) qt hj⟩]
  rw[ei,ej]
  exact ha (i - 1) (j - 1) (by exact jt jE jc ja (qA (qA jc jd) jj) je je jA qt hi1 qw) (by exact oq74 hij) (by exact jt jE jg (qA ja jd) wG (qA ja jD) jg je qt hj (qx (jt jE jj jc ja jc (qA (qA jd je) jj) ja qt hij hi1)))
theorem Yw {lo n ok:Nat}{Q:Bool→SortSt→Shared→Prop}{st:SortSt}{s:Shared}(hk:kindOf st=κ)(p0:∀ x∈(arrOf st).toList,P x)(hs:lo+n≤(arrOf st).size)(h1:1≤ok)(hn:ok≤n)(ha:YA lt (arrOf st) lo ok)(hI:I s)
  (q:∀ st' s',I s'→Bk st st' lo→YA lt (arrOf st') lo n→Q true st' s'):kasC (model prog w) A E (binarySort' lo n ok) Q st s:=by
 have hm:max ok 1=ok:=by exact oq75 h1
 refine kasC_bind (jS (YR (a:=max ok 1) (Q:=fun c st' s'=>c.1=none∧I s'∧Bk st st' lo∧YA lt (arrOf st') lo n) (fun i c st' s'=>c=(none,())∧I s'∧Bk st st' lo∧YA lt (arrOf st') lo (ok+i)) ⟨rfl,hI,.rfl,ha⟩ ?_ ?_) ?_)
 ·intro i c st₁ s₁ hi zx15
  refine jP zx15 fun zv13 zw14=>?_
  subst zv13
  refine kH zw14 fun hI₁ bk as=>?_
  have sz:=bk.size
  have pX:=bk.pX p0
  rw[hm] at hi ⊢
  generalize hkk:ok+i=k at as ⊢
  refine kasC_bind (jS (loopC (Q:=fun c st' s'=>st'=st₁∧I s'∧∃ l,c=(none,l,l)∧l≤k∧(∀ p,p<l→NL lt (arrOf st₁) (lo+k) (lo+p))∧∀ p,l≤p→p<k→NL lt (arrOf st₁) (lo+p) (lo+k))
   (fun t c st' s'=>st'=st₁∧I s'∧∃ l r,c=(none,l,r)∧l≤r∧r≤k∧r - l≤k - t∧(∀ p,p<l→NL lt (arrOf st₁) (lo+k) (lo+p))∧∀ p,r≤p→p<k→NL lt (arrOf st₁) (lo+p) (lo+k))
   ⟨rfl,hI₁,0,k,rfl,Nat.zero_le _,Nat.le_refl _,by exact Nat.le_refl _,fun p h=>absurd h (Nat.not_lt_zero p),fun p h1 h2=>by exact kc ju jc ja jA jc qt h1 h2⟩ ?_ ?_) ?_)
  ·intro t c st' s₂ ht za18
   refine jP za18 fun zy16 zz17=>?_
   subst zy16
   refine jP zz17 fun hI₂ zb19=>?_
   refine yI zb19 fun l r zc20 zd21=>?_
   subst zc20
   refine Z04 zd21 fun g1 g2 g3 g4 g5=>?_
   dsimp only
   by_cases hlr:l≥r
   ·rw[if_pos hlr]
    obtain rfl:l=r:=by exact qa (g1) (hlr)
    exact kasC_pure ⟨rfl,hI₂,l,rfl,g2,g4,g5⟩
   rw[if_neg hlr]
   refine kasC_bind (UF O (bk.k.trans hk) pX (by exact oq76 hs hi hkk sz) (by exact oq77 hs hi hkk sz g1 g2) hI₂ fun x y s₃ h₃ hx hy=>?_)
   have mP:∀ {t:Nat} {v:Keyed},(arrOf st')[t]?=some v→P v:=fun h=>pX _ (List.mem_of_getElem? (jx.mp h))
   cases e:lt x y with
   | true =>
    refine kasC_pure ⟨rfl,h₃,l,(l+r) / 2,rfl,by exact oq78 hlr,by exact oq79 g1 g2,by exact oq80 g3,g4,fun p hp1 hp2=>?_⟩
    refine NL.tr O.toOrdP pX (j:=lo+(l+r) / 2) (by exact oq81 hs hi hkk sz g2 hlr) (as (lo+(l+r) / 2) (lo+p) (by exact oq82) (by exact oq83 hp1) (by exact jq jr (qA (qA jc ja) jj) (qA jc jd) jA jd qt hp2)) fun x' y' hx' hy'=>?_
    rw[hy] at hx';rw[hx] at hy';cases hx';cases hy'
    exact O.asy x y (mP hx) (mP hy) e
   | false =>
    refine kasC_pure ⟨rfl,h₃,(l+r) / 2+1,r,rfl,by exact oq84 hlr,g2,by exact oq85 g3,fun p hp=>?_,g5⟩
    refine NL.tr O.toOrdP pX (j:=lo+(l+r) / 2) (by exact oq81 hs hi hkk sz g2 hlr) (fun x' y' hx' hy'=>?_) (as (lo+p) (lo+(l+r) / 2) (by exact kg ju jc (qA jc ja) qt ) (by exact oq86 hp) (by exact oq87 g2 hlr))
    rw[hx] at hx';rw[hy] at hy';cases hx';cases hy'
    exact e
  ·intro c st' s₂ zg24
   refine jP zg24 fun ze22 zf23=>?_
   subst ze22
   refine jP zf23 fun hI₂ zh25=>?_
   refine yI zh25 fun l r zi26 zj27=>?_
   subst zi26
   refine Z04 zj27 fun g1 g2 g3 g4 g5=>?_
   obtain rfl:l=r:=by exact qa (g1) (jV ka jc ja jd je jc (qA jd ja) (qA je jl) jl qt g3 qw (qx (Nat.le_refl _)))
   exact⟨rfl,hI₂,l,rfl,g2,g4,g5⟩
  ·intro c st' s₂ zm30
   refine jP zm30 fun zk28 zl29=>?_
   subst zk28
   refine jP zl29 fun hI₂ zn31=>?_
   refine jo zn31 fun l zo32 zp33=>?_
   subst zo32
   refine kH zp33 fun g2 g4 g5=>?_
   refine kasC_bind (moveC (kasC_pure ⟨rfl,hI₂,bk.trans ⟨(bubble_perm _ _ _).toList,fun p hp=>?_,rfl,rfl,rfl⟩,?_⟩))
   ·show(bubble _ _ _)[p]?=_
    rw[getElem?_bubble (by exact oq76 hs hi hkk sz) _ (by exact qu),if_neg (by exact oq88 hp),if_neg (by exact oq89 hp)]
   ·rw[show ok+(i+1)=k+1 by exact qa (jq jr (qA jc jA) jD (qA jc ja) jd qt (qe hkk)) (jq jr jg (qA ja jD) jc (qA ja jd) qt (qi hkk))]
    exact YW O pX (by exact oq76 hs hi hkk sz) g2 as g4 g5
 ·intro c st₁ s₁ zs36
  refine jP zs36 fun zq34 zr35=>?_
  subst zq34
  refine kH zr35 fun hI₁ bk as=>?_
  rw[hm,show ok+(n - ok)=n by exact qa (jq jr (qA jc ja) jd (qA ja jc) jd qt (qx (hn))) (jq jr jc (qA ja jd) jc (qA jd ja) qt qw)] at as
  exact⟨rfl,hI₁,bk,as⟩
 ·rintro⟨c,_⟩ st₁ s₁
  intro zv39
  refine jP zv39 fun zt37 zu38=>?_
  subst zt37
  refine kH zu38 fun hI₁ bk as=>?_
  exact kasC_pure (q _ _ hI₁ bk as)
end
noncomputable def wv (o:Nat):List (List Keyed)→List (Nat×Nat)
 | []=>[]
 | l::r=>(o,l.length)::wv (o+l.length) r
theorem yd (o:Nat):∀ (L R:List (List Keyed)),wv o (L++R)=wv o L++wv (o+L.flatten.length) R
 | [],R=>by simp [wv]
 | l::L,R=>by
  show(o,l.length)::wv (o+l.length) (L++R)=(o,l.length)::(wv (o+l.length) L++_)
  rw[yd _ L R]
  congr 3
  rw[List.flatten_cons,List.length_append];exact qa (kg jr (qA (qA jc ja) jd) (qA jc (qA ja jd)) qt ) (kg jr (qA jc (qA ja jd)) (qA (qA jc ja) jd) qt )
theorem wW (o:Nat):∀ (L:List (List Keyed)),(wv o L).length=L.length
 | []=>rfl
 | l::L=>by show(wv _ L).length+1=_;rw[wW _ L];rfl
section
variable {prog:Program}{w:World}{A:Around}{E:Value→Shared→Prop}{κ:SortKind}{lt:Keyed→Keyed→Bool}{P:Keyed→Prop}{I:Shared→Prop}
structure RI (lt:Keyed→Keyed→Bool)(κ:SortKind)(a₀:Array Keyed)(st:SortSt)(L:List (List Keyed))(rest:List Keyed):Prop where
 k:kindOf st=κ
 f:failedOf st=none
 perm:(arrOf st).toList.Perm a₀.toList
 arr:(arrOf st).toList=L.flatten++rest
 pend:(pendingOf st).toList.map (fun t=>(t.1,t.2.1))=wv 0 L
 run:∀ l∈L,1≤l.length∧l.Pairwise (kq lt)
theorem RI.size {a₀:Array Keyed}{st:SortSt}{L:List (List Keyed)}{rest:List Keyed}(R:RI lt κ a₀ st L rest):(pendingOf st).size=L.length:=by
 have:=congrArg List.length R.pend
 rw[List.length_map,Array.length_toList,wW] at this;exact this
theorem RI.at {a₀:Array Keyed}{st:SortSt}{L1:List (List Keyed)}{B:List Keyed}{L2:List (List Keyed)}{rest:List Keyed}(R:RI lt κ a₀ st (L1++B::L2) rest):∃ pw,(pendingOf st)[L1.length]?=some (L1.flatten.length,B.length,pw):=by
 have e:=congrArg (fun l=>l[L1.length]?) R.pend
 rw[yd,List.getElem?_append_right (by rw[wW];exact Nat.le_refl _),wW,Nat.sub_self,Nat.zero_add] at e
 have e:((pendingOf st).toList.map (fun t=>(t.1,t.2.1)))[L1.length]?=some (L1.flatten.length,B.length):=e
 rw[List.getElem?_map] at e
 refine jo (Option.map_eq_some_iff.mp e) fun ze82 h1 h2=>?_;obtain⟨a,b,c⟩:=ze82
 cases h2
 exact⟨c,by rw[←Array.getElem?_toList];exact h1⟩
theorem set_erase {α:Type}{l:List α}{p1 p2:List α}{a b v:α}(h:l=p1++a::b::p2):(l.set p1.length v).eraseIdx (p1.length+1)=p1++v::p2:=by
 subst h
 rw[List.set_append_right _ _ (Nat.le_refl _),Nat.sub_self,List.set_cons_zero,List.eraseIdx_append_of_length_le (by exact kg jO jc jg qt ),Nat.add_sub_cancel_left]
 rfl
theorem map_split {α β:Type}{f:α→β}{l:List α}{p1 p2:List β}{x y:β}(h:l.map f=p1++x::y::p2):∃ q1 a b q2,l=q1++a::b::q2∧q1.map f=p1∧f a=x∧f b=y∧q2.map f=p2:=by
 refine yI (List.map_eq_append_iff.mp h) fun q1 r zf83 zg84=>?_;subst zf83;refine jP zg84 fun h1 h2=>?_
 refine yI (List.map_eq_cons_iff.mp h2) fun a r2 zh85 zi86=>?_;subst zh85;refine jP zi86 fun h3 h4=>?_
 refine yI (List.map_eq_cons_iff.mp h4) fun b q2 zj87 zk88=>?_;subst zj87;refine jP zk88 fun h5 h6=>?_
 exact⟨q1,a,b,q2,rfl,h1,h3,h5,h6⟩
variable (O:Ord9 prog w A κ lt P I)
include O
theorem Yk {a₀:Array Keyed}{L1 L2:List (List Keyed)}{X Y:List Keyed}{rest:List Keyed}{Q:Bool→SortSt→Shared→Prop}{st:SortSt}{s:Shared}{i:Nat}(p0:∀ x∈a₀.toList,P x)(R:RI lt κ a₀ st (L1++X::Y::L2) rest)(hi:i=L1.length)(hI:I s)
  (q:∀ M st' s',I s'→M.length=X.length+Y.length→RI lt κ a₀ st' (L1++M::L2) rest→Q true st' s'):kasC (model prog w) A E (mergeAt' i) Q st s:=by
 subst hi
 obtain⟨pw,g1⟩:=R.at
 have R':RI lt κ a₀ st ((L1++[X])++Y::L2) rest:=by rw[List.append_assoc];exact R
 obtain⟨pw2,g2⟩:=R'.at
 rw[List.length_append,List.length_singleton,List.flatten_append,List.length_append,List.flatten_singleton] at g2
 have rX:=R.run X (by simp)
 have rY:=R.run Y (by simp)
 have hX:(arrOf st).toList=L1.flatten++(X++(Y++(L2.flatten++rest))):=by rw[R.arr];simp
 refine mergeAtC O g1 g2 R.k R.f hI hX rfl rfl rfl rfl rX.1 rY.1 (fun x hx=>p0 x (R.perm.mem_iff.mp (by rw[hX];rcases List.mem_append.mp hx with h | h <;> simp [h]))) rX.2 rY.2 fun M st' s' h' pm sm k1 f1 ar pe=>q M st' s' h' (by rw[pm.length_eq,List.length_append]) ?_
 have hlen:M.length=X.length+Y.length:=by rw[pm.length_eq,List.length_append]
 refine⟨k1,f1,?_,by rw[ar];simp,?_,fun l hl=>?_⟩
 ·refine List.Perm.trans ?_ R.perm
  rw[ar,hX]
  refine List.Perm.append_left _ ?_
  rw[←List.append_assoc X]
  exact List.Perm.append_right _ pm
 ·rw[pe,Array.toList_eraseIdxIfInBounds,Array.toList_setIfInBounds]
  have e0:=R.pend
  rw[yd] at e0
  refine Z44 (map_split e0) fun q1 a b q2 e1 e2 e3 e4 e5=>?_
  have l1:L1.length=q1.length:=by rw[←wW 0 L1,←e2,List.length_map]
  rw[l1,set_erase e1,List.map_append,List.map_cons,e2,e5,yd,Nat.zero_add]
  show wv 0 L1++(L1.flatten.length,X.length+Y.length)::_=wv 0 L1++(L1.flatten.length,M.length)::wv (L1.flatten.length+M.length) L2
  rw[hlen,Nat.add_assoc]
 ·rcases List.mem_append.mp hl with h | h
  ·exact R.run l (List.mem_append_left _ h)
  ·rcases List.mem_cons.mp h with rfl | h
   ·exact⟨by omega,sm⟩
   ·exact R.run l (by simp [h])
end
theorem split2 {α:Type}{l:List α}{i:Nat}(h:i+1<l.length):∃ p x y q,l=p++x::y::q∧p.length=i:=by
 refine⟨l.take i,l[i],l[i+1],l.drop (i+2),?_,by rw[List.length_take];exact oq90 h⟩
 rw[←List.drop_eq_getElem_cons,←List.drop_eq_getElem_cons,List.take_append_drop]
section
variable {prog:Program}{w:World}{A:Around}{E:Value→Shared→Prop}{κ:SortKind}{lt:Keyed→Keyed→Bool}{P:Keyed→Prop}{I:Shared→Prop}
theorem RI.bk {a₀:Array Keyed}{st st₁:SortSt}{L:List (List Keyed)}{rest:List Keyed}{lo:Nat}(R:RI lt κ a₀ st L rest)(hlo:L.flatten.length=lo)(b:Bk st st₁ lo):RI lt κ a₀ st₁ L ((arrOf st₁).toList.drop lo):=by
 refine⟨b.k.trans R.k,b.f.trans R.f,b.perm.trans R.perm,?_,by rw[b.p];exact R.pend,R.run⟩
 have e:(arrOf st₁).toList.take lo=L.flatten:=by
  have:(arrOf st).toList.take lo=L.flatten:=by rw[R.arr,List.take_append_of_le_length (by exact qi hlo),List.take_of_length_le (by exact qe hlo)]
  rw[←this]
  refine List.ext_getElem? fun k=>?_
  rcases Nat.lt_or_ge k lo with h | h
  ·rw[List.getElem?_take_of_lt h,List.getElem?_take_of_lt h,Array.getElem?_toList,Array.getElem?_toList];exact b.pre k h
  ·rw[List.getElem?_take_eq_none h,List.getElem?_take_eq_none h]
 rw[←e,List.take_append_drop]
theorem asc_pair {X:Array Keyed}{lo n:Nat}(h:YA lt X lo n):((X.toList.drop lo).take n).Pairwise (kq lt):=by
 refine List.pairwise_iff_getElem.mpr fun i j hi hj hij=>?_
 rw[List.length_take,List.length_drop] at hj
 have g:∀ t (ht:t<((X.toList.drop lo).take n).length),X[lo+t]?=some ((X.toList.drop lo).take n)[t]:=fun t ht=>by
  have h2:=List.getElem?_eq_getElem ht
  rw[List.getElem?_take_of_lt (by rw[List.length_take] at ht;exact YX ht),List.getElem?_drop,Array.getElem?_toList] at h2
  exact h2
 exact h (lo+i) (lo+j) (by exact kg ju jc (qA jc ja) qt ) (by exact jq jr (qA jc ja) (qA jc jd) jA jd qt hij) (by exact oq91 hj) _ _ (g j _) (g i _)
theorem ZB {α β:Type}{p:Array α}{k:Nat}{f:α→α}{g:α→β}(h:∀ x,g (f x)=g x):(p.modify k f).toList.map g=p.toList.map g:=by
 rw[Array.toList_modify]
 refine List.ext_getElem? fun t=>?_
 rw[List.getElem?_map,List.getElem?_map,List.getElem?_modify]
 cases p.toList[t]? with
 | none=>rfl
 | some x =>
  by_cases e:k=t
  ·simp [e,h]
  ·simp [e]
end
section
variable {prog:Program}{w:World}{A:Around}{E:Value→Shared→Prop}{κ:SortKind}{lt:Keyed→Keyed→Bool}{P:Keyed→Prop}{I:Shared→Prop}(O:Ord9 prog w A κ lt P I)
include O
theorem sortRunsC {a₀:Array Keyed}{Q:Unit→SortSt→Shared→Prop}{st:SortSt}{s:Shared}(p0:∀ x∈a₀.toList,P x)(hk:kindOf st=κ)(hf:failedOf st=none)(hp:pendingOf st=#[])(ha:arrOf st=a₀)(hI:I s)
  (q:∀ st' s',I s'→failedOf st'=none→(arrOf st').toList.Perm a₀.toList→(arrOf st').toList.Pairwise (kq lt)→Q () st' s'):kasC (model prog w) A E sortRuns' Q st s:=by
 refine WG ?_
 have R0:RI lt κ a₀ st [] a₀.toList:=⟨hk,hf,by rw[ha],by rw[ha];rfl,by rw[hp];rfl,fun l hl=>nomatch hl⟩
 have hN:(arrOf st).size=a₀.size:=by rw[ha]
 have tot:∀ {st':SortSt} {L:List (List Keyed)} {rest:List Keyed},RI lt κ a₀ st' L rest→L.flatten.length+rest.length=a₀.size:=fun {st' L rest} R=>by
  have:=R.perm.length_eq
  rw[R.arr,List.length_append,Array.length_toList] at this;exact this
 have sz:∀ {st':SortSt} {L:List (List Keyed)} {rest:List Keyed},RI lt κ a₀ st' L rest→(arrOf st').size=a₀.size:=fun {st' L rest} R=>by
  have:=R.perm.length_eq
  rwa [Array.length_toList,Array.length_toList] at this
 have pX:∀ {st':SortSt} {L:List (List Keyed)} {rest:List Keyed},RI lt κ a₀ st' L rest→∀ x∈(arrOf st').toList,P x:=fun {st' L rest} R x hx=>p0 x (R.perm.mem_iff.mp hx)
 refine kasC_bind (jS (yN (Q:=fun c st' s'=>c.1=none∧I s'∧∃ L,RI lt κ a₀ st' L []) (fun i c st' s'=>I s'∧∃ lo L rest,c=(none,lo)∧RI lt κ a₀ st' L rest∧L.flatten.length=lo∧i≤lo) ⟨hI,0,[],_,rfl,R0,rfl,Nat.le_refl _⟩ ?_ ?_) ?_)
 ·intro F1 R1 hF1 hD1 i hY1
  intro c st₁ s₁ hi zx41
  refine jP zx41 fun hI₁ zw40=>?_
  refine Zz zw40 fun lo L rest zy42 zz43=>?_
  subst zy42
  refine kH zz43 fun R hlo hil=>?_
  subst hF1
  dsimp -zeta only
  have ht:=tot R
  have hs₁:=sz R
  by_cases hge:lo≥(arrOf st).size
  ·refine kZ hge (kasC_pure (hD1 _ _ _ ⟨rfl,hI₁,L,?_⟩))
   obtain rfl:rest=[]:=List.length_eq_zero_iff.mp (by exact qa (yS ka jc jw ja jd je jl (qA jl jc) ja jd je qt (qi hN) (qi hlo) (qe ht) hge) (kg jO jw jc qt ))
   exact R
  refine kM hge ?_
  refine kasC_bind (countRunC O R.k (pX R) (show lo+((arrOf st).size - lo)≤_ by exact jV ka (qA jc ja) jd je jl jl jd (qA ja jc) je qt (qe hN) (qi hs₁) (qx (jq ju jc ja jg ja qt (qn hge)))) (show 1≤(arrOf st).size - lo by exact jt jr jj jc jA jd jd (qA jc ja) qt (qn hge) qw) hI₁ fun n st₂ s₂ h₂ bk n1 n2 as=>?_)
  dsimp -zeta only
  extract_lets n0 jp
  have hi:i<(arrOf st).size:=hi
  have hj:∀ (n:Nat) (st₃:SortSt) (s₃:Shared),I s₃→Bk st₁ st₃ lo→1≤n→n≤(arrOf st).size - lo→YA lt (arrOf st₃) lo n→kasC (model prog w) A E (jp () n) R1 st₃ s₃:=by
   intro n st₃ s₃ h₃ bk n1 n2 as
   have R₃:=R.bk hlo bk
   have srt:=asc_pair as
   generalize (arrOf st₃).toList.drop lo=rest₃ at R₃ srt
   have ht₃:=tot R₃
   refine WG ?_
   extract_lets z1 jp2
   have hj2:∀ (st₄:SortSt) (s₄:Shared) (L':List (List Keyed)),I s₄→RI lt κ a₀ st₄ L' rest₃→L'.flatten.length=lo→kasC (model prog w) A E (jp2 ()) R1 st₄ s₄:=by
    intro st₄ s₄ L' h₄ R₄ hl₄
    have hlen:(rest₃.take n).length=n:=by rw[List.length_take];exact oq92 hN hlo n2 ht₃
    refine ZH ?_
    refine kasC_pure (hY1 _ _ _ ⟨h₄,lo+n,L'++[rest₃.take n],rest₃.drop n,rfl,⟨R₄.k,R₄.f,R₄.perm,?_,?_,fun l hl=>?_⟩,?_,by exact jt jr jg (qA ja jd) jc ja jj jd qt hil n1⟩)
    ·show(arrOf st₄).toList=_
     rw[R₄.arr,List.flatten_append,List.flatten_singleton,List.append_assoc,List.take_append_drop]
    ·show((pendingOf st₄).push (lo,n,0)).toList.map _=_
     rw[Array.toList_push,List.map_append,R₄.pend,yd,hl₄,Nat.zero_add]
     show _++[(lo,n)]=_++[(lo,(rest₃.take n).length)]
     rw[hlen]
    ·rcases List.mem_append.mp hl with h | h
     ·exact R₄.run l h
     ·rw[List.mem_singleton.mp h];exact⟨by exact jt ju jj jc jj ja ja jc qt n1 (qi hlen),srt⟩
    ·rw[List.flatten_append,List.flatten_singleton,List.length_append,hl₄,hlen]
   clear_value jp2
   cases hbk:(pendingOf st₃).back? with
   | none =>
    exact hj2 st₃ s₃ L h₃ R₃ hlo
   | some t =>
    obtain⟨s1,n1,w1⟩:=t
    dsimp -zeta only
    extract_lets pw
    refine kasC_bind (jS (yN (Q:=fun c st' s'=>c.1=none∧I s'∧∃ L',RI lt κ a₀ st' L' rest₃∧L'.flatten.length=lo) (fun t c st' s'=>c.1=none∧I s'∧∃ L',RI lt κ a₀ st' L' rest₃∧L'.flatten.length=lo) ⟨rfl,h₃,L,R₃,hlo⟩ ?_ fun J J J h=>h) ?_)
    ·intro F2 R2 hF2 hD2 t hY2
     intro c st₄ s₄ _ zb45
     refine kH zb45 fun hc h₄ za44=>?_
     refine jo za44 fun L' R₄ hl₄=>?_
     subst hF2
     dsimp -zeta only
     refine WG ?_
     extract_lets pp
     have hps:pp.size=L'.length:=R₄.size
     cases hpp:(if pp.size>1 then pp[pp.size - 2]? else none) with
     | none=>exact kasC_pure (hD2 _ _ _ ⟨rfl,h₄,L',R₄,hl₄⟩)
     | some t =>
      obtain⟨x1,x2,older⟩:=t
      by_cases ho:older≤pw
      ·exact kZ ho (kasC_pure (hD2 _ _ _ ⟨rfl,h₄,L',R₄,hl₄⟩))
      refine kM ho ?_
      have h2:pp.size>1:=by
       by_cases h:pp.size>1
       ·exact h
       ·rw[if_neg h] at hpp;cases hpp
      refine WD (split2 (l:=L') (i:=pp.size - 2) (by exact jt jr (qA jg jj) ja jd ja (qA jc qk2) jd qt (qe hps) (qx (jq jO qk2 jc (qA jj jj) jc qt h2)))) fun L1 X Y L2 zl89 hl1=>?_;subst zl89
      refine kasC_bind (Yk O p0 R₄ hl1.symm h₄ fun M st₅ s₅ h₅ hM R₅=>?_)
      refine kM (by simp) (kasC_pure (hY2 _ _ _ ⟨rfl,h₅,_,R₅,?_⟩))
      rw[←hl₄]
      simp only[List.flatten_append,List.flatten_cons,List.length_append]
      exact qa (jq ka (qA jc (qA ja jd)) (qA jc (qA je (qA jl jd))) ja (qA je jl) qt (qe hM)) (jq ka (qA jc (qA ja (qA jd je))) (qA jc (qA jl je)) (qA ja jd) jl qt (qi hM))
    ·rintro⟨c,_⟩ st₄ s₄
     intro zd47
     refine kH zd47 fun hc h₄ zc46=>?_
     refine jo zc46 fun L' R₄ hl₄=>?_
     have hc:c=none:=hc
     subst hc
     refine ZH ?_
     refine hj2 _ _ L' h₄ ⟨R₄.k,R₄.f,R₄.perm,R₄.arr,?_,R₄.run⟩ hl₄
     show((pendingOf st₄).modify ((pendingOf st₄).size - 1) fun x=>(x.1,x.2.1,pw)).toList.map _=_
     exact(ZB (g:=fun t:Nat×Nat×Nat=>(t.1,t.2.1)) (f:=fun x=>(x.1,x.2.1,pw)) (fun x=>rfl)).trans R₄.pend
  clear_value jp
  by_cases hmr:n<minRun' (arrOf st).size (arrOf st).size 0
  ·refine kZ hmr (UE ?_)
   have bs:=bk.size
   have hfo:min ((arrOf st).size - lo) (minRun' (arrOf st).size (arrOf st).size 0)≤(arrOf st).size - lo:=Nat.min_le_left _ _
   have hfn:n≤min ((arrOf st).size - lo) (minRun' (arrOf st).size (arrOf st).size 0):=Nat.le_min.mpr ⟨n2,Nat.le_of_lt hmr⟩
   refine kasC_bind (Yw O (n:=min ((arrOf st).size - lo) (minRun' (arrOf st).size (arrOf st).size 0)) (bk.k.trans R.k) (bk.pX (pX R)) (by exact oq93 hN hs₁ hge bs) n1 hfn as h₂ fun st₃ s₃ h₃ bk₃ as₃=>?_)
   exact kM (by simp) (hj _ st₃ s₃ h₃ (bk.trans bk₃) (Nat.le_trans n1 hfn) hfo as₃)
  ·exact kM hmr (hj n st₂ s₂ h₂ bk n1 n2 as)
 ·intro c st₁ s₁ zf49
  refine jP zf49 fun hI₁ ze48=>?_
  refine Zz ze48 fun lo L rest zg50 zh51=>?_
  subst zg50
  refine kH zh51 fun R hlo hil=>?_
  have ht:=tot R
  obtain rfl:rest=[]:=List.length_eq_zero_iff.mp (by have:(arrOf st).size≤lo:=hil;exact qa (yS ka jc jw ja jd je jl (qA jl jc) ja jd je qt (qi hN) (qi hlo) (qe ht) this) (kg jO jw jc qt ))
  exact⟨rfl,hI₁,L,R⟩
 ·rintro⟨c,lo⟩ st₁ s₁
  intro zj53
  refine kH zj53 fun hc hI₁ zi52=>?_
  refine Z10 zi52 fun L R=>?_
  have hc:c=none:=hc
  subst hc
  have ht:=tot R
  have hL:L.length≤a₀.size:=by
   have:∀ (L:List (List Keyed)),(∀ l∈L,1≤l.length)→L.length≤L.flatten.length:=by
    intro L
    induction L with
    | nil=>intro _;exact Nat.le_refl _
    | cons l L ih =>
     intro h
     have h1:=h l List.mem_cons_self
     have h2:=ih fun l' hl'=>h l' (List.mem_cons_of_mem _ hl')
     rw[List.flatten_cons,List.length_append,List.length_cons];exact jt jr jg (qA ja jd) jj ja jc jd qt h1 h2
   have:=this L fun l hl=>(R.run l hl).1
   rw[List.length_nil] at ht;exact jt jr jc ja (qA jd jw) ja jc jd qt (qe ht) this
  refine kasC_bind (jS (yN (Q:=fun c st' s'=>c.1=none∧I s'∧∃ L,RI lt κ a₀ st' L []∧L.length≤1) (fun i c st' s'=>c.1=none∧I s'∧∃ L,RI lt κ a₀ st' L []∧L.length+i≤a₀.size) ⟨rfl,hI₁,L,R,by exact jq ju (qA jc jw) ja jc ja qt hL⟩ ?_ ?_) ?_)
  ·intro F3 R3 hF3 hD3 i hY3
   intro c st₂ s₂ hi zl55
   refine kH zl55 fun hc hI₂ zk54=>?_
   refine jo zk54 fun L R₂ hLi=>?_
   subst hF3
   dsimp -zeta only
   have hps:=R₂.size
   refine WG ?_
   by_cases h1:(pendingOf st₂).size≤1
   ·exact kZ h1 (kasC_pure (hD3 _ _ _ ⟨rfl,hI₂,L,R₂,by exact jt ju jc jj jc ja ja jj qt (qi hps) h1⟩))
   refine kM h1 ?_
   extract_lets j0 bf j1
   have hj1:j1+1<L.length:=by
    have hj0:j0+1<L.length:=by show(pendingOf st₂).size - 2+1<_;exact jt jr (qA jg jj) ja jd ja (qA jc qk2) jd qt (qe hps) (qx (jq jO qk2 jc (qA jj jj) jc qt (qn h1)))
    show(if _ then j0 - 1 else j0)+1<_
    split
    ·exact Nat.lt_of_le_of_lt (Nat.succ_le_succ (Nat.sub_le _ _)) hj0
    ·exact hj0
   refine WD (split2 hj1) fun L1 X Y L2 zm0 hl1=>?_;subst zm0
   refine kasC_bind (Yk O p0 R₂ hl1.symm hI₂ fun M st₃ s₃ h₃ hM R₃=>?_)
   refine kM (by simp) (kasC_pure (hY3 _ _ _ ⟨rfl,h₃,_,R₃,?_⟩))
   simp only[List.length_append,List.length_cons] at hLi ⊢
   exact jq jE (qA (qA jc jA) jD) je (qA (qA jc (qA jA jj)) jd) je qt hLi
  ·intro c st₂ s₂ zn57
   refine kH zn57 fun hc hI₂ zm56=>?_
   refine jo zm56 fun L R₂ hLi=>?_
   have hLi:L.length+(arrOf st).size≤a₀.size:=hLi
   exact⟨hc,hI₂,L,R₂,by exact jt jr jc jj ja jd (qA jc jd) ja qt (qi hN) hLi⟩
  ·rintro⟨c,_⟩ st₂ s₂
   intro zp59
   refine kH zp59 fun hc hI₂ zo58=>?_
   refine jo zo58 fun L R₂ hL1=>?_
   have hc:c=none:=hc
   subst hc
   refine kasC_pure (q st₂ s₂ hI₂ R₂.f R₂.perm ?_)
   rw[R₂.arr,List.append_nil]
   cases L with
   | nil=>exact List.Pairwise.nil
   | cons l L =>
    obtain rfl:L=[]:=List.length_eq_zero_iff.mp (by simp at hL1;exact hL1▸rfl)
    rw[List.flatten_singleton]
    exact(R₂.run l List.mem_cons_self).2
end
theorem pw_lt2 {α:Type}{R:α→α→Prop}:∀ {l:List α},l.length<2→l.Pairwise R
 | [],_=>.nil
 | [_],_=>List.pairwise_singleton ..
 | _::_::l,h=>absurd h (Nat.not_lt.mpr (Nat.le_add_left 2 l.length))
theorem two_of {α:Type}:∀ {l:List α},¬ l.length<2→∃ a b r,l=a::b::r
 | [],h=>absurd Nat.two_pos h
 | [_],h=>absurd (Nat.lt_succ_self 1) h
 | a::b::r,_=>⟨a,b,r,rfl⟩
noncomputable def hp6 (h:Heap)(a:Addr)(vs:List Value):Heap:=((h.update a (Obj.mapSeq fun J=>#[])).push (seqObj "tuple" vs.toArray 0)).push (seqObj "list" #[] 0)
section
variable {s:Shared}{A:Around}{prog:Program}{w:World}{E:Value→Shared→Prop}{κ:SortKind}{lt:Keyed→Keyed→Bool}{P:Keyed→Prop}
theorem Zg {a:Addr}{vs:List Value}{n:Nat}{R:PySem.Fin→Shared→Prop}(ho:s.heap.get? a=some (seqObj "list" vs.toArray n))(hsl:vs.length≤sizeLine)
  (hkk:∀ v₁ v₂ rest,vs=v₁::v₂::rest→∀ Q:SortKind→Shared→Prop,Q κ { s with heap:=hp6 s.heap a vs }→wpAny (model prog w) A (keyKind' vs.toArray) Q E { s with heap:=hp6 s.heap a vs })
  (O:Ord9 prog w A κ lt P (fun s'=>s'={ s with heap:=hp6 s.heap a vs })) (hP:∀ x∈(pairsOf vs).toList,P x)
  (h:∀ out:Array Keyed,out.toList.Perm (pairsOf vs).toList→out.toList.Pairwise (kq lt)→R (.done (.ret .none)) { s with heap:=sortedHeap s.heap a vs (out.map (·.2)) }):wpAny (model prog w) A (Builtin.«list.sort» ⟨[.ref a],[]⟩) R E s:=by
 rw[list_sort_plain]
 refine wpAny_bind (listItems_at ho rfl ?_)
 refine wpAny_bind (listUpdate_at ho rfl ?_ (by rw[List.size_toArray];exact hsl) (Nat.zero_le _))
 obtain⟨e1,ho1⟩:∃ e1,(s.heap.update a (Obj.mapSeq fun J=>#[])).get? a=some (seqObj "list" #[] e1):=⟨_,get?_update_seq ho (fun J=>#[])⟩
 refine wpAny_bind (seqEpoch_at ho1 rfl ?_)
 refine wpAny_bind (wpAny_newTuple ?_ hsl)
 refine wpAny_bind (wpAny_newList ?_ (Nat.zero_le _))
 refine wpAny_holding ?_
 have ho6:(hp6 s.heap a vs).get? a=some (seqObj "list" #[] e1):=Heap.get?_push_of_some _ (Heap.get?_push_of_some _ ho1)
 show wpAny (model prog w) A _ R E { s with heap:=hp6 s.heap a vs }
 dsimp only
 have hpl:∀ out:Array Keyed,out.toList.Perm (pairsOf vs).toList→(out.map (·.2)).size≤sizeLine+1:=fun out p=>by
  rw[Array.size_map,←Array.length_toList,p.length_eq,Array.length_toList,pairsOf_size];exact Nat.le_succ_of_le hsl
 by_cases h2:vs.toArray.size<2
 ·rw[if_pos h2,if_pos h2]
  refine wpAny_bind (wpAny_pure ?_)
  rw[StateT.run_pure]
  refine wpAny_bind (wpAny_pure ?_)
  dsimp only
  refine wpAny_bind (seqEpoch_at ho6 rfl ?_)
  refine wpAny_bind (listUpdate_at ho6 rfl ?_ (Nat.zero_le _) (hpl (pairsOf vs) (.refl _)))
  simp only[bne_self_eq_false,Bool.false_eq_true,if_false]
  refine wpAny_pure (h (pairsOf vs) (.refl _) ?_)
  rw[List.size_toArray] at h2
  rw[pairsOf_toList]
  exact pw_lt2 (by rw[List.length_zip,Nat.min_self];exact h2)
 ·rw[if_neg h2,if_neg h2]
  rw[List.size_toArray] at h2
  refine Z30 (two_of h2) fun v₁ v₂ rest e=>?_
  refine wpAny_bind (hkk v₁ v₂ rest e _ ?_)
  have run:=sortRunsC (E:=E) O (a₀:=pairsOf vs) (Q:=fun J st' s'=>s'={ s with heap:=hp6 s.heap a vs }∧failedOf st'=none∧(arrOf st').toList.Perm (pairsOf vs).toList∧(arrOf st').toList.Pairwise (kq lt)) (st:=SortSt.mk' κ (vs.toArray.zip vs.toArray) #[] 7 none) (s:={ s with heap:=hp6 s.heap a vs }) hP rfl rfl rfl rfl rfl fun st' s' a b c d=>⟨a,b,c,d⟩
  refine wpAny_bind (wpAny_mono run ?_ fun J J e=>e)
  rintro⟨⟨⟩,st'⟩ s'
  intro zs62
  refine jP zs62 fun zq60 zr61=>?_
  subst zq60
  refine kH zr61 fun hf hp hs=>?_
  dsimp only at hf hp hs ⊢
  refine wpAny_bind (seqEpoch_at ho6 rfl ?_)
  refine wpAny_bind (listUpdate_at ho6 rfl ?_ (Nat.zero_le _) (hpl _ hp))
  rw[hf]
  simp only[bne_self_eq_false,Bool.false_eq_true,if_false]
  exact wpAny_pure (h (arrOf st') hp hs)
end
end Tw
end
section
namespace Tw
open PySem PySem.SeqAt
noncomputable instance (a b:Nat×Nat):Decidable (jX a b):=inferInstanceAs (Decidable (a.1<b.1∨(a.1=b.1∧a.2<b.2)))
theorem ple {a b c:Nat×Nat}(h1:¬ jX b a)(h2:¬ jX c b):¬ jX c a:=fun h=>by
 rcases h with h | ⟨e,h⟩
 ·rcases Nat.lt_or_ge b.1 a.1 with k | k
  ·exact h1 (.inl k)
  ·exact h2 (.inl (Nat.lt_of_lt_of_le h k))
 ·rcases Nat.lt_or_ge b.1 a.1 with k | k
  ·exact h1 (.inl k)
  ·rcases Nat.lt_or_eq_of_le k with k | k
   ·exact h2 (.inl (by rw[e];exact k))
   ·rcases Nat.lt_or_ge b.2 a.2 with j | j
    ·exact h1 (.inr ⟨k.symm,j⟩)
    ·exact h2 (.inr ⟨e.trans k,Nat.lt_of_lt_of_le h j⟩)
theorem pir (a:Nat×Nat):¬ jX a a:=fun h=>h.elim (Nat.lt_irrefl _) fun h=>Nat.lt_irrefl _ h.2
theorem pas {a b:Nat×Nat}(h1:jX a b):¬ jX b a:=fun h2=>by
 rcases h1 with h1 | ⟨e,h1⟩ <;> rcases h2 with h2 | ⟨e',h2⟩
 ·exact Nat.lt_asymm h1 h2
 ·rw[e'] at h1;exact Nat.lt_irrefl _ h1
 ·rw[e] at h2;exact Nat.lt_irrefl _ h2
 ·exact Nat.lt_asymm h1 h2
section
variable {ι:List Addr}{s:Shared}{A:Around}{prog:Program}{w:World}{E:Value→Shared→Prop}
def PrAt (h:Heap)(v:Value)(k:Nat×Nat):Prop:=∃ a n t u r,v=.ref a∧h.get? a=some { cls:=.type "tuple",data:=.seq (List.toArray (.int k.1 t::.int k.2 u::r)) n }∧∀ x∈r,∃ y t,x=Value.str y t
theorem jam {h:Heap}:∀ {xs:List Value} {ks:List (List Nat)},RepVs ι h xs (ks.map V.str)→∀ x∈xs,∃ y t,x=Value.str y t
 | _,[],r,x,hx=>by rw[r.nilI] at hx;cases hx
 | _,k::ks,r,x,hx=>by
  refine yI (RepVs.consI (show RepVs ι h _ (V.str k::ks.map V.str) from r)) fun x' ys zn1 zo2=>?_;subst zn1;refine jP zo2 fun g r'=>?_
  refine yI (g.strInv) fun y t zp3 zq4=>?_;subst zp3;refine jP zq4 fun J J=>?_
  rcases List.mem_cons.mp hx with rfl | hx
  ·exact⟨_,_,rfl⟩
  ·exact jam r' x hx
theorem pr_of {h:Heap}{x:Value}{k:(Nat×Nat)×List (List Nat)}(r:RepV ι h x (Zf k)):PrAt h x k.1:=by
 refine Zz (r.tupI) fun a n vals zr5 zs6=>?_;subst zr5;refine kH zs6 fun g J rv=>?_
 refine wZ (RepVs.consI rv) fun x1 r1 e1 g1 rv1=>?_
 refine yI (RepVs.consI rv1) fun x2 r2 zt7 zu8=>?_;subst zt7;refine jP zu8 fun g2 rv2=>?_
 obtain⟨t,rfl⟩:=g1.intI
 obtain⟨u,rfl⟩:=g2.intI
 have:vals=List.toArray (.int k.1.1 t::.int k.1.2 u::r2):=Array.toList_inj.mp e1
 subst this
 exact⟨a,n,t,u,r2,rfl,g,jam rv2⟩
theorem PrAt.keep {h h':Heap}{x:Value}{k:Nat×Nat}(p:PrAt h x k)(hk:∀ b o,h.get? b=some o→o.cls=.type "tuple"→h'.get? b=some o):PrAt h' x k:=by
 refine Z52 p fun a n t u r e g hr=>?_
 exact⟨a,n,t,u,r,e,hk _ _ g rfl,hr⟩
theorem PrAt.fn {h:Heap}{x:Value}{k k':Nat×Nat}(p:PrAt h x k)(p':PrAt h x k'):k=k':=by
 refine Z51 p fun a n t u r zv9 zw10=>?_;subst zv9;refine jP zw10 fun g hr=>?_
 refine Z52 p' fun a' n' t' u' r' e g' hr'=>?_
 cases e
 rw[g] at g'
 injection g' with g'
 injection g' with _ _ g' _
 injection g' with g' _
 have g':=congrArg Array.toList g'
 have g':Value.int k.1 t::Value.int k.2 u::r=Value.int k'.1 t'::Value.int k'.2 u'::r':=g'
 injection g' with e1 g'
 injection g' with e2 _
 injection e1 with e1 _
 injection e2 with e2 _
 exact Prod.ext (by exact oq94 e1) (by exact oq94 e2)
theorem YL {b fin:Bool}{Q:Bool→Shared→Prop}:∀ (r:List Value) (i:Nat),(∀ x∈r,∃ y t,x=Value.str y t)→Q fin s→PySem.W.KatLex prog w A b fin Q (r.zip r) i s
 | [],_,_,q=>PySem.W.kat_nil q
 | x::r,i,h,q=>by
  refine WH (h x (List.mem_cons_self ..)) fun y t zx11=>?_;subst zx11
  refine PySem.W.kat_cons (wpAny_eqBool_str ?_)
  rw[decide_eq_true rfl]
  exact PySem.W.kat_yes (YL r (i+1) (fun x hx=>h x (List.mem_cons_of_mem _ hx)) q)
theorem lt_hd {x y:Value}{a b:Nat×Nat}{Q:Bool→Shared→Prop}(hx:PrAt s.heap x a)(hy:PrAt s.heap y b)(inj:a=b→x=y)(q:Q (decide (jX a b)) s):wpAny (model prog w) A (PyProof.Rows.keyLt' (PyProof.Rows.tuples' true) x y) Q E s:=by
 refine Z51 hx fun x n t u r zy12 zz13=>?_;subst zy12;refine jP zz13 fun gx hr=>?_
 refine Z51 hy fun y m t' u' r' za14 zb15=>?_;subst za14;refine jP zb15 fun gy hr'=>?_
 refine PySem.W.kat_lt gx rfl gy rfl ?_
 show PySem.W.KatLex _ _ _ _ _ _ ((Value.int a.1 t,Value.int b.1 t')::(Value.int a.2 u,Value.int b.2 u')::r.zip r') 0 s
 refine PySem.W.kat_cons (wpAny_eqBool_int (PySem.W.kat_go (fun h1=>PySem.W.kat_yes (PySem.W.kat_cons (wpAny_eqBool_int (PySem.W.kat_go (fun h2=>PySem.W.kat_yes ?_) fun h2=>PySem.W.kat_no (PySem.W.kat_one _ _ (PyProof.Rows.lt_int ?_)))))) fun h1=>PySem.W.kat_no (PyProof.Rows.oneLt_int ?_)))
 ·have e1:(a.1:Int)=b.1:=beq_iff_eq.mp h1
  have e2:(a.2:Int)=b.2:=beq_iff_eq.mp h2
  have eab:a=b:=Prod.ext (by exact oq94 e1) (by exact oq94 e2)
  have exy:=inj eab
  injection exy with exy
  subst exy
  rw[gx] at gy
  injection gy with gy
  injection gy with _ _ gy _
  injection gy with gy _
  have gy:=congrArg Array.toList gy
  have gy:Value.int a.1 t::Value.int a.2 u::r=Value.int b.1 t'::Value.int b.2 u'::r':=gy
  injection gy with _ gy
  injection gy with _ gy
  subst gy
  refine YL r _ hr ?_
  rw[decide_eq_false (by subst eab;exact pir a)] at q
  rw[decide_eq_false (by simp)];exact q
 ·have e1:(a.1:Int)=b.1:=beq_iff_eq.mp h1
  have:decide (jX a b)=decide ((a.2:Int)<b.2):=decide_eq_decide.mpr (by unfold jX;exact oq95 e1)
  rw[this] at q;exact q
 ·have e1:¬ (a.1:Int)=b.1:=fun h=>by rw[beq_iff_eq.mpr h] at h1;cases h1
  have:decide (jX a b)=decide ((a.1:Int)<b.1):=decide_eq_decide.mpr (by unfold jX;exact oq96 e1)
  rw[this] at q;exact q
theorem WY {h:Heap}{kf:Value→Nat×Nat}:∀ {vs:List Value},(∀ v∈vs,PrAt h v (kf v))→∃ fs,PySem.W.KatTups h vs fs∧fs.length=vs.length∧∀ f∈fs,∃ i t,f=Value.int i t
 | [],_=>⟨[],.nil,rfl,fun J h=>nomatch h⟩
 | v::vs,hp=>by
  refine Z51 (hp v (List.mem_cons_self ..)) fun a n t u r zc16 zd17=>?_;subst zc16;refine jP zd17 fun g J=>?_
  refine kL (WY (kf:=kf) (vs:=vs) fun v hv=>hp v (List.mem_cons_of_mem _ hv)) fun fs h1 h2 h3=>?_
  refine⟨.int (kf (.ref a)).1 t::fs,.cons g rfl rfl rfl h1,by rw[List.length_cons,List.length_cons,h2],fun f hf=>?_⟩
  rcases List.mem_cons.mp hf with rfl | hf
  ·exact⟨_,_,rfl⟩
  ·exact h3 f hf
theorem ord_hd {kf:Value→Nat×Nat}{vs:List Value}{hp:Heap}(hv:∀ v∈vs,PrAt hp v (kf v))(inj:∀ v∈vs,∀ v'∈vs,kf v=kf v'→v=v'):Ord9 prog w A (PyProof.Rows.tuples' true) (fun x y=>decide (jX (kf x.1) (kf y.1))) (fun x=>x.1∈vs) (fun s'=>s'={ s with heap:=hp }) where
 irr:=fun x J=>decide_eq_false (pir _)
 tr:=fun x y z J J J h1 h2=>decide_eq_false (ple (of_decide_eq_false h2) (of_decide_eq_false h1))
 asy:=fun x y J J h=>decide_eq_false (pas (of_decide_eq_true h))
 cmp:=fun x y s' Q hx hy hI q=>by
  subst hI
  exact lt_hd (hv _ hx) (hv _ hy) (inj _ hx _ hy) (q _ rfl)
theorem Wf {a:Addr}{vs:List Value}{n:Nat}{kf:Value→Nat×Nat}{R:PySem.Fin→Shared→Prop}(ho:s.heap.get? a=some (PyProof.Rows.seqObj "list" vs.toArray n))(hsl:vs.length≤sizeLine)(hp:∀ v∈vs,PrAt s.heap v (kf v))(inj:∀ v∈vs,∀ v'∈vs,kf v=kf v'→v=v')
  (h:∀ out:Array Value,out.toList.Perm vs→out.toList.Pairwise (fun x y=>¬ jX (kf y) (kf x))→R (.done (.ret .none)) { s with heap:=PyProof.Rows.sortedHeap s.heap a vs out }):wpAny (model prog w) A (Builtin.«list.sort» ⟨[.ref a],[]⟩) R E s:=by
 have keep:∀ b o,s.heap.get? b=some o→o.cls=.type "tuple"→(hp6 s.heap a vs).get? b=some o:=fun b o g hc=>by
  refine Heap.get?_push_of_some _ (Heap.get?_push_of_some _ ?_)
  rw[Heap.get?_update_other _ _ (fun e=>?_)]
  ·exact g
  ·have e:o=PyProof.Rows.seqObj "list" vs.toArray n:=by
    first
     | exact Option.some.inj (g.symm.trans (e▸ho))
     | exact Option.some.inj (g.symm.trans (e.symm▸ho))
   rw[e] at hc
   have hc:Value.type "list"=Value.type "tuple":=hc
   injection hc with hc
   exact absurd hc (by decide)
 have hp6':∀ v∈vs,PrAt (hp6 s.heap a vs) v (kf v):=fun v hv=>(hp v hv).keep keep
 refine Zg ho hsl (κ:=PyProof.Rows.tuples' true) (lt:=fun x y=>decide (jX (kf x.1) (kf y.1))) (P:=fun x=>x.1∈vs) (fun v₁ v₂ rest e Q q=>?_) (ord_hd hp6' inj) (fun x hx=>?_) fun out p o=>?_
 ·refine kL (WY hp6') fun fs t1 t2 t3=>?_
  refine PySem.W.kat_kind (T:=.type "int") t1 (by rw[t2,e];exact Nat.succ_pos _) (fun v hv=>?_) (by decide) ?_
  ·refine WH (t3 v hv) fun i t ze18=>?_;subst ze18
   exact .of_pure rfl
  rw[show((Value.type "int") != Value.type "tuple")=true from by decide]
  exact q
 ·rw[PyProof.Rows.pairsOf_toList] at hx
  exact(PyProof.Rows.mem_zip_self hx).2
 ·have e2:(PyProof.Rows.pairsOf vs).toList.map (·.2)=vs:=by rw[PyProof.Rows.pairsOf_toList];exact List.map_snd_zip (Nat.le_refl _)
  refine h _ ?_ ?_
  ·have:=p.map (·.2)
   rw[e2] at this
   rwa [Array.toList_map]
  ·rw[Array.toList_map,List.pairwise_map]
   refine List.Pairwise.imp_of_mem ?_ o
   intro x y hx hy hle
   have hx1:=(p.mem_iff.mp hx)
   have hy1:=(p.mem_iff.mp hy)
   rw[PyProof.Rows.pairsOf_toList] at hx1 hy1
   have hle:decide (jX (kf y.1) (kf x.1))=false:=hle
   rw[(PyProof.Rows.mem_zip_self hx1).1,(PyProof.Rows.mem_zip_self hy1).1] at hle
   exact of_decide_eq_false hle
end
section
variable {cx:Cx}{ι:List Addr}{ρ:jz}{H:H}{s:Shared}{A:Around}{prog:Program}{w:World}{E:Value→Shared→Prop}
theorem KX (S:St cx ι ρ H s)(hh:A.handled=none){n:Nat}{d:Addr}{vs:List V}{R:List Value→Shared→Prop}(gi:ι[n]?=some d)(hi:Wp H n vs)
  (q:∀ (h':Heap) (tk:Nat) (xs:List Value),(∀ b o,s.heap.get? b=some o→h'.get? b=some o)→s.heap.objs.size<h'.objs.size→RepVs ι s.heap xs vs→vs.length≤SZ→R xs { s with heap:=h',toks:=tk }):wpAny (model prog cx.w) A (collect (.ref d)) R E s:=by
 have hz:sizeLine=SZ:=rfl
 rcases hi with ⟨es,ver,hH,rfl⟩ | hH
 ·obtain⟨ents,D⟩:=S.dict gi hH
  have e:ents.size=es.length:=by rw[←Array.length_toList,D.rep.length]
  exact YD hh (S.notMods gi) D.get (by rw[e,hz];exact D.le) fun h' tk hk hs=>q h' tk _ hk hs (keys_reps D.rep) (by rw[List.length_map];exact D.le)
 ·refine wZ (S.objOf gi hH) fun vals m g rv z=>?_
  refine PyProof.Rows.collect_list (vs:=vals.toList) (jm g) (q _ s.toks vals.toList (fun b o e=>?_) ?_ rv z) (by rw[rv.length,hz];exact z)
  ·rw[Heap.get?_update_other _ _ (fun e'=>Nat.lt_irrefl _ (by rw[←e'] at e;exact Heap.lt_size e))]
   exact Heap.get?_push_of_some _ e
  ·rw[Heap.size_update,PyProof.Rows.size_push'];exact Nat.lt_succ_self _
theorem sort_end (S:St cx ι ρ H s)(ok:CxOk cx){h₁:Heap}{tk:Nat}{xs:List Value}{out:Array Value}{ws:List V}{Q:V→Tw.H→Prop}(k1:∀ b o,s.heap.get? b=some o→h₁.get? b=some o)(hsz:s.heap.objs.size<h₁.objs.size)
  (r:∀ h,(∀ b o,s.heap.get? b=some o→h.get? b=some o)→RepVs ι h out.toList ws) (hl:ws.length≤SZ) (q:Q (.ref H.length) (H++[.list ws])) :
  Post cx ι ρ s Q (.ref h₁.objs.size) { s with heap:=PyProof.Rows.sortedHeap (h₁.push (PyProof.Rows.seqObj "list" xs.toArray 0)) h₁.objs.size xs out,toks:=tk }:=by
 have gD:(h₁.push (PyProof.Rows.seqObj "list" xs.toArray 0)).get? h₁.objs.size=some (PyProof.Rows.seqObj "list" xs.toArray 0):=Heap.get?_push_size _ rfl
 have k2:∀ b o,s.heap.get? b=some o→(h₁.push (PyProof.Rows.seqObj "list" xs.toArray 0)).get? b=some o:=fun b o e=>Heap.get?_push_of_some _ (k1 b o e)
 obtain⟨e,gE⟩:=PyProof.Rows.sortedHeap_at (out:=out) gD
 have k3:∀ b o,s.heap.get? b=some o→(PyProof.Rows.sortedHeap (h₁.push (PyProof.Rows.seqObj "list" xs.toArray 0)) h₁.objs.size xs out).get? b=some o:=fun b o e=>by
  have hb:=Heap.lt_size (k1 b o e)
  rw[PyProof.Rows.sortedHeap_old (Nat.ne_of_lt hb) (Heap.lt_size (k2 b o e))]
  exact k2 b o e
 obtain⟨S',M⟩:=S.new ok (o:=.list ws) tk k3 (Nat.le_of_lt hsz) ⟨out,e,gE,r _ k3,hl⟩
 exact⟨_,_,_,M,S',Ja S _,q⟩
theorem Zh (S:St cx ι ρ H s)(ok:CxOk cx)(hh:A.handled=none){x:Value}{v:V}{Q:V→Tw.H→Prop}(r:RepV ι s.heap x v)(h:SortW v H Q):wpAny (model prog cx.w) A (call (.builtin "sorted") [x]) (Post cx ι ρ s Q) E s:=by
 refine jo (asRef.inv h) fun n zf19 zg20=>?_;subst zf19;refine jo zg20 fun vs hi h1=>?_
 refine jo (r.refI) fun d zh21 gi=>?_;subst zh21
 have hz:sizeLine=16777216:=rfl
 have hz':SZ=16777216:=rfl
 refine Calls.call_function_entry PyProof.Rows.kind_sorted PyProof.Rows.plain_sorted PyProof.Rows.entry_sorted (PyProof.Rows.args_sorted1 _) ?_
 unfold Builtin.«sorted»
 refine wpAny_bind (m:=checkCount "sorted" 1 1 _) (wpAny_pure ?_)
 refine wpAny_bind (KX (A:=A.in1) S hh gi hi fun h₁ tk xs k1 hsz rx hle=>?_)
 have hxl:xs.length≤sizeLine:=by rw[rx.length];exact jV jr jc ja (qN 16777216) ja jd (qN 16777216) jc jd qt (qi hz) (qe hz') hle
 refine wpAny_bind (wpAny_newList ?_ hxl)
 have gD:(h₁.push (PyProof.Rows.seqObj "list" xs.toArray 0)).get? h₁.objs.size=some (PyProof.Rows.seqObj "list" xs.toArray 0):=Heap.get?_push_size _ rfl
 show wpAny _ _ _ _ _ { s with heap:=h₁.push (PyProof.Rows.seqObj "list" xs.toArray 0),toks:=tk }
 rcases h1 with h1 | h1
 ·exact h1.elim
 rcases h1 with h1 | h1
 ·exact h1.elim
 rcases h1 with ⟨ks,rfl,nd,q⟩ | h1
 ·have rl:=rx.length
  rw[List.length_map] at rl
  have hp:∀ (i:Nat) v k,xs[i]?=some v→ks[i]?=some k→RepV ι s.heap v (Zf k):=fun i v k hv hk=>by
   refine jo (rx.get (k:=i) (v:=Zf k) (by rw[List.getElem?_map,hk];rfl)) fun y hy ry=>?_
   rw[hv] at hy;cases hy;exact ry
  have ndi:∀ {i j:Nat} {k k'},ks[i]?=some k→ks[j]?=some k'→k.1=k'.1→i=j:=fun {i j k k'} hi hj e=>by
   have hl:=(List.getElem?_eq_some_iff.mp hi).1
   exact(List.getElem?_inj (by rw[List.length_map];exact hl) nd).mp (by rw[List.getElem?_map,List.getElem?_map,hi,hj,Option.map_some,Option.map_some,e])
  obtain⟨g,hg⟩:∃ g:Value→(Nat×Nat)×List (List Nat),∀ i v k,xs[i]?=some v→ks[i]?=some k→g v=k:=by
   refine⟨fun v=>Classical.epsilon fun k=>∃ i:Nat,xs[i]?=some v∧ks[i]?=some k,fun i v k hv hk=>?_⟩
   refine jo (Classical.epsilon_spec (p:=fun k=>∃ i:Nat,xs[i]?=some v∧ks[i]?=some k) ⟨k,i,hv,hk⟩) fun j h1 h2=>?_
   have:=ndi hk h2 ((pr_of (hp i v k hv hk)).fn (pr_of (hp j v _ h1 h2)))
   subst this
   exact Option.some.inj (h2.symm.trans hk)
  have at':∀ v∈xs,∃ (i:Nat) (k:_),xs[i]?=some v∧ks[i]?=some k∧g v=k:=fun v hv=>by
   obtain⟨i,hi⟩:=List.mem_iff_getElem?.mp hv
   have hl:=(List.getElem?_eq_some_iff.mp hi).1
   obtain⟨k,hk⟩:∃ k,ks[i]?=some k:=⟨_,List.getElem?_eq_getElem (by exact jt jr jg ja jd ja jg jd qt (qe rl) hl)⟩
   exact⟨i,k,hi,hk,hg i v k hi hk⟩
  have rep:∀ v∈xs,RepV ι s.heap v (Zf (g v)):=fun v hv=>by
   refine wZ (at' v hv) fun i k h1 h2 e=>?_
   rw[e];exact hp i v k h1 h2
  have inj:∀ v∈xs,∀ v'∈xs,(g v).1=(g v').1→v=v':=fun v hv v' hv' e=>by
   refine wZ (at' v hv) fun i k h1 h2 e1=>?_
   refine wZ (at' v' hv') fun j k' h3 h4 e2=>?_
   have:=ndi h2 h4 (by rw[←e1,←e2];exact e)
   subst this
   rw[h1] at h3;exact Option.some.inj h3
  have exs:xs.map g=ks:=by
   apply List.ext_getElem?
   intro i
   rw[List.getElem?_map]
   by_cases hi:i<ks.length
   ·rw[List.getElem?_eq_getElem (show i<xs.length by exact jt jr jg ja jd ja jg jd qt (qi rl) hi),List.getElem?_eq_getElem hi]
    exact congrArg some (hg i _ _ (List.getElem?_eq_getElem (by exact jt jr jg ja jd ja jg jd qt (qi rl) hi)) (List.getElem?_eq_getElem hi))
   ·rw[List.getElem?_eq_none (by exact jt jr jc ja jc jd jd ja qt (qe rl) (qm hi)),List.getElem?_eq_none (by exact qm hi)];rfl
  refine wpAny_bind (wpAny_holding (wpAny_call_entry PyProof.Rows.slot_list_sort ⟨_,gD,rfl⟩ PyProof.Rows.entry_list_sort (Wf (kf:=fun v=>(g v).1) gD hxl (fun v hv=>(pr_of (rep v hv)).keep fun b o g J=>Heap.get?_push_of_some _ (k1 b o g)) inj fun out p1 p2=>⟨_,rfl,?_⟩) (PyProof.Rows.args_list_sort _)))
  refine wpAny_pure ⟨_,rfl,sort_end S ok k1 hsz (ws:=(out.toList.map g).map Zf) (fun h' hk=>?_) ?_ (q _ (exs▸p1.map g) (List.pairwise_map.mpr p2))⟩
  ·have all:∀ v∈out.toList,v∈xs:=fun v hv=>p1.mem_iff.mp hv
   clear p1 p2
   generalize out.toList=l at all
   induction l with
   | nil=>exact .nil
   | cons v l ih=>exact .cons ((rep v (all v (List.mem_cons_self ..))).mono (List.prefix_refl _) (.of_ext hk)) (ih fun u hu=>all u (List.mem_cons_of_mem _ hu))
  ·rw[List.length_map,List.length_map,p1.length_eq,rl]
   rw[List.length_map] at hle;exact hle
 ·exact h1.elim
end
section
variable {cx:Cx}{ι:List Addr}{ρ:jz}{H:H}{s:Shared}{A:Around}{prog:Program}{E:Value→Shared→Prop}
noncomputable def Bi.py:Bi→Value
 | .len=>.builtin "len" | .range=>.type "range" | .list=>.type "list" | .dict=>.type "dict" | .sorted=>.builtin "sorted" | .int=>.type "int" | .min=>.builtin "min" | .max=>.builtin "max"
theorem Post.listE (S:St cx ι ρ H s)(ok:CxOk cx){h':Heap}{vals:Array Value}{n:Nat}{vs:List V}{Q:V→Tw.H→Prop}(tk:Nat)(hk:∀ b ob,s.heap.get? b=some ob→h'.get? b=some ob)
  (g:h'.get? s.heap.objs.size=some { cls:=.type "list",data:=.seq vals n }) (r:RepVs ι s.heap vals.toList vs) (hl:vs.length≤SZ) (q:Q (.ref H.length) (H++[.list vs])) :
  Post cx ι ρ s Q (.ref s.heap.objs.size) { s with heap:=h',toks:=tk }:=by
 obtain⟨S',M⟩:=S.new ok (o:=.list vs) tk hk (Nat.le_refl _) ⟨vals,n,g,r.mono (List.prefix_refl _) (.of_ext hk),hl⟩
 exact⟨_,_,_,M,S',Ja S _,q⟩
theorem Uj {h:Heap}:∀ (n:Nat) (a c:Int) (vals:List Value),vals.length=n→(∀ (i:Nat) v,vals[i]?=some v→∃ t,v=.int (a+i * c) t)→RepVs ι h vals (yK a c n)
 | 0,a,c,vals,hl,_=>by
  have:vals=[]:=List.length_eq_zero_iff.mp hl
  subst this;exact .nil
 | n+1,a,c,[],hl,_=>by simp at hl
 | n+1,a,c,v::vals,hl,hv=>by
  obtain⟨t,rfl⟩:=hv 0 v rfl
  have e:a+((0:Nat):Int) * c=a:=by simp
  rw[e]
  refine .cons (.int a t) (Uj n (a+c) c vals (by simpa using hl) fun i v h=>?_)
  obtain⟨t,rfl⟩:=hv (i+1) v (by simpa using h)
  refine⟨t,?_⟩
  have:a+c+(i:Int) * c=a+((i+1:Nat):Int) * c:=by rw[Int.natCast_add,Int.add_mul];simp;exact oq97
  rw[this]
theorem rep_range {h:Heap}{a:Addr}{x y z:Int}{t u v:Tok}(g:h.get? a=some { cls:=.type "range",data:=.fields #[.int x t,.int y u,.int z v] }) (hs:jH x∧jH y∧jH z∧0<z):RepV ι h (.ref a) (.rng x y z):=.rng g hs
theorem len_sound (S:St cx ι ρ H s){x:Value}{v:V}{Q:V→Tw.H→Prop}(r:RepV ι s.heap x v)(h:LenW v H Q):wpAny (model prog cx.w) A (call (.builtin "len") [x]) (Post cx ι ρ s Q) E s:=by
 have hz:SZ=16777216:=rfl
 cases v with
 | str w =>
  refine yI (r.strInv) fun y t zi22 zj23=>?_;subst zi22;refine jP zj23 fun zk24 z=>?_;subst zk24
  refine PyProof.Rows.len_str (by omega) (.tok S ?_ h _)
  rw[←ki];exact .int _ _
 | tup vs =>
  refine Zz (r.tupI) fun a n vals zl25 zm26=>?_;subst zl25;refine kH zm26 fun g z rv=>?_
  have hl:vals.size=vs.length:=by rw[←Array.length_toList,rv.length]
  refine PySem.P.len_tuple g (by omega) (.tok S ?_ h _)
  rw[hl];exact .int _ _
 | ref n =>
  refine jo (r.refI) fun a zn27 gi=>?_;subst zn27
  refine jo (S.obj gi) fun o hH J=>?_
  unfold LenW at h
  dsimp only at h
  rw[hH] at h
  cases o with
  | list vs =>
   refine wZ (S.objOf gi hH) fun vals m g rv z=>?_
   have hl:vals.size=vs.length:=by rw[←Array.length_toList,rv.length]
   refine PyProof.Rows.len_list (jm g) (by omega) (.tok S ?_ h _)
   rw[hl];exact .int _ _
  | frz vs =>
   refine kL (S.objOf gi hH) fun vals g rv z=>?_
   have hl:vals.size=vs.length:=by rw[←Array.length_toList,rv.length]
   refine PyProof.Rows.len_list g (by omega) (.tok S ?_ h _)
   rw[hl];exact .int _ _
  | dict es ep=>exact h.elim
 | _=>exact h.elim
theorem Post.rng (S:St cx ι ρ H s){Q:V→Tw.H→Prop}{x y z:Int}{t u v:Tok}(tk:Nat)(hs:jH x∧jH y∧jH z∧0<z)(q:Q (.rng x y z) H) :
  Post cx ι ρ s Q (.ref s.heap.objs.size) { s with heap:=s.heap.push { cls:=.type "range",data:=.fields #[.int x t,.int y u,.int z v] },toks:=tk }:=by
 have hk:∀ b ob,s.heap.get? b=some ob→(s.heap.push { cls:=.type "range",data:=.fields #[.int x t,.int y u,.int z v] }).get? b=some ob:=fun J J e=>Heap.get?_push_of_some _ e
 exact⟨_,ι,H,.ext hk,S.ext tk hk,rep_range (get?_fresh rfl) hs,q⟩
theorem YF (S:St cx ι ρ H s){vals:List Value}{vs:List V}{Q:V→Tw.H→Prop}(r:RepVs ι s.heap vals vs)(h:RangeW vs H Q):wpAny (model prog cx.w) A (call (.type "range") vals) (Post cx ι ρ s Q) E s:=by
 have s1:jH 1:=by unfold jH;decide
 have s0:jH 0:=by unfold jH;decide
 match vs,r,h with
 | [a],r,h =>
  obtain⟨x,rfl,g⟩:=r.oneI
  obtain⟨i,rfl,h1⟩:=asInt.inv h
  obtain⟨t,rfl⟩:=g.intI
  exact call_range_1 (.rng S _ ⟨s0,h1.1,s1,by decide⟩ h1.2)
 | [a,b],r,h =>
  obtain⟨x,ys,rfl,g,r⟩:=r.consI
  obtain⟨y,rfl,g'⟩:=r.oneI
  obtain⟨i,rfl,h1⟩:=asInt.inv h
  obtain⟨j,rfl,h2⟩:=asInt.inv h1
  obtain⟨t,rfl⟩:=g.intI
  obtain⟨u,rfl⟩:=g'.intI
  exact call_range_2 (.rng S _ ⟨h2.1,h2.2.1,s1,by decide⟩ h2.2.2)
 | [a,b,c],r,h =>
  obtain⟨x,ys,rfl,g,r⟩:=r.consI
  obtain⟨y,zs,rfl,g',r⟩:=r.consI
  refine jo (r.oneI) fun z zo28 g''=>?_;subst zo28
  obtain⟨i,rfl,h1⟩:=asInt.inv h
  obtain⟨j,rfl,h2⟩:=asInt.inv h1
  refine jo (asInt.inv h2) fun k zp29 h3=>?_;subst zp29
  obtain⟨t,rfl⟩:=g.intI
  obtain⟨u,rfl⟩:=g'.intI
  obtain⟨v,rfl⟩:=g''.intI
  refine Z04 h3 fun q1 q2 q3 q4 q5=>?_
  exact call_range_3 (by exact oq98 q4) (.rng S _ ⟨q1,q2,q3,q4⟩ q5) (Or.inl (PyProof.noPylong_of_log2 (by
   unfold jH at q3
   have h0:k.natAbs≠0:=by omega
   have:k.natAbs<2 ^ 31:=by omega
   have:=(Nat.log2_lt h0).mpr this
   exact jq jO jg (qN 9000) jg (qN 31) qt this)))
theorem Yq {a c:Int}{n:Nat}:(yK a c n).length=n:=by
 induction n generalizing a with
 | zero=>rfl
 | succ n ih=>simp [yK,ih]
theorem YT (S:St cx ι ρ H s)(ok:CxOk cx)(hh:A.handled=none){x:Value}{v:V}{Q:V→Tw.H→Prop}(r:RepV ι s.heap x v)(h:ListW v H Q):wpAny (model prog cx.w) A (call (.type "list") [x]) (Post cx ι ρ s Q) E s:=by
 cases v with
 | rng x y z =>
  refine WD (r.rngI) fun a t u v zq30 zr31=>?_;subst zq30;refine jP zr31 fun g hs=>?_
  obtain⟨h1,h2⟩:=h
  refine call_list_range hh g (JJ hs) (wM hs.2.2.2) h1 fun h' tk acc' c' hk g' hacc=>?_
  refine Post.listE S ok (vs:=kF x y z) tk hk g' ?_ (by rw[kF,Yq];exact h1) h2
  exact Uj _ _ _ _ (by rw[Array.length_toList];exact hacc.1) fun i v hv=>hacc.2 i v (by simpa using hv)
 | ref n =>
  refine jo (r.refI) fun a zs32 gi=>?_;subst zs32
  refine jo (S.obj gi) fun o hH J=>?_
  unfold ListW at h
  dsimp only at h
  rw[hH] at h
  cases o with
  | list vs =>
   refine wZ (S.objOf gi hH) fun vals m g rv z=>?_
   have hl:vals.size=vs.length:=by rw[←Array.length_toList,rv.length]
   refine call_list_seq a (.inl rfl) g rfl rfl (fun h' c' hk g'=>?_) (by rw[hl];exact h.1)
   exact Post.listE S ok s.toks hk g' rv h.1 h.2
  | frz vs=>exact h.elim
  | dict es ep=>exact h.elim
 | _=>exact h.elim
theorem jah {vs:List V}{Q:Int→Int→Prop}(h:match vs with | [a,b]=>asInt a fun a=>asInt b fun b=>Q a b | _=>False):∃ a b,vs=[.int a,.int b]∧Q a b:=by
 match vs,h with
 | [a,b],h =>
  obtain⟨i,rfl,h1⟩:=asInt.inv h
  obtain⟨j,rfl,h2⟩:=asInt.inv h1
  exact⟨i,j,rfl,h2⟩
theorem Up (S:St cx ι ρ H s){vals:List Value}{vs:List V}{Q:V→Tw.H→Prop}{f:Int→Int→Int}{nm:String}(r:RepVs ι s.heap vals vs)(h:∃ a b,vs=[.int a,.int b]∧Q (.int (f a b)) H)
  (go:∀ (a b:Int) (t u:Tok) (Q:Value→Shared→Prop),(∀ h' tk z,(∀ c o,s.heap.get? c=some o→h'.get? c=some o)→Q (.int (f a b) z) { s with heap:=h',toks:=tk })→wpAny (model prog cx.w) A (call (.builtin nm) [.int a t,.int b u]) Q E s) :
  wpAny (model prog cx.w) A (call (.builtin nm) vals) (Post cx ι ρ s Q) E s:=by
 obtain⟨i,j,rfl,h2⟩:=h
 obtain⟨x,ys,rfl,g,r⟩:=r.consI
 obtain⟨y,rfl,g'⟩:=r.oneI
 obtain⟨t,rfl⟩:=g.intI
 obtain⟨u,rfl⟩:=g'.intI
 exact go i j t u _ fun h' tk z hk=>⟨_,ι,H,.ext hk,S.ext tk hk,.int _ _,h2⟩
theorem min_sound (S:St cx ι ρ H s)(hh:A.handled=none){vals:List Value}{vs:List V}{Q:V→Tw.H→Prop}(r:RepVs ι s.heap vals vs)(h:BiW .min vs H Q):wpAny (model prog cx.w) A (call (.builtin "min") vals) (Post cx ι ρ s Q) E s :=
 Up S (f:=min) r (jah h) fun a b t u Q q=>min_two_ints hh fun h' tk hk=>by
  by_cases c:b<a
  ·rw[if_pos c];have:=q h' tk u hk;rwa [show min a b=b by exact oq99 c] at this
  ·rw[if_neg c];have:=q h' tk t hk;rwa [show min a b=a by exact oq100 c] at this
theorem max_sound (S:St cx ι ρ H s)(hh:A.handled=none){vals:List Value}{vs:List V}{Q:V→Tw.H→Prop}(r:RepVs ι s.heap vals vs)(h:BiW .max vs H Q):wpAny (model prog cx.w) A (call (.builtin "max") vals) (Post cx ι ρ s Q) E s :=
 Up S (f:=max) r (jah h) fun a b t u Q q=>max_two_ints hh fun h' tk hk=>by
  by_cases c:b>a
  ·rw[if_pos c];have:=q h' tk u hk;rwa [show max a b=b by exact oq101 c] at this
  ·rw[if_neg c];have:=q h' tk t hk;rwa [show max a b=a by exact oq102 c] at this
theorem bi_sound (S:St cx ι ρ H s)(ok:CxOk cx)(hh:A.handled=none)(hu:A.units+50<cLine){b:Bi}{vals:List Value}{vs:List V}{Q:V→Tw.H→Prop}(r:RepVs ι s.heap vals vs)(h:BiW b vs H Q) :
  wpAny (model prog cx.w) A (call b.py vals) (Post cx ι ρ s Q) E s:=by
 cases b with
 | len =>
  refine jo (arg1.inv h) fun v zt33 h1=>?_;subst zt33
  obtain⟨x,rfl,g⟩:=r.oneI
  exact len_sound S g h1
 | range=>exact YF S r h
 | list =>
  refine jo (arg1.inv h) fun v zu34 h1=>?_;subst zu34
  obtain⟨x,rfl,g⟩:=r.oneI
  exact YT S ok hh g h1
 | int =>
  refine jo (arg1.inv h) fun v zv35 h1=>?_;subst zv35
  obtain⟨x,rfl,g⟩:=r.oneI
  refine jo (asBool.inv h1) fun b zw36 h2=>?_;subst zw36
  obtain rfl:=g.boolI
  exact call_int_bool (.tok S (.int _ _) h2 _)
 | sorted =>
  refine jo (arg1.inv h) fun v zx37 h1=>?_;subst zx37
  obtain⟨x,rfl,g⟩:=r.oneI
  exact Zh S ok hh g h1
 | _=>first | exact h.elim | exact min_sound S hh r h | exact max_sound S hh r h
noncomputable def Ty.py:Ty→Value
 | .int=>.type "int" | .bool=>.type "bool" | .list=>.type "list" | .tuple=>.type "tuple" | .str=>.type "str"
theorem is_sound (S:St cx ι ρ H s){x:Value}{v:V}{t:Ty}{Q:Bool→Prop}(r:RepV ι s.heap x v)(h:IsW v t H Q) :
  wpAny (model prog cx.w) A (call (.builtin "isinstance") [x,t.py]) (PostB s Q) E s:=by
 have yes:Q true→PostB s Q (.bool true) s:=fun q=>.here q
 have no:Q false→PostB s Q (.bool false) { s with toks:=s.toks+1 }:=fun q=>⟨false,_,rfl,rfl,q⟩
 cases v with
 | rng=>exact h.elim
 | none =>
  obtain rfl:=r.noneI
  cases t with
  | int=>exact IsiPair.NoneType_int (no h)
  | bool=>exact IsiPair.NoneType_bool (no h)
  | list=>exact IsiPair.NoneType_list (no h)
  | tuple=>exact IsiPair.NoneType_tuple (no h)
  | str=>exact IsiPair.NoneType_str (no h)
 | bool b =>
  obtain rfl:=r.boolI
  cases t with
  | int=>exact IsiPair.bool_int (yes h)
  | bool=>exact IsiPair.bool_bool (yes h)
  | list=>exact IsiPair.bool_list (no h)
  | tuple=>exact IsiPair.bool_tuple (no h)
  | str=>exact IsiPair.bool_str (no h)
 | int i =>
  obtain⟨u,rfl⟩:=r.intI
  cases t with
  | int=>exact IsiPair.int_int (yes h)
  | bool=>exact IsiPair.int_bool (no h)
  | list=>exact IsiPair.int_list (no h)
  | tuple=>exact IsiPair.int_tuple (no h)
  | str=>exact IsiPair.int_str (no h)
 | str y =>
  refine yI (r.strInv) fun y u zy38 zz39=>?_;subst zy38;refine jP zz39 fun za40 z=>?_;subst za40
  cases t with
  | int=>exact IsiPair.str_int (no h)
  | bool=>exact IsiPair.str_bool (no h)
  | list=>exact IsiPair.str_list (no h)
  | tuple=>exact IsiPair.str_tuple (no h)
  | str=>exact IsiPair.str_str (yes h)
 | tup vs =>
  refine Zz (r.tupI) fun a n vals zb41 zc42=>?_;subst zb41;refine kH zc42 fun g z rv=>?_
  cases t with
  | int=>exact IsiPair.tuple_int g rfl (no h)
  | bool=>exact IsiPair.tuple_bool g rfl (no h)
  | list=>exact IsiPair.tuple_list g rfl (no h)
  | tuple=>exact IsiPair.tuple_tuple g rfl (yes h)
  | str=>exact IsiPair.tuple_str g rfl (no h)
 | ref n =>
  refine jo (r.refI) fun a zd43 gi=>?_;subst zd43
  refine jo (S.obj gi) fun o hH J=>?_
  unfold IsW at h
  dsimp only at h
  rw[hH] at h
  cases o with
  | list vs =>
   refine wZ (S.objOf gi hH) fun vals m g rv z=>?_
   cases t with
   | int=>exact IsiPair.list_int g rfl (no h)
   | bool=>exact IsiPair.list_bool g rfl (no h)
   | list=>exact IsiPair.list_list g rfl (yes h)
   | tuple=>exact IsiPair.list_tuple g rfl (no h)
   | str=>exact IsiPair.list_str g rfl (no h)
  | frz vs=>exact h.elim
  | dict es ep =>
   obtain⟨ents,D⟩:=S.dict gi hH
   cases t with
   | int=>exact IsiPair.dict_int D.get rfl (no h)
   | bool=>exact IsiPair.dict_bool D.get rfl (no h)
   | list=>exact IsiPair.dict_list D.get rfl (no h)
   | tuple=>exact IsiPair.dict_tuple D.get rfl (no h)
   | str=>exact IsiPair.dict_str D.get rfl (no h)
noncomputable def Mt.nm:Mt→Str
 | .append=>"append" | .reverse=>"reverse" | .pop=>"pop" | .dpop=>"pop" | .clear=>"clear" | .index=>"index" | .update=>"update" | .get=>"get" | .join=>"join" | .startswith=>"startswith"
noncomputable def Mt.id:Mt→String
 | .append=>"list.append" | .reverse=>"list.reverse" | .pop=>"list.pop" | .dpop=>"dict.pop" | .clear=>"list.clear" | .index=>"list.index" | .update=>"dict.update" | .get=>"dict.get" | .join=>"str.join" | .startswith=>"str.startswith"
theorem gm_any {x:Value}{T:String}{name:Str}{id:String}{pl:Sem Bool}{Q:Value×List Value→Shared→Prop}(hT:s.TypeIs x T)(pa:PlainAttrs T)(sl:Slot T name id)(ty:typeOf (.builtin id)=pure (.type "method_descriptor"))
  (hd:∀ a,x=.ref a→∃ o,s.heap.get? a=some o∧o.dict=none) (q:Q (.builtin id,[x]) s):wpAny (model prog cx.w) A (getMethod x name pl) Q E s:=by
 refine getMethod_builtin (T:=T) (id:=id) ?a ?b ?c ?d ?e ?f
 case a=>exact hT
 case b=>exact pa
 case c=>exact sl
 case d=>exact ty
 case e=>exact hd
 case f=>exact q
structure MtFacts (T:String)(name:Str)(id:String):Prop where
 sl:Slot T name id
 ty:typeOf (.builtin id)=pure (.type "method_descriptor")
theorem mt_append:MtFacts "list" (Mt.nm .append) (Mt.id .append):=⟨F.slot_list_append,F.type_list_append⟩
theorem ZC:MtFacts "list" (Mt.nm .reverse) (Mt.id .reverse):=⟨F.slot_list_reverse,F.type_list_reverse⟩
theorem mt_clear:MtFacts "list" (Mt.nm .clear) (Mt.id .clear):=⟨F.slot_list_clear,F.type_list_clear⟩
theorem mt_index:MtFacts "list" (Mt.nm .index) (Mt.id .index):=⟨F.slot_list_index,F.type_list_index⟩
theorem mt_pop:MtFacts "list" (Mt.nm .pop) (Mt.id .pop):=⟨F.slot_list_pop,F.type_list_pop⟩
theorem mt_update:MtFacts "dict" (Mt.nm .update) (Mt.id .update):=⟨F.slot_dict_update,F.type_dict_update⟩
theorem mt_get:MtFacts "dict" (Mt.nm .get) (Mt.id .get):=⟨F.slot_dict_get,F.type_dict_get⟩
theorem mt_join:MtFacts "str" (Mt.nm .join) (Mt.id .join):=⟨F.slot_str_join,F.type_str_join⟩
theorem KU:MtFacts "str" (Mt.nm .startswith) (Mt.id .startswith):=⟨F.slot_str_startswith,F.type_str_startswith⟩
theorem mt_dpop:MtFacts "dict" (Mt.nm .dpop) (Mt.id .dpop):=⟨F.slot_dict_pop,F.type_dict_pop⟩
theorem Jq (S:St cx ι ρ H s){x:Value}{v:V}{nm:Str}{id:String}(r:RepV ι s.heap x v)(h:asRef v fun n=>∃ vs,H[n]?=some (.list vs))(f:MtFacts "list" nm id):∃ T,s.TypeIs x T∧PlainAttrs T∧MtFacts T nm id∧∀ a,x=.ref a→∃ o,s.heap.get? a=some o∧o.dict=none:=by
 refine jo (asRef.inv h) fun n ze44 zf45=>?_;subst ze44;refine Z10 zf45 fun vs hH=>?_
 refine jo (r.refI) fun a zg46 gi=>?_;subst zg46
 refine wZ (S.objOf gi hH) fun vals m g rv z=>?_
 exact⟨_,⟨_,g,rfl⟩,F.plainAttrs_list,f,fun b e=>by cases e;exact⟨_,g,rfl⟩⟩
theorem Wb (S:St cx ι ρ H s){x:Value}{v:V}{nm:Str}{id:String}(r:RepV ι s.heap x v)(h:asRef v fun n=>∃ es ver,H[n]?=some (.dict es ver))(f:MtFacts "dict" nm id):∃ T,s.TypeIs x T∧PlainAttrs T∧MtFacts T nm id∧∀ a,x=.ref a→∃ o,s.heap.get? a=some o∧o.dict=none:=by
 refine jo (asRef.inv h) fun n zh47 zi48=>?_;subst zh47;refine WH zi48 fun es ep hH=>?_
 refine jo (r.refI) fun a zj49 gi=>?_;subst zj49
 obtain⟨ents,D⟩:=S.dict gi hH
 exact⟨_,⟨_,D.get,rfl⟩,F.plainAttrs_dict,f,fun b e=>by cases e;exact⟨_,D.get,rfl⟩⟩
theorem gm_str {x:Value}{v:V}{nm:Str}{id:String}(r:RepV ι s.heap x v)(h:asStr v fun J=>True)(f:MtFacts "str" nm id):∃ T,s.TypeIs x T∧PlainAttrs T∧MtFacts T nm id∧∀ a,x=.ref a→∃ o,s.heap.get? a=some o∧o.dict=none:=by
 refine jo (asStr.inv h) fun w zk50 J=>?_;subst zk50
 refine yI (r.strInv) fun y t zl51 zm52=>?_;subst zl51;refine jP zm52 fun J J=>?_
 exact⟨_,typeIs_str s y t,F.plainAttrs_str,f,fun b e=>nomatch e⟩
theorem gm_fact (S:St cx ι ρ H s){m:Mt}{x:Value}{v:V}(r:RepV ι s.heap x v)(h:yo m v H) :
  ∃ T,s.TypeIs x T∧PlainAttrs T∧MtFacts T m.nm m.id∧∀ a,x=.ref a→∃ o,s.heap.get? a=some o∧o.dict=none:=by
 cases m with
 | append=>exact Jq S r h mt_append
 | reverse=>exact Jq S r h ZC
 | clear=>exact Jq S r h mt_clear
 | index=>exact Jq S r h mt_index
 | pop=>exact Jq S r h mt_pop
 | dpop=>exact Wb S r h mt_dpop
 | update=>exact Wb S r h mt_update
 | get=>exact Wb S r h mt_get
 | join=>exact gm_str r h mt_join
 | startswith=>exact gm_str r h KU
theorem JN (S:St cx ι ρ H s){m:Mt}{x:Value}{v:V}{pl:Sem Bool}{Q:Value×List Value→Shared→Prop}(r:RepV ι s.heap x v)(h:yo m v H)(q:Q (.builtin m.id,[x]) s) :
  wpAny (model prog cx.w) A (getMethod x m.nm pl) Q E s:=by
 refine Z13 (gm_fact S r h) fun T hT pa f hd=>?_
 exact gm_any (cx:=cx) hT pa f.sl f.ty hd q
theorem YB (S:St cx ι ρ H s){n:Nat}{a:Addr}{vals:Array Value}{m:Nat}{ws vs:List V}{v:V}{val:Value}{f:Array Value→Array Value}{Q:V→Tw.H→Prop}(gi:ι[n]?=some a)(hH:H[n]?=some (.list ws))
  (g:s.heap.get? a=some { cls:=.type "list",data:=.seq vals m }) (rf:∀ h',Imm s.heap h'→RepVs ι h' (f vals).toList vs∧RepV ι h' val v) (hl:vs.length≤SZ) (q:Q v (H.set n (.list vs))) (tk:Nat) :
  Post cx ι ρ s Q val { s with heap:=s.heap.update a (Obj.mapSeq f),toks:=tk }:=by
 have imm:Imm s.heap (s.heap.update a (Obj.mapSeq f)):=.of_but (Heap.SameBut.update ..).extBut fun o e=>by rw[g] at e;cases e;exact wD rfl
 obtain⟨r1,r2⟩:=rf _ imm
 obtain⟨S',M⟩:=S.set (o':=.list vs) tk gi (fun vs e=>by rw[hH] at e;cases e) (Heap.SameBut.update s.heap a (Obj.mapSeq f)).extBut ⟨f vals,_,Heap.get?_update_self _ g rfl,r1,hl⟩
 exact⟨v,ι,_,M,S',r2,q⟩
theorem YQ (S:St cx ι ρ H s){a:Addr}{n k:Nat}{y:Str}{t:Tok}{l:List (List Nat)}{Q:V→Tw.H→Prop}(gi:ι[n]?=some a)(hH:H[n]?=some (.list (l.map V.str)))(hk:l[k]?=some y.cps.toList)(hno:∀ j,j<k→l[j]?≠some y.cps.toList)(q:Q (.int k) H) :
  wpAny (model prog cx.w) A (call (.builtin "list.index") [.ref a,.str y t]) (Post cx ι ρ s Q) E s:=by
 obtain⟨va,m,gl,rl,z⟩:=S.objOf gi hH
 have hz:SZ=16777216:=rfl
 have hl:va.size=l.length:=by rw[←Array.length_toList,rl.length,List.length_map]
 rw[List.length_map] at z
 have hkl:=(List.getElem?_eq_some_iff.mp hk).1
 have at':∀ (i:Nat) (hi:i<va.size),∃ x u,va[i]=Value.str x u∧l[i]?=some x.cps.toList:=fun i hi=>by
  refine jo (rl.get (k:=i) (v:=.str (l[i]'(by omega))) (by rw[List.getElem?_map,List.getElem?_eq_getElem (show i<l.length by omega)];rfl)) fun v hv rv=>?_
  obtain⟨x,u,rfl,ex,_⟩:=rv.strInv
  refine⟨x,u,?_,by rw[List.getElem?_eq_getElem (show i<l.length by omega),ex]⟩
  rw[Array.getElem?_toList,Array.getElem?_eq_getElem hi] at hv
  exact Option.some.inj hv
 have he:∀ v,v∈va→MeetsSeq.EqGives v (.str y t) (match v with | .str x _=>x.cps.toList == y.cps.toList | _=>false):=fun v hv=>by
  obtain⟨i,hi,rfl⟩:=Array.mem_iff_getElem.mp hv
  refine yI (at' i hi) fun x u e J=>?_
  rw[e]
  exact SeqRoads2.EqGives.str x y u t
 refine call_meets F.slot_list_index ⟨_,gl,rfl⟩ F.entry_list_index (F.args_list_index_2 _ _) (MeetsSeq.list_index a va m (.str y t) (fun v=>match v with | .str x _=>x.cps.toList == y.cps.toList | _=>false) he k (by exact jt jr jg ja jd ja jg jd qt (qi hl) hkl) (by omega) ?_ fun i hi hik=>?_) ⟨gl,?_⟩
 ·refine yI (at' k (by exact jt jr jg ja jd ja jg jd qt (qi hl) hkl)) fun x u e ex=>?_
  rw[e]
  rw[hk] at ex
  show(x.cps.toList == y.cps.toList)=true
  rw[←Option.some.inj ex];exact beq_self_eq_true _
 ·refine yI (at' i hi) fun x u e ex=>?_
  rw[e]
  show(x.cps.toList == y.cps.toList)=false
  exact beq_eq_false_iff_ne.mpr fun h=>hno i hik (by rw[ex,h])
 ·exact .tok S (.int _ _) q _
theorem index_all (S:St cx ι ρ H s){x:Value}{vals:List Value}{o:V}{vs:List V}{Q:V→Tw.H→Prop}(rx:RepV ι s.heap x o)(rv:RepVs ι s.heap vals vs)(h:MethW .index o vs H Q):wpAny (model prog cx.w) A (call (.builtin "list.index") (x::vals)) (Post cx ι ρ s Q) E s:=by
 refine jo (asRef.inv h) fun n zn53 h1=>?_;subst zn53
 refine jo (arg1.inv h1) fun v zo54 h2=>?_;subst zo54
 refine jo (asStr.inv h2) fun sv zp55 zq56=>?_;subst zp55;refine Z23 zq56 fun l k hH hk hno q=>?_
 refine jo (rx.refI) fun a zr57 gi=>?_;subst zr57
 refine jo (rv.oneI) fun y zs58 g=>?_;subst zs58
 refine yI (g.strInv) fun y t zt59 zu60=>?_;subst zt59;refine jP zu60 fun zv61 J=>?_;subst zv61
 exact YQ S gi hH hk hno q
theorem strs_are {h:Heap}{xs:List Value}{vs:List V}{ys:List (List Nat)}(r:RepVs ι h xs vs)(e:zK vs=some ys):∃ zs:List Str,PyProof.Rows.StrsAre xs zs∧zs.map (·.cps.toList)=ys:=by
 induction xs generalizing vs ys with
 | nil =>
  cases r
  cases (show some []=some ys from e)
  exact⟨[],.nil,rfl⟩
 | cons x xs ih =>
  obtain _ | ⟨g,r⟩:=r
  cases g with
  | str x t z =>
   refine jo (Option.map_eq_some_iff.mp (show(zK _).map (x.cps.toList::·)=some ys from e)) fun ys' e' zw62=>?_;subst zw62
   refine jo (ih r e') fun zs h1 h2=>?_
   exact⟨x::zs,.cons x t h1,by rw[List.map_cons,h2]⟩
  | _=>exact nomatch (show none=some ys from e)
theorem yT:∀ (zs:List Str),(Str.join (⟨#[]⟩:Str) zs).cps.toList=zb [] (zs.map (·.cps.toList))
 | []=>rfl
 | [x]=>rfl
 | x::y::r=>by
  show((x++(⟨#[]⟩:Str))++Str.join ⟨#[]⟩ (y::r)).cps.toList=_
  rw[zO,zO,yT (y::r)]
  simp [zb]
theorem UD:∀ (xs:List (List Nat)),zb [] xs=xs.flatten
 | []=>rfl
 | [x]=>by simp [zb]
 | x::y::r=>by simp [zb,UD (y::r)]
theorem YM:∀ (zs:List Str),(zs.map (·.length)).sum=((zs.map (·.cps.toList)).map List.length).sum
 | []=>rfl
 | z::r=>by simp only[List.map_cons,List.sum_cons,YM r,ki]
theorem ZD (S:St cx ι ρ H s)(hu:A.units+50<cLine){m:Mt}{x:Value}{vals:List Value}{o:V}{vs:List V}{Q:V→Tw.H→Prop}(rx:RepV ι s.heap x o)(rv:RepVs ι s.heap vals vs)(h:MethW m o vs H Q) :
  wpAny (model prog cx.w) A (call (.builtin m.id) (x::vals)) (Post cx ι ρ s Q) E s:=by
 cases m with
 | append =>
  refine jo (asRef.inv h) fun n zx63 h1=>?_;subst zx63
  refine jo (arg1.inv h1) fun v zy64 zz65=>?_;subst zy64;refine kL zz65 fun ws hH hl q=>?_
  refine jo (rx.refI) fun a za66 gi=>?_;subst za66
  refine jo (rv.oneI) fun y zb67 g=>?_;subst zb67
  refine wZ (S.objOf gi hH) fun va k gl rl z=>?_
  have e:va.size=ws.length:=by rw[←Array.length_toList,rl.length]
  refine call_meets F.slot_list_append ⟨_,gl,rfl⟩ F.entry_list_append (F.args_list_append_2 _ _) (PySem.list_append a va k _ (by rw[e];exact z)) ⟨gl,?_⟩
  exact YB S gi hH gl (fun h' imm=>⟨by rw[Array.toList_push];exact(rl.mono (List.prefix_refl _) imm).append (.cons (g.mono (List.prefix_refl _) imm) .nil),.none⟩) (by rw[List.length_append];exact hl) q s.toks
 | reverse =>
  refine jo (asRef.inv h) fun n zc68 h1=>?_;subst zc68
  refine jP (arg0.inv h1) fun zd69 ze70=>?_;subst zd69;refine jo ze70 fun ws hH q=>?_
  refine jo (rx.refI) fun a zf71 gi=>?_;subst zf71
  obtain rfl:=rv.nilI
  refine wZ (S.objOf gi hH) fun va k gl rl z=>?_
  have e:va.size=ws.length:=by rw[←Array.length_toList,rl.length]
  refine call_meets F.slot_list_reverse ⟨_,gl,rfl⟩ F.entry_list_reverse (F.args_list_reverse_1 _) (AutoSeq1.list_reverse_list_0 a va k (by rw[e];exact z)) ⟨gl,?_⟩
  exact YB S gi hH gl (fun h' imm=>⟨by rw[Array.toList_reverse];exact(rl.mono (List.prefix_refl _) imm).reverse,.none⟩) (by rw[List.length_reverse];exact z) q s.toks
 | join =>
  refine jo (asStr.inv h) fun sep zg72 h1=>?_;subst zg72
  refine jo (arg1.inv h1) fun v zh73 h2=>?_;subst zh73
  refine jo (asRef.inv h2) fun n zi74 zj75=>?_;subst zi74;refine Z24 zj75 fun ws xs hH hs hsep hsum q=>?_
  refine yI (rx.strInv) fun y t zk76 zl77=>?_;subst zk76;refine jP zl77 fun ey zy=>?_
  refine jo (rv.oneI) fun x zm78 g=>?_;subst zm78
  refine jo (g.refI) fun a zn79 gi=>?_;subst zn79
  refine wZ (S.objOf gi hH) fun va k gl rl z=>?_
  refine jo (strs_are rl hs) fun zs hzs zo80=>?_;subst zo80
  obtain rfl:y=⟨#[]⟩:=str_inj (by rw[ey,hsep])
  subst hsep
  refine PyProof.Rows.join_list (jm gl) hzs (by rw[YM];simpa [Str.length] using hsum) fun t' tk=>?_
  rw[show Txt.join (⟨#[]⟩:Str) zs=Str.join ⟨#[]⟩ zs from StrLaws.glued_eq_join _ _]
  refine Post.tok (val:=.str (Str.join ⟨#[]⟩ zs) t') S (.strOf (yT zs) ?_) q tk
  rw[←ki,yT,UD,List.length_flatten]
  exact hsum
 | startswith =>
  refine jo (asStr.inv h) fun a zp81 h1=>?_;subst zp81
  refine jo (arg1.inv h1) fun b zq82 h2=>?_;subst zq82
  refine jo (asStr.inv h2) fun b zr83 q=>?_;subst zr83
  refine yI (rx.strInv) fun x t zs84 zt85=>?_;subst zs84;refine jP zt85 fun zu86 J=>?_;subst zu86
  refine jo (rv.oneI) fun z zv87 g=>?_;subst zv87
  refine yI (g.strInv) fun y u zw88 zx89=>?_;subst zw88;refine jP zx89 fun zy0 J=>?_;subst zy0
  refine SC.startswith ?_
  rw[Zo]
  exact .tok S (.bool _) q _
 | _=>first | exact h.elim | exact index_all S rx rv h
theorem Uc {α:Type}(l:List α)(i j:Nat):(l.drop (min i l.length)).take (min j l.length - min i l.length)=(l.take j).drop i:=by
 rw[List.drop_take]
 by_cases hi:i≤l.length
 ·rw[Nat.min_eq_left hi]
  by_cases hj:j≤l.length
  ·rw[Nat.min_eq_left hj]
  ·rw[Nat.min_eq_right (show l.length≤j by exact jq ju jc ja jg ja qt (qn hj))]
   rw[List.take_of_length_le (by simp),List.take_of_length_le (by simp;exact jt jE jc (qA ja jd) jg je je (qA ja jd) qt (qn hj) qw)]
 ·rw[Nat.min_eq_right (show l.length≤i by exact jq ju jc ja jg ja qt (qn hi)),List.drop_length,List.drop_of_length_le (show l.length≤i by exact jq ju jc ja jg ja qt (qn hi))]
  simp
theorem part_lo {y:Value}{lo:V}{h:Heap}{i:Nat}(r:RepV ι h y lo)(e:Kz lo=some i):∃ p:Option (Int×Tok),y=partValue p∧IsPart y (p.map (·.1))∧((p=none∧i=0)∨∃ t,p=some ((i:Int),t)):=by
 cases r with
 | none=>simp [Kz] at e;subst e;exact⟨none,rfl,.none,.inl ⟨rfl,rfl⟩⟩
 | int k t =>
  simp only[Kz] at e
  by_cases hk:0≤k∧k<2 ^ 62
  ·rw[if_pos hk] at e
   injection e with e
   subst e
   exact⟨some (k,t),rfl,.int k t,.inr ⟨t,by rw[Int.toNat_of_nonneg hk.1]⟩⟩
  ·rw[if_neg hk] at e;cases e
 | _=>simp [Kz] at e
theorem ZV {y:Value}{hi:V}{h:Heap}{n j:Nat}(r:RepV ι h y hi)(e:Kq n hi=some j):∃ p:Option (Int×Tok),y=partValue p∧IsPart y (p.map (·.1))∧((p=none∧j=n)∨∃ t,p=some ((j:Int),t)):=by
 cases r with
 | none=>simp [Kq] at e;subst e;exact⟨none,rfl,.none,.inl ⟨rfl,rfl⟩⟩
 | int k t =>
  simp only[Kq] at e
  by_cases hk:0≤k∧k<2 ^ 62
  ·rw[if_pos hk] at e
   injection e with e
   subst e
   exact⟨some (k,t),rfl,.int k t,.inr ⟨t,by rw[Int.toNat_of_nonneg hk.1]⟩⟩
  ·rw[if_neg hk] at e;cases e
 | _=>simp [Kq] at e
theorem Wn {p:Option (Int×Tok)}{i n:Nat}(h:(p=none∧i=0)∨∃ t,p=some ((i:Int),t)):(p.map (·.1)).elim 0 (clipAt n)=min i n:=by
 rcases h with ⟨rfl,rfl⟩ | ⟨t,rfl⟩
 ·simp
 ·exact clipAt_nat n i
theorem UZ {p:Option (Int×Tok)}{j n:Nat}(h:(p=none∧j=n)∨∃ t,p=some ((j:Int),t)):(p.map (·.1)).elim n (clipAt n)=min j n:=by
 rcases h with ⟨rfl,rfl⟩ | ⟨t,rfl⟩
 ·simp
 ·exact clipAt_nat n j
theorem KN (lo hi:Option Int)(n:Nat):Builtin.Str.strSliceIndices lo hi 1 n=sliceRange ((lo.elim 0 (clipAt n):Nat):Int) ((hi.elim n (clipAt n):Nat):Int) 1:=by
 cases lo <;> cases hi <;> simp [Builtin.Str.strSliceIndices,clipAt_cast]
theorem Yn (S:St cx ι ρ H s)(ok:CxOk cx){value:Expr}{l u:Option Expr}{p:Pos}{x yl yh:Value}{a lo hi:V}{sl:Addr}{Q:V→Tw.H→Prop}(ra:RepV ι s.heap x a)(rl:RepV ι s.heap yl lo)(rh:RepV ι s.heap yh hi)
  (hs:s.heap.get? sl=some { cls:=.type "slice",data:=.fields #[yl,yh,.none] }) (h:SliceW a lo hi H Q) :
  wpAny (model prog cx.w) A (PyProof.Rows.subscriptTail value (.Slice l u none p) x (.ref sl)) (Post cx ι ρ s Q) E s:=by
 cases a with
 | str w =>
  refine yI (ra.strInv) fun y t zz1 za2=>?_;subst zz1;refine jP za2 fun zb3 z=>?_;subst zb3
  refine wZ h fun i j e1 e2 q=>?_
  refine jo (part_lo rl e1) fun pl zc4 zd5=>?_;subst zc4;refine jP zd5 fun J hl=>?_
  refine jo (ZV rh e2) fun pu ze6 zf7=>?_;subst ze6;refine jP zf7 fun J hu=>?_
  have picked:((slicePicked y pl pu none).filterMap (y.cps[·]?))=(y.cps.toList.take j).drop i:=by
   unfold slicePicked
   rw[Option.map_none,Option.getD_none,KN,Wn hl]
   have hu':(pu=none∧j=y.length)∨∃ t,pu=some ((j:Int),t):=by rw[←ki];exact hu
   rw[UZ hu',sliceRange_one,pick_run]
   have:=Uc y.cps.toList i j
   rw[ki] at this
   exact this
  have le:((y.cps.toList.take j).drop i).length≤SZ:=by
   rw[List.length_drop,List.length_take,ki]
   have:min j y.length≤y.length:=Nat.min_le_right _ _
   exact oq103 z
  have hT:=typeIs_str s y t
  generalize hx:Value.str y t=x at hT
  refine PyProof.Rows.tail_any hT F.slot_str_getitem.lookup ?_ rfl
  subst hx
  refine wpAny_getItem_str_slice (l:=pl) (u:=pu) (st:=none) ⟨_,hs,rfl,rfl⟩ rfl ?_
  have pl':(slicePicked y pl pu none).length=((slicePicked y pl pu none).filterMap (y.cps[·]?)).length:=by
   unfold slicePicked
   rw[Option.map_none,Option.getD_none,KN,Wn hl]
   have hu':(pu=none∧j=y.length)∨∃ t,pu=some ((j:Int),t):=by rw[←ki];exact hu
   rw[UZ hu',sliceRange_one,pick_run]
   simp
   have e3:y.cps.size=y.length:=rfl
   rw[e3]
   exact(Nat.min_eq_left (Nat.sub_le_sub_right (Nat.min_le_right _ _) _)).symm
  unfold sliceMade
  split
  ·rename_i hc
   simp only[Bool.and_eq_true,beq_iff_eq] at hc
   have sub:((y.cps.toList.take j).drop i).Sublist y.cps.toList:=(List.drop_sublist _ _).trans (List.take_sublist _ _)
   have whole:(y.cps.toList.take j).drop i=y.cps.toList:=sub.eq_of_length (by rw[←picked,←pl',hc.2,ki])
   rw[whole] at q
   exact .here S (.str y t z) q
  ·refine⟨?_,?_⟩
   ·show((slicePicked y pl pu none).filterMap (y.cps[·]?)).toArray.size≤sizeLine
    rw[picked,List.size_toArray];exact le
   ·refine .tok S (.strOf (s:=(y.cps.toList.take j).drop i) ?_ ?_) q _
    ·show((slicePicked y pl pu none).filterMap (y.cps[·]?)).toArray.toList=_
     rw[picked]
    ·show((slicePicked y pl pu none).filterMap (y.cps[·]?)).toArray.size≤SZ
     rw[picked,List.size_toArray];exact le
 | ref n =>
  refine jo (ra.refI) fun b zg8 gi=>?_;subst zg8
  refine Z33 h fun vs i j hH e1 e2 q=>?_
  refine jo (part_lo rl e1) fun pl zh9 zi10=>?_;subst zh9;refine jP zi10 fun il hl=>?_
  refine jo (ZV rh e2) fun pu zj11 zk12=>?_;subst zj11;refine jP zk12 fun iu hu=>?_
  have go:∀ vals:Array Value,s.heap.IsList b vals→RepVs ι s.heap vals.toList vs→vs.length≤SZ→wpAny (model prog cx.w) A (PyProof.Rows.subscriptTail value (.Slice l u none p) (.ref b) (.ref sl)) (Post cx ι ρ s Q) E s:=by
   intro vals g rv z
   have hn:vals.size=vs.length:=by rw[←Array.length_toList,rv.length]
   refine PyProof.Rows.tail_any g.typeIs slot_list_getitem.lookup ?_ rfl
   refine wpAny_getItem_list_slice g ⟨_,hs,rfl,rfl⟩ il iu .none (by simp) ?_ (by rw[hn];exact z)
   rw[slicePick_plain,hn,Wn hl,UZ hu]
   have e:(vals.toList.drop (min i vs.length)).take (min j vs.length - min i vs.length)=(vals.toList.take j).drop i:=by
    have:=Uc vals.toList i j
    rw[rv.length] at this;exact this
   refine Post.list S ok (vs:=(vs.take j).drop i) ?_ ?_ q s.toks
   ·show RepVs ι s.heap ((vals.toList.drop (min i vs.length)).take (min j vs.length - min i vs.length)).toArray.toList _
    rw[e]
    exact(rv.take j).drop i
   ·rw[List.length_drop,List.length_take]
    have:min j vs.length≤vs.length:=Nat.min_le_right _ _
    exact oq103 z
  rcases hH with hH | hH
  ·refine wZ (S.objOf gi hH) fun vals m g rv z=>?_
   exact go vals (jm g) rv z
  ·refine kL (S.objOf gi hH) fun vals g rv z=>?_
   exact go vals g rv z
 | _=>exact h.elim
theorem zJ {a:Addr}{vals:Array Value}{m:Nat}{k:Int}{t:Tok}{z:Value}{Q:Unit→Shared→Prop}(g:s.heap.get? a=some { cls:=.type "list",data:=.seq vals m }) (h0:0≤k) (hfit:k<2 ^ 63) (hn:k<vals.size)
  (q:Q () { s with heap:=s.heap.update a (Obj.mapSeq (·.setIfInBounds k.toNat z)) }):wpAny (model prog cx.w) A (setItem (.ref a) (.int k t) z) Q E s:=by
 have hl:=jm g
 unfold setItem
 refine wpAny_holding ?_
 refine wpAny_bind (wpAny_sequenceKey hl.typeIs (by decide) ?_)
 refine wpAny_bind (wpAny_callSpecial?_slot (name:=Str.ofString "__setitem__") hl.typeIs slot_list_setitem
  (wpAny_call_entry slot_list_setitem hl.typeIs entry_list_setitem ?_ (args_list_setitem _ _ _)))
 show wpAny _ _ (Builtin.List.listSubscript? (.int k t) >>= _) _ _ s
 refine wpAny_bind (wpAny_listSubscript_int (fitsIndex_of h0 hfit) ?_)
 clear hfit
 obtain⟨j,rfl⟩:=Int.eq_ofNat_of_zero_le h0
 have hj:j<vals.size:=by exact oq104 hn
 have hx':vals[j]?=some vals[j]:=Array.getElem?_eq_getElem hj
 show wpAny _ _ ((seqItemAt a j >>= fun r=>pure (r.map (j,·))) >>= _) _ _ s
 refine wpAny_bind (wpAny_bind (wpAny_seqItemAt g rfl (wpAny_pure ?_)))
 rw[hx']
 show wpAny _ _ (setSeqItemAt a j z >>= _) _ _ s
 refine wpAny_bind (wpAny_setSeqItemAt g rfl ?_)
 first
  | exact wpAny_bind (wpAny_pure (wpAny_pure ⟨.none,rfl,wpAny_pure q⟩))
  | exact wpAny_pure ⟨.none,rfl,wpAny_pure q⟩
theorem ZL (S:St cx ι ρ H s)(hu:A.units+50<cLine){a:Addr}{n ep:Nat}{es:List (V×V)}{y z:Value}{i v:V}{Q:Tw.H→Prop}(gi:ι[n]?=some a)(hH:H[n]?=some (.dict es ep))(ri:RepV ι s.heap y i)(rv:RepV ι s.heap z v)(hk:i.isKey=true)(hl:es.length<SZ)
  (q:∀ ver,Q (H.set n (.dict (kB es i v) ver))):wpAny (model prog cx.w) A (setItem (.ref a) y z) (fun J s'=>∃ H',Mono ι s ι s'∧St cx ι ρ H' s'∧Q H') E s:=by
 obtain⟨ents,D⟩:=S.dict gi hH
 have hT:s.TypeIs (.ref a) "dict":=⟨_,D.get,rfl⟩
 refine wpAny_holding (wpAny_bind (wpAny_sequenceKey hT (by decide) ?_))
 refine wpAny_bind (wpAny_callSpecial?_slot (name:=Str.ofString "__setitem__") hT slot_dict_setitem
  (wpAny_call_entry slot_dict_setitem hT entry_dict_setitem ?_ (args_dict_setitem _ _ _)))
 show wpAny _ _ (Builtin.Dict.notOrdered "__setitem__" ⟨[.ref a,y,z],[]⟩ >>= _) _ _ s
 refine wpAny_bind (wpAny_notOrdered_dict hT ?_)
 show wpAny _ _ (dictSet a y z >>= _) _ _ s
 refine wpAny_bind (JL S (by show A.units+1+9<cLine;exact jq ju (qA (qA jg (qN 9)) jj) ja (qA (qA jc (qN 50)) jj) ja qt hu) gi hH D hl ri rv hk fun ver s' S' M=>?_)
 exact wpAny_pure ⟨.none,rfl,wpAny_pure ⟨_,M,S',q ver⟩⟩
theorem WR (S:St cx ι ρ H s)(hu:A.units+50<cLine){x y z:Value}{o i v:V}{Q:Tw.H→Prop}(ro:RepV ι s.heap x o)(ri:RepV ι s.heap y i)(rv:RepV ι s.heap z v)(h:StoreW o i v H Q) :
  wpAny (model prog cx.w) A (setItem x y z) (fun J s'=>∃ H',Mono ι s ι s'∧St cx ι ρ H' s'∧Q H') E s:=by
 refine jo (asRef.inv h) fun n zl13 h1=>?_;subst zl13
 clear h
 refine jo (ro.refI) fun a zm14 gi=>?_;subst zm14
 refine jo (S.obj gi) fun ob hH J=>?_
 rw[hH] at h1
 cases ob with
 | frz vs=>exact h1.elim
 | list vs =>
  refine jo (asInt.inv h1) fun k zn15 zo16=>?_;subst zn15;refine Z03 zo16 fun h0 J h2 q=>?_
  obtain⟨t,rfl⟩:=ri.intI
  refine wZ (S.objOf gi hH) fun vals m g rl zl=>?_
  have hn:vals.size=vs.length:=by rw[←Array.length_toList,rl.length]
  refine zJ g h0 (by omega) (by omega) ?_
  have imm:∀ f,Imm s.heap (s.heap.update a f):=fun f=>.of_but (Heap.SameBut.update ..).extBut fun o e=>by rw[g] at e;cases e;exact wD rfl
  obtain⟨S',M⟩:=S.set (o':=.list (vs.set k.toNat v)) (h':=s.heap.update a (Obj.mapSeq (·.setIfInBounds k.toNat z))) s.toks gi (fun vs e=>by rw[hH] at e;cases e) (Heap.SameBut.update ..).extBut
   ⟨vals.setIfInBounds k.toNat z,_,Heap.get?_update_self _ g rfl,by rw[Array.toList_setIfInBounds];exact(rl.mono (List.prefix_refl _) (imm _)).set k.toNat (rv.mono (List.prefix_refl _) (imm _)),by rw[List.length_set];exact zl⟩
  exact⟨_,M,S',q⟩
 | dict es ep=>exact ZL S hu gi hH ri rv h1.1 h1.2.1 h1.2.2
end
structure Wd (w:World)(P:Addr→Obj→Prop)(s0:Shared)(sc:Addr)(ι:List Addr)(H:H)(s:Shared):Prop where
 same:∃ h tk,s={ s0 with heap:=h,toks:=tk }
 len:ι.length=H.length
 nodup:ι.Nodup
 objs:∀ (n:Nat) (a:Addr) (o:MO),ι[n]?=some a→H[n]?=some o→RepO w ι s.heap a o
 low:∀ a∈ι,a≠sysModules
 scr:∀ o,s0.heap.get? sc=some o→s.heap.get? sc=some o
 scrI:∀ (n:Nat),ι[n]?=some sc→∃ vs,H[n]?=some (.frz vs)
 scrIn:sc∈ι
 prot:∀ a o,P a o→Kp s0 s.heap a o
 protI:∀ a o,P a o→a ∉ ι
inductive PostW (w:World)(P:Addr→Obj→Prop)(s0:Shared)(scr:Addr)(ι:List Addr)(s:Shared)(Q:V→H→Prop)(val:Value)(s':Shared):Prop
 | mk (v:V) (ι':List Addr) (H':H) (M:Mono ι s ι' s') (W:Wd w P s0 scr ι' H' s') (r:RepV ι' s'.heap val v) (q:Q v H')
theorem PostW.el {w:World}{P:Addr→Obj→Prop}{s0:Shared}{scr:Addr}{ι:List Addr}{s:Shared}{Q:V→H→Prop}{val:Value}{s':Shared}{G:Prop}(h:PostW w P s0 scr ι s Q val s')(k:∀ v ι' H',Mono ι s ι' s'→Wd w P s0 scr ι' H' s'→RepV ι' s'.heap val v→Q v H'→G):G:=by cases h;apply k <;> assumption
noncomputable def JF (cx:Cx)(h:Heap):Addr→Obj→Prop:=fun a o=>cx.P a o∨((a=cx.env.locals∧∃ ob,h.get? a=some ob∧o={ ob with slots:=#[none] })∨(h.get? a=some o∧∃ x,cx.env.cells.lookup x=some a))
section
variable {cx:Cx}{ι ι':List Addr}{ρ:jz}{H H':Tw.H}{s s':Shared}
theorem St.wd (S:St cx ι ρ H s):Wd cx.w cx.P cx.s0 cx.scr ι H s:=⟨S.same,S.len,S.nodup,S.objs,S.low,S.scr,S.scrI,S.scrIn,S.prot,S.protI⟩
theorem St.newL (S:St cx ι ρ H s)(ok:CxOk cx):cx.s0.heap.get? cx.env.locals=none:=by
 cases e:cx.s0.heap.get? cx.env.locals with
 | none=>rfl
 | some o=>exact absurd (ok.base _ o e fun e'=>S.nsI (e'▸S.scrIn)) (ok.loc o)
theorem St.frL (S:St cx ι ρ H s):∃ ob,s.heap.get? cx.env.locals=some ob∧Mk { ob with slots:=#[none] }:=by
 refine Z42 (S.ns) fun m o es ep g d J=>?_
 exact⟨o,g,rfl,es,ep,d⟩
theorem St.wdF (S:St cx ι ρ H s)(ok:CxOk cx):Wd cx.w (JF cx s.heap) cx.s0 cx.scr ι H s :=
 ⟨S.same,S.len,S.nodup,S.objs,S.low,S.scr,S.scrI,S.scrIn,fun a o p=>p.elim (S.prot a o) fun q=>q.elim (fun⟨e,ob,g,eo⟩=>by
   subst e;subst eo
   refine jo (S.frL) fun o' g' mk=>?_
   rw[g] at g';cases g'
   exact .inr ⟨S.newL ok,mk,ob.slots,g⟩) fun q=>.inl q.1,
  fun a o p=>p.elim (S.protI a o) fun q=>q.elim (fun e=>e.1▸S.nsI) fun⟨_,x,l⟩=>(S.cells x a l).2.1⟩
theorem Wd.nsF {h:Heap}{m:Str→Option Value}(W:Wd cx.w (JF cx h) cx.s0 cx.scr ι' H' s')(n:h.Ns cx.env.locals m):s'.heap.Ns cx.env.locals m:=by
 refine Z32 n fun o es ep g d r=>?_
 refine jo ((W.prot _ _ (.inr (.inl ⟨rfl,o,g,rfl⟩))).obj) fun o' g' d'=>?_
 exact⟨o',es,ep,g',d'.trans d,r⟩
theorem VarAt.at {env:Env}{h h':Heap}{x:Str}{val:Value}(v:VarAt env h x val)(hl:∀ m,h.Ns env.locals m→h'.Ns env.locals m)
  (hc:∀ x c v,env.cells.lookup x=some c→h.IsCell c v→h'.IsCell c v):VarAt env h' x val:=by
 rcases v with ⟨k,m,n,e⟩ | ⟨k,c,l,i⟩
 ·exact .inl ⟨k,m,hl m n,e⟩
 ·exact .inr ⟨k,c,l,hc x c _ l i⟩
theorem Wd.cell {P:Addr→Obj→Prop}{w:World}{s0:Shared}{sc:Addr}(W:Wd w P s0 sc ι' H' s'){h:Heap}{c:Addr}{v:Option Value}(i:h.IsCell c v)(hp:∀ o,h.get? c=some o→P c o):s'.heap.IsCell c v:=by
 refine jo i fun o g d=>?_
 refine jo ((W.prot c o (hp o g)).obj) fun o' g' d'=>?_
 exact⟨o',g',d'.trans d⟩
theorem St.back (S:St cx ι ρ H s)(W:Wd cx.w (JF cx s.heap) cx.s0 cx.scr ι' H' s')(M:Mono ι s ι' s'):St cx ι' ρ H' s' where
 same:=W.same
 len:=W.len
 nodup:=W.nodup
 objs:=W.objs
 low:=W.low
 scr:=W.scr
 scrI:=W.scrI
 scrIn:=W.scrIn
 prot:=fun a o p=>W.prot a o (.inl p)
 protI:=fun a o p=>W.protI a o (.inl p)
 ns:=let ⟨m,n⟩:=S.ns;⟨m,W.nsF n⟩
 nsI:=by
  obtain⟨m,n⟩:=S.ns
  obtain⟨o,g⟩:=Ns.obj n
  exact W.protI _ _ (.inr (.inl ⟨rfl,o,g,rfl⟩))
 cells:=fun x c l=>by
  refine kH (S.cells x c l) fun zp17 J h2=>?_;obtain⟨ov,ic⟩:=zp17
  obtain⟨o,g⟩:=IsCell.obj ic
  exact⟨⟨ov,W.cell ic fun o g=>.inr (.inr ⟨g,x,l⟩)⟩,W.protI c o (.inr (.inr ⟨g,x,l⟩)),h2⟩
 vars:=fun x i v hx hv=>by
  refine jo (S.vars x i v hx hv) fun val va r=>?_
  exact⟨val,va.at (fun m n=>W.nsF n) fun x c v l i=>W.cell i fun o e=>.inr (.inr ⟨e,x,l⟩),M.rep r⟩
end
structure Sc where
 nm:Str→Option Nat
 gk:Str→Bool
 ck:Str→Bool
 st:Str→Bool
 lim:Nat
 top:Bool
set_option genCtorIdx true in
inductive Gl where
 | fn (k:Nat)
 | bi (b:Bi)
 | isinst
 | ty (t:Ty)
 | const (i:Int)
 | exc
structure FnRec where
 name:Str
 params:Arguments
 body:List Stmt
 scope:Scope
abbrev UJ:=Str→Option Gl
abbrev Tab:=Nat→Option FnRec
inductive FnAt (h:Heap)(a:Addr)(f:FnRec):Prop
 | mk (o:Obj) (pm code doc:Value) (g:h.get? a=some o) (d:o.data=.func (Calls.docDef f.name f.params f.body f.scope pm code doc)) (c:h.CodeRec code f.name)
noncomputable def wY:Str:="Twofold"
noncomputable def JO:List Value:=[.type "ValueError",.type "Exception",.type "BaseException",.type "object"]
noncomputable def IsGl (T:Tab)(h:Heap)(mg mb:Str→Option Value)(x:Str):Gl→Prop
 | .fn k=>∃ a f,mg x=some (.ref a)∧T k=some f∧FnAt h a f
 | .bi b=>mg x=none∧mb x=some b.py
 | .isinst=>mg x=none∧mb x=some (.builtin "isinstance")
 | .ty t=>mg x=none∧mb x=some t.py
 | .const i=>∃ t,mg x=some (.int i t)
 | .exc=>∃ C,PyProof.Rows.OwnClsQ x C JO "ValueError.__new__" mg h
structure Gd (G:UJ)(T:Tab)(s0:Shared)(scr:Addr):Prop where
 ns:∃ mg mb,s0.heap.Ns mainGlobals mg∧s0.heap.Ns builtinsNs mb∧∀ x g,G x=some g→IsGl T s0.heap mg mb x g
 scrG:mainGlobals≠scr
 scrB:builtinsNs≠scr
 fns:∀ k f,T k=some f→∃ a,FnAt s0.heap a f
 notScr:∀ a f,FnAt s0.heap a f→a≠scr
 lim:s0.heap.NoLimit
 code:∀ c n,s0.heap.CodeRec c n→∀ h':Heap,(∀ b o,s0.heap.get? b=some o→b≠scr→h'.get? b=some o)→h'.CodeRec c n
 lim':∀ h':Heap,(∀ b o,s0.heap.get? b=some o→b≠scr→h'.get? b=some o)→h'.NoLimit
 low:∃ o,s0.heap.get? sysModules=some o∧sysModules≠scr
structure Fit (sc:Sc)(cx:Cx):Prop where
 nm:∀ x,cx.nm x=sc.nm x
 st:∀ x,cx.st x=sc.st x
 gk:∀ x,sc.gk x=true→cx.env.kindOf x=some .globalImplicit∧(x == ("__debug__":Str))=false
 ck:∀ x,sc.ck x=true→(cx.env.kindOf x=some .cell∨cx.env.kindOf x=some .free)∧∃ c,cx.env.cells.lookup x=some c
 stk:∀ x,sc.st x=true→cx.env.kindOf x=some .local∨cx.env.kindOf x=some .cell
 lim:∀ x i,sc.nm x=some i→i<sc.lim
def Bnd (n:Nat)(ρ:jz):Prop:=∀ i,n≤i→ρ i=none
def Ye (P:Addr→Obj→Prop)(s0:Shared)(env:Env):Prop:=env.scope.kind≠.module∧∃ L,env.frame=some L∧s0.heap.get? L=none∧(∃ o,P L o)∧∀ o,P L o→Mk o
def FrW (A:Around)(P:Addr→Obj→Prop)(s0:Shared):Prop:=∃ l,A.frames=some l∧∀ env∈l,Ye P s0 env
def FrAt (cx:Cx)(env:Env):Prop:=env.scope.kind≠.module∧∃ L,env.frame=some L∧cx.s0.heap.get? L=none∧(L=cx.env.locals∨((∃ o,cx.P L o)∧∀ o,cx.P L o→Mk o))
def FrX (top:Bool)(cx:Cx)(A:Around):Prop:=∃ l,A.frames=some l∧(top=true→∃ r,l=cx.env::r∧cx.env.frame=some cx.env.locals)∧∀ env∈l,FrAt cx env
theorem FrAt.one {cx:Cx}{ι:List Addr}{ρ:jz}{H:H}{s:Shared}{env:Env}(x:FrAt cx env)(S:St cx ι ρ H s)(ok:CxOk cx):Ye (JF cx s.heap) cx.s0 env:=by
 refine jP x fun k zq18=>?_;refine kL zq18 fun L f n r=>?_
 refine jo (S.frL) fun ob g mk=>?_
 refine⟨k,L,f,n,?_⟩
 rcases r with rfl | ⟨⟨o,po⟩,all⟩
 ·refine⟨⟨_,.inr (.inl ⟨rfl,ob,g,rfl⟩)⟩,fun o q=>?_⟩
  rcases q with q | ⟨_,ob',g',rfl⟩ | ⟨g',y,l⟩
  ·exact absurd q (ok.loc o)
  ·rw[g] at g';cases g';exact mk
  ·exact absurd rfl (S.cells y _ l).2.2
 ·refine⟨⟨o,.inl po⟩,fun o' q=>?_⟩
  rcases q with q | ⟨rfl,_⟩ | ⟨g',y,l⟩
  ·exact all _ q
  ·exact absurd po (ok.loc o)
  ·obtain⟨⟨ov,oc,gc,dc⟩,_⟩:=S.cells y _ l
   refine jo ((S.prot _ _ po).obj) fun o₂ g₂ d₂=>?_
   refine jP (all _ po) fun J zr19=>?_;refine WH zr19 fun es n d=>?_
   rw[gc] at g₂;cases g₂
   rw[dc,d] at d₂;cases d₂
theorem FrX.w {top:Bool}{cx:Cx}{A:Around}{ι:List Addr}{ρ:jz}{H:H}{s:Shared}(x:FrX top cx A)(S:St cx ι ρ H s)(ok:CxOk cx):FrW A (JF cx s.heap) cx.s0 :=
 let ⟨l,e,_,h⟩:=x;⟨l,e,fun env he=>(h env he).one S ok⟩
theorem FrX.keep {top:Bool}{cx:Cx}{A:Around}(x:FrX top cx A){a:Addr}(as:Aside cx a)(o:Obj):FrX top (cx.keep a o) A:=by
 refine kL x fun l e t h=>?_
 refine⟨l,e,t,fun env he=>?_⟩
 refine jP (h env he) fun k zs20=>?_;refine kL zs20 fun L f n r=>?_
 refine⟨k,L,f,n,r.imp id fun⟨⟨o',po⟩,all⟩=>⟨⟨o',.inl po⟩,fun o₂ q=>?_⟩⟩
 rcases q with q | ⟨rfl,_⟩
 ·exact all _ q
 ·exact absurd po (as.np o')
structure Sv (P:Addr→Obj→Prop)(s0:Shared)(ι:List Addr)(h base:Heap)(fs:List Addr):Prop where
 has:∀ b o,h.get? b=some o→b ∉ fs→base.get? b=some o
 out:∀ b∈fs,b ∉ ι
 mkd:∀ b∈fs,∀ o,P b o→s0.heap.get? b=none∧Mk o
 dict:∀ b∈fs,∀ o,h.get? b=some o→∃ es n,o.data=.dict es n
theorem Sv.wd {w:World}{P:Addr→Obj→Prop}{s0:Shared}{scr:Addr}{ι:List Addr}{H:H}{s:Shared}{base h':Heap}{fs:List Addr}(V:Sv P s0 ι s.heap base fs)(W:Wd w P s0 scr ι H s)(st:base.StaysIn h')(up:s.heap.UpToSlots h') :
  Wd w P s0 scr ι H { s with heap:=h' }∧Mono ι s ι { s with heap:=h' }:=by
 have keep:∀ b o,s.heap.get? b=some o→b ∉ fs→h'.get? b=some o:=fun b o e n=>st b o (V.has b o e n)
 have imm:Imm s.heap h':=fun b o e i=>keep b o e fun hm=>by
  refine WH (V.dict b hm o e) fun es n d=>?_
  exact ym d i
 refine⟨?_,List.prefix_refl _,imm⟩
 exact {
  same:=by refine WH (W.same) fun h t zt21=>?_;subst zt21;exact⟨h',t,rfl⟩
  len:=W.len
  nodup:=W.nodup
  objs:=fun n a o hn ho=>(W.objs n a o hn ho).mono (List.prefix_refl _) imm fun ob e=>keep _ _ e fun hm=>V.out a hm (List.mem_of_getElem? hn)
  low:=W.low
  scr:=fun o e=>keep _ _ (W.scr o e) fun hm=>V.out _ hm W.scrIn
  scrI:=W.scrI
  scrIn:=W.scrIn
  prot:=fun a o p=>by
   by_cases hm:a∈fs
   ·obtain⟨n0,mk⟩:=V.mkd a hm o p
    have hk:=W.prot a o p
    have:∃ sl,s.heap.get? a=some { o with slots:=sl }:=hk.elim (fun e=>⟨o.slots,e⟩) fun e=>e.2.2
    obtain⟨sl,e⟩:=this
    refine jP mk fun J zu22=>?_;refine WH zu22 fun es n d=>?_
    obtain⟨sl',e'⟩:=up a _ e fun vs q=>by rw[show({ o with slots:=sl }:Obj).data=o.data from rfl,d] at q;cases q
    exact .inr ⟨n0,⟨by assumption,es,n,d⟩,sl',e'⟩
   ·exact(W.prot a o p).mono fun o' e=>keep a o' e hm
  protI:=W.protI }
inductive PostE (w:World)(P:Addr→Obj→Prop)(s0:Shared)(scr:Addr)(l:List Env)(ι:List Addr)(s:Shared)(Q:V→H→Prop)(e:Value)(s':Shared):Prop
 | mk (a C:Addr) (mg:Str→Option Value) (a0:Value) (ι':List Addr) (H':H) (h base:Heap) (fs:List Addr) (he:e=.ref a) (g:s0.heap.Ns mainGlobals mg) (O:PyProof.Rows.OwnClsQ wY C JO "ValueError.__new__" mg s0.heap)
   (M:Mono ι s ι' { s' with heap:=h }) (W:Wd w P s0 scr ι' H' { s' with heap:=h }) (V:Sv P s0 ι' h base fs) (F:Heap.FlyingW base l a (.ref C) a0 s'.heap) (U:h.UpToSlots s'.heap) (q:Q (.bool true) H')
def Zw (prog:Program)(G:UJ)(T:Tab)(C:kO)(d:Nat):Prop :=
 ∀ {{w:World}} {{P:Addr→Obj→Prop}} {{s0:Shared}} {{scr:Addr}} {{ι:List Addr}} {{H:H}} {{s:Shared}} {{A:Around}} {{k:Nat}} {{f:FnRec}} {{a:Addr}} {{vals:List Value}} {{vs:List V}} {{Q:V→Tw.H→Prop}} {{E:Value→Shared→Prop}},
  Gd G T s0 scr→(∀ a o,s0.heap.get? a=some o→a≠scr→P a o)→Wd w P s0 scr ι H s→FrW A P s0→AOk A d→T k=some f→FnAt s0.heap a f→RepVs ι s.heap vals vs→C k vs H Q →
  wpAny (model prog w) A (call (.ref a) vals) (PostW w P s0 scr ι s Q) E s
def TryOk (prog:Program)(G:UJ)(T:Tab)(C:kO)(d:Nat):Prop :=
 ∀ {{w:World}} {{P:Addr→Obj→Prop}} {{s0:Shared}} {{scr:Addr}} {{ι:List Addr}} {{H:H}} {{s:Shared}} {{A:Around}} {{k:Nat}} {{f:FnRec}} {{a:Addr}} {{vals:List Value}} {{vs:List V}} {{Q:V→Tw.H→Prop}} {{l:List Env}},
  Gd G T s0 scr→(∀ a o,s0.heap.get? a=some o→a≠scr→P a o)→Wd w P s0 scr ι H s→A.frames=some l→(∀ env∈l,Ye P s0 env)→AOk A d→T k=some f→FnAt s0.heap a f→RepVs ι s.heap vals vs→C (1000+k) vs H Q →
  wpAny (model prog w) A (call (.ref a) vals) (fun J s'=>∃ v,PostW w P s0 scr ι s (fun J H'=>Q (.bool false) H') v s') (PostE w P s0 scr l ι s Q) s
structure Pg where
 prog:Program
 G:UJ
 T:Tab
structure At (p:Pg)(sc:Sc)(C:kO)(d:Nat)(cx:Cx)(A:Around):Prop where
 call:Zw p.prog p.G p.T C d
 «try»:TryOk p.prog p.G p.T C d
 fr:FrX sc.top cx A
 ok:CxOk cx
 fit:Fit sc cx
 gd:Gd p.G p.T cx.s0 cx.scr
 ao:AOk A d
def jI (p:Pg)(sc:Sc)(e:Expr)(e':E):Prop :=
 ∀ {{C:kO}} {{d:Nat}} {{cx:Cx}} {{A:Around}} {{ι:List Addr}} {{ρ:jz}} {{H:H}} {{s:Shared}} {{Q:V→Tw.H→Prop}} {{E:Value→Shared→Prop}},
  At p sc C d cx A→St cx ι ρ H s→Bnd sc.lim ρ→jW C e' ρ H Q→wpAny (model p.prog cx.w) A (eval e cx.env) (Post cx ι ρ s Q) E s
inductive PostT (cx:Cx)(ι:List Addr)(ρ:jz)(s:Shared)(Q:Bool→H→Prop)(b:Bool)(s':Shared):Prop
 | mk (ι':List Addr) (H':H) (M:Mono ι s ι' s') (S:St cx ι' ρ H' s') (q:Q b H')
theorem PostT.el {cx:Cx}{ι:List Addr}{ρ:jz}{s:Shared}{Q:Bool→H→Prop}{b:Bool}{s':Shared}{G:Prop}(h:PostT cx ι ρ s Q b s')(k:∀ ι' H',Mono ι s ι' s'→St cx ι' ρ H' s'→Q b H'→G):G:=by cases h;apply k <;> assumption
def zT (p:Pg)(sc:Sc)(e:Expr)(e':E):Prop :=
 ∀ {{C:kO}} {{d:Nat}} {{cx:Cx}} {{A:Around}} {{ι:List Addr}} {{ρ:jz}} {{H:H}} {{s:Shared}} {{Q:Bool→Tw.H→Prop}} {{E:Value→Shared→Prop}},
  At p sc C d cx A→St cx ι ρ H s→Bnd sc.lim ρ→wpT C e' ρ H Q→wpAny (model p.prog cx.w) A (isTrue e cx.env (eval e cx.env)) (PostT cx ι ρ s Q) E s
inductive PostL (cx:Cx)(ι:List Addr)(ρ:jz)(s:Shared)(Q:List V→H→Prop)(vals:List Value)(s':Shared):Prop
 | mk (vs:List V) (ι':List Addr) (H':H) (M:Mono ι s ι' s') (S:St cx ι' ρ H' s') (r:RepVs ι' s'.heap vals vs) (q:Q vs H')
def wk (p:Pg)(sc:Sc)(es:List Expr)(es':List E):Prop :=
 es.length=es'.length∧(∀ env,(starEach es env).any (·.1)=false) ∧
 ∀ {{C:kO}} {{d:Nat}} {{cx:Cx}} {{A:Around}} {{ι:List Addr}} {{ρ:jz}} {{H:H}} {{s:Shared}} {{Q:List V→Tw.H→Prop}} {{E:Value→Shared→Prop}} (pos:Pos),
  At p sc C d cx A→St cx ι ρ H s→Bnd sc.lim ρ→wpEs C es' ρ H Q→wpAny (model p.prog cx.w) A (spliced (backTo pos (starEach es cx.env))) (fun vals s'=>vals.length=es.length∧PostL cx ι ρ s Q vals s') E s
def FlowIs (ι:List Addr)(h:Heap)(o:Out)(f:Flow):Prop:=match o with
 | .next=>(match f with | .next=>True | _=>False)
 | .ret v=>(match f with | .ret val=>RepV ι h val v | _=>False)
noncomputable def retR (o:Out)(ρ:jz):jz:=match o with
 | .next=>ρ
 | .ret _=>fun J=>none
theorem St.ret {cx:Cx}{ι:List Addr}{ρ:jz}{H:H}{s:Shared}(S:St cx ι ρ H s):St cx ι (fun J=>none) H s:=S.rho fun J J J J h=>nomatch h
inductive PostS (sc:Sc)(cx:Cx)(ι:List Addr)(s:Shared)(Q:Out→jz→H→Prop)(f:Flow)(s':Shared):Prop
 | mk (o:Out) (ρ':jz) (ι':List Addr) (H':H) (M:Mono ι s ι' s') (S:St cx ι' (retR o ρ') H' s') (b:Bnd sc.lim ρ') (fl:FlowIs ι' s'.heap o f) (q:Q o ρ' H')
theorem PostS.el {sc:Sc}{cx:Cx}{ι:List Addr}{s:Shared}{Q:Out→jz→H→Prop}{f:Flow}{s':Shared}{G:Prop}(h:PostS sc cx ι s Q f s')(k:∀ o ρ' ι' H',Mono ι s ι' s'→St cx ι' (retR o ρ') H' s'→Bnd sc.lim ρ'→FlowIs ι' s'.heap o f→Q o ρ' H'→G):G:=by cases h;apply k <;> assumption
def wu (p:Pg)(sc:Sc)(e:Stmt)(e':S):Prop :=
 ∀ {{C:kO}} {{d:Nat}} {{cx:Cx}} {{A:Around}} {{ι:List Addr}} {{ρ:jz}} {{H:H}} {{s:Shared}} {{Q:Out→jz→Tw.H→Prop}} {{E:Value→Shared→Prop}},
  At p sc C d cx A→St cx ι ρ H s→Bnd sc.lim ρ→wpS C e' ρ H Q→wpAny (model p.prog cx.w) A (exec e cx.env) (PostS sc cx ι s Q) E s
def zW (p:Pg)(sc:Sc)(e:List Stmt)(e':List S):Prop :=
 ∀ {{C:kO}} {{d:Nat}} {{cx:Cx}} {{A:Around}} {{ι:List Addr}} {{ρ:jz}} {{H:H}} {{s:Shared}} {{Q:Out→jz→Tw.H→Prop}} {{E:Value→Shared→Prop}},
  At p sc C d cx A→St cx ι ρ H s→Bnd sc.lim ρ→wpB C e' ρ H Q→wpAny (model p.prog cx.w) A (execs e cx.env) (PostS sc cx ι s Q) E s
section
variable {cx:Cx}{ι ι':List Addr}{ρ:jz}{H H':Tw.H}{s s':Shared}
theorem Post.after {Q:V→Tw.H→Prop}(M:Mono ι s ι' s'){val:Value}{s'':Shared}(p:Post cx ι' ρ s' Q val s''):Post cx ι ρ s Q val s'':=by
 obtain⟨v,ι₂,H₂,M₂,S₂,r,q⟩:=p;exact⟨v,ι₂,H₂,M.trans M₂,S₂,r,q⟩
theorem PostT.after {Q:Bool→Tw.H→Prop}(M:Mono ι s ι' s'){val:Bool}{s'':Shared}(p:PostT cx ι' ρ s' Q val s''):PostT cx ι ρ s Q val s'':=by
 obtain⟨ι₂,H₂,M₂,S₂,q⟩:=p;exact⟨ι₂,H₂,M.trans M₂,S₂,q⟩
theorem PostS.after {sc:Sc}{Q:Out→jz→Tw.H→Prop}(M:Mono ι s ι' s'){val:Flow}{s'':Shared}(p:PostS sc cx ι' s' Q val s''):PostS sc cx ι s Q val s'':=by
 obtain⟨v,ρ₂,ι₂,H₂,M₂,S₂,b,r,q⟩:=p;exact⟨v,ρ₂,ι₂,H₂,M.trans M₂,S₂,b,r,q⟩
theorem At.keep {p:Pg}{sc:Sc}{C:kO}{d:Nat}{A:Around}(a:At p sc C d cx A){b:Addr}(as:Aside cx b)(o:Obj):At p sc C d (cx.keep b o) A :=
 ⟨a.call,a.try,a.fr.keep as o,a.ok.keepA as o,{ a.fit with },a.gd,a.ao⟩
end
theorem jk {α:Type}{M:Model}{A:Around}{m:Sem α}{Q Q':α→Shared→Prop}{E:Value→Shared→Prop}{s:Shared}(h:wpAny M A m Q E s)(f:∀ a s',Q a s'→Q' a s'):wpAny M A m Q' E s :=
 wpAny_mono h f fun J J e=>e
section
variable {p:Pg}{sc:Sc}
theorem Yi {k:Nat}{pos:Pos}:jI p sc (.Constant .none k pos) (.lit .none):=fun J J J J J J J J J J J S J h=>wpAny_Constant_none (.here S .none h)
theorem WV {b:Bool}{k:Nat}{pos:Pos}:jI p sc (.Constant (.bool b) k pos) (.lit (.bool b)):=fun J J J J J J J J J J J S J h=>wpAny_Constant_bool (.here S (.bool b) h)
theorem ZQ {i:Int}{k:Nat}{pos:Pos}:jI p sc (.Constant (.int i) k pos) (.lit (.int i)):=fun J J J J J J J J J J J S J h=>wpAny_Constant_int (.tok S (.int i _) h _)
theorem We {x:Str}{k:Nat}{pos:Pos}(hx:x.length≤SZ):jI p sc (.Constant (.str x) k pos) (.lit (.str x.cps.toList)):=fun J J J J J J J J J J J S J h=>wpAny_Constant_str (.tok S (.str x _ hx) h _)
theorem load_var {cx:Cx}{A:Around}{prog:Program}{s:Shared}{x:Str}{val:Value}{Q:Value→Shared→Prop}{E:Value→Shared→Prop}(ok:CxOk cx){i:Nat}(hx:cx.nm x=some i)(v:VarAt cx.env s.heap x val)(q:Q val s) :
  wpAny (model prog cx.w) A (loadName cx.env x) Q E s:=by
 rcases v with ⟨k,m,n,e⟩ | ⟨k | k,c,l,i⟩
 ·exact wpAny_loadName_local ok.fn k n e q
 ·exact wpAny_loadName_cell ok.fn k l i q
 ·exact wpAny_loadName_free ok.fn k l i q (ok.plain x _ hx).2
theorem ZT {x:Str}{i:Nat}{pos:Pos}(hx:sc.nm x=some i):jI p sc (.Name x pos) (.var i):=fun {C d cx A ι ρ H s Q E} a S _ h=>by
 refine jo (vK.inv h) fun v hv q=>?_
 have hx':cx.nm x=some i:=(a.fit.nm x).trans hx
 refine jo (S.vars x i v hx' hv) fun val va r=>?_
 exact wpAny_Name (load_var a.ok hx' va (.here S r q)) (a.ok.plain x i hx').1
theorem St.globals {cx:Cx}{ι:List Addr}{ρ:jz}{H:H}{s:Shared}{G:UJ}{T:Tab}(S:St cx ι ρ H s)(ok:CxOk cx)(g:Gd G T cx.s0 cx.scr) :
  ∃ mg mb,s.heap.Ns mainGlobals mg∧s.heap.Ns builtinsNs mb∧cx.s0.heap.Ns mainGlobals mg∧cx.s0.heap.Ns builtinsNs mb∧∀ x g,G x=some g→IsGl T cx.s0.heap mg mb x g:=by
 refine wZ (g.ns) fun mg mb h1 h2 h3=>?_
 exact⟨mg,mb,h1.at' fun o e=>(S.prot _ o (ok.base _ o e g.scrG)).base e,h2.at' fun o e=>(S.prot _ o (ok.base _ o e g.scrB)).base e,h1,h2,h3⟩
noncomputable def GlIs (p:Pg)(cx:Cx)(x:Str)(v:Value):Gl→Prop
 | .fn k=>∃ b f,v=.ref b∧p.T k=some f∧FnAt cx.s0.heap b f
 | .bi b=>v=b.py
 | .isinst=>v=.builtin "isinstance"
 | .ty t=>v=t.py
 | .const i=>∃ t,v=.int i t
 | .exc=>∃ C mg,v=.ref C∧cx.s0.heap.Ns mainGlobals mg∧PyProof.Rows.OwnClsQ x C JO "ValueError.__new__" mg cx.s0.heap
theorem ku {cx:Cx}{A B:Around}{d:Nat}{C:kO}{ι:List Addr}{ρ:jz}{H:H}{s:Shared}{x:Str}{pos:Pos}{g:Gl}{Q:Value→Shared→Prop}{E:Value→Shared→Prop}(a:At p sc C d cx A)(S:St cx ι ρ H s)
  (hk:sc.gk x=true) (hg:p.G x=some g)
  (q:∀ v,GlIs p cx x v g→Q v s) :
  wpAny (model p.prog cx.w) B (eval (.Name x pos) cx.env) Q E s:=by
 refine Z24 (S.globals a.ok a.gd) fun mg mb n1 n2 n0 nb h3=>?_
 obtain⟨k1,k2⟩:=a.fit.gk x hk
 have h:=h3 x g hg
 rw[←a.ok.gl] at n1
 rw[←a.ok.bl] at n2
 refine Calls.Name_function_global a.ok.fn k1 ?_ k2
 cases g with
 | fn k=>refine wZ h fun b f e t at'=>?_;exact Calls.loadGlobal_global n1 e (q _ ⟨b,f,rfl,t,at'⟩)
 | bi b=>exact Calls.loadGlobal_builtin n1 h.1 n2 h.2 (q _ rfl)
 | isinst=>exact Calls.loadGlobal_builtin n1 h.1 n2 h.2 (q _ rfl)
 | ty t=>exact Calls.loadGlobal_builtin n1 h.1 n2 h.2 (q _ rfl)
 | const i=>obtain⟨t,e⟩:=h;exact Calls.loadGlobal_global n1 e (q _ ⟨t,rfl⟩)
 | exc=>obtain⟨C,O⟩:=h;exact Calls.loadGlobal_global n1 O.bound (q _ ⟨C,mg,rfl,n0,O⟩)
theorem Ua {x:Str}{i:Int}{pos:Pos}(hk:sc.gk x=true)(hg:p.G x=some (.const i)):jI p sc (.Name x pos) (.lit (.int i)):=fun J J J J J J J J J J a S J h =>
 ku a S hk hg fun v e=>by obtain⟨t,rfl⟩:=e;exact .here S (.int i t) h
theorem snd_bin {l r:Expr}{pos:Pos}{op:Bop}{a b:E}(h1:jI p sc l a)(h2:jI p sc r b):jI p sc (.BinOp l op.py r pos) (.bin op a b):=fun J J J J J J J J J J at' S hb h=>by
 refine wpAny_BinOp (jk (h1 at' S hb h) fun x s₁ zz=>zz.el fun va ι₁ H₁ M₁ S₁ r₁ q₁=>jk (h2 at' S₁ hb q₁) fun y s₂ zz=>zz.el fun vb ι₂ H₂ M₂ S₂ r₂ q₂=>?_)
 exact jk (bin_sound S₂ at'.ok (M₂.rep r₁) r₂ q₂) fun J J P=>(P.after M₂).after M₁
theorem snd_neg {l:Expr}{pos:Pos}{a:E}(h1:jI p sc l a):jI p sc (.UnaryOp .USub l pos) (.neg a):=fun J J J J J J J J J J at' S hb h=>by
 refine wpAny_UnaryOp (jk (h1 at' S hb h) fun x s₁ zz=>zz.el fun va ι₁ H₁ M₁ S₁ r₁ q₁=>?_)
 cases r₁ with
 | int i t=>exact P.neg_int (Post.after M₁ (.tok S₁ (.int _ _) q₁ _))
 | _=>exact q₁.elim
theorem yk {M:Model}{A:Around}{ι:List Addr}{H:H}{s:Shared}{x:Value}{v:V}{Q:Bool→Prop}{E:Value→Shared→Prop}(r:RepV ι s.heap x v)(h:truth v H Q):wpAny M A (truthy x) (fun b s'=>s'=s∧Q b) E s:=by
 cases r with
 | none=>exact fun J J J=>⟨rfl,h⟩
 | bool b=>exact fun J J J=>⟨rfl,h⟩
 | _=>exact h.elim
theorem snd_not {l:Expr}{pos:Pos}{a:E}(h1:jI p sc l a):jI p sc (.UnaryOp .Not l pos) (.not a):=fun J J J J J J J J J J at' S hb h=>by
 refine wpAny_UnaryOp (jk (h1 at' S hb h) fun x s₁ zz=>zz.el fun va ι₁ H₁ M₁ S₁ r₁ q₁=>?_)
 refine not_value (jk (yk r₁ q₁) fun b s₂ ⟨e,q₂⟩=>?_)
 subst e;exact Post.after M₁ (.here S₁ (.bool _) q₂)
theorem ky {e:Expr}{e':E}(h1:jI p sc e e')(he:∀ env whole,isTrue e env whole=(do let v ←whole;standAt e.pos;holding [v] (truthy v)))
  (hw:∀ C ρ H Q,wpT C e' ρ H Q→jW C e' ρ H fun v h=>truth v h fun b=>Q b h):zT p sc e e':=fun J J J J J J J J J J at' S hb h=>by
 refine wpAny_isTrue_value (jk (h1 at' S hb (hw _ _ _ _ h)) fun x s₁ zz=>zz.el fun va ι₁ H₁ M₁ S₁ r₁ q₁=>?_) (he _ _)
 exact jk (yk r₁ q₁) fun b s₂ ⟨e,q₂⟩=>by subst e;exact⟨ι₁,H₁,M₁,S₁,q₂⟩
theorem ko {e:Expr}{e':E}(hw:∀ C ρ H Q,wpT C e' ρ H Q→False):zT p sc e e':=fun J J J J J J J J J J J J J h=>(hw _ _ _ _ h).elim
theorem sndT_not {l:Expr}{pos:Pos}{a:E}(h1:zT p sc l a):zT p sc (.UnaryOp .Not l pos) (.not a):=fun J J J J J J J J J J at' S hb h =>
 wpAny_isTrue_Not (jk (h1 at' S hb h) fun J J zz=>zz.el fun ι₁ H₁ M₁ S₁ q₁=>⟨ι₁,H₁,M₁,S₁,q₁⟩)
inductive Chain (p:Pg)(sc:Sc)(and:Bool):List Expr→E→Prop
 | one {e:Expr} {e':E}:jI p sc e e'→zT p sc e e'→Chain p sc and [e] e'
 | more {e e₂:Expr} {r:List Expr} {e' r':E}:jI p sc e e'→zT p sc e e'→Chain p sc and (e₂::r) r'→Chain p sc and (e::e₂::r) (if and then .and e' r' else .or e' r')
theorem WW {M:Model}{A:Around}{env:Env}{pos:Pos}{op:BoolOp}{x y:Expr}{r:List Expr}{s:Shared}{Q:Value→Shared→Prop}{E:Value→Shared→Prop}
  (h:wpAny M A (eval x env) (fun v s₁=>wpAny M A (truthy v) (fun t s₂=>if (t == (op == .And)) then wpAny M A (boolOp pos op (evalEach (y::r) env)) Q E s₂ else Q v s₂) E s₁) E s) :
  wpAny M A (boolOp pos op (evalEach (x::y::r) env)) Q E s:=by
 show wpAny M A (do
  let v ←eval x env
  standAt pos
  let t ←holding [v] (truthy v)
  match op,t with
  | .And,false | .Or,true=>pure v
  | _,_=>boolOp pos op (evalEach (y::r) env)) Q E s
 refine wpAny_bind (jk h fun v s₁ h₁=>wpAny_bind (wpAny_standAt (wpAny_bind (wpAny_holding (jk h₁ fun t s₂ h₂=>?_)))))
 cases op <;> cases t <;> first | exact wpAny_pure h₂ | exact h₂
theorem chainE {and:Bool}{es:List Expr}{e':E}(c:Chain p sc and es e'):∀ {C:kO} {d:Nat} {cx:Cx} {A:Around} {ι:List Addr} {ρ:jz} {H:H} {s:Shared} {Q:V→Tw.H→Prop} {E:Value→Shared→Prop} {pos:Pos},
  At p sc C d cx A→St cx ι ρ H s→Bnd sc.lim ρ→jW C e' ρ H Q→wpAny (model p.prog cx.w) A (boolOp pos (if and then .And else .Or) (evalEach es cx.env)) (Post cx ι ρ s Q) E s:=by
 induction c with
 | one h1 _=>intro C d cx A ι ρ H s Q E pos at' S hb h;exact h1 at' S hb h
 | more h1 _ _ ih =>
  intro C d cx A ι ρ H s Q E pos at' S hb h
  refine WW ?_
  cases and with
  | true =>
   refine jk (h1 at' S hb h) fun x s₁ zz=>zz.el fun va ι₁ H₁ M₁ S₁ r₁ q₁=>jk (yk r₁ q₁) fun t s₂ ⟨e,q₂⟩=>?_
   subst e
   cases t with
   | true=>exact jk (ih (pos:=pos) at' S₁ hb q₂) fun J J P=>P.after M₁
   | false=>exact Post.after M₁ (.here S₁ r₁ q₂)
  | false =>
   refine jk (h1 at' S hb h) fun x s₁ zz=>zz.el fun va ι₁ H₁ M₁ S₁ r₁ q₁=>jk (yk r₁ q₁) fun t s₂ ⟨e,q₂⟩=>?_
   subst e
   cases t with
   | false=>exact jk (ih (pos:=pos) at' S₁ hb q₂) fun J J P=>P.after M₁
   | true=>exact Post.after M₁ (.here S₁ r₁ q₂)
theorem chainT {and:Bool}{es:List Expr}{e':E}(c:Chain p sc and es e'):∀ {C:kO} {d:Nat} {cx:Cx} {A:Around} {ι:List Addr} {ρ:jz} {H:H} {s:Shared} {Q:Bool→Tw.H→Prop} {E:Value→Shared→Prop},
  At p sc C d cx A→St cx ι ρ H s→Bnd sc.lim ρ→wpT C e' ρ H Q→wpAny (model p.prog cx.w) A (allTrue (if and then .And else .Or) es cx.env) (PostT cx ι ρ s Q) E s:=by
 induction c with
 | one _ h1 =>
  intro C d cx A ι ρ H s Q E at' S hb h
  cases and with
  | true =>
   refine wpAny_allTrue_And_cons (jk (h1 at' S hb h) fun b s₁ P=>?_)
   cases b with
   | true=>exact wpAny_allTrue_And_nil P
   | false=>exact P
  | false =>
   refine wpAny_allTrue_Or_cons (jk (h1 at' S hb h) fun b s₁ P=>?_)
   cases b with
   | true=>exact P
   | false=>exact wpAny_allTrue_Or_nil P
 | more _ h1 _ ih =>
  intro C d cx A ι ρ H s Q E at' S hb h
  cases and with
  | true =>
   refine wpAny_allTrue_And_cons (jk (h1 at' S hb h) fun b s₁ zz=>zz.el fun ι₁ H₁ M₁ S₁ q₁=>?_)
   cases b with
   | true=>exact jk (ih at' S₁ hb q₁) fun J J P=>P.after M₁
   | false=>exact⟨ι₁,H₁,M₁,S₁,q₁⟩
  | false =>
   refine wpAny_allTrue_Or_cons (jk (h1 at' S hb h) fun b s₁ zz=>zz.el fun ι₁ H₁ M₁ S₁ q₁=>?_)
   cases b with
   | false=>exact jk (ih at' S₁ hb q₁) fun J J P=>P.after M₁
   | true=>exact⟨ι₁,H₁,M₁,S₁,q₁⟩
theorem snd_chain {and:Bool}{es:List Expr}{e':E}{pos:Pos}(c:Chain p sc and es e'):jI p sc (.BoolOp (if and then .And else .Or) es pos) e':=fun J J J J J J J J J J at' S hb h=>chainE c at' S hb h
theorem ZG {and:Bool}{es:List Expr}{e':E}{pos:Pos}(c:Chain p sc and es e'):zT p sc (.BoolOp (if and then .And else .Or) es pos) e':=fun J J J J J J J J J J at' S hb h=>wpAny_isTrue_BoolOp (chainT c at' S hb h)
theorem snd_cmp {l r:Expr}{pos:Pos}{op:Cmp}{a b:E}(h1:jI p sc l a)(h2:jI p sc r b)(hm:behindInMarks op.py r=false):jI p sc (.Compare l [op.py] [r] pos) (.cmp op a b):=fun J J J J J J J J J J at' S hb h=>by
 refine wpAny_Compare1 (jk (h1 at' S hb h) fun x s₁ zz=>zz.el fun va ι₁ H₁ M₁ S₁ r₁ q₁=>jk (h2 at' S₁ hb q₁) fun y s₂ zz=>zz.el fun vb ι₂ H₂ M₂ S₂ r₂ q₂=>?_) hm
 exact jk (wU S₂ at'.ao.u (M₂.rep r₁) r₂ q₂) fun J J P=>((P.post S₂).after M₂).after M₁
theorem sndT_cmp {l r:Expr}{pos:Pos}{op:Cmp}{a b:E}(h1:jI p sc l a)(h2:jI p sc r b)(hm:behindInMarks op.py r=false):zT p sc (.Compare l [op.py] [r] pos) (.cmp op a b):=fun J J J J J J J J J J at' S hb h=>by
 refine wpAny_isTrue_Compare1 (jk (h1 at' S hb h) fun x s₁ zz=>zz.el fun va ι₁ H₁ M₁ S₁ r₁ q₁=>jk (h2 at' S₁ hb q₁) fun y s₂ zz=>zz.el fun vb ι₂ H₂ M₂ S₂ r₂ q₂=>?_) hm
 refine jk (wU S₂ at'.ao.u (M₂.rep r₁) r₂ q₂) fun c s₃ zz=>zz.el fun b tk e e' q=>?_
 subst e;subst e'
 exact wpAny_truthy_bool ⟨ι₂,H₂,M₁.trans (M₂.trans (.tk tk)),S₂.toks tk,q⟩
section
variable {M:Model}{A:Around}{env:Env}{s:Shared}{E:Value→Shared→Prop}
theorem compare2 {l r r₂:Expr}{o o₂:CmpOp}{pos:Pos}{Q:Value→Shared→Prop}(hm:behindInMarks o₂ r₂=false)
  (h:wpAny M A (eval l env) (fun a s₁=>wpAny M A (eval r env) (fun b s₂=>wpAny M A (compareOp o a b) (fun c s₃=>wpAny M A (truthy c) (fun t s₄ =>
   if t then wpAny M A (eval r₂ env) (fun d s₅=>wpAny M A (compareOp o₂ b d) Q E s₅) E s₄ else Q c s₄) E s₃) E s₂) E s₁) E s):wpAny M A (eval (.Compare l [o,o₂] [r,r₂] pos) env) Q E s:=by
 rw[arm_eval_Compare]
 refine wpAny_bind (jk h fun a s₁ h₁=>?_)
 show wpAny M A (do
  let rv ←holding [a] (eval r env)
  standAt pos
  let c ←holding [a,rv] (compareOp o a rv)
  release [a,rv] [c]
  if ←holding [c,rv] (truthy c) then compareChain pos rv [o₂] [markedBehindIn o₂ r₂ (eval r₂ env)] else pure c) Q E s₁
 refine wpAny_bind (wpAny_holding (jk h₁ fun b s₂ h₂=>wpAny_bind (wpAny_standAt (wpAny_bind (wpAny_holding (jk h₂ fun c s₃ h₃=>?_))))))
 refine wpAny_bind (wpAny_release (wpAny_bind (wpAny_holding (jk h₃ fun t s₄ h₄=>?_))))
 cases t with
 | false=>exact wpAny_pure h₄
 | true =>
  rw[if_pos rfl] at h₄ ⊢
  rw[markedBehindIn_of_false hm]
  show wpAny M A (do
   let rv ←holding [b] (eval r₂ env)
   standAt pos
   operate [b,rv] (compareOp o₂ b rv)) Q E s₄
  exact wpAny_bind (wpAny_holding (jk h₄ fun d s₅ h₅=>wpAny_bind (wpAny_standAt (wpAny_operateT h₅))))
theorem test2 {l r r₂:Expr}{o o₂:CmpOp}{pos:Pos}{whole:Sem Value}{Q:Bool→Shared→Prop}(hm:behindInMarks o₂ r₂=false)
  (h:wpAny M A (eval l env) (fun a s₁=>wpAny M A (eval r env) (fun b s₂=>wpAny M A (compareOp o a b) (fun c s₃=>wpAny M A (truthy c) (fun t s₄ =>
   if t then wpAny M A (eval r₂ env) (fun d s₅=>wpAny M A (compareOp o₂ b d) (fun c s₆=>wpAny M A (truthy c) Q E s₆) E s₅) E s₄ else Q false s₄) E s₃) E s₂) E s₁) E s) :
  wpAny M A (isTrue (.Compare l [o,o₂] [r,r₂] pos) env whole) Q E s:=by
 show wpAny M A (do testChain pos (←eval l env) [o,o₂] (markedEach [o,o₂] [r,r₂] (evalEach [r,r₂] env))) Q E s
 refine wpAny_bind (jk h fun a s₁ h₁=>?_)
 show wpAny M A (do
  let rv ←holding [a] (eval r env)
  standAt pos
  let c ←holding [a,rv] (compareOp o a rv)
  release [a,rv] [c]
  if ←holding [c,rv] (truthy c) then testChain pos rv [o₂] [markedBehindIn o₂ r₂ (eval r₂ env)] else pure false) Q E s₁
 refine wpAny_bind (wpAny_holding (jk h₁ fun b s₂ h₂=>wpAny_bind (wpAny_standAt (wpAny_bind (wpAny_holding (jk h₂ fun c s₃ h₃=>?_))))))
 refine wpAny_bind (wpAny_release (wpAny_bind (wpAny_holding (jk h₃ fun t s₄ h₄=>?_))))
 cases t with
 | false=>exact wpAny_pure h₄
 | true =>
  rw[if_pos rfl] at h₄ ⊢
  rw[markedBehindIn_of_false hm]
  show wpAny M A (do
   let rv ←holding [b] (eval r₂ env)
   standAt pos
   let c ←operate [b,rv] (compareOp o₂ b rv)
   holding [c] (truthy c)) Q E s₄
  exact wpAny_bind (wpAny_holding (jk h₄ fun d s₅ h₅=>wpAny_bind (wpAny_standAt (wpAny_bind (wpAny_operateT (jk h₅ fun J J h₆=>wpAny_holding h₆))))))
end
theorem snd_cmp2 {l r r₂:Expr}{pos:Pos}{op op₂:Cmp}{a b c:E}(h1:jI p sc l a)(h2:jI p sc r b)(h3:jI p sc r₂ c)(hm:behindInMarks op₂.py r₂=false) :
  jI p sc (.Compare l [op.py,op₂.py] [r,r₂] pos) (.cmp2 op op₂ a b c):=fun J J J J J J J J J J at' S hb h=>by
 refine compare2 hm (jk (h1 at' S hb h) fun x s₁ zz=>zz.el fun va ι₁ H₁ M₁ S₁ r₁ q₁=>jk (h2 at' S₁ hb q₁) fun y s₂ zz=>zz.el fun vb ι₂ H₂ M₂ S₂ r₂ q₂=>?_)
 refine jk (wU S₂ at'.ao.u (M₂.rep r₁) r₂ q₂) fun c s₃ zz=>zz.el fun b tk e e' q=>?_
 subst e;subst e'
 have M₃:=M₁.trans (M₂.trans (.tk tk))
 cases b with
 | false=>exact wpAny_truthy_bool (Post.after M₃ (.here (S₂.toks tk) (.bool _) q))
 | true =>
  refine wpAny_truthy_bool (jk (h3 at' (S₂.toks tk) hb q) fun z s₃ zz=>zz.el fun vc ι₃ H₃ M₄ S₃ r₃ q₃=>?_)
  exact jk (wU S₃ at'.ao.u (M₄.rep r₂) r₃ q₃) fun J J P=>((P.post S₃).after M₄).after M₃
theorem sndT_cmp2 {l r r₂:Expr}{pos:Pos}{op op₂:Cmp}{a b c:E}(h1:jI p sc l a)(h2:jI p sc r b)(h3:jI p sc r₂ c)(hm:behindInMarks op₂.py r₂=false) :
  zT p sc (.Compare l [op.py,op₂.py] [r,r₂] pos) (.cmp2 op op₂ a b c):=fun J J J J J J J J J J at' S hb h=>by
 refine test2 hm (jk (h1 at' S hb h) fun x s₁ zz=>zz.el fun va ι₁ H₁ M₁ S₁ r₁ q₁=>jk (h2 at' S₁ hb q₁) fun y s₂ zz=>zz.el fun vb ι₂ H₂ M₂ S₂ r₂ q₂=>?_)
 refine jk (wU S₂ at'.ao.u (M₂.rep r₁) r₂ q₂) fun c s₃ zz=>zz.el fun b tk e e' q=>?_
 subst e;subst e'
 have M₃:=M₁.trans (M₂.trans (.tk tk))
 cases b with
 | false=>exact wpAny_truthy_bool ⟨ι₂,H₂,M₃,S₂.toks tk,q⟩
 | true =>
  refine wpAny_truthy_bool (jk (h3 at' (S₂.toks tk) hb q) fun z s₃ zz=>zz.el fun vc ι₃ H₃ M₄ S₃ r₃ q₃=>?_)
  refine jk (wU S₃ at'.ao.u (M₄.rep r₂) r₃ q₃) fun c s₃ zz=>zz.el fun b tk e e' q=>?_
  subst e;subst e'
  exact wpAny_truthy_bool ⟨ι₃,H₃,M₃.trans (M₄.trans (.tk tk)),S₃.toks tk,q⟩
theorem snd_sub {l r:Expr}{pos:Pos}{a b:E}(h1:jI p sc l a)(h2:jI p sc r b)(hns:∀ a b c p,r≠.Slice a b c p):jI p sc (.Subscript l r pos) (.sub a b):=fun J J J J J J J J J J at' S hb h=>by
 refine PyProof.Rows.Subscript_ (jk (h1 at' S hb h) fun x s₁ zz=>zz.el fun va ι₁ H₁ M₁ S₁ r₁ q₁=>jk (h2 at' S₁ hb q₁) fun y s₂ zz=>zz.el fun vb ι₂ H₂ M₂ S₂ r₂ q₂=>?_)
 exact jk (sub_sound S₂ at'.ao.u hns (M₂.rep r₁) r₂ q₂) fun J J P=>((PostR.post S₂ P).after M₂).after M₁
def Zm (p:Pg)(sc:Sc)(e:Option Expr)(e':E):Prop :=
 ∀ {{C:kO}} {{d:Nat}} {{cx:Cx}} {{A:Around}} {{ι:List Addr}} {{ρ:jz}} {{H:H}} {{s:Shared}} {{Q:V→Tw.H→Prop}} {{E:Value→Shared→Prop}},
  At p sc C d cx A→St cx ι ρ H s→Bnd sc.lim ρ→jW C e' ρ H Q→wpAny (model p.prog cx.w) A (valueOrNone (evalOpt e cx.env)) (Post cx ι ρ s Q) E s
theorem sndO_some {e:Expr}{e':E}(h:jI p sc e e'):Zm p sc (some e) e':=h
theorem sndO_none:Zm p sc none (.lit .none):=fun J J J J J J J J J J J S J h=>wpAny_pure (.here S .none h)
theorem snd_slice {l:Expr}{lo hi:Option Expr}{pos pos':Pos}{a b c:E}(h1:jI p sc l a)(h2:Zm p sc lo b)(h3:Zm p sc hi c):jI p sc (.Subscript l (.Slice lo hi none pos') pos) (.slice a b c):=fun J J J J J J J J J J at' S hb h=>by
 refine PyProof.Rows.Subscript_ (jk (h1 at' S hb h) fun x s₁ zz=>zz.el fun va ι₁ H₁ M₁ S₁ r₁ q₁=>?_)
 show wpAny _ _ (do
  let l ←valueOrNone (evalOpt lo _)
  let u ←holding [l] (valueOrNone (evalOpt hi _))
  let s ←holding [l,u] (valueOrNone (evalOpt none _))
  newFields "slice" [l,u,s]) _ _ s₁
 refine wpAny_bind (jk (h2 at' S₁ hb q₁) fun y s₂ zz=>zz.el fun vb ι₂ H₂ M₂ S₂ r₂ q₂=>wpAny_bind (wpAny_holding (jk (h3 at' S₂ hb q₂) fun z s₃ zz=>zz.el fun vc ι₃ H₃ M₃ S₃ r₃ q₃=>?_)))
 refine wpAny_bind (wpAny_holding (wpAny_pure ?_))
 have hk:∀ b ob,s₃.heap.get? b=some ob→(s₃.heap.push { cls:=.type "slice",data:=.fields #[y,z,.none] }).get? b=some ob:=fun J J e=>Heap.get?_push_of_some _ e
 refine wpAny_newObj_type ?_
 refine jk (Yn (S₃.push _ s₃.toks) at'.ok (((M₂.trans M₃).rep r₁).mono (List.prefix_refl _) (.of_ext hk)) ((M₃.rep r₂).mono (List.prefix_refl _) (.of_ext hk)) (r₃.mono (List.prefix_refl _) (.of_ext hk)) (get?_fresh rfl) q₃) fun J J P=>?_
 exact((((P.after (.ext hk)).after M₃).after M₂).after M₁)
theorem Uf:wk p sc [] []:=⟨rfl,fun J=>rfl,fun J J J J J J J J J J J J S J h=>wpAny_items_nil ⟨rfl,[],_,_,.refl _ _,S,.nil,h⟩⟩
theorem Ks {e:Expr}{es:List Expr}{e':E}{es':List E}(he:∀ env,starEach (e::es) env=(false,eval e env)::starEach es env)(h1:jI p sc e e')(h2:wk p sc es es'):wk p sc (e::es) (e'::es'):=by
 refine⟨by simp [h2.1],fun env=>by rw[he];simpa using h2.2.1 env,fun J J J J J J J J J J pos at' S hb h=>?_⟩
 refine wpAny_items_cons (jk (h1 at' S hb h) fun x s₁ zz=>zz.el fun va ι₁ H₁ M₁ S₁ r₁ q₁=>jk (h2.2.2 pos at' S₁ hb q₁) fun xs s₂ ⟨hl,vs,ι₂,H₂,M₂,S₂,r₂,q₂⟩=>?_) (he _)
 exact⟨by simp [hl],va::vs,ι₂,H₂,M₁.trans M₂,S₂,.cons (M₂.rep r₁) r₂,q₂⟩
theorem snd_tup {es:List Expr}{es':List E}{k:Nat}{pos:Pos}(h1:wk p sc es es')(hn:es.length≤1000):jI p sc (.Tuple es k pos) (.tup es'):=fun J J J J J J J J J J at' S hb h=>by
 have hz:(1000:Nat)≤SZ:=by decide
 refine wpAny_Tuple (jk (h1.2.2 pos at' S hb h) fun xs s₁ ⟨hl,vs,ι₁,H₁,M₁,S₁,r₁,q₁⟩=>⟨Nat.le_trans (hl▸hn) hz,?_⟩)
 exact Post.after M₁ (Post.tup (vals:=xs.toArray) (n:=0) S₁ (by simpa using r₁) (by rw[←r₁.length,hl];exact jt ju jc ja jc (qN 1000) (qN 1000) ja qt hn hz) q₁ s₁.toks)
theorem snd_list {es:List Expr}{es':List E}{pos:Pos}(h1:wk p sc es es')(hn:es.length≤1000):jI p sc (.List es pos) (.list es'):=fun J J J J J J J J J J at' S hb h=>by
 have hz:(1000:Nat)≤SZ:=by decide
 refine wpAny_List (jk (h1.2.2 pos at' S hb h) fun xs s₁ ⟨hl,vs,ι₁,H₁,M₁,S₁,r₁,q₁⟩=>⟨Nat.le_trans (hl▸hn) hz,?_⟩)
 exact Post.after M₁ (Post.list (vals:=xs.toArray) (n:=0) S₁ at'.ok (by simpa using r₁) (by rw[←r₁.length,hl];exact jt ju jc ja jc (qN 1000) (qN 1000) ja qt hn hz) q₁ s₁.toks)
theorem zh {M:Model}{A:Around}{f:Value}{es:List Expr}{env:Env}{pos:Pos}{s:Shared}{E:Value→Shared→Prop}{Q:Args→Shared→Prop}(hs:(starEach es env).any (·.1)=false)
  (h:wpAny M A (spliced (backTo pos (starEach es env))) (fun vs s'=>Q ⟨vs,[]⟩ s') E s):wpAny M A (evalArgs f true (backTo pos (starEach es env)) []) Q E s:=by
 cases hb:backTo pos (starEach es env) with
 | nil =>
  rw[hb] at h
  unfold evalArgs
  show wpAny M A (spliced [] >>= _) Q E s
  refine wpAny_bind (jk h fun vs s' h'=>?_)
  refine wpAny_bind (wpAny_pure ?_)
  refine wpAny_holding ?_
  exact wpAny_bind (wpAny_pure (wpAny_bind (wpAny_pure (wpAny_pure h'))))
 | cons x r =>
  obtain⟨b,t⟩:=x
  have:b=false:=by
   cases hse:starEach es env with
   | nil=>rw[hse] at hb;simp [backTo] at hb
   | cons y r' =>
    rw[hse] at hb hs
    simp [backTo] at hb
    simp at hs
    rw[←hb.1.1];exact hs.1
  subst this
  rw[hb] at h
  exact Calls.evalArgs_plain h
theorem yr {es:List Expr}{env:Env}{pos:Pos}(hs:(starEach es env).any (·.1)=false):(backTo pos (starEach es env)).any (·.1)=false:=by
 unfold backTo
 rw[List.any_map]
 simpa [Function.comp_def] using hs
theorem WU {x:Str}{np pos:Pos}{es:List Expr}{es':List E}{k:Nat}(hk:sc.gk x=true)(hg:p.G x=some (.fn k))(h1:wk p sc es es'):jI p sc (.Call (.Name x np) es [] pos) (.call k es'):=fun {C d cx A ι ρ H s Q E} at' S hb h=>by
 refine wpAny_Call_ofName (ku at' S hk hg fun v e=>?_)
 refine yI e fun b f zv23 zw24=>?_;subst zv23;refine jP zw24 fun ht hf=>?_
 obtain⟨o,pm,code,doc,go,do',hcode⟩:=hf
 refine Calls.callWith_function (o:=o) (zh (h1.2.1 _) (jk (h1.2.2 pos at' S hb h) fun xs s₁ ⟨_,vs,ι₁,H₁,M₁,S₁,r₁,q₁⟩=>⟨⟨(S₁.prot _ _ (at'.ok.base _ _ go (at'.gd.notScr _ f ⟨o,pm,code,doc,go,do',hcode⟩))).base go,do'⟩,?_⟩))
 refine jk (at'.call at'.gd (fun a o e h=>Or.inl (at'.ok.base a o e h)) (S₁.wdF at'.ok) (at'.fr.w S₁ at'.ok) at'.ao ht ⟨o,pm,code,doc,go,do',hcode⟩ r₁ q₁) fun val s₂ zz=>zz.el fun v ι₂ H₂ M₂ W₂ r₂ q₂=>?_
 exact⟨v,ι₂,H₂,M₁.trans M₂,S₁.back W₂ M₂,r₂,q₂⟩
theorem Bi.form (b:Bi):(∃ id,b.py=.builtin id)∨(∃ T,b.py=.type T):=by
 cases b <;> first | exact .inl ⟨_,rfl⟩ | exact .inr ⟨_,rfl⟩
theorem snd_bi {x:Str}{np pos:Pos}{es:List Expr}{es':List E}{b:Bi}(hk:sc.gk x=true)(hg:p.G x=some (.bi b))(h1:wk p sc es es'):jI p sc (.Call (.Name x np) es [] pos) (.bi b es'):=fun {C d cx A ι ρ H s Q E} at' S hb h=>by
 refine wpAny_Call_ofName (ku at' S hk hg fun v e=>?_)
 subst e
 have key:wpAny (model p.prog cx.w) A (evalArgs b.py true (backTo pos (starEach es cx.env)) []) (fun a s₁=>wpAny (model p.prog cx.w) A (call b.py ([]++a.pos) a.kw) (Post cx ι ρ s Q) E s₁) E s :=
  zh (h1.2.1 _) (jk (h1.2.2 pos at' S hb h) fun xs s₁ ⟨_,vs,ι₁,H₁,M₁,S₁,r₁,q₁⟩=>jk (bi_sound S₁ at'.ok at'.ao.hd at'.ao.u r₁ q₁) fun J J P=>P.after M₁)
 rcases b.form with ⟨id,e⟩ | ⟨T,e⟩ <;> rw[e] at key ⊢
 ·exact Calls.callWith_builtin (yr (h1.2.1 _)) key
 ·exact callWith_excType (yr (h1.2.1 _)) key
noncomputable def tyOf:Gl→Option Ty
 | .ty t=>some t
 | .bi .list=>some .list
 | .bi .int=>some .int
 | _=>none
theorem Ky {x y:Str}{np ny pos:Pos}{e:Expr}{e':E}{t:Ty}{g:Gl}(hk:sc.gk x=true)(hg:p.G x=some .isinst)(hk':sc.gk y=true)(hg':p.G y=some g)(hty:tyOf g=some t)(he:∀ env,starEach [e,.Name y ny] env=(false,eval e env)::starEach [.Name y ny] env)
  (h1:jI p sc e e'):jI p sc (.Call (.Name x np) [e,.Name y ny] [] pos) (.isinst e' t):=fun {C d cx A ι ρ H s Q E} at' S hb h=>by
 refine wpAny_Call_ofName (ku at' S hk hg fun v e=>?_)
 subst e
 have hs:(starEach [e,.Name y ny] cx.env).any (·.1)=false:=by rw[he];rfl
 refine Calls.callWith_builtin (yr hs) (zh hs ?_)
 refine wpAny_items_cons (jk (h1 at' S hb h) fun x s₁ zz=>zz.el fun va ι₁ H₁ M₁ S₁ r₁ q₁=>?_) (he _)
 refine wpAny_items_cons (ku at' S₁ hk' hg' fun v e=>?_)
 have e:v=t.py:=by
  cases g with
  | ty t'=>cases hty;exact e
  | bi b=>cases b <;> cases hty <;> exact e
  | _=>cases hty
 subst e
 refine wpAny_items_nil ?_
 exact jk (is_sound S₁ r₁ q₁) fun J J P=>(P.post S₁).after M₁
theorem Ys {o:Expr}{apos pos:Pos}{es:List Expr}{o':E}{es':List E}{m:Mt}(hbase:∀ env,attributeBase o m.nm env (eval o env)=eval o env)(hline:(apos.endLine == pos.line)=true)(hn:es.length<29)
  (h0:jI p sc o o') (h1:wk p sc es es'):jI p sc (.Call (.Attribute o m.nm apos) es [] pos) (.meth m o' es'):=fun {C d cx A ι ρ H s Q E} at' S hb h=>by
 rw[arm_eval_Call,hbase]
 refine wpAny_bind (jk (h0 at' S hb h) fun x s₁ zz=>zz.el fun vo ι₁ H₁ M₁ S₁ r₁ ⟨hr,q₁⟩=>wpAny_bind (wpAny_standAt ?_))
 have hform:methodCallForm (es.length+([]:List Keyword).length) (backTo pos (starEach es cx.env)) (backToKw pos (keywordEach [] cx.env))=true:=by
  have:=yr (pos:=pos) (h1.2.1 cx.env)
  unfold methodCallForm
  simp only[List.any_eq_false] at this
  rw[show backToKw pos (keywordEach [] cx.env)=[] from rfl]
  simp
  refine⟨fun a hm=>by simpa using this _ hm,by exact jq jO jg (qN 30) jg (qN 29) qt hn⟩
 have hpos:methodCallPos true o cx.env apos pos=pure pos:=by unfold methodCallPos;simp [hline]
 unfold methodCall
 rw[hform]
 refine wpAny_bind (wpAny_holding (JN S₁ r₁ hr ?_))
 refine wpAny_bind (wpAny_of_eq hpos ?_)
 refine Calls.callWith_builtin (yr (h1.2.1 _)) (zh (h1.2.1 _) (jk (h1.2.2 pos at' S₁ hb q₁) fun xs s₂ ⟨_,vs,ι₂,H₂,M₂,S₂,r₂,q₂⟩=>?_))
 exact jk (ZD S₂ at'.ao.u (M₂.rep r₁) r₂ q₂) fun J J P=>(P.after M₂).after M₁
end
noncomputable def Tgt.slots:Tgt→List Nat
 | .name i=>[i]
 | .tup is=>is
theorem WQ:∀ (is:List Nat) (vs:List V) (ρ:jz) (i:Nat),i ∉ is→KK ρ is vs i=ρ i
 | [],_,_,_,_=>by simp [KK]
 | j::is,[],_,_,_=>by simp [KK]
 | j::is,v::vs,ρ,i,h=>by
  simp at h
  rw[KK,WQ is vs _ i h.2]
  simp [upd,h.1]
theorem bindT_ext {t:Tgt}{v:V}{ρ:jz}{K:jz→Prop}(h:bindT t v ρ K):bindT t v ρ fun ρ'=>(∀ i,i ∉ t.slots→ρ' i=ρ i)∧K ρ':=by
 cases t with
 | name j=>exact⟨fun i hi=>by simp [Tgt.slots] at hi;simp [upd,hi],h⟩
 | tup is =>
  cases v with
  | tup vs=>exact⟨h.1,fun i hi=>WQ is vs ρ i hi,h.2⟩
  | _=>exact h.elim
inductive PostG (sc:Sc)(cx:Cx)(ι:List Addr)(H:H)(s:Shared)(K:jz→Prop)(s':Shared):Prop
 | mk (ρ':jz) (M:Mono ι s ι s') (S:St cx ι ρ' H s') (b:Bnd sc.lim ρ') (q:K ρ')
theorem PostG.el {sc:Sc}{cx:Cx}{ι:List Addr}{H:H}{s:Shared}{K:jz→Prop}{s':Shared}{G:Prop}(h:PostG sc cx ι H s K s')(k:∀ ρ',Mono ι s ι s'→St cx ι ρ' H s'→Bnd sc.lim ρ'→K ρ'→G):G:=by cases h;apply k <;> assumption
def zI (p:Pg)(sc:Sc)(t:Expr)(t':Tgt):Prop :=
 ∀ {{C:kO}} {{d:Nat}} {{cx:Cx}} {{A:Around}} {{ι:List Addr}} {{ρ:jz}} {{H:H}} {{s:Shared}} {{val:Value}} {{v:V}} {{K:jz→Prop}} {{E:Value→Shared→Prop}},
  At p sc C d cx A→St cx ι ρ H s→Bnd sc.lim ρ→RepV ι s.heap val v→bindT t' v ρ K→wpAny (model p.prog cx.w) A (assign t cx.env val) (fun J s'=>PostG sc cx ι H s K s') E s
section
variable {p:Pg}{sc:Sc}
theorem Bnd.upd {n i:Nat}{ρ:jz}{v:V}(h:Bnd n ρ)(hi:i<n):Bnd n (upd ρ i v):=fun j hj=>by
 have:j≠i:=by exact fun e0=>WO jr jg ja ja jd jd jc qt hi hj (qe e0)
 simp [Tw.upd,this,h j hj]
theorem wV {C:kO}{d:Nat}{cx:Cx}{A:Around}{ι:List Addr}{ρ:jz}{H:H}{s:Shared}{val:Value}{v:V}{E:Value→Shared→Prop}{x:Str}{i:Nat}(hx:sc.nm x=some i)(hs:sc.st x=true)
  (at':At p sc C d cx A) (S:St cx ι ρ H s) (hb:Bnd sc.lim ρ) (r:RepV ι s.heap val v) {Q:Unit→Shared→Prop} (q:∀ s',Mono ι s ι s'→St cx ι (upd ρ i v) H s'→Bnd sc.lim (upd ρ i v)→Q () s') :
  wpAny (model p.prog cx.w) A (storeName cx.env x val) Q E s:=by
 have hx':cx.nm x=some i:=(at'.fit.nm x).trans hx
 have hb':Bnd sc.lim (upd ρ i v):=hb.upd (at'.fit.lim x i hx)
 rcases at'.fit.stk x hs with k | k
 ·obtain⟨m,hm⟩:=S.ns
  refine wpAny_storeName_local k hm (fun h' hn hsb=>?_) (by rw[at'.ok.fn];rfl)
  obtain⟨S',M'⟩:=S.local at'.ok (s.toks+1) hx' k hm hn hsb.extBut r
  exact q _ M' S' hb'
 ·rcases at'.ok.kinds x i hx' with k' | ⟨_,c,l⟩
  ·rw[k] at k';cases k'
  ·obtain⟨⟨ov,ic⟩,_⟩:=S.cells x c l
   refine wpAny_storeName_cell at'.ok.fn k l ic fun h' hn hsb=>?_
   obtain⟨S',M'⟩:=S.cell at'.ok s.toks hx' ((at'.fit.st x).trans hs) k l hn hsb.extBut r
   exact q _ M' S' hb'
theorem sndG_name {x:Str}{i:Nat}{pos:Pos}(hx:sc.nm x=some i)(hs:sc.st x=true):zI p sc (.Name x pos) (.name i):=fun J J J J J J J J J J J J at' S hb r h =>
 wpAny_assign_Name (wV hx hs at' S hb r fun J M' S' hb'=>⟨_,M',S',hb',h⟩)
inductive NamesAre (sc:Sc):List Expr→List Nat→Prop
 | nil:NamesAre sc [] []
 | cons {x:Str} {i:Nat} {pos:Pos} {es:List Expr} {is:List Nat}:sc.nm x=some i→sc.st x=true→NamesAre sc es is→NamesAre sc (.Name x pos::es) (i::is)
theorem NamesAre.each {es:List Expr}{is:List Nat}(n:NamesAre sc es is)(env:Env):(assignEach es env).length=is.length∧(assignEach es env).findIdx? (·.1)=none:=by
 induction n with
 | nil=>exact⟨rfl,rfl⟩
 | cons _ _ _ ih =>
  refine⟨congrArg (·+1) ih.1,?_⟩
  refine(List.findIdx?_cons ..).trans ?_
  show Option.map _ ((assignEach _ env).findIdx? (·.1))=none
  rw[ih.2];rfl
theorem NamesAre.go {es:List Expr}{is:List Nat}(n:NamesAre sc es is):∀ {C:kO} {d:Nat} {cx:Cx} {A:Around} {ι:List Addr} {ρ:jz} {H:H} {s:Shared} {vals:List Value} {vs:List V} {E:Value→Shared→Prop} {Q:Unit→Shared→Prop},
  At p sc C d cx A→St cx ι ρ H s→Bnd sc.lim ρ→RepVs ι s.heap vals vs→is.length=vs.length→(∀ s',Mono ι s ι s'→St cx ι (KK ρ is vs) H s'→Bnd sc.lim (KK ρ is vs)→Q () s') →
  wpAny (model p.prog cx.w) A (assignInOrder ((assignEach es cx.env).map (·.2)) vals) Q E s:=by
 induction n with
 | nil =>
  intro C d cx A ι ρ H s vals vs E Q at' S hb r hl q
  cases r with
  | nil=>exact wpAny_assignInOrder_none (q s (.refl _ _) S hb)
  | cons _ _=>simp at hl
 | cons hx hs _ ih =>
  intro C d cx A ι ρ H s vals vs E Q at' S hb r hl q
  cases r with
  | nil=>simp at hl
  | cons r₁ r₂ =>
   refine wpAny_assignInOrder_more (wpAny_assign_Name (wV hx hs at' S hb r₁ fun s' M' S' hb'=>?_))
   exact ih at' S' hb' (M'.reps r₂) (by simpa using hl) fun s'' M'' S'' hb''=>q s'' (M'.trans M'') S'' hb''
set_option tactic.hygienic true in
theorem sndG_tup {es:List Expr}{is:List Nat}{k:Nat}{pos:Pos}(n:NamesAre sc es is):zI p sc (.Tuple es k pos) (.tup is):=fun {C d cx A ι ρ H s val v K E} at' S hb r h=>by
 cases r with
 | tup g z rs =>
  rename_i a n' vals vs
  obtain⟨hl,hk⟩:=h
  obtain⟨e1,e2⟩:=n.each cx.env
  have hsz:(assignEach es cx.env).length=vals.size:=by rw[e1,hl,←rs.length];simp
  obtain⟨as,hI⟩:=S.aside at'.ok (Nat.le_refl _)
  refine wpAny_assign_Tuple at'.ao.hd ⟨_,g,rfl,n',rfl⟩ hsz e2 fun h' he=>?_
  obtain⟨S',M'⟩:=S.but as hI s.toks he fun o e=>absurd (Heap.lt_size e) (Nat.lt_irrefl _)
  exact n.go at' S' hb (M'.reps rs) hl fun s'' M'' S'' hb''=>⟨_,M'.trans M'',S'',hb'',hk⟩
 | _=>exact h.elim
theorem snd_dict0 {pos:Pos}:jI p sc (.Dict [] [] pos) .dict0:=fun J J J J J J J J J J at' S J h=>wpAny_Dict_empty (Post.dict S at'.ok (h 0) _)
theorem snd_dict1 {k v:Expr}{pos:Pos}{k' v':E}(h1:jI p sc k k')(h2:jI p sc v v'):jI p sc (.Dict [some k] [v] pos) (.dict1 k' v'):=fun {C d cx A ι ρ H s Q E} at' S hb h=>by
 rw[arm_eval_Dict]
 have hshape:(evalEachOpt [some k] cx.env).zip ((evalEach [v] cx.env).map fun v=>do let x ←v;standAt pos;pure x)=[(eval k cx.env,do let x ←eval v cx.env;standAt pos;pure x)].map fun p=>(some p.1,p.2):=rfl
 rw[hshape,dictDisplay_pairs _ (by simp) (by simp)]
 refine wpAny_bind (wpAny_standAt (wpAny_bind ?_))
 unfold subDict
 refine wpAny_bind (wpAny_alloc ?_)
 refine wpAny_bind (wpAny_holding ?_)
 rw[if_pos (by simp)]
 refine Z04 (S.fresh at'.ok (Nat.le_refl _)) fun f1 f2 f3 f4 f5=>?_
 have as:Aside cx s.heap.objs.size:=⟨f3,f4,f5⟩
 generalize hD:s.heap.objs.size=D at *
 have hk:∀ b ob,s.heap.get? b=some ob→(s.heap.push { cls:=.type "dict",data:=.dict #[] }).get? b=some ob:=fun J J e=>Heap.get?_push_of_some _ e
 have S₁:=(S.push { cls:=.type "dict",data:=.dict #[] } s.toks).keep (a:=D) (o:={ cls:=.type "dict",data:=.dict #[] }) (by rw[←hD];exact get?_fresh rfl) f1
 have at₁:=at'.keep as { cls:=.type "dict",data:=.dict #[] }
 have M₁:Mono ι s ι { s with heap:=s.heap.push { cls:=.type "dict",data:=.dict #[] } }:=.ext hk
 refine wpAny_bind (evalPairs_cons (jk (h1 (cx:=cx.keep D _) at₁ S₁ hb h) fun x s₂ zz=>zz.el fun vk ι₂ H₂ M₂ S₂ r₂ q₂=>wpAny_bind (jk (h2 (cx:=cx.keep D _) at₁ S₂ hb q₂) fun y s₃ zz=>zz.el fun vv ι₃ H₃ M₃ S₃ r₃ ⟨hkey,q₃⟩=>wpAny_bind (wpAny_standAt (wpAny_pure (evalPairs_nil ?_))))))
 refine wpAny_holding ?_
 simp only[List.forIn_cons,List.forIn_nil]
 have g:=S₃.kept (notMk_new rfl)
 have hI:=S₃.keptI
 have S₄:=S₃.unkeep.alloc (o:=.dict [] 0) ⟨#[],g,.nil,List.nodup_nil,Nat.zero_le _⟩ hI f2 f3 f4 f5
 have M₄:Mono ι₃ s₃ (ι₃++[D]) s₃:=⟨List.prefix_append _ _,.refl _⟩
 have hi:(ι₃++[D])[H₃.length]?=some D:=by rw[←S₃.len];simp
 have hH:(H₃++[MO.dict [] 0])[H₃.length]?=some (.dict [] 0):=by simp
 obtain⟨ents,DA⟩:=S₄.dict hi hH
 refine wpAny_bind (wpAny_bind (wpAny_bind (JL (A:=A) S₄ (by have:=at'.ao.u;exact jq ju (qA (qA jc (qN 9)) jj) ja (qA (qA jc (qN 50)) jj) ja qt this) hi hH DA (by show 0<SZ;decide) (M₄.rep (M₃.rep r₂)) (M₄.rep r₃) hkey fun ver s₅ S₅ M₅=>wpAny_pure (wpAny_pure (wpAny_pure (wpAny_pure (wpAny_pure ?_)))))))
 have e:(H₃++[MO.dict [] 0]).set H₃.length (.dict (kB [] vk vv) ver)=H₃++[.dict [(vk,vv)] ver]:=by simp [kB,wH]
 rw[e] at S₅
 exact⟨.ref H₃.length,ι₃++[D],_,(M₁.trans (M₂.trans (M₃.trans M₄))).trans M₅,S₅,.ref hi,q₃ ver⟩
end
abbrev Zy:=List (Str×NameKind)
noncomputable def yC (outer:Str→Option Nat):Nat→Zy→Str→Option Nat
 | _,[],_=>none
 | base,(n,k)::r,x=>if x == n then (match k with | .local=>some base | .cell=>some base | .free=>outer x | _=>none) else yC outer (base+1) r x
theorem kt {outer:Str→Option Nat}:∀ {names:Zy} {base:Nat} {x:Str} {i:Nat},yC outer base names x=some i →
  ∃ k,names.lookup x=some k∧(((k=.local∨k=.cell)∧base≤i∧i<base+names.length)∨(k=.free∧outer x=some i))
 | [],_,_,_,h=>by simp [yC] at h
 | (n,k)::r,base,x,i,h=>by
  unfold yC at h
  cases hx:x == n with
  | true =>
   rw[hx] at h
   simp only[if_true] at h
   refine⟨k,by simp [List.lookup_cons,hx],?_⟩
   cases k <;> simp at h
   ·subst h;exact .inl ⟨.inl rfl,by exact Nat.le_refl _,by simp⟩
   ·subst h;exact .inl ⟨.inr rfl,by exact Nat.le_refl _,by simp⟩
   ·exact .inr ⟨rfl,h⟩
  | false =>
   rw[hx] at h
   simp only[Bool.false_eq_true,if_false] at h
   refine jo (kt h) fun k' h1 h2=>?_
   refine⟨k',by simp [List.lookup_cons,hx,h1],h2.imp (fun⟨a,b,c⟩=>⟨a,by exact jq ju jc ja jg ja qt b,by simp;exact jq jr jg (qA ja jD) jg (qA jA jd) qt c⟩) id⟩
theorem yz {outer:Str→Option Nat}{b0:Nat}(oi:∀ x y i,outer x=some i→outer y=some i→x=y)(ol:∀ x i,outer x=some i→i<b0) :
  ∀ {names:Zy} {base:Nat} {x y:Str} {i:Nat},b0≤base→yC outer base names x=some i→yC outer base names y=some i→x=y
 | [],_,_,_,_,_,h,_=>by simp [yC] at h
 | (n,k)::r,base,x,y,i,hb,h,h'=>by
  unfold yC at h h'
  cases hx:x == n with
  | true =>
   cases hy:y == n with
   | true=>rw[beq_iff_eq.mp hx,beq_iff_eq.mp hy]
   | false =>
    rw[hx] at h;rw[hy] at h'
    simp only[if_true,Bool.false_eq_true,if_false] at h h'
    refine jo (kt h') fun k' h1 h2=>?_
    cases k <;> simp at h
    ·subst h;rcases h2 with h2 | h2
     ·omega
     ·have:=ol _ _ h2.2;exact kc ju jc ja jA jc qt hb this
    ·subst h;rcases h2 with h2 | h2
     ·omega
     ·have:=ol _ _ h2.2;exact kc ju jc ja jA jc qt hb this
    ·rcases h2 with h2 | h2
     ·have:=ol _ _ h;omega
     ·exact oi _ _ _ h h2.2
  | false =>
   cases hy:y == n with
   | true =>
    rw[hx] at h;rw[hy] at h'
    simp only[if_true,Bool.false_eq_true,if_false] at h h'
    refine jo (kt h) fun k' h1 h2=>?_
    cases k <;> simp at h'
    ·subst h';rcases h2 with h2 | h2
     ·omega
     ·have:=ol _ _ h2.2;exact kc ju jc ja jA jc qt hb this
    ·subst h';rcases h2 with h2 | h2
     ·omega
     ·have:=ol _ _ h2.2;exact kc ju jc ja jA jc qt hb this
    ·rcases h2 with h2 | h2
     ·have:=ol _ _ h';omega
     ·exact oi _ _ _ h2.2 h'
   | false =>
    rw[hx] at h;rw[hy] at h'
    simp only[Bool.false_eq_true,if_false] at h h'
    exact yz oi ol (by exact jq ju jc jA jc ja qt hb) h h'
theorem kn:∀ (names:Zy) (n:Nat) (acc:List (Str×Addr)),cellsFrom n names acc=cellsFrom n names []++acc
 | [],_,_=>rfl
 | (x,k)::r,n,acc=>by
  unfold cellsFrom
  split
  ·rw[kn r (n+1) ((x,n)::acc),kn r (n+1) [(x,n)]];simp
  ·exact kn r n acc
theorem wL:∀ (names:Zy) (n:Nat) (x:Str) (c:Addr),(x,c)∈cellsFrom n names []→(x,NameKind.cell)∈names∧n≤c
 | [],_,_,_,h=>by simp [cellsFrom] at h
 | (y,k)::r,n,x,c,h=>by
  unfold cellsFrom at h
  split at h
  ·rename_i hk
   rw[kn] at h
   rcases List.mem_append.mp h with h | h
   ·obtain⟨a,b⟩:=wL r (n+1) x c h;exact⟨List.mem_cons_of_mem _ a,by omega⟩
   ·simp at h;obtain⟨rfl,rfl⟩:=h
    have:k=.cell:=by simpa using hk
    subst this;exact⟨List.mem_cons_self,Nat.le_refl _⟩
  ·obtain⟨a,b⟩:=wL r n x c h;exact⟨List.mem_cons_of_mem _ a,b⟩
theorem kT:∀ (names:Zy) (n:Nat) (x:Str),(x,NameKind.cell)∈names→∃ c,(x,c)∈cellsFrom n names []
 | [],_,_,h=>by simp at h
 | (y,k)::r,n,x,h=>by
  unfold cellsFrom
  split
  ·rw[kn]
   rcases List.mem_cons.mp h with h | h
   ·cases h;exact⟨n,by simp⟩
   ·obtain⟨c,hc⟩:=kT r (n+1) x h;exact⟨c,List.mem_append_left _ hc⟩
  ·rename_i hk
   rcases List.mem_cons.mp h with h | h
   ·cases h;simp at hk
   ·exact kT r n x h
theorem kS {α:Type}:∀ {l:List (Str×α)} {x:Str} {c:α},(x,c)∈l→∃ c',l.lookup x=some c'
 | (y,d)::r,x,c,h=>by
  cases hx:x == y with
  | true=>exact⟨d,by simp [List.lookup_cons,hx]⟩
  | false =>
   rcases List.mem_cons.mp h with h | h
   ·cases h;simp at hx
   ·obtain⟨c',h'⟩:=kS h;exact⟨c',by simp [List.lookup_cons,hx,h']⟩
noncomputable def we (env:Env):Zy→List (Str×Addr)→List (Str×Addr)
 | [],acc=>acc
 | (x,k)::r,acc=>if k == .free then we env r ((x,((env.cells.lookup x).getD 0))::acc) else we env r acc
theorem KG (env:Env)(f:Str×NameKind→List (Str×Addr)→Sem (ForInStep (List (Str×Addr))))
  (hf:∀ x k acc,f (x,k) acc=if k == .free then (do let a ←cellOf env x;pure (.yield ((x,a)::acc))) else pure (.yield acc)) :
  ∀ (names:Zy) (acc:List (Str×Addr)),(∀ x,(x,NameKind.free)∈names→∃ c,env.cells.lookup x=some c)→forIn names acc f=(pure (we env names acc):Sem (List (Str×Addr)))
 | [],acc,_=>by rw[List.forIn_nil];rfl
 | (x,k)::r,acc,h=>by
  have ih:=fun acc=>KG env f hf r acc fun x hx=>h x (List.mem_cons_of_mem _ hx)
  rw[List.forIn_cons,hf]
  unfold we
  cases hk:k == NameKind.free with
  | true =>
   simp only[if_true]
   have:k=.free:=by simpa using hk
   subst this
   obtain⟨c,hc⟩:=h x List.mem_cons_self
   unfold cellOf
   rw[hc]
   simp only[pure_bind]
   exact ih _
  | false =>
   simp only[Bool.false_eq_true,if_false,pure_bind]
   exact ih _
theorem ZF {scope:Scope}{env:Env}(h:∀ x,(x,NameKind.free)∈scope.names→∃ c,env.cells.lookup x=some c):closureFor scope env=pure (we env scope.names []):=by
 unfold closureFor
 dsimp only
 rw[KG env _ (fun x k acc=>by cases hk:k == NameKind.free <;> simp [hk]) scope.names [] h]
 rfl
theorem Jx (env:Env):∀ (names:Zy) (acc:List (Str×Addr)),(∀ x,(x,NameKind.free)∈names→∃ c,env.cells.lookup x=some c)→∀ x c,(x,c)∈we env names acc→(x,c)∈acc∨(env.cells.lookup x=some c∧(x,NameKind.free)∈names)
 | [],_,_,_,_,h=>.inl h
 | (y,k)::r,acc,hf,x,c,h=>by
  unfold we at h
  split at h
  ·rename_i hk
   have hk:k=.free:=by simpa using hk
   subst hk
   rcases Jx env r _ (fun x hx=>hf x (List.mem_cons_of_mem _ hx)) x c h with h | h
   ·rcases List.mem_cons.mp h with h | h
    ·obtain⟨c',hc'⟩:=hf y List.mem_cons_self
     cases h
     refine .inr ⟨by rw[hc'];rfl,List.mem_cons_self⟩
    ·exact .inl h
   ·exact .inr ⟨h.1,List.mem_cons_of_mem _ h.2⟩
  ·rcases Jx env r _ (fun x hx=>hf x (List.mem_cons_of_mem _ hx)) x c h with h | h
   ·exact .inl h
   ·exact .inr ⟨h.1,List.mem_cons_of_mem _ h.2⟩
theorem yG (env:Env):∀ (names:Zy) (acc:List (Str×Addr)) (e:Str×Addr),e∈acc→e∈we env names acc
 | [],_,_,h=>h
 | (y,k)::r,acc,e,h=>by
  unfold we
  split
  ·exact yG env r _ e (List.mem_cons_of_mem _ h)
  ·exact yG env r _ e h
theorem zM (env:Env):∀ (names:Zy) (acc:List (Str×Addr)) (x:Str),(x,NameKind.free)∈names→∃ c,(x,c)∈we env names acc
 | [],_,_,h=>by simp at h
 | (y,k)::r,acc,x,h=>by
  unfold we
  split
  ·rcases List.mem_cons.mp h with h | h
   ·cases h;exact⟨_,yG env r _ _ List.mem_cons_self⟩
   ·exact zM env r _ x h
  ·rename_i hk
   rcases List.mem_cons.mp h with h | h
   ·cases h;simp at hk
   ·exact zM env r _ x h
theorem za {env:Env}(he:env.scope.kind=.function):∀ {names:Zy} {x:Str} {k:NameKind},names.lookup x=some k →
  (names.map fun(n,k)=>if (k == NameKind.free && env.scope.kind == .function && env.kindOf n == some .cell) then (n,NameKind.cell) else (n,k)).lookup x=some (if k=.free∧env.kindOf x=some .cell then .cell else k)
 | [],_,_,h=>by simp at h
 | (n,k')::r,x,k,h=>by
  have ih:=@za env he r x k
  cases hx:x == n with
  | true =>
   have hn:=beq_iff_eq.mp hx
   subst hn
   have h:k'=k:=by simpa [List.lookup_cons] using h
   subst h
   by_cases hc:k'=.free∧env.kindOf x=some .cell
   ·simp [List.lookup_cons,hc.1,hc.2,he]
   ·rw[if_neg hc]
    have:(k' == NameKind.free && env.scope.kind == .function && env.kindOf x == some .cell)=false:=by
     simp only[he,beq_self_eq_true,Bool.and_true]
     rw[Bool.and_eq_false_iff]
     by_cases h1:k'=.free
     ·right;simp;exact fun h2=>hc ⟨h1,h2⟩
     ·left;simpa using h1
    rw[List.map_cons]
    show List.lookup x ((if (k' == NameKind.free && env.scope.kind == .function && env.kindOf x == some .cell)=true then (x,NameKind.cell) else (x,k'))::_)=_
    rw[this];simp
  | false =>
   simp only[List.lookup_cons,hx] at h
   have ih:=ih h
   rw[List.map_cons]
   show List.lookup x ((if (k' == NameKind.free && env.scope.kind == .function && env.kindOf n == some .cell)=true then (n,NameKind.cell) else (n,k'))::_)=_
   by_cases hc:(k' == NameKind.free && env.scope.kind == .function && env.kindOf n == some .cell)=true
   ·rw[if_pos hc];simp only[List.lookup_cons,hx];exact ih
   ·rw[if_neg hc];simp only[List.lookup_cons,hx];exact ih
noncomputable def kI (x:Str):Bool:=!(x == ("__debug__":Str)) && !(x == ("__classdict__":Str))
noncomputable def jF (sc:Sc)(names:Zy):Sc where
 nm:=yC sc.nm sc.lim names
 gk:=fun x=>names.lookup x == some .globalImplicit && kI x
 ck:=fun x=>names.lookup x == some .cell || names.lookup x == some .free
 st:=fun x=>names.lookup x == some .local || names.lookup x == some .cell
 lim:=sc.lim+names.length
 top:=false
structure CompOk (sc:Sc)(scope:Scope):Prop where
 kind:scope.kind=.function
 each:∀ x k,(x,k)∈scope.names→scope.names.lookup x=some k
 plain:∀ x k,(x,k)∈scope.names→kI x=true
 free:∀ x,(x,NameKind.free)∈scope.names→sc.ck x=true
theorem St.reP {cx:Cx}{ι:List Addr}{ρ:jz}{H:H}{s:Shared}{P':Addr→Obj→Prop}(S:St cx ι ρ H s)(h:∀ a o,P' a o→cx.P a o):St { cx with P:=P' } ι ρ H s :=
 ⟨S.same,S.len,S.nodup,S.objs,S.low,S.scr,S.scrI,S.scrIn,fun a o q=>S.prot a o (h a o q),fun a o q=>S.protI a o (h a o q),S.ns,S.nsI,S.cells,S.vars⟩
theorem Aside.keep {cx:Cx}{a b:Addr}(as:Aside cx a)(h:a≠b)(o:Obj):Aside (cx.keep b o) a:=⟨fun ob q=>q.elim (as.np ob) fun e=>h e.1,as.nl,as.nc⟩
theorem iter_self {prog:Program}{cx:Cx}{A:Around}{ι:List Addr}{ρ:jz}{H:H}{s:Shared}{E:Value→Shared→Prop}{it:Addr}{o:Obj}{i:It}{Q:Value→Shared→Prop}(S:St (cx.keep it o) ι ρ H s)(r:ItRep ι s.heap o i)(q:Q (.ref it) s) :
  wpAny (model prog cx.w) A (pyIter (.ref it)) Q E s:=by
 have g:=S.kept r.notMk
 cases i with
 | keys n ver len i=>refine Z13 r fun l J J c d=>?_;exact wpAny_pyIter_keyiter ⟨o,g,c,d⟩ q
 | seq n i=>refine kL r fun l J c d=>?_;exact wpAny_pyIter_listiter ⟨o,g,c,d⟩ q
 | vals vs =>
  rcases r with ⟨t,i,items,n,c,d,_⟩ | ⟨x,left,step,e,_⟩
  ·exact wpAny_pyIter_tupleiter ⟨o,g,c,d⟩ q
  ·subst e;exact wpAny_pyIter_rangeiter g q
theorem Wk {M:Model}{A:Around}{s:Shared}{E:Value→Shared→Prop}{scope:Scope}{globals:Addr}{cl:List (Str×Addr)}{qual:Str}{env:Env}{Q:Env→Shared→Prop}
  (q:Q (newEnv scope s.heap.objs.size globals (cellsFrom (s.heap.objs.size+1) scope.names cl) qual none .none (some env) builtinsNs) { s with heap:=pushCells (s.heap.push { cls:=.type "dict",data:=.dict #[] }) scope.names }) :
  wpAny M A (newFunctionEnv scope globals cl [] qual none .none (some env)) Q E s:=by
 simp only[newFunctionEnv,Option.isSome_some,if_true]
 refine wpAny_bind (wpAny_alloc ?_)
 refine wpAny_bind (wpAny_layCells _ (fun name kind cells=>by cases hkc:kind == NameKind.cell <;> simp [hkc]) _ _ _ _ ?_)
 rw[show({ s with heap:=s.heap.push { cls:=.type "dict",data:=.dict #[] } }:Shared).heap.objs.size=s.heap.objs.size+1 from Heap.size_push ..]
 simp only[List.forIn_nil]
 exact wpAny_bind (wpAny_pure (wpAny_pure q))
noncomputable def wq (cx:Cx)(sc:Sc)(scope:Scope)(h:Heap)(C:Addr):Cx where
 w:=cx.w
 env:={ newEnv scope C cx.env.globals (cellsFrom (C+1) scope.names (we cx.env scope.names [])) cx.env.qual none .none (some cx.env) builtinsNs with scope:=relabel scope cx.env }
 nm:=(jF sc scope.names).nm
 st:=(jF sc scope.names).st
 P:=JF cx h
 s0:=cx.s0
 scr:=cx.scr
section
variable {p:Pg}{sc:Sc}{C:kO}{d:Nat}{cx:Cx}{A:Around}{ι:List Addr}{ρ:jz}{H:H}{s:Shared}{scope:Scope}
theorem kG (at':At p sc C d cx A){x:Str}{k:NameKind}(h:scope.names.lookup x=some k)(L:Addr)(hp:Heap):(wq cx sc scope hp L).env.kindOf x=some (if k=.free∧cx.env.kindOf x=some .cell then .cell else k) :=
 za at'.ok.fn h
theorem ww (ok:CompOk sc scope)(at':At p sc C d cx A){L:Addr}{hp:Heap}{x:Str}{c:Addr}(l:(wq cx sc scope hp L).env.cells.lookup x=some c) :
  ((x,c)∈cellsFrom (L+1) scope.names []∧(x,NameKind.cell)∈scope.names∧L+1≤c)∨(cx.env.cells.lookup x=some c∧(x,NameKind.free)∈scope.names):=by
 have l':(cellsFrom (L+1) scope.names (we cx.env scope.names [])).lookup x=some c:=l
 rw[kn] at l'
 rcases List.mem_append.mp (mem_of_lookup l') with h | h
 ·exact .inl ⟨h,wL _ _ _ _ h⟩
 ·rcases Jx cx.env scope.names [] (fun x hx=>(at'.fit.ck x (ok.free x hx)).2) x c h with h | h
  ·simp at h
  ·exact .inr h
theorem yV (at':At p sc C d cx A){L:Addr}{hp:Heap}{x:Str}(h:(x,NameKind.cell)∈scope.names∨(x,NameKind.free)∈scope.names):∃ c,(wq cx sc scope hp L).env.cells.lookup x=some c:=by
 show ∃ c,(cellsFrom (L+1) scope.names (we cx.env scope.names [])).lookup x=some c
 rw[kn]
 rcases h with h | h
 ·obtain⟨c,hc⟩:=kT scope.names (L+1) x h
  exact kS (List.mem_append_left _ hc)
 ·obtain⟨c,hc⟩:=zM cx.env scope.names [] x h
  exact kS (List.mem_append_right _ hc)
theorem comp_own {x:Str}{c c':Addr}{L:Addr}(h:Heap)(hL:h.objs.size=L)(m:(x,c)∈cellsFrom (L+1) scope.names []):(pushCells (h.push { cls:=.type "dict",data:=.dict #[] }) scope.names).IsCell c none:=by
 have ok:=cellsFrom_ok scope.names (h.push { cls:=.type "dict",data:=.dict #[] }) (L+1) [] ⟨fun J J hm=>(nomatch hm),List.Pairwise.nil⟩ (by rw[Heap.size_push,hL];exact Nat.le_refl _)
 rw[Heap.size_push,hL] at ok
 exact(ok.empty x c m).1
theorem Kn {L:Addr}(h:Heap)(hL:h.objs.size=L):(cellsFrom (L+1) scope.names []).Pairwise fun x y=>x.2≠y.2:=by
 have ok:=cellsFrom_ok scope.names (h.push { cls:=.type "dict",data:=.dict #[] }) (L+1) [] ⟨fun J J hm=>(nomatch hm),List.Pairwise.nil⟩ (by rw[Heap.size_push,hL];exact Nat.le_refl _)
 rw[Heap.size_push,hL] at ok
 exact ok.apart
theorem comp_cxok (ok:CompOk sc scope)(at':At p sc C d cx A)(S:St cx ι ρ H s):CxOk (wq cx sc scope s.heap s.heap.objs.size) where
 fn:=ok.kind
 gl:=at'.ok.gl
 bl:=at'.ok.bl
 inj:=fun x y i hx hy=>yz (fun x y i hx hy=>at'.ok.inj x y i ((at'.fit.nm x).trans hx) ((at'.fit.nm y).trans hy)) at'.fit.lim (Nat.le_refl _) hx hy
 kinds:=fun x i hx=>by
  refine jo (kt hx) fun k l h=>?_
  rcases h with ⟨rfl | rfl,_⟩ | ⟨rfl,ho⟩
  ·left;rw[kG at' l];simp
  ·right;rw[kG at' l];exact⟨.inl (by simp),yV at' (.inl (mem_of_lookup l))⟩
  ·right;rw[kG at' l]
   refine⟨?_,yV at' (.inr (mem_of_lookup l))⟩
   by_cases hc:cx.env.kindOf x=some .cell <;> simp [hc]
 plain:=fun x i hx=>by
  refine jo (kt hx) fun k l h=>?_
  have:=ok.plain x k (mem_of_lookup l)
  simpa [kI] using this
 cinj:=fun x y c hx hy=>by
  have sz:∀ (c:Addr),s.heap.objs.size+1≤c→∀ (x:Str),cx.env.cells.lookup x=some c→False:=fun c hlt x l=>by
   obtain⟨⟨ov,ic⟩,_⟩:=S.cells x c l
   exact absurd ic.lt (Nat.not_lt.mpr (Nat.le_of_succ_le hlt))
  rcases ww ok at' hx with ⟨h1,_,h3⟩ | ⟨h1,_⟩ <;> rcases ww ok at' hy with ⟨k1,_,k3⟩ | ⟨k1,_⟩
  ·exact name_of_addr (Kn s.heap rfl) h1 k1
  ·exact(sz c h3 y k1).elim
  ·exact(sz c k3 x h1).elim
  ·exact at'.ok.cinj x y c h1 k1
 own:=fun x c o hs hk l q=>by
  rcases ww ok at' l with ⟨h1,_,h3⟩ | ⟨h1,h2⟩
  ·have hg:=(S.wdF at'.ok).prot c o q
   exact absurd hg.lt (Nat.not_lt.mpr (Nat.le_of_succ_le h3))
  ·have:=ok.each x _ h2
   simp [wq,jF,this] at hs
 loc:=fun o q=>by
  have hg:=(S.wdF at'.ok).prot _ o q
  exact Nat.lt_irrefl _ hg.lt
 base:=fun a o g h=>.inl (at'.ok.base a o g h)
 lowL:=by
  obtain⟨m,hn⟩:=S.ns
  exact Nat.lt_trans at'.ok.lowL hn.lt
theorem comp_fit (ok:CompOk sc scope)(at':At p sc C d cx A)(L:Addr)(h:Heap):Fit (jF sc scope.names) (wq cx sc scope h L) where
 nm:=fun J=>rfl
 st:=fun J=>rfl
 gk:=fun x hx=>by
  simp [jF,kI] at hx
  exact⟨by rw[kG at' hx.1];simp,by simpa using hx.2.1⟩
 ck:=fun x hx=>by
  simp [jF] at hx
  rcases hx with hx | hx
  ·exact⟨.inl (by rw[kG at' hx];simp),yV at' (.inl (mem_of_lookup hx))⟩
  ·refine⟨?_,yV at' (.inr (mem_of_lookup hx))⟩
   rw[kG at' hx]
   by_cases hc:cx.env.kindOf x=some .cell <;> simp [hc]
 stk:=fun x hx=>by
  simp [jF] at hx
  rcases hx with hx | hx
  ·left;rw[kG at' hx];simp
  ·right;rw[kG at' hx];simp
 lim:=fun x i hx=>by
  refine jo (kt hx) fun k l h=>?_
  rcases h with h | h
  ·exact h.2.2
  ·have:=at'.fit.lim x i h.2;simp [jF];exact jq jr jg (qA ja jd) jg ja qt this
theorem comp_at (ok:CompOk sc scope)(at':At p sc C d cx A)(S:St cx ι ρ H s):At p (jF sc scope.names) C d (wq cx sc scope s.heap s.heap.objs.size) A :=
 ⟨at'.call,at'.try,by
  refine jo (at'.fr.w S at'.ok) fun l e h=>?_
  refine⟨l,e,(fun t=>absurd (show false=true from t) Bool.false_ne_true),fun env he=>?_⟩
  refine jP (h env he) fun k zx25=>?_;refine kL zx25 fun L f n r=>?_
  exact⟨k,L,f,n,.inr r⟩,comp_cxok ok at' S,comp_fit ok at' _ _,at'.gd,at'.ao⟩
theorem comp_st (ok:CompOk sc scope)(at':At p sc C d cx A)(S:St cx ι ρ H s)(hb:Bnd sc.lim ρ) :
  St (wq cx sc scope s.heap s.heap.objs.size) ι ρ H { s with heap:=pushCells (s.heap.push { cls:=.type "dict",data:=.dict #[] }) scope.names }:=by
 have hk:∀ b o,s.heap.get? b=some o→(pushCells (s.heap.push { cls:=.type "dict",data:=.dict #[] }) scope.names).get? b=some o:=fun b o e=>pushCells_keeps _ _ b o (Heap.get?_push_of_some _ e)
 have S':=S.ext s.toks hk
 have fr:=fun(c:Addr) (h:s.heap.objs.size≤c)=>(S.fresh at'.ok h).1
 exact {
  same:=S'.same
  len:=S.len
  nodup:=S.nodup
  objs:=S'.objs
  low:=S.low
  scr:=S'.scr
  scrI:=S.scrI
  scrIn:=S.scrIn
  prot:=fun a o q=>((S.wdF at'.ok).prot a o q).mono (hk _)
  protI:=fun a o q=>(S.wdF at'.ok).protI a o q
  ns:=⟨_,(Heap.Ns.new s.heap (.type "dict")).keeps (pushCells_keeps _ _)⟩
  nsI:=fr _ (Nat.le_refl _)
  cells:=fun x c l=>by
   rcases ww ok at' l with ⟨h1,_,h3⟩ | ⟨h1,_⟩
   ·exact⟨⟨none,comp_own (c':=0) s.heap rfl h1⟩,fr c (Nat.le_of_succ_le h3),Nat.ne_of_gt h3⟩
   ·refine kH (S.cells x c h1) fun zy26 i2 i3=>?_;obtain⟨ov,ic⟩:=zy26
    refine⟨⟨ov,ic.keeps hk⟩,i2,?_⟩
    exact Nat.ne_of_lt ic.lt
  vars:=fun x i v hx hv=>by
   refine jo (kt hx) fun k l h=>?_
   rcases h with h | ⟨rfl,ho⟩
   ·have:=hb i h.2.1
    rw[this] at hv;cases hv
   ·refine jo (S.vars x i v ((at'.fit.nm x).trans ho) hv) fun val va r=>?_
    refine⟨val,?_,r.mono (List.prefix_refl _) (.of_ext hk)⟩
    have hck:=at'.fit.ck x (ok.free x (mem_of_lookup l))
    rcases va with ⟨kl,_⟩ | ⟨_,c,lc,ic⟩
    ·rcases hck.1 with e | e <;> rw[kl] at e <;> cases e
    ·obtain⟨c',lc'⟩:=yV (L:=s.heap.objs.size) (hp:=s.heap) (sc:=sc) at' (.inr (mem_of_lookup l))
     refine .inr ⟨?_,c',lc',?_⟩
     ·rw[kG at' l];by_cases hc:cx.env.kindOf x=some .cell <;> simp [hc]
     ·rcases ww ok at' lc' with ⟨_,h2,_⟩ | ⟨h1,_⟩
      ·have e1:=ok.each x _ h2;rw[l] at e1;cases e1
      ·rw[lc] at h1;cases h1;exact ic.keeps hk }
end
abbrev wQ (vals:Array Value)(n:Nat):Obj:={ cls:=.type "list",data:=.seq vals n }
theorem comp_loop {prog:Program}{w:World}{A:Around}{R:Result→Shared→Prop}{s:Shared}{elt target iter:Expr}{ifs:List Expr}{scope:Scope}{pos:Pos}{it acc:Value}{env:Env}(I:Nat→Shared→Prop)
  (turn:∀ n s,I n s→wpAny (model prog w) A (pyNext it) (fun r s₁=>match r with
   | none=>R (.ok .next) s₁
   | some v=>wpAny (model prog w) A (letOwnedTupleGo target it v) (fun J s₁'=>wpAny (model prog w) A (assign target env v) (fun J s₂ =>
     wpAny (model prog w) A (forIn ifs true fun c r=>if r=true then do let ok ←isTrue c env (eval c env);pure (ForInStep.yield ok) else pure (ForInStep.yield r)) (fun ok s₃ =>
      if ok=true then wpAny (model prog w) A (eval elt env) (fun x s₄ =>
       wpAny (model prog w) A (call (.builtin "list.append") [acc,x]) (fun J s₅=>∃ m,m<n∧I m s₅) (notedBy (model prog w) A env fun e s'=>R (.error e) s') s₄) (notedBy (model prog w) A env fun e s'=>R (.error e) s') s₃
      else ∃ m,m<n∧I m s₃) (notedBy (model prog w) A env fun e s'=>R (.error e) s') s₂) (notedBy (model prog w) A env fun e s'=>R (.error e) s') s₁') (notedBy (model prog w) A env fun e s'=>R (.error e) s') s₁) (notedBy (model prog w) A env fun e s'=>R (.error e) s') s)
  (n:Nat) (h:I n s):codeAny (model prog w) A (.compLoop (.ListComp elt [⟨target,iter,ifs,0⟩] scope pos) 0 it acc env) R s:=by
 refine codeAny_loop rfl I (fun n s hI=>?_) n h
 show wpAny _ A ((compTurn (.ListComp elt [⟨target,iter,ifs,0⟩] scope pos) 0 it acc env).onRaise (fun x=>do noteFrame x env;theTreesLotGoes x)) _ _ s
 refine wpAny_noted ?_
 rw[compTurn_list]
 refine wpAny_bind (wpAny_standAt (wpAny_bind (wpAny_mono (turn n s hI) (fun r s₁ h₁=>?_) fun J J h'=>h')))
 cases r with
 | none=>exact wpAny_pure h₁
 | some v =>
  refine wpAny_bind (wpAny_mono h₁ (fun J s₁' h₁'=>?_) fun J J h'=>h')
  refine wpAny_bind (wpAny_mono h₁' (fun J s₂ h₂=>wpAny_bind (wpAny_mono h₂ (fun ok s₃ h₃=>?_) fun J J h'=>h')) fun J J h'=>h')
  cases ok with
  | false=>exact wpAny_pure ⟨rfl,h₃⟩
  | true =>
   exact wpAny_bind (wpAny_bind (wpAny_mono h₃ (fun x s₄ h₄=>wpAny_bind (wpAny_mono h₄ (fun J s₅ h₅=>wpAny_pure (wpAny_pure ⟨rfl,h₅⟩)) fun J J h'=>h')) fun J J h'=>h'))
inductive SndC (p:Pg)(sc:Sc):List Expr→Option E→Prop
 | none:SndC p sc [] none
 | one {c:Expr} {c':E}:zT p sc c c'→SndC p sc [c] (some c')
section
variable {p:Pg}{sc:Sc}
theorem SndC.go {ifs:List Expr}{cond:Option E}(h:SndC p sc ifs cond){C:kO}{d:Nat}{cx:Cx}{A:Around}{ι:List Addr}{ρ:jz}{H:H}{s:Shared}{Q:Bool→Tw.H→Prop}{E:Value→Shared→Prop}
  (at':At p sc C d cx A) (S:St cx ι ρ H s) (hb:Bnd sc.lim ρ) (hw:wpO C cond ρ H Q) :
  wpAny (model p.prog cx.w) A (forIn ifs true fun c r=>if r=true then do let ok ←isTrue c cx.env (eval c cx.env);pure (ForInStep.yield ok) else pure (ForInStep.yield r)) (PostT cx ι ρ s Q) E s:=by
 cases h with
 | none=>exact wpAny_tests_nil ⟨ι,H,.refl _ _,S,hw⟩
 | one h=>exact wpAny_tests_one (h at' S hb hw)
theorem Wt {C:kO}{cx:Cx}{A:Around}{prog:Program}{ι:List Addr}{ρ:jz}{H:H}{s:Shared}{E:Value→Shared→Prop}{D:Addr}{vals:Array Value}{n:Nat}{out:List V}{x:Value}{v:V}{Q:Value→Shared→Prop}(as:Aside cx D)
  (S:St (cx.keep D (wQ vals n)) ι ρ H s) (r:RepVs ι s.heap vals.toList out) (rx:RepV ι s.heap x v) (hl:out.length<SZ)
  (q:∀ vals' n' s',St (cx.keep D (wQ vals' n')) ι ρ H s'→Mono ι s ι s'→RepVs ι s'.heap vals'.toList (out++[v])→Q .none s') :
  wpAny (model prog cx.w) A (call (.builtin "list.append") [.ref D,x]) Q E s:=by
 have g:=S.kept (Uz rfl)
 have hI:=S.keptI
 have e:vals.size=out.length:=by rw[←Array.length_toList,r.length]
 refine call_meets F.slot_list_append ⟨_,g,rfl⟩ F.entry_list_append (F.args_list_append_2 _ _) (PySem.list_append D vals n _ (by rw[e,←SZ_eq];exact jq ju jc ja jg ja qt hl)) ⟨g,?_⟩
 obtain⟨S',M'⟩:=S.unkeep.but as hI s.toks (h':=s.heap.update D (Obj.mapSeq fun x_1=>x_1.push x)) (Heap.SameBut.update ..).extBut fun o e=>by rw[g] at e;cases e;exact wD rfl
 have g':(s.heap.update D (Obj.mapSeq fun x_1=>x_1.push x)).get? D=some _:=Heap.get?_update_self _ g rfl
 exact q (vals.push x) _ _ (S'.keep g' hI) M' (by simpa using (M'.reps r).append (.cons (M'.rep rx) .nil))
def Uy (C:kO)(ρ:jz)(tgt:Tgt)(cond:Option E)(elt:E)(v:V)(h:H)(k:Option V→H→Prop):Prop :=
 bindT tgt v ρ fun ρ'=>wpO C cond ρ' h fun b h₂=>match b with
  | true=>jW C elt ρ' h₂ fun x h₃=>k (some x) h₃
  | false=>k none h₂
theorem comp_run {elt target iter:Expr}{ifs:List Expr}{scope:Scope}{pos:Pos}{elt':E}{tgt:Tgt}{cond:Option E}{C:kO}{d:Nat}{cx:Cx}{A:Around}{it D:Addr}{R:Result→Shared→Prop}{lim:Nat}{ρ:jz}
  (hg:zI p sc target tgt) (hc:SndC p sc ifs cond) (he:jI p sc elt elt') (at':At p sc C d cx A) (hb:Bnd lim ρ) (hlim:lim≤sc.lim) (hsl:∀ i∈tgt.slots,lim≤i) (aD:Aside cx D) (aI:Aside cx it) (hne:D≠it)
  {ι₀:List Addr} {s₀:Shared} {K:List V→H→Prop}
  (fin:∀ ι H s vals n out,Mono ι₀ s₀ ι s→St (cx.keep D (wQ vals n)) ι ρ H s→RepVs ι s.heap vals.toList out→out.length≤SZ→K out H→R (.ok .next) s) :
  ∀ {f:Nat} {o:Obj} {i:It} {ι:List Addr} {H:H} {s:Shared} {vals:Array Value} {n:Nat} {out:List V},Mono ι₀ s₀ ι s→St ((cx.keep D (wQ vals n)).keep it o) ι ρ H s→ItRep ι s.heap o i→RepVs ι s.heap vals.toList out→out.length≤SZ →
   Jn (Uy C ρ tgt cond elt') f i H out K →
   codeAny (model p.prog cx.w) A (.compLoop (.ListComp elt [⟨target,iter,ifs,0⟩] scope pos) 0 (.ref it) (.ref D) cx.env) R s:=by
 intro f o i ι H s vals n out M S ri ro hl h
 refine comp_loop (fun f s=>∃ (o:Obj) (i:It) (ι:List Addr) (H:Tw.H) (vals:Array Value) (n:Nat) (out:List V),Mono ι₀ s₀ ι s∧St ((cx.keep D (wQ vals n)).keep it o) ι ρ H s∧ItRep ι s.heap o i∧RepVs ι s.heap vals.toList out∧out.length≤SZ ∧
  Jn (Uy C ρ tgt cond elt') f i H out K) (fun f s hI=>?_) f ⟨o,i,ι,H,vals,n,out,M,S,ri,ro,hl,h⟩
 obtain⟨o,i,ι,H,vals,n,out,M,S,ri,ro,hl,h⟩:=hI
 cases f with
 | zero=>exact h.elim
 | succ f =>
  have aI':Aside (cx.keep D (wQ vals n)) it:=aI.keep (Ne.symm hne) _
  refine jk (KJ (cx:=cx.keep D (wQ vals n)) S aI' at'.ao.hd ri h) fun r s₁ h₁=>?_
  cases r with
  | none =>
   refine kH h₁ fun hk S₁ M₁=>?_
   exact fin ι H s₁ vals n out (M.trans M₁) S₁ (M₁.reps ro) hl hk
  | some x =>
   obtain⟨v,i',o',ht,S₁,M₁,rx,ri'⟩:=h₁
   refine WI (cx:=cx.keep D (wQ vals n)) S₁ ri' ?_
   have at₁:=(at'.keep aD (wQ vals n)).keep aI' o'
   have hbs:Bnd sc.lim ρ:=fun i hi=>hb i (Nat.le_trans hlim hi)
   refine jk (hg (cx:=(cx.keep D (wQ vals n)).keep it o') at₁ S₁ hbs rx (bindT_ext ht)) fun J s₂ zz=>zz.el fun ρ' M₂ S₂ hb' ⟨hout,hw⟩=>?_
   have back:∀ {ι':List Addr} {H':Tw.H} {s':Shared} {cx':Cx},cx'.nm=cx'.nm→St cx' ι' ρ' H' s'→St cx' ι' ρ H' s':=fun J S=>S.rho fun x i v J hv=>by
    by_cases hm:i∈tgt.slots
    ·have:=hb i (hsl i hm);rw[this] at hv;cases hv
    ·rw[hout i hm];exact hv
   refine jk (hc.go (cx:=(cx.keep D (wQ vals n)).keep it o') at₁ S₂ hb' hw) fun b s₃ zz=>zz.el fun ι₃ H₃ M₃ S₃ q₃=>?_
   have M₁₃:=M₁.trans (M₂.trans M₃)
   cases b with
   | false =>
    rw[if_neg (by decide)]
    exact⟨f,Nat.lt_succ_self _,o',i',ι₃,H₃,vals,n,out,M.trans M₁₃,back rfl S₃,ri'.mono (M₂.trans M₃).pre (M₂.trans M₃).imm,M₁₃.reps ro,hl,q₃⟩
   | true =>
    rw[if_pos rfl]
    refine jk (he (cx:=(cx.keep D (wQ vals n)).keep it o') at₁ S₃ hb' q₃) fun y s₄ zz=>zz.el fun vy ι₄ H₄ M₄ S₄ ry ⟨hlt,q₄⟩=>?_
    have S₅:St ((cx.keep it o').keep D (wQ vals n)) ι₄ ρ' H₄ s₄:=S₄.reP fun a ob q=>by
     rcases q with (q | q) | q
     ·exact .inl (.inl q)
     ·exact .inr q
     ·exact .inl (.inr q)
    have M₁₄:=M₁₃.trans M₄
    refine Wt (C:=C) (cx:=cx.keep it o') (aD.keep hne _) S₅ (M₁₄.reps ro) ry hlt fun vals' n' s₆ S₆ M₆ r₆=>?_
    refine⟨f,Nat.lt_succ_self _,o',i',ι₄,H₄,vals',n',out++[vy],(M.trans M₁₄).trans M₆,back rfl (S₆.reP fun a ob q=>?_),ri'.mono ((M₂.trans M₃).trans (M₄.trans M₆)).pre ((M₂.trans M₃).trans (M₄.trans M₆)).imm,r₆,by simp;exact hlt,q₄⟩
    rcases q with (q | q) | q
    ·exact .inl (.inl q)
    ·exact .inr q
    ·exact .inl (.inr q)
theorem KP {C:kO}{d:Nat}{cx:Cx}{A:Around}{scope:Scope}(ok:CompOk sc scope)(at':At p sc C d cx A){h:Heap}{L b:Addr}(a:Aside cx b)(hlt:b<L):Aside (wq cx sc scope h L) b where
 np:=fun ob q=>by
  rcases q with q | ⟨q,_⟩ | ⟨_,x,l⟩
  ·exact a.np ob q
  ·exact a.nl q
  ·exact a.nc x b l rfl
 nl:=Nat.ne_of_lt hlt
 nc:=fun x c l=>by
  rcases ww ok at' l with ⟨_,_,h3⟩ | ⟨h1,_⟩
  ·exact Nat.ne_of_gt (Nat.lt_trans hlt h3)
  ·exact a.nc x c h1
theorem Kg {elt target iter:Expr}{ifs:List Expr}{scope:Scope}{pos pos':Pos}{elt' iter':E}{tgt:Tgt}{cond:Option E}{use:Option (Value→Sem Unit)}
  (hi:jI p sc iter iter') (ok:CompOk sc scope) (hg:zI p (jF sc scope.names) target tgt) (hc:SndC p (jF sc scope.names) ifs cond) (he:jI p (jF sc scope.names) elt elt') (hsl:∀ i∈tgt.slots,sc.lim≤i)
  (hset:∀ env x,foldedSetIterable iter env x=pure x)
  {C:kO} {d:Nat} {cx:Cx} {A:Around} {ι:List Addr} {ρ:jz} {H:H} {s:Shared} {Q:V→Tw.H→Prop} {E:Value→Shared→Prop} {R:Value→Shared→Prop}
  (at':At p sc C d cx A) (S:St cx ι ρ H s) (hb:Bnd sc.lim ρ) (h:jW C (.comp elt' tgt iter' cond) ρ H Q)
  (fin:use=none→∀ val s',Post cx ι ρ s Q val s'→R val s')
  (fin':∀ u,use=some u→∀ L oL ι' H' s' val v,Aside cx L→Mono ι s ι' s'→St (cx.keep L oL) ι' ρ H' s'→RepV ι' s'.heap val v→Q v H' →
   wpAny (model p.prog cx.w) A (u val) (fun J s''=>∃ ι'' ρ'' H'',Mono ι' s' ι'' s''∧St (cx.keep L oL) ι'' ρ'' H'' s''∧∀ s₃,Mono ι'' s'' ι'' s₃→St cx ι'' ρ'' H'' s₃→R .none s₃) E s') :
  wpAny (model p.prog cx.w) A (comprehension (.ListComp elt [⟨target,iter,ifs,0⟩] scope pos) scope cx.env pos' (newList []) false (eval iter cx.env) use) R E s:=by
 refine wpAny_comprehension_free (use:=use) rfl (hset _) (ZF fun x hx=>(at'.fit.ck x (ok.free x hx)).2) ok.kind (fun x hx e=>ok.each x.1 _ (by rw[←e];exact hx))
  (jk (hi at' S hb h) fun x s₁ zz=>zz.el fun vi ι₁ H₁ M₁ S₁ r₁ q₁=>jk (KC S₁ at'.ok r₁ q₁) fun itv s₂ ⟨it,o,i,e,aI,S₂,M₂,ri,f,q₂⟩=>?_)
 subst e
 refine wpAny_newObj_type ?_
 refine Wk ?_
 have gI:=S₂.kept ri.notMk
 have hI:=S₂.keptI
 have S₂':=S₂.unkeep
 refine Z04 (S₂'.fresh at'.ok (Nat.le_refl _)) fun f1 f2 f3 f4 f5=>?_
 have aD:Aside cx s₂.heap.objs.size:=⟨f3,f4,f5⟩
 have hk:∀ b ob,s₂.heap.get? b=some ob→(s₂.heap.push (wQ #[] 0)).get? b=some ob:=fun J J e=>Heap.get?_push_of_some _ e
 have gD:(s₂.heap.push (wQ #[] 0)).get? s₂.heap.objs.size=some (wQ #[] 0):=get?_fresh rfl
 have hlt:it<s₂.heap.objs.size:=Heap.lt_size gI
 have hsz:(s₂.heap.push (wQ #[] 0)).objs.size=s₂.heap.objs.size+1:=Heap.size_push ..
 have S₃:=S₂'.push (wQ #[] 0) s₂.toks
 have M₃:Mono ι₁ s₂ ι₁ { s₂ with heap:=s₂.heap.push (wQ #[] 0),toks:=s₂.toks }:=.ext hk
 show codeAny _ A (.compStart (.ListComp elt [⟨target,iter,ifs,0⟩] scope pos) 0 (.ref it) (.ref s₂.heap.objs.size) (wq cx sc scope (s₂.heap.push (wQ #[] 0)) (s₂.heap.push (wQ #[] 0)).objs.size).env)
  (compPost _ A E use R (.ref s₂.heap.objs.size) (s₂.heap.push (wQ #[] 0)).objs.size) { s₂ with heap:=pushCells ((s₂.heap.push (wQ #[] 0)).push { cls:=.type "dict",data:=.dict #[] }) scope.names }
 generalize hD:s₂.heap.objs.size=D at *
 generalize hH3:s₂.heap.push (wQ #[] 0)=h₃ at *
 have S₄:=comp_st ok at' S₃ hb
 have at₄:=comp_at ok at' S₃
 have hk₄:∀ b ob,h₃.get? b=some ob→(pushCells (h₃.push { cls:=.type "dict",data:=.dict #[] }) scope.names).get? b=some ob:=fun b ob e=>pushCells_keeps _ _ b ob (Heap.get?_push_of_some _ e)
 have M₄:Mono ι₁ { s₂ with heap:=h₃,toks:=s₂.toks } ι₁ { s₂ with heap:=pushCells (h₃.push { cls:=.type "dict",data:=.dict #[] }) scope.names,toks:=s₂.toks }:=.ext hk₄
 dsimp only at S₄ at₄
 have hDL:D<h₃.objs.size:=by rw[hsz];exact Nat.lt_succ_self _
 have hIL:it<h₃.objs.size:=Nat.lt_trans hlt hDL
 have aI₄:Aside (wq cx sc scope h₃ h₃.objs.size) it:=KP ok at' aI hIL
 have aD₄:Aside (wq cx sc scope h₃ h₃.objs.size) D:=KP ok at' aD hDL
 have hne:D≠it:=Nat.ne_of_gt hlt
 have S₅:=(S₄.keep (hk₄ _ _ gD) f1).keep (hk₄ _ _ (hk _ _ gI)) hI
 refine Z04 (S₃.fresh at'.ok (a:=h₃.objs.size) (Nat.le_refl _)) fun J hlow hP hL hc5=>?_
 have aL:Aside cx h₃.objs.size:=⟨hP,hL,hc5⟩
 have run:=comp_run (R:=compPost (model p.prog cx.w) A E use R (.ref D) h₃.objs.size) (iter:=iter) (scope:=scope) (pos:=pos) hg hc he at₄ hb (Nat.le_add_right _ _) hsl aD₄ aI₄ hne
  (ι₀:=ι₁) (s₀:={ s₂ with heap:=h₃,toks:=s₂.toks }) (K:=fun out h₂=>Q (.ref h₂.length) (h₂++[MO.list out])) (fun ι₆ H₆ s₆ vals n out M₆ S₆ ro hl hq=>?_)
  (f:=f) M₄ S₅ (ri.mono (M₃.trans M₄).pre (M₃.trans M₄).imm) (vals:=#[]) (n:=0) (out:=[]) .nil (Nat.zero_le _) q₂
 ·exact codeAny_compStart_list run (iter_self (cx:=(wq cx sc scope h₃ h₃.objs.size).keep D _) S₅ (ri.mono (M₃.trans M₄).pre (M₃.trans M₄).imm) run)
 ·have gD₆:=S₆.kept (Uz rfl)
  have hI₆:=S₆.keptI
  have S₇:=S₃.back S₆.unkeep.wd M₆
  have S₈:=S₇.alloc (o:=.list out) ⟨vals,n,gD₆,ro,hl⟩ hI₆ f2 f3 f4 f5
  have M₈:Mono ι₆ s₆ (ι₆++[D]) s₆:=⟨List.prefix_append _ _,.refl _⟩
  have Mall:=M₁.trans (M₂.trans (M₃.trans (M₆.trans M₈)))
  have rD:RepV (ι₆++[D]) s₆.heap (.ref D) (.ref H₆.length):=.ref (by rw[←S₇.len];simp)
  obtain⟨m,hn⟩:=S₆.ns
  have hnI:h₃.objs.size ∉ ι₆++[D]:=fun hm=>by
   rcases List.mem_append.mp hm with hm | hm
   ·exact S₆.nsI hm
   ·simp at hm;exact absurd hm (Nat.ne_of_gt hDL)
  have hni:∀ ob,s₆.heap.get? h₃.objs.size=some ob→¬ yu ob:=Ns.notImm hn
  cases use with
  | none =>
   refine⟨m,hn,fun h' hsb=>?_⟩
   obtain⟨S₉,M₉⟩:=S₈.but aL hnI s₆.toks hsb.extBut hni
   exact fin rfl _ _ ⟨.ref H₆.length,_,_,Mall.trans M₉,S₉,M₉.rep rD,hq⟩
  | some u =>
   obtain⟨oL,gL⟩:=Ns.obj hn
   have hnK:∀ {s':Shared},Kp cx.s0 s'.heap h₃.objs.size oL→s'.heap.Ns h₃.objs.size m:=fun x=>Kp.ns (h:=s₆.heap) (fun o e=>by
    have e:s₆.heap.get? _=some o:=e
    rw[show s₆.heap.get? h₃.objs.size=some oL from gL] at e;cases e;exact x) hn
   refine jk (fin' u rfl h₃.objs.size oL _ _ s₆ (.ref D) (.ref H₆.length) aL Mall (S₈.keep gL hnI) rD hq) fun _ s₇ ⟨ι₇,ρ₇,H₇,M₇,S₉,hR⟩=>?_
   have hn₇:s₇.heap.Ns h₃.objs.size m:=hnK (S₉.prot _ oL (.inr ⟨rfl,rfl⟩))
   refine⟨m,hn₇,fun h' hsb=>?_⟩
   obtain⟨S₁₀,M₁₀⟩:=S₉.unkeep.but aL S₉.keptI s₇.toks hsb.extBut (Ns.notImm hn₇)
   exact hR _ M₁₀ S₁₀
theorem WK {elt target iter:Expr}{ifs:List Expr}{scope:Scope}{pos:Pos}{elt' iter':E}{tgt:Tgt}{cond:Option E}
  (hi:jI p sc iter iter') (ok:CompOk sc scope) (hg:zI p (jF sc scope.names) target tgt) (hc:SndC p (jF sc scope.names) ifs cond) (he:jI p (jF sc scope.names) elt elt') (hsl:∀ i∈tgt.slots,sc.lim≤i)
  (hset:∀ env x,foldedSetIterable iter env x=pure x):jI p sc (.ListComp elt [⟨target,iter,ifs,0⟩] scope pos) (.comp elt' tgt iter' cond):=fun J J J J J J J J J J at' S hb h =>
 Kg (use:=none) hi ok hg hc he hsl hset at' S hb h (fun J J J P=>P) fun u e=>nomatch e
theorem sndB_nil:zW p sc [] []:=fun J J J J J J J J J J at' S hb h=>wpAny_execs_nil ⟨.next,_,_,_,.refl _ _,S,hb,trivial,h⟩
theorem sndB_cons {e:Stmt}{es:List Stmt}{e':S}{es':List S}(h1:wu p sc e e')(h2:zW p sc es es'):zW p sc (e::es) (e'::es'):=fun J J J J J J J J J J at' S hb h=>by
 refine wpAny_execs_cons (jk (h1 at' S hb h) fun f s₁ zz=>zz.el fun o ρ₁ ι₁ H₁ M₁ S₁ hb₁ ho q₁=>?_)
 cases o with
 | next =>
  cases f with
  | next=>exact jk (h2 at' S₁ hb₁ q₁) fun J J P=>P.after M₁
  | _=>exact ho.elim
 | ret v =>
  cases f with
  | ret val=>exact⟨.ret v,ρ₁,ι₁,H₁,M₁,S₁,hb₁,ho,q₁⟩
  | _=>exact ho.elim
theorem snd_ret {e:Expr}{e':E}{pos:Pos}(h1:jI p sc e e'):wu p sc (.Return (some e) pos) (.ret (some e')):=fun J J J J J J J J J J at' S hb h =>
 wpAny_Return_some (jk (h1 at' S hb h) fun val s₁ zz=>zz.el fun v ι₁ H₁ M₁ S₁ r q=>⟨.ret v,_,ι₁,H₁,M₁,S₁.ret,hb,r,q⟩)
theorem snd_ret0 {pos:Pos}:wu p sc (.Return none pos) (.ret none):=fun J J J J J J J J J J at' S hb h=>wpAny_Return_none ⟨.ret .none,_,_,_,.refl _ _,S.ret,hb,.none,h⟩
theorem snd_raise {e:Stmt}:wu p sc e .raise:=fun J J J J J J J J J J J J J h=>h.elim
theorem snd_expr {e:Expr}{e':E}{pos:Pos}(h1:jI p sc e e')(hs:∀ env l,swapsWith e none l env=pure false):wu p sc (.Expr e pos) (.expr e'):=fun {C d cx A ι ρ H s Q E} at' S hb h=>by
 have hi:interactive cx.env=false:=by unfold interactive;rw[at'.ok.fn];rfl
 rw[exec_Expr cx.env e pos hi (hs _ _)]
 exact wpAny_bind (wpAny_standAt (wpAny_bind (jk (h1 at' S hb h) fun val s₁ zz=>zz.el fun v ι₁ H₁ M₁ S₁ r q=>wpAny_dropValue ⟨.next,_,ι₁,H₁,M₁,S₁,hb,trivial,q⟩)))
theorem snd_ite {t:Expr}{a b:List Stmt}{pos:Pos}{t':E}{a' b':List S}(h1:zT p sc t t')(h2:zW p sc a a')(h3:zW p sc b b'):wu p sc (.If t a b pos) (.ite t' a' b'):=fun J J J J J J J J J J at' S hb h=>by
 refine wpAny_If (jk (h1 at' S hb h) fun c s₁ zz=>zz.el fun ι₁ H₁ M₁ S₁ q₁=>?_)
 cases c with
 | true=>exact jk (h2 at' S₁ hb q₁) fun J J P=>P.after M₁
 | false=>exact jk (h3 at' S₁ hb q₁) fun J J P=>P.after M₁
theorem snd_store {o i e:Expr}{pos pos':Pos}{o' i' e':E}(h1:jI p sc e e')(h2:jI p sc o o')(h3:jI p sc i i')(hs:∀ env l t,swapsWith e (some t) l env=pure false) :
  wu p sc (.Assign [.Subscript o i pos'] e pos) (.store o' i' e'):=fun J J J J J J J J J J at' S hb h=>by
 refine wpAny_Assign_Subscript (jk (h1 at' S hb h) fun x s₁ zz=>zz.el fun v ι₁ H₁ M₁ S₁ r₁ q₁=>jk (h2 at' S₁ hb q₁) fun y s₂ zz=>zz.el fun vo ι₂ H₂ M₂ S₂ r₂ q₂=>jk (h3 at' S₂ hb q₂) fun z s₃ zz=>zz.el fun vi ι₃ H₃ M₃ S₃ r₃ q₃=>?_) (hs _ _ _)
 exact jk (WR S₃ at'.ao.u (M₃.rep r₂) r₃ ((M₂.trans M₃).rep r₁) q₃) fun _ s₄ ⟨H₄,M₄,S₄,q₄⟩=>⟨.next,_,ι₃,H₄,M₁.trans (M₂.trans (M₃.trans M₄)),S₄,hb,trivial,q₄⟩
theorem Kc {es:List Expr}{k:Nat}{tp pos:Pos}{e:Expr}{e':E}{tgt:Tgt}(h1:jI p sc e e')(h2:zI p sc (.Tuple es k tp) tgt)(hs:∀ env l t,swapsWith e (some t) l env=pure false)(hw:∀ env,swappedStores [.Tuple es k tp] e env=pure none) :
  wu p sc (.Assign [.Tuple es k tp] e pos) (.assign tgt e'):=fun {C d cx A ι ρ H s Q E} at' S hb h=>by
 refine wpAny_Assign_stores (jk (h1 at' S hb h) fun x s₁ zz=>zz.el fun v ι₁ H₁ M₁ S₁ r₁ q₁=>?_) (hs cx.env pos.line (.Tuple es k tp)) (hw _)
 show wpAny _ _ (assign (.Tuple es k tp) _ x) _ _ _
 exact jk (h2 at' S₁ hb r₁ q₁) fun J s₂ zz=>zz.el fun ρ' M₂ S₂ hb' q₂=>⟨.next,ρ',ι₁,H₁,M₁.trans M₂,S₂,hb',trivial,q₂⟩
theorem Zj {x:Str}{i:Nat}{xp pos:Pos}{e:Expr}{e':E}(h1:jI p sc e e')(hx:sc.nm x=some i)(hst:sc.st x=true)(hs:∀ env l t,swapsWith e (some t) l env=pure false) :
  wu p sc (.Assign [.Name x xp] e pos) (.assign (.name i) e'):=fun J J J J J J J J J J at' S hb h=>by
 refine wpAny_Assign_Name (jk (h1 at' S hb h) fun val s₁ zz=>zz.el fun v ι₁ H₁ M₁ S₁ r₁ q₁=>?_) (hs _ _ _)
 exact wV hx hst at' S₁ hb r₁ fun s₂ M₂ S₂ hb₂=>⟨.next,_,ι₁,H₁,M₁.trans M₂,S₂,hb₂,trivial,q₁⟩
theorem JP {x:Str}{i:Nat}{xp ap:Pos}{elt target iter:Expr}{ifs:List Expr}{scope:Scope}{pos:Pos}{elt' iter':E}{tgt:Tgt}{cond:Option E}(hx:sc.nm x=some i)(hst:sc.st x=true)
  (hi:jI p sc iter iter') (ok:CompOk sc scope) (hg:zI p (jF sc scope.names) target tgt) (hc:SndC p (jF sc scope.names) ifs cond) (he:jI p (jF sc scope.names) elt elt') (hsl:∀ i∈tgt.slots,sc.lim≤i)
  (hset:∀ env x,foldedSetIterable iter env x=pure x):wu p sc (.Assign [.Name x xp] (.ListComp elt [⟨target,iter,ifs,0⟩] scope pos) ap) (.assign (.name i) (.comp elt' tgt iter' cond)):=fun {C d cx A ι ρ H s Q E} at' S hb h=>by
 have h:jW C (.comp elt' tgt iter' cond) ρ H (fun v h₁=>Q .next (upd ρ i v) h₁):=h
 have hsw:∃ b,swapsWith (.ListComp elt [⟨target,iter,ifs,0⟩] scope pos) (some (.Name x xp)) ap.line cx.env=pure b:=⟨_,rfl⟩
 obtain⟨b,hsw⟩:=hsw
 cases b with
 | false =>
  refine wpAny_Assign_Name (jk (WK hi ok hg hc he hsl hset at' S hb h) fun val s₁ zz=>zz.el fun v ι₁ H₁ M₁ S₁ r₁ q₁=>?_) hsw
  exact wV hx hst at' S₁ hb r₁ fun s₂ M₂ S₂ hb₂=>⟨.next,_,ι₁,H₁,M₁.trans M₂,S₂,hb₂,trivial,q₁⟩
 | true =>
  rw[exec_Assign_Name_used _ _ _ _ hsw]
  refine wpAny_bind (wpAny_standAt (wpAny_bind ?_))
  show wpAny _ A (do let _ ←comprehension (.ListComp elt [⟨target,iter,ifs,0⟩] scope pos) scope cx.env _ (newList []) false (eval iter cx.env) (some (assign (.Name x xp) cx.env))) _ _ s
  refine wpAny_bind (jk (Kg (use:=some (assign (.Name x xp) cx.env)) (R:=fun J s'=>PostS sc cx ι s Q .next s') hi ok hg hc he hsl hset at' S hb h (fun e=>nomatch e) fun u eu L oL ι' H' s' val v aL M' S' r' q'=>?_) fun J s' hq=>wpAny_pure (wpAny_pure hq))
  cases eu
  refine wpAny_assign_Name (wV (cx:=cx.keep L oL) hx hst (at'.keep aL oL) S' hb r' fun s₂ M₂ S₂ hb₂=>?_)
  exact⟨ι',_,H',M₂,S₂,fun s₃ M₃ S₃=>⟨.next,_,ι',H',(M'.trans M₂).trans M₃,S₃,hb₂,trivial,q'⟩⟩
theorem snd_while {t:Expr}{b:List Stmt}{pos:Pos}{t':E}{b':List S}(h1:zT p sc t t')(h2:zW p sc b b'):wu p sc (.While t b [] pos) (.while t' b'):=fun {C d cx A ι ρ H s Q E} at' S hb h=>by
 obtain⟨f,h⟩:=h
 refine wpAny_While (codeAny_whileLoop (fun f s'=>∃ ι' ρ' H',Mono ι s ι' s'∧St cx ι' ρ' H' s'∧Bnd sc.lim ρ'∧yO (fun ρ h k=>wpT C t' ρ h k) (fun ρ h k=>wpB C b' ρ h k) f ρ' H' Q) (fun f s₁ hI=>?_) f ⟨ι,ρ,H,.refl _ _,S,hb,h⟩)
 refine Z33 hI fun ι₁ ρ₁ H₁ M₁ S₁ hb₁ h=>?_
 cases f with
 | zero=>exact h.elim
 | succ f =>
  refine jk (h1 at' S₁ hb₁ h) fun c s₂ zz=>zz.el fun ι₂ H₂ M₂ S₂ q₂=>?_
  cases c with
  | false =>
   rw[if_neg (by decide)]
   exact wpAny_execs_nil ⟨.next,ρ₁,ι₂,H₂,M₁.trans M₂,S₂,hb₁,trivial,q₂⟩
  | true =>
   rw[if_pos rfl]
   refine jk (h2 at' S₂ hb₁ q₂) fun fl s₃ zz=>zz.el fun o ρ₃ ι₃ H₃ M₃ S₃ hb₃ ho q₃=>?_
   have M₄:=M₁.trans (M₂.trans M₃)
   cases o with
   | next =>
    cases fl with
    | next=>exact⟨f,Nat.lt_succ_self _,ι₃,ρ₃,H₃,M₄,S₃,hb₃,q₃⟩
    | _=>exact ho.elim
   | ret v =>
    cases fl with
    | ret val=>exact⟨.ret v,ρ₃,ι₃,H₃,M₄,S₃,hb₃,ho,q₃⟩
    | _=>exact ho.elim
theorem snd_for {t it:Expr}{b:List Stmt}{pos:Pos}{tgt:Tgt}{it':E}{b':List S}(h1:jI p sc it it')(hg:zI p sc t tgt)(h2:zW p sc b b')(hset:∀ env x,foldedSetIterable it env x=pure x) :
  wu p sc (.For t it b [] pos) (.for tgt it' b'):=fun {C d cx A ι ρ H s Q E} at' S hb h=>by
 refine wpAny_For (jk (h1 at' S hb h) fun x s₁ zz=>zz.el fun vi ι₁ H₁ M₁ S₁ r₁ q₁=>jk (KC S₁ at'.ok r₁ q₁) fun itv s₂ ⟨I,o,i,e,aI,S₂,M₂,ri,f,q₂⟩=>?_) (hset _)
 subst e
 refine codeAny_forLoop_any (fun f s'=>∃ o i ι' ρ' H',Mono ι s ι' s'∧St (cx.keep I o) ι' ρ' H' s'∧Bnd sc.lim ρ'∧ItRep ι' s'.heap o i∧YC (fun v ρ h k=>bindT tgt v ρ fun ρ'=>wpB C b' ρ' h k) f i ρ' H' Q) (fun f s₁ hI=>?_) f
  ⟨o,i,ι₁,ρ,H₁,M₁.trans M₂,S₂,hb,ri,q₂⟩
 refine Z54 hI fun o i ι₁ ρ₁ H₁ M₁ S₁ hb₁ ri h=>?_
 cases f with
 | zero=>exact h.elim
 | succ f =>
  refine jk (KJ S₁ aI at'.ao.hd ri h) fun r s₂ h₂=>?_
  cases r with
  | none =>
   refine kH h₂ fun hq S₂ M₂=>?_
   exact wpAny_execs_nil ⟨.next,ρ₁,ι₁,H₁,M₁.trans M₂,S₂,hb₁,trivial,hq⟩
  | some x =>
   obtain⟨v,i',o',ht,S₂,M₂,rx,ri'⟩:=h₂
   refine WI S₂ ri' ?_
   have at₁:=at'.keep aI o'
   refine jk (hg (cx:=cx.keep I o') at₁ S₂ hb₁ rx ht) fun J s₃ zz=>zz.el fun ρ₃ M₃ S₃ hb₃ hw=>?_
   refine jk (h2 (cx:=cx.keep I o') at₁ S₃ hb₃ hw) fun fl s₄ zz=>zz.el fun o₄ ρ₄ ι₄ H₄ M₄ S₄ hb₄ ho q₄=>?_
   have M₅:=M₁.trans (M₂.trans (M₃.trans M₄))
   cases o₄ with
   | next =>
    cases fl with
    | next=>exact⟨f,Nat.lt_succ_self _,o',i',ι₄,ρ₄,H₄,M₅,S₄,hb₄,ri'.mono (M₃.trans M₄).pre (M₃.trans M₄).imm,q₄⟩
    | _=>exact ho.elim
   | ret v =>
    cases fl with
    | ret val=>exact⟨.ret v,ρ₄,ι₄,H₄,M₅,S₄.unkeep,hb₄,ho,q₄⟩
    | _=>exact ho.elim
end
noncomputable def sc0:Sc:=⟨fun J=>none,fun J=>false,fun J=>false,fun J=>false,0,false⟩
noncomputable def yb (names:Zy):Sc:={ jF sc0 names with top:=true }
structure FnOk (p:Pg)(f:FnRec)(fn:Fn):Prop where
 params:∃ args,f.params=⟨[],args,none,[],[],none,[]⟩∧(args.map (·.arg)).Nodup∧fn.arity=args.length∧(∀ (i:Nat) x,(args.map (·.arg))[i]?=some x→(yb f.scope.names).nm x=some i)
 kind:f.scope.kind=.function
 co:f.scope.isCoroutine=false
 gen:f.scope.isGenerator=false
 each:∀ x k,(x,k)∈f.scope.names→f.scope.names.lookup x=some k
 plain:∀ x k,(x,k)∈f.scope.names→kI x=true
 free:∀ x,(x,NameKind.free) ∉ f.scope.names
 body:zW p (yb f.scope.names) f.body fn.body
theorem Kj:∀ {names:List Str} {vals:List Value},names.Nodup→names.length=vals.length→∀ x∈names,((names.zip vals).lookup x).isSome=true
 | [],_,_,_,x,h=>by simp at h
 | n::r,[],_,hl,_,_=>by simp at hl
 | n::r,v::vs,hn,hl,x,h=>by
  simp only[List.zip_cons_cons,List.lookup_cons]
  cases hx:x == n with
  | true=>rfl
  | false =>
   rcases List.mem_cons.mp h with e | h
   ·subst e;simp at hx
   ·exact Kj (List.nodup_cons.mp hn).2 (by simpa using hl) x h
theorem Jh {α β:Type}{f g:α→Option β}:∀ {l:List α},(∀ x∈l,f x=g x)→l.filterMap f=l.filterMap g
 | [],_=>rfl
 | a::r,h=>by rw[List.filterMap_cons,List.filterMap_cons,h a List.mem_cons_self,Jh fun x hx=>h x (List.mem_cons_of_mem _ hx)]
theorem KD:∀ {names:List Str} {vals:List Value},names.Nodup→names.length=vals.length→names.filterMap (fun n=>((names.zip vals).lookup n).map (n,·))=names.zip vals
 | [],_,_,_=>by simp
 | n::r,[],_,hl=>by simp at hl
 | n::r,v::vs,hn,hl=>by
  obtain⟨h1,h2⟩:=List.nodup_cons.mp hn
  have ih:=KD h2 (vals:=vs) (by simpa using hl)
  rw[List.zip_cons_cons,List.filterMap_cons]
  simp only[List.lookup_cons,beq_self_eq_true,Option.map_some]
  congr 1
  refine Eq.trans ?_ ih
  exact Jh fun x hx=>by
   have:(x == n)=false:=beq_eq_false_iff_ne.mpr fun(e:x=n)=>h1 (e▸hx)
   rw[this]
theorem zU {α β:Type}{m:Sem α}{a:α}{f:α→Sem β}(h:m=pure a):(m >>= f)=f a:=by rw[h,pure_bind]
theorem ZI {name:Str}{args:List Arg}{body:List Stmt}{scope:Scope}{pm code doc:Value}{vals:List Value}(hn:(args.map (·.arg)).Nodup)(hl:args.length=vals.length) :
  bindArgs (Calls.docDef name ⟨[],args,none,[],[],none,[]⟩ body scope pm code doc) ⟨vals,[]⟩=pure ((args.map (·.arg)).zip vals):=by
 have hl':(args.map (·.arg)).length=vals.length:=by simpa using hl
 have hmiss:List.filter (fun n=>(List.lookup n ((args.map (·.arg)).zip vals)).isNone) ((args.map (·.arg)).take (args.map (·.arg)).length)=[]:=by
  rw[List.take_length,List.filter_eq_nil_iff]
  intro x hx
  have:=Kj hn hl' x hx
  simpa using Option.isSome_iff_ne_none.mp this
 have h1:(decide (vals.length>(args.map (·.arg)).length) && (none:Option Arg).isNone)=false:=by simp [hl']
 have hd:((args.map (·.arg)).drop (args.map (·.arg)).length).zip ([]:List Value)=[]:=by rw[List.drop_length];rfl
 have hf:=KD hn hl'
 unfold bindArgs
 refine(zU rfl).trans ?_
 refine(zU rfl).trans ?_
 refine(if_neg (show ¬ (decide (vals.length>(args.map (·.arg)).length) && (none:Option Arg).isNone)=true by rw[h1];exact Bool.false_ne_true)).trans ?_
 refine(if_neg ?a).trans ?_
 case a =>
  show ¬ (!(List.filter (fun n=>(List.lookup n ((args.map (·.arg)).zip vals)).isNone) ((args.map (·.arg)).take ((args.map (·.arg)).length - (List.drop (0 - (args.map (·.arg)).length) ([]:List Value)).length))).isEmpty)=true
  rw[List.drop_nil,List.length_nil,Nat.sub_zero,hmiss];exact Bool.false_ne_true
 refine(zU (a:=(args.map (·.arg)).zip vals) ?a).trans ?_
 case a =>
  show forIn (((args.map (·.arg)).drop ((args.map (·.arg)).length - (List.drop (0 - (args.map (·.arg)).length) ([]:List Value)).length)).zip (List.drop (0 - (args.map (·.arg)).length) ([]:List Value))) _ _=_
  rw[List.drop_nil,List.length_nil,Nat.sub_zero,hd];rfl
 refine(zU rfl).trans ?_
 refine congrArg pure ?_
 show List.filterMap (fun n=>Option.map (fun x=>(n,x)) (List.lookup n ((args.map (·.arg)).zip vals))) (args.map (·.arg)++[])=_
 rw[List.append_nil];exact hf
theorem JC {kindOf:Str→Option NameKind}:∀ {binds:List (Str×Value)} {m:Str→Option Value} {x:Str},x ∉ binds.map (·.1)→bindL kindOf binds m x=m x∧bindC kindOf binds m x=m x
 | [],_,_,_=>⟨rfl,rfl⟩
 | (n,v)::r,m,x,h=>by
  simp at h
  have hx:∀ z,(x,z) ∉ r:=by simpa using h.2
  have ih:=fun m=>JC (kindOf:=kindOf) (binds:=r) (m:=m) (x:=x) (by simpa using h.2)
  unfold bindL bindC
  refine⟨(ih _).1.trans ?_,(ih _).2.trans ?_⟩ <;> split <;> simp [h.1]
theorem Wz {kindOf:Str→Option NameKind}:∀ {binds:List (Str×Value)} {m:Str→Option Value} {x:Str} {v:Value},(binds.map (·.1)).Nodup→(x,v)∈binds →
  (kindOf x=some .local→bindL kindOf binds m x=some v)∧(kindOf x≠some .local→bindC kindOf binds m x=some v)
 | [],_,_,_,_,h=>by simp at h
 | (n,w)::r,m,x,v,hn,h=>by
  simp only[List.map_cons,List.nodup_cons] at hn
  unfold bindL bindC
  rcases List.mem_cons.mp h with e | h
  ·cases e
   refine⟨fun hk=>?_,fun hk=>?_⟩
   ·rw[(JC hn.1).1,if_pos hk];simp
   ·rw[(JC hn.1).2,if_neg hk];simp
  ·exact⟨(Wz hn.2 h).1,(Wz hn.2 h).2⟩
section
variable {p:Pg}{w:World}{P:Addr→Obj→Prop}{s0:Shared}{scr:Addr}{ι:List Addr}{H:H}{s:Shared}{f:FnRec}{fn:Fn}
noncomputable def UW (w:World)(P:Addr→Obj→Prop)(s0:Shared)(scr:Addr)(fd:FuncData)(L a:Addr):Cx where
 w:=w
 env:=callEnvC fd L a
 nm:=(yb fd.scope.names).nm
 st:=(yb fd.scope.names).st
 P:=P
 s0:=s0
 scr:=scr
theorem zn {names:Zy}{x:Str}{i:Nat}(h:(yb names).nm x=some i):∃ k,names.lookup x=some k∧(k=.local∨k=.cell)∧i<names.length:=by
 refine jo (kt h) fun k l h=>?_
 rcases h with ⟨h,_,h3⟩ | ⟨_,h⟩
 ·exact⟨k,l,h,by simpa [sc0] using h3⟩
 ·cases h
theorem Ke {fd:FuncData}{L a:Addr}{x:Str}(h:(x,NameKind.cell)∈fd.scope.names):∃ c,(callEnvC fd L a).cells.lookup x=some c:=by
 obtain⟨c,hc⟩:=kT fd.scope.names (L+1) x h
 exact kS hc
theorem call_cxok (ok:FnOk p f fn)(G:Gd p.G p.T s0 scr)(hP:∀ a o,s0.heap.get? a=some o→a≠scr→P a o)(W:Wd w P s0 scr ι H s){pm code doc:Value}{a:Addr}
  (hap:(cellsFrom (s.heap.objs.size+1) f.scope.names []).Pairwise fun x y=>x.2≠y.2):CxOk (UW w P s0 scr (Calls.docDef f.name f.params f.body f.scope pm code doc) s.heap.objs.size a) where
 fn:=ok.kind
 gl:=rfl
 bl:=rfl
 inj:=fun x y i hx hy=>yz (b0:=0) (fun x y i h=>by simp [sc0] at h) (fun x i h=>by simp [sc0] at h) (Nat.le_refl _) hx hy
 kinds:=fun x i hx=>by
  refine kL (zn hx) fun k l h J=>?_
  rcases h with rfl | rfl
  ·exact .inl l
  ·exact .inr ⟨.inl l,Ke (mem_of_lookup l)⟩
 plain:=fun x i hx=>by
  refine kL (zn hx) fun k l h J=>?_
  have:=ok.plain x k (mem_of_lookup l)
  simpa [kI] using this
 cinj:=fun x y c hx hy=>name_of_addr hap (mem_of_lookup hx) (mem_of_lookup hy)
 own:=fun x c o J J l q=>by
  have h3:=(wL _ _ _ _ (mem_of_lookup l)).2
  exact absurd (W.prot c o q).lt (Nat.not_lt.mpr (Nat.le_of_succ_le h3))
 loc:=fun o q=>Nat.lt_irrefl _ (W.prot _ o q).lt
 base:=hP
 lowL:=by
  refine jo (G.low) fun o g hne=>?_
  exact(W.prot _ o (hP _ o g hne)).lt
theorem call_fit (w:World)(P:Addr→Obj→Prop)(s0:Shared)(scr:Addr)(fd:FuncData)(L a:Addr)(hf:∀ x,(x,NameKind.free) ∉ fd.scope.names):Fit (yb fd.scope.names) (UW w P s0 scr fd L a) where
 nm:=fun J=>rfl
 st:=fun J=>rfl
 gk:=fun x hx=>by
  simp [yb,jF,kI] at hx
  exact⟨hx.1,by simpa using hx.2.1⟩
 ck:=fun x hx=>by
  simp [yb,jF] at hx
  rcases hx with hx | hx
  ·exact⟨.inl hx,Ke (mem_of_lookup hx)⟩
  ·exact absurd (mem_of_lookup hx) (hf x)
 stk:=fun x hx=>by
  simp [yb,jF] at hx
  exact hx
 lim:=fun x i hx=>by
  refine kL (zn hx) fun k l h h2=>?_
  simpa [yb,jF,sc0] using h2
theorem call_st (ok:FnOk p f fn)(G:Gd p.G p.T s0 scr)(hP:∀ a o,s0.heap.get? a=some o→a≠scr→P a o)(W:Wd w P s0 scr ι H s){pm code doc:Value}{a:Addr}{names:List Str}{vals:List Value}{vs:List V}{s₁:Shared}
  (hn:names.Nodup) (hl:names.length=vals.length) (hsl:∀ (i:Nat) x,names[i]?=some x→(yb f.scope.names).nm x=some i) (r:RepVs ι s.heap vals vs) {fd:FuncData} (hfd:fd=Calls.docDef f.name f.params f.body f.scope pm code doc)
  (I:InCallC s (callEnvC fd s.heap.objs.size a).locals (bindL (callEnvC fd s.heap.objs.size a).kindOf (names.zip vals) fun J=>none) (callEnvC fd s.heap.objs.size a).cells (bindC (callEnvC fd s.heap.objs.size a).kindOf (names.zip vals) fun J=>none) s₁) :
  St (UW w P s0 scr fd s.heap.objs.size a) ι (KR vs) H s₁∧Mono ι s ι s₁:=by
 have hk:=I.toInCall.keep
 have hsc:fd.scope=f.scope:=by rw[hfd];rfl
 have fr:∀ c,s.heap.objs.size≤c→c ∉ ι:=fun c hc hm=>by
  obtain⟨n,hn⟩:=List.mem_iff_getElem?.mp hm
  have hlt:n<H.length:=W.len▸(List.getElem?_eq_some_iff.mp hn).1
  refine jo ((W.objs n c _ hn (List.getElem?_eq_getElem hlt)).get) fun ob g J=>?_
  exact absurd (Heap.lt_size g) (Nat.not_lt.mpr hc)
 have hmap:(names.zip vals).map (·.1)=names:=by rw[List.map_fst_zip];exact qe hl
 refine⟨?_,⟨List.prefix_refl _,.of_ext hk⟩⟩
 exact {
  same:=by
   refine WH (I.toInCall.same) fun h tk e=>?_
   refine WH (W.same) fun h' tk' e'=>?_
   exact⟨h,tk,by rw[e];subst e';rfl⟩
  len:=W.len
  nodup:=W.nodup
  objs:=fun n b o hb ho=>(W.objs n b o hb ho).mono (List.prefix_refl _) (.of_ext hk) (hk _)
  low:=W.low
  scr:=fun o e=>hk _ _ (W.scr o e)
  scrI:=W.scrI
  scrIn:=W.scrIn
  prot:=fun b o q=>(W.prot b o q).mono (hk _)
  protI:=W.protI
  ns:=⟨_,I.toInCall.ns⟩
  nsI:=fr _ (Nat.le_refl _)
  cells:=fun x c l=>by
   have h3:=I.above x c (mem_of_lookup l)
   exact⟨⟨_,I.cell x c l⟩,fr c (Nat.le_of_lt h3),Nat.ne_of_gt h3⟩
  vars:=fun x i v hx hv=>by
   have hx':(yb f.scope.names).nm x=some i:=by rw[←hsc];exact hx
   refine kL (zn hx') fun k l hk2 J=>?_
   have hv':vs[i]?=some v:=hv
   refine jo (r.get hv') fun val hval rv=>?_
   have hi:i<names.length:=by rw[hl];exact(List.getElem?_eq_some_iff.mp hval).1
   have e1:=hsl i names[i] (List.getElem?_eq_getElem hi)
   have e2:names[i]=x:=yz (b0:=0) (fun x y i h=>by simp [sc0] at h) (fun x i h=>by simp [sc0] at h) (Nat.le_refl _) e1 hx'
   have hm:(x,val)∈names.zip vals:=by
    refine List.mem_iff_getElem?.mpr ⟨i,?_⟩
    rw[List.getElem?_zip_eq_some]
    exact⟨by rw[List.getElem?_eq_getElem hi,e2],hval⟩
   have hb:=Wz (kindOf:=(callEnvC fd s.heap.objs.size a).kindOf) (m:=fun J=>none) (by rw[hmap];exact hn) hm
   have hko:(callEnvC fd s.heap.objs.size a).kindOf x=some k:=by show fd.scope.names.lookup x=some k;rw[hsc];exact l
   refine⟨val,?_,rv.mono (List.prefix_refl _) (.of_ext hk)⟩
   rcases hk2 with rfl | rfl
   ·exact .inl ⟨hko,_,I.toInCall.ns,hb.1 hko⟩
   ·obtain⟨c,lc⟩:=Ke (L:=s.heap.objs.size) (a:=a) (fd:=fd) (x:=x) (by rw[hsc];exact mem_of_lookup l)
    have hc:=I.cell x c lc
    rw[hb.2 (by rw[hko];decide)] at hc
    exact .inr ⟨.inl hko,c,lc,hc⟩ }
theorem jaj {C:kO}{d:Nat}{A:Around}{a:Addr}{vals:List Value}{vs:List V}{l:List Env}{Q:Value→Shared→Prop}{E:Value→Shared→Prop}(fo:FnOk p f fn)(G:Gd p.G p.T s0 scr)(hP:∀ a o,s0.heap.get? a=some o→a≠scr→P a o)
  (W:Wd w P s0 scr ι H s) (hl:A.frames=some l) (fr:∀ env∈l,Ye P s0 env) (ao:AOk A (d+1)) (hc:Zw p.prog p.G p.T C d) (ht:TryOk p.prog p.G p.T C d) (hf:FnAt s0.heap a f) (r:RepVs ι s.heap vals vs) (har:fn.arity=vs.length)
  (k:∀ (cx:Cx) (A':Around) (s₁:Shared),cx.w=w→cx.P=P→cx.s0=s0→cx.scr=scr→cx.env.frame=some cx.env.locals→A'.frames=some (cx.env::l)→At p (yb f.scope.names) C d cx A'→St cx ι (KR vs) H s₁→Mono ι s ι s₁→Bnd (yb f.scope.names).lim (KR vs) →
   wpAny (model p.prog w) A' (execs f.body cx.env) (fun fl s'=>Q (match fl with | .ret v=>v | _=>.none) s') (fun e s'=>wpAny (model p.prog w) A' (leaving cx.env e) (fun J s''=>E e s'') (fun e' s''=>E e' s'') s') s₁) :
  wpAny (model p.prog w) A (call (.ref a) vals) Q E s:=by
 refine Z13 (fo.params) fun args hpar hnd hlen hsl=>?_
 have hfa:=hf
 obtain⟨o,pm,code,doc,go,do',hcode⟩:=hf
 have keep:∀ b o,s0.heap.get? b=some o→b≠scr→s.heap.get? b=some o:=fun b o e hne=>(W.prot _ _ (hP _ _ e hne)).base e
 have hll:args.length=vals.length:=by rw[r.length,←har,hlen]
 have hl':(args.map (·.arg)).length=vals.length:=by simpa using hll
 have hap:(cellsFrom (s.heap.objs.size+1) f.scope.names []).Pairwise fun x y=>x.2≠y.2:=Kn (scope:=f.scope) s.heap rfl
 refine wpAny_call (codeAny_call_cells (binds:=(args.map (·.arg)).zip vals) (by have:=ao.dp;exact jq jr jg ja (qA (qA jc jD) jj) ja qt this) (keep _ _ go (G.notScr _ f hfa)) do' (G.lim' _ keep) (G.code _ _ hcode _ keep) rfl (by rw[hpar];exact ZI hnd hll) rfl (fun x hx=>?_) (fun s₁ I=>?_) fo.co fo.gen fo.kind)
 ·have hx1:x.1∈args.map (·.arg):=(List.of_mem_zip (a:=x.1) (b:=x.2) hx).1
  obtain⟨i,hi⟩:=List.mem_iff_getElem?.mp hx1
  refine kL (zn (hsl i x.1 hi)) fun k l hk2 J=>?_
  rcases hk2 with rfl | rfl
  ·exact .inl l
  ·refine .inr ⟨l,?_⟩
   obtain⟨c,hc⟩:=kT f.scope.names (s.heap.objs.size+1) x.1 (mem_of_lookup l)
   obtain⟨c',hc'⟩:=kS hc
   show((cellsFrom (s.heap.objs.size+1) f.scope.names []).lookup x.1).isSome=true
   rw[hc'];rfl
 ·obtain⟨S₁,M₁⟩:=call_st fo G hP W hnd hl' hsl r rfl I
  have cok:=call_cxok (a:=a) (pm:=pm) (code:=code) (doc:=doc) fo G hP W hap
  have hfr:(A.deeper (callEnvC (Calls.docDef f.name f.params f.body f.scope pm code doc) s.heap.objs.size a)).frames=some (callEnvC (Calls.docDef f.name f.params f.body f.scope pm code doc) s.heap.objs.size a::l):=Around.frames_deeper hl
  have at₁:At p (yb f.scope.names) C d (UW w P s0 scr (Calls.docDef f.name f.params f.body f.scope pm code doc) s.heap.objs.size a) (A.deeper (callEnvC (Calls.docDef f.name f.params f.body f.scope pm code doc) s.heap.objs.size a)) :=
   ⟨hc,ht,⟨_,hfr,fun J=>⟨l,rfl,rfl⟩,fun env he=>by
    rcases List.mem_cons.mp he with rfl | he
    ·exact⟨(fun e=>by rw[show(callEnvC (Calls.docDef f.name f.params f.body f.scope pm code doc) s.heap.objs.size a).scope.kind=f.scope.kind from rfl,fo.kind] at e;cases e),_,rfl,S₁.newL cok,.inl rfl⟩
    ·refine jP (fr env he) fun k1 zz27=>?_;refine kL zz27 fun L k2 k3 k4=>?_
     exact⟨k1,L,k2,k3,.inr k4⟩⟩,cok,call_fit w P s0 scr (Calls.docDef f.name f.params f.body f.scope pm code doc) s.heap.objs.size a fo.free,G,⟨ao.hd,by have:=ao.dp;show A.depth+1+d<_;exact jq jr (qA (qA jg ja) jj) jd (qA (qA jc jA) jj) jd qt this,by have:=ao.un;show A.units+3+4 * d+100<_;exact jq jr (qA (qA (qA (qA jc qk3) (qM 4 ja)) (qN 100)) jj) jd (qA (qA (qA jc (qM 4 jA)) (qN 100)) jj) jd qt this⟩⟩
  have hb:Bnd (yb f.scope.names).lim (KR vs):=fun i hi=>by
   show vs[i]?=none
   rw[List.getElem?_eq_none_iff]
   refine Nat.le_of_not_lt fun hlt=>?_
   have hi':i<(args.map (·.arg)).length:=by rw[hl',r.length];exact hlt
   refine kL (zn (hsl i _ (List.getElem?_eq_getElem hi'))) fun k l hk2 h4=>?_
   simp [yb,jF,sc0] at hi
   exact kc ju jg ja ja jc qt h4 hi
  exact k _ _ s₁ rfl rfl rfl rfl rfl hfr at₁ S₁ M₁ hb
end
inductive PostRz (cx:Cx)(ι:List Addr)(s:Shared)(Q:Out→jz→H→Prop)(e:Value)(s':Shared):Prop
 | mk (a C:Addr) (mg:Str→Option Value) (vs:List Value) (ι':List Addr) (ρ':jz) (H':H) (h:Heap) (he:e=.ref a) (g:cx.s0.heap.Ns mainGlobals mg) (O:PyProof.Rows.OwnClsQ wY C JO "ValueError.__new__" mg cx.s0.heap)
   (M:Mono ι s ι' { s' with heap:=h }) (S:St cx ι' ρ' H' { s' with heap:=h }) (X:Heap.MadeExcOf h s'.heap a (.ref C) vs) (q:Q (.ret (.bool true)) ρ' H')
def SndR (p:Pg)(sc:Sc)(e:List Stmt)(e':List S):Prop :=
 ∀ {{C:kO}} {{d:Nat}} {{cx:Cx}} {{A:Around}} {{ι:List Addr}} {{ρ:jz}} {{H:H}} {{s:Shared}} {{Q:Out→jz→Tw.H→Prop}},
  At p sc C d cx A→St cx ι ρ H s→Bnd sc.lim ρ→wpB C e' ρ H Q→wpAny (model p.prog cx.w) A (execs e cx.env) (PostS sc cx ι s fun J ρ' H'=>Q (.ret (.bool false)) ρ' H') (PostRz cx ι s Q) s
def FnTry (p:Pg)(f:FnRec)(fn:Fn):Prop:=(∃ fn₀,FnOk p f fn₀∧fn₀.arity=fn.arity)∧SndR p (yb f.scope.names) f.body fn.body
noncomputable def hidF (h:Heap)(l:List Addr):Heap:=l.foldl Heap.hide h
theorem WC:∀ {l:List Addr} {h:Heap} {b:Addr} {o:Obj},(hidF h l).get? b=some o→h.get? b=some o
 | [],_,_,_,e=>e
 | _::r,_,_,_,e=>Heap.of_hide (WC (l:=r) e)
theorem WS:∀ {l:List Addr} {h:Heap} {b:Addr} {o:Obj},h.get? b=some o→b ∉ l→(hidF h l).get? b=some o
 | [],_,_,_,e,_=>e
 | a::r,h,b,_,e,n=>WS (l:=r) ((Heap.hide_ne h (fun(q:b=a)=>n (by rw[q];exact List.mem_cons_self))).trans e) fun q=>n (List.mem_cons_of_mem _ q)
theorem Uq {l:List Addr}{h:Heap}{b:Addr}(hm:b∈l):(hidF h l).get? b=none:=by
 induction l generalizing h with
 | nil=>cases hm
 | cons a r ih =>
  by_cases hb:b∈r
  ·exact ih hb
  ·rcases List.mem_cons.mp hm with e | hm
   ·cases q:(hidF h (a::r)).get? b with
    | none=>rfl
    | some o =>
     have:=WC (l:=r) q
     rw[e,Heap.hide_self] at this;cases this
   ·exact absurd hm hb
theorem Ko {h base:Heap}:∀ {l:List Env},(∀ env∈l,env.scope.kind≠.module∧∃ L o,env.frame=some L∧base.get? L=none∧h.get? L=some o∧∃ es n,o.data=.dict es n)→h.FunFrames base l
 | [],_=>trivial
 | env::r,x=>by
  refine jP (x env List.mem_cons_self) fun k za28=>?_;refine Z23 za28 fun L o e1 e2 e3 zb29=>?_;refine WH zb29 fun es n d=>?_
  exact⟨k,⟨L,o,e1,e2,e3,fun vs q=>by rw[d] at q;cases q⟩,Ko fun env he=>x env (List.mem_cons_of_mem _ he)⟩
theorem leave_try {prog:Program}{w:World}{P:Addr→Obj→Prop}{s0:Shared}{scr:Addr}{ι:List Addr}{s:Shared}{cx:Cx}{A':Around}{l:List Env}{s₁:Shared}{Q:V→H→Prop}{e:Value}{s':Shared}(e1:cx.w=w)(e2:cx.P=P)(e3:cx.s0=s0)(e4:cx.scr=scr)
  (hf:cx.env.frame=some cx.env.locals) (hfr:A'.frames=some (cx.env::l)) (ok:CxOk cx) (fr:∀ env∈l,Ye P s0 env) (M₁:Mono ι s ι s₁) (x:PostRz cx ι s₁ (fun o J h=>Q o.val h) e s') :
  wpAny (model prog w) A' (leaving cx.env e) (fun J s''=>PostE w P s0 scr l ι s Q e s'') (fun e' s''=>PostE w P s0 scr l ι s Q e' s'') s':=by
 subst e1;subst e2;subst e3;subst e4
 obtain⟨a,C,mg,vs,ι',ρ',H',h,rfl,g,O,M,S,X,q⟩:=x
 refine jo (S.frL) fun ob gL mkL=>?_
 have dL:∃ es n,ob.data=.dict es n:=mkL.2
 have hfs:∀ {b},b∈cx.env.locals::l.filterMap (·.frame)→b=cx.env.locals∨∃ env∈l,env.frame=some b:=fun {b} hm=>by
  rcases List.mem_cons.mp hm with e | hm
  ·exact .inl e
  ·refine jo (List.mem_filterMap.mp hm) fun env he e=>?_
   exact .inr ⟨env,he,e⟩
 have at':∀ env∈l,∃ L o,env.frame=some L∧cx.s0.heap.get? L=none∧h.get? L=some o∧(∃ es n,o.data=.dict es n)∧(∀ o,cx.P L o→Mk o)∧∃ o,cx.P L o:=fun env he=>by
  refine jP (fr env he) fun J zc30=>?_;refine Z13 zc30 fun L e1 e2 zd31 all=>?_;obtain⟨o,po⟩:=zd31
  refine jo ((S.prot L o po).obj) fun o' g' d'=>?_
  refine jP (all o po) fun J ze32=>?_;refine WH ze32 fun es n d=>?_
  exact⟨L,o',e1,e2,g',⟨es,n,d'.trans d⟩,all,o,po⟩
 refine wpAny_leaves_madeW (base:=hidF h (cx.env.locals::l.filterMap (·.frame))) (h:=h) hfr hf (fun b o e=>WC e) (Ko fun env he=>?_) X fun h' t F J J U=>?_
 ·rcases List.mem_cons.mp he with rfl | he
  ·exact⟨(fun e=>by rw[ok.fn] at e;cases e),_,ob,hf,Uq List.mem_cons_self,gL,dL⟩
  ·refine Z24 (at' env he) fun L o e1 e2 e3 d J=>?_
   exact⟨(fr env he).1,L,o,e1,Uq (List.mem_cons_of_mem _ (List.mem_filterMap.mpr ⟨env,he,e1⟩)),e3,d⟩
 ·refine⟨a,C,mg,.ref t,ι',H',h,_,cx.env.locals::l.filterMap (·.frame),rfl,g,O,M₁.trans M,S.wd,?_,F,(Heap.UpToSlots.of_keeps X.keeps).trans U,q⟩
  refine⟨fun b o e n=>WS e n,fun b hb=>?_,fun b hb o po=>?_,fun b hb o e=>?_⟩
  ·rcases hfs hb with rfl | ⟨env,he,e⟩
   ·exact S.nsI
   ·refine Z25 (at' env he) fun L o e1 J J J J zf33=>?_;refine Z10 zf33 fun o' po=>?_
    rw[e] at e1;cases e1
    exact S.protI _ _ po
  ·rcases hfs hb with rfl | ⟨env,he,e⟩
   ·exact absurd po (ok.loc o)
   ·refine Z25 (at' env he) fun L o' e1 e2 J J all J=>?_
    rw[e] at e1;cases e1
    exact⟨e2,all o po⟩
  ·rcases hfs hb with rfl | ⟨env,he,e'⟩
   ·have e:h.get? _=some o:=e
    rw[show h.get? cx.env.locals=some ob from gL] at e;cases e;exact dL
   ·refine Z24 (at' env he) fun L o' e1 J e3 d J=>?_
    rw[e'] at e1;cases e1
    rw[e3] at e;cases e;exact d
def TabOk (p:Pg)(Φ:Nat→Option Fn):Prop:=∀ k f fn,p.T k=some f→(Φ k=some fn→FnOk p f fn)∧(Φ (1000+k)=some fn→FnTry p f fn)
theorem calls_ok {p:Pg}{Φ:Nat→Option Fn}(ok:TabOk p Φ)(d:Nat):Zw p.prog p.G p.T (Calls Φ d) d∧TryOk p.prog p.G p.T (Calls Φ d) d:=by
 induction d with
 | zero=>exact⟨fun J J J J J J J J J J J J J J J J J J J J J J J h=>h.elim,fun J J J J J J J J J J J J J J J J J J J J J J J J h=>h.elim⟩
 | succ d ih =>
  refine⟨?_,?_⟩
  ·intro w P s0 scr ι H s A k f a vals vs Q E G hP W fr ao ht hf r h
   refine kL h fun fn hΦ har hw=>?_
   have fo:=(ok k f fn ht).1 hΦ
   refine jo fr fun l hl fr=>?_
   refine jaj fo G hP W hl fr ao ih.1 ih.2 hf r har fun cx A' s₁ e1 e2 e3 e4 J J at₁ S₁ M₁ hb=>?_
   subst e1;subst e2;subst e3;subst e4
   refine jk (fo.body at₁ S₁ hb hw) fun fl s₂ zz=>zz.el fun o₂ ρ₂ ι₂ H₂ M₂ S₂ J ho q₂=>?_
   cases o₂ with
   | next =>
    cases fl with
    | next=>exact⟨.none,ι₂,H₂,M₁.trans M₂,S₂.wd,.none,q₂⟩
    | _=>exact ho.elim
   | ret v =>
    cases fl with
    | ret val=>exact⟨v,ι₂,H₂,M₁.trans M₂,S₂.wd,ho,q₂⟩
    | _=>exact ho.elim
  ·intro w P s0 scr ι H s A k f a vals vs Q l G hP W hl fr ao ht hf r h
   refine kL h fun fn hΦ har hw=>?_
   obtain⟨⟨fn₀,fo,ha⟩,hR⟩:=(ok k f fn ht).2 hΦ
   refine jaj fo G hP W hl fr ao ih.1 ih.2 hf r (ha.trans har) fun cx A' s₁ e1 e2 e3 e4 e5 e6 at₁ S₁ M₁ hb=>?_
   have hx:=hR at₁ S₁ hb hw
   have e1':=e1
   subst e1
   refine wpAny_mono hx (fun fl s₂ hp=>?_) fun e s₂ hp=>leave_try e1' e2 e3 e4 e5 e6 at₁.ok fr M₁ hp
   obtain⟨o₂,ρ₂,ι₂,H₂,M₂,S₂,_,_,q₂⟩:=hp
   subst e2;subst e3;subst e4
   exact⟨.none,.none,ι₂,H₂,M₁.trans M₂,S₂.wd,.none,q₂⟩
section
variable {p:Pg}{sc:Sc}
theorem St.all {cx:Cx}{ι:List Addr}{ρ:jz}{H:H}{s:Shared}(S:St cx ι ρ H s)(ok:CxOk cx):∀ b o,cx.s0.heap.get? b=some o→s.heap.get? b=some o:=fun b o e=>by
 by_cases hb:b=cx.scr
 ·subst hb;exact S.scr o e
 ·exact(S.prot b o (ok.base b o e hb)).base e
inductive ClsAt (h:Heap)(C:Addr):Prop
 | mk (tl:List Value) (N:Addr) (nm q:Str) (bs:List Value) (hdct:Bool) (sn:List Str) (sub:List Value) (ab:Bool) (col:Option Bool) (dd:Option Addr) (k0 k1 k2 k3 k5:Option Value) (mN:Str→Option Value)
   (hC:h.get? C=some (excClassObj nm q C N bs tl hdct sn sub ab col dd k0 k1 k2 k3 k5 "ValueError.__new__")) (hN:h.Ns N mN) (hni:mN "__init__"=none) (T:OwnTail h JO tl)
theorem ClsAt.of {x:Str}{C:Addr}{mg:Str→Option Value}{h:Heap}(O:PyProof.Rows.OwnClsQ x C JO "ValueError.__new__" mg h):ClsAt h C:=by
 obtain⟨tl,N,nm,qn,bs,hdct,sn,sub,ab,col,dd,k0,k1,k2,k3,k5,mN,hC,hN,hni,T⟩:=O.own.obj
 exact⟨tl,N,nm,qn,bs,hdct,sn,sub,ab,col,dd,k0,k1,k2,k3,k5,mN,hC,hN,hni,T⟩
theorem raise_two {np cpos rp mp:Pos}{msg:Str}{k:Nat}(hk:sc.gk wY=true)(hg:p.G wY=some .exc)(hm:msg.length≤SZ){C:kO}{d:Nat}{cx:Cx}{A:Around}{ι:List Addr}{ρ:jz}{H:H}{s:Shared}{Q:Out→jz→Tw.H→Prop}{R:Flow→Shared→Prop}
  (at':At p sc C d cx A) (S:St cx ι ρ H s) (hb:Bnd sc.lim ρ) (q:Q (.ret (.bool true)) ρ H) :
  wpAny (model p.prog cx.w) A (exec (.Raise (some (.Call (.Name wY np) [.Constant (.str msg) k mp] [] cpos)) none rp) cx.env) R (PostRz cx ι s Q) s:=by
 have hs:wk p sc [.Constant (.str msg) k mp] [.lit (.str msg.cps.toList)]:=Ks (fun J=>rfl) (We hm) Uf
 refine Z24 (S.globals at'.ok at'.gd) fun mg mb J J n0 J h3=>?_
 obtain⟨Cl,O⟩:=h3 wY .exc hg
 obtain⟨tl,N,nm,qn,bs,hdct,sn,sub,ab,col,dd,k0,k1,k2,k3,k5,mN,hC,hN,hni,T⟩:=ClsAt.of O
 refine wpAny_Raise_call_subT (C:=Cl) (nm:=nm) (q:=qn) (N:=N) (bs:=bs) (bm:=tl) (hdct:=hdct) (sn:=sn) (sub:=sub) (ab:=ab) (col:=col) (dd:=dd) (k0:=k0) (k1:=k1) (k2:=k2) (k3:=k3) (k5:=k5)
  PySem.F.excBase_ValueError (mN:=mN) (T.hasType PySem.F.excBase_ValueError.hasBase) at'.ao.hd (yr (hs.2.1 _)) hni (ku at' S hk hg fun v e=>?_)
 refine yI e fun C' mg' zg34 zh35=>?_;subst zg34;refine jP zh35 fun n0' O'=>?_
 obtain rfl:C'=Cl:=by
  have e1:=O'.bound
  rw[Ns.uniq n0' n0,O.bound] at e1
  injection e1 with e1;injection e1 with e1;exact e1.symm
 refine⟨rfl,zh (hs.2.1 _) (jk (hs.2.2 (Q:=fun J H'=>H'=H) cpos at' S hb rfl) fun xs s₁ ⟨hl,vs,ι₁,H₁,M₁,S₁,r₁,q₁⟩=>?_)⟩
 subst q₁
 have hk₁:=S₁.all at'.ok
 exact⟨rfl,by show xs.length≤_;rw[hl];exact(by decide:1≤sizeLine),hk₁ _ _ hC,hN.keeps hk₁,T.keeps hk₁,fun h' e X=>⟨e,C',mg,xs,ι₁,ρ,H₁,s₁.heap,rfl,n0,O,M₁,S₁,X,q⟩⟩
theorem Zk {es:List Expr}{k k':Nat}{tp ap ip np cpos rp mp pos:Pos}{e1 t e:Expr}{e1' t' e':E}{tgt:Tgt}{msg:Str}(h1:jI p sc e1 e1')(h2:zI p sc (.Tuple es k tp) tgt)(hs:∀ env l t,swapsWith e1 (some t) l env=pure false)(hw:∀ env,swappedStores [.Tuple es k tp] e1 env=pure none)
  (h3:zT p sc t t') (h4:jI p sc e e') (hk:sc.gk wY=true) (hg:p.G wY=some .exc) (hm:msg.length≤SZ) :
  SndR p sc [.Assign [.Tuple es k tp] e1 ap,.If t [.Raise (some (.Call (.Name wY np) [.Constant (.str msg) k' mp] [] cpos)) none rp] [] ip,.Return (some e) pos]
   [.assign tgt e1',.ite t' [.ret (some (.lit (.bool true)))] [],.expr e',.ret (some (.lit (.bool false)))]:=fun {C d cx A ι ρ H s Q} at' S hb h=>by
 refine wpAny_execs_cons (wpAny_Assign_stores (jk (h1 at' S hb h) fun x s₁ zz=>zz.el fun v ι₁ H₁ M₁ S₁ r₁ q₁=>?_) (hs cx.env ap.line (.Tuple es k tp)) (hw _))
 show wpAny _ _ (assign (.Tuple es k tp) _ x) _ _ _
 refine jk (h2 at' S₁ hb r₁ q₁) fun J s₂ zz=>zz.el fun ρ₂ M₂ S₂ hb₂ q₂=>?_
 refine wpAny_execs_cons (wpAny_If (jk (h3 at' S₂ hb₂ q₂) fun c s₃ zz=>zz.el fun ι₃ H₃ M₃ S₃ q₃=>?_))
 have M:=M₁.trans (M₂.trans M₃)
 cases c with
 | true =>
  refine wpAny_execs_cons (wpAny_mono (raise_two hk hg hm at' S₃ hb₂ (Q:=Q) q₃) (fun J J x=>x) fun ev s₄ x=>?_)
  obtain⟨a,C',mg,vs,ι₄,ρ₄,H₄,h₄,he,g,O,M₄,S₄,X,q⟩:=x
  exact⟨a,C',mg,vs,ι₄,ρ₄,H₄,h₄,he,g,O,M.trans M₄,S₄,X,q⟩
 | false =>
  refine wpAny_execs_nil (wpAny_execs_cons (wpAny_Return_some (jk (h4 at' S₃ hb₂ q₃) fun val s₄ zz=>zz.el fun v ι₄ H₄ M₄ S₄ r q=>?_)))
  exact⟨.ret v,ρ₂,ι₄,H₄,M.trans M₄,S₄.ret,hb₂,r,q⟩
inductive Fly (cx:Cx)(ι:List Addr)(ρ:jz)(s:Shared)(l:List Env)(R:V→H→Prop)(e:Value)(s₂:Shared):Prop
 | mk (a Cl:Addr) (mg:Str→Option Value) (a0:Value) (ι₂:List Addr) (H₂:H) (h₂ base:Heap) (he:e=.ref a) (g:cx.s0.heap.Ns mainGlobals mg) (O:PyProof.Rows.OwnClsQ wY Cl JO "ValueError.__new__" mg cx.s0.heap)
   (back:∀ h',base.StaysIn h'→h₂.UpToSlots h'→Mono ι s ι₂ { s₂ with heap:=h' }∧St cx ι₂ ρ H₂ { s₂ with heap:=h' }) (F:Heap.FlyingW base l a (.ref Cl) a0 s₂.heap) (U:h₂.UpToSlots s₂.heap) (q:R (.bool true) H₂)
theorem try_call {x:Str}{np cpos ep:Pos}{es:List Expr}{es':List E}{j:Nat}{C:kO}{d:Nat}{cx:Cx}{A:Around}{ι:List Addr}{ρ:jz}{H:H}{s:Shared}{R:V→Tw.H→Prop}{l:List Env}{Qf:Flow→Shared→Prop}{E':Value→Shared→Prop}
  (hk:sc.gk x=true) (hg:p.G x=some (.fn j)) (h1:wk p sc es es') (at':At p sc C d cx A) (S:St cx ι ρ H s) (hb:Bnd sc.lim ρ) (h:wpEs C es' ρ H fun vs h=>C (1000+j) vs h R) (hl:A.frames=some l)
  (q1:∀ ι' H' s',Mono ι s ι' s'→St cx ι' ρ H' s'→R (.bool false) H'→Qf .next s') (q2:∀ e s',Fly cx ι ρ s l R e s'→E' e s') :
  wpAny (model p.prog cx.w) A (execs [.Expr (.Call (.Name x np) es [] cpos) ep] cx.env) Qf E' s:=by
 have hi:interactive cx.env=false:=by unfold interactive;rw[at'.ok.fn];rfl
 refine wpAny_execs_cons ?_
 rw[exec_Expr cx.env (.Call (.Name x np) es [] cpos) ep hi rfl]
 refine wpAny_bind (wpAny_standAt (wpAny_bind (wpAny_Call_ofName (ku at' S hk hg fun v e=>?_))))
 refine yI e fun b f zi36 zj37=>?_;subst zi36;refine jP zj37 fun ht hfn=>?_
 have hfa:=hfn
 obtain⟨o,pm,code,doc,go,do',hcode⟩:=hfn
 have hns:=at'.gd.notScr _ f hfa
 refine Calls.callWith_function (o:=o) (zh (h1.2.1 _) (jk (h1.2.2 cpos at' S hb h) fun xs s₁ ⟨_,vs,ι₁,H₁,M₁,S₁,r₁,q₁⟩=>⟨⟨(S₁.prot _ _ (at'.ok.base _ _ go hns)).base go,do'⟩,?_⟩))
 clear hcode go do'
 refine jo (at'.fr.w S₁ at'.ok) fun l' hl' fr'=>?_
 rw[hl] at hl';cases hl'
 refine wpAny_mono (at'.try at'.gd (fun a o e h=>Or.inl (at'.ok.base a o e h)) (S₁.wdF at'.ok) hl fr' at'.ao ht hfa r₁ q₁) (fun val s₂ hp=>?_) fun e s₂ hp=>?_
 ·obtain⟨_,v,ι₂,H₂,M₂,W₂,_,q₂⟩:=hp
  exact wpAny_dropValue (wpAny_execs_nil (q1 ι₂ H₂ s₂ (M₁.trans M₂) (S₁.back W₂ M₂) q₂))
 ·obtain⟨a,Cl,mg,a0,ι₂,H₂,h₂,base,fs,rfl,g,O,M₂,W₂,V,F,U,q₂⟩:=hp
  refine q2 _ _ ⟨a,Cl,mg,a0,ι₂,H₂,h₂,base,rfl,g,O,fun h' st up=>?_,F,U,q₂⟩
  obtain⟨W',M'⟩:=V.wd W₂ st up
  exact⟨M₁.trans (M₂.trans M'),S₁.back W' (M₂.trans M')⟩
theorem snd_try {x:Str}{np cpos ep tp bp rp hp pos:Pos}{es:List Expr}{es':List E}{j kb:Nat}(htop:sc.top=true)(hk:sc.gk x=true)(hg:p.G x=some (.fn j))(h1:wk p sc es es')(hk2:sc.gk wY=true)(hg2:p.G wY=some .exc) :
  wu p sc (.Try [.Expr (.Call (.Name x np) es [] cpos) ep] [.ExceptHandler (some (.Name wY tp)) none [.Return (some (.Constant (.bool true) kb bp)) rp] hp] [] [] pos)
   (.ite (.call (1000+j) es') [.ret (some (.lit (.bool true)))] []):=fun {C d cx A ι ρ H s Q E} at' S hb h=>by
 refine kL (at'.fr) fun l hl hr J=>?_
 refine jo (hr htop) fun r zk38 hf=>?_;subst zk38
 refine wpAny_Try_except (try_call hk hg h1 at' S hb h hl (fun ι' H' s' M' S' q'=>wpAny_execs_nil ⟨.next,ρ,ι',H',M',S',hb,trivial,q'⟩) fun e s₂ hp=>?_)
 obtain⟨a,Cl,mg,a0,ι₂,H₂,h₂,base,rfl,g,O,back,F,U,q₂⟩:=hp
 refine wpAny_looks_onW hl hf F fun h₄ f₄ u₄=>wpAny_landsW f₄ fun h₅ f₅ u₅=>?_
 obtain⟨M₅,S₅⟩:=back h₅ f₅.1 (U.trans (u₄.trans u₅))
 refine PyProof.Rows.handleBy_own (x:=wY) (C:=Cl) (bmB:=JO) (newId:="ValueError.__new__") (mg:=mg) (by rfl) (ku at' S₅ hk2 hg2 fun v e=>?_)
 refine yI e fun C' mg' zl39 zm40=>?_;subst zl39;refine jP zm40 fun n0' O'=>?_
 obtain rfl:C'=Cl:=by
  have e1:=O'.bound
  rw[Ns.uniq n0' g,O.bound] at e1
  injection e1 with e1;injection e1 with e1;exact e1.symm
 refine⟨rfl,O.keeps (S₅.all at'.ok),f₅.there,PyProof.Rows.lands_againW f₅ fun h₆ f₆ u₆=>?_⟩
 obtain⟨M₆,S₆⟩:=back h₆ f₆.1 (U.trans (u₄.trans (u₅.trans u₆)))
 exact wpAny_execs_cons (wpAny_Return_some (wpAny_Constant_bool ⟨.ret (.bool true),ρ,ι₂,H₂,M₆,S₆.ret,hb,.bool true,q₂⟩))
end
end Tw
end
section
set_option backward.match.sparseCases false
namespace Tw
open PySem PySem.SeqAt
noncomputable def WX:Expr→Bool
 | .Slice ..=>false
 | _=>true
theorem nosl_of {e:Expr}(h:WX e=true):∀ a b c q,e≠.Slice a b c q:=fun a b c q x=>by rw[x] at h;cases h
structure XP (p:Pg)(sc:Sc)(e:Expr)(e':E):Prop where
 sE:jI p sc e e'
 sT:zT p sc e e'
 star:∀ es env,starEach (e::es) env=(false,eval e env)::starEach es env
 nosl:WX e=true
 set:∀ env x,foldedSetIterable e env x=pure x
 marks:∀ op,behindInMarks op e=false
abbrev RE (p:Pg)(sc:Sc)(e:Expr):=Option { e':E // XP p sc e e' }
abbrev REs (p:Pg)(sc:Sc)(es:List Expr):=Option { es':List E // wk p sc es es' }
noncomputable def bopOf:(op:Operator)→Option { b:Bop // b.py=op }
 | .Add=>some ⟨.add,rfl⟩ | .Sub=>some ⟨.sub,rfl⟩ | .Mult=>some ⟨.mul,rfl⟩ | .FloorDiv=>some ⟨.fdiv,rfl⟩ | .Mod=>some ⟨.mod,rfl⟩ | _=>none
noncomputable def Uo:(op:CmpOp)→{ c:Cmp // c.py=op }
 | .Eq=>⟨.eq,rfl⟩ | .NotEq=>⟨.ne,rfl⟩ | .Lt=>⟨.lt,rfl⟩ | .LtE=>⟨.le,rfl⟩ | .Gt=>⟨.gt,rfl⟩ | .GtE=>⟨.ge,rfl⟩ | .Is=>⟨.is,rfl⟩ | .IsNot=>⟨.isNot,rfl⟩ | .In=>⟨.isIn,rfl⟩ | .NotIn=>⟨.notIn,rfl⟩
noncomputable def mtOf (x:Str)(args:Nat):Option { m:Mt // m.nm=x } :=
 if h:Mt.nm .append=x then some ⟨.append,h⟩
 else if h:Mt.nm .reverse=x then some ⟨.reverse,h⟩
 else if h:Mt.nm .clear=x then some ⟨.clear,h⟩
 else if h:Mt.nm .join=x then some ⟨.join,h⟩
 else if h:Mt.nm .pop=x then (if args=0 then some ⟨.pop,h⟩ else some ⟨.dpop,h⟩)
 else if h:Mt.nm .index=x then some ⟨.index,h⟩
 else if h:Mt.nm .update=x then some ⟨.update,h⟩
 else if h:Mt.nm .get=x then some ⟨.get,h⟩
 else if h:Mt.nm .startswith=x then some ⟨.startswith,h⟩
 else none
section
variable {p:Pg}{sc:Sc}
noncomputable def YU (tr:(e:Expr)→RE p sc e):(es:List Expr)→REs p sc es
 | []=>some ⟨[],Uf⟩
 | e::es=>match tr e with
  | none=>none
  | some x=>match YU tr es with
   | none=>none
   | some xs=>some ⟨x.1::xs.1,Ks (x.2.star es) x.2.sE xs.2⟩
noncomputable def Wx (and:Bool)(tr:(e:Expr)→RE p sc e):(es:List Expr)→Option { e':E // Chain p sc and es e' }
 | []=>none
 | e::es=>match es with
  | []=>match tr e with
   | none=>none
   | some x=>some ⟨x.1,.one x.2.sE x.2.sT⟩
  | e₂::r=>match tr e with
   | none=>none
   | some x=>match Wx and tr (e₂::r) with
    | none=>none
    | some y=>some ⟨if and then .and x.1 y.1 else .or x.1 y.1,.more x.2.sE x.2.sT y.2⟩
noncomputable def trO (tr:(e:Expr)→RE p sc e):(e:Option Expr)→Option { e':E // Zm p sc e e' }
 | none=>some ⟨.lit .none,sndO_none⟩
 | some e=>match tr e with
  | none=>none
  | some x=>some ⟨x.1,sndO_some x.2.sE⟩
noncomputable def attrOk:(o:Expr)→Option (PLift (∀ nm env,attributeBase o nm env (eval o env)=eval o env))
 | .Name ..=>some ⟨fun J J=>rfl⟩
 | .Subscript ..=>some ⟨fun J J=>rfl⟩
 | .Constant ..=>some ⟨fun J J=>rfl⟩
 | _=>none
noncomputable def zi (sc:Sc)(scope:Scope):Bool:=scope.kind == .function && scope.names.all fun n=>scope.names.lookup n.1 == some n.2 && kI n.1 && (n.2 != .free || sc.ck n.1)
theorem Us {scope:Scope}(h:zi sc scope=true):CompOk sc scope:=by
 simp only[zi,Bool.and_eq_true,beq_iff_eq,List.all_eq_true] at h
 obtain⟨h1,h2⟩:=h
 refine⟨h1,fun x k hm=>(h2 _ hm).1.1,fun x k hm=>(h2 _ hm).1.2,fun x hm=>?_⟩
 have:=(h2 _ hm).2
 simpa using this
end
noncomputable def jal (sc:Sc):(es:List Expr)→Option { is:List Nat // NamesAre sc es is }
 | []=>some ⟨[],.nil⟩
 | .Name x pos::es=>match h:sc.nm x with
  | none=>none
  | some i=>if hs:sc.st x=true then (match jal sc es with
   | none=>none
   | some is=>some ⟨i::is.1,.cons h hs is.2⟩) else none
 | _=>none
noncomputable def trG (p:Pg)(sc:Sc):(t:Expr)→Option { t':Tgt // zI p sc t t' }
 | .Name x pos=>match h:sc.nm x with
  | none=>none
  | some i=>if hs:sc.st x=true then some ⟨.name i,sndG_name h hs⟩ else none
 | .Tuple es k pos=>match jal sc es with
  | none=>none
  | some is=>some ⟨.tup is.1,sndG_tup is.2⟩
 | _=>none
noncomputable def trC {p:Pg}{sc:Sc}(tr:(e:Expr)→RE p sc e):(ifs:List Expr)→Option { c:Option E // SndC p sc ifs c }
 | []=>some ⟨none,.none⟩
 | [c]=>match tr c with
  | none=>none
  | some x=>some ⟨some x.1,.one x.2.sT⟩
 | _=>none
section
variable {p:Pg}{sc:Sc}{pos:Pos}{k:Nat}
theorem xp_none:XP p sc (.Constant .none k pos) (.lit .none):=⟨Yi,ky (e':=.lit .none) Yi (fun J J=>rfl) fun J J J J h=>h,fun J J=>rfl,rfl,fun J J=>rfl,fun J=>rfl⟩
theorem xp_bool {b:Bool}:XP p sc (.Constant (.bool b) k pos) (.lit (.bool b)):=⟨WV,ky (e':=.lit (.bool b)) WV (fun J J=>rfl) fun J J J J h=>h,fun J J=>rfl,rfl,fun J J=>rfl,fun J=>rfl⟩
theorem xp_int {i:Int}:XP p sc (.Constant (.int i) k pos) (.lit (.int i)):=⟨ZQ,ky (e':=.lit (.int i)) ZQ (fun J J=>rfl) fun J J J J h=>h,fun J J=>rfl,rfl,fun J J=>rfl,fun J=>rfl⟩
theorem xp_str {x:Str}(h:x.length≤SZ):XP p sc (.Constant (.str x) k pos) (.lit (.str x.cps.toList)):=⟨We h,ky (e':=.lit (.str x.cps.toList)) (We h) (fun J J=>rfl) fun J J J J h=>h,fun J J=>rfl,rfl,fun J J=>rfl,fun J=>rfl⟩
theorem xp_var {x:Str}{i:Nat}(h:sc.nm x=some i):XP p sc (.Name x pos) (.var i):=⟨ZT h,ky (e':=.var i) (ZT h) (fun J J=>rfl) fun J J J J h=>h,fun J J=>rfl,rfl,fun J J=>rfl,fun J=>rfl⟩
theorem xp_const {x:Str}{i:Int}(hk:sc.gk x=true)(hg:p.G x=some (.const i)):XP p sc (.Name x pos) (.lit (.int i)):=⟨Ua hk hg,ky (e':=.lit (.int i)) (Ua hk hg) (fun J J=>rfl) fun J J J J h=>h,fun J J=>rfl,rfl,fun J J=>rfl,fun J=>rfl⟩
theorem xp_bin {l r:Expr}{op:Operator}{o:Bop}{a b:E}(ho:o.py=op)(h1:XP p sc l a)(h2:XP p sc r b):XP p sc (.BinOp l op r pos) (.bin o a b):=by
 subst ho;exact⟨snd_bin h1.sE h2.sE,ko (e':=.bin o a b) fun J J J J h=>h,fun J J=>rfl,rfl,fun J J=>rfl,fun J=>rfl⟩
theorem xp_neg {l:Expr}{a:E}(h1:XP p sc l a):XP p sc (.UnaryOp .USub l pos) (.neg a):=⟨snd_neg h1.sE,ko (e':=.neg a) fun J J J J h=>h,fun J J=>rfl,rfl,fun J J=>rfl,fun J=>rfl⟩
theorem xp_not {l:Expr}{a:E}(h1:XP p sc l a):XP p sc (.UnaryOp .Not l pos) (.not a):=⟨snd_not h1.sE,sndT_not h1.sT,fun J J=>rfl,rfl,fun J J=>rfl,fun J=>rfl⟩
theorem Yj {and:Bool}{op:BoolOp}{es:List Expr}{e':E}(ho:(if and then BoolOp.And else BoolOp.Or)=op)(c:Chain p sc and es e'):XP p sc (.BoolOp op es pos) e':=by
 subst ho;exact⟨snd_chain c,ZG c,fun J J=>rfl,rfl,fun J J=>rfl,fun J=>rfl⟩
theorem xp_cmp {l r:Expr}{op:CmpOp}{o:Cmp}{a b:E}(ho:o.py=op)(h1:XP p sc l a)(h2:XP p sc r b):XP p sc (.Compare l [op] [r] pos) (.cmp o a b):=by
 subst ho;exact⟨snd_cmp h1.sE h2.sE (h2.marks _),sndT_cmp h1.sE h2.sE (h2.marks _),fun J J=>rfl,rfl,fun J J=>rfl,fun J=>rfl⟩
theorem xp_cmp2 {l r r₂:Expr}{op op₂:CmpOp}{o o₂:Cmp}{a b c:E}(ho:o.py=op)(ho₂:o₂.py=op₂)(h1:XP p sc l a)(h2:XP p sc r b)(h3:XP p sc r₂ c):XP p sc (.Compare l [op,op₂] [r,r₂] pos) (.cmp2 o o₂ a b c):=by
 subst ho;subst ho₂;exact⟨snd_cmp2 h1.sE h2.sE h3.sE (h3.marks _),sndT_cmp2 h1.sE h2.sE h3.sE (h3.marks _),fun J J=>rfl,rfl,fun J J=>rfl,fun J=>rfl⟩
theorem xp_slice {l:Expr}{lo hi:Option Expr}{q:Pos}{a b c:E}(h1:XP p sc l a)(h2:Zm p sc lo b)(h3:Zm p sc hi c):XP p sc (.Subscript l (.Slice lo hi none q) pos) (.slice a b c) :=
 ⟨snd_slice h1.sE h2 h3,ko (e':=.slice a b c) fun J J J J h=>h,fun J J=>rfl,rfl,fun J J=>rfl,fun J=>rfl⟩
theorem xp_sub {l r:Expr}{a b:E}(h1:XP p sc l a)(h2:XP p sc r b):XP p sc (.Subscript l r pos) (.sub a b) :=
 ⟨snd_sub h1.sE h2.sE (nosl_of h2.nosl),ko (e':=.sub a b) fun J J J J h=>h,fun J J=>rfl,rfl,fun J J=>rfl,fun J=>rfl⟩
theorem xp_tup {es:List Expr}{es':List E}(h1:wk p sc es es')(hn:es.length≤1000):XP p sc (.Tuple es k pos) (.tup es'):=⟨snd_tup h1 hn,ko (e':=.tup es') fun J J J J h=>h,fun J J=>rfl,rfl,fun J J=>rfl,fun J=>rfl⟩
theorem xp_list {es:List Expr}{es':List E}(h1:wk p sc es es')(hn:es.length≤1000):XP p sc (.List es pos) (.list es'):=⟨snd_list h1 hn,ko (e':=.list es') fun J J J J h=>h,fun J J=>rfl,rfl,fun J J=>rfl,fun J=>rfl⟩
theorem xp_dict0:XP p sc (.Dict [] [] pos) .dict0:=⟨snd_dict0,ko (e':=.dict0) fun J J J J h=>h,fun J J=>rfl,rfl,fun J J=>rfl,fun J=>rfl⟩
theorem xp_dict1 {x y:Expr}{a b:E}(h1:XP p sc x a)(h2:XP p sc y b):XP p sc (.Dict [some x] [y] pos) (.dict1 a b):=⟨snd_dict1 h1.sE h2.sE,ko (e':=.dict1 a b) fun J J J J h=>h,fun J J=>rfl,rfl,fun J J=>rfl,fun J=>rfl⟩
theorem xp_comp {elt target iter:Expr}{ifs:List Expr}{scope:Scope}{elt' iter':E}{tgt:Tgt}{cond:Option E}{z:Int}(hz:z=0)(hi:XP p sc iter iter')(ok:zi sc scope=true)(hg:zI p (jF sc scope.names) target tgt)(hc:SndC p (jF sc scope.names) ifs cond)
  (he:XP p (jF sc scope.names) elt elt') (hsl:tgt.slots.all (fun i=>decide (sc.lim≤i))=true):XP p sc (.ListComp elt [⟨target,iter,ifs,z⟩] scope pos) (.comp elt' tgt iter' cond):=by
 subst hz
 exact⟨WK hi.sE (Us ok) hg hc he.sE (by simpa using hsl) hi.set,ko (e':=.comp elt' tgt iter' cond) fun J J J J h=>h,fun J J=>rfl,rfl,fun J J=>rfl,fun J=>rfl⟩
theorem xp_isinst {x y:Str}{np ny:Pos}{e:Expr}{a:E}{t:Ty}{g:Gl}(hk:sc.gk x=true)(hg:p.G x=some .isinst)(hk':sc.gk y=true)(hg':p.G y=some g)(hty:tyOf g=some t)(h1:XP p sc e a):XP p sc (.Call (.Name x np) [e,.Name y ny] [] pos) (.isinst a t) :=
 ⟨Ky hk hg hk' hg' hty (h1.star _) h1.sE,ky (e':=.isinst a t) (Ky hk hg hk' hg' hty (h1.star _) h1.sE) (fun J J=>rfl) fun J J J J h=>h,fun J J=>rfl,rfl,fun J J=>rfl,fun J=>rfl⟩
theorem xp_call {x:Str}{np:Pos}{es:List Expr}{es':List E}{j:Nat}(hk:sc.gk x=true)(hg:p.G x=some (.fn j))(h1:wk p sc es es'):XP p sc (.Call (.Name x np) es [] pos) (.call j es') :=
 ⟨WU hk hg h1,ky (e':=.call j es') (WU hk hg h1) (fun J J=>rfl) fun J J J J h=>h,fun J J=>rfl,rfl,fun J J=>rfl,fun J=>rfl⟩
theorem xp_bi {x:Str}{np:Pos}{es:List Expr}{es':List E}{b:Bi}(hk:sc.gk x=true)(hg:p.G x=some (.bi b))(h1:wk p sc es es'):XP p sc (.Call (.Name x np) es [] pos) (.bi b es') :=
 ⟨snd_bi hk hg h1,ko (e':=.bi b es') fun J J J J h=>h,fun J J=>rfl,rfl,fun J J=>rfl,fun J=>rfl⟩
theorem xp_meth {o:Expr}{x:Str}{apos:Pos}{es:List Expr}{m:Mt}{a:E}{es':List E}(hm:m.nm=x)(ho:∀ nm env,attributeBase o nm env (eval o env)=eval o env)(hl:(apos.endLine == pos.line)=true)(hn:es.length<29)(h0:XP p sc o a)(h1:wk p sc es es') :
  XP p sc (.Call (.Attribute o x apos) es [] pos) (.meth m a es'):=by
 subst hm
 exact⟨Ys (ho _) hl hn h0.sE h1,ky (e':=.meth m a es') (Ys (ho _) hl hn h0.sE h1) (fun J J=>rfl) fun J J J J h=>h,fun J J=>rfl,rfl,fun J J=>rfl,fun J=>rfl⟩
end
set_option smartUnfolding false in
noncomputable def yf (p:Pg):(n:Nat)→(sc:Sc)→(e:Expr)→RE p sc e
 | 0,_,_=>none
 | n+1,sc,e=>match e with
  | .Constant .none k pos=>some ⟨.lit .none,xp_none⟩
  | .Constant (.bool b) k pos=>some ⟨.lit (.bool b),xp_bool⟩
  | .Constant (.int i) k pos=>some ⟨.lit (.int i),xp_int⟩
  | .Constant (.str x) k pos=>if h:x.length≤SZ then some ⟨.lit (.str x.cps.toList),xp_str h⟩ else none
  | .Name x pos=>match h:sc.nm x with
   | some i=>some ⟨.var i,xp_var h⟩
   | none=>if hk:sc.gk x=true then (match hg:p.G x with
    | some (.const i)=>some ⟨.lit (.int i),xp_const hk hg⟩
    | _=>none) else none
  | .BinOp l op r pos=>match bopOf op,yf p n sc l,yf p n sc r with
   | some o,some a,some b=>some ⟨.bin o.1 a.1 b.1,xp_bin o.2 a.2 b.2⟩
   | _,_,_=>none
  | .UnaryOp .USub l pos=>match yf p n sc l with
   | some a=>some ⟨.neg a.1,xp_neg a.2⟩
   | _=>none
  | .UnaryOp .Not l pos=>match yf p n sc l with
   | some a=>some ⟨.not a.1,xp_not a.2⟩
   | _=>none
  | .BoolOp .And es pos=>match Wx true (yf p n sc) es with
   | some c=>some ⟨c.1,Yj rfl c.2⟩
   | none=>none
  | .BoolOp .Or es pos=>match Wx false (yf p n sc) es with
   | some c=>some ⟨c.1,Yj rfl c.2⟩
   | none=>none
  | .Compare l [op] [r] pos=>match yf p n sc l,yf p n sc r with
   | some a,some b=>some ⟨.cmp (Uo op).1 a.1 b.1,xp_cmp (Uo op).2 a.2 b.2⟩
   | _,_=>none
  | .Compare l [op,op₂] [r,r₂] pos=>match yf p n sc l,yf p n sc r,yf p n sc r₂ with
   | some a,some b,some c=>some ⟨.cmp2 (Uo op).1 (Uo op₂).1 a.1 b.1 c.1,xp_cmp2 (Uo op).2 (Uo op₂).2 a.2 b.2 c.2⟩
   | _,_,_=>none
  | .Subscript l (.Slice lo hi none q) pos=>match yf p n sc l,trO (yf p n sc) lo,trO (yf p n sc) hi with
   | some a,some b,some c=>some ⟨.slice a.1 b.1 c.1,xp_slice a.2 b.2 c.2⟩
   | _,_,_=>none
  | .Subscript l r pos=>match yf p n sc l,yf p n sc r with
   | some a,some b=>some ⟨.sub a.1 b.1,xp_sub a.2 b.2⟩
   | _,_=>none
  | .Tuple es k pos=>match YU (yf p n sc) es with
   | some xs=>if h:es.length≤1000 then some ⟨.tup xs.1,xp_tup xs.2 h⟩ else none
   | _=>none
  | .List es pos=>match YU (yf p n sc) es with
   | some xs=>if h:es.length≤1000 then some ⟨.list xs.1,xp_list xs.2 h⟩ else none
   | _=>none
  | .Dict [] [] pos=>some ⟨.dict0,xp_dict0⟩
  | .Dict [some k] [v] pos=>match yf p n sc k,yf p n sc v with
   | some a,some b=>some ⟨.dict1 a.1 b.1,xp_dict1 a.2 b.2⟩
   | _,_=>none
  | .ListComp elt [⟨target,iter,ifs,z⟩] scope pos=>match yf p n sc iter,trG p (jF sc scope.names) target,trC (yf p n (jF sc scope.names)) ifs,yf p n (jF sc scope.names) elt with
   | some i,some t,some c,some e=>if hz:z=0 then (if h:zi sc scope=true then (if hs:t.1.slots.all (fun i=>decide (sc.lim≤i))=true then
     some ⟨.comp e.1 t.1 i.1 c.1,xp_comp hz i.2 h t.2 c.2 e.2 hs⟩ else none) else none) else none
   | _,_,_,_=>none
  | .Call (.Name x np) es [] pos=>if hk:sc.gk x=true then (match hg:p.G x with
    | some .isinst=>(match es with
     | [e,.Name y ny]=>if hk':sc.gk y=true then (match hg':p.G y,yf p n sc e with
      | some g,some a=>(match hty:tyOf g with
       | some t=>some ⟨.isinst a.1 t,xp_isinst hk hg hk' hg' hty a.2⟩
       | none=>none)
      | _,_=>none) else none
     | _=>none)
    | some (.fn k)=>(match YU (yf p n sc) es with
     | some xs=>some ⟨.call k xs.1,xp_call hk hg xs.2⟩
     | none=>none)
    | some (.bi b)=>(match YU (yf p n sc) es with
     | some xs=>some ⟨.bi b xs.1,xp_bi hk hg xs.2⟩
     | none=>none)
    | _=>none) else none
  | .Call (.Attribute o x apos) es [] pos=>match yf p n sc o,YU (yf p n sc) es,mtOf x es.length,attrOk o with
   | some a,some xs,some m,some ⟨ao⟩=>if hl:(apos.endLine == pos.line)=true then (if hn:es.length<29 then
     some ⟨.meth m.1 a.1 xs.1,xp_meth m.2 ao hl hn a.2 xs.2⟩ else none) else none
   | _,_,_,_=>none
  | _=>none
end Tw
end
section
set_option backward.match.sparseCases false
namespace Tw
open PySem PySem.SeqAt
noncomputable def JW:(e:Expr)→Option (PLift (∀ env l t,swapsWith e t l env=pure false))
 | .Constant ..=>some ⟨fun J J J=>rfl⟩
 | .Name ..=>some ⟨fun J J J=>rfl⟩
 | .BinOp ..=>some ⟨fun J J J=>rfl⟩
 | .UnaryOp ..=>some ⟨fun J J J=>rfl⟩
 | .BoolOp ..=>some ⟨fun J J J=>rfl⟩
 | .Compare ..=>some ⟨fun J J J=>rfl⟩
 | .Subscript ..=>some ⟨fun J J J=>rfl⟩
 | .Tuple ..=>some ⟨fun J J J=>rfl⟩
 | .List ..=>some ⟨fun J J J=>rfl⟩
 | .Dict ..=>some ⟨fun J J J=>rfl⟩
 | .Call ..=>some ⟨fun J J J=>rfl⟩
 | _=>none
noncomputable def YO (t:List Expr)(k:Nat)(q:Pos):(e:Expr)→Option (PLift (∀ env,swappedStores [.Tuple t k q] e env=pure none))
 | .Name ..=>some ⟨fun J=>rfl⟩
 | .Subscript ..=>some ⟨fun J=>rfl⟩
 | .Call ..=>some ⟨fun J=>rfl⟩
 | _=>none
section
variable {p:Pg}{sc:Sc}
noncomputable def trB (tr:(s:Stmt)→Option { s':S // wu p sc s s' }):(ss:List Stmt)→Option { ss':List S // zW p sc ss ss' }
 | []=>some ⟨[],sndB_nil⟩
 | s::ss=>match tr s with
  | none=>none
  | some x=>match trB tr ss with
   | none=>none
   | some xs=>some ⟨x.1::xs.1,sndB_cons x.2 xs.2⟩
theorem xs_comp {x:Str}{i:Nat}{xp ap pos:Pos}{elt target iter:Expr}{ifs:List Expr}{scope:Scope}{elt' iter':E}{tgt:Tgt}{cond:Option E}{z:Int}(hz:z=0)(hx:sc.nm x=some i)(hst:sc.st x=true)(hi:XP p sc iter iter')(ok:zi sc scope=true)
  (hg:zI p (jF sc scope.names) target tgt) (hc:SndC p (jF sc scope.names) ifs cond) (he:XP p (jF sc scope.names) elt elt') (hsl:tgt.slots.all (fun i=>decide (sc.lim≤i))=true) :
  wu p sc (.Assign [.Name x xp] (.ListComp elt [⟨target,iter,ifs,z⟩] scope pos) ap) (.assign (.name i) (.comp elt' tgt iter' cond)):=by
 subst hz
 exact JP hx hst hi.sE (Us ok) hg hc he.sE (by simpa using hsl) hi.set
theorem xs_expr {e:Expr}{e':E}{pos:Pos}(h1:XP p sc e e')(hs:∀ env l t,swapsWith e t l env=pure false):wu p sc (.Expr e pos) (.expr e'):=snd_expr h1.sE fun env l=>hs env l none
theorem xs_assign {x:Str}{i:Nat}{xp pos:Pos}{e:Expr}{e':E}(hx:sc.nm x=some i)(hst:sc.st x=true)(h1:XP p sc e e')(hs:∀ env l t,swapsWith e t l env=pure false):wu p sc (.Assign [.Name x xp] e pos) (.assign (.name i) e') :=
 Zj h1.sE hx hst fun env l t=>hs env l (some t)
theorem xs_tup {es:List Expr}{k:Nat}{tp pos:Pos}{e:Expr}{e':E}{tgt:Tgt}(h1:XP p sc e e')(h2:zI p sc (.Tuple es k tp) tgt)(hs:∀ env l t,swapsWith e t l env=pure false)(hw:∀ env,swappedStores [.Tuple es k tp] e env=pure none) :
  wu p sc (.Assign [.Tuple es k tp] e pos) (.assign tgt e'):=Kc h1.sE h2 (fun env l t=>hs env l (some t)) hw
theorem xs_store {o i e:Expr}{pos pos':Pos}{o' i' e':E}(h1:XP p sc e e')(h2:XP p sc o o')(h3:XP p sc i i')(hs:∀ env l t,swapsWith e t l env=pure false):wu p sc (.Assign [.Subscript o i pos'] e pos) (.store o' i' e') :=
 snd_store h1.sE h2.sE h3.sE fun env l t=>hs env l (some t)
theorem xs_ite {t:Expr}{a b:List Stmt}{pos:Pos}{t':E}{a' b':List S}(h1:XP p sc t t')(h2:zW p sc a a')(h3:zW p sc b b'):wu p sc (.If t a b pos) (.ite t' a' b'):=snd_ite h1.sT h2 h3
theorem xs_while {t:Expr}{b:List Stmt}{pos:Pos}{t':E}{b':List S}(h1:XP p sc t t')(h2:zW p sc b b'):wu p sc (.While t b [] pos) (.while t' b'):=snd_while h1.sT h2
theorem xs_for {t it:Expr}{b:List Stmt}{pos:Pos}{tgt:Tgt}{it':E}{b':List S}(h1:XP p sc it it')(hg:zI p sc t tgt)(h2:zW p sc b b'):wu p sc (.For t it b [] pos) (.for tgt it' b'):=snd_for h1.sE hg h2 h1.set
theorem xs_ret {e:Expr}{e':E}{pos:Pos}(h1:XP p sc e e'):wu p sc (.Return (some e) pos) (.ret (some e')):=snd_ret h1.sE
theorem xs_try {x y:Str}{np cpos ep tp bp rp hp pos:Pos}{es:List Expr}{es':List E}{j kb:Nat}(hy:y=wY)(htop:sc.top=true)(hk:sc.gk x=true)(hg:p.G x=some (.fn j))(h1:wk p sc es es')(hk2:sc.gk y=true)(hg2:p.G y=some .exc) :
  wu p sc (.Try [.Expr (.Call (.Name x np) es [] cpos) ep] [.ExceptHandler (some (.Name y tp)) none [.Return (some (.Constant (.bool true) kb bp)) rp] hp] [] [] pos)
   (.ite (.call (1000+j) es') [.ret (some (.lit (.bool true)))] []):=by subst hy;exact snd_try htop hk hg h1 hk2 hg2
noncomputable def trTry (p:Pg)(n:Nat)(sc:Sc)(body:List Stmt)(hs:List ExceptHandler)(pos:Pos):Option { s':S // wu p sc (.Try body hs [] [] pos) s' } :=
 match body with
 | [.Expr (.Call (.Name x np) es [] cpos) ep]=>(match hs with
  | [.ExceptHandler (some (.Name y tp)) none [.Return (some (.Constant (.bool true) kb bp)) rp] hp]=>(match hg:p.G x with
   | some (.fn j)=>(match YU (yf p n sc) es with
    | some xs=>(match hg2:p.G y with
     | some .exc=>if h:y=wY∧sc.top=true∧sc.gk x=true∧sc.gk y=true then some ⟨.ite (.call (1000+j) xs.1) [.ret (some (.lit (.bool true)))] [],xs_try h.1 h.2.1 h.2.2.1 hg xs.2 h.2.2.2 hg2⟩ else none
     | _=>none)
    | none=>none)
   | _=>none)
  | _=>none)
 | _=>none
noncomputable def Wr (p:Pg)(n:Nat)(sc:Sc)(x:Str)(xp ap:Pos)(elt target iter:Expr)(ifs:List Expr)(z:Int)(scope:Scope)(pos:Pos):Option { s':S // wu p sc (.Assign [.Name x xp] (.ListComp elt [⟨target,iter,ifs,z⟩] scope pos) ap) s' } :=
 match hx:sc.nm x with
 | none=>none
 | some i=>if hst:sc.st x=true then (match yf p n sc iter,trG p (jF sc scope.names) target,trC (yf p n (jF sc scope.names)) ifs,yf p n (jF sc scope.names) elt with
   | some it,some t,some c,some e=>if hz:z=0 then (if h:zi sc scope=true then (if hs:t.1.slots.all (fun i=>decide (sc.lim≤i))=true then
     some ⟨.assign (.name i) (.comp e.1 t.1 it.1 c.1),xs_comp hz hx hst it.2 h t.2 c.2 e.2 hs⟩ else none) else none) else none
   | _,_,_,_=>none) else none
end
set_option smartUnfolding false in
noncomputable def trS (p:Pg):(n:Nat)→(sc:Sc)→(s:Stmt)→Option { s':S // wu p sc s s' }
 | 0,_,_=>none
 | n+1,sc,s=>match s with
  | .Return none pos=>some ⟨.ret none,snd_ret0⟩
  | .Return (some e) pos=>match yf p n sc e with
   | some a=>some ⟨.ret (some a.1),xs_ret a.2⟩
   | none=>none
  | .Raise e c pos=>some ⟨.raise,snd_raise⟩
  | .Expr e pos=>match yf p n sc e,JW e with
   | some a,some ⟨h⟩=>some ⟨.expr a.1,xs_expr a.2 h⟩
   | _,_=>none
  | .If t a b pos=>match yf p n sc t,trB (trS p n sc) a,trB (trS p n sc) b with
   | some t,some a,some b=>some ⟨.ite t.1 a.1 b.1,xs_ite t.2 a.2 b.2⟩
   | _,_,_=>none
  | .While t b [] pos=>match yf p n sc t,trB (trS p n sc) b with
   | some t,some b=>some ⟨.while t.1 b.1,xs_while t.2 b.2⟩
   | _,_=>none
  | .For t it b [] pos=>match trG p sc t,yf p n sc it,trB (trS p n sc) b with
   | some t,some it,some b=>some ⟨.for t.1 it.1 b.1,xs_for it.2 t.2 b.2⟩
   | _,_,_=>none
  | .Try body hs [] [] pos=>trTry p n sc body hs pos
  | .Assign [.Name x xp] e ap=>match e with
   | .ListComp elt [⟨target,iter,ifs,z⟩] scope pos=>Wr p n sc x xp ap elt target iter ifs z scope pos
   | e=>match hx:sc.nm x with
    | none=>none
    | some i=>if hst:sc.st x=true then (match yf p n sc e,JW e with
     | some a,some ⟨h⟩=>some ⟨.assign (.name i) a.1,xs_assign hx hst a.2 h⟩
     | _,_=>none) else none
  | .Assign [.Tuple es k tp] e ap=>match trG p sc (.Tuple es k tp),yf p n sc e,JW e,YO es k tp e with
   | some t,some a,some ⟨h⟩,some ⟨h'⟩=>some ⟨.assign t.1 a.1,xs_tup a.2 t.2 h h'⟩
   | _,_,_,_=>none
  | .Assign [.Subscript o i pos'] e ap=>match yf p n sc o,yf p n sc i,yf p n sc e,JW e with
   | some o,some i,some e,some ⟨h⟩=>some ⟨.store o.1 i.1 e.1,xs_store e.2 o.2 i.2 h⟩
   | _,_,_,_=>none
  | _=>none
noncomputable def fnOkB (f:FnRec):Bool :=
 f.scope.kind == .function && !f.scope.isCoroutine && !f.scope.isGenerator && f.scope.names.all (fun n=>f.scope.names.lookup n.1 == some n.2 && kI n.1 && n.2 != .free)
noncomputable def yE (nm:Str→Option Nat):Nat→List Arg→Bool
 | _,[]=>true
 | k,a::r=>nm a.arg == some k && yE nm (k+1) r
theorem zE {nm:Str→Option Nat}:∀ {args:List Arg} {k:Nat},yE nm k args=true→∀ (i:Nat) x,(args.map (·.arg))[i]?=some x→nm x=some (k+i)
 | [],_,_,_,_,h=>by simp at h
 | a::r,k,h,i,x,hx=>by
  simp only[yE,Bool.and_eq_true,beq_iff_eq] at h
  cases i with
  | zero=>simp at hx;subst hx;exact h.1
  | succ i=>have:=zE h.2 i x (by simpa using hx);rw[this];congr 1;exact qa (kg ju (qA jg ja) (qA jc jA) qt ) (kg ju (qA jc jA) (qA jg ja) qt )
theorem zA {nm:Str→Option Nat}:∀ {args:List Arg} {k:Nat},yE nm k args=true→(args.map (·.arg)).Nodup
 | [],_,_=>by simp
 | a::r,k,h=>by
  have h0:=h
  simp only[yE,Bool.and_eq_true,beq_iff_eq] at h
  rw[List.map_cons,List.nodup_cons]
  refine⟨fun hm=>?_,zA h.2⟩
  obtain⟨i,hi⟩:=List.mem_iff_getElem?.mp hm
  have:=zE h.2 i _ hi
  rw[h.1] at this
  injection this with this
  exact ZN ju (qA jg ja) jc qt (qi this)
theorem fnOk_of {p:Pg}{f:FnRec}{args:List Arg}{b:List S}(hb:zW p (yb f.scope.names) f.body b)(h:fnOkB f=true)(hp:f.params=⟨[],args,none,[],[],none,[]⟩)(hs:yE (yb f.scope.names).nm 0 args=true):FnOk p f ⟨args.length,b⟩:=by
 simp only[fnOkB,Bool.and_eq_true,beq_iff_eq,List.all_eq_true,Bool.not_eq_true'] at h
 obtain⟨⟨⟨h1,h2⟩,h3⟩,h4⟩:=h
 refine⟨⟨args,hp,zA hs,rfl,fun i x hx=>by simpa using zE hs i x hx⟩,h1,h2,h3,fun x k hm=>(h4 _ hm).1.1,fun x k hm=>(h4 _ hm).1.2,fun x hm=>?_,hb⟩
 have:=(h4 _ hm).2
 simp at this
theorem xr_three {es:List Expr}{k k':Nat}{tp ap ip np cpos rp mp pos:Pos}{e1 t e:Expr}{e1' t' e':E}{tgt:Tgt}{msg y:Str}{p:Pg}{sc:Sc}(hy:y=wY)(h1:XP p sc e1 e1')(h2:zI p sc (.Tuple es k tp) tgt)(hs:∀ env l t,swapsWith e1 t l env=pure false)(hw:∀ env,swappedStores [.Tuple es k tp] e1 env=pure none)
  (h3:XP p sc t t') (h4:XP p sc e e') (hk:sc.gk y=true) (hg:p.G y=some .exc) (hm:msg.length≤SZ) :
  SndR p sc [.Assign [.Tuple es k tp] e1 ap,.If t [.Raise (some (.Call (.Name y np) [.Constant (.str msg) k' mp] [] cpos)) none rp] [] ip,.Return (some e) pos]
   [.assign tgt e1',.ite t' [.ret (some (.lit (.bool true)))] [],.expr e',.ret (some (.lit (.bool false)))]:=by
 subst hy;exact Zk h1.sE h2 (fun env l t=>hs env l (some t)) hw h3.sT h4.sE hk hg hm
noncomputable def trR3 (p:Pg)(n:Nat)(sc:Sc)(s1 s2 s3:Stmt):Option { b:List S // SndR p sc [s1,s2,s3] b } :=
 match s1 with
 | .Assign [.Tuple es k tp] e1 ap=>(match s2 with
  | .If t [.Raise (some (.Call (.Name y np) [.Constant (.str msg) k' mp] [] cpos)) none rp] [] ip=>(match s3 with
   | .Return (some e) pos=>(match trG p sc (.Tuple es k tp),yf p n sc e1,yf p n sc t,yf p n sc e,JW e1,YO es k tp e1 with
    | some tg,some a,some t,some e,some ⟨h⟩,some ⟨h'⟩=>(match hg:p.G y with
     | some .exc=>if hx:y=wY∧sc.gk y=true∧msg.length≤SZ then some ⟨[.assign tg.1 a.1,.ite t.1 [.ret (some (.lit (.bool true)))] [],.expr e.1,.ret (some (.lit (.bool false)))],xr_three hx.1 a.2 tg.2 h h' t.2 e.2 hx.2.1 hg hx.2.2⟩ else none
     | _=>none)
    | _,_,_,_,_,_=>none)
   | _=>none)
  | _=>none)
 | _=>none
noncomputable def trR (p:Pg)(n:Nat)(sc:Sc)(b:List Stmt):Option { b':List S // SndR p sc b b' } :=
 match b with
 | [s1,s2,s3]=>trR3 p n sc s1 s2 s3
 | _=>none
noncomputable def trF (p:Pg)(n:Nat)(f:FnRec):Option { fn:Fn // FnOk p f fn } :=
 match trB (trS p n (yb f.scope.names)) f.body with
 | none=>none
 | some b=>if h:fnOkB f=true then (match hp:f.params with
  | ⟨[],args,none,[],[],none,[]⟩=>if hs:yE (yb f.scope.names).nm 0 args=true then some ⟨⟨args.length,b.1⟩,fnOk_of b.2 h hp hs⟩ else none
  | _=>none) else none
noncomputable def trFT (p:Pg)(n:Nat)(f:FnRec):Option { fn:Fn // FnTry p f fn } :=
 match trF p n f with
 | none=>none
 | some x=>match trR p n (yb f.scope.names) f.body with
  | none=>none
  | some b=>some ⟨⟨x.1.arity,b.1⟩,⟨x.1,x.2,rfl⟩,b.2⟩
end Tw
end
section
namespace Tw
open PySem PySem.W PyProof.Rows
noncomputable def yi (q:Program)(names:List Str):Tab:=fun k=>match names[k]? with
 | none=>none
 | some x=>((recsOf q).find? (fun d=>d.name == x)).map fun d=>⟨d.name,d.params,d.body,d.scope⟩
noncomputable def biTab:List (Str×Gl):=[("len",.bi .len),("range",.bi .range),("list",.bi .list),("dict",.bi .dict),("sorted",.bi .sorted),("int",.bi .int),("min",.bi .min),("max",.bi .max),("isinstance",.isinst),("bool",.ty .bool),("tuple",.ty .tuple),("str",.ty .str)]
noncomputable def glV:Gl→Value
 | .bi b=>b.py
 | .ty t=>t.py
 | _=>.builtin "isinstance"
noncomputable def glOf (T:Tab)(names:List Str):UJ:=fun x=>match biTab.lookup x with
 | some g=>some g
 | none=>match names.findIdx? (· == x) with
  | some k=>if (T k).isSome then some (.fn k) else none
  | none =>
   if x == wY then some .exc else
   if x == "MOST_STATES" then some (.const 100) else if x == "MOST_MOVES" then some (.const 1000) else none
theorem bi_boot:biTab.all (fun e=>decide (bootBuiltins e.1=some (glV e.2)))=true:=by decide +kernel
theorem bi_none:biTab.all (fun e=>match e.2 with | .bi _=>true | .isinst=>true | .ty _=>true | _=>false)=true:=by decide +kernel
noncomputable def ZS (q:Program)(loose:List Str):Bool:=biTab.all fun e =>
 !(startupNames.contains e.1) && !(loose.contains e.1) && !(((recsOf q).map (·.name)).contains e.1) && !(((litsOf q).map (·.1)).contains e.1) && !(((clssOf q loose).map (·.name)).contains e.1) && e.1 != "__name__"
set_option tactic.hygienic true in
theorem names_gl {q:Program}{loose:List Str}{mean:ExcName→Option Value}{mg mb:Str→Option Value}{h:Heap}{names:List Str}(T:Top q loose mean mg mb h)(hf:ZS q loose=true)
  (c1:valOf q "MOST_STATES"=some (.int 100)) (c2:valOf q "MOST_MOVES"=some (.int 1000))
  (c3:specOf q wY=some ("ValueError.__new__",JO))
  : ∀ x g,glOf (yi q names) names x=some g→IsGl (yi q names) h mg mb x g:=by
 intro x g hg
 unfold glOf at hg
 split at hg
 ·rename_i g' hl
  cases hg
  have hm:=mem_of_lookup hl
  have h1:=List.all_eq_true.mp hf _ hm
  have h2:=of_decide_eq_true (List.all_eq_true.mp bi_boot _ hm)
  have h3:=List.all_eq_true.mp bi_none _ hm
  simp only[Bool.and_eq_true,Bool.not_eq_true',List.contains_eq_mem,decide_eq_false_iff_not,bne_iff_ne] at h1
  obtain⟨⟨⟨⟨⟨a1,a2⟩,a3⟩,a4⟩,a5⟩,a6⟩:=h1
  have n1:=T.free x a1 a2 a3 a4 a5
  have n2:mb x=some (glV g):=(T.builtins x a6).trans h2
  cases g with
  | bi b=>exact⟨n1,n2⟩
  | ty t=>exact⟨n1,n2⟩
  | isinst=>exact⟨n1,n2⟩
  | fn k=>cases h3
  | const i=>cases h3
  | exc=>cases h3
 ·split at hg
  ·rename_i k hk
   split at hg
   ·rename_i hs
    cases hg
    obtain⟨f,hf'⟩:=Option.isSome_iff_exists.mp hs
    have hf0:=hf'
    unfold yi at hf'
    split at hf'
    ·cases hf'
    ·rename_i y hy
     refine jo (Option.map_eq_some_iff.mp hf') fun d hd e=>?_
     have hdm:=List.mem_of_find?_eq_some hd
     have hdn:d.name=y:=beq_iff_eq.mp (List.find?_some (p:=fun d:DefRec=>d.name == y) hd)
     refine jo (List.findIdx?_eq_some_iff_getElem.mp hk) fun hlt hxy J=>?_
     have hxy:names[k]=x:=beq_iff_eq.mp hxy
     rw[List.getElem?_eq_getElem hlt] at hy
     have hyx:y=x:=by injection hy with hy;rw[←hy,hxy]
     refine Z53 (T.fn d hdm) fun a o pm code doc m1 m2 m3 m4=>?_
     refine⟨a,f,by rw[←hyx,←hdn];exact m1,hf0,o,pm,code,doc,m2,?_,?_⟩
     ·rw[←e];exact m3
     ·rw[←e];exact m4
   ·cases hg
  ·
   split at hg
   ·rename_i he
    cases hg
    rw[beq_iff_eq.mp he]
    refine jo (T.ownAt c3) fun C O J=>?_
    exact⟨C,O⟩
   split at hg
   ·rename_i he
    cases hg
    refine jo (T.const _ _ c1) fun v m1 m2=>?_
    rw[beq_iff_eq.mp he]
    have:=m2 h
    cases this with
    | int i t=>exact⟨t,m1⟩
   ·split at hg
    ·rename_i he
     cases hg
     refine jo (T.const _ _ c2) fun v m1 m2=>?_
     rw[beq_iff_eq.mp he]
     have:=m2 h
     cases this with
     | int i t=>exact⟨t,m1⟩
    ·cases hg
theorem UN {h:Heap}{a b:Addr}{o o':Obj}(ga:h.get? a=some o)(gb:h.get? b=some o')(hd:o.data≠o'.data):a≠b:=by
 rintro rfl
 rw[ga] at gb;cases gb;exact hd rfl
theorem gd_of {q:Program}{loose:List Str}{mean:ExcName→Option Value}{mg mb:Str→Option Value}{s:Shared}{names:List Str}(T:Top q loose mean mg mb s.heap)(hf:ZS q loose=true)
  (c1:valOf q "MOST_STATES"=some (.int 100)) (c2:valOf q "MOST_MOVES"=some (.int 1000))
  (c3:specOf q wY=some ("ValueError.__new__",JO))
  (him:importsNone q=true) {scr:Addr} {os:Obj} {vs:Array Value} {n:Nat} (gs:s.heap.get? scr=some os) (ds:os.data=.seq vs n) :
  Gd (glOf (yi q names) names) (yi q names) s scr:=by
 have nsne:∀ {a m},s.heap.Ns a m→a≠scr:=fun hn=>by
  refine Z32 hn fun o es ep g d J=>?_
  exact UN g gs (by rw[d,ds];intro h;cases h)
 have nsk:∀ {a m},s.heap.Ns a m→∀ h':Heap,(∀ b o,s.heap.get? b=some o→b≠scr→h'.get? b=some o)→h'.Ns a m:=fun hn h' hk=>by
  have hne:=nsne hn
  exact hn.at' fun o e=>hk _ o e hne
 refine⟨⟨mg,mb,T.g,T.b,names_gl T hf c1 c2
  c3
  ⟩,nsne T.g,nsne T.b,fun k f hk=>?_,fun a f hfa=>?_,T.nolimit,fun c nm hc h' hk=>?_,fun h' hk=>?_,?_⟩
 ·unfold yi at hk
  split at hk
  ·cases hk
  ·refine jo (Option.map_eq_some_iff.mp hk) fun d hd e=>?_
   refine Z53 (T.fn d (List.mem_of_find?_eq_some hd)) fun a o pm code doc m1 m2 m3 m4=>?_
   exact⟨a,o,pm,code,doc,m2,by rw[←e];exact m3,by rw[←e];exact m4⟩
 ·obtain⟨o,pm,code,doc,g,d,_⟩:=hfa
  exact UN g gs (by rw[d,ds];intro h;cases h)
 ·refine Z43 hc fun b o fs t e g d r=>?_
  exact⟨b,o,fs,t,e,hk _ _ g (UN g gs (by rw[d,ds];intro h;cases h)),d,r⟩
 ·refine jo (T.nolimit) fun mc hn r=>?_
  exact⟨mc,nsk hn h' hk,r⟩
 ·refine jo ((T.seer him).mods) fun mm hn J=>?_
  obtain⟨o,g⟩:=Ns.obj hn
  exact⟨o,g,nsne hn⟩
theorem ints_of {R:WRecords}:∀ {ds:List WData},WShape.hasItems R ds .int=true→∃ xs:List Int,ds=xs.map WData.int
 | [],_=>⟨[],rfl⟩
 | d::r,h=>by
  simp only[WShape.hasItems,Bool.and_eq_true] at h
  obtain⟨xs,e⟩:=ints_of h.2
  obtain⟨i,e'⟩:=hasW_int h.1
  exact⟨i::xs,by rw[e,e'];rfl⟩
theorem args_law {l:OpenLaw}{n:Nat}(hm:l.most=some n)(hb:l.bound=none){args:List WData}(h:l.row.toRowW.claim.pre args=true):∃ xs:List Int,args=[.list (xs.map WData.int)]∧xs.length≤n:=by
 obtain⟨h1,h2⟩:=pre_splitW h
 refine yI (hasAllW_cons h1) fun d r zn41 zo42=>?_;subst zn41;refine jP zo42 fun h3 h4=>?_
 obtain rfl:=hasAllW_nil h4
 refine jo (hasW_list h3) fun ds zp43 h5=>?_;subst zp43
 obtain⟨xs,rfl⟩:=ints_of h5
 refine⟨xs,rfl,?_⟩
 have h2:l.pre.holds l.row.toRowW.records { args:=[.list (xs.map WData.int)] }=true:=h2
 unfold OpenLaw.pre at h2
 rw[hm,hb] at h2
 simp [WTm.holds,WTm.value,less?,Num.less?] at h2
 by_cases hlt:n<xs.length
 ·rw[decide_eq_true hlt] at h2;cases h2
 ·exact qm hlt
theorem zY {R:WRecords}{cl:Str→Option Addr}{h:Heap}{ι:List Addr}:∀ {xs:List Int} {vs:List Value} {as:List Addr},ReadsAllW R cl h vs (xs.map WData.int) as→RepVs ι h vs (xs.map V.int)
 | [],vs,as,r=>by cases r;exact .nil
 | x::xs,vs,as,r=>by
  cases r with
  | cons h1 h2=>cases h1;exact .cons (.int _ _) (zY h2)
theorem post_law {l:OpenLaw}{args:List WData}:l.row.toRowW.claim.post args (.bool true) args=true:=by
 show WTm.holds _ (.eq .res (.lit (.bool true))) _=true
 simp [WTm.holds,WTm.value,same]
inductive ScrAt (h:Heap)(vals:List Value)(as:List Addr)(xs:List Int):Prop
 | mk (scr:Addr) (os:Obj) (vs:Array Value) (m:Nat) (ev:vals=[.ref scr]) (gs:h.get? scr=some os) (cs:os.cls=.type "list") (ds:os.data=.seq vs m) (rs:∀ ι,RepVs ι h vs.toList (xs.map V.int)) (hm:scr∈as)
theorem scr_at {R:WRecords}{cl:Str→Option Addr}{h:Heap}{vals:List Value}{as:List Addr}{xs:List Int}(hrd:ReadsAllW R cl h vals [.list (xs.map WData.int)] as):ScrAt h vals as xs:=by
 cases hrd with
 | cons h1 h2 =>
  cases h2
  cases h1 with
  | @list scr os vs m _ as' gs cs ds rs=>exact⟨scr,os,vs,m,rfl,gs,cs,ds,fun J=>zY rs,by simp⟩
theorem walk_law {q:Program}{l:OpenLaw}{n D kl:Nat}{Φ:Nat→Option Fn}{names:List Str}{d:DefRec}{XP:(Str→Option Value)→Heap→Prop}{YP:World→Heap→Prop}(hm:l.most=some n)(hb:l.bound=none)(hn:n≤1000)
  (hf:ZS q (looseW q [])=true) (c1:valOf q "MOST_STATES"=some (.int 100)) (c2:valOf q "MOST_MOVES"=some (.int 1000))
  (c3:specOf q wY=some ("ValueError.__new__",JO))
  (him:importsNone q=true)
  (ok:TabOk ⟨l.prog,glOf (yi q names) names,yi q names⟩ Φ) (hd:d∈recsOf q) (hk:yi q names kl=some ⟨d.name,d.params,d.body,d.scope⟩) (hD:D≤100)
  (law:∀ xs:List Int,xs.length≤n→Calls Φ D kl [.ref 0] [.frz (xs.map V.int)] fun v J=>v=.bool true) :
  WalkO q [] XP YP l.row.toRowW d [] fun f vs=>PySem.call f vs:=by
 intro w s₀ s₁ mg mb G Y a o pm cd doc dV kV ga da hcd hdf hmg hgens args vals as hpre hlay hrd hwell hlow
 refine jo (args_law hm hb hpre) fun xs zq44 hlen=>?_;subst zq44
 obtain⟨scr,os,vs,m,rfl,gs,cs,ds,rs,hm'⟩:=scr_at hrd
 have hGd:=gd_of (names:=names) G.T hf c1 c2
  c3
  him gs ds
 refine Z53 (G.T.fn d hd) fun a' o' pm' code' doc' m1 m2 m3 m4=>?_
 have ea:a=a':=by rw[hmg] at m1;injection m1 with m1;injection m1
 subst ea
 have W:Wd w (fun b ob=>s₁.heap.get? b=some ob∧b≠scr) s₁ scr [scr] [.frz (xs.map V.int)] s₁:={
  same:=⟨_,_,rfl⟩
  len:=rfl
  nodup:=by simp
  objs:=fun k b ob hb ho=>by
   cases k with
   | zero =>
    simp at hb ho;subst hb;subst ho
    exact⟨vs,⟨os,gs,cs,m,ds⟩,rs _,by simp;exact Nat.le_trans hlen (Nat.le_trans hn (by decide))⟩
   | succ k=>simp at hb
  low:=fun b hb=>by
   simp at hb;subst hb
   have:=hlow b hm'
   simpa using this
  scr:=fun J e=>e
  scrI:=fun k hk=>by
   cases k with
   | zero=>exact⟨_,rfl⟩
   | succ k=>simp at hk
  scrIn:=by simp
  prot:=fun b ob p=>.inl p.1
  protI:=fun b ob p hb=>by simp at hb;exact p.2 hb }
 have ao:AOk callerA D:=⟨rfl,by show 301+D<1000;exact jq jO (qA (qA (qN 301) jc) jj) (qN 1000) jc (qN 100) qt hD,by show 4+4 * D+100<9900;exact jq jO (qA (qA (qA qk4 (qM 4 jc)) (qN 100)) jj) (qN 9900) (qM 4 jc) (qM 4 (qN 100)) qt (qr 4 hD)⟩
 refine jk ((calls_ok ok D).1 hGd (fun b ob e hne=>⟨e,hne⟩) W ⟨[],rfl,fun J h=>nomatch h⟩ ao hk ⟨o',pm',code',doc',m2,m3,m4⟩ (vals:=[.ref scr]) (vs:=[.ref 0]) (.cons (.ref rfl) .nil) (law xs hlen)) fun v s' zz=>zz.el fun v' ι' H' M' W' rv hq=>?_
 subst hq
 cases rv
 refine⟨.inl ⟨_,.bool true,[],rfl,fun J=>rfl,.bool true,post_law,fun J=>⟨List.nodup_nil,fun J hm=>nomatch hm⟩⟩,.of_keep fun b ob e=>?_,?_,?_⟩
 ·by_cases hb:b=scr
  ·subst hb;exact W'.scr _ e
  ·exact(W'.prot _ _ ⟨e,hb⟩).base e
 ·obtain⟨h',tk,e⟩:=W'.same;rw[e]
 ·refine WH (W'.same) fun h' tk e=>?_;rw[e];exact .of_eq hgens
noncomputable def trK (p:Pg)(k:Nat):Option Fn:=if k<1000 then (p.T k).bind fun f=>(trF p 60 f).map (·.1) else
 (p.T (k - 1000)).bind fun f=>(trFT p 60 f).map (·.1)
theorem tab_of {p:Pg}{Φ:Nat→Option Fn}(hT:∀ k f,p.T k=some f→k<1000)(h:∀ k fn,Φ k=some fn→trK p k=some fn):TabOk p Φ:=by
 intro k f fn hk
 refine⟨fun hΦ=>?_,fun hΦ=>?_⟩
 ·have:=h k fn hΦ
  rw[trK,if_pos (hT k f hk),hk] at this
  simp only[Option.bind_some] at this
  refine jo (Option.map_eq_some_iff.mp this) fun x J zr45=>?_;subst zr45
  exact x.2
 ·have:=h _ fn hΦ
  rw[trK,if_neg (by exact fun e0=>ZN jO (qA (qA (qN 1000) jc) jj) (qN 1000) qt e0),show 1000+k - 1000=k by exact qa (jq ju jc ja (qA jc (qN 1000)) (qA (qN 1000) ja) qt (qx (kg jO (qN 1000) (qA (qN 1000) jc) qt ))) (jq ju jc ja (qA (qN 1000) jc) (qA ja (qN 1000)) qt qw),hk] at this
  simp only[Option.bind_some] at this
  refine jo (Option.map_eq_some_iff.mp this) fun x J zs46=>?_;subst zs46
  exact x.2
set_option tactic.hygienic true in
theorem tabOf_lt {q:Program}{names:List Str}(hn:names.length≤1000)(k:Nat)(f:FnRec)(h:yi q names k=some f):k<1000:=by
 unfold yi at h
 split at h
 ·cases h
 ·rename_i x hx
  exact Nat.lt_of_lt_of_le (List.getElem?_eq_some_iff.mp hx).1 hn
theorem law_holds {q:Program}{l:OpenLaw}{n D kl:Nat}{Φ:Nat→Option Fn}{names:List Str}{d:DefRec}{XP:(Str→Option Value)→Heap→Prop}{YP:World→Heap→Prop}{x:Str}(hm:l.most=some n)(hb:l.bound=none)(hn:n≤1000)
  (hf:ZS q (looseW q [])=true) (c1:valOf q "MOST_STATES"=some (.int 100)) (c2:valOf q "MOST_MOVES"=some (.int 1000))
  (c3:specOf q wY=some ("ValueError.__new__",JO))
  (him:importsNone q=true)
  (hnm:names.length≤1000) (ok:∀ k fn,Φ k=some fn→trK ⟨l.prog,glOf (yi q names) names,yi q names⟩ k=some fn)
  (hx:names[kl]?=some x) (hd:(recsOf q).find? (fun d=>d.name == x)=some d) (hD:D≤100)
  (law:∀ xs:List Int,xs.length≤n→Calls Φ D kl [.ref 0] [.frz (xs.map V.int)] fun v J=>v=.bool true) :
  WalkO q [] XP YP l.row.toRowW d [] fun f vs=>PySem.call f vs :=
 walk_law (Φ:=Φ) (names:=names) (kl:=kl) hm hb hn hf c1 c2
  c3
  him (tab_of (tabOf_lt hnm) ok) (List.mem_of_find?_eq_some hd) (by unfold yi;rw[hx];simp only;rw[hd];rfl) hD law
noncomputable def ZM (l:List (Nat×Fn))(k:Nat):Option Fn:=match l with
 | []=>none
 | (j,f)::r=>if k=j then some f else ZM r k
theorem tab_all {P:Nat→Fn→Prop}:∀ {l:List (Nat×Fn)},(∀ x∈l,P x.1 x.2)→∀ k fn,ZM l k=some fn→P k fn
 | [],_,_,_,e=>nomatch e
 | (j,f)::r,h,k,fn,e=>by
  unfold ZM at e
  by_cases hk:k=j
  ·rw[if_pos hk] at e;injection e with e;subst e;subst hk;exact h _ List.mem_cons_self
  ·rw[if_neg hk] at e;exact tab_all (fun x hx=>h x (List.mem_cons_of_mem _ hx)) k fn e
theorem all_nil {P:Nat×Fn→Prop}:∀ x∈([]:List (Nat×Fn)),P x:=fun J h=>nomatch h
theorem all_cons {P:Nat×Fn→Prop}{y:Nat×Fn}{l:List (Nat×Fn)}(h1:P y)(h2:∀ x∈l,P x):∀ x∈y::l,P x:=fun x h=>by
 rcases List.mem_cons.mp h with rfl | h
 ·exact h1
 ·exact h2 x h
end Tw
end
section
namespace Tw
open PySem PySem.SeqAt
noncomputable def fnNames:List Str:=(["need","checked","leaving","gone_on","told_back","way","reads","writings","turned","joined","nearer","between","steps","led_from","rests","written","lag","path_to","path_on","shown","gone_through","unlike","twofold","ahead",
 "law","_law_cell","_law_signs","_law_machine","_law_whole","_law_text","_law_moves","_law_steps","_law_walk","_law_is_plain","_law_together","_law_texts","_law_ringed","_law_is_way","_law_is_refused","_law_all","_law_walked","_law_turned","_law_road","_law_rests","_law_refused","_law_reader","_law_plain","_law_pairs","_law_on","_law_least","_law_leads","_law_layer","_law_is_row","_law_ends_so","_law_due","_law_alike"]:List String).map Str.ofString
end Tw
end
section
namespace Tw
def jY (C:kO):Prop:=∀ f vs h (Q Q':V→H→Prop),(∀ v h,Q v h→Q' v h)→C f vs h Q→C f vs h Q'
theorem BinW.mono {op:Bop}{a b:V}{h:H}{Q Q':V→H→Prop}(m:∀ v h,Q v h→Q' v h)(x:BinW op a b h Q):BinW op a b h Q':=by
 cases op with
 | add =>
  cases a with
  | int=>exact asInt.mono (fun J x=>m _ _ x) x
  | str=>exact asStr.mono (fun J x=>⟨x.1,m _ _ x.2⟩) x
  | tup=>exact asTup.mono (fun J x=>⟨x.1,x.2.1,x.2.2.1,m _ _ x.2.2.2⟩) x
  | ref=>exact asRef.mono (fun J=>Exists.imp fun a=>Exists.imp fun b=>And.imp_right (And.imp_right (And.imp_right (m _ _)))) x
  | _=>exact x
 | sub=>exact asInt.mono (fun J x=>asInt.mono (fun J x=>m _ _ x) x) x
 | mul =>
  cases a with
  | int=>exact asInt.mono (fun J x=>⟨x.1,m _ _ x.2⟩) x
  | ref=>exact asInt.mono (fun J=>Exists.imp fun a=>And.imp_right (And.imp_right (And.imp_right (And.imp_right (m _ _))))) x
  | _=>exact x
 | fdiv=>exact asInt.mono (fun J x=>asInt.mono (fun J x=>⟨x.1,x.2.1,m _ _ x.2.2⟩) x) x
 | mod=>exact asInt.mono (fun J x=>asInt.mono (fun J x=>⟨x.1,m _ _ x.2⟩) x) x
theorem truth.mono {v:V}{h:H}{Q Q':Bool→Prop}(m:∀ b,Q b→Q' b)(x:truth v h Q):truth v h Q':=by
 cases v with
 | none=>exact m _ x
 | bool=>exact m _ x
 | _=>exact x
theorem EqG.mono {a b:V}{h:H}{Q Q':Bool→Prop}(m:∀ b,Q b→Q' b)(x:EqG a b h Q):EqG a b h Q':=by
 obtain⟨d₁,d₂,h1,h2,h3,h4,h5⟩:=x;exact⟨d₁,d₂,h1,h2,h3,h4,m _ h5⟩
theorem EqW.mono {a b:V}{h:H}{Q Q':Bool→Prop}(m:∀ b,Q b→Q' b)(x:EqW a b h Q):EqW a b h Q':=by
 cases a with
 | bool=>exact asBool.mono (fun J x=>m _ x) x
 | _=>exact EqG.mono m x
theorem InW.mono {a b:V}{h:H}{Q Q':Bool→Prop}(m:∀ b,Q b→Q' b)(x:InW a b h Q):InW a b h Q' :=
 asRef.mono (fun n x=>by
  revert x
  generalize h[n]?=o
  intro x
  cases o with
  | none=>exact x
  | some o=>cases o with
   | list _=>exact Z24 x fun d ds h1 h2 h3 h4 h5=>⟨d,ds,h1,h2,h3,h4,m _ h5⟩
   | dict _ _=>exact⟨x.1,m _ x.2⟩
   | _=>exact x) x
theorem SameW.mono {a b:V}{Q Q':Bool→Prop}(m:∀ b,Q b→Q' b)(x:SameW a b Q):SameW a b Q':=by
 cases b with
 | none=>exact m _ x
 | bool=>exact asBool.mono (fun J x=>m _ x) x
 | _=>exact x
theorem CmpW.mono {op:Cmp}{a b:V}{h:H}{Q Q':Bool→Prop}(m:∀ b,Q b→Q' b)(x:CmpW op a b h Q):CmpW op a b h Q':=by
 cases op with
 | eq=>exact EqW.mono m x
 | ne=>exact EqW.mono (fun b q=>m _ q) x
 | isIn=>exact InW.mono m x
 | notIn=>exact InW.mono (fun b q=>m _ q) x
 | is=>exact SameW.mono m x
 | isNot=>exact SameW.mono (fun b q=>m _ q) x
 | _=>exact asInt.mono (fun J x=>asInt.mono (fun J x=>m _ x) x) x
theorem SubW.mono {a i:V}{h:H}{Q Q':V→Prop}(m:∀ b,Q b→Q' b)(x:SubW a i h Q):SubW a i h Q':=by
 cases a with
 | tup=>exact asInt.mono (fun J=>Exists.imp fun v=>And.imp_right (And.imp_right (m _))) x
 | str=>exact asInt.mono (fun J=>Exists.imp fun v=>And.imp_right (And.imp_right (m _))) x
 | ref n =>
  revert x
  show(match h[n]? with | some (.list vs)=>_ | some (.frz vs)=>_ | some (.dict es _)=>_ | none=>_)→(match h[n]? with | some (.list vs)=>_ | some (.frz vs)=>_ | some (.dict es _)=>_ | none=>_)
  generalize h[n]?=o
  intro x
  cases o with
  | none=>exact x
  | some o=>cases o with
   | list _=>exact asInt.mono (fun J x=>x.imp (Exists.imp fun v=>And.imp_right (And.imp_right (m _))) (Exists.imp fun v=>And.imp_right (And.imp_right (m _)))) x
   | frz _=>exact asInt.mono (fun J=>Exists.imp fun v=>And.imp_right (And.imp_right (m _))) x
   | dict _ _=>exact And.imp_right (Exists.imp fun v=>And.imp_right (m _)) x
 | _=>exact x
theorem SliceW.mono {a lo hi:V}{h:H}{Q Q':V→H→Prop}(m:∀ v h,Q v h→Q' v h)(x:SliceW a lo hi h Q):SliceW a lo hi h Q':=by
 cases a with
 | str=>refine wZ x fun i j h1 h2 h3=>?_;exact⟨i,j,h1,h2,m _ _ h3⟩
 | ref=>refine Z33 x fun vs i j h1 h2 h3 h4=>?_;exact⟨vs,i,j,h1,h2,h3,m _ _ h4⟩
 | _=>exact x
theorem LenW.mono {v:V}{h:H}{Q Q':V→H→Prop}(m:∀ v h,Q v h→Q' v h)(x:LenW v h Q):LenW v h Q':=by
 cases v with
 | str=>exact m _ _ x
 | tup=>exact m _ _ x
 | ref n =>
  revert x
  unfold LenW
  dsimp only
  generalize h[n]?=o
  intro x
  cases o with
  | none=>exact x
  | some o=>cases o with
   | dict _ _=>exact x
   | _=>exact m _ _ x
 | _=>exact x
theorem ListW.mono {v:V}{h:H}{Q Q':V→H→Prop}(m:∀ v h,Q v h→Q' v h)(x:ListW v h Q):ListW v h Q':=by
 cases v with
 | rng=>exact⟨x.1,m _ _ x.2⟩
 | ref n =>
  revert x
  unfold ListW
  dsimp only
  generalize h[n]?=o
  intro x
  cases o with
  | none=>exact x
  | some o=>cases o with
   | list _=>exact⟨x.1,m _ _ x.2⟩
   | _=>exact x
 | _=>exact x
theorem RangeW.mono {vs:List V}{h:H}{Q Q':V→H→Prop}(m:∀ v h,Q v h→Q' v h)(x:RangeW vs h Q):RangeW vs h Q':=by
 cases vs with
 | nil=>exact x
 | cons a vs=>cases vs with
 | nil=>exact asInt.mono (fun J x=>⟨x.1,m _ _ x.2⟩) x
 | cons b vs=>cases vs with
 | nil=>exact asInt.mono (fun J x=>asInt.mono (fun J x=>⟨x.1,x.2.1,m _ _ x.2.2⟩) x) x
 | cons c vs=>cases vs with
 | cons=>exact x
 | nil=>exact asInt.mono (fun J x=>asInt.mono (fun J x=>asInt.mono (fun J x=>⟨x.1,x.2.1,x.2.2.1,x.2.2.2.1,m _ _ x.2.2.2.2⟩) x) x) x
theorem SortW.mono {v:V}{h:H}{Q Q':V→H→Prop}(m:∀ v h,Q v h→Q' v h)(x:SortW v h Q):SortW v h Q' :=
 asRef.mono (fun J=>Exists.imp fun vs=>And.imp_right fun h3=>h3.imp id fun h3 =>
  h3.imp id fun h3 =>
  h3.imp (Exists.imp fun ks=>And.imp_right (And.imp_right (fun h5 ks' p o=>m _ _ (h5 ks' p o)))) fun h3 =>
  h3) x
theorem BiW.mono {b:Bi}{vs:List V}{h:H}{Q Q':V→H→Prop}(m:∀ v h,Q v h→Q' v h)(x:BiW b vs h Q):BiW b vs h Q':=by
 cases b with
 | len=>exact arg1.mono (fun J x=>LenW.mono m x) x
 | range=>exact RangeW.mono m x
 | list=>exact arg1.mono (fun J x=>ListW.mono m x) x
 | sorted=>exact arg1.mono (fun J x=>SortW.mono m x) x
 | dict=>exact x
 | int=>exact arg1.mono (fun J x=>asBool.mono (fun J x=>m _ _ x) x) x
 | min=>match vs,x with | [_,_],x=>exact asInt.mono (fun J x=>asInt.mono (fun J x=>m _ _ x) x) x
 | max=>match vs,x with | [_,_],x=>exact asInt.mono (fun J x=>asInt.mono (fun J x=>m _ _ x) x) x
theorem IsW.mono {v:V}{t:Ty}{h:H}{Q Q':Bool→Prop}(m:∀ b,Q b→Q' b)(x:IsW v t h Q):IsW v t h Q':=by
 cases v with
 | rng=>exact x
 | ref n =>
  revert x
  unfold IsW
  dsimp only
  generalize h[n]?=o
  intro x
  cases o with
  | none=>exact x
  | some o=>cases o with
   | frz _=>exact x
   | _=>exact m _ x
 | _=>exact m _ x
theorem MethW.mono {mt:Mt}{o:V}{as:List V}{h:H}{Q Q':V→H→Prop}(m:∀ v h,Q v h→Q' v h)(x:MethW mt o as h Q):MethW mt o as h Q':=by
 cases mt with
 | append=>exact asRef.mono (fun J x=>arg1.mono (fun J=>Exists.imp fun vs=>And.imp_right (And.imp_right (m _ _))) x) x
 | reverse=>exact asRef.mono (fun J x=>arg0.mono (Exists.imp fun vs=>And.imp_right (m _ _)) x) x
 | join=>exact asStr.mono (fun J x=>arg1.mono (fun J x=>asRef.mono (fun J=>Exists.imp fun vs=>Exists.imp fun xs=>And.imp_right (And.imp_right (And.imp_right (And.imp_right (m _ _))))) x) x) x
 | startswith=>exact asStr.mono (fun J x=>arg1.mono (fun J x=>asStr.mono (fun J x=>m _ _ x) x) x) x
 | _=>first | exact x | exact asRef.mono (fun J x=>arg1.mono (fun J x=>asStr.mono (fun J=>Exists.imp fun l=>Exists.imp fun k=>And.imp_right (And.imp_right (And.imp_right (m _ _)))) x) x) x
theorem StoreW.mono {o i v:V}{h:H}{Q Q':H→Prop}(m:∀ h,Q h→Q' h)(x:StoreW o i v h Q):StoreW o i v h Q' :=
 asRef.mono (fun n x=>by
  revert x
  generalize h[n]?=o
  intro x
  cases o with
  | none=>exact x
  | some o=>cases o with
   | list _=>exact asInt.mono (fun J x=>⟨x.1,x.2.1,x.2.2.1,m _ x.2.2.2⟩) x
   | dict _ _=>exact⟨x.1,x.2.1,fun ver=>m _ (x.2.2 ver)⟩
   | _=>exact x) x
theorem IterW.mono {v:V}{h:H}{Q Q':It→Prop}(m:∀ i,Q i→Q' i)(x:IterW v h Q):IterW v h Q':=by
 cases v with
 | tup=>exact m _ x
 | rng=>exact m _ x
 | ref n =>
  revert x
  unfold IterW
  dsimp only
  generalize h[n]?=o
  intro x
  cases o with
  | none=>exact x
  | some o=>cases o with
   | frz _=>exact x
   | _=>exact m _ x
 | _=>exact x
theorem NextW.mono {it:It}{h:H}{p p':Prop}{Q Q':V→It→Prop}(m:p→p')(m':∀ v i,Q v i→Q' v i)(x:NextW it h p Q):NextW it h p' Q':=by
 cases it with
 | vals vs =>
  cases vs with
  | nil=>exact m x
  | cons=>exact m' _ _ x
 | seq n i =>
  revert x
  unfold NextW
  dsimp only
  generalize h[n]?=o
  intro x
  cases o with
  | none=>exact x
  | some o=>cases o with
   | list vs =>
    revert x
    dsimp only
    generalize vs[i]?=w
    intro x
    cases w with
    | none=>exact m x
    | some _=>exact m' _ _ x
   | _=>exact x
 | keys n ver len i =>
  revert x
  unfold NextW
  dsimp only
  generalize h[n]?=o
  intro x
  cases o with
  | none=>exact x
  | some o=>cases o with
   | dict es ver =>
    refine⟨x.1,x.2.1,?_⟩
    have x:=x.2.2
    revert x
    generalize es[i]?=w
    intro x
    cases w with
    | none=>exact m x
    | some _=>exact m' _ _ x
   | _=>exact x
theorem bindT.mono {t:Tgt}{v:V}{ρ:jz}{Q Q':jz→Prop}(m:∀ r,Q r→Q' r)(x:bindT t v ρ Q):bindT t v ρ Q':=by
 cases t with
 | name=>exact m _ x
 | tup is=>exact asTup.mono (fun J x=>⟨x.1,m _ x.2⟩) x
def ZR (body:V→jz→H→(Out→jz→H→Prop)→Prop):Prop:=∀ v ρ h Q Q',(∀ o r h,Q o r h→Q' o r h)→body v ρ h Q→body v ρ h Q'
def MonoT (test:jz→H→(Bool→H→Prop)→Prop):Prop:=∀ ρ h Q Q',(∀ b h,Q b h→Q' b h)→test ρ h Q→test ρ h Q'
def MonoS (body:jz→H→(Out→jz→H→Prop)→Prop):Prop:=∀ ρ h Q Q',(∀ o r h,Q o r h→Q' o r h)→body ρ h Q→body ρ h Q'
def jaf (turn:V→H→(Option V→H→Prop)→Prop):Prop:=∀ v h Q Q',(∀ o h,Q o h→Q' o h)→turn v h Q→turn v h Q'
theorem Ui {body:V→jz→H→(Out→jz→H→Prop)→Prop}(hb:ZR body){Q Q':Out→jz→H→Prop}(m:∀ o r h,Q o r h→Q' o r h):∀ f it ρ h,YC body f it ρ h Q→YC body f it ρ h Q'
 | 0,_,_,_,x=>x
 | f+1,it,ρ,h,x=>NextW.mono (m _ _ _) (fun v i y=>hb _ _ _ _ _ (fun o r h z=>by cases o with | next=>exact Ui hb m f _ _ _ z | ret v=>exact m _ _ _ z) y) x
theorem JH {test:jz→H→(Bool→H→Prop)→Prop}{body:jz→H→(Out→jz→H→Prop)→Prop}(ht:MonoT test)(hb:MonoS body){Q Q':Out→jz→H→Prop}(m:∀ o r h,Q o r h→Q' o r h):∀ f ρ h,yO test body f ρ h Q→yO test body f ρ h Q'
 | 0,_,_,x=>x
 | f+1,ρ,h,x=>ht _ _ _ _ (fun b h y=>by
   cases b with
   | true=>exact hb _ _ _ _ (fun o r h z=>by cases o with | next=>exact JH ht hb m f _ _ z | ret v=>exact m _ _ _ z) y
   | false=>exact m _ _ _ y) x
theorem zC {turn:V→H→(Option V→H→Prop)→Prop}(ht:jaf turn){Q Q':List V→H→Prop}(m:∀ o h,Q o h→Q' o h):∀ f it h out,Jn turn f it h out Q→Jn turn f it h out Q'
 | 0,_,_,_,x=>x
 | f+1,it,h,out,x=>NextW.mono (m _ _) (fun v i y=>ht _ _ _ _ (fun o h z=>by
   cases o with
   | some w=>exact⟨z.1,zC ht m f _ _ _ z.2⟩
   | none=>exact zC ht m f _ _ _ z) y) x
section
variable {C:kO}
mutual
theorem jh (hC:jY C):∀ (e:E) {ρ:jz} {h:H} {Q Q':V→H→Prop},(∀ v h,Q v h→Q' v h)→jW C e ρ h Q→jW C e ρ h Q'
 | e,ρ,h,Q,Q',m,x=>by
  cases e with
  | lit v=>exact m _ _ x
  | var i=>exact vK.mono (fun J y=>m _ _ y) x
  | bin op a b=>exact jh hC a (fun v h y=>jh hC b (fun v h z=>BinW.mono m z) y) x
  | neg a=>exact jh hC a (fun v h y=>asInt.mono (fun J x=>m _ _ x) y) x
  | not a=>exact jh hC a (fun v h y=>truth.mono (fun b z=>m _ _ z) y) x
  | and a b=>exact jh hC a (fun v h y=>truth.mono (fun t z=>by cases t with | true=>exact jh hC b m z | false=>exact m _ _ z) y) x
  | or a b=>exact jh hC a (fun v h y=>truth.mono (fun t z=>by cases t with | true=>exact m _ _ z | false=>exact jh hC b m z) y) x
  | cmp op a b=>exact jh hC a (fun v h y=>jh hC b (fun v h z=>CmpW.mono (fun r w=>m _ _ w) z) y) x
  | cmp2 op1 op2 a b c=>exact jh hC a (fun v h y=>jh hC b (fun v h z=>CmpW.mono (fun r w=>by
    cases r with
    | true=>exact jh hC c (fun v h u=>CmpW.mono (fun r w=>m _ _ w) u) w
    | false=>exact m _ _ w) z) y) x
  | sub a i=>exact jh hC a (fun v h y=>jh hC i (fun v h z=>SubW.mono (fun v w=>m _ _ w) z) y) x
  | slice a lo hi=>exact jh hC a (fun v h y=>jh hC lo (fun v h z=>jh hC hi (fun v h w=>SliceW.mono m w) z) y) x
  | tup es=>exact wpEs_mono hC es (fun vs h y=>m _ _ y) x
  | list es=>exact wpEs_mono hC es (fun vs h y=>m _ _ y) x
  | dict0=>exact fun ver=>m _ _ (x ver)
  | dict1 k v=>exact jh hC k (fun J h y=>jh hC v (fun J h z=>⟨z.1,fun ver=>m _ _ (z.2 ver)⟩) y) x
  | comp elt tgt iter cond=>exact jh hC iter (fun v h y=>IterW.mono (fun i z=>by
    obtain⟨f,z⟩:=z
    refine⟨f,zC ?_ ?_ _ _ _ _ z⟩
    ·intro v h K K' mk w
     refine bindT.mono (fun r u=>?_) w
     refine wpO_mono hC cond (fun b h t=>?_) u
     cases b with
     | true=>exact jh hC elt (fun v h q=>mk _ _ q) t
     | false=>exact mk _ _ t
    ·intro o h w;exact m _ _ w) y) x
  | call f args=>exact wpEs_mono hC args (fun vs h y=>hC _ _ _ _ _ m y) x
  | bi b args=>exact wpEs_mono hC args (fun vs h y=>BiW.mono m y) x
  | isinst a t=>exact jh hC a (fun v h y=>IsW.mono (fun r z=>m _ _ z) y) x
  | meth mt o args=>exact jh hC o (fun v h y=>⟨y.1,wpEs_mono hC args (fun vs h z=>MethW.mono m z) y.2⟩) x
theorem wpEs_mono (hC:jY C):∀ (es:List E) {ρ:jz} {h:H} {Q Q':List V→H→Prop},(∀ v h,Q v h→Q' v h)→wpEs C es ρ h Q→wpEs C es ρ h Q'
 | [],ρ,h,Q,Q',m,x=>m _ _ x
 | e::es,ρ,h,Q,Q',m,x=>jh hC e (fun v h y=>wpEs_mono hC es (fun vs h z=>m _ _ z) y) x
theorem wpO_mono (hC:jY C):∀ (e:Option E) {ρ:jz} {h:H} {Q Q':Bool→H→Prop},(∀ v h,Q v h→Q' v h)→wpO C e ρ h Q→wpO C e ρ h Q'
 | none,ρ,h,Q,Q',m,x=>m _ _ x
 | some e,ρ,h,Q,Q',m,x=>wpT_mono hC e m x
theorem wpT_mono (hC:jY C):∀ (e:E) {ρ:jz} {h:H} {Q Q':Bool→H→Prop},(∀ v h,Q v h→Q' v h)→wpT C e ρ h Q→wpT C e ρ h Q'
 | e,ρ,h,Q,Q',m,x=>by
  cases e with
  | not a=>exact wpT_mono hC a (fun b h y=>m _ _ y) x
  | and a b=>exact wpT_mono hC a (fun t h y=>by cases t with | true=>exact wpT_mono hC b m y | false=>exact m _ _ y) x
  | or a b=>exact wpT_mono hC a (fun t h y=>by cases t with | true=>exact m _ _ y | false=>exact wpT_mono hC b m y) x
  | cmp op a b=>exact jh hC a (fun v h y=>jh hC b (fun v h z=>CmpW.mono (fun r w=>m _ _ w) z) y) x
  | cmp2 op1 op2 a b c=>exact jh hC a (fun v h y=>jh hC b (fun v h z=>CmpW.mono (fun r w=>by
    cases r with
    | true=>exact jh hC c (fun v h u=>CmpW.mono (fun r w=>m _ _ w) u) w
    | false=>exact m _ _ w) z) y) x
  | lit v=>exact truth.mono (fun b y=>m _ _ y) x
  | var i=>exact vK.mono (fun J y=>truth.mono (fun b y=>m _ _ y) y) x
  | call f args=>exact wpEs_mono hC args (fun vs h y=>hC _ _ _ _ _ (fun v h z=>truth.mono (fun b w=>m _ _ w) z) y) x
  | isinst a t=>exact jh hC a (fun v h y=>IsW.mono (fun r z=>m _ _ z) y) x
  | meth mt o args=>exact jh hC o (fun v h y=>⟨y.1,wpEs_mono hC args (fun vs h z=>MethW.mono (fun v h w=>truth.mono (fun b u=>m _ _ u) w) z) y.2⟩) x
  | bin=>exact x
  | neg=>exact x
  | sub=>exact x
  | slice=>exact x
  | tup=>exact x
  | list=>exact x
  | dict0=>exact x
  | dict1=>exact x
  | comp=>exact x
  | bi=>exact x
end
mutual
theorem wpS_mono (hC:jY C):∀ (e:S) {ρ:jz} {h:H} {Q Q':Out→jz→H→Prop},(∀ o r h,Q o r h→Q' o r h)→wpS C e ρ h Q→wpS C e ρ h Q'
 | .assign t e,ρ,h,Q,Q',m,x=>jh hC e (fun v h y=>bindT.mono (fun r z=>m _ _ _ z) y) x
 | .store o i e,ρ,h,Q,Q',m,x=>jh hC e (fun v h y=>jh hC o (fun v h z=>jh hC i (fun v h w=>StoreW.mono (fun h u=>m _ _ _ u) w) z) y) x
 | .expr e,ρ,h,Q,Q',m,x=>jh hC e (fun v h y=>m _ _ _ y) x
 | .ite t a b,ρ,h,Q,Q',m,x=>wpT_mono hC t (fun c h y=>by cases c with | true=>exact wpB_mono hC a m y | false=>exact wpB_mono hC b m y) x
 | .while t b,ρ,h,Q,Q',m,x=>by
   obtain⟨f,x⟩:=x
   refine⟨f,JH ?_ ?_ m _ _ _ x⟩
   ·intro ρ h Q Q' m x;exact wpT_mono hC t m x
   ·intro ρ h Q Q' m x;exact wpB_mono hC b m x
 | .for t it b,ρ,h,Q,Q',m,x=>jh hC it (fun v h y=>IterW.mono (fun i z=>by
   obtain⟨f,z⟩:=z
   refine⟨f,Ui ?_ m _ _ _ _ z⟩
   intro v ρ h Q Q' m x
   refine bindT.mono (fun r y=>?_) x
   exact wpB_mono hC b m y) y) x
 | .ret none,ρ,h,Q,Q',m,x=>m _ _ _ x
 | .ret (some e),ρ,h,Q,Q',m,x=>jh hC e (fun v h y=>m _ _ _ y) x
 | .raise,ρ,h,Q,Q',m,x=>x
theorem wpB_mono (hC:jY C):∀ (e:List S) {ρ:jz} {h:H} {Q Q':Out→jz→H→Prop},(∀ o r h,Q o r h→Q' o r h)→wpB C e ρ h Q→wpB C e ρ h Q'
 | [],ρ,h,Q,Q',m,x=>m _ _ _ x
 | s::r,ρ,h,Q,Q',m,x=>wpS_mono hC s (fun o ρ h y=>by cases o with | next=>exact wpB_mono hC r m y | ret v=>exact m _ _ _ y) x
end
end
theorem jy {Φ:Nat→Option Fn}:∀ d,jY (Calls Φ d)
 | 0=>fun J J J J J J x=>x
 | d+1=>fun f vs h Q Q' m x=>by
  refine kL x fun fn h1 h2 h3=>?_
  exact⟨fn,h1,h2,wpB_mono (jy d) _ (fun o r h y=>m _ _ y) h3⟩
def yq (it:Nat→It)(vs:List V)(K:H→Prop):Prop:=∀ i h (stop:Prop) (item:V→It→Prop),K h→(match vs[i]? with | none=>stop | some v=>item v (it (i+1)))→NextW (it i) h stop item
theorem Ju (vs:List V):yq (fun i=>.vals (vs.drop i)) vs fun J=>True:=by
 intro i h stop item _ x
 dsimp only at x ⊢
 by_cases hi:i<vs.length
 ·rw[List.getElem?_eq_getElem hi] at x;rw[List.drop_eq_getElem_cons hi];exact x
 ·rw[List.getElem?_eq_none (by exact qm hi)] at x;rw[List.drop_of_length_le (show vs.length≤i by exact qm hi)];exact x
theorem jU (n:Nat)(vs:List V):yq (fun i=>.seq n i) vs fun h=>h[n]?=some (.list vs):=by
 intro i h stop item hk x
 unfold NextW
 dsimp only
 rw[hk]
 exact x
theorem goes_keys (n ver:Nat)(es:List (V×V)):yq (fun i=>.keys n ver es.length i) (es.map (·.1)) fun h=>h[n]?=some (.dict es ver):=by
 intro i h stop item hk x
 unfold NextW
 dsimp only
 rw[hk]
 refine⟨rfl,rfl,?_⟩
 rw[List.getElem?_map] at x
 cases hv:es[i]? with
 | none=>rw[hv] at x;exact x
 | some e=>rw[hv] at x;exact x
theorem ZY {body:V→jz→H→(Out→jz→H→Prop)→Prop}(hb:ZR body){Q:Out→jz→H→Prop}{it:Nat→It}{vs:List V}{K:H→Prop}(g:yq it vs K)(I:Nat→jz→H→Prop)
  (hl:∀ i ρ h,I i ρ h→K h) (step:∀ i v ρ h,vs[i]?=some v→I i ρ h→body v ρ h fun o ρ' h'=>match o with | .next=>I (i+1) ρ' h' | .ret w=>Q (.ret w) ρ' h')
  (fin:∀ ρ h,I vs.length ρ h→Q .next ρ h):∀ (f i:Nat) ρ h,i≤vs.length→vs.length<f+i→I i ρ h→YC body f (it i) ρ h Q
 | 0,i,_,_,h1,h2,_=>by exact kc ju jc ja jA (qA jw jc) qt h1 h2
 | f+1,i,ρ,h,h1,h2,hI=>by
  refine g i h _ _ (hl i ρ h hI) ?_
  by_cases hi:i<vs.length
  ·rw[List.getElem?_eq_getElem hi]
   refine hb _ _ _ _ _ (fun o ρ' h' y=>?_) (step i vs[i] ρ h (List.getElem?_eq_getElem hi) hI)
   cases o with
   | ret w=>exact y
   | next=>exact ZY hb g I hl step fin f (i+1) ρ' h' (by exact hi) (by exact jq jr jg (qA ja jD) jg (qA jA jd) qt h2) y
  ·have:i=vs.length:=by exact qa (h1) (qm hi)
   subst this
   rw[List.getElem?_eq_none (Nat.le_refl _)]
   exact fin ρ h hI
theorem for_it {body:V→jz→H→(Out→jz→H→Prop)→Prop}(hb:ZR body){Q:Out→jz→H→Prop}{it:Nat→It}{vs:List V}{K:H→Prop}(g:yq it vs K){ρ:jz}{h:H}(I:Nat→jz→H→Prop)(h0:I 0 ρ h)
  (hl:∀ i ρ h,I i ρ h→K h) (step:∀ i v ρ h,vs[i]?=some v→I i ρ h→body v ρ h fun o ρ' h'=>match o with | .next=>I (i+1) ρ' h' | .ret w=>Q (.ret w) ρ' h')
  (fin:∀ ρ h,I vs.length ρ h→Q .next ρ h):∃ f,YC body f (it 0) ρ h Q:=⟨vs.length+1,ZY hb g I hl step fin _ 0 ρ h (Nat.zero_le _) (by exact kg jO jg (qA jg jw) qt ) h0⟩
theorem while_inv {test:jz→H→(Bool→H→Prop)→Prop}{body:jz→H→(Out→jz→H→Prop)→Prop}(ht:MonoT test)(hb:MonoS body){Q:Out→jz→H→Prop}(I:Nat→jz→H→Prop)
  (step:∀ n ρ h,I n ρ h→test ρ h fun b h'=>match b with
   | true=>body ρ h' fun o ρ'' h''=>match o with | .next=>∃ m,m<n∧I m ρ'' h'' | .ret w=>Q (.ret w) ρ'' h''
   | false=>Q .next ρ h'):∀ (n:Nat) ρ h,I n ρ h→∃ f,yO test body f ρ h Q:=by
 have key:∀ (n f:Nat) ρ h,n<f→I n ρ h→yO test body f ρ h Q:=by
  intro n
  induction n using Nat.strongRecOn with
  | ind n ih =>
   intro f ρ h hf hI
   cases f with
   | zero=>exact ZN jO jg jw qt hf
   | succ f =>
    refine ht _ _ _ _ (fun b h' y=>?_) (step n ρ h hI)
    cases b with
    | false=>exact y
    | true =>
     refine hb _ _ _ _ (fun o ρ'' h'' z=>?_) y
     cases o with
     | ret w=>exact z
     | next=>refine jo z fun m hm hI'=>?_;exact ih m hm f ρ'' h'' (by exact jt jr jg ja jD jA jg jd qt hf hm) hI'
 exact fun n ρ h hI=>⟨n+1,key n (n+1) ρ h (by exact Nat.le_refl _) hI⟩
theorem KM {turn:V→H→(Option V→H→Prop)→Prop}(ht:jaf turn){Q:List V→H→Prop}{it:Nat→It}{vs:List V}{K:H→Prop}(g:yq it vs K)(I:Nat→List V→H→Prop)(hl:∀ i out h,I i out h→K h)
  (step:∀ i v out h,vs[i]?=some v→I i out h→turn v h fun o h'=>match o with | some x=>out.length<SZ∧I (i+1) (out++[x]) h' | none=>I (i+1) out h')
  (fin:∀ out h,I vs.length out h→Q out h):∀ (f i:Nat) out h,i≤vs.length→vs.length<f+i→I i out h→Jn turn f (it i) h out Q
 | 0,i,_,_,h1,h2,_=>by exact kc ju jc ja jA (qA jw jc) qt h1 h2
 | f+1,i,out,h,h1,h2,hI=>by
  refine g i h _ _ (hl i out h hI) ?_
  by_cases hi:i<vs.length
  ·rw[List.getElem?_eq_getElem hi]
   refine ht _ _ _ _ (fun o h' y=>?_) (step i vs[i] out h (List.getElem?_eq_getElem hi) hI)
   cases o with
   | some x=>exact⟨y.1,KM ht g I hl step fin f (i+1) _ h' (by exact hi) (by exact jq jr jg (qA ja jD) jg (qA jA jd) qt h2) y.2⟩
   | none=>exact KM ht g I hl step fin f (i+1) _ h' (by exact hi) (by exact jq jr jg (qA ja jD) jg (qA jA jd) qt h2) y
  ·have:i=vs.length:=by exact qa (h1) (qm hi)
   subst this
   rw[List.getElem?_eq_none (Nat.le_refl _)]
   exact fin out h hI
theorem comp_it {turn:V→H→(Option V→H→Prop)→Prop}(ht:jaf turn){Q:List V→H→Prop}{it:Nat→It}{vs:List V}{K:H→Prop}(g:yq it vs K){h:H}(I:Nat→List V→H→Prop)(h0:I 0 [] h)(hl:∀ i out h,I i out h→K h)
  (step:∀ i v out h,vs[i]?=some v→I i out h→turn v h fun o h'=>match o with | some x=>out.length<SZ∧I (i+1) (out++[x]) h' | none=>I (i+1) out h') (fin:∀ out h,I vs.length out h→Q out h):∃ f,Jn turn f (it 0) h [] Q :=
 ⟨vs.length+1,KM ht g I hl step fin _ 0 [] h (Nat.zero_le _) (by exact kg jO jg (qA jg jw) qt ) h0⟩
theorem iter_list {n:Nat}{vs:List V}{h:H}{Q:It→Prop}(x:h[n]?=some (.list vs))(q:Q (.seq n 0)):IterW (.ref n) h Q:=by
 unfold IterW;dsimp only;rw[x];exact q
theorem iter_dict {n:Nat}{es:List (V×V)}{ver:Nat}{h:H}{Q:It→Prop}(x:h[n]?=some (.dict es ver))(q:Q (.keys n ver es.length 0)):IterW (.ref n) h Q:=by
 unfold IterW;dsimp only;rw[x];exact q
section
variable {C:kO}{ρ:jz}{h:H}{Q:Out→jz→H→Prop}{r:List S}
theorem zF {e:E}(x:jW C e ρ h fun J h₁=>wpB C r ρ h₁ Q):wpB C (.expr e::r) ρ h Q:=x
theorem Wo {o i e:E}(x:jW C e ρ h fun v h₁=>jW C o ρ h₁ fun vo h₂=>jW C i ρ h₂ fun vi h₃=>StoreW vo vi v h₃ fun h₄=>wpB C r ρ h₄ Q):wpB C (.store o i e::r) ρ h Q:=x
theorem B_ret {e:E}(x:jW C e ρ h fun v h₁=>Q (.ret v) ρ h₁):wpB C (.ret (some e)::r) ρ h Q:=x
noncomputable def Je (C:kO)(r:List S)(Q:Out→jz→H→Prop):Out→jz→H→Prop:=fun o ρ h=>match o with
 | .next=>wpB C r ρ h Q
 | .ret v=>Q (.ret v) ρ h
theorem B_ite {t:E}{a b:List S}(x:wpT C t ρ h fun c h₁=>match c with | true=>wpB C a ρ h₁ (Je C r Q) | false=>wpB C b ρ h₁ (Je C r Q)):wpB C (.ite t a b::r) ρ h Q:=x
variable (hC:jY C)
include hC
theorem YI {t:Tgt}{e:E}{b:List S}{it:Nat→It}{vs:List V}{K:H→Prop}(g:yq it vs K)(I:Nat→jz→H→Prop)(hit:jW C e ρ h fun v h₁=>(∀ Q:It→Prop,Q (it 0)→IterW v h₁ Q)∧I 0 ρ h₁)(hl:∀ i ρ h,I i ρ h→K h)
  (step:∀ i v ρ h,vs[i]?=some v→I i ρ h→bindT t v ρ fun ρ'=>wpB C b ρ' h fun o ρ' h'=>match o with | .next=>I (i+1) ρ' h' | .ret w=>Q (.ret w) ρ' h') (fin:∀ ρ h,I vs.length ρ h→wpB C r ρ h Q):wpB C (.for t e b::r) ρ h Q:=by
 refine jh hC e (fun v h₁ ⟨hv,hI⟩=>hv _ ?_) hit
 have mb:ZR (fun v ρ h k=>bindT t v ρ fun ρ'=>wpB C b ρ' h k):=by intro v ρ h Q Q' m x;exact bindT.mono (fun r y=>wpB_mono hC b m y) x
 have:∃ f,YC (fun v ρ h k=>bindT t v ρ fun ρ'=>wpB C b ρ' h k) f (it 0) ρ h₁ (Je C r Q):=by
  refine for_it mb g I hI hl ?_ fin
  intro i v ρ h hv hI
  refine bindT.mono (fun r y=>?_) (step i v ρ h hv hI)
  exact wpB_mono hC b (fun o J J z=>by cases o <;> exact z) y
 exact this
theorem B_while {t:E}{b:List S}(I:Nat→jz→H→Prop)(n:Nat)(h0:I n ρ h)
  (step:∀ n ρ h,I n ρ h→wpT C t ρ h fun c h₁=>match c with
   | true=>wpB C b ρ h₁ fun o ρ' h'=>match o with | .next=>∃ m,m<n∧I m ρ' h' | .ret w=>Q (.ret w) ρ' h'
   | false=>wpB C r ρ h₁ Q):wpB C (.while t b::r) ρ h Q:=by
 have:∃ f,yO (fun ρ h k=>wpT C t ρ h k) (fun ρ h k=>wpB C b ρ h k) f ρ h (Je C r Q):=by
  have mt:MonoT (fun ρ h k=>wpT C t ρ h k):=by intro ρ h Q Q' m x;exact wpT_mono hC t m x
  have mb:MonoS (fun ρ h k=>wpB C b ρ h k):=by intro ρ h Q Q' m x;exact wpB_mono hC b m x
  refine while_inv mt mb I (fun n ρ h hI=>?_) n ρ h h0
  refine wpT_mono hC t (fun c h₁ y=>?_) (step n ρ h hI)
  cases c with
  | true=>exact wpB_mono hC b (fun o J J z=>by cases o <;> exact z) y
  | false=>exact y
 exact this
end
section
variable {C:kO}{ρ:jz}{h:H}{Q:V→H→Prop}(hC:jY C)
include hC
theorem turn_mono {elt:E}{tgt:Tgt}{cond:Option E}:jaf (fun v h k=>bindT tgt v ρ fun ρ'=>wpO C cond ρ' h fun b h₂=>match b with
    | true=>jW C elt ρ' h₂ fun x h₃=>k (some x) h₃
    | false=>k none h₂):=fun v h K K' mk w=>bindT.mono (fun r u=>wpO_mono hC cond (fun b h t=>by
    cases b with
    | true=>exact jh hC elt (fun v h q=>mk _ _ q) t
    | false=>exact mk _ _ t) u) w
theorem Jt {elt e:E}{tgt:Tgt}{cond:Option E}{it:Nat→It}{vs:List V}{K:H→Prop}(g:yq it vs K)(I:Nat→List V→H→Prop)(hit:jW C e ρ h fun v h₁=>(∀ Q:It→Prop,Q (it 0)→IterW v h₁ Q)∧I 0 [] h₁)(hl:∀ i out h,I i out h→K h)
  (step:∀ i v out h,vs[i]?=some v→I i out h→bindT tgt v ρ fun ρ'=>wpO C cond ρ' h fun b h₂=>match b with | true=>jW C elt ρ' h₂ fun x h₃=>out.length<SZ∧I (i+1) (out++[x]) h₃ | false=>I (i+1) out h₂)
  (fin:∀ out h,I vs.length out h→Q (.ref h.length) (h++[.list out])):jW C (.comp elt tgt e cond) ρ h Q:=by
 refine jh hC e (fun v h₁ ⟨hv,hI⟩=>hv _ ?_) hit
 exact comp_it (turn_mono hC) g I hI hl (fun i v out h hv hI=>bindT.mono (fun r u=>wpO_mono hC cond (fun b h t=>by cases b <;> exact t) u) (step i v out h hv hI)) fin
end
theorem Km:∀ (n:Nat) (a c:Int) (i:Nat),(yK a c n)[i]?=if i<n then some (.int (a+i * c)) else none
 | 0,a,c,i=>by simp [yK]
 | n+1,a,c,0=>by simp [yK]
 | n+1,a,c,i+1=>by
  rw[yK,List.getElem?_cons_succ,Km n]
  by_cases h:i<n
  ·rw[if_pos h,if_pos (Nat.succ_lt_succ h),Int.natCast_succ,Int.add_mul,Int.one_mul,Int.add_assoc,Int.add_comm c]
  ·rw[if_neg h,if_neg fun x=>h (Nat.lt_of_succ_lt_succ x)]
theorem WN {k:Nat}(h:k<2 ^ 62):(k:Int)<2 ^ 62:=Int.lt_of_lt_of_le (Int.ofNat_lt.mpr h) (by decide)
theorem rlen {a b:Int}{n:Nat}(e:b=a+n):kC a b 1=n:=by
 unfold kC
 subst e
 cases n with
 | zero=>exact if_neg (Int.not_lt.mpr (Int.le_of_eq (Int.add_zero a)))
 | succ n=>rw[if_pos (Int.lt_add_of_pos_right a (Int.ofNat_lt.mpr (Nat.succ_pos n))),Int.ediv_one,Int.sub_add_cancel,Int.add_comm a,Int.add_sub_cancel];rfl
theorem ZA (n:Nat):kF 0 n 1=yK 0 1 n:=congrArg (yK 0 1) (rlen (Int.zero_add _).symm)
section
variable {h:H}{Q:V→H→Prop}{P:Bool→Prop}{R:V→Prop}{n:Nat}{vs:List V}
theorem x_adds {a b:List Nat}:BinW .add (.str a) (.str b) h Q=(a.length+b.length≤SZ∧Q (.str (a++b)) h):=rfl
theorem JB {m:Nat}{ws:List V}(h1:h[n]?=some (.list vs))(h2:h[m]?=some (.list ws)):BinW .add (.ref n) (.ref m) h Q=(vs.length+ws.length≤SZ∧Q (.ref h.length) (h++[.list (vs++ws)])) :=
 propext ⟨fun z=>wZ z fun a b g1 g2 g=>by cases h1.symm.trans g1;cases h2.symm.trans g2;exact g,fun g=>⟨vs,ws,h1,h2,g⟩⟩
theorem x_fdiv {a b:Int}:BinW .fdiv (.int a) (.int b) h Q=(b≠0∧b.natAbs<1073741824∧Q (.int (a.fdiv b)) h):=rfl
theorem Ug {a b:Int}:BinW .mod (.int a) (.int b) h Q=(b≠0∧Q (.int (a.fmod b)) h):=rfl
theorem x_tb {b:Bool}:truth (.bool b) h P=P b:=rfl
theorem x_eqG {a b:V}{d₁ d₂:D}{p:Prop}[Decidable p](h1:Snap h a d₁)(h2:Snap h b d₂)(u1:∀ d,Snap h a d→d=d₁)(u2:∀ d,Snap h b d→d=d₂)(o1:D.ok 9 d₁=true)(o2:D.ok 9 d₂=true)(hp:(d₁=d₂)↔p):EqG a b h P=P (decide p) :=
 have e:decide (d₁=d₂)=decide p:=decide_eq_decide.mpr hp
 propext ⟨fun z=>Z24 z fun x y s1 s2 J J q=>by rw[u1 x s1,u2 y s2,e] at q;exact q,fun q=>⟨d₁,d₂,h1,h2,o1,o2,by rw[e];exact q⟩⟩
theorem sn_int {a:Int}{d:D}(x:Snap h (.int a) d):d=.int a:=by cases x;rfl
theorem sn_str {a:List Nat}{d:D}(x:Snap h (.str a) d):d=.str a:=by cases x;rfl
theorem D_int {a b:Int}:(D.int a=D.int b)↔a=b:=⟨fun h=>D.int.inj h,fun h=>h▸rfl⟩
theorem D_str {a b:List Nat}:(D.str a=D.str b)↔a=b:=⟨fun h=>D.str.inj h,fun h=>h▸rfl⟩
theorem jae {a b:Int}:CmpW .eq (.int a) (.int b) h P=P (decide (a=b)):=x_eqG (.int _) (.int _) (fun J=>sn_int) (fun J=>sn_int) rfl rfl D_int
theorem x_eqs {a b:List Nat}:CmpW .eq (.str a) (.str b) h P=P (decide (a=b)):=x_eqG (.str _) (.str _) (fun J=>sn_str) (fun J=>sn_str) rfl rfl D_str
theorem x_nei {a b:Int}:CmpW .ne (.int a) (.int b) h P=P (!decide (a=b)):=jae (P:=fun r=>P (!r))
theorem x_nes {a b:List Nat}:CmpW .ne (.str a) (.str b) h P=P (!decide (a=b)):=x_eqs (P:=fun r=>P (!r))
theorem x_isn {a:V}:CmpW .is a .none h P=P (decide (a=.none)):=rfl
theorem x_isnn {a:V}:CmpW .isNot a .none h P=P (!decide (a=.none)):=rfl
theorem x_eqd {a b:V}{d₁ d₂:D}(h1:Snap h a d₁)(h2:Snap h b d₂)(h3:D.ok 9 d₁=true)(h4:D.ok 9 d₂=true)(x:P (decide (d₁=d₂))):EqW a b h P:=by
 cases a with
 | bool=>cases h1;cases h3
 | _=>exact⟨d₁,d₂,h1,h2,h3,h4,x⟩
theorem x_in (P:Bool→Prop){a:V}:InW a (.ref n) h P=(match h[n]? with
  | some (.list vs)=>∃ d ds,Snap h a d∧Snaps h vs ds∧D.ok 9 d=true∧(∀ d∈ds,D.ok 9 d=true)∧P (decide (d∈ds))
  | some (.dict es _)=>a.isKey=true∧P (decide (a∈es.map (·.1)))
  | some (.frz _)=>False
  | none=>False):=rfl
theorem x_ind {a:V}{es:List (V×V)}{ver:Nat}(h1:h[n]?=some (.dict es ver)):CmpW .isIn a (.ref n) h P=(a.isKey=true∧P (decide (a∈es.map (·.1)))):=by
 show InW _ _ _ _=_
 rw[x_in,h1]
theorem x_nid {a:V}{es:List (V×V)}{ver:Nat}(h1:h[n]?=some (.dict es ver)):CmpW .notIn a (.ref n) h P=(a.isKey=true∧P (!decide (a∈es.map (·.1)))):=by
 show InW a (.ref n) h (fun r=>P (!r))=_
 rw[x_in,h1]
theorem x_inl {a:V}(h1:h[n]?=some (.list vs)):CmpW .isIn a (.ref n) h P=∃ d ds,Snap h a d∧Snaps h vs ds∧D.ok 9 d=true∧(∀ d∈ds,D.ok 9 d=true)∧P (decide (d∈ds)):=by
 show InW _ _ _ _=_
 rw[x_in,h1]
theorem st_ex {k:Int}{v:V}(h0:0≤k∧k<2 ^ 62)(h1:vs[k.toNat]?=some v):SubW (.tup vs) (.int k) h R=R v:=propext ⟨fun z=>kL z fun w J e q=>by cases h1.symm.trans e;exact q,fun q=>⟨v,h0,h1,q⟩⟩
theorem x_st0 {a:V}{l:List V}:SubW (.tup (a::l)) (.int 0) h R=R a:=st_ex (by decide) rfl
theorem x_st1 {a b:V}{l:List V}:SubW (.tup (a::b::l)) (.int 1) h R=R b:=st_ex (by decide) rfl
theorem x_sub {i:V}:SubW (.ref n) i h R=(match h[n]? with
  | some (.list vs)=>asInt i fun k=>(∃ v,(0≤k∧k<2 ^ 62)∧vs[k.toNat]?=some v∧R v)∨(∃ v,k = -1∧vs.getLast?=some v∧R v)
  | some (.frz vs)=>asInt i fun k=>∃ v,(0≤k∧k<2 ^ 62)∧vs[k.toNat]?=some v∧R v
  | some (.dict es _)=>i.isKey=true∧∃ v,wH es i=some v∧R v
  | none=>False):=rfl
theorem x_sl {k:Int}{v:V}(h1:h[n]?=some (.list vs))(h0:0≤k)(h2:k<2 ^ 62)(h3:vs[k.toNat]?=some v)(x:R v):SubW (.ref n) (.int k) h R:=by
 rw[x_sub,h1];exact .inl ⟨v,⟨h0,h2⟩,h3,x⟩
theorem x_sln {k:Nat}{v:V}(h1:h[n]?=some (.list vs))(h2:k<2 ^ 62)(h3:vs[k]?=some v)(x:R v):SubW (.ref n) (.int k) h R:=x_sl h1 (Int.natCast_nonneg k) (WN h2) h3 x
theorem x_sf {k:Int}(h1:h[n]?=some (.frz vs)):SubW (.ref n) (.int k) h R=∃ v,(0≤k∧k<2 ^ 62)∧vs[k.toNat]?=some v∧R v:=by rw[x_sub,h1];rfl
theorem x_sd {i:V}{es:List (V×V)}{ver:Nat}(h1:h[n]?=some (.dict es ver)):SubW (.ref n) i h R=(i.isKey=true∧∃ v,wH es i=some v∧R v):=by rw[x_sub,h1]
theorem x_lent:BiW .len [.tup vs] h Q=Q (.int vs.length) h:=rfl
theorem x_len:BiW .len [.ref n] h Q=(match h[n]? with
  | some (.list vs)=>Q (.int vs.length) h
  | some (.frz vs)=>Q (.int vs.length) h
  | some (.dict _ _)=>False
  | none=>False):=rfl
theorem UP (h1:h[n]?=some (.list vs)):BiW .len [.ref n] h Q=Q (.int vs.length) h:=by rw[x_len,h1]
theorem x_lenf (h1:h[n]?=some (.frz vs)):BiW .len [.ref n] h Q=Q (.int vs.length) h:=by rw[x_len,h1]
theorem x_li:BiW .list [.ref n] h Q=(match h[n]? with
  | some (.list vs)=>vs.length≤SZ∧Q (.ref h.length) (h++[.list vs])
  | some (.frz _)=>False
  | some (.dict _ _)=>False
  | none=>False):=rfl
theorem x_min {a b:Int}:BiW .min [.int a,.int b] h Q=Q (.int (min a b)) h:=rfl
theorem x_max {a b:Int}:BiW .max [.int a,.int b] h Q=Q (.int (max a b)) h:=rfl
theorem x_ll (h1:h[n]?=some (.list vs)):BiW .list [.ref n] h Q=(vs.length≤SZ∧Q (.ref h.length) (h++[.list vs])):=by rw[x_li,h1]
theorem x_lr {a b c:Int}:BiW .list [.rng a b c] h Q=(kC a b c≤SZ∧Q (.ref h.length) (h++[.list (kF a b c)])):=rfl
theorem x_get {T:List V→Prop}(h1:h[n]?=some (.list vs)):(∃ ws,h[n]?=some (.list ws)∧T ws)=T vs :=
 propext ⟨fun z=>jo z fun w g t=>by cases h1.symm.trans g;exact t,fun t=>⟨vs,h1,t⟩⟩
theorem jac {v:V}(h1:h[n]?=some (.list vs)):MethW .append (.ref n) [v] h Q=(vs.length<SZ∧Q .none (h.set n (.list (vs++[v])))):=x_get (T:=fun vs=>vs.length<SZ∧Q .none (h.set n (.list (vs++[v])))) h1
theorem x_rev (h1:h[n]?=some (.list vs)):MethW .reverse (.ref n) [] h Q=Q .none (h.set n (.list vs.reverse)):=x_get (T:=fun vs=>Q .none (h.set n (.list vs.reverse))) h1
theorem x_join {xs:List (List Nat)}(h1:h[n]?=some (.list vs))(h2:zK vs=some xs):MethW .join (.str []) [.ref n] h Q=((xs.map List.length).sum≤SZ∧Q (.str (zb [] xs)) h) :=
 propext ⟨fun z=>Z23 z fun ws ys g1 g2 J g=>by cases h1.symm.trans g1;cases h2.symm.trans g2;exact g,fun g=>⟨vs,xs,h1,h2,rfl,g⟩⟩
theorem x_idx {l:List (List Nat)}{k:Nat}{s:List Nat}(h1:h[n]?=some (.list (l.map V.str)))(h2:l[k]?=some s)(h3:∀ j,j<k→l[j]?≠some s)(q:Q (.int k) h):MethW .index (.ref n) [.str s] h Q:=⟨l,k,h1,h2,h3,q⟩
theorem x_ri (h1:h[n]?=some (.list vs)):yo .index (.ref n) h:=⟨vs,h1⟩
theorem x_sw {a b:List Nat}:MethW .startswith (.str a) [.str b] h Q=Q (.bool (decide (b <+: a))) h:=rfl
theorem x_rr (h1:h[n]?=some (.list vs)):yo .reverse (.ref n) h=True:=propext ⟨fun J=>trivial,fun J=>⟨vs,h1⟩⟩
theorem x_rj {s:List Nat}:yo .join (.str s) h=True:=rfl
theorem x_sto {S:H→Prop}{i v:V}:StoreW (.ref n) i v h S=(match h[n]? with
  | some (.list vs)=>asInt i fun k=>0≤k∧k<2 ^ 62∧k.toNat<vs.length∧S (h.set n (.list (vs.set k.toNat v)))
  | some (.dict es _)=>i.isKey=true∧es.length<SZ∧∀ ver,S (h.set n (.dict (kB es i v) ver))
  | some (.frz _)=>False
  | none=>False):=rfl
theorem x_std {S:H→Prop}{i v:V}{es:List (V×V)}{ver:Nat}(h1:h[n]?=some (.dict es ver)):StoreW (.ref n) i v h S=(i.isKey=true∧es.length<SZ∧∀ ver,S (h.set n (.dict (kB es i v) ver))):=by rw[x_sto,h1]
theorem x_bn {v:V}{i:Nat}{ρ:jz}{K:jz→Prop}:bindT (.name i) v ρ K=K (upd ρ i v):=rfl
theorem x_itt:IsW (.tup vs) .tuple h P=P true:=rfl
end
section
variable {C:kO}{ρ:jz}{h:H}{Q:V→H→Prop}
theorem Ut {v:V}:jW C (.lit v) ρ h Q=Q v h:=rfl
theorem wh {i:Nat}:jW C (.var i) ρ h Q=vK (ρ i) fun v=>Q v h:=rfl
theorem jR {v:V}{k:V→Prop}:vK (some v) k=k v:=rfl
theorem e_var {i:Nat}:jW C (.var i) ρ h Q=∃ v,ρ i=some v∧Q v h:=propext ⟨vK.inv,fun z=>jo z fun v e q=>by rw[wh,e];exact q⟩
theorem e_and {a b:E}:jW C (.and a b) ρ h Q=jW C a ρ h fun v h₁=>truth v h₁ fun t=>match t with | true=>jW C b ρ h₁ Q | false=>Q v h₁:=rfl
theorem e_cmp {op:Cmp}{a b:E}:jW C (.cmp op a b) ρ h Q=jW C a ρ h fun va h₁=>jW C b ρ h₁ fun vb h₂=>CmpW op va vb h₂ fun r=>Q (.bool r) h₂:=rfl
theorem e_sub {a i:E}:jW C (.sub a i) ρ h Q=jW C a ρ h fun va h₁=>jW C i ρ h₁ fun vi h₂=>SubW va vi h₂ fun v=>Q v h₂:=rfl
theorem e_slice {a lo hi:E}:jW C (.slice a lo hi) ρ h Q=jW C a ρ h fun va h₁=>jW C lo ρ h₁ fun vl h₂=>jW C hi ρ h₂ fun vh h₃=>SliceW va vl vh h₃ Q:=rfl
theorem jak {es:List E}:jW C (.tup es) ρ h Q=wpEs C es ρ h fun vs h₁=>Q (.tup vs) h₁:=rfl
theorem zN {es:List E}:jW C (.list es) ρ h Q=wpEs C es ρ h fun vs h₁=>Q (.ref h₁.length) (h₁++[.list vs]):=rfl
theorem e_dict1 {k v:E}:jW C (.dict1 k v) ρ h Q=jW C k ρ h fun vk h₁=>jW C v ρ h₁ fun vv h₂=>vk.isKey=true∧∀ ver,Q (.ref h₂.length) (h₂++[.dict [(vk,vv)] ver]):=rfl
theorem WA {f:Nat}{args:List E}:jW C (.call f args) ρ h Q=wpEs C args ρ h fun vs h₁=>C f vs h₁ Q:=rfl
theorem e_bi {b:Bi}{args:List E}:jW C (.bi b args) ρ h Q=wpEs C args ρ h fun vs h₁=>BiW b vs h₁ Q:=rfl
theorem zH {m:Mt}{o:E}{args:List E}:jW C (.meth m o args) ρ h Q=jW C o ρ h fun vo h₁=>yo m vo h₁∧wpEs C args ρ h₁ fun vs h₂=>MethW m vo vs h₂ Q:=rfl
end
theorem x_eq {h:H}{P:Bool→Prop}{a b:V}:CmpW .eq a b h P=EqW a b h P:=rfl
theorem x_ne {h:H}{P:Bool→Prop}{a b:V}:CmpW .ne a b h P=EqW a b h (fun r=>P (!r)):=rfl
theorem upd_eq {ρ:jz}{i:Nat}{v:V}:upd ρ i v i=some v:=by simp [upd]
theorem Zn {ρ:jz}{i j:Nat}{v:V}(h:j≠i):upd ρ i v j=ρ j:=by simp [upd,h]
section
variable {C:kO}{ρ:jz}{h:H}{Q:Bool→H→Prop}
theorem kx {Q:List V→H→Prop}:wpEs C [] ρ h Q=Q [] h:=rfl
theorem jJ {e:E}{es:List E}{Q:List V→H→Prop}:wpEs C (e::es) ρ h Q=jW C e ρ h fun v h₁=>wpEs C es ρ h₁ fun vs h₂=>Q (v::vs) h₂:=rfl
theorem o_none:wpO C none ρ h Q=Q true h:=rfl
theorem t_not {a:E}:wpT C (.not a) ρ h Q=wpT C a ρ h fun b h₁=>Q (!b) h₁:=rfl
theorem t_or {a b:E}:wpT C (.or a b) ρ h Q=wpT C a ρ h fun t h₁=>match t with | true=>Q true h₁ | false=>wpT C b ρ h₁ Q:=rfl
theorem t_cmp {op:Cmp}{a b:E}:wpT C (.cmp op a b) ρ h Q=jW C a ρ h fun va h₁=>jW C b ρ h₁ fun vb h₂=>CmpW op va vb h₂ fun r=>Q r h₂:=rfl
theorem t_vk {i:Nat}:wpT C (.var i) ρ h Q=vK (ρ i) fun v=>truth v h fun b=>Q b h:=rfl
theorem t_call {f:Nat}{args:List E}:wpT C (.call f args) ρ h Q=wpEs C args ρ h fun vs h₁=>C f vs h₁ fun v h₂=>truth v h₂ fun b=>Q b h₂:=rfl
theorem t_isinst {a:E}{t:Ty}:wpT C (.isinst a t) ρ h Q=jW C a ρ h fun v h₁=>IsW v t h₁ fun r=>Q r h₁:=rfl
theorem t_meth {m:Mt}{o:E}{args:List E}:wpT C (.meth m o args) ρ h Q=jW C o ρ h fun vo h₁=>yo m vo h₁∧wpEs C args ρ h₁ fun vs h₂=>MethW m vo vs h₂ fun v h₃=>truth v h₃ fun b=>Q b h₃:=rfl
end
noncomputable def Tgt.has:Tgt→Nat→Bool
 | .name i,j=>decide (j=i)
 | .tup is,j=>decide (j∈is)
theorem Yy:∀ (is:List Nat) (vs:List V) (ρ:jz) (j:Nat),j ∉ is→KK ρ is vs j=ρ j
 | [],_,_,_,_=>rfl
 | i::is,[],_,_,_=>rfl
 | i::is,v::vs,ρ,j,h=>by
  show KK (upd ρ i v) is vs j=ρ j
  rw[Yy is vs _ j fun x=>h (List.mem_cons_of_mem _ x),Zn (show j≠i from fun e=>h (by rw[e];exact List.mem_cons_self))]
theorem YS {t:Tgt}{v:V}{ρ₀ ρ:jz}{Q:jz→Prop}(h:∀ j,t.has j=false→ρ j=ρ₀ j)(x:bindT t v ρ Q):bindT t v ρ fun ρ'=>(∀ j,t.has j=false→ρ' j=ρ₀ j)∧Q ρ':=by
 cases t with
 | name i=>exact⟨fun j hj=>by rw[Zn (of_decide_eq_false hj)];exact h j hj,x⟩
 | tup is=>exact asTup.mono (fun vs y=>⟨y.1,fun j hj=>by rw[Yy _ _ _ _ (of_decide_eq_false hj)];exact h j hj,y.2⟩) x
section
variable {C:kO}{ρ:jz}{H:Tw.H}{α:Type}{l:List α}{f:α→V}{g:α→Option V}(hC:jY C)
theorem jai {i:Nat}{a:α}(h:l[i]?=some a):(l.take (i+1)).filterMap g=(l.take i).filterMap g++(g a).toList:=by
 rw[List.take_add_one,h,List.filterMap_append]
 cases hg:g a <;> simp [hg]
theorem fm_len (i:Nat)(h:i≤l.length):((l.take i).filterMap g).length≤i:=Nat.le_trans (List.length_filterMap_le _ _) (by rw[List.length_take];exact oq105)
theorem wJ {i:Nat}{v:V}(h:(l.map f)[i]?=some v):∃ a,l[i]?=some a∧f a=v∧i<l.length:=by
 rw[List.getElem?_map] at h
 refine jo (Option.map_eq_some_iff.mp h) fun a h1 h2=>?_
 exact⟨a,h1,h2,(List.getElem?_eq_some_iff.mp h1).1⟩
include hC
theorem yZ {elt e:E}{tgt:Tgt}{cond:Option E}{it:Nat→It}{K:Tw.H→Prop}{Q:V→Tw.H→Prop}(go:yq it (l.map f) K)(hit:jW C e ρ H fun v h₁=>(∀ Q:It→Prop,Q (it 0)→IterW v H Q)∧h₁=H)(hK:K H)(hl:l.length≤SZ)
  (step:∀ a∈l,bindT tgt (f a) ρ fun ρ'=>wpO C cond ρ' H fun b h₂=>h₂=H∧b=(g a).isSome∧∀ w,g a=some w→jW C elt ρ' H fun x h₃=>x=w∧h₃=H)
  (q:Q (.ref H.length) (H++[.list (l.filterMap g)])):jW C (.comp elt tgt e cond) ρ H Q:=by
 refine Jt hC go (fun i out h=>h=H∧out=(l.take i).filterMap g) (jh hC e (fun v h₁ z=>⟨by rw[z.2];exact z.1,z.2,rfl⟩) hit) (fun i out h z=>by rw[z.1];exact hK) ?_ ?_
 ·rintro i v out h hv ⟨rfl,rfl⟩
  obtain⟨a,ha,rfl,hil⟩:=wJ hv
  have hlen:=fm_len (l:=l) (g:=g) i (by exact jq ju jc ja jg ja qt hil)
  rw[jai ha]
  refine bindT.mono (fun ρ' x=>wpO_mono hC cond (fun b h₂ y=>?_) x) (step a (List.mem_of_getElem? ha))
  obtain⟨rfl,rfl,y⟩:=y
  cases hg:g a with
  | none=>exact⟨rfl,by simp⟩
  | some w=>exact jh hC elt (fun x h₃ z=>⟨Nat.lt_of_lt_of_le (Nat.lt_of_le_of_lt hlen hil) hl,z.2,by rw[z.1];rfl⟩) (y w hg)
 ·rintro out h ⟨rfl,rfl⟩
  rw[List.length_map,List.take_length];exact q
omit hC in
theorem Ym {L:Nat}{o:MO}(h:H[L]?=some o):H.set L o=H:=by
 apply List.ext_getElem?
 intro i
 by_cases hi:i=L
 ·subst hi;rw[List.getElem?_set_self (List.getElem?_eq_some_iff.mp h).1,h]
 ·rw[List.getElem?_set_ne (Ne.symm hi)]
theorem Zq {t:Tgt}{it tst e:E}{go:Nat→It}{K:Tw.H→Prop}{r:List S}{fd L:Nat}{base:List V}{Q:Out→jz→Tw.H→Prop}(hgo:yq go (l.map f) K)(hK:∀ out,K (H.set L (.list out)))(hL:H[L]?=some (.list base))(hf:ρ fd=some (.ref L))(hfs:t.has fd=false)
  (hlen:base.length+l.length≤SZ) (hit:jW C it ρ H fun v h₁=>(∀ Q:It→Prop,Q (go 0)→IterW v H Q)∧h₁=H)
  (step:∀ a∈l,∀ ρ' out,(∀ j,t.has j=false→ρ' j=ρ j)→bindT t (f a) ρ' fun ρ''=>wpT C tst ρ'' (H.set L (.list out)) fun c h₁=>h₁=H.set L (.list out)∧c=(g a).isSome∧∀ w,g a=some w→jW C e ρ'' (H.set L (.list out)) fun x h₂=>x=w∧h₂=H.set L (.list out))
  (fin:∀ ρ',(∀ j,t.has j=false→ρ' j=ρ j)→wpB C r ρ' (H.set L (.list (base++l.filterMap g))) Q):wpB C (.for t it [.ite tst [.expr (.meth .append (.var fd) [e])] []]::r) ρ H Q:=by
 have hLl:=(List.getElem?_eq_some_iff.mp hL).1
 refine YI hC hgo (fun i ρ' h=>(∀ j,t.has j=false→ρ' j=ρ j)∧h=H.set L (.list (base++(l.take i).filterMap g))) (jh hC it (fun v h₁ z=>⟨by rw[z.2];exact z.1,fun J J=>rfl,by rw[z.2];simp [Ym hL]⟩) hit) ?_ ?_ ?_
 ·rintro i ρ' h ⟨_,rfl⟩;exact hK _
 ·rintro i v ρ' h hv ⟨hρ,rfl⟩
  obtain⟨a,ha,rfl,hil⟩:=wJ hv
  have hle:(base++(l.take i).filterMap g).length<SZ:=by
   have:=fm_len (l:=l) (g:=g) i (by exact jq ju jc ja jg ja qt hil)
   rw[List.length_append];exact jV ka (qA (qA jc ja) jj) jd (qA jc je) jd yF je ja jl qt hlen hil this
  rw[jai ha]
  refine bindT.mono (fun ρ'' y=>?_) (YS hρ (step a (List.mem_of_getElem? ha) ρ' (base++(l.take i).filterMap g) hρ))
  obtain⟨hk,y⟩:=y
  refine B_ite (wpT_mono hC tst (fun c h₁ z=>?_) y)
  obtain⟨rfl,rfl,z⟩:=z
  cases hg:g a with
  | none=>exact⟨hk,by simp⟩
  | some w =>
   refine zF ?_
   rw[zH,e_var]
   have hb:(H.set L (MO.list (base++(l.take i).filterMap g)))[L]?=some (.list (base++(l.take i).filterMap g)):=List.getElem?_set_self hLl
   refine⟨_,(hk fd hfs).trans hf,⟨_,hb⟩,?_⟩
   rw[jJ]
   refine jh hC e (fun x h₂ ⟨a,b⟩=>?_) (z w hg)
   subst a;subst b
   rw[kx,jac hb]
   exact⟨hle,hk,by simp⟩
 ·rintro ρ' h ⟨hρ,rfl⟩
  rw[List.length_map,List.take_length];exact fin ρ' hρ
end
abbrev Env:=List (Nat×V)
noncomputable def lk:Env→Nat→Option V
 | [],_=>none
 | (j,v)::r,i=>match Nat.beq i j with
  | true=>some v
  | false=>lk r i
def Ag (L:Env)(ρ:jz):Prop:=∀ i v,lk L i=some v→ρ i=some v
theorem Ag.push {L:Env}{ρ:jz}{i:Nat}{v:V}(r:Ag L ρ):Ag ((i,v)::L) (upd ρ i v):=fun j w e=>by
 unfold lk at e
 cases hb:Nat.beq j i with
 | true=>rw[hb] at e;cases e;rw[Nat.eq_of_beq_eq_true hb];exact upd_eq
 | false=>rw[hb] at e;rw[Zn (Nat.ne_of_beq_eq_false hb)];exact r j w e
noncomputable def pushs (L:Env):List Nat→List V→Env
 | i::is,v::vs=>pushs ((i,v)::L) is vs
 | _,_=>L
theorem Ag.pushs:∀ {L:Env} {ρ:jz} (is:List Nat) (vs:List V),Ag L ρ→Ag (pushs L is vs) (KK ρ is vs)
 | _,_,[],_,r=>r
 | _,_,_::_,[],r=>r
 | _,_,_::is,_::vs,r=>Ag.pushs is vs r.push
noncomputable def Uw (k:Nat):List V→Env
 | []=>[]
 | v::vs=>(k,v)::Uw (k+1) vs
theorem lk_args:∀ (vs:List V) (k i:Nat) (v:V),lk (Uw k vs) i=some v→∃ j,i=k+j∧vs[j]?=some v
 | [],_,_,_,e=>nomatch e
 | w::vs,k,i,v,e=>by
  unfold Uw lk at e
  cases hb:Nat.beq i k with
  | true=>rw[hb] at e;cases e;exact⟨0,Nat.eq_of_beq_eq_true hb,rfl⟩
  | false=>rw[hb] at e;refine jo (lk_args vs (k+1) i v e) fun j h1 h2=>?_;exact⟨j+1,by exact qa (jq jr jc (qA ja jD) jc (qA jA jd) qt (qe h1)) (jq jr (qA jc jA) jd (qA jg ja) jd qt (qi h1)),h2⟩
theorem ag_args (vs:List V):Ag (Uw 0 vs) (KR vs):=fun i v e=>by
 refine jo (lk_args vs 0 i v e) fun j h1 h2=>?_
 rw[h1,Nat.zero_add];exact h2
def AllIn (a L:Env):Prop:=a.map (fun p=>lk L p.1)=a.map fun p=>some p.2
theorem AllIn.ag {L:Env}{ρ:jz}(a:Ag L ρ):∀ {L':Env},AllIn L' L→Ag L' ρ
 | [],_=>fun J J e=>nomatch e
 | (j,w)::r,h=>fun i v e=>by
  unfold lk at e
  cases hb:Nat.beq i j with
  | true=>rw[hb] at e;cases e;rw[Nat.eq_of_beq_eq_true hb];exact a j _ (List.cons.inj h).1
  | false=>rw[hb] at e;exact AllIn.ag a (List.cons.inj h).2 i v e
noncomputable def km:List Prop→Prop
 | []=>True
 | p::r=>p∧km r
theorem allP_app {a b:List Prop}(h:km (a++b)):km a∧km b:=by
 induction a with
 | nil=>exact⟨trivial,h⟩
 | cons p a ih=>exact⟨⟨h.1,(ih h.2).1⟩,(ih h.2).2⟩
noncomputable abbrev M (α:Type):=List V→Option (α×List Prop×List V)
section
variable {α β:Type}
noncomputable def M.ret (a:α):M α:=fun g=>some (a,[],g)
noncomputable def M.fail:M α:=fun J=>none
noncomputable def M.of (o:Option α):M α:=fun g=>match o with
 | some a=>some (a,[],g)
 | none=>none
noncomputable def M.need (p:Prop)(a:α):M α:=fun g=>some (a,[p],g)
noncomputable def next2 (c:List Prop):Option (β×List Prop×List V)→Option (β×List Prop×List V)
 | some (b,c',g)=>some (b,c++c',g)
 | none=>none
noncomputable def M.bind (m:M α)(f:α→M β):M β:=fun g=>match m g with
 | some (a,c,g)=>next2 c (f a g)
 | none=>none
noncomputable def M.ask (k:V→M α):M α:=fun g=>match g with
 | v::r=>k v r
 | []=>none
noncomputable def evI (v:V)(k:Int→M α):M α:=match v with
 | .int i=>k i
 | _=>M.fail
noncomputable def evS (v:V)(k:List Nat→M α):M α:=match v with
 | .str i=>k i
 | _=>M.fail
noncomputable def evB (v:V)(k:Bool→M α):M α:=match v with
 | .bool i=>k i
 | _=>M.fail
def Snd (m:M α)(W:(α→Prop)→Prop):Prop:=∀ g a c g',m g=some (a,c,g')→km c→∀ K:α→Prop,K a→W K
theorem Snd.fail {W:(α→Prop)→Prop}:Snd (M.fail:M α) W:=fun J J J J e=>nomatch e
theorem Snd.ret {a:α}{W:(α→Prop)→Prop}(h:∀ K:α→Prop,K a→W K):Snd (M.ret a) W:=fun g b c g' e J K q=>by cases e;exact h K q
theorem Snd.need {p:Prop}{a:α}{W:(α→Prop)→Prop}(h:p→∀ K:α→Prop,K a→W K):Snd (M.need p a) W:=fun g b c g' e hc K q=>by cases e;exact h hc.1 K q
theorem Snd.of {o:Option α}{W:(α→Prop)→Prop}(h:∀ a,o=some a→∀ K:α→Prop,K a→W K):Snd (M.of o) W:=by
 cases o with
 | none=>exact fun J J J J e=>nomatch e
 | some x=>exact fun g b c g' e J K q=>by cases e;exact h _ rfl K q
theorem Snd.bind {m:M α}{f:α→M β}{W1:(α→Prop)→Prop}{W2:α→(β→Prop)→Prop}(h1:Snd m W1)(h2:∀ a,Snd (f a) (W2 a)):Snd (M.bind m f) (fun K=>W1 fun a=>W2 a K):=fun g b c g' e hc K q=>by
 unfold M.bind at e
 cases hm:m g with
 | none=>rw[hm] at e;cases e
 | some x =>
  obtain⟨a,c1,g1⟩:=x
  rw[hm] at e
  cases hf:f a g1 with
  | none=>simp only[hf] at e;cases e
  | some y =>
   obtain⟨b',c2,g2⟩:=y
   simp only[hf] at e
   cases e
   obtain⟨p1,p2⟩:=allP_app hc
   exact h1 _ _ _ _ hm p1 _ (h2 a _ _ _ _ hf p2 K q)
theorem Snd.ask {k:V→M α}{W:(α→Prop)→Prop}(h:∀ v,Snd (k v) W):Snd (M.ask k) W:=fun g b c g' e hc K q=>by
 cases g with
 | nil=>cases e
 | cons v r=>exact h v _ _ _ _ e hc K q
theorem Snd.evI {v:V}{k:Int→M α}{W:(α→Prop)→Prop}(h:∀ i,v=.int i→Snd (k i) W):Snd (Tw.evI v k) W:=by
 cases v with
 | int i=>exact h i rfl
 | _=>exact Snd.fail
theorem Snd.evS {v:V}{k:List Nat→M α}{W:(α→Prop)→Prop}(h:∀ i,v=.str i→Snd (k i) W):Snd (Tw.evS v k) W:=by
 cases v with
 | str i=>exact h i rfl
 | _=>exact Snd.fail
theorem Snd.evB {v:V}{k:Bool→M α}{W:(α→Prop)→Prop}(h:∀ i,v=.bool i→Snd (k i) W):Snd (Tw.evB v k) W:=by
 cases v with
 | bool i=>exact h i rfl
 | _=>exact Snd.fail
theorem Snd.mono {m:M α}{W W':(α→Prop)→Prop}(x:Snd m W)(h:∀ K,W K→W' K):Snd m W':=fun g a c g' e hc K q=>h K (x g a c g' e hc K q)
end
def WF (h:H)(a i v:V):Prop:=∀ R:V→Prop,R v→SubW a i h R
def LnW (h:H)(a v:V):Prop:=∀ Q:V→H→Prop,Q v h→BiW .len [a] h Q
def SlW (h:H)(a i j v:V):Prop:=∀ Q:V→H→Prop,Q v h→SliceW a i j h Q
def CmW (h:H)(op:Cmp)(a b:V)(r:Bool):Prop:=∀ P:Bool→Prop,P r→CmpW op a b h P
noncomputable def nthV:List V→Nat→Option V
 | [],_=>none
 | v::r,k=>match k with
  | 0=>some v
  | k+1=>nthV r k
theorem YJ:∀ (l:List V) (k:Nat),nthV l k=l[k]?
 | [],k=>by simp [nthV]
 | v::r,0=>rfl
 | v::r,k+1=>by rw[nthV,YJ r k];simp
noncomputable def yA:V→Bool
 | .none=>true
 | _=>false
theorem KL (v:V):decide (v=.none)=yA v:=by
 cases v with
 | none=>exact decide_eq_true rfl
 | _=>exact decide_eq_false (fun x=>nomatch x)
noncomputable def mBin (op:Bop)(a b:V):M V :=
 match op with
 | .add=>match a with
  | .str a=>evS b fun b=>M.need (a.length+b.length≤SZ) (.str (a++b))
  | a=>evI a fun a=>evI b fun b=>M.ret (.int (a+b))
 | .sub=>evI a fun a=>evI b fun b=>M.ret (.int (a - b))
 | .mul=>evI a fun a=>evI b fun b=>M.need (jab a b) (.int (a * b))
 | .fdiv=>evI a fun a=>evI b fun b=>M.need (b≠0∧b.natAbs<1073741824) (.int (a.fdiv b))
 | .mod=>evI a fun a=>evI b fun b=>M.need (b≠0) (.int (a.fmod b))
noncomputable def mSub (h:H)(a i:V):M V :=
 match a with
 | .tup vs=>evI i fun k=>match k with
  | .ofNat k=>match Nat.ble k 1000 with
   | true=>M.of (nthV vs k)
   | false=>M.fail
  | _=>M.fail
 | a=>M.ask fun v=>M.need (WF h a i v) v
noncomputable def mEq (h:H)(op:Cmp)(f:Bool→Bool)(a b:V):M Bool:=match a with
 | .int a=>evI b fun b=>M.ret (f (decide (a=b)))
 | .str a=>evS b fun b=>M.ret (f (decide (a=b)))
 | .bool a=>evB b fun b=>M.ret (f (decide (a=b)))
 | a=>M.ask fun r=>evB r fun r=>M.need (CmW h op a b r) r
noncomputable def Zl (h:H)(op:Cmp)(a b:V):M Bool :=
 match op with
 | .eq=>mEq h .eq (fun r=>r) a b
 | .ne=>mEq h .ne (fun r=>!r) a b
 | .lt=>evI a fun a=>evI b fun b=>M.ret (decide (a<b))
 | .le=>evI a fun a=>evI b fun b=>M.ret (decide (a≤b))
 | .gt=>evI a fun a=>evI b fun b=>M.ret (decide (b<a))
 | .ge=>evI a fun a=>evI b fun b=>M.ret (decide (b≤a))
 | .is=>match b with
  | .none=>M.ret (yA a)
  | _=>M.fail
 | .isNot=>match b with
  | .none=>M.ret (!yA a)
  | _=>M.fail
 | op=>M.ask fun r=>evB r fun r=>M.need (CmW h op a b r) r
noncomputable def mLen (h:H)(v:V):M V:=match v with
 | .str s=>M.ret (.int s.length)
 | .tup vs=>M.ret (.int vs.length)
 | v=>M.ask fun n=>M.need (LnW h v n) n
noncomputable def mIs (v:V)(t:Ty):M Bool:=match v with
 | .none=>M.ret false
 | .int _=>M.ret (Wu t .int)
 | .str _=>M.ret (Wu t .str)
 | .tup _=>M.ret (Wu t .tuple)
 | _=>M.fail
noncomputable def guard (b:Bool):List Prop→List Prop
 | []=>[]
 | c=>[b=true→km c]
theorem guard_ok {b:Bool}{c:List Prop}(h:km (guard b c))(hb:b=true):km c:=by
 cases c with
 | nil=>trivial
 | cons p r=>exact h.1 hb
noncomputable def lazy2 (x:Bool)(f:Bool→Bool)(c:List Prop):Option (Bool×List Prop×List V)→Option (Bool×List Prop×List V)
 | some (y,c',g)=>some (f y,c++guard x c',g)
 | none=>none
noncomputable def M.lazy (x:Bool)(f:Bool→Bool)(m:M Bool):M Bool:=fun g=>lazy2 x f [] (m g)
theorem Snd.lazy {x:Bool}{f:Bool→Bool}{m:M Bool}{W W':(Bool→Prop)→Prop}(h:Snd m W)(h1:x=true→∀ K,W (fun y=>K (f y))→W' K)(h2:x=false→∀ y K,K (f y)→W' K):Snd (M.lazy x f m) W':=fun g a c g' e hc K q=>by
 unfold M.lazy at e
 cases hm:m g with
 | none=>rw[hm] at e;cases e
 | some z =>
  obtain⟨y,c1,g1⟩:=z
  rw[hm] at e
  cases e
  cases hx:x with
  | true=>exact h1 hx K (h _ _ _ _ hm (guard_ok hc hx) (fun y=>K (f y)) q)
  | false=>exact h2 hx y K q
noncomputable def mOne (vs:List V)(k:V→M V):M V:=match vs with
 | [v]=>k v
 | _=>M.fail
theorem Snd.one {vs:List V}{k:V→M V}{W:(V→Prop)→Prop}(h:∀ v,vs=[v]→Snd (k v) W):Snd (mOne vs k) W:=by
 match vs,h with
 | [],_=>exact Snd.fail
 | [v],h=>exact h v rfl
 | _::_::_,_=>exact Snd.fail
mutual
noncomputable def ev (L:Env)(h:H):E→M V
 | .lit v=>M.ret v
 | .var i=>M.of (lk L i)
 | .bin op a b=>(ev L h a).bind fun x=>(ev L h b).bind fun y=>mBin op x y
 | .neg a=>(ev L h a).bind fun x=>evI x fun i=>M.ret (.int (-i))
 | .sub a i=>(ev L h a).bind fun x=>(ev L h i).bind fun y=>mSub h x y
 | .tup es=>(evs L h es).bind fun vs=>M.ret (.tup vs)
 | .bi b as=>match b with
  | .len=>(evs L h as).bind fun vs=>mOne vs (mLen h)
  | .range=>(evs L h as).bind fun vs=>mOne vs fun v=>evI v fun b=>M.need (jH b) (.rng 0 b 1)
  | .int=>(evs L h as).bind fun vs=>mOne vs fun v=>evB v fun b=>M.ret (.int (if b then 1 else 0))
  | _=>M.fail
 | .slice a lo hi=>(ev L h a).bind fun x=>(ev L h lo).bind fun y=>(ev L h hi).bind fun z=>M.ask fun w=>M.need (SlW h x y z w) w
 | .not a=>(ev L h a).bind fun x=>evB x fun x=>M.ret (.bool (!x))
 | .cmp op a b=>(ev L h a).bind fun x=>(ev L h b).bind fun y=>(Zl h op x y).bind fun r=>M.ret (.bool r)
 | .isinst a t=>(ev L h a).bind fun x=>(mIs x t).bind fun r=>M.ret (.bool r)
 | .and a b=>(ev L h a).bind fun x=>evB x fun x=>(M.lazy x (fun y=>x && y) ((ev L h b).bind fun y=>evB y M.ret)).bind fun r=>M.ret (.bool r)
 | .cmp2 o1 o2 a b c=>(ev L h a).bind fun x=>(ev L h b).bind fun y=>(Zl h o1 x y).bind fun r=>(M.lazy r (fun z=>r && z) ((ev L h c).bind fun z=>Zl h o2 y z)).bind fun r=>M.ret (.bool r)
 | _=>M.fail
noncomputable def evs (L:Env)(h:H):List E→M (List V)
 | []=>M.ret []
 | e::es=>(ev L h e).bind fun v=>(evs L h es).bind fun vs=>M.ret (v::vs)
end
noncomputable def evT (L:Env)(h:H):E→M Bool
 | .not a=>(evT L h a).bind fun x=>M.ret (!x)
 | .and a b=>(evT L h a).bind fun x=>M.lazy x (fun y=>x && y) (evT L h b)
 | .or a b=>(evT L h a).bind fun x=>M.lazy (!x) (fun y=>x || y) (evT L h b)
 | .cmp op a b=>(ev L h a).bind fun x=>(ev L h b).bind fun y=>Zl h op x y
 | .cmp2 o1 o2 a b c=>(ev L h a).bind fun x=>(ev L h b).bind fun y=>(Zl h o1 x y).bind fun r=>M.lazy r (fun z=>r && z) ((ev L h c).bind fun z=>Zl h o2 y z)
 | .lit v=>evB v fun b=>M.ret b
 | .var i=>(M.of (lk L i)).bind fun v=>match yA v with
  | true=>M.ret false
  | false=>evB v fun b=>M.ret b
 | .isinst a t=>(ev L h a).bind fun x=>mIs x t
 | _=>M.fail
section
variable {C:kO}{ρ:jz}{h:H}
def WE (C:kO)(ρ:jz)(h:H)(e:E)(K:V→Prop):Prop:=∀ Q:V→H→Prop,(∀ v,K v→Q v h)→jW C e ρ h Q
def WEs (C:kO)(ρ:jz)(h:H)(e:List E)(K:List V→Prop):Prop:=∀ Q:List V→H→Prop,(∀ v,K v→Q v h)→wpEs C e ρ h Q
def WT (C:kO)(ρ:jz)(h:H)(e:E)(K:Bool→Prop):Prop:=∀ Q:Bool→H→Prop,(∀ v,K v→Q v h)→wpT C e ρ h Q
theorem mBin_ok (op:Bop)(a b:V):Snd (mBin op a b) (fun K=>∀ Q:V→H→Prop,(∀ v,K v→Q v h)→BinW op a b h Q):=by
 cases op with
 | add =>
  cases a with
  | str a=>exact .evS fun b e=>.need fun p K k Q q=>by subst e;exact⟨p,q _ k⟩
  | int a=>exact Snd.evI (v:=b) fun b e'=>.ret fun K k Q q=>by subst e';exact q _ k
  | _=>exact Snd.fail
 | sub=>exact .evI fun a e=>.evI fun b e'=>.ret fun K k Q q=>by subst e;subst e';exact q _ k
 | mul=>exact .evI fun a e=>.evI fun b e'=>.need fun p K k Q q=>by subst e;subst e';exact⟨p,q _ k⟩
 | fdiv=>exact .evI fun a e=>.evI fun b e'=>.need fun p K k Q q=>by subst e;subst e';exact⟨p.1,p.2,q _ k⟩
 | mod=>exact .evI fun a e=>.evI fun b e'=>.need fun p K k Q q=>by subst e;subst e';exact⟨p,q _ k⟩
theorem mSub_ok (a i:V):Snd (mSub h a i) (fun K=>∀ R:V→Prop,(∀ v,K v→R v)→SubW a i h R):=by
 have gen:Snd (M.ask fun v=>M.need (WF h a i v) v) (fun K=>∀ R:V→Prop,(∀ v,K v→R v)→SubW a i h R):=.ask fun v=>.need fun p K k R q=>p R (q v k)
 cases a with
 | tup vs =>
  refine .evI fun k e=>?_
  subst e
  cases k with
  | negSucc=>exact Snd.fail
  | ofNat k =>
   show Snd (match Nat.ble k 1000 with | true=>M.of (nthV vs k) | false=>M.fail) _
   cases hb:Nat.ble k 1000 with
   | false=>exact Snd.fail
   | true =>
    have hk:=Nat.le_of_ble_eq_true hb
    exact .of fun v hv K kv R q=>⟨v,⟨Int.natCast_nonneg k,by show(k:Int)<4611686018427387904;exact oq106 hk⟩,(YJ vs k).symm.trans hv,q v kv⟩
 | _=>exact gen
theorem mEq_ok (op:Cmp)(f:Bool→Bool)(a b:V)(hf:∀ P:Bool→Prop,EqW a b h (fun r=>P (f r))→CmpW op a b h P):Snd (mEq h op f a b) (fun K=>∀ P:Bool→Prop,(∀ v,K v→P v)→CmpW op a b h P):=by
 have gen:Snd (M.ask fun r=>Tw.evB r fun r=>M.need (CmW h op a b r) r) (fun K=>∀ P:Bool→Prop,(∀ v,K v→P v)→CmpW op a b h P):=.ask fun v=>.evB fun r e=>.need fun p K k P q=>p P (q r k)
 cases a with
 | int a=>exact .evI fun b e=>.ret fun K k P q=>by subst e;exact hf P (by rw[←x_eq,jae];exact q _ k)
 | str a=>exact .evS fun b e=>.ret fun K k P q=>by subst e;exact hf P (by rw[←x_eq,x_eqs];exact q _ k)
 | bool a=>exact .evB fun b e=>.ret fun K k P q=>by subst e;exact hf P (q _ k)
 | _=>exact gen
theorem zg (op:Cmp)(a b:V):Snd (Zl h op a b) (fun K=>∀ P:Bool→Prop,(∀ v,K v→P v)→CmpW op a b h P):=by
 have gen:Snd (M.ask fun r=>Tw.evB r fun r=>M.need (CmW h op a b r) r) (fun K=>∀ P:Bool→Prop,(∀ v,K v→P v)→CmpW op a b h P):=.ask fun v=>.evB fun r e=>.need fun p K k P q=>p P (q r k)
 cases op with
 | eq=>exact mEq_ok .eq (fun r=>r) a b fun P x=>x
 | ne=>exact mEq_ok .ne (fun r=>!r) a b fun P x=>x
 | lt=>exact .evI fun a e=>.evI fun b e'=>.ret fun K k Q q=>by subst e;subst e';exact q _ k
 | le=>exact .evI fun a e=>.evI fun b e'=>.ret fun K k Q q=>by subst e;subst e';exact q _ k
 | gt=>exact .evI fun a e=>.evI fun b e'=>.ret fun K k Q q=>by subst e;subst e';exact q _ k
 | ge=>exact .evI fun a e=>.evI fun b e'=>.ret fun K k Q q=>by subst e;subst e';exact q _ k
 | is =>
  cases b with
  | none=>exact .ret fun K k P q=>by rw[x_isn,KL];exact q _ k
  | _=>exact Snd.fail
 | isNot =>
  cases b with
  | none=>exact .ret fun K k P q=>by rw[x_isnn,KL];exact q _ k
  | _=>exact Snd.fail
 | isIn=>exact gen
 | notIn=>exact gen
theorem mLen_ok (v:V):Snd (mLen h v) (fun K=>∀ Q:V→H→Prop,(∀ v,K v→Q v h)→BiW .len [v] h Q):=by
 have gen:Snd (M.ask fun n=>M.need (LnW h v n) n) (fun K=>∀ Q:V→H→Prop,(∀ v,K v→Q v h)→BiW .len [v] h Q):=.ask fun n=>.need fun p K k Q q=>p Q (q n k)
 cases v with
 | str s=>exact .ret fun K k Q q=>q _ k
 | tup s=>exact .ret fun K k Q q=>q _ k
 | _=>exact gen
theorem mIs_ok (v:V)(t:Ty):Snd (mIs v t) (fun K=>∀ P:Bool→Prop,(∀ v,K v→P v)→IsW v t h P):=by
 cases v with
 | bool=>exact Snd.fail
 | rng=>exact Snd.fail
 | ref=>exact Snd.fail
 | _=>exact .ret fun K k Q q=>q _ k
variable {L:Env}(ag:Ag L ρ)
include ag
mutual
theorem jT:∀ (e:E),Snd (ev L h e) (WE C ρ h e)
 | .lit v=>.ret fun K k Q q=>q _ k
 | .var i=>.of fun v e K k Q q=>by rw[wh,ag i v e];exact q v k
 | .bin op a b=>.mono (.bind (jT a) fun x=>.bind (jT b) fun y=>mBin_ok op x y) fun K w Q q=>w _ fun x w=>w _ fun y w=>w Q q
 | .neg a=>.mono (.bind (W2:=fun x K=>∀ Q:V→H→Prop,(∀ v,K v→Q v h)→asInt x fun i=>Q (.int (-i)) h) (jT a) fun x=>.evI fun i e=>.ret fun K k Q q=>by subst e;exact q _ k) fun K w Q q=>w _ fun x w=>w Q q
 | .sub a b=>.mono (.bind (jT a) fun x=>.bind (jT b) fun y=>mSub_ok x y) fun K w Q q=>w _ fun x w=>w _ fun y w=>w _ q
 | .tup es=>.mono (.bind (W2:=fun vs K=>K (.tup vs)) (evs_snd es) fun vs=>.ret fun K k=>k) fun K w Q q=>w _ fun vs k=>q _ k
 | .bi b as=>by
  cases b with
  | len =>
   exact .mono (.bind (W2:=fun vs K=>∀ Q:V→H→Prop,(∀ v,K v→Q v h)→BiW .len vs h Q) (evs_snd as) fun vs=>.one fun v e=>by subst e;exact mLen_ok v) fun K w Q q=>w _ fun vs w=>w Q q
  | range =>
   exact .mono (.bind (W2:=fun vs K=>∀ Q:V→H→Prop,(∀ v,K v→Q v h)→BiW .range vs h Q) (evs_snd as) fun vs=>.one fun v e=>.evI fun b e'=>.need fun p K k Q q=>by subst e;subst e';exact⟨p,q _ k⟩) fun K w Q q=>w _ fun vs w=>w Q q
  | int =>
   exact .mono (.bind (W2:=fun vs K=>∀ Q:V→H→Prop,(∀ v,K v→Q v h)→BiW .int vs h Q) (evs_snd as) fun vs=>.one fun v e=>.evB fun b e'=>.ret fun K k Q q=>by subst e;subst e';exact q _ k) fun K w Q q=>w _ fun vs w=>w Q q
  | _=>exact Snd.fail
 | .not a=>.mono (.bind (W2:=fun x K=>∀ Q:V→H→Prop,(∀ v,K v→Q v h)→truth x h fun b=>Q (.bool (!b)) h) (jT a) fun x=>.evB fun i e=>.ret fun K k Q q=>by subst e;exact q _ k) fun K w Q q=>w _ fun x w=>w Q q
 | .cmp op a b=>.mono (.bind (jT a) fun x=>.bind (jT b) fun y=>.bind (W2:=fun r K=>K (.bool r)) (zg op x y) fun r=>.ret fun K k=>k) fun K w Q q=>w _ fun x w=>w _ fun y w=>w _ fun r k=>q _ k
 | .isinst a t=>.mono (.bind (jT a) fun x=>.bind (W2:=fun r K=>K (.bool r)) (mIs_ok x t) fun r=>.ret fun K k=>k) fun K w Q q=>w _ fun x w=>w _ fun r k=>q _ k
 | .and a b=>.mono (.bind (W2:=fun x K=>∀ Q:V→H→Prop,(∀ v,K v→Q v h)→truth x h fun t=>match t with | true=>jW C b ρ h Q | false=>Q x h) (jT a) fun x=>.evB fun i e=>by
   subst e
   refine .mono (.bind (W2:=fun r K=>K (.bool r)) (.lazy (W:=fun K=>∀ Q:V→H→Prop,(∀ r,K r→Q (.bool r) h)→jW C b ρ h Q) (W':=fun K=>∀ Q:V→H→Prop,(∀ r,K r→Q (.bool r) h)→match i with | true=>jW C b ρ h Q | false=>Q (.bool false) h) (.mono (.bind (W2:=fun y K=>∀ Q:V→H→Prop,(∀ r,K r→Q (.bool r) h)→Q y h) (jT b) fun y=>.evB fun j e=>.ret fun K k Q q=>by subst e;exact q _ k) fun K w Q q=>w _ fun y w=>w Q q) (fun e K w Q q=>by subst e;exact w Q fun r k=>q _ k) fun e y K k Q q=>by subst e;exact q _ k) fun r=>.ret fun K k=>k) fun K w Q q=>?_
   cases i with
   | true=>exact w Q fun r k=>q _ k
   | false=>exact w Q fun r k=>q _ k) fun K w Q q=>w _ fun x w=>w Q q
 | .cmp2 o1 o2 a b c=>.mono (.bind (jT a) fun x=>.bind (jT b) fun y=>.bind (W2:=fun r K=>∀ Q:V→H→Prop,(∀ v,K v→Q v h)→match r with | true=>jW C c ρ h fun vc h₃=>CmpW o2 y vc h₃ fun r=>Q (.bool r) h₃ | false=>Q (.bool false) h) (zg o1 x y) fun r=>.mono (.bind (W2:=fun r K=>K (.bool r)) (.lazy (W:=fun K=>∀ Q:V→H→Prop,(∀ r,K r→Q (.bool r) h)→jW C c ρ h fun vc h₃=>CmpW o2 y vc h₃ fun r=>Q (.bool r) h₃) (W':=fun K=>∀ Q:V→H→Prop,(∀ r,K r→Q (.bool r) h)→match r with | true=>jW C c ρ h fun vc h₃=>CmpW o2 y vc h₃ fun r=>Q (.bool r) h₃ | false=>Q (.bool false) h) (.mono (.bind (jT c) fun z=>zg o2 y z) fun K w Q q=>w _ fun z w=>w _ q) (fun e K w Q q=>by subst e;exact w Q fun v k=>q _ k) fun e y K k Q q=>by subst e;exact q _ k) fun r=>.ret fun K k=>k) fun K w Q q=>w Q fun r k=>q _ k) fun K w Q q=>w _ fun x w=>w _ fun y w=>w _ fun r w=>w Q q
 | .or ..=>Snd.fail
 | .slice a lo hi=>.mono (.bind (jT a) fun x=>.bind (jT lo) fun y=>.bind (W2:=fun z K=>∀ Q:V→H→Prop,(∀ v,K v→Q v h)→SliceW x y z h Q) (jT hi) fun z=>.ask fun w=>.need fun p K k Q q=>p Q (q w k)) fun K w Q q=>w _ fun x w=>w _ fun y w=>w _ fun z w=>w Q q
 | .list ..=>Snd.fail
 | .dict0=>Snd.fail
 | .dict1 ..=>Snd.fail
 | .comp ..=>Snd.fail
 | .call ..=>Snd.fail
 | .meth ..=>Snd.fail
theorem evs_snd:∀ (es:List E),Snd (evs L h es) (WEs C ρ h es)
 | []=>.ret fun K k Q q=>q _ k
 | e::es=>.mono (.bind (jT e) fun v=>.bind (W2:=fun vs K=>K (v::vs)) (evs_snd es) fun vs=>.ret fun K k=>k) fun K w Q q=>w _ fun v w=>w _ fun vs k=>q _ k
end
theorem wA:∀ (e:E),Snd (evT L h e) (WT C ρ h e)
 | .not a=>.mono (.bind (W2:=fun x K=>K (!x)) (wA a) fun x=>.ret fun K k=>k) fun K w Q q=>w _ fun x k=>q _ k
 | .and a b=>.mono (.bind (W2:=fun x K=>∀ Q:Bool→H→Prop,(∀ v,K v→Q v h)→match x with | true=>wpT C b ρ h Q | false=>Q false h) (wA a) fun x=>.lazy (wA b) (fun e K w Q q=>by subst e;exact w Q fun v k=>q _ k) fun e y K k Q q=>by subst e;exact q _ k) fun K w Q q=>w _ fun x w=>w Q q
 | .or a b=>.mono (.bind (W2:=fun x K=>∀ Q:Bool→H→Prop,(∀ v,K v→Q v h)→match x with | true=>Q true h | false=>wpT C b ρ h Q) (wA a) fun x=>by
   cases x with
   | true=>exact .lazy (wA b) (fun e=>nomatch e) fun e y K k Q q=>q _ k
   | false=>exact .lazy (wA b) (fun e K w Q q=>w Q fun v k=>q _ k) fun e=>nomatch e) fun K w Q q=>w _ fun x w=>w Q q
 | .cmp op a b=>.mono (.bind (jT ag a) fun x=>.bind (jT ag b) fun y=>zg op x y) fun K w Q q=>w _ fun x w=>w _ fun y w=>w _ q
 | .cmp2 o1 o2 a b c=>.mono (.bind (jT ag a) fun x=>.bind (jT ag b) fun y=>.bind (W2:=fun r K=>∀ Q:Bool→H→Prop,(∀ v,K v→Q v h)→match r with | true=>jW C c ρ h fun vc h₃=>CmpW o2 y vc h₃ fun r=>Q r h₃ | false=>Q false h) (zg o1 x y) fun r=>.lazy (W:=fun K=>∀ Q:Bool→H→Prop,(∀ v,K v→Q v h)→jW C c ρ h fun vc h₃=>CmpW o2 y vc h₃ fun r=>Q r h₃) (.mono (.bind (jT ag c) fun z=>zg o2 y z) fun K w Q q=>w _ fun z w=>w _ q) (fun e K w Q q=>by subst e;exact w Q fun v k=>q _ k) fun e y K k Q q=>by subst e;exact q _ k) fun K w Q q=>w _ fun x w=>w _ fun y w=>w _ fun r w=>w Q q
 | .lit v=>.evB fun i e=>.ret fun K k Q q=>by subst e;exact q _ k
 | .var i=>.mono (.bind (W1:=fun K=>∃ v,lk L i=some v∧K v) (W2:=fun v K=>∀ Q:Bool→H→Prop,(∀ v,K v→Q v h)→truth v h fun b=>Q b h) (.of fun v e K k=>⟨v,e,k⟩) fun v=>by
   cases v with
   | none=>exact .ret fun K k Q q=>q _ k
   | bool=>exact .ret fun K k Q q=>q _ k
   | _=>exact Snd.fail) fun K z Q q=>jo z fun v e w=>by rw[t_vk,ag i v e];exact w Q q
 | .isinst a t=>.mono (.bind (jT ag a) fun x=>mIs_ok x t) fun K w Q q=>w _ fun x w=>w _ q
 | .bin ..=>Snd.fail
 | .neg ..=>Snd.fail
 | .sub ..=>Snd.fail
 | .slice ..=>Snd.fail
 | .tup ..=>Snd.fail
 | .list ..=>Snd.fail
 | .dict0=>Snd.fail
 | .dict1 ..=>Snd.fail
 | .comp ..=>Snd.fail
 | .call ..=>Snd.fail
 | .bi ..=>Snd.fail
 | .meth ..=>Snd.fail
end
noncomputable def jK (n:Nat):V:=.int n
def AE (C:kO)(L:Env)(h:H)(e:E)(Q:V→H→Prop):Prop:=∀ ρ,Ag L ρ→jW C e ρ h Q
def AB (C:kO)(L:Env)(h:H)(r:List S)(Q:Out→jz→H→Prop):Prop:=∀ ρ,Ag L ρ→wpB C r ρ h Q
def JM (t:Tgt)(v:V)(L:Env)(K:Env→Prop):Prop:=match t with
 | .name i=>K ((i,v)::L)
 | .tup is=>asTup v fun vs=>is.length=vs.length∧K (pushs L is vs)
theorem yR {t:Tgt}{v:V}{L:Env}{K:Env→Prop}{ρ:jz}{Q:jz→Prop}(a:Ag L ρ)(x:JM t v L K)(q:∀ L' ρ',Ag L' ρ'→K L'→Q ρ'):bindT t v ρ Q:=by
 cases t with
 | name i=>exact q _ _ a.push x
 | tup is=>exact asTup.mono (fun vs y=>⟨y.1,q _ _ (Ag.pushs is vs a) y.2⟩) x
section
variable {C:kO}{L:Env}{h:H}{r:List S}{Q:Out→jz→H→Prop}{e:E}{g g':List V}{c:List Prop}{v:V}
theorem wS {vs:List V}(x:AB C (Uw 0 vs) h r Q):wpB C r (KR vs) h Q:=x _ (ag_args vs)
theorem jB {Q:V→H→Prop}(x:ev L h e g=some (v,c,g'))(hc:km c)(q:Q v h):AE C L h e Q:=fun ρ ag=>jT ag e g v c g' x hc (fun w=>w=v) rfl Q fun w e=>e▸q
theorem kY {i:Nat}(x:ev L h e g=some (v,c,g'))(hc:km c)(q:AB C ((i,v)::L) h r Q):AB C L h (.assign (.name i) e::r) Q:=fun ρ ag=>jB (C:=C) (Q:=fun w h₁=>bindT (.name i) w ρ fun ρ'=>wpB C r ρ' h₁ Q) x hc (q _ ag.push) ρ ag
theorem A_sets {is:List Nat}{vs:List V}(x:ev L h e g=some (.tup vs,c,g'))(hc:km c)(hl:is.length=vs.length)(q:AB C (pushs L is vs) h r Q):AB C L h (.assign (.tup is) e::r) Q:=fun ρ ag=>jB (C:=C) (Q:=fun w h₁=>bindT (.tup is) w ρ fun ρ'=>wpB C r ρ' h₁ Q) x hc ⟨hl,q _ (Ag.pushs is vs ag)⟩ ρ ag
theorem kA (x:ev L h e g=some (v,c,g'))(hc:km c)(q:∀ ρ,Q (.ret v) ρ h):AB C L h (.ret (some e)::r) Q:=fun ρ ag=>jB (C:=C) (Q:=fun w h₁=>Q (.ret w) ρ h₁) x hc (q ρ) ρ ag
theorem A_nil (q:∀ ρ,Ag L ρ→Q .next ρ h):AB C L h [] Q:=q
theorem jG (q:AB C L h r Q):AB C L h [] (Je C r Q):=q
theorem wi {t:E}{a b:List S}{x:Bool}(he:evT L h t g=some (x,c,g'))(hc:km c)(h1:x=true→AB C L h a (Je C r Q))(h2:x=false→AB C L h b (Je C r Q)):AB C L h (.ite t a b::r) Q:=fun ρ ag =>
 B_ite (wA ag t g x c g' he hc (fun y=>y=x) rfl _ fun y e=>by
  subst e
  cases y with
  | true=>exact h1 rfl ρ ag
  | false=>exact h2 rfl ρ ag)
theorem zt {i:Nat}(q:AB C ((i,.ref h.length)::L) (h++[.list []]) r Q):AB C L h (.assign (.name i) (.list [])::r) Q:=fun ρ ag=>q _ ag.push
theorem JT {i:Nat}(q:∀ ver,AB C ((i,.ref h.length)::L) (h++[.dict [] ver]) r Q):AB C L h (.assign (.name i) .dict0::r) Q:=fun ρ ag ver=>q ver _ ag.push
theorem Jl {i n:Nat}{vs:List V}(hi:lk L i=some (.ref n))(hn:h[n]?=some (.list vs))(hl:vs.length<SZ)(x:ev L h e g=some (v,c,g'))(hc:km c)(q:AB C L (h.set n (.list (vs++[v]))) r Q):AB C L h (.expr (.meth .append (.var i) [e])::r) Q:=fun ρ ag=>by
 refine zF ?_
 rw[zH,wh,ag i _ hi]
 refine⟨⟨vs,hn⟩,?_⟩
 rw[jJ]
 refine jB (C:=C) (Q:=fun v h₁=>wpEs C [] ρ h₁ fun vs h₂=>MethW .append (.ref n) (v::vs) h₂ fun J h₁=>wpB C r ρ h₁ Q) x hc ?_ ρ ag
 rw[kx,jac hn]
 exact⟨hl,q ρ ag⟩
theorem A_appE {o:E}{n:Nat}{vs:List V}{g₂ g₂':List V}{c₂:List Prop}(y:ev L h o g₂=some (.ref n,c₂,g₂'))(hc₂:km c₂)(hn:h[n]?=some (.list vs))(hl:vs.length<SZ)(x:ev L h e g=some (v,c,g'))(hc:km c)(q:AB C L (h.set n (.list (vs++[v]))) r Q):AB C L h (.expr (.meth .append o [e])::r) Q:=fun ρ ag=>by
 refine zF ?_
 rw[zH]
 refine jB (C:=C) (Q:=fun vo h₁=>yo .append vo h₁∧wpEs C [e] ρ h₁ fun vs h₂=>MethW .append vo vs h₂ fun J h₁=>wpB C r ρ h₁ Q) y hc₂ ⟨⟨vs,hn⟩,?_⟩ ρ ag
 rw[jJ]
 refine jB (C:=C) (Q:=fun v h₁=>wpEs C [] ρ h₁ fun vs h₂=>MethW .append (.ref n) (v::vs) h₂ fun J h₁=>wpB C r ρ h₁ Q) x hc ?_ ρ ag
 rw[kx,jac hn]
 exact⟨hl,q ρ ag⟩
theorem jC {f:Nat}{as:List E}{vs:List V}{Q:V→H→Prop}(x:evs L h as g=some (vs,c,g'))(hc:km c)(q:C f vs h Q):AE C L h (.call f as) Q:=fun ρ ag=>evs_snd ag as g vs c g' x hc (fun w=>w=vs) rfl _ fun w e=>by rw[e];exact q
variable (hC:jY C)
include hC
theorem jL {i:Nat}(x:AE C L h e fun v h₁=>AB C ((i,v)::L) h₁ r Q):AB C L h (.assign (.name i) e::r) Q:=fun ρ ag=>jh hC e (fun v h₁ y=>y _ ag.push) (x ρ ag)
theorem A_tup {is:List Nat}(x:AE C L h e fun v h₁=>∃ vs,v=.tup vs∧is.length=vs.length∧AB C (pushs L is vs) h₁ r Q):AB C L h (.assign (.tup is) e::r) Q:=fun ρ ag=>jh hC e (fun v h₁ z=>kL z fun vs e hl y=>by rw[e];exact⟨hl,y _ (Ag.pushs is vs ag)⟩) (x ρ ag)
theorem UL {i f:Nat}{as:List E}{vs:List V}(x:evs L h as g=some (vs,c,g'))(hc:km c)(q:C f vs h fun v h₁=>AB C ((i,v)::L) h₁ r Q):AB C L h (.assign (.name i) (.call f as)::r) Q:=jL hC (jC x hc q)
theorem Wi {is:List Nat}{f:Nat}{as:List E}{vs:List V}(x:evs L h as g=some (vs,c,g'))(hc:km c)(q:C f vs h fun v h₁=>∃ vs,v=.tup vs∧is.length=vs.length∧AB C (pushs L is vs) h₁ r Q):AB C L h (.assign (.tup is) (.call f as)::r) Q:=A_tup hC (jC x hc q)
theorem WB {f:Nat}{as:List E}{vs:List V}(x:evs L h as g=some (vs,c,g'))(hc:km c)(q:C f vs h fun v h₁=>AB C L h₁ r Q):AB C L h (.expr (.call f as)::r) Q:=fun ρ ag=>zF (jh hC _ (fun v h₁ y=>y ρ ag) (jC (Q:=fun v h₁=>AB C L h₁ r Q) x hc q ρ ag))
theorem A_for {σ:Type}{t:Tgt}{b:List S}{it:Nat→It}{vs:List V}{K:H→Prop}(go:yq it vs K)(L₀:σ→Env)(I:Nat→σ→H→Prop)(s₀:σ)(hin:AllIn (L₀ s₀) L)(x:AE C L h e fun v h₁=>(∀ Q:It→Prop,Q (it 0)→IterW v h₁ Q)∧I 0 s₀ h₁)(hl:∀ i s h,I i s h→K h)
  (step:∀ i v s h,vs[i]?=some v→I i s h→JM t v (L₀ s) fun L'=>AB C L' h b fun o ρ' h'=>match o with | .next=>∃ s',Ag (L₀ s') ρ'∧I (i+1) s' h' | .ret w=>Q (.ret w) ρ' h') (fin:∀ s h,I vs.length s h→AB C (L₀ s) h r Q):AB C L h (.for t e b::r) Q:=fun ρ ag=>by
 refine YI hC go (fun i ρ' h'=>∃ s,Ag (L₀ s) ρ'∧I i s h') (jh hC e (fun v h₁ y=>⟨y.1,s₀,AllIn.ag ag hin,y.2⟩) (x ρ ag)) (fun i ρ' h' z=>jo z fun s J y=>hl i s h' y) ?_ fun ρ' h' z=>jo z fun s a y=>fin s h' y ρ' a
 intro i v ρ' h' hv zt63
 refine jo zt63 fun s a y=>?_
 exact yR a (step i v s h' hv y) fun L' ρ'' a' z=>z ρ'' a'
theorem ye {σ:Type}{t:Tgt}{b:List S}{it:Nat→It}{vs:List V}{K:H→Prop}(go:yq it vs K)(L₀:σ→Env)(I:Nat→σ→H→Prop)(s₀:σ)(hin:AllIn (L₀ s₀) L)(x:AE C L h e fun v h₁=>(∀ Q:It→Prop,Q (it 0)→IterW v h₁ Q)∧I 0 s₀ h₁)(hl:∀ i s h,I i s h→K h)
  (step:∀ i v s h (K':Out→jz→H→Prop),(∀ s' ρ' h',Ag (L₀ s') ρ'→I (i+1) s' h'→K' .next ρ' h')→(∀ w ρ' h',Q (.ret w) ρ' h'→K' (.ret w) ρ' h')→vs[i]?=some v→I i s h→JM t v (L₀ s) fun L'=>AB C L' h b K') (fin:∀ s h,I vs.length s h→AB C (L₀ s) h r Q):AB C L h (.for t e b::r) Q :=
 A_for hC go L₀ I s₀ hin x hl (fun i v s h hv hI=>step i v s h _ (fun s' ρ' h' a b=>⟨s',a,b⟩) (fun J J J h=>h) hv hI) fin
theorem A_while {σ:Type}{t:E}{b:List S}(L₀:σ→Env)(I:Nat→σ→H→Prop)(n:Nat)(s₀:σ)(hin:AllIn (L₀ s₀) L)(h0:I n s₀ h)
  (step:∀ n s h,I n s h→∀ ρ,Ag (L₀ s) ρ→wpT C t ρ h fun c h₁=>match c with
   | true=>AB C (L₀ s) h₁ b fun o ρ' h'=>match o with | .next=>∃ m s',m<n∧Ag (L₀ s') ρ'∧I m s' h' | .ret w=>Q (.ret w) ρ' h'
   | false=>AB C (L₀ s) h₁ r Q):AB C L h (.while t b::r) Q:=fun ρ ag=>by
 refine B_while hC (fun n ρ' h'=>∃ s,Ag (L₀ s) ρ'∧I n s h') n ⟨s₀,AllIn.ag ag hin,h0⟩ ?_
 intro n ρ' h' zu64
 refine jo zu64 fun s a y=>?_
 refine wpT_mono hC t (fun c h₁ z=>?_) (step n s h' y ρ' a)
 cases c with
 | true =>
  refine wpB_mono hC b (fun o ρ'' h'' w=>?_) (z ρ' a)
  cases o with
  | next=>refine wZ w fun m s' hm a' w=>?_;exact⟨m,hm,s',a',w⟩
  | ret=>exact w
 | false=>exact z ρ' a
omit hC in
theorem kz {σ:Type}{L₀:σ→Env}{P:σ→H→Prop}{K:Out→jz→H→Prop}(kN:∀ s' ρ' h',Ag (L₀ s') ρ'→P s' h'→K .next ρ' h')(s:σ)(hin:AllIn (L₀ s) L)(x:P s h):AB C L h [] K:=fun ρ ag=>kN s ρ h (AllIn.ag ag hin) x
omit hC in
theorem A_next {σ:Type}{L₀:σ→Env}{P:σ→H→Prop}{R:V→jz→H→Prop}(s:σ)(hin:AllIn (L₀ s) L)(x:P s h):AB C L h [] (fun o ρ' h'=>match o with | .next=>∃ s',Ag (L₀ s') ρ'∧P s' h' | .ret w=>R w ρ' h'):=fun ρ ag=>⟨s,AllIn.ag ag hin,x⟩
omit hC in
theorem yY {σ:Type}{L₀:σ→Env}{P:Nat→σ→H→Prop}{K:Out→jz→H→Prop}{n:Nat}(kN:∀ m s' ρ' h',m<n→Ag (L₀ s') ρ'→P m s' h'→K .next ρ' h')(m:Nat)(s:σ)(hm:m<n)(hin:AllIn (L₀ s) L)(x:P m s h):AB C L h [] K:=fun ρ ag=>kN m s ρ h hm (AllIn.ag ag hin) x
theorem Za {α:Type}{l:List α}{f:α→V}{ff:α→List V}{t:Tgt}{it:Nat→It}{K:H→Prop}{b:List S}{ld:Nat}{base:List V}{L₀:Env}(go:yq it (l.map f) K)(hin:AllIn L₀ L)(hL:h[ld]?=some (.list base))(he:ev L h e g=some (v,c,g'))(hc:km c)(hv:∀ Q:It→Prop,Q (it 0)→IterW v h Q)(hK:∀ out,K (h.set ld (.list out)))
  (step:∀ i a,l[i]?=some a→JM t (f a) L₀ fun L'=>∀ R:Out→jz→H→Prop,(∀ ρ,Ag L₀ ρ→R .next ρ (h.set ld (.list (base++(l.take i).flatMap ff++ff a))))→AB C L' (h.set ld (.list (base++(l.take i).flatMap ff))) b R)
  (fin:AB C L₀ (h.set ld (.list (base++l.flatMap ff))) r Q):AB C L h (.for t e b::r) Q:=by
 refine A_for hC go (fun _:Unit=>L₀) (fun i J h'=>h'=h.set ld (.list (base++(l.take i).flatMap ff))) () hin (jB he hc ⟨hv,by simp [Ym hL]⟩) (fun i J h' e=>by rw[e];exact hK _) ?_ fun J h' e=>by rw[e,List.length_map,List.take_length];exact fin
 rintro i v _ h' hv' rfl
 refine kL (wJ hv') fun a ha zt47 hil=>?_;subst zt47
 have et:base++(l.take (i+1)).flatMap ff=base++(l.take i).flatMap ff++ff a:=by rw[List.take_add_one,ha];simp
 rw[et]
 have st:=step i a ha
 cases t with
 | name j=>exact st _ fun ρ ag=>⟨(),ag,rfl⟩
 | tup is=>exact asTup.mono (fun vs y=>⟨y.1,y.2 _ fun ρ ag=>⟨(),ag,rfl⟩⟩) st
end
section
variable {C:kO}{L:Env}{h:H}{r:List S}{Q:Out→jz→H→Prop}{e:E}{g g':List V}{c:List Prop}{v:V}
theorem UQ {b:Bi}{as:List E}{vs:List V}{Q:V→H→Prop}(x:evs L h as g=some (vs,c,g'))(hc:km c)(q:BiW b vs h Q):AE C L h (.bi b as) Q:=fun ρ ag=>evs_snd ag as g vs c g' x hc (fun w=>w=vs) rfl _ fun w e=>by rw[e];exact q
theorem kK {op:Bop}{a b:E}{Q:V→H→Prop}(hC:jY C)(x:AE C L h a fun v h₁=>AE C L h₁ b fun w h₂=>BinW op v w h₂ Q):AE C L h (.bin op a b) Q:=fun ρ ag=>jh hC a (fun v h₁ y=>y ρ ag) (x ρ ag)
theorem A_list {i:Nat}{es:List E}{vs:List V}(x:evs L h es g=some (vs,c,g'))(hc:km c)(q:AB C ((i,.ref h.length)::L) (h++[.list vs]) r Q):AB C L h (.assign (.name i) (.list es)::r) Q:=fun ρ ag=>evs_snd ag es g vs c g' x hc (fun w=>w=vs) rfl _ fun w e=>by rw[e];exact q _ ag.push
theorem Kh {o n ver:Nat}{es:List (V×V)}{k:E}{vk:V}{g₂ g₂':List V}{c₂:List Prop}(ho:lk L o=some (.ref n))(hn:h[n]?=some (.dict es ver))(x:ev L h k g₂=some (vk,c₂,g₂'))(hc₂:km c₂)(y:ev L h e g=some (v,c,g'))(hc:km c)(hk:vk.isKey=true)(hl:es.length<SZ)(q:∀ ver,AB C L (h.set n (.dict (kB es vk v) ver)) r Q):AB C L h (.store (.var o) k e::r) Q:=fun ρ ag=>by
 refine Wo (jB (C:=C) (Q:=fun v h₁=>jW C (.var o) ρ h₁ fun vo h₂=>jW C k ρ h₂ fun vi h₃=>StoreW vo vi v h₃ fun h₄=>wpB C r ρ h₄ Q) y hc ?_ ρ ag)
 rw[wh,ag o _ ho]
 refine jB (C:=C) (Q:=fun vi h₃=>StoreW (.ref n) vi v h₃ fun h₄=>wpB C r ρ h₄ Q) x hc₂ ?_ ρ ag
 rw[x_std hn]
 exact⟨hk,hl,fun ver=>q ver ρ ag⟩
variable (hC:jY C)
include hC
theorem yp (x:AE C L h e fun v h₁=>∀ ρ,Q (.ret v) ρ h₁):AB C L h (.ret (some e)::r) Q:=fun ρ ag=>B_ret (jh hC e (fun v h₁ y=>y ρ) (x ρ ag))
theorem A_forE {t:Tgt}{b:List S}(x:AE C L h e fun v h₁=>AB C L h₁ (.for t (.lit v) b::r) Q):AB C L h (.for t e b::r) Q:=fun ρ ag=>jh hC e (fun v h₁ y=>y ρ ag) (x ρ ag)
theorem A_whileT {σ:Type}{t:E}{b:List S}(L₀:σ→Env)(I:Nat→σ→H→Prop)(n:Nat)(s₀:σ)(hin:AllIn (L₀ s₀) L)(h0:I n s₀ h)
  (step:∀ n s h,I n s h→∃ g x c g',evT (L₀ s) h t g=some (x,c,g')∧km c∧(x=true→AB C (L₀ s) h b fun o ρ' h'=>match o with | .next=>∃ m s',m<n∧Ag (L₀ s') ρ'∧I m s' h' | .ret w=>Q (.ret w) ρ' h')∧(x=false→AB C (L₀ s) h r Q)):AB C L h (.while t b::r) Q :=
 A_while hC L₀ I n s₀ hin h0 fun n s h hi ρ ag=>by
  refine Z43 (step n s h hi) fun g x c g' h1 h2 h3 h4=>?_
  refine wA ag t _ _ _ _ h1 h2 (fun y=>y=x) rfl _ fun y e=>?_
  subst e
  cases y with
  | true=>exact h3 rfl
  | false=>exact h4 rfl
theorem yQ {σ:Type}{t:E}{b:List S}(L₀:σ→Env)(I:Nat→σ→H→Prop)(n:Nat)(s₀:σ)(hin:AllIn (L₀ s₀) L)(h0:I n s₀ h)
  (step:∀ n s h (K':Out→jz→H→Prop),(∀ m s' ρ' h',m<n→Ag (L₀ s') ρ'→I m s' h'→K' .next ρ' h')→(∀ w ρ' h',Q (.ret w) ρ' h'→K' (.ret w) ρ' h')→I n s h→∃ g x c g',evT (L₀ s) h t g=some (x,c,g')∧km c∧(x=true→AB C (L₀ s) h b K')∧(x=false→AB C (L₀ s) h r Q)):AB C L h (.while t b::r) Q :=
 A_whileT hC L₀ I n s₀ hin h0 fun n s h hi=>step n s h _ (fun m s' ρ' h' a b c=>⟨m,s',a,b,c⟩) (fun J J J h=>h) hi
theorem Ww {elt:E}{tgt:Tgt}{cond:Option E}{Q:V→H→Prop}(x:AE C L h e fun v h₁=>AE C L h₁ (.comp elt tgt (.lit v) cond) Q):AE C L h (.comp elt tgt e cond) Q:=fun ρ ag=>jh hC e (fun v h₁ y=>y ρ ag) (x ρ ag)
theorem Ka {α:Type}{l:List α}{f:α→V}{w:α→V}{elt:E}{tgt:Tgt}{it:Nat→It}{K:H→Prop}{Q:V→H→Prop}(go:yq it (l.map f) K)(he:ev L h e g=some (v,c,g'))(hc:km c)(hv:∀ Q:It→Prop,Q (it 0)→IterW v h Q)(hK:K h)(hl:l.length≤SZ)
  (step:∀ a∈l,JM tgt (f a) L fun L'=>∃ g₀ cs g₁,ev L' h elt g₀=some (w a,cs,g₁)∧km cs) (q:Q (.ref h.length) (h++[.list (l.map w)])):AE C L h (.comp elt tgt e none) Q:=fun ρ ag=>by
 refine yZ hC (g:=fun a=>some (w a)) go (jB (C:=C) (Q:=fun u h₁=>(∀ Q:It→Prop,Q (it 0)→IterW u h Q)∧h₁=h) he hc ⟨hv,rfl⟩ ρ ag) hK hl (fun a ha=>?_) (by rw[List.filterMap_eq_map'];exact q)
 refine yR ag (step a ha) fun L' ρ' a' z=>⟨rfl,rfl,fun u hu=>?_⟩
 refine Zz z fun g₀ cs g₁ h1 h2=>?_
 cases hu
 exact jT a' elt _ _ _ _ h1 h2 (fun y=>y=w a) rfl _ fun y e=>⟨e,rfl⟩
theorem JY {α:Type}{l:List α}{f:α→V}{ga:α→Option V}{elt t:E}{tgt:Tgt}{it:Nat→It}{K:H→Prop}{Q:V→H→Prop}(go:yq it (l.map f) K)(he:ev L h e g=some (v,c,g'))(hc:km c)(hv:∀ Q:It→Prop,Q (it 0)→IterW v h Q)(hK:K h)(hl:l.length≤SZ)
  (step:∀ a∈l,JM tgt (f a) L fun L'=>∃ g₀ b cs g₁,evT L' h t g₀=some (b,cs,g₁)∧km cs∧b=(ga a).isSome∧∀ w,ga a=some w→∃ g₀ cs g₁,ev L' h elt g₀=some (w,cs,g₁)∧km cs) (q:Q (.ref h.length) (h++[.list (l.filterMap ga)])):AE C L h (.comp elt tgt e (some t)) Q:=fun ρ ag=>by
 refine yZ hC (g:=ga) go (jB (C:=C) (Q:=fun u h₁=>(∀ Q:It→Prop,Q (it 0)→IterW u h Q)∧h₁=h) he hc ⟨hv,rfl⟩ ρ ag) hK hl (fun a ha=>?_) q
 refine yR ag (step a ha) fun L' ρ' a' z=>?_
 refine Z43 z fun g₀ b cs g₁ h1 h2 h3 h4=>?_
 refine wA a' t _ _ _ _ h1 h2 (fun y=>y=b) rfl _ fun y e=>⟨rfl,e.trans h3,fun w hw=>?_⟩
 refine Zz (h4 w hw) fun g₀ cs g₁ h5 h6=>?_
 exact jT a' elt _ _ _ _ h5 h6 (fun y=>y=w) rfl _ fun y e=>⟨e,rfl⟩
end
theorem no_b {p:Prop}(h:false=true):p:=nomatch h
theorem Ze {α:Type}{p:Prop}[Decidable p]{x:α}{b:Bool}(h:b=decide p):b=(if p then some x else none).isSome:=by
 rw[h];by_cases hp:p <;> simp [hp]
theorem UU {α:Type}{p:Prop}[Decidable p]{x w:α}(h:(if p then some x else none)=some w):p∧x=w:=by
 by_cases hp:p
 ·rw[if_pos hp] at h;exact⟨hp,Option.some.inj h⟩
 ·rw[if_neg hp] at h;cases h
theorem UH {α β:Type}{p:α→Prop}[DecidablePred p]{f:α→β}(l:List α):l.filterMap (fun a=>if p a then some (f a) else none)=(l.filter fun a=>decide (p a)).map f:=by
 induction l with
 | nil=>rfl
 | cons a r ih=>by_cases hp:p a <;> simp [hp,ih]
theorem Kt {α:Type}{f:α→V}{l:List α}{h:H}{n:Nat}(x:h[n]?=some (.list (l.map f))):LnW h (.ref n) (.int l.length):=fun Q q=>by rw[UP x,List.length_map];exact q
theorem jZ {h:H}{n k:Nat}{vs:List V}{v:V}(x:h[n]?=some (.list vs))(hk:k<2 ^ 62)(y:vs[k]?=some v):WF h (.ref n) (.int k) v:=fun R q=>x_sln x hk y q
theorem wO {h:H}{n ver:Nat}{es:List (V×V)}{i v:V}(x:h[n]?=some (.dict es ver))(hk:i.isKey=true)(y:wH es i=some v):WF h (.ref n) i v:=fun R q=>by rw[x_sd x];exact⟨hk,v,y,q⟩
theorem Uu {h:H}{n ver:Nat}{es:List (V×V)}{a:V}{p:Prop}[Decidable p](x:h[n]?=some (.dict es ver))(hk:a.isKey=true)(hp:a∈es.map (·.1)↔p):CmW h .isIn a (.ref n) (decide p):=fun P q=>by rw[x_ind x];exact⟨hk,by rw[decide_eq_decide.mpr hp];exact q⟩
theorem UO {h:H}{n ver:Nat}{es:List (V×V)}{a:V}{p:Prop}[Decidable p](x:h[n]?=some (.dict es ver))(hk:a.isKey=true)(hp:a∈es.map (·.1)↔p):CmW h .notIn a (.ref n) (!decide p):=fun P q=>by rw[x_nid x];exact⟨hk,by rw[decide_eq_decide.mpr hp];exact q⟩
theorem kj {h:H}{n:Nat}{vs:List V}(x:h[n]?=some (.list vs)):∀ Q:It→Prop,Q (.seq n 0)→IterW (.ref n) h Q:=fun Q q=>iter_list x q
theorem Uk (n:Nat):kF 0 n 1=(List.range n).map jK:=by
 rw[ZA]
 apply List.ext_getElem?
 intro i
 rw[Km,List.getElem?_map]
 by_cases h:i<n
 ·rw[if_pos h,List.getElem?_range h];simp [jK]
 ·rw[if_neg h,List.getElem?_eq_none (by simpa using h)];rfl
theorem wp (n:Nat):yq (fun i=>.vals ((kF 0 n 1).drop i)) ((List.range n).map jK) fun J=>True:=Uk n▸Ju (kF 0 n 1)
noncomputable def sgA:List Nat:=[32,33,34,35,36,38,39,40,41,42,43,44,45,46,47,48,49,50,51,52,53,54,55,56,57,58,59,60,61,62,63,64,65,66,67,68,69,70,71,72,73,74,75,76,77,78,79,80,81,82,83,84,85,86,87,88,89,90,91,92,93,94,95,96]
noncomputable def sgB:List Nat:=[97,98,99,100,101,102,103,104,105,106,107,108,109,110,111,112,113,114,115,116,117,118,119,120,121,122,123,124,125,126]
noncomputable def zf:Fn:=⟨1,[
 .ite (.not (.var 0)) [
  .raise] []]⟩
noncomputable def wX:Fn:=⟨1,[
 .assign (.tup [1,2,3,4]) (.var 0),
 .expr (.call 0 [(.and (.cmp2 .le .le (.lit (.int 1)) (.var 1) (.lit (.int 100))) (.and (.cmp2 .le .lt (.lit (.int 0)) (.var 2) (.var 1)) (.cmp .le (.bi .len [(.var 4)]) (.lit (.int 1000)))))]),
 .assign (.name 5) .dict0,
 .for (.name 6) (.var 3) [
  .expr (.call 0 [(.cmp2 .le .lt (.lit (.int 0)) (.var 6) (.var 1))]),
  .store (.var 5) (.var 6) (.lit (.bool true))],
 .for (.tup [7,8,9,10]) (.var 4) [
  .expr (.call 0 [(.and (.cmp2 .le .lt (.lit (.int 0)) (.var 7) (.var 1)) (.and (.cmp2 .le .lt (.lit (.int 0)) (.var 10) (.var 1)) (.and (.cmp .le (.bi .len [(.var 8)]) (.lit (.int 1))) (.cmp .le (.bi .len [(.var 9)]) (.lit (.int 1))))))])],
 .ret (some (.tup [(.var 1),(.var 2),(.var 5),(.bi .list [(.var 4)])]))]⟩
noncomputable def ya:Fn:=⟨2,[
 .assign (.name 2) (.comp (.list []) (.name 7) (.bi .range [(.var 0)]) none),
 .for (.name 3) (.bi .range [(.bi .len [(.var 1)])]) [
  .expr (.meth .append (.sub (.var 2) (.sub (.sub (.var 1) (.var 3)) (.lit (.int 0)))) [(.var 3)])],
 .ret (some (.var 2))]⟩
noncomputable def wN:Fn:=⟨2,[
 .ite (.cmp .lt (.var 1) (.bi .len [(.var 0)])) [
  .ret (some (.sub (.var 0) (.var 1)))] [],
 .ret (some (.lit (.int 0)))]⟩
structure Mv where
 s:Nat
 t:List Nat
 g:List Nat
 q:Nat
structure Ma where
 n:Nat
 b:Nat
 ends:List Nat
 moves:List Mv
noncomputable def Mv.v (m:Mv):V:=.tup [.int m.s,.str m.t,.str m.g,.int m.q]
structure Ma.ok (M:Ma):Prop where
 n1:1≤M.n
 n2:M.n≤100
 b1:M.b<M.n
 l1:M.moves.length≤1000
 l2:M.ends.length≤1000
 e1:∀ e∈M.ends,e<M.n
 m1:∀ m∈M.moves,m.s<M.n∧m.q<M.n∧m.t.length≤1∧m.g.length≤1
def IsMa (h:H)(v:V)(M:Ma):Prop:=∃ e m:Nat,v=.tup [.int M.n,.int M.b,.ref e,.ref m]∧h[e]?=some (.list (M.ends.map jK))∧h[m]?=some (.list (M.moves.map Mv.v))
theorem IsMa.app {h:H}{v:V}{M:Ma}(x:IsMa h v M)(t:H):IsMa (h++t) v M:=by
 refine wZ x fun e m h1 h2 h3=>?_
 refine⟨e,m,h1,?_,?_⟩
 ·rw[List.getElem?_append_left (List.getElem?_eq_some_iff.mp h2).1];exact h2
 ·rw[List.getElem?_append_left (List.getElem?_eq_some_iff.mp h3).1];exact h3
theorem ji (h:H)(o:MO):(h++[o])[h.length]?=some o:=by simp
theorem jf {h t:H}{n:Nat}{o:MO}(x:h[n]?=some o):(h++t)[n]?=some o:=by
 rw[List.getElem?_append_left (List.getElem?_eq_some_iff.mp x).1];exact x
section
variable {Φ:Nat→Option Fn}{d:Nat}{h:H}{Q:V→H→Prop}
theorem kp:SZ=16777216:=rfl
theorem need_ok (hΦ:Φ 0=some zf)(q:Q .none h):Calls Φ (d+1) 0 [.bool true] h Q :=
 ⟨zf,hΦ,rfl,wS (wi (g:=[]) rfl trivial (fun e=>nomatch e) fun J=>jG (A_nil fun ρ J=>q))⟩
theorem yg {n k:Nat}{xs:List Int}(hΦ:Φ 25=some wN)(hn:h[n]?=some (.frz (xs.map V.int)))(hk:k<1000)(q:Q (.int (xs.getD k 0)) h) :
  Calls Φ (d+1) 25 [.ref n,.int k] h Q:=by
 have ln:LnW h (.ref n) (.int xs.length):=fun Q q=>by rw[x_lenf hn,List.length_map];exact q
 refine⟨wN,hΦ,rfl,wS (wi (g:=[.int xs.length]) rfl ⟨ln,trivial⟩ (fun hc=>?_) fun hc=>jG (kA (g:=[]) rfl trivial fun ρ=>?_))⟩
 ·have hlt:k<xs.length:=Int.ofNat_lt.mp (of_decide_eq_true hc)
  have q:Q (.int xs[k]) h:=by simpa [List.getD,hlt] using q
  have rd:WF h (.ref n) (.int k) (.int xs[k]):=fun R r=>by
   rw[x_sf hn]
   exact⟨_,⟨Int.natCast_nonneg k,by show(k:Int)<4611686018427387904;exact oq107 hk⟩,by rw[Int.toNat_natCast,List.getElem?_map,List.getElem?_eq_getElem hlt];rfl,r⟩
  exact kA (g:=[.int xs[k]]) rfl ⟨rd,trivial⟩ fun ρ=>q
 ·have hlt:¬ k<xs.length:=fun h=>of_decide_eq_false hc (Int.ofNat_lt.mpr h)
  have q:Q (.int 0) h:=by simpa [List.getD,hlt] using q
  exact q
noncomputable def zu (es:List Nat):List (V×V):=es.foldl (fun a e=>kB a (jK e) (.bool true)) []
theorem dput_len (es:List (V×V))(k v:V):(kB es k v).length≤es.length+1:=by
 unfold kB;split <;> simp
theorem finD_take {es:List Nat}{i e:Nat}(h:es[i]?=some e):zu (es.take (i+1))=kB (zu (es.take i)) (jK e) (.bool true):=by
 unfold zu;rw[List.take_add_one,h];simp
theorem finD_len (es:List Nat):(zu es).length≤es.length:=by
 have:∀ (es:List Nat) a,(es.foldl (fun a e=>kB a (jK e) (V.bool true)) a).length≤a.length+es.length:=by
  intro es
  induction es with
  | nil=>intro a;simp
  | cons e r ih=>intro a;have:=ih (kB a (jK e) (.bool true));have:=dput_len a (jK e) (.bool true);simp;exact jt jE jc (qA ja jD) jc (qA je jd) je jA qt (by assumption) this
 exact Nat.le_trans (this es []) (by simp)
theorem len2 (h:H)(a b:MO):(h++[a,b])[h.length+1]?=some b:=by
 rw[List.getElem?_append_right (by exact kg jO jc jg qt )];simp
theorem Zc {v:V}{M:Ma}(h0:Φ 0=some zf)(h1:Φ 1=some wX)(hm:IsMa h v M)(ok:M.ok)
  (q:∀ ver,Q (.tup [.int M.n,.int M.b,.ref h.length,.ref (h.length+1)]) (h++[.dict (zu M.ends) ver,.list (M.moves.map Mv.v)])):Calls Φ (d+2) 1 [v] h Q:=by
 refine yI hm fun e m zu48 zv49=>?_;subst zu48;refine jP zv49 fun he hmv=>?_
 refine⟨wX,h1,rfl,wS ?_⟩
 have mC:=jy (Φ:=Φ) (d+1)
 have hz:=kp
 have n1:=ok.n1
 have n2:=ok.n2
 have b1:=ok.b1
 have l1:=ok.l1
 have l2:=ok.l2
 have need:∀ {b:Bool} {h:H} {Q:V→H→Prop},b=true→Q .none h→Calls Φ (d+1) 0 [.bool b] h Q:=fun e q=>by subst e;exact need_ok h0 q
 refine A_sets (g:=[]) (vs:=[.int M.n,.int M.b,.ref e,.ref m]) rfl trivial rfl (WB mC (g:=[.int M.moves.length]) rfl ⟨fun J=>⟨fun J=>⟨Kt hmv,trivial⟩,trivial⟩,trivial⟩ (need (by simp;exact oq108 n2 b1 l1) (JT fun ver=>?_)))
 refine ye mC (jU e (M.ends.map jK)) (fun _:Unit=>[(1,.int M.n),(2,.int M.b),(4,.ref m),(5,.ref h.length)]) (fun i J H=>∃ ver,H=h++[.dict (zu (M.ends.take i)) ver]) () (by exact rfl) (jB (g:=[]) rfl trivial ⟨kj (jf he),ver,rfl⟩) (fun i _ H ⟨ver,x⟩=>by rw[x];exact jf he) ?_ ?_
 ·intro i v _ H K1 kN1 kR1 hv;rintro⟨ver,rfl⟩
  refine kL (wJ hv) fun x hx zw50 hil=>?_;subst zw50
  have hxn:=ok.e1 x (List.mem_of_getElem? hx)
  refine WB mC (g:=[]) rfl trivial (need (by simp;exact hxn) (Kh (g:=[]) (g₂:=[]) rfl (ji _ _) rfl trivial rfl trivial rfl ?_ fun ver=>?_))
  ·have h5:=finD_len (M.ends.take i);rw[List.length_take] at h5;exact oq109 hz l2 h5
  ·exact kz kN1 () (by exact rfl) ⟨ver,by rw[finD_take hx,List.set_append_right _ _ (Nat.le_refl _)];simp⟩
 ·rintro _ H ⟨ver,rfl⟩
  rw[List.length_map,List.take_length]
  have hmv':=jf (t:=[.dict (zu M.ends) ver]) hmv
  refine ye mC (jU m (M.moves.map Mv.v)) (fun _:Unit=>[(1,.int M.n),(2,.int M.b),(4,.ref m),(5,.ref h.length)]) (fun i J H=>H=h++[.dict (zu M.ends) ver]) () (by exact rfl) (jB (g:=[]) rfl trivial ⟨kj hmv',rfl⟩) (fun i J H x=>by rw[x];exact hmv') ?_ ?_
  ·intro i v _ H K1 kN1 kR1 hv;rintro rfl
   refine kL (wJ hv) fun x hx zx51 hil=>?_;subst zx51
   refine Z03 (ok.m1 x (List.mem_of_getElem? hx)) fun m1 m2 m3 m4=>?_
   exact⟨rfl,WB mC (g:=[]) rfl trivial (need (by simp;exact oq110 m1 m2 m3 m4) (kz kN1 () (by exact rfl) rfl))⟩
  ·rintro _ H rfl
   refine fun ρ ag=>B_ret ?_
   rw[jak,jJ,wh,ag 1 _ rfl,jR,jJ,wh,ag 2 _ rfl,jR,jJ,wh,ag 5 _ rfl,jR,jJ,e_bi,jJ,wh,ag 4 _ rfl,jR,kx,x_ll hmv']
   refine⟨by rw[List.length_map];exact jt ju jc ja (qN 16777216) ja jc (qN 1000) qt (qi hz) l1,?_⟩
   have q:=q ver
   rw[show h++[MO.dict (zu M.ends) ver,MO.list (List.map Mv.v M.moves)]=h++[MO.dict (zu M.ends) ver]++[MO.list (List.map Mv.v M.moves)] from by rw[List.append_assoc];rfl,show h.length+1=(h++[MO.dict (zu M.ends) ver]).length from by rw[List.length_append];rfl] at q
   exact q
end
theorem yw {α:Type}[DecidableEq α]:∀ (l m:List α),l.Nodup→(∀ x∈l,x∈m)→l.length≤m.length
 | [],m,_,_=>Nat.zero_le _
 | a::l,m,h,s=>by
  have ha:=s a (by simp)
  have:=yw l (m.erase a) (List.nodup_cons.mp h).2 fun x hx=>by
   have hne:x≠a:=fun e=>(List.nodup_cons.mp h).1 (e▸hx)
   exact(List.mem_erase_of_ne hne).mpr (s x (by simp [hx]))
  have h2:=List.length_erase_of_mem ha
  have h3:=List.length_pos_of_mem ha
  simp;exact jV jE jg ja jc jd jd je wG ja qt this (qe h2) (qx (jq jO jj jc (qA jw jj) jc qt h3))
section
variable {Φ:Nat→Option Fn}{d:Nat}{h:H}{Q:V→H→Prop}
theorem kQ (a:Int){b:Int}(hb:0<b):∃ k:Nat,a.fmod b=k∧(k:Int)<b:=by
 have h1:=Int.fmod_nonneg_of_pos a hb
 have h2:=Int.fmod_lt_of_pos a hb
 exact⟨(a.fmod b).toNat,(Int.toNat_of_nonneg h1).symm,(Int.toNat_of_nonneg h1).symm▸h2⟩
theorem UM {s:List Nat}{k:Nat}(hk:k<s.length):∃ c,s[k]?=some c:=⟨s[k],List.getElem?_eq_getElem hk⟩
theorem sg_a:sgA.length=64:=rfl
theorem sg_b:sgB.length=30:=rfl
theorem YZ {s:List Nat}{k c:Nat}(hk:k<1000)(y:s[k]?=some c):WF h (.str s) (.int k) (.str [c]):=fun R q=>⟨c,⟨Int.natCast_nonneg k,by show(k:Int)<4611686018427387904;exact oq107 hk⟩,y,q⟩
theorem A_retL {C:kO}(hC:jY C){L:Env}{r es:List S}{ls:List E}{vs g g':List V}{c:List Prop}{Q:Out→jz→H→Prop}(x:evs L h ls g=some (vs,c,g'))(hc:km c)(q:∀ ρ,Q (.ret (.ref h.length)) ρ (h++[.list vs])):AB C L h (.ret (some (.list ls))::r) Q :=
 yp hC fun ρ ag=>by
  rw[zN]
  exact evs_snd ag ls g vs c g' x hc (fun w=>w=vs) rfl _ fun w e=>by rw[e];exact q
theorem ZP (a:Int){b:Int}(hb:b.natAbs<2 ^ 63):jab a b:=.inr hb
theorem js {h h':H}(p:h <+: h'){n:Nat}{o:MO}(x:h[n]?=some o):h'[n]?=some o:=by obtain⟨t,rfl⟩:=p;exact jf x
theorem IsMa.pre {h h':H}(p:h <+: h'){v:V}{M:Ma}(x:IsMa h v M):IsMa h' v M:=by obtain⟨t,rfl⟩:=p;exact x.app t
theorem zX (h:H)(a b:MO):(h++[a]).set h.length b=h++[b]:=by simp
noncomputable def Jf (n:Nat):D:=.int n
theorem zp {α:Type}{f:α→V}{g:α→D}(hf:∀ x,Snap h (f x) (g x)):∀ (l:List α),Snaps h (l.map f) (l.map g)
 | []=>.nil
 | x::r=>.cons (hf x) (zp hf r)
theorem kh {n:Nat}(h:n<2147483648):jH n:=⟨Int.le_trans (by decide) (Int.natCast_nonneg n),Int.lt_of_lt_of_le (Int.ofNat_lt.mpr h) (by decide)⟩
theorem wz {h h':H}(p:h <+: h'){k:Nat}(hk:h.length≤k)(o:MO):h <+: h'.set k o:=by
 obtain⟨t,rfl⟩:=p
 exact⟨t.set (k - h.length) o,by rw[List.set_append_right _ _ hk]⟩
noncomputable def KZ (ms:List Mv)(i s:Nat):List Nat:=(List.range i).filter fun p=>decide ((ms[p]?.map Mv.s)=some s)
noncomputable def wE (ms:List Mv)(s:Nat):List Nat:=KZ ms ms.length s
theorem Yo (ms:List Mv)(i s:Nat):(KZ ms i s).length≤i:=by
 have:=List.length_filter_le (fun p=>decide ((ms[p]?.map Mv.s)=some s)) (List.range i)
 rw[List.length_range] at this;exact this
theorem kr {ms:List Mv}{s k:Nat}:k∈wE ms s↔∃ m,ms[k]?=some m∧m.s=s:=by
 unfold wE KZ
 rw[List.mem_filter,List.mem_range]
 constructor
 ·intro ⟨h1,h2⟩
  simp at h2;exact h2
 ·intro ⟨m,h1,h2⟩
  exact⟨(List.getElem?_eq_some_iff.mp h1).1,by simp [h1,h2]⟩
theorem outK_succ {ms:List Mv}{i:Nat}{m:Mv}(hm:ms[i]?=some m)(s:Nat):KZ ms (i+1) s=if m.s=s then KZ ms i s++[i] else KZ ms i s:=by
 unfold KZ
 rw[List.range_succ,List.filter_append]
 by_cases h:m.s=s <;> simp [hm,h]
def OutAt (h:H)(v:V)(M:Ma):Prop:=∃ L r:Nat,v=.ref L∧h[L]?=some (.list ((List.range M.n).map fun s=>V.ref (r+s)))∧∀ s,s<M.n→h[r+s]?=some (.list ((wE M.moves s).map jK))
theorem OutAt.pre {h h':H}{v:V}{M:Ma}(x:OutAt h v M)(p:h <+: h'):OutAt h' v M:=by
 refine wZ x fun L r e h1 h2=>?_
 exact⟨L,r,e,js p h1,fun s hs=>js p (h2 s hs)⟩
theorem Zb {m:Nat}{M:Ma}(h2:Φ 2=some ya)(hm:h[m]?=some (.list (M.moves.map Mv.v)))(ok:M.ok)(q:∀ v h',h <+: h'→OutAt h' v M→Q v h'):Calls Φ (d+1) 2 [.int M.n,.ref m] h Q:=by
 have mC:=jy (Φ:=Φ) d
 have hz:=kp
 have n2:=ok.n2
 have l1:=ok.l1
 refine⟨ya,h2,rfl,wS (jL mC fun ρ ag=>?_)⟩
 refine Jt mC (wp M.n) (fun i out H=>H=h++List.replicate i (.list [])∧out=(List.range i).map fun s=>V.ref (h.length+s)) (jB (C:=Calls Φ d) (L:=Uw 0 [.int M.n,.ref m]) (e:=.bi .range [.var 0]) (v:=.rng 0 M.n 1) (c:=[jH M.n]) (Q:=fun w h₁=>(∀ Q:It→Prop,Q (.vals ((kF 0 M.n 1).drop 0))→IterW w h₁ Q)∧h₁=h++List.replicate 0 (.list [])∧([]:List V)=(List.range 0).map fun s=>V.ref (h.length+s)) (g:=[]) rfl ⟨kh (n:=M.n) (by exact jq jO jg (qN 2147483648) jc (qN 100) qt n2),trivial⟩ ⟨fun J q=>q,(List.append_nil _).symm,rfl⟩ ρ ag) (fun J J J J=>trivial) ?_ ?_
 ·rintro i v out H hv ⟨rfl,rfl⟩
  refine kL (wJ hv) fun k' hk' zy52 hkm=>?_;subst zy52
  rw[List.length_range] at hkm
  rw[x_bn,o_none]
  show jW _ (.list []) _ _ _
  rw[zN,kx]
  refine⟨by rw[List.length_map,List.length_range];exact jV jr jg ja (qN 16777216) ja jd (qN 100) jg jd qt (qi hz) n2 hkm,by rw[List.append_assoc,List.replicate_succ'],?_⟩
  rw[List.range_succ,List.map_append,List.length_append,List.length_replicate];rfl
 rintro out H ⟨rfl,rfl⟩
 rw[List.length_map,List.length_range]
 have hpre:h <+: h++List.replicate M.n (MO.list [])++[MO.list ((List.range M.n).map fun s=>V.ref (h.length+s))]:=by rw[List.append_assoc];exact List.prefix_append _ _
 have q3:(h++List.replicate M.n (MO.list [])).length=h.length+M.n:=by rw[List.length_append,List.length_replicate]
 have q1:(h++List.replicate M.n (MO.list [])++[MO.list ((List.range M.n).map fun s=>V.ref (h.length+s))])[h.length+M.n]?=some (.list ((List.range M.n).map fun s=>V.ref (h.length+s))):=by rw[←q3];exact ji _ _
 have q2:∀ s,s<M.n→(h++List.replicate M.n (MO.list [])++[MO.list ((List.range M.n).map fun s=>V.ref (h.length+s))])[h.length+s]?=some (.list ((KZ M.moves 0 s).map jK)):=fun s hs=>by
  refine jf ?_
  rw[List.getElem?_append_right (Nat.le_add_right ..),Nat.add_sub_cancel_left,List.getElem?_replicate,if_pos hs];rfl
 rw[q3]
 generalize h++List.replicate M.n (MO.list [])++[MO.list ((List.range M.n).map fun s=>V.ref (h.length+s))]=B at hpre q1 q2 ⊢
 clear ag ρ
 refine ye mC (wp M.moves.length) (fun _:Unit=>[(1,.ref m),(2,.ref (h.length+M.n))]) (fun i J H=>h <+: H∧H[h.length+M.n]?=some (.list ((List.range M.n).map fun s=>V.ref (h.length+s)))∧∀ s,s<M.n→H[h.length+s]?=some (.list ((KZ M.moves i s).map jK))) () (by exact rfl) (jB (g:=[.int M.moves.length]) rfl ⟨Kt (js hpre hm),kh (by exact jq jO jg (qN 2147483648) jc (qN 1000) qt l1),trivial⟩ ⟨fun J q=>q,hpre,q1,q2⟩) (fun J J J J=>trivial) ?_ fun J H x=>kA (g:=[]) rfl trivial fun ρ=>q _ _ x.1 ⟨_,_,rfl,x.2.1,by rw[List.length_map,List.length_range] at x;exact x.2.2⟩
 intro i v _ H K1 kN1 kR1 hv;rintro⟨p,g1,g2⟩
 refine kL (wJ hv) fun k' hk' zz53 hkm=>?_;subst zz53
 have:k'=i:=by rw[List.getElem?_range (by simpa using hkm)] at hk';exact(Option.some.inj hk').symm
 subst this
 rw[List.length_range] at hkm
 obtain⟨x,hx⟩:∃ x,M.moves[k']?=some x:=⟨_,List.getElem?_eq_getElem hkm⟩
 have hxs:=(ok.m1 x (List.mem_of_getElem? hx)).1
 have g3:=g2 x.s hxs
 have ol:=Yo M.moves k' x.s
 refine A_appE (g₂:=[x.v,.ref (h.length+x.s)]) rfl ⟨jZ (js p hm) (Nat.lt_trans hkm (Nat.lt_of_le_of_lt l1 (by decide))) (by rw[List.getElem?_map,hx];rfl),jZ g1 (Nat.lt_trans hxs (Nat.lt_of_le_of_lt n2 (by decide))) (by rw[List.getElem?_map,List.getElem?_range hxs];rfl),trivial⟩ g3 (by rw[List.length_map];exact yS jE jg ja (qN 16777216) ja jd (qN 1000) wG jd jc je qt (qi hz) l1 hkm ol) (g:=[]) rfl trivial (kz kN1 () (by exact rfl) ⟨wz p (Nat.le_add_right ..) _,?_,fun s hs=>?_⟩)
 ·rw[List.getElem?_set_ne (by exact fun e0=>kc jr jg ja (qA jd ja) (qA jd jc) qt hxs (qi e0))];exact g1
 ·rw[outK_succ hx]
  by_cases e:x.s=s
  ·subst e
   rw[List.getElem?_set_self (List.getElem?_eq_some_iff.mp g3).1,if_pos rfl,List.map_append];rfl
  ·rw[List.getElem?_set_ne (by exact oq111 e),if_neg e];exact g2 s hs
section
variable {N:Type}{nv:N→V}(inj:∀ a b,nv a=nv b→a=b)
include inj
end
end
inductive Path (M:Ma):List Nat→Nat→Prop
 | nil:Path M [] M.b
 | snoc {p:List Nat} {k:Nat} {m:Mv}:Path M p m.s→M.moves[k]?=some m→Path M (p++[k]) m.q
noncomputable def zc (M:Ma)(p:List Nat):List Nat:=p.flatMap fun k=>(M.moves[k]?.map Mv.t).getD []
noncomputable def Wj (M:Ma)(p:List Nat):List Nat:=p.flatMap fun k=>(M.moves[k]?.map Mv.g).getD []
theorem yB {M:Ma}{k:Nat}{m:Mv}(h:M.moves[k]?=some m)(p:List Nat):zc M (p++[k])=zc M p++m.t:=by simp [zc,h]
theorem wr_snoc {M:Ma}{k:Nat}{m:Mv}(h:M.moves[k]?=some m)(p:List Nat):Wj M (p++[k])=Wj M p++m.g:=by simp [Wj,h]
section
variable {M:Ma}{t w:List Nat}(ok:M.ok)
include ok
end
noncomputable def Zx (n a:Nat):List (Nat×Nat):=(List.range n).flatMap fun s=>(List.range a).map fun i=>(s,i)
theorem YE {α β:Type}(f:α→List β)(c:Nat)(h:∀ x,(f x).length=c):∀ l:List α,(l.flatMap f).length=l.length * c
 | []=>by simp
 | x::r=>by rw[List.flatMap_cons,List.length_append,h,YE f c h r,List.length_cons,Nat.add_mul];exact qa (kg ju (qA jc ja) (qA ja (qM 1 jc)) qt ) (kg ju (qA jc (qM 1 ja)) (qA ja jc) qt )
theorem Kr (n a:Nat):(Zx n a).length=n * a:=by
 unfold Zx;rw[YE _ a (fun s=>by simp)];simp
theorem Ku {n a:Nat}{x:Nat×Nat}(h1:x.1<n)(h2:x.2<a):x∈Zx n a:=by
 obtain⟨s,i⟩:=x
 simp only[Zx,List.mem_flatMap,List.mem_map,List.mem_range]
 exact⟨s,h1,i,h2,rfl⟩
noncomputable def wg (x:Nat×Nat):V:=.tup [.int x.1,.int x.2]
theorem nv2_inj (a b:Nat×Nat)(h:wg a=wg b):a=b:=by
 obtain⟨a1,a2⟩:=a
 obtain⟨b1,b2⟩:=b
 simp [wg] at h
 have h1:a1=b1:=by exact oq112 h
 have h2:a2=b2:=by exact oq113 h
 rw[h1,h2]
theorem dput_mem {es:List (V×V)}{k k' v:V}:k'∈(kB es k v).map (·.1)↔k'∈es.map (·.1)∨k'=k:=by
 unfold kB
 by_cases h:(wH es k).isSome
 ·rw[if_pos h]
  have e:(es.map fun e=>if e.1=k then (e.1,v) else e).map (·.1)=es.map (·.1):=by
   rw[List.map_map];apply List.map_congr_left;intro e _;simp only[Function.comp];split <;> rfl
  rw[e]
  constructor
  ·exact .inl
  ·rintro(h' | rfl)
   ·exact h'
   ·obtain⟨v',hv⟩:=Option.isSome_iff_exists.mp h
    refine jo (Option.map_eq_some_iff.mp hv) fun e he J=>?_
    have:=List.find?_some he
    exact List.mem_map.mpr ⟨e,List.mem_of_find?_eq_some he,of_decide_eq_true this⟩
 ·rw[if_neg h];simp
theorem jag {es:List Nat}{s:Nat}:jK s∈(zu es).map (·.1)↔s∈es:=by
 have:∀ (es:List Nat) (a:List (V×V)),jK s∈(es.foldl (fun a e=>kB a (jK e) (V.bool true)) a).map (·.1)↔jK s∈a.map (·.1)∨s∈es:=by
  intro es
  induction es with
  | nil=>intro a;simp
  | cons e r ih =>
   intro a
   rw[List.foldl_cons,ih,dput_mem,List.mem_cons]
   have:jK s=jK e↔s=e:=by simp [jK];exact oq114
   rw[this,or_assoc]
 unfold zu
 rw[this];simp
section
variable {Φ:Nat→Option Fn}{d:Nat}{h:H}{Q:V→H→Prop}
theorem JV (h:H)(a b:MO):(h++[a,b])[h.length]?=some a:=by simp
theorem set2a (h:H)(a b c:MO):(h++[a,b]).set h.length c=h++[c,b]:=by simp
theorem snaps_nat (h:H)(l:List Nat):Snaps h (l.map jK) (l.map Jf):=zp (fun J=>.int _) l
theorem KI {α:Type}(f:α→List Nat):∀ l:List α,zK (l.map fun x=>V.str (f x))=some (l.map f)
 | []=>rfl
 | x::r=>by show(zK (r.map fun x=>V.str (f x))).map _=_;rw[KI f r];rfl
theorem KB:∀ l:List (List Nat),zb [] l=l.flatten
 | []=>rfl
 | [x]=>by simp [zb]
 | x::y::r=>by
  show x++[]++zb [] (y::r)=_
  rw[KB (y::r)];simp
theorem ZU:∀ l:List (List Nat),(∀ x∈l,x.length≤1)→(l.map List.length).sum≤l.length
 | [],_=>Nat.le_refl _
 | x::r,h=>by
  have h1:=h x (by simp)
  have h2:=ZU r fun y hy=>h y (by simp [hy])
  simp;exact jt jr (qA jc ja) jD jc jj ja jd qt h1 h2
theorem wK {h:H}{n:Nat}{o:MO}(x:h[n]?=some o):n<h.length:=(List.getElem?_eq_some_iff.mp x).1
end
theorem dget_keys (es:List (V×V))(k:V):(wH es k).isSome=decide (k∈es.map (·.1)):=by
 unfold wH
 rw[Option.isSome_map,Bool.eq_iff_iff,List.find?_isSome,decide_eq_true_iff,List.mem_map]
 exact⟨fun z=>jo z fun e h1 h2=>⟨e,h1,of_decide_eq_true h2⟩,fun z=>jo z fun e h1 h2=>⟨e,h1,decide_eq_true h2⟩⟩
noncomputable def j1 (nb:Nat)(a:Mv)(q:Nat):Mv:=⟨a.s * nb+q,a.t,[],a.q * nb+q⟩
namespace L08
end L08
section
variable {Φ:Nat→Option Fn}{d:Nat}{h:H}{Q:V→H→Prop}
structure St4 where
 p:Nat
 q:Nat
 r:List Nat
 g:List Nat
noncomputable def St4.v (x:St4):V:=.tup [.int x.p,.int x.q,.str x.r,.str x.g]
noncomputable def s3 (q:Nat)(a b:Mv):Option V:=if b.s=q∧b.t=a.g then some (St4.v ⟨a.q,b.q,a.t,b.g⟩) else none
noncomputable def s2 (p q:Nat)(b:Mv):Option V:=if b.s=q∧b.t=[] then some (St4.v ⟨p,b.q,[],b.g⟩) else none
noncomputable def sA (B:Ma)(p q:Nat)(a:Mv):List V:=if a.s=p then (if a.g=[] then [St4.v ⟨a.q,q,a.t,[]⟩] else B.moves.filterMap (s3 q a)) else []
end
section
variable {M:Ma}{t:List Nat}{most:Nat}(ok:M.ok)
include ok
end
inductive Reach {N:Type}(b:N)(sc:N→List N):N→Prop
 | nil:Reach b sc b
 | step {x y:N}:Reach b sc x→y∈sc x→Reach b sc y
section
variable {N:Type}{nv:N→V}(inj:∀ a b,nv a=nv b→a=b)
include inj
theorem nv_mem {T:List N}{z:N}:nv z∈T.map nv↔z∈T:=by
 rw[List.mem_map]
 exact⟨fun z=>jo z fun e he h=>inj _ _ h▸he,fun h=>⟨z,h,rfl⟩⟩
end
theorem it_dict {h:H}{n ver:Nat}{es:List (V×V)}(x:h[n]?=some (.dict es ver)):∀ Q:It→Prop,Q (.keys n ver es.length 0)→IterW (.ref n) h Q:=fun Q q=>iter_dict x q
theorem A_bi1 {C:kO}(hC:jY C){L:Env}{h:H}{b:Bi}{e:E}{Q:V→H→Prop}(x:AE C L h e fun v h₁=>BiW b [v] h₁ Q):AE C L h (.bi b [e]) Q:=fun ρ ag=>x ρ ag
theorem A_skip {C:kO}(hC:jY C){L:Env}{h:H}{r:List S}{Q:Out→jz→H→Prop}{t:E}{a:List S}(x:∀ ρ,Ag L ρ→wpT C t ρ h fun b h₁=>b=false∧AB C L h₁ r Q):AB C L h (.ite t a []::r) Q:=fun ρ ag =>
 B_ite (wpT_mono hC t (fun b h₁ z=>by rw[z.1];exact z.2 ρ ag) (x ρ ag))
section
variable {C:kO}{L:Env}{h:H}{r:List S}{Q:Out→jz→H→Prop}{e:E}{g g':List V}{c:List Prop}{v:V}
theorem A_putL {o n ver:Nat}{es:List (V×V)}{k:E}{vk:V}{g₂ g₂':List V}{c₂:List Prop}(ho:lk L o=some (.ref n))(hn:h[n]?=some (.dict es ver))(x:ev L (h++[MO.list []]) k g₂=some (vk,c₂,g₂'))(hc₂:km c₂)(hk:vk.isKey=true)(hl:es.length<SZ)(q:∀ ver,AB C L ((h++[MO.list []]).set n (.dict (kB es vk (.ref h.length)) ver)) r Q):AB C L h (.store (.var o) k (.list [])::r) Q:=fun ρ ag=>by
 refine Wo ?_
 rw[zN,kx,wh,ag o _ ho]
 refine jB (C:=C) (Q:=fun vi h₃=>StoreW (.ref n) vi (.ref h.length) h₃ fun h₄=>wpB C r ρ h₄ Q) x hc₂ ?_ ρ ag
 rw[x_std (jf hn)]
 exact⟨hk,hl,fun ver=>q ver ρ ag⟩
variable (hC:jY C)
include hC
theorem JX {α:Type}{l:List α}{f:α→V}{ga:α→Option V}{t:Tgt}{it:Nat→It}{K:H→Prop}{tst x:E}{fd ld:Nat}{base:List V}{L₀:Env}(go:yq it (l.map f) K)(hin:AllIn L₀ L)(hno:(L₀.all fun p=>!t.has p.1)=true)(hf:lk L₀ fd=some (.ref ld))(hL:h[ld]?=some (.list base))(hlen:base.length+l.length≤SZ)
  (he:ev L h e g=some (v,c,g')) (hc:km c) (hv:∀ Q:It→Prop,Q (it 0)→IterW v h Q) (hK:∀ out,K (h.set ld (.list out)))
  (step:∀ a∈l,∀ out,JM t (f a) L₀ fun L'=>∃ g₀ b cs g₁,evT L' (h.set ld (.list out)) tst g₀=some (b,cs,g₁)∧km cs∧b=(ga a).isSome∧∀ w,ga a=some w→∃ g₀ cs g₁,ev L' (h.set ld (.list out)) x g₀=some (w,cs,g₁)∧km cs)
  (fin:AB C L₀ (h.set ld (.list (base++l.filterMap ga))) r Q):AB C L h (.for t e [.ite tst [.expr (.meth .append (.var fd) [x])] []]::r) Q:=fun ρ ag=>by
 have clean:∀ i v,lk L₀ i=some v→t.has i=false:=by
  clear hin hf step fin
  intro i v
  induction L₀ with
  | nil=>intro e;cases e
  | cons p r ih =>
   obtain⟨j,w⟩:=p
   rw[List.all_cons,Bool.and_eq_true,Bool.not_eq_true'] at hno
   intro e
   unfold lk at e
   cases hb:Nat.beq i j with
   | true=>rw[Nat.eq_of_beq_eq_true hb];exact hno.1
   | false=>rw[hb] at e;exact ih hno.2 e
 have a₀:=AllIn.ag ag hin
 have agree:∀ {ρ'},(∀ j,t.has j=false→ρ' j=ρ j)→Ag L₀ ρ':=fun hρ i v e=>by rw[hρ i (clean i v e)];exact a₀ i v e
 refine Zq hC go hK hL (a₀ fd _ hf) (clean fd _ hf) hlen (jB (C:=C) (Q:=fun w h₁=>(∀ Q:It→Prop,Q (it 0)→IterW w h Q)∧h₁=h) he hc ⟨hv,rfl⟩ ρ ag) (fun a ha ρ' out hρ=>?_) fun ρ' hρ=>fin ρ' (agree hρ)
 refine yR (agree hρ) (step a ha out) fun L' ρ'' a' z=>?_
 refine Z43 z fun g₀ b cs g₁ h1 h2 h3 h4=>?_
 refine wA a' tst _ _ _ _ h1 h2 (fun y=>y=b) rfl _ fun y e=>⟨rfl,e.trans h3,fun w hw=>?_⟩
 refine Zz (h4 w hw) fun g₀ cs g₁ h5 h6=>?_
 exact jT a' x _ _ _ _ h5 h6 (fun y=>y=w) rfl _ fun y e=>⟨e,rfl⟩
end
theorem ZW {p:Prop}[Decidable p](h:(!decide p)=true):¬ p:=fun k=>by rw[decide_eq_true k] at h;cases h
theorem Yx {p:Prop}[Decidable p](h:(!decide p)=false):p:=Classical.byContradiction fun k=>by rw[decide_eq_false k] at h;cases h
theorem cat1 {a b:List Nat}(h:a.length≤10000)(hb:b.length≤1):a.length+b.length≤SZ:=Nat.le_trans (Nat.add_le_add h hb) (by decide)
theorem cat2 {a b:List Nat}(h:a.length≤10000)(hb:b.length≤1):(a++b).length<2 ^ 62:=by rw[List.length_append];exact Nat.lt_of_le_of_lt (Nat.add_le_add h hb) (by decide)
theorem leM {n:Nat}(h:n≤10000):n≤1000000:=Nat.le_trans h (by decide)
theorem Jz {a b:Nat}(h:decide ((a:Int)<b)=true):a<b:=Int.ofNat_lt.mp (of_decide_eq_true h)
theorem JE {a b:Nat}(h:decide ((a:Int)<b)=false):b≤a:=Nat.not_lt.mp fun k=>of_decide_eq_false h (Int.ofNat_lt.mpr k)
theorem yM {n:Nat}(h:n≤10000):n<SZ:=Nat.lt_of_le_of_lt h (by decide)
theorem leSZ {n:Nat}(h:n≤10000):n≤SZ:=Nat.le_of_lt (yM h)
theorem lt62 {n:Nat}(h:n≤10000):n<2 ^ 62:=Nat.lt_of_le_of_lt h (by decide)
theorem ne01 (n:Nat):n≠n+1:=Nat.ne_of_lt (Nat.lt_succ_self n)
theorem ne02 (n:Nat):n≠n+2:=Nat.ne_of_lt (Nat.lt_add_of_pos_right (by decide))
theorem ne12 (n:Nat):n+1≠n+2:=Nat.ne_of_lt (Nat.lt_succ_self _)
theorem map_fm {α β:Type}{p:α→Prop}[DecidablePred p]{f:α→β}(l:List α):(l.filter fun a=>decide (p a)).map f=l.filterMap (fun a=>if p a then some (f a) else none):=(UH l).symm
theorem Un {α β γ:Type}{p:α→Prop}[DecidablePred p]{f:α→β}{v:β→γ}(l:List α):((l.filter fun a=>decide (p a)).map f).map v=l.filterMap (fun a=>if p a then some (v (f a)) else none):=by rw[List.map_map];exact map_fm l
theorem zV {α β γ:Type}{f:α→List β}{v:β→γ}:∀ (l:List α),(l.flatMap f).map v=l.flatMap fun a=>(f a).map v
 | []=>rfl
 | a::r=>by rw[List.flatMap_cons,List.map_append,List.flatMap_cons,zV r]
abbrev N2:=Nat×Nat
structure Stp where
 a:Option Nat
 b:Option Nat
 to:N2
noncomputable def onV (o:Option Nat):V:=match o with | none=>.none | some k=>.int k
noncomputable def Stp.v (s:Stp):V:=.tup [onV s.a,onV s.b,wg s.to]
noncomputable def UA (ms:List Mv)(o:Option Nat):List Nat:=match o with | none=>[] | some i=>(ms[i]?.map Mv.t).getD []
noncomputable def yL (ms:List Mv)(o:Option Nat):List Nat:=match o with | none=>[] | some i=>(ms[i]?.map Mv.g).getD []
noncomputable def qO (ms:List Mv)(i:Nat):Nat:=(ms[i]?.map Mv.q).getD 0
noncomputable def pA (ms:List Mv)(x:N2)(i:Nat):List Stp :=
 if UA ms (some i)=[] then [⟨some i,none,(qO ms i,x.2)⟩] else ((wE ms x.2).filter fun j=>decide (UA ms (some j)=UA ms (some i))).map fun j=>⟨some i,some j,(qO ms i,qO ms j)⟩
noncomputable def pB (ms:List Mv)(x:N2):List Stp:=((wE ms x.2).filter fun j=>decide (UA ms (some j)=[])).map fun j=>⟨none,some j,(x.1,qO ms j)⟩
noncomputable def jQ (ms:List Mv)(x:N2):List Stp:=(wE ms x.1).flatMap (pA ms x)++pB ms x
theorem wI {ms:List Mv}{i:Nat}{m:Mv}(h:ms[i]?=some m):UA ms (some i)=m.t:=by show(ms[i]?.map Mv.t).getD []=_;rw[h];rfl
theorem ZE {ms:List Mv}{i:Nat}{m:Mv}(h:ms[i]?=some m):yL ms (some i)=m.g:=by show(ms[i]?.map Mv.g).getD []=_;rw[h];rfl
theorem zx {ms:List Mv}{i:Nat}{m:Mv}(h:ms[i]?=some m):qO ms i=m.q:=by unfold qO;rw[h];rfl
inductive IsStp (ms:List Mv)(x:N2):Stp→Prop
 | one {i:Nat} {m:Mv}:ms[i]?=some m→m.s=x.1→m.t=[]→IsStp ms x ⟨some i,none,(m.q,x.2)⟩
 | both {i j:Nat} {m n:Mv}:ms[i]?=some m→m.s=x.1→m.t≠[]→ms[j]?=some n→n.s=x.2→n.t=m.t→IsStp ms x ⟨some i,some j,(m.q,n.q)⟩
 | two {j:Nat} {n:Mv}:ms[j]?=some n→n.s=x.2→n.t=[]→IsStp ms x ⟨none,some j,(x.1,n.q)⟩
theorem kW {ms:List Mv}{x:N2}{s:Stp}:s∈jQ ms x↔IsStp ms x s:=by
 unfold jQ
 rw[List.mem_append,List.mem_flatMap]
 constructor
 ·rintro(⟨i,hi,hs⟩ | hs)
  ·refine jo (kr.mp hi) fun m hm ms'=>?_
   unfold pA at hs
   rw[wI hm,zx hm] at hs
   by_cases ht:m.t=[]
   ·rw[if_pos ht,List.mem_singleton] at hs
    rw[hs];exact .one hm ms' ht
   ·rw[if_neg ht] at hs
    refine jo (List.mem_map.mp hs) fun j hj za54=>?_;subst za54
    obtain⟨hj,he⟩:=List.mem_filter.mp hj
    refine jo (kr.mp hj) fun n hn ns=>?_
    rw[wI hn,decide_eq_true_eq] at he
    rw[zx hn]
    exact .both hm ms' ht hn ns he
  ·refine jo (List.mem_map.mp hs) fun j hj zb55=>?_;subst zb55
   obtain⟨hj,he⟩:=List.mem_filter.mp hj
   refine jo (kr.mp hj) fun n hn ns=>?_
   rw[wI hn,decide_eq_true_eq] at he
   rw[zx hn]
   exact .two hn ns he
 ·intro hs
  cases hs with
  | @one i m hm ms' ht =>
   refine .inl ⟨i,kr.mpr ⟨m,hm,ms'⟩,?_⟩
   unfold pA
   rw[wI hm,if_pos ht,zx hm];exact List.mem_singleton.mpr rfl
  | @both i j m n hm ms' ht hn ns he =>
   refine .inl ⟨i,kr.mpr ⟨m,hm,ms'⟩,?_⟩
   unfold pA
   rw[wI hm,if_neg ht,zx hm]
   exact List.mem_map.mpr ⟨j,List.mem_filter.mpr ⟨kr.mpr ⟨n,hn,ns⟩,by rw[wI hn,he];exact decide_eq_true rfl⟩,by rw[zx hn]⟩
  | @two j n hn ns he =>
   exact .inr (List.mem_map.mpr ⟨j,List.mem_filter.mpr ⟨kr.mpr ⟨n,hn,ns⟩,by rw[wI hn,he];exact decide_eq_true rfl⟩,by rw[zx hn]⟩)
theorem yj {α β:Type}{f:α→List β}{k:Nat}:∀ (l:List α),(∀ a∈l,(f a).length≤k)→(l.flatMap f).length≤l.length * k
 | [],_=>by simp
 | a::r,h=>by
  rw[List.flatMap_cons,List.length_append,List.length_cons,Nat.succ_mul]
  have:=yj r fun b hb=>h b (List.mem_cons_of_mem _ hb)
  have:=h a (List.mem_cons_self ..)
  exact jt jE (qA jc ja) (qA jd je) ja jd jc je qt (by assumption) this
inductive Pth (ms:List Mv):N2→List Stp→N2→Prop
 | nil {x:N2}:Pth ms x [] x
 | cons {x y:N2} {s:Stp} {p:List Stp}:s∈jQ ms x→Pth ms s.to p y→Pth ms x (s::p) y
theorem Pth.app {ms:List Mv}{x y z:N2}{p q:List Stp}(a:Pth ms x p y)(b:Pth ms y q z):Pth ms x (p++q) z:=by
 induction a with
 | nil=>exact b
 | cons h _ ih=>exact .cons h (ih b)
theorem Pth.one {ms:List Mv}{x:N2}{s:Stp}(h:s∈jQ ms x):Pth ms x [s] s.to:=.cons h .nil
noncomputable def w1 (ms:List Mv)(p:List Stp):List Nat:=p.flatMap fun s=>yL ms s.a
noncomputable def w2 (ms:List Mv)(p:List Stp):List Nat:=p.flatMap fun s=>yL ms s.b
theorem UY (ms:List Mv)(p q:List Stp):w1 ms (p++q)=w1 ms p++w1 ms q:=List.flatMap_append
theorem UV (ms:List Mv)(p q:List Stp):w2 ms (p++q)=w2 ms p++w2 ms q:=List.flatMap_append
theorem w1_one (ms:List Mv)(s:Stp):w1 ms [s]=yL ms s.a:=by simp [w1]
theorem w2_one (ms:List Mv)(s:Stp):w2 ms [s]=yL ms s.b:=by simp [w2]
noncomputable def JD (a b:List Nat):Option (List Nat×List Nat):=if b <+: a then some (a.drop b.length,[]) else if a <+: b then some ([],b.drop a.length) else none
def Lags (a b:List Nat)(l:List Nat×List Nat):Prop:=(l.1=[]∨l.2=[])∧∃ c,a=c++l.1∧b=c++l.2
theorem Js {a b:List Nat}{l:List Nat×List Nat}(h:JD a b=some l):Lags a b l:=by
 unfold JD at h
 by_cases h1:b <+: a
 ·rw[if_pos h1] at h
  obtain⟨t,rfl⟩:=h1
  cases h
  exact⟨.inr rfl,b,by simp,by simp⟩
 ·rw[if_neg h1] at h
  by_cases h2:a <+: b
  ·rw[if_pos h2] at h
   obtain⟨t,rfl⟩:=h2
   cases h
   exact⟨.inl rfl,a,by simp,by simp⟩
  ·rw[if_neg h2] at h;cases h
theorem jad {a b:List Nat}{l:List Nat×List Nat}(h:Lags a b l):JD a b=some l:=by
 refine jP h fun h0 zc56=>?_;refine jo zc56 fun c zd57 ze58=>?_;subst zd57;subst ze58
 obtain⟨u,w⟩:=l
 unfold JD
 rcases h0 with h0 | h0 <;> dsimp only at h0 <;> subst h0
 ·dsimp only
  rw[List.append_nil]
  by_cases hw:w=[]
  ·subst hw;rw[if_pos (by simp)];simp
  ·rw[if_neg,if_pos (List.prefix_append _ _)]
   ·simp
   ·intro h
    have:=h.length_le
    rw[List.length_append] at this
    exact hw (List.length_eq_zero_iff.mp (by exact qa (jq ju jc jw (qA ja jc) ja qt this) (kg jO jw jc qt )))
 ·dsimp only
  rw[List.append_nil,if_pos (List.prefix_append _ _)];simp
theorem Lags.add {a b u w:List Nat}{l l':List Nat×List Nat}(h:Lags a b l)(h':Lags (l.1++u) (l.2++w) l'):Lags (a++u) (b++w) l':=by
 refine jP h fun J zf59=>?_;refine jo zf59 fun c zg60 zh61=>?_;subst zg60;subst zh61
 refine jP h' fun h0 zi62=>?_;refine jo zi62 fun d h1 h2=>?_
 exact⟨h0,c++d,by rw[List.append_assoc,h1,List.append_assoc],by rw[List.append_assoc,h2,List.append_assoc]⟩
theorem Lags.eq {a b:List Nat}{l:List Nat×List Nat}(h:Lags a b l):a=b↔l=([],[]):=by
 refine jP h fun h0 zj63=>?_;refine jo zj63 fun c zk64 zl65=>?_;subst zk64;subst zl65
 obtain⟨u,w⟩:=l
 constructor
 ·intro e
  have e:=List.append_cancel_left e
  dsimp only at h0 e ⊢
  rcases h0 with rfl | rfl
  ·rw[←e]
  ·rw[e]
 ·intro e
  cases e;rfl
theorem Lags.len {a b:List Nat}{l:List Nat×List Nat}(h:Lags a b l):l.1.length≤a.length∧l.2.length≤b.length:=by
 refine jP h fun J zm66=>?_;refine jo zm66 fun c zn67 zo68=>?_;subst zn67;subst zo68
 rw[List.length_append,List.length_append];exact⟨kg ju jc (qA ja jc) qt ,kg ju jc (qA ja jc) qt ⟩
theorem Lags.uniq {a b a' b' u w:List Nat}{l l':List Nat×List Nat}(h:Lags a b l)(h':Lags a' b' l')(e:a++u=b++w)(e':a'++u=b'++w):l=l':=by
 refine jP h fun h0 zp69=>?_;refine jo zp69 fun c zq70 zr71=>?_;subst zq70;subst zr71
 refine jP h' fun h0' zs72=>?_;refine jo zs72 fun c' zt73 zu74=>?_;subst zt73;subst zu74
 obtain⟨l1,l2⟩:=l
 obtain⟨k1,k2⟩:=l'
 rw[List.append_assoc,List.append_assoc] at e e'
 have e:=List.append_cancel_left e
 have e':=List.append_cancel_left e'
 dsimp only at h0 h0' e e'
 have n1:=congrArg List.length e
 have n2:=congrArg List.length e'
 rw[List.length_append,List.length_append] at n1 n2
 have nl:∀ x:List Nat,x=[]→x.length=0:=fun x h=>by rw[h];rfl
 have ln:∀ x:List Nat,x.length=0→x=[]:=fun x h=>List.length_eq_zero_iff.mp h
 rcases h0 with rfl | rfl <;> rcases h0' with rfl | rfl
 ·rw[List.nil_append] at e e'
  rw[e] at e'
  rw[List.append_cancel_right e']
 ·have:=ln l2 (by simp at n1 n2;exact qa (jt jE jc jw (qA jc ja) jd (qA je jd) ja qt (qi n1) (qe n2)) (kg jO jw jc qt ))
  have:=ln k1 (by simp at n1 n2;exact qa (jt jE jc jw (qA ja jd) je (qA jc je) jd qt (qi n1) (qe n2)) (kg jO jw jc qt ))
  subst l2;subst k1;rfl
 ·have:=ln l1 (by simp at n1 n2;exact qa (jt jE jc jw (qA jc ja) jd (qA je jd) ja qt (qe n1) (qi n2)) (kg jO jw jc qt ))
  have:=ln k2 (by simp at n1 n2;exact qa (jt jE jc jw (qA ja jd) je (qA jc je) jd qt (qe n1) (qi n2)) (kg jO jw jc qt ))
  subst l1;subst k2;rfl
 ·rw[List.nil_append] at e e'
  rw[←e] at e'
  rw[List.append_cancel_right e']
theorem lagF_none {a b u w:List Nat}(h:JD a b=none):a++u≠b++w:=by
 intro e
 have:a <+: b∨b <+: a:=by
  have h1:a <+: a++u:=List.prefix_append _ _
  have h2:b <+: a++u:=e▸List.prefix_append _ _
  exact List.prefix_or_prefix_of_prefix h1 h2
 unfold JD at h
 by_cases h1:b <+: a
 ·rw[if_pos h1] at h;cases h
 ·rw[if_neg h1] at h
  rcases this with h2 | h2
  ·rw[if_pos h2] at h;cases h
  ·exact h1 h2
noncomputable def yv:Fn:=⟨3,[
 .assign (.name 3) (.list []),
 .for (.name 4) (.sub (.var 1) (.sub (.var 2) (.lit (.int 0)))) [
  .ite (.cmp .eq (.sub (.sub (.var 0) (.var 4)) (.lit (.int 1))) (.lit (.str []))) [
   .expr (.meth .append (.var 3) [(.tup [(.var 4),(.lit .none),(.tup [(.sub (.sub (.var 0) (.var 4)) (.lit (.int 3))),(.sub (.var 2) (.lit (.int 1)))])])])] [
   .for (.name 5) (.sub (.var 1) (.sub (.var 2) (.lit (.int 1)))) [
    .ite (.cmp .eq (.sub (.sub (.var 0) (.var 5)) (.lit (.int 1))) (.sub (.sub (.var 0) (.var 4)) (.lit (.int 1)))) [
     .expr (.meth .append (.var 3) [(.tup [(.var 4),(.var 5),(.tup [(.sub (.sub (.var 0) (.var 4)) (.lit (.int 3))),(.sub (.sub (.var 0) (.var 5)) (.lit (.int 3)))])])])] []]]],
 .for (.name 5) (.sub (.var 1) (.sub (.var 2) (.lit (.int 1)))) [
  .ite (.cmp .eq (.sub (.sub (.var 0) (.var 5)) (.lit (.int 1))) (.lit (.str []))) [
   .expr (.meth .append (.var 3) [(.tup [(.lit .none),(.var 5),(.tup [(.sub (.var 2) (.lit (.int 0))),(.sub (.sub (.var 0) (.var 5)) (.lit (.int 3)))])])])] []],
 .ret (some (.var 3))]⟩
noncomputable def wF:Fn:=⟨3,[
 .assign (.name 3) (.dict1 (.tup [(.var 2),(.var 2)]) (.list [])),
 .assign (.name 4) (.list [(.tup [(.var 2),(.var 2)])]),
 .assign (.name 5) (.lit (.int 0)),
 .while (.cmp .lt (.var 5) (.bi .len [(.var 4)])) [
  .assign (.name 6) (.sub (.var 4) (.var 5)),
  .assign (.name 5) (.bin .add (.var 5) (.lit (.int 1))),
  .for (.name 7) (.call 12 [(.var 0),(.var 1),(.var 6)]) [
   .ite (.cmp .notIn (.sub (.var 7) (.lit (.int 2))) (.var 3)) [
    .store (.var 3) (.sub (.var 7) (.lit (.int 2))) (.list []),
    .expr (.meth .append (.var 4) [(.sub (.var 7) (.lit (.int 2)))])] [],
   .expr (.meth .append (.sub (.var 3) (.sub (.var 7) (.lit (.int 2)))) [(.tup [(.var 6),(.var 7)])])]],
 .ret (some (.var 3))]⟩
noncomputable def yP:Fn:=⟨2,[
 .assign (.name 2) .dict0,
 .assign (.name 3) (.list []),
 .for (.name 4) (.var 0) [
  .ite (.and (.cmp .isIn (.sub (.var 4) (.lit (.int 0))) (.var 1)) (.cmp .isIn (.sub (.var 4) (.lit (.int 1))) (.var 1))) [
   .store (.var 2) (.var 4) (.lit .none),
   .expr (.meth .append (.var 3) [(.var 4)])] []],
 .assign (.name 5) (.lit (.int 0)),
 .while (.cmp .lt (.var 5) (.bi .len [(.var 3)])) [
  .assign (.name 6) (.sub (.var 0) (.sub (.var 3) (.var 5))),
  .assign (.name 5) (.bin .add (.var 5) (.lit (.int 1))),
  .for (.tup [4,7]) (.var 6) [
   .ite (.cmp .notIn (.var 4) (.var 2)) [
    .store (.var 2) (.var 4) (.var 7),
    .expr (.meth .append (.var 3) [(.var 4)])] []]],
 .ret (some (.var 2))]⟩
noncomputable def yc:Fn:=⟨2,[
 .ite (.cmp .is (.var 1) (.lit .none)) [
  .ret (some (.lit (.str [])))] [],
 .ret (some (.sub (.sub (.var 0) (.var 1)) (.lit (.int 2))))]⟩
noncomputable def KH:Fn:=⟨2,[
 .ite (.meth .startswith (.var 0) [(.var 1)]) [
  .ret (some (.tup [(.slice (.var 0) (.bi .len [(.var 1)]) (.lit .none)),(.lit (.str []))]))] [],
 .ite (.meth .startswith (.var 1) [(.var 0)]) [
  .ret (some (.tup [(.lit (.str [])),(.slice (.var 1) (.bi .len [(.var 0)]) (.lit .none))]))] [],
 .ret (some (.lit .none))]⟩
noncomputable def wr:Fn:=⟨2,[
 .assign (.name 2) (.list []),
 .while (.cmp .isNot (.sub (.var 0) (.var 1)) (.lit .none)) [
  .assign (.tup [1,3]) (.sub (.var 0) (.var 1)),
  .expr (.meth .append (.var 2) [(.var 3)])],
 .expr (.meth .reverse (.var 2) []),
 .ret (some (.var 2))]⟩
noncomputable def wo:Fn:=⟨2,[
 .assign (.name 2) (.list []),
 .while (.cmp .isNot (.sub (.var 0) (.var 1)) (.lit .none)) [
  .expr (.meth .append (.var 2) [(.sub (.var 0) (.var 1))]),
  .assign (.name 1) (.sub (.sub (.var 0) (.var 1)) (.lit (.int 2)))],
 .ret (some (.var 2))]⟩
noncomputable def yt:Fn:=⟨2,[
 .assign (.name 2) (.comp (.comp (.sub (.var 9) (.var 6)) (.name 9) (.var 1) (some (.cmp .isNot (.sub (.var 9) (.var 6)) (.lit .none)))) (.name 6) (.tup [(.lit (.int 0)),(.lit (.int 1))]) none),
 .assign (.name 3) (.meth .join (.lit (.str [])) [(.comp (.sub (.sub (.var 0) (.var 6)) (.lit (.int 1))) (.name 6) (.sub (.var 2) (.lit (.int 0))) none)]),
 .assign (.name 4) (.comp (.meth .join (.lit (.str [])) [(.comp (.sub (.sub (.var 0) (.var 9)) (.lit (.int 2))) (.name 9) (.var 6) none)]) (.name 6) (.var 2) none),
 .ret (some (.tup [(.tup [(.var 3),(.sub (.var 2) (.lit (.int 0))),(.sub (.var 2) (.lit (.int 1)))]),(.cmp .ne (.sub (.var 4) (.lit (.int 0))) (.sub (.var 4) (.lit (.int 1))))]))]⟩
noncomputable def fn_gone_through:Fn:=⟨1,[
 .assign (.tup [1,2,3,4]) (.call 1 [(.var 0)]),
 .assign (.name 5) (.call 2 [(.var 1),(.var 4)]),
 .assign (.name 6) (.call 14 [(.call 13 [(.var 4),(.var 5),(.var 2)]),(.var 3)]),
 .assign (.name 7) .dict0,
 .assign (.name 8) .dict0,
 .assign (.name 9) (.list []),
 .ite (.cmp .isIn (.tup [(.var 2),(.var 2)]) (.var 6)) [
  .store (.var 7) (.tup [(.var 2),(.var 2)]) (.tup [(.lit (.str [])),(.lit (.str []))]),
  .store (.var 8) (.tup [(.var 2),(.var 2)]) (.lit .none),
  .expr (.meth .append (.var 9) [(.tup [(.var 2),(.var 2)])])] [],
 .assign (.name 10) (.lit (.int 0)),
 .while (.cmp .lt (.var 10) (.bi .len [(.var 9)])) [
  .assign (.name 11) (.sub (.var 9) (.var 10)),
  .assign (.name 10) (.bin .add (.var 10) (.lit (.int 1))),
  .ite (.and (.cmp .is (.sub (.var 6) (.var 11)) (.lit .none)) (.cmp .ne (.sub (.var 7) (.var 11)) (.tup [(.lit (.str [])),(.lit (.str []))]))) [
   .ret (some (.tup [(.var 7),(.sub (.call 19 [(.var 4),(.call 17 [(.var 8),(.var 11)])]) (.lit (.int 0)))]))] [],
  .for (.name 12) (.comp (.var 26) (.name 26) (.call 12 [(.var 4),(.var 5),(.var 11)]) (some (.cmp .isIn (.sub (.var 26) (.lit (.int 2))) (.var 6)))) [
   .assign (.name 13) (.call 16 [(.bin .add (.sub (.sub (.var 7) (.var 11)) (.lit (.int 0))) (.call 15 [(.var 4),(.sub (.var 12) (.lit (.int 0)))])),(.bin .add (.sub (.sub (.var 7) (.var 11)) (.lit (.int 1))) (.call 15 [(.var 4),(.sub (.var 12) (.lit (.int 1)))]))]),
   .ite (.or (.cmp .is (.var 13) (.lit .none)) (.and (.cmp .isIn (.sub (.var 12) (.lit (.int 2))) (.var 7)) (.cmp .ne (.sub (.var 7) (.sub (.var 12) (.lit (.int 2)))) (.var 13)))) [
    .ret (some (.tup [(.var 7),(.call 21 [(.var 4),(.var 6),(.var 8),(.var 11),(.var 12)])]))] [],
   .ite (.cmp .notIn (.sub (.var 12) (.lit (.int 2))) (.var 7)) [
    .store (.var 7) (.sub (.var 12) (.lit (.int 2))) (.var 13),
    .store (.var 8) (.sub (.var 12) (.lit (.int 2))) (.tup [(.var 11),(.var 12)]),
    .expr (.meth .append (.var 9) [(.sub (.var 12) (.lit (.int 2)))])] []]],
 .ret (some (.tup [(.var 7),(.lit .none)]))]⟩
noncomputable def yx:Fn:=⟨5,[
 .assign (.name 5) (.call 18 [(.var 1),(.sub (.var 4) (.lit (.int 2)))]),
 .assign (.tup [6,7]) (.call 19 [(.var 0),(.bin .add (.bin .add (.call 17 [(.var 2),(.var 3)]) (.list [(.var 4)])) (.var 5))]),
 .ite (.var 7) [
  .ret (some (.var 6))] [],
 .ret (some (.sub (.call 19 [(.var 0),(.bin .add (.call 17 [(.var 2),(.sub (.var 4) (.lit (.int 2)))]) (.var 5))]) (.lit (.int 0))))]⟩
noncomputable def zG:Fn:=⟨1,[
 .ret (some (.sub (.call 20 [(.var 0)]) (.lit (.int 1))))]⟩
noncomputable def Ji:Fn:=⟨1,[
 .assign (.tup [1,2]) (.call 20 [(.var 0)]),
 .ite (.cmp .isNot (.var 2) (.lit .none)) [
  .raise] [],
 .ret (some (.comp (.tup [(.sub (.var 7) (.lit (.int 0))),(.sub (.var 7) (.lit (.int 1))),(.sub (.sub (.var 1) (.var 7)) (.lit (.int 0))),(.sub (.sub (.var 1) (.var 7)) (.lit (.int 1)))]) (.name 7) (.bi .sorted [(.var 1)]) none))]⟩
noncomputable def spL (m:Nat)(ov:V)(x:N2)(l:Nat):Env:=[(0,.ref m),(1,ov),(2,wg x),(3,.ref l)]
section
variable {Φ:Nat→Option Fn}{d:Nat}{h:H}{Q:V→H→Prop}
theorem zd {m i:Nat}{ms:List Mv}{mv:Mv}(hm:h[m]?=some (.list (ms.map Mv.v)))(hl:ms.length≤1000)(hi:ms[i]?=some mv):WF h (.ref m) (.int i) mv.v:=jZ hm (Nat.lt_of_lt_of_le (List.getElem?_eq_some_iff.mp hi).1 (Nat.le_trans hl (by decide))) (by rw[List.getElem?_map,hi];rfl)
theorem jaa {m:Nat}{ov:V}{M:Ma}{x:N2}(h12:Φ 12=some yv)(ok:M.ok)(hm:h[m]?=some (.list (M.moves.map Mv.v)))(ho:OutAt h ov M)(hx1:x.1<M.n)(hx2:x.2<M.n)(hK:M.moves.length≤1000)
  (hb:(jQ M.moves x).length<10000000) (q:Q (.ref h.length) (h++[.list ((jQ M.moves x).map Stp.v)])):Calls Φ (d+1) 12 [.ref m,ov,wg x] h Q:=by
 refine yI ho fun Lo ro zv75 zw76=>?_;subst zv75;refine jP zw76 fun ho1 ho2=>?_
 refine⟨yv,h12,rfl,wS ?_⟩
 have mC:=jy (Φ:=Φ) d
 have hz:=kp
 have hn2:=ok.n2
 have hset:∀ a b,(h++[MO.list a]).set h.length (.list b)=h++[MO.list b]:=fun a b=>zX ..
 have ro1:∀ t,WF (h++t) (.ref Lo) (.int x.1) (.ref (ro+x.1)):=fun t=>jZ (jf ho1) (lt62 (Nat.le_trans (Nat.le_of_lt hx1) (Nat.le_trans hn2 (by decide)))) (by rw[List.getElem?_map,List.getElem?_range hx1];rfl)
 have ro2:∀ t,WF (h++t) (.ref Lo) (.int x.2) (.ref (ro+x.2)):=fun t=>jZ (jf ho1) (lt62 (Nat.le_trans (Nat.le_of_lt hx2) (Nat.le_trans hn2 (by decide)))) (by rw[List.getElem?_map,List.getElem?_range hx2];rfl)
 have lo:=Yo M.moves M.moves.length x.2
 have lt0:((wE M.moves x.1).flatMap (pA M.moves x)).length≤(jQ M.moves x).length:=by unfold jQ;rw[List.length_append];exact Nat.le_add_right ..
 have lt:∀ i,((wE M.moves x.1).take i |>.flatMap (pA M.moves x)).length≤(jQ M.moves x).length:=fun i=>by
  refine Nat.le_trans ?_ lt0
  conv=>rhs;rw[←List.take_append_drop i (wE M.moves x.1),List.flatMap_append,List.length_append]
  exact Nat.le_add_right ..
 refine zt (Za mC (jU (ro+x.1) _) (l:=wE M.moves x.1) (f:=jK) (ff:=fun i=>(pA M.moves x i).map Stp.v) (L₀:=spL m (.ref Lo) x h.length) (g:=[.ref (ro+x.1)]) (by exact rfl) (ji _ _) rfl ⟨ro1 _,trivial⟩ (kj (jf (ho2 _ hx1))) (fun out=>by rw[hset];exact jf (ho2 _ hx1)) (fun k i hi R hR=>?_) ?_)
 ·have l0:=lt k
  refine jo (kr.mp (List.mem_of_getElem? hi)) fun mv hmv hs=>?_
  rw[hset,List.nil_append] at hR
  rw[hset,List.nil_append]
  rw[←zV] at hR
  rw[←zV]
  have l1:(((wE M.moves x.1).take k |>.flatMap (pA M.moves x)).map Stp.v).length≤(jQ M.moves x).length:=by rw[List.length_map];exact l0
  generalize ((wE M.moves x.1).take k |>.flatMap (pA M.moves x)).map Stp.v=base at hR l1
  have fin:∀ {L':Env} {vs:List V},AllIn (spL m (.ref Lo) x h.length) L'→vs=base++(pA M.moves x i).map Stp.v→AB (Calls Φ d) L' (h++[MO.list vs]) [] R:=fun hin e=>A_nil fun ρ ag=>by rw[e];exact hR ρ (AllIn.ag ag hin)
  unfold pA at fin
  rw[wI hmv,zx hmv] at fin
  refine wi (g:=[mv.v]) rfl ⟨zd (jf hm) hK hmv,trivial⟩ (fun hc=>?_) fun hc=>?_
  ·have ht:mv.t=[]:=of_decide_eq_true hc
   rw[if_pos ht] at fin
   refine Jl rfl (ji _ _) (Nat.lt_of_le_of_lt l1 (Nat.lt_trans hb (by decide))) (g:=[mv.v]) rfl ⟨zd (jf hm) hK hmv,trivial⟩ ?_
   rw[hset]
   exact jG (fin (by exact rfl) rfl)
  ·have ht:mv.t≠[]:=of_decide_eq_false hc
   rw[if_neg ht] at fin
   refine JX mC (jU (ro+x.2) _) (l:=wE M.moves x.2) (f:=jK) (ga:=fun j=>if UA M.moves (some j)=mv.t then some (Stp.v ⟨some i,some j,(mv.q,qO M.moves j)⟩) else none) (L₀:=(4,.int i)::spL m (.ref Lo) x h.length) (g:=[.ref (ro+x.2)]) (by exact rfl) rfl rfl (ji _ _) (Nat.le_trans (Nat.add_le_add (Nat.le_trans l1 (Nat.le_of_lt hb)) (Nat.le_trans lo hK)) (by decide)) rfl ⟨ro2 _,trivial⟩ (kj (jf (ho2 _ hx2))) (fun out=>by rw[hset];exact jf (ho2 _ hx2)) (fun j hj out=>?_) ?_
   ·refine jo (kr.mp hj) fun nv hnv hns=>?_
    rw[hset]
    refine⟨[nv.v,mv.v],_,_,_,rfl,⟨zd (jf hm) hK hnv,zd (jf hm) hK hmv,trivial⟩,Ze (by rw[wI hnv]),fun w hw=>?_⟩
    obtain⟨_,rfl⟩:=UU hw
    rw[zx hnv]
    exact⟨[mv.v,nv.v],_,_,rfl,zd (jf hm) hK hmv,zd (jf hm) hK hnv,trivial⟩
   ·rw[hset]
    exact jG (fin (by exact rfl) (by rw[Un]))
 ·rw[hset,List.nil_append,←zV]
  have l1:(((wE M.moves x.1).flatMap (pA M.moves x)).map Stp.v).length≤(jQ M.moves x).length:=by rw[List.length_map];exact lt0
  have e2:(jQ M.moves x).map Stp.v=((wE M.moves x.1).flatMap (pA M.moves x)).map Stp.v++(wE M.moves x.2).filterMap (fun j=>if UA M.moves (some j)=[] then some (Stp.v ⟨none,some j,(x.1,qO M.moves j)⟩) else none):=by
   unfold jQ pB;rw[List.map_append,Un]
  rw[e2] at q
  generalize ((wE M.moves x.1).flatMap (pA M.moves x)).map Stp.v=base at q l1
  refine JX mC (jU (ro+x.2) _) (l:=wE M.moves x.2) (f:=jK) (ga:=fun j=>if UA M.moves (some j)=[] then some (Stp.v ⟨none,some j,(x.1,qO M.moves j)⟩) else none) (L₀:=spL m (.ref Lo) x h.length) (g:=[.ref (ro+x.2)]) (by exact rfl) rfl rfl (ji _ _) (Nat.le_trans (Nat.add_le_add (Nat.le_trans l1 (Nat.le_of_lt hb)) (Nat.le_trans lo hK)) (by decide)) rfl ⟨ro2 _,trivial⟩ (kj (jf (ho2 _ hx2))) (fun out=>by rw[hset];exact jf (ho2 _ hx2)) (fun j hj out=>?_) ?_
  ·refine jo (kr.mp hj) fun nv hnv hns=>?_
   rw[hset]
   refine⟨[nv.v],_,_,_,rfl,⟨zd (jf hm) hK hnv,trivial⟩,Ze (by rw[wI hnv]),fun w hw=>?_⟩
   obtain⟨_,rfl⟩:=UU hw
   rw[zx hnv]
   exact⟨[nv.v],_,_,rfl,zd (jf hm) hK hnv,trivial⟩
  ·rw[hset]
   exact kA (g:=[]) rfl trivial fun ρ=>q
end
theorem Wv {α β:Type}{f:α→β}:∀ {l:List α},(l.map f).Nodup→∀ {a b:α},a∈l→b∈l→f a=f b→a=b
 | [],_,_,_,h,_,_=>nomatch h
 | x::r,nd,a,b,ha,hb,e=>by
  rw[List.map_cons,List.nodup_cons] at nd
  rcases List.mem_cons.mp ha with ha | ha <;> rcases List.mem_cons.mp hb with hb | hb
  ·rw[ha,hb]
  ·exact absurd (List.mem_map.mpr ⟨b,hb,by rw[←e,ha]⟩) nd.1
  ·exact absurd (List.mem_map.mpr ⟨a,ha,by rw[e,hb]⟩) nd.1
  ·exact Wv nd.2 ha hb e
section
variable {α:Type}{k:α→N2}{w:α→V}
theorem Jk (l:List α):(l.map fun e=>(wg (k e),w e)).map (·.1)=(l.map k).map wg:=by rw[List.map_map,List.map_map];rfl
theorem wR {l:List α}{z:N2}:wg z∈(l.map fun e=>(wg (k e),w e)).map (·.1)↔z∈l.map k:=by rw[Jk];exact nv_mem nv2_inj
theorem kP:∀ {l:List α},(l.map k).Nodup→∀ {e:α},e∈l→wH (l.map fun e=>(wg (k e),w e)) (wg (k e))=some (w e)
 | [],_,_,h=>nomatch h
 | f::r,nd,e,h=>by
  rw[List.map_cons,List.nodup_cons] at nd
  unfold wH
  rw[List.map_cons,List.find?_cons]
  by_cases hk:k f=k e
  ·rw[decide_eq_true (show wg (k f)=wg (k e) by rw[hk])]
   rcases List.mem_cons.mp h with rfl | h
   ·rfl
   ·exact absurd (hk▸List.mem_map.mpr ⟨e,h,rfl⟩) nd.1
  ·rw[decide_eq_false (fun x=>hk (nv2_inj _ _ x))]
   rcases List.mem_cons.mp h with rfl | h
   ·exact absurd rfl hk
   ·exact kP nd.2 h
theorem yW {l:List α}{z:N2}{v:V}(hz:z ∉ l.map k):kB (l.map fun e=>(wg (k e),w e)) (wg z) v=(l.map fun e=>(wg (k e),w e))++[(wg z,v)]:=by
 unfold kB
 rw[dget_keys,decide_eq_false fun h=>hz (wR.mp h),if_neg Bool.false_ne_true]
end
noncomputable def pv (y:N2×Stp):V:=.tup [wg y.1,y.2.v]
noncomputable def kvE (E:List (N2×Nat)):List (V×V):=E.map fun e=>(wg e.1,.ref e.2)
noncomputable def zP (T:List (N2×Stp))(z:N2):List (N2×Stp):=T.filter fun y=>decide (y.2.to=z)
structure LedH (h H:Tw.H)(dn rn:Nat)(E:List (N2×Nat))(T:List (N2×Stp)):Prop where
 pre:h <+: H
 dict:∃ ver,H[dn]?=some (.dict (kvE E) ver)
 row:H[rn]?=some (.list (E.map fun e=>wg e.1))
 nd:(E.map (·.2)).Nodup
 off:∀ e∈E,h.length≤e.2∧e.2≠dn∧e.2≠rn
 cell:∀ e∈E,H[e.2]?=some (.list ((zP T e.1).map pv))
section
variable {h H:Tw.H}{dn rn:Nat}{E:List (N2×Nat)}{T:List (N2×Stp)}
theorem LedH.app (x:LedH h H dn rn E T)(t:Tw.H):LedH h (H++t) dn rn E T:=⟨x.pre.trans (List.prefix_append _ _),x.dict.imp fun J=>jf,jf x.row,x.nd,x.off,fun e he=>jf (x.cell e he)⟩
theorem LedH.new (x:LedH h H dn rn E T)(hd:h.length≤dn)(hr:h.length≤rn)(hdr:dn≠rn){z:N2}(hz:z ∉ E.map (·.1))(hT:∀ y∈T,y.2.to≠z)(ver:Nat):LedH h (((H++[MO.list []]).set dn (MO.dict (kB (kvE E) (wg z) (.ref H.length)) ver)).set rn (MO.list ((E.map fun e:N2×Nat=>wg e.1)++[wg z]))) dn rn (E++[(z,H.length)]) T:=by
 obtain⟨v0,hdict⟩:=x.dict
 have ld:=wK hdict
 have lr:=wK x.row
 have lh:=x.pre.length_le
 have le:∀ e∈E,e.2<H.length:=fun e he=>wK (x.cell e he)
 refine⟨wz (wz (x.pre.trans (List.prefix_append _ _)) hd _) hr _,⟨ver,?_⟩,?_,?_,?_,?_⟩
 ·rw[List.getElem?_set_ne (Ne.symm hdr),List.getElem?_set_self (by rw[List.length_append];exact jq jr jg (qA ja jd) jg ja qt ld)]
  unfold kvE
  rw[yW (k:=fun e:N2×Nat=>e.1) hz,List.map_append];rfl
 ·rw[List.getElem?_set_self (by rw[List.length_set,List.length_append];exact jq jr jg (qA ja jd) jg ja qt lr),List.map_append];rfl
 ·rw[List.map_append,List.nodup_append]
  refine⟨x.nd,by simp,fun a ha b hb e=>?_⟩
  refine jo (List.mem_map.mp ha) fun f hf zx77=>?_;subst zx77
  have:=le f hf
  simp at hb
  exact WO jr jc ja jA jd jd jc qt (qi e) this (qi hb)
 ·intro e he
  rcases List.mem_append.mp he with he | he
  ·exact x.off e he
  ·rw[List.mem_singleton.mp he];exact⟨lh,by show H.length≠dn;exact fun e0=>kc ju jg ja ja jc qt ld (qe e0),by show H.length≠rn;exact fun e0=>kc ju jg ja ja jc qt lr (qe e0)⟩
 ·intro e he
  rcases List.mem_append.mp he with he | he
  ·have o:=x.off e he
   rw[List.getElem?_set_ne (Ne.symm o.2.2),List.getElem?_set_ne (Ne.symm o.2.1)]
   exact jf (x.cell e he)
  ·rw[List.mem_singleton.mp he]
   rw[List.getElem?_set_ne (by show rn≠H.length;exact fun e0=>kc ju jg ja ja jc qt lr (qi e0)),List.getElem?_set_ne (by show dn≠H.length;exact fun e0=>kc ju jg ja ja jc qt ld (qi e0))]
   have:zP T z=[]:=by
    unfold zP
    rw[List.filter_eq_nil_iff]
    intro y hy h
    exact hT y hy (of_decide_eq_true h)
   show(H++[MO.list []])[H.length]?=some (.list ((zP T z).map pv))
   rw[this];exact ji _ _
theorem LedH.log (x:LedH h H dn rn E T)(kd:(E.map (·.1)).Nodup){e:N2×Nat}(he:e∈E){y:N2×Stp}(hy:y.2.to=e.1):LedH h (H.set e.2 (.list ((zP T e.1).map pv++[pv y]))) dn rn E (T++[y]):=by
 have o:=x.off e he
 refine⟨wz x.pre o.1 _,x.dict.imp fun v hv=>by rw[List.getElem?_set_ne o.2.1];exact hv,by rw[List.getElem?_set_ne o.2.2];exact x.row,x.nd,x.off,fun f hf=>?_⟩
 have happ:∀ z,zP (T++[y]) z=zP T z++if y.2.to=z then [y] else []:=fun z=>by
  unfold zP
  rw[List.filter_append]
  by_cases h:y.2.to=z <;> simp [h]
 by_cases hfe:f.2=e.2
 ·have:f=e:=Wv x.nd hf he hfe
  subst this
  rw[List.getElem?_set_self (wK (x.cell f hf)),happ,if_pos hy,List.map_append];rfl
 ·rw[List.getElem?_set_ne (Ne.symm hfe),x.cell f hf,happ]
  by_cases hyf:y.2.to=f.1
  ·exfalso
   apply hfe
   rw[Wv kd hf he (by rw[←hyf,hy])]
  ·rw[if_neg hyf,List.append_nil]
end
noncomputable def nxt (ms:List Mv)(x:N2):List N2:=(jQ ms x).map (·.to)
theorem yD {ms:List Mv}{x y:N2}:y∈nxt ms x↔∃ s∈jQ ms x,s.to=y:=List.mem_map
theorem stps_in {M:Ma}(ok:M.ok){x:N2}{s:Stp}(hs:s∈jQ M.moves x)(h1:x.1<M.n)(h2:x.2<M.n):s.to.1<M.n∧s.to.2<M.n:=by
 cases kW.mp hs with
 | one hm _ _=>exact⟨(ok.m1 _ (List.mem_of_getElem? hm)).2.1,h2⟩
 | both hm _ _ hn _ _=>exact⟨(ok.m1 _ (List.mem_of_getElem? hm)).2.1,(ok.m1 _ (List.mem_of_getElem? hn)).2.1⟩
 | two hn _ _=>exact⟨h1,(ok.m1 _ (List.mem_of_getElem? hn)).2.1⟩
theorem yU {M:Ma}(ok:M.ok){b x:N2}(hb:b.1<M.n∧b.2<M.n)(r:Reach b (nxt M.moves) x):x.1<M.n∧x.2<M.n:=by
 induction r with
 | nil=>exact hb
 | step _ hy ih =>
  refine jo (yD.mp hy) fun s hs zy78=>?_;subst zy78
  exact stps_in ok hs ih.1 ih.2
structure Led (h:Tw.H)(dn:Nat)(ms:List Mv)(b:N2)(E:List (N2×Nat))(T:List (N2×Stp)):Prop where
 dict:∃ ver,h[dn]?=some (.dict (kvE E) ver)
 kd:(E.map (·.1)).Nodup
 reach:∀ x,x∈E.map (·.1)↔Reach b (nxt ms) x
 cell:∀ e∈E,h[e.2]?=some (.list ((zP T e.1).map pv))
 tr:∀ y,y∈T↔y.1∈E.map (·.1)∧y.2∈jQ ms y.1
noncomputable def ldL (m:Nat)(ov:V)(dn rn a:Nat):Env:=[(0,.ref m),(1,ov),(3,.ref dn),(4,.ref rn),(5,.int a)]
structure Bf (ms:List Mv)(b:N2)(R:List N2)(a:Nat):Prop where
 nd:R.Nodup
 head:b∈R
 reach:∀ x∈R,Reach b (nxt ms) x
 clos:∀ i x,i<a→R[i]?=some x→∀ y∈nxt ms x,y∈R
theorem Bf.done {ms:List Mv}{b:N2}{R:List N2}{a:Nat}(m:Bf ms b R a)(ha:R.length≤a)(x:N2):x∈R↔Reach b (nxt ms) x:=by
 refine⟨m.reach x,fun r=>?_⟩
 induction r with
 | nil=>exact m.head
 | step _ hy ih =>
  obtain⟨i,hi⟩:=List.mem_iff_getElem?.mp ih
  exact m.clos i _ (by have:=(List.getElem?_eq_some_iff.mp hi).1;exact jt jr jg ja jd ja jg jd qt ha this) hi _ hy
def LdI (h:Tw.H)(ms:List Mv)(b:N2)(K a rr:Nat)(x:N2)(E:List (N2×Nat))(i:Nat)(H:Tw.H):Prop:=∃ E' T',E <+: E'∧LedH h H (h.length+1) (h.length+2) E' T'∧Bf ms b (E'.map (·.1)) a∧(∀ y∈(jQ ms x).take i,y.to∈E'.map (·.1))∧T'.length≤a * K+i∧(∀ y,y∈T'↔(y.1∈(E'.map (·.1)).take a∧y.2∈jQ ms y.1)∨(y.1=x∧y.2∈(jQ ms x).take i))∧(∀ f∈E',f.2≠rr)∧H[rr]?=some (.list ((jQ ms x).map Stp.v))
def LwI (h:Tw.H)(M:Ma)(b K n a:Nat)(H:Tw.H):Prop:=∃ E T,n=M.n * M.n - a∧a≤E.length∧LedH h H (h.length+1) (h.length+2) E T∧Bf M.moves (b,b) (E.map (·.1)) a∧T.length≤a * K∧(∀ y,y∈T↔y.1∈(E.map (·.1)).take a∧y.2∈jQ M.moves y.1)
theorem LdI.row {h:Tw.H}{ms:List Mv}{b:N2}{K a rr:Nat}{x:N2}{E:List (N2×Nat)}{i:Nat}{H:Tw.H}(z:LdI h ms b K a rr x E i H):H[rr]?=some (.list ((jQ ms x).map Stp.v)):=by
 refine Z27 z fun J J J J J J J J J g=>?_
 exact g
section
variable {Φ:Nat→Option Fn}{d:Nat}{h:H}{Q:V→H→Prop}
theorem led_ok {m:Nat}{ov:V}{M:Ma}{b K:Nat}(h12:Φ 12=some yv)(h13:Φ 13=some wF)(ok:M.ok)(hm:h[m]?=some (.list (M.moves.map Mv.v)))(ho:OutAt h ov M)(hb:b<M.n)(hK:∀ x,(jQ M.moves x).length≤K)(hB:M.n * M.n * K<10000000)
  (q:∀ h' dn E T,h <+: h'→Led h' dn M.moves (b,b) E T→Q (.ref dn) h'):Calls Φ (d+2) 13 [.ref m,ov,.int b] h Q:=by
 have hn2:=ok.n2
 have hz:=kp
 have mC:=jy (Φ:=Φ) (d+1)
 have hnn:M.n * M.n≤10000:=Nat.mul_le_mul hn2 hn2
 have inB:∀ {R:List N2},R.Nodup→(∀ x∈R,Reach (b,b) (nxt M.moves) x)→R.length≤M.n * M.n:=fun {R} nd hr=>by
  have:=yw R (Zx M.n M.n) nd fun x hx=>by
   obtain⟨h1,h2⟩:=yU ok ⟨hb,hb⟩ (hr x hx)
   exact Ku h1 h2
  rw[Kr] at this;exact this
 refine⟨wF,h13,rfl,wS (jL mC fun ρ ag=>?_)⟩
 rw[e_dict1,jak,jJ,wh,ag 2 _ rfl,jR,jJ,wh,ag 2 _ rfl,jR,kx,zN,kx]
 refine⟨rfl,fun ver=>A_list (g:=[]) rfl trivial (kY (g:=[]) rfl trivial ?_)⟩
 generalize hH0:h++[MO.list []]++[MO.dict [(V.tup [.int b,.int b],.ref h.length)] ver]++[MO.list [V.tup [.int b,.int b]]]=H0
 have l1:(h++[MO.list []]).length=h.length+1:=by simp
 have l2:(h++[MO.list []]++[MO.dict [(V.tup [.int b,.int b],.ref h.length)] ver]).length=h.length+2:=by simp
 rw[l1,l2]
 have x0:LedH h H0 (h.length+1) (h.length+2) [((b,b),h.length)] []:=by
  subst hH0
  refine⟨by rw[List.append_assoc,List.append_assoc];exact List.prefix_append _ _,⟨ver,?_⟩,?_,by simp,?_,?_⟩
  ·exact jf (by rw[←l1];exact ji _ _)
  ·rw[←l2];exact ji _ _
  ·intro e he;rw[List.mem_singleton.mp he];exact⟨Nat.le_refl _,ne01 _,ne02 _⟩
  ·intro e he;rw[List.mem_singleton.mp he];exact jf (jf (ji _ _))
 clear hH0
 refine yQ mC (fun a:Nat=>ldL m ov (h.length+1) (h.length+2) a) (fun n a H=>LwI h M b K n a H) (M.n * M.n) 0 (by exact rfl) ⟨_,_,rfl,Nat.zero_le _,x0,⟨by simp,by simp,fun x hx=>by simp at hx;rw[hx];exact .nil,fun i x hi=>absurd hi (Nat.not_lt_zero _)⟩,by simp,fun y=>by simp⟩ ?_
 intro n a H K0 kN0 kR0;rintro⟨E,T,rfl,ha,x,bf,hT,tr⟩
 have hE:=inB bf.nd bf.reach
 rw[List.length_map] at hE
 refine⟨[.int E.length],_,_,_,rfl,⟨fun Q q=>by rw[UP x.row,List.length_map];exact q,trivial⟩,fun hlt=>?_,fun hge=>?_⟩
 ·have hlt:a<E.length:=Jz hlt
  obtain⟨e,he⟩:∃ e,E[a]?=some e:=⟨_,List.getElem?_eq_getElem hlt⟩
  have hem:=List.mem_of_getElem? he
  have hek:(E.map (·.1))[a]?=some e.1:=by rw[List.getElem?_map,he];rfl
  obtain⟨i1,i2⟩:=yU ok ⟨hb,hb⟩ (bf.reach e.1 (List.mem_of_getElem? hek))
  refine kY (g:=[wg e.1]) rfl ⟨jZ x.row (lt62 (Nat.le_trans (Nat.le_of_lt hlt) (Nat.le_trans hE hnn))) (by rw[List.getElem?_map,he];rfl),trivial⟩ (kY (g:=[]) rfl trivial (A_forE mC (jC (g:=[]) rfl trivial ?_)))
  have hKe:=hK e.1
  have hKb:K<10000000:=by
   have:K≤M.n * M.n * K:=Nat.le_mul_of_pos_left _ (Nat.mul_pos ok.n1 ok.n1)
   exact jt ju jg (qN 10000000) jA (qN 10000000) jc ja qt hB this
  refine jaa h12 ok (js x.pre hm) (ho.pre x.pre) i1 i2 ok.l1 (by exact jt ju jg (qN 10000000) jc ja jA (qN 10000000) qt hKe hKb) ?_
  have x:=x.app [.list ((jQ M.moves e.1).map Stp.v)]
  generalize hHr:H++[MO.list ((jQ M.moves e.1).map Stp.v)]=H1 at x
  have g1:H1[H.length]?=some (.list ((jQ M.moves e.1).map Stp.v)):=by rw[←hHr];exact ji _ _
  have nr:∀ f∈E,f.2≠H.length:=fun f hf=>Nat.ne_of_lt (wK (‹LedH h H _ _ E T›.cell f hf))
  have lH:h.length+2<H.length:=wK ‹LedH h H _ _ E T›.row
  clear hHr
  generalize H.length=rr at g1 nr lH ⊢
  refine ye mC (jU rr ((jQ M.moves e.1).map Stp.v)) (fun _:Unit=>(6,wg e.1)::ldL m ov (h.length+1) (h.length+2) (a+1)) (fun i J H=>LdI h M.moves (b,b) K a rr e.1 E i H) () (by exact rfl) (jB (g:=[]) rfl trivial ⟨kj g1,E,T,List.prefix_refl _,x,bf,fun y hy=>(nomatch hy),hT,fun y=>by rw[tr y];exact⟨.inl,fun z=>z.elim id fun z=>nomatch z.2⟩,nr,g1⟩) (fun i J H x=>LdI.row x) ?_ ?_
  ·intro i v _ H K1 kN1 kR1 hv;rintro⟨E',T',pE,x,bf',hin,hT',tr',nr',g1⟩
   refine kL (wJ hv) fun s hs zz79 hil=>?_;subst zz79
   have hE':=inB bf'.nd bf'.reach
   rw[List.length_map] at hE'
   have hsm:=List.mem_of_getElem? hs
   have hst:∀ y,y∈(jQ M.moves e.1).take (i+1)↔y∈(jQ M.moves e.1).take i∨y=s:=fun y=>by rw[List.take_add_one,hs,List.mem_append];exact or_congr Iff.rfl List.mem_singleton
   have haK:(a+1) * K≤M.n * M.n * K:=Nat.mul_le_mul_right K (by exact jt jr jg ja jd ja jg jd qt hE hlt)
   rw[Nat.succ_mul] at haK
   have tgt:∀ y∈T',y.2.to∈E'.map (·.1):=fun y hy=>by
    rcases (tr' y).mp hy with ⟨h1,h2⟩ | ⟨h1,h2⟩
    ·obtain⟨j,hj⟩:=List.mem_iff_getElem?.mp h1
     have lj:=(List.getElem?_eq_some_iff.mp hj).1
     rw[List.length_take] at lj
     rw[List.getElem?_take_of_lt (by exact YX lj)] at hj
     exact bf'.clos j _ (by exact YX lj) hj _ (yD.mpr ⟨_,h2,rfl⟩)
    ·exact hin _ h2
   have fin:∀ {H2:Tw.H} {E2:List (N2×Nat)},E <+: E2→E' <+: E2→LedH h H2 (h.length+1) (h.length+2) E2 T'→Bf M.moves (b,b) (E2.map (·.1)) a→s.to∈E2.map (·.1)→(∀ f∈E2,f.2≠rr)→H2[rr]?=some (.list ((jQ M.moves e.1).map Stp.v)) →
     AB (Calls Φ (d+1)) ((7,s.v)::(6,wg e.1)::ldL m ov (h.length+1) (h.length+2) (a+1)) H2 [.expr (.meth .append (.sub (.var 3) (.sub (.var 7) (.lit (.int 2)))) [(.tup [(.var 6),(.var 7)])])] K1:=by
    intro H2 E2 p1 p2 x2 bf2 hto nr2 g2
    refine jo (List.mem_map.mp hto) fun f hf hft=>?_
    obtain⟨ver2,hd2⟩:=x2.dict
    have tk:(E2.map (·.1)).take a=(E'.map (·.1)).take a:=by
     obtain⟨t,rfl⟩:=p2
     have:a≤(E'.map (·.1)).length:=by have:=pE.length_le;rw[List.length_map];exact jt jr jc ja jc jd jd ja qt ha this
     rw[List.map_append,List.take_append_of_le_length this]
    refine A_appE (g₂:=[.ref f.2]) rfl ⟨wO hd2 rfl ?_,trivial⟩ (x2.cell f hf) ?_ (g:=[]) rfl trivial ?_
    ·rw[←hft];exact kP (k:=fun e:N2×Nat=>e.1) bf2.nd hf
    ·rw[List.length_map]
     have:=List.length_filter_le (fun y:N2×Stp=>decide (y.2.to=f.1)) T'
     unfold zP;exact qp7 qc8 jg ja jD (qN 10000000) (qN 16777216) ja je jl jM (qA wc zB) qs7 je (qA wc jl) jd jc jM qt hB (qi hz) hKe hT' hil haK this
    have x3:=x2.log bf2.nd hf (y:=(e.1,s)) hft.symm
    refine kz kN1 () (by exact rfl) ⟨E2,T'++[(e.1,s)],p1,x3,bf2,fun y hy=>?_,by rw[List.length_append];show _+1≤_;exact jq jr jg (qA ja jD) jc (qA ja jd) qt hT',fun y=>?_,nr2,by rw[List.getElem?_set_ne (nr2 f hf)];exact g2⟩
    ·rcases (hst y).mp hy with hy | hy
     ·obtain⟨t,rfl⟩:=p2
      rw[List.map_append];exact List.mem_append_left _ (hin y hy)
     ·rw[hy];exact hto
    ·rw[List.mem_append,tr' y,tk,or_assoc,hst y.2]
     refine or_congr Iff.rfl ⟨fun z=>?_,fun z=>?_⟩
     ·rcases z with z | z
      ·exact⟨z.1,.inl z.2⟩
      ·rw[List.mem_singleton.mp z];exact⟨rfl,.inr rfl⟩
     ·rcases z with ⟨z1,z2 | z2⟩
      ·exact .inl ⟨z1,z2⟩
      ·exact .inr (List.mem_singleton.mpr (Prod.ext z1 z2))
   obtain⟨ver',hd'⟩:=x.dict
   refine wi (g:=[.bool (!decide (s.to∈E'.map (·.1)))]) rfl ⟨UO hd' rfl wR,trivial⟩ (fun hc=>?_) fun hc=>jG (fin pE (List.prefix_refl _) x bf' (Yx hc) nr' g1)
   have hnew:s.to ∉ E'.map (·.1):=ZW hc
   refine A_putL rfl hd' (g₂:=[]) rfl trivial rfl (by unfold kvE;rw[List.length_map];exact yM (Nat.le_trans hE' hnn)) fun ver2=>Jl rfl (by rw[List.getElem?_set_ne (ne12 _)];exact jf x.row) (by rw[List.length_map];exact yM (Nat.le_trans hE' hnn)) (g:=[]) rfl trivial (jG ?_)
   have lH2:=wK g1
   have xn:=x.new (Nat.le_add_right ..) (Nat.le_add_right ..) (ne12 _) hnew (fun y hy e=>hnew (e▸tgt y hy)) ver2
   refine fin (pE.trans (List.prefix_append _ _)) (List.prefix_append _ _) xn ?_ ?_ ?_ ?_
   ·rw[List.map_append]
    refine⟨List.nodup_append.mpr ⟨bf'.nd,by simp,fun u hu w hw e=>hnew ?_⟩,List.mem_append_left _ bf'.head,fun u hu=>?_,fun j u hj hu w hw=>List.mem_append_left _ ?_⟩
    ·have:w=s.to:=by simpa using hw
     rw[←this,←e];exact hu
    ·rcases List.mem_append.mp hu with hu | hu
     ·exact bf'.reach u hu
     ·have:u=s.to:=by simpa using hu
      rw[this]
      exact .step (bf.reach e.1 (List.mem_of_getElem? hek)) (yD.mpr ⟨s,hsm,rfl⟩)
    ·rw[List.getElem?_append_left (by have:=pE.length_le;rw[List.length_map];exact jV jE jg ja jD je jg jd je ja qt hlt hj this)] at hu
     exact bf'.clos j u hj hu w hw
   ·rw[List.map_append];exact List.mem_append_right _ (List.mem_singleton.mpr rfl)
   ·intro f hf
    rcases List.mem_append.mp hf with hf | hf
    ·exact nr' f hf
    ·rw[List.mem_singleton.mp hf];exact Nat.ne_of_gt lH2
   ·rw[List.getElem?_set_ne (Nat.ne_of_lt lH),List.getElem?_set_ne (Nat.ne_of_lt (Nat.lt_trans (Nat.lt_succ_self _) lH))]
    exact jf g1
  ·intro _ H zv65
   refine Z27 zv65 fun E' T' pE x bf' hin hT' tr' nr' g1=>?_
   rw[List.length_map] at hin hT' tr'
   rw[List.take_length] at hin tr'
   have hE':=inB bf'.nd bf'.reach
   rw[List.length_map] at hE'
   have lE:=pE.length_le
   have he':(E'.map (·.1))[a]?=some e.1:=by
    obtain⟨t,rfl⟩:=pE
    rw[List.map_append,List.getElem?_append_left (by rw[List.length_map];exact hlt)];exact hek
   refine yY kN0 (M.n * M.n - (a+1)) (a+1) (by exact jt jE jg ja (qA jc jD) je je (qA ja jd) qt (qx (jt jr jg ja jd ja jg jd qt hE hlt)) qw) (by exact rfl) ⟨E',T',rfl,by exact jt jr jg ja jg jd jd ja qt hlt lE,x,⟨bf'.nd,bf'.head,bf'.reach,fun j u hj hu w hw=>?_⟩,by rw[Nat.succ_mul];exact jt jE jc (qA ja jd) je jd jc (qA ja je) qt hKe hT',fun y=>?_⟩
   ·by_cases hja:j=a
    ·rw[hja,he'] at hu
     cases hu
     refine jo (yD.mp hw) fun s hs za80=>?_;subst za80
     exact hin s hs
    ·exact bf'.clos j u (by exact oq115 hj hja) hu w hw
   ·rw[tr' y,List.take_add_one,he',List.mem_append]
    constructor
    ·rintro(⟨z1,z2⟩ | ⟨z1,z2⟩)
     ·exact⟨.inl z1,z2⟩
     ·exact⟨.inr (List.mem_singleton.mpr z1),z1▸z2⟩
    ·rintro⟨z1 | z1,z2⟩
     ·exact .inl ⟨z1,z2⟩
     ·have z1:=List.mem_singleton.mp z1
      exact .inr ⟨z1,z1▸z2⟩
 ·have hge:E.length≤a:=JE hge
  have:a=E.length:=Nat.le_antisymm ha hge
  subst this
  have hl:(E.map (·.1)).length=E.length:=List.length_map ..
  refine kA (g:=[]) rfl trivial fun ρ=>q H _ E T x.pre ⟨x.dict,bf.nd,bf.done (by exact qe hl),x.cell,fun y=>?_⟩
  rw[tr y,←hl,List.take_length]
end
noncomputable def osV (o:Option Stp):V:=match o with | none=>.none | some s=>s.v
noncomputable def kvF (F:List (N2×Option Stp)):List (V×V):=F.map fun e=>(wg e.1,osV e.2)
noncomputable def Kl (F:List (N2×Option Stp)):List V:=F.map fun e=>wg e.1
def wm (es:List Nat)(x:N2):Prop:=x.1∈es∧x.2∈es
noncomputable instance (es:List Nat):DecidablePred (wm es):=fun J=>Classical.propDecidable _
inductive Co (ms:List Mv)(es:List Nat):N2→Prop
 | fin {x:N2}:wm es x→Co ms es x
 | step {x:N2} {s:Stp}:s∈jQ ms x→Co ms es s.to→Co ms es x
structure Rs (ms:List Mv)(es:List Nat)(R:List N2)(F:List (N2×Option Stp))(a:Nat):Prop where
 nd:(F.map (·.1)).Nodup
 sub:∀ e∈F,e.1∈R
 fin:∀ x∈R,wm es x→x∈F.map (·.1)
 val:∀ (i:Nat) x o,F[i]?=some (x,o)→(o=none∧wm es x)∨∃ s,o=some s∧¬ wm es x∧s∈jQ ms x∧∃ (j:Nat) (o':Option Stp),j<i∧F[j]?=some (s.to,o')
 clos:∀ (i:Nat) x o,i<a→F[i]?=some (x,o)→∀ p∈R,∀ s∈jQ ms p,s.to=x→p∈F.map (·.1)
structure Rst (h:Tw.H)(fd:Nat)(ms:List Mv)(es:List Nat)(b:N2)(F:List (N2×Option Stp)):Prop where
 dict:∃ ver,h[fd]?=some (.dict (kvF F) ver)
 nd:(F.map (·.1)).Nodup
 val:∀ (i:Nat) x o,F[i]?=some (x,o)→(o=none∧wm es x)∨∃ s,o=some s∧¬ wm es x∧s∈jQ ms x∧∃ (j:Nat) (o':Option Stp),j<i∧F[j]?=some (s.to,o')
 mem:∀ x,x∈F.map (·.1)↔Reach b (nxt ms) x∧Co ms es x
theorem Rs.done {ms:List Mv}{es:List Nat}{R:List N2}{F:List (N2×Option Stp)}{a:Nat}{b:N2}(r:Rs ms es R F a)(ha:F.length≤a)(hR:∀ x,x∈R↔Reach b (nxt ms) x)(x:N2):x∈F.map (·.1)↔Reach b (nxt ms) x∧Co ms es x:=by
 have co:∀ (n i:Nat) x o,i<n→F[i]?=some (x,o)→Co ms es x:=by
  intro n
  induction n with
  | zero=>intro i x o hi;exact absurd hi (Nat.not_lt_zero _)
  | succ n ih =>
   intro i x o hi hx
   rcases r.val i x o hx with ⟨_,hf⟩ | ⟨s,_,_,hs,j,o',hj,hjx⟩
   ·exact .fin hf
   ·exact .step hs (ih j s.to o' (by exact jt jr jg ja jD jA jg jd qt hi hj) hjx)
 constructor
 ·intro hx
  refine jo (List.mem_map.mp hx) fun e he zb81=>?_;subst zb81
  refine⟨(hR _).mp (r.sub e he),?_⟩
  obtain⟨i,hi⟩:=List.mem_iff_getElem?.mp he
  exact co (i+1) i e.1 e.2 (by exact Nat.le_refl _) hi
 ·rintro⟨h1,h2⟩
  induction h2 with
  | fin hf=>exact r.fin _ ((hR _).mpr h1) hf
  | step hs _ ih =>
   have:=ih (.step h1 (yD.mpr ⟨_,hs,rfl⟩))
   refine jo (List.mem_map.mp this) fun e he hee=>?_
   obtain⟨i,hi⟩:=List.mem_iff_getElem?.mp he
   exact r.clos i e.1 e.2 (by have:=(List.getElem?_eq_some_iff.mp hi).1;exact jt jr jg ja jd ja jg jd qt ha this) hi _ ((hR _).mpr h1) _ hs hee.symm
theorem Rs.put {ms:List Mv}{es:List Nat}{R:List N2}{F:List (N2×Option Stp)}{a:Nat}(r:Rs ms es R F a){x y:N2}{s:Stp}{o:Option Stp}(ha:a<F.length)(hx:F[a]?=some (x,o))(hy:y∈R)(hs:s∈jQ ms y)(hto:s.to=x)(hn:y ∉ F.map (·.1)):Rs ms es R (F++[(y,some s)]) a where
 nd:=by
  rw[List.map_append]
  refine List.nodup_append.mpr ⟨r.nd,by simp,fun u hu w hw e=>hn ?_⟩
  have:w=y:=by simpa using hw
  rw[←this,←e];exact hu
 sub:=fun e he=>by
  rcases List.mem_append.mp he with he | he
  ·exact r.sub e he
  ·rw[List.mem_singleton.mp he];exact hy
 fin:=fun z hz hf=>by rw[List.map_append];exact List.mem_append_left _ (r.fin z hz hf)
 val:=fun i z o' hz=>by
  rcases Nat.lt_or_ge i F.length with h1 | h1
  ·rw[List.getElem?_append_left h1] at hz
   rcases r.val i z o' hz with h | ⟨s',e1,e2,e3,j,o2,hj,hj2⟩
   ·exact .inl h
   ·exact .inr ⟨s',e1,e2,e3,j,o2,hj,by rw[List.getElem?_append_left (by exact jt jr jg ja jD ja jg jd qt h1 hj)];exact hj2⟩
  ·rw[List.getElem?_append_right h1] at hz
   have h2:=(List.getElem?_eq_some_iff.mp hz).1
   have:i=F.length:=by simp at h2;exact qa (jt jr jc ja jd jw jc (qA jd ja) qt (qe h2) qw) (h1)
   subst this
   rw[Nat.sub_self] at hz
   cases hz
   refine .inr ⟨s,rfl,fun hf=>hn (r.fin y hy hf),hs,a,o,ha,?_⟩
   rw[List.getElem?_append_left ha,hto];exact hx
 clos:=fun i z o' hi hz p hp s' hs' e=>by
  rw[List.getElem?_append_left (by exact jt jr jg ja jD ja jg jd qt ha hi)] at hz
  rw[List.map_append];exact List.mem_append_left _ (r.clos i z o' hi hz p hp s' hs' e)
noncomputable def rsL (dn fd rd a:Nat):Env:=[(0,.ref dn),(2,.ref fd),(3,.ref rd),(5,.int a)]
def RwI (h:Tw.H)(M:Ma)(E:List (N2×Nat))(n a:Nat)(H:Tw.H):Prop:=∃ F ver,n=10000 - a∧a≤F.length∧Rs M.moves M.ends (E.map (·.1)) F a∧H=h++[.dict (kvF F) ver,.list (Kl F)]
def RwJ (h:Tw.H)(M:Ma)(E:List (N2×Nat))(T:List (N2×Stp))(F:List (N2×Option Stp))(x:N2)(a i:Nat)(H:Tw.H):Prop:=∃ F' ver,F <+: F'∧Rs M.moves M.ends (E.map (·.1)) F' a∧(∀ y∈(zP T x).take i,y.1∈F'.map (·.1))∧H=h++[.dict (kvF F') ver,.list (Kl F')]
section
variable {Φ:Nat→Option Fn}{d:Nat}{h:H}{Q:V→H→Prop}
theorem rests_ok {dn fn:Nat}{M:Ma}{b:N2}{E:List (N2×Nat)}{T:List (N2×Stp)}(h14:Φ 14=some yP)(ok:M.ok)(hb:b.1<M.n∧b.2<M.n)(le:Led h dn M.moves b E T)(hf:∃ ver,h[fn]?=some (.dict (zu M.ends) ver))
  (q:∀ h' fd F,h <+: h'→Rst h' fd M.moves M.ends b F→Q (.ref fd) h'):Calls Φ (d+1) 14 [.ref dn,.ref fn] h Q:=by
 have hn2:=ok.n2
 have hz:=kp
 have mC:=jy (Φ:=Φ) d
 have hnn:M.n * M.n≤10000:=Nat.mul_le_mul hn2 hn2
 obtain⟨dv,hd⟩:=le.dict
 obtain⟨fv,hf⟩:=hf
 have inB:∀ {R:List N2},R.Nodup→(∀ x∈R,x∈E.map (·.1))→R.length≤10000:=fun {R} nd hr=>by
  have:=yw R (Zx M.n M.n) nd fun x hx=>by
   obtain⟨h1,h2⟩:=yU ok hb ((le.reach x).mp (hr x hx))
   exact Ku h1 h2
  rw[Kr] at this;exact jt ju jc (qN 10000) ja (qN 10000) jc ja qt hnn this
 have hEl:=inB le.kd fun x hx=>hx
 rw[List.length_map] at hEl
 have hset:∀ (a c a':MO),(h++[a,c]).set h.length a'=h++[a',c]:=fun a c a'=>set2a ..
 have hset2:∀ (a c c':MO),(h++[a,c]).set (h.length+1) c'=h++[a,c']:=fun a c c'=>by simp
 refine⟨yP,h14,rfl,wS (JT fun ver0=>zt ?_)⟩
 rw[List.append_assoc,List.length_append]
 have kE:(kvE E).map (·.1)=(E.map (·.1)).map wg:=Jk (k:=fun e:N2×Nat=>e.1) E
 refine A_for mC (kE▸goes_keys dn dv (kvE E)) (fun _:Unit=>[(0,.ref dn),(1,.ref fn),(2,.ref h.length),(3,.ref (h.length+1))]) (fun i J H=>∃ ver,H=h++[.dict (kvF (((E.map (·.1)).take i |>.filter fun x=>decide (wm M.ends x)).map fun x=>(x,none))) ver,.list (Kl (((E.map (·.1)).take i |>.filter fun x=>decide (wm M.ends x)).map fun x=>(x,none)))]) () (by exact rfl) (jB (g:=[]) rfl trivial ⟨it_dict (jf hd),ver0,rfl⟩) (fun i _ H ⟨ver,e⟩=>by rw[e];exact jf hd) ?_ ?_
 ·rintro i v _ H hv ⟨ver,rfl⟩
  refine kL (wJ hv) fun x hx zc82 hil=>?_;subst zc82
  have et:((E.map (·.1)).take (i+1) |>.filter fun x=>decide (wm M.ends x))=((E.map (·.1)).take i |>.filter fun x=>decide (wm M.ends x))++if wm M.ends x then [x] else []:=by
   rw[List.take_add_one,hx,List.filter_append]
   by_cases h:wm M.ends x <;> simp [h]
  rw[et]
  have ln:((E.map (·.1)).take i |>.filter fun x=>decide (wm M.ends x)).length≤10000:=inB (le.kd.sublist (List.filter_sublist.trans (List.take_sublist ..))) fun x hx=>List.mem_of_mem_take (List.mem_filter.mp hx).1
  have hnx:x ∉ ((E.map (·.1)).take i |>.filter fun x=>decide (wm M.ends x)):=fun hm=>by
   have:=(List.mem_filter.mp hm).1
   have nd:=le.kd
   rw[←List.take_append_drop i (E.map (·.1)),List.nodup_append] at nd
   refine nd.2.2 x this x ?_ rfl
   rw[List.mem_iff_getElem?]
   exact⟨0,by rw[List.getElem?_drop];exact hx⟩
  generalize ((E.map (·.1)).take i |>.filter fun x=>decide (wm M.ends x))=F0 at ln hnx
  refine wi (g:=[.bool (decide (x.1∈M.ends)),.bool (decide (x.2∈M.ends))]) rfl ⟨Uu (jf hf) rfl jag,fun J=>⟨Uu (jf hf) rfl jag,trivial⟩,trivial⟩ (fun hc=>?_) fun hc=>jG (A_next () (by exact rfl) ⟨ver,?_⟩)
  ·have hF:wm M.ends x:=(Bool.and_eq_true_iff.mp hc).imp of_decide_eq_true of_decide_eq_true
   rw[if_pos hF]
   refine Kh (g:=[]) (g₂:=[]) rfl (JV ..) rfl trivial rfl trivial rfl (by unfold kvF;rw[List.length_map,List.length_map];exact yM ln) fun ver'=>?_
   rw[hset]
   refine Jl (g:=[]) rfl (len2 ..) (by unfold Kl;rw[List.length_map,List.length_map];exact yM ln) rfl trivial ?_
   rw[hset2]
   refine jG (A_next () (by exact rfl) ⟨ver',?_⟩)
   have:kvF ((F0++[x]).map fun x=>(x,none))=kB (kvF (F0.map fun x=>(x,none))) (wg x) .none:=by
    unfold kvF
    rw[yW (k:=fun e:N2×Option Stp=>e.1) (by rw[List.map_map];simpa using hnx),List.map_append,List.map_append];rfl
   rw[this]
   have:Kl ((F0++[x]).map fun x=>(x,none))=Kl (F0.map fun x=>(x,none))++[wg x]:=by unfold Kl;rw[List.map_append,List.map_append];rfl
   rw[this]
  ·have hF:¬ wm M.ends x:=fun hF=>by
    have:(decide (x.1∈M.ends) && decide (x.2∈M.ends))=true:=by rw[decide_eq_true hF.1,decide_eq_true hF.2];rfl
    exact absurd (this.symm.trans hc) (fun e=>nomatch e)
   rw[if_neg hF,List.append_nil]
 rintro _ H ⟨ver,rfl⟩
 rw[List.length_map,List.take_length]
 have rs0:Rs M.moves M.ends (E.map (·.1)) (((E.map (·.1)).filter fun x=>decide (wm M.ends x)).map fun x=>(x,none)) 0:=by
  refine⟨?_,fun e he=>?_,fun x hx hf=>?_,fun i x o hx=>?_,fun i J J hi=>absurd hi (Nat.not_lt_zero _)⟩
  ·rw[List.map_map,show((fun e:N2×Option Stp=>e.1)∘fun x=>(x,none))=id from rfl,List.map_id]
   exact le.kd.sublist List.filter_sublist
  ·refine jo (List.mem_map.mp he) fun x hx zd83=>?_;subst zd83
   exact(List.mem_filter.mp hx).1
  ·rw[List.map_map,show((fun e:N2×Option Stp=>e.1)∘fun x=>(x,none))=id from rfl,List.map_id]
   exact List.mem_filter.mpr ⟨hx,decide_eq_true hf⟩
  ·refine jo (List.mem_map.mp (List.mem_of_getElem? hx)) fun y hy hyx=>?_
   cases hyx
   exact .inl ⟨rfl,of_decide_eq_true (List.mem_filter.mp hy).2⟩
 generalize (((E.map (·.1)).filter fun x=>decide (wm M.ends x)).map fun x=>((x,none):N2×Option Stp))=F0 at rs0
 refine kY (g:=[]) rfl trivial (yQ mC (fun a:Nat=>rsL dn h.length (h.length+1) a) (fun n a H=>RwI h M E n a H) 10000 0 (by exact rfl) ⟨F0,ver,rfl,Nat.zero_le _,rs0,rfl⟩ ?_)
 intro n a H K0 kN0 kR0;rintro⟨F,ver,rfl,ha,rs,rfl⟩
 have hFl:F.length≤10000:=by
  have:=inB rs.nd fun x hx=>by refine jo (List.mem_map.mp hx) fun e he ze84=>?_;subst ze84;exact rs.sub e he
  rw[List.length_map] at this;exact this
 refine⟨[.int F.length],_,_,_,rfl,⟨fun Q q=>by rw[UP (len2 ..),Kl,List.length_map];exact q,trivial⟩,fun hlt=>?_,fun hge=>?_⟩
 ·have hlt:a<F.length:=Jz hlt
  obtain⟨⟨x,o⟩,hx⟩:∃ e,F[a]?=some e:=⟨_,List.getElem?_eq_getElem hlt⟩
  refine jo (List.mem_map.mp (rs.sub _ (List.mem_of_getElem? hx))) fun e he hex=>?_
  have hex:e.1=x:=hex
  have hg:=kP (k:=fun e:N2×Nat=>e.1) (w:=fun e=>.ref e.2) le.kd he
  refine kY (g:=[wg x,.ref e.2]) rfl ⟨jZ (len2 ..) (lt62 (Nat.le_trans (Nat.le_of_lt hlt) hFl)) (by unfold Kl;rw[List.getElem?_map,hx];rfl),wO (jf hd) rfl (hex▸hg),trivial⟩ (kY (g:=[]) rfl trivial ?_)
  refine ye mC (jU e.2 ((zP T e.1).map pv)) (fun _:Unit=>rsL dn h.length (h.length+1) (a+1)) (fun i J H=>RwJ h M E T F e.1 a i H) () (by exact rfl) (jB (g:=[]) rfl trivial ⟨kj (jf (le.cell e he)),F,ver,List.prefix_refl _,rs,fun y hy=>(nomatch hy),rfl⟩) (fun i J H z=>by refine Z23 z fun J J J J J g=>?_;rw[g];exact jf (le.cell e he)) ?_ ?_
  ·intro i v _ H K1 kN1 kR1 hv;rintro⟨F',ver',pF,rs',hin,rfl⟩
   refine kL (wJ hv) fun y hy zf85 hil=>?_;subst zf85
   have hyt:∀ z,z∈(zP T e.1).take (i+1)↔z∈(zP T e.1).take i∨z=y:=fun z=>by rw[List.take_add_one,hy,List.mem_append];exact or_congr Iff.rfl List.mem_singleton
   have hF'l:F'.length≤10000:=by
    have:=inB rs'.nd fun x hx=>by refine jo (List.mem_map.mp hx) fun e he zg86=>?_;subst zg86;exact rs'.sub e he
    rw[List.length_map] at this;exact this
   obtain⟨hyT,hye⟩:=List.mem_filter.mp (List.mem_of_getElem? hy)
   obtain⟨hy1,hy2⟩:=(le.tr y).mp hyT
   have hye:y.2.to=x:=by rw[of_decide_eq_true hye,hex]
   refine⟨rfl,wi (g:=[.bool (!decide (y.1∈F'.map (·.1)))]) rfl ⟨UO (JV ..) rfl wR,trivial⟩ (fun hc=>?_) fun hc=>jG (kz kN1 () (by exact rfl) ⟨F',ver',pF,rs',fun z hz=>?_,rfl⟩)⟩
   ·have hnew:y.1 ∉ F'.map (·.1):=ZW hc
    refine Kh (g:=[]) (g₂:=[]) rfl (JV ..) rfl trivial rfl trivial rfl (by unfold kvF;rw[List.length_map];exact yM hF'l) fun ver2=>?_
    rw[hset]
    refine Jl (g:=[]) rfl (len2 ..) (by unfold Kl;rw[List.length_map];exact yM hF'l) rfl trivial ?_
    rw[hset2]
    have lF:=pF.length_le
    have hx':F'[a]?=some (x,o):=by obtain⟨t,rfl⟩:=pF;rw[List.getElem?_append_left hlt];exact hx
    refine jG (kz kN1 () (by exact rfl) ⟨F'++[(y.1,some y.2)],ver2,pF.trans (List.prefix_append _ _),rs'.put (by exact jt jr jg ja jg jd jd ja qt hlt lF) hx' hy1 hy2 hye hnew,fun z hz=>?_,?_⟩)
    ·rw[List.map_append]
     rcases (hyt z).mp hz with hz | hz
     ·exact List.mem_append_left _ (hin z hz)
     ·rw[hz];exact List.mem_append_right _ (List.mem_singleton.mpr rfl)
    ·unfold kvF Kl
     rw[yW (k:=fun e:N2×Option Stp=>e.1) hnew,List.map_append,List.map_append];rfl
   ·rcases (hyt z).mp hz with hz | hz
    ·exact hin z hz
    ·rw[hz];exact Yx hc
  ·intro _ H zx67
   refine Z23 zx67 fun F' ver' pF rs' hin zw66=>?_
   subst zw66
   rw[List.length_map,List.take_length] at hin
   have lF:=pF.length_le
   refine yY kN0 (10000 - (a+1)) (a+1) (by exact jt jr jg ja (qA jc jD) (qN 10000) (qN 10000) (qA ja jd) qt (qx (jt ju jg (qN 10000) ja (qN 10000) jg ja qt hFl hlt)) qw) (by exact rfl) ⟨F',ver',rfl,by exact jt jr jg ja jg jd jd ja qt hlt lF,{ rs' with clos:=fun i z o' hi hz p hp s hs e'=>?_ },rfl⟩
   by_cases hia:i=a
   ·subst hia
    have hx':F'[i]?=some (x,o):=by obtain⟨t,rfl⟩:=pF;rw[List.getElem?_append_left hlt];exact hx
    rw[hx'] at hz
    cases hz
    exact hin (p,s) (List.mem_filter.mpr ⟨(le.tr _).mpr ⟨hp,hs⟩,decide_eq_true (e'.trans hex.symm)⟩)
   ·exact rs'.clos i z o' (by exact oq115 hi hia) hz p hp s hs e'
 ·have hge:F.length≤a:=JE hge
  exact kA (g:=[]) rfl trivial fun ρ=>q _ _ F (List.prefix_append _ _) ⟨⟨ver,JV ..⟩,rs.nd,rs.val,rs.done hge le.reach⟩
end
section
variable {C:kO}{L:Env}{h:H}{Q:V→H→Prop}{e:E}{g g':List V}{c:List Prop}{v:V}
theorem ZZ (hC:jY C){elt:E}{i:Nat}{a b:V}{it:Nat→It}{K:H→Prop}(go:yq it [a,b] K)(he:ev L h e g=some (v,c,g'))(hc:km c)(hv:∀ Q:It→Prop,Q (it 0)→IterW v h Q)(hK:∀ h',h <+: h'→K h')
  (x:AE C ((i,a)::L) h elt fun v1 h1=>h <+: h1∧AE C ((i,b)::L) h1 elt fun v2 h2=>h <+: h2∧Q (.ref h2.length) (h2++[.list [v1,v2]])):AE C L h (.comp elt (.name i) e none) Q:=fun ρ ag=>by
 obtain⟨I,h0,h1,h2⟩:∃ I:Nat→List V→H→Prop,(∀ out h',I 0 out h'↔out=[]∧h'=h)∧(∀ out h',I 1 out h'↔h <+: h'∧∃ v1,out=[v1]∧AE C ((i,b)::L) h' elt fun v2 h2=>h <+: h2∧Q (.ref h2.length) (h2++[.list [v1,v2]]))∧∀ k out h',I (k+2) out h'↔h <+: h'∧Q (.ref h'.length) (h'++[.list out]) :=
  ⟨fun k=>Nat.rec (fun out h'=>out=[]∧h'=h) (fun k J=>Nat.rec (fun out h'=>h <+: h'∧∃ v1,out=[v1]∧AE C ((i,b)::L) h' elt fun v2 h2=>h <+: h2∧Q (.ref h2.length) (h2++[.list [v1,v2]])) (fun J J out h'=>h <+: h'∧Q (.ref h'.length) (h'++[.list out])) k) k,fun J J=>Iff.rfl,fun J J=>Iff.rfl,fun J J J=>Iff.rfl⟩
 have pr:∀ k out h',I k out h'→h <+: h':=fun k out h' z=>by
  cases k with
  | zero=>rw[((h0 out h').mp z).2];exact List.prefix_refl _
  | succ k =>
   cases k with
   | zero=>exact((h1 out h').mp z).1
   | succ k=>exact((h2 k out h').mp z).1
 refine Jt hC go I (jB (C:=C) (Q:=fun w h₁=>(∀ Q:It→Prop,Q (it 0)→IterW w h₁ Q)∧I 0 [] h₁) he hc ⟨hv,(h0 _ _).mpr ⟨rfl,rfl⟩⟩ ρ ag) (fun k out h' y=>hK h' (pr k out h' y)) ?_ fun out h' y=>((h2 0 out h').mp y).2
 intro k w out h' hw y
 cases k with
 | zero =>
  obtain⟨rfl,rfl⟩:=(h0 out h').mp y
  cases hw
  exact jh hC elt (fun v1 h1' z=>⟨leSZ (Nat.succ_le_of_lt (by decide)),(h1 _ _).mpr ⟨z.1,v1,rfl,z.2⟩⟩) (x _ ag.push)
 | succ k =>
  cases k with
  | zero =>
   refine jP ((h1 out h').mp y) fun J zh87=>?_;refine jo zh87 fun v1 zi88 y'=>?_;subst zi88
   cases hw
   exact jh hC elt (fun v2 h2' z=>⟨yM (show 1≤10000 by decide),(h2 0 _ _).mpr ⟨z.1,z.2⟩⟩) (y' _ ag.push)
  | succ k=>cases hw
theorem A_ifW (hC:jY C){t:E}{a b r:List S}{Q:Out→jz→H→Prop}(x:∀ ρ,Ag L ρ→wpT C t ρ h fun c h₁=>match c with | true=>AB C L h₁ a (Je C r Q) | false=>AB C L h₁ b (Je C r Q)):AB C L h (.ite t a b::r) Q:=fun ρ ag =>
 B_ite (wpT_mono hC t (fun c h₁ y=>by
  cases c with
  | true=>exact y ρ ag
  | false=>exact y ρ ag) (x ρ ag))
theorem Kx (hC:jY C){α:Type}{e:E}(f:α→List Nat)(x:AE C L h e fun v h1=>∃ (n:Nat) (l:List α),v=.ref n∧h1[n]?=some (.list (l.map fun x=>.str (f x)))∧((l.map f).map List.length).sum≤SZ∧Q (.str (l.flatMap f)) h1):AE C L h (.meth .join (.lit (.str [])) [e]) Q:=fun ρ ag=>by
 rw[zH,Ut,x_rj,jJ]
 refine⟨trivial,jh hC e (fun v h1 z=>?_) (x ρ ag)⟩
 refine Z23 z fun n l e1 hn hl q=>?_
 rw[e1,kx,x_join hn (KI f l)]
 refine⟨hl,?_⟩
 rw[KB,←List.flatMap_def];exact q
end
theorem Jr {ms:List Mv}{f:Stp→Option Nat}{g:Option Nat→List Nat}(g0:g none=[]):∀ (p:List Stp),(p.filterMap f).flatMap (fun k=>g (some k))=p.flatMap fun s=>g (f s)
 | []=>rfl
 | s::r=>by
  rw[List.filterMap_cons,List.flatMap_cons]
  cases hf:f s with
  | none=>rw[g0,List.nil_append];exact Jr (ms:=ms) g0 r
  | some k=>dsimp only;rw[List.flatMap_cons,Jr (ms:=ms) g0 r]
noncomputable def r1 (ms:List Mv)(p:List Stp):List Nat:=p.flatMap fun s=>UA ms s.a
noncomputable def lgV (o:Option (List Nat×List Nat)):V:=match o with | none=>.none | some l=>.tup [.str l.1,.str l.2]
section
variable {Φ:Nat→Option Fn}{d:Nat}{h:H}{Q:V→H→Prop}
theorem KO {m:Nat}{ms:List Mv}{o:Option Nat}(h15:Φ 15=some yc)(hm:h[m]?=some (.list (ms.map Mv.v)))(hl:ms.length≤1000)(ho:∀ i,o=some i→i<ms.length)(q:Q (.str (yL ms o)) h):Calls Φ (d+1) 15 [.ref m,onV o] h Q:=by
 refine⟨yc,h15,rfl,wS ?_⟩
 cases o with
 | none=>exact wi (g:=[]) rfl trivial (fun J=>kA (g:=[]) rfl trivial fun ρ=>q) fun e=>nomatch e
 | some i =>
  obtain⟨mv,hi⟩:∃ mv,ms[i]?=some mv:=⟨_,List.getElem?_eq_getElem (ho i rfl)⟩
  rw[ZE hi] at q
  exact wi (g:=[]) rfl trivial (fun e=>nomatch e) fun J=>jG (kA (g:=[mv.v]) rfl ⟨zd hm hl hi,trivial⟩ fun ρ=>q)
theorem sl_end {s:List Nat}{i:Nat}(hi:i<2 ^ 62):SlW h (.str s) (.int i) .none (.str (s.drop i)):=fun Q q=>by
 refine⟨i,s.length,?_,rfl,?_⟩
 ·unfold Kz;exact if_pos ⟨Int.natCast_nonneg i,WN hi⟩
 ·rw[List.take_length];exact q
theorem lag_ok {a b:List Nat}(h16:Φ 16=some KH)(ha:a.length<2 ^ 62)(hb:b.length<2 ^ 62)(q:Q (lgV (JD a b)) h):Calls Φ (d+1) 16 [.str a,.str b] h Q:=by
 refine⟨KH,h16,rfl,wS ?_⟩
 have mC:=jy (Φ:=Φ) d
 unfold JD at q
 refine A_ifW mC fun ρ ag=>?_
 rw[t_meth,wh,ag 0 _ rfl,jR,jJ,wh,ag 1 _ rfl,jR,kx,x_sw]
 refine⟨trivial,?_⟩
 show(match decide (b <+: a) with | true=>_ | false=>_)
 by_cases h1:b <+: a
 ·rw[if_pos h1] at q
  rw[decide_eq_true h1]
  exact kA (g:=[.str (a.drop b.length)]) rfl ⟨sl_end hb,trivial⟩ fun ρ=>q
 ·rw[if_neg h1] at q
  rw[decide_eq_false h1]
  refine jG (A_ifW mC fun ρ ag=>?_)
  rw[t_meth,wh,ag 1 _ rfl,jR,jJ,wh,ag 0 _ rfl,jR,kx,x_sw]
  refine⟨trivial,?_⟩
  show(match decide (a <+: b) with | true=>_ | false=>_)
  by_cases h2:a <+: b
  ·rw[if_pos h2] at q
   rw[decide_eq_true h2]
   exact kA (g:=[.str (b.drop a.length)]) rfl ⟨sl_end ha,trivial⟩ fun ρ=>q
  ·rw[if_neg h2] at q
   rw[decide_eq_false h2]
   exact jG (kA (g:=[]) rfl trivial fun ρ=>q)
end
structure GE where
 x:N2
 l:List Nat×List Nat
 c:Option (N2×Stp)
 p:List Stp
noncomputable def cV (c:Option (N2×Stp)):V:=match c with | none=>.none | some y=>.tup [wg y.1,y.2.v]
noncomputable def kvC (G:List GE):List (V×V):=G.map fun g=>(wg g.x,cV g.c)
noncomputable def kvL (G:List GE):List (V×V):=G.map fun g=>(wg g.x,.tup [.str g.l.1,.str g.l.2])
noncomputable def Yv (G:List GE):List V:=G.map fun g=>wg g.x
def ChainG (G:List GE):Prop:=∀ g∈G,(g.c=none∧g.p=[])∨∃ g'∈G,∃ s,g.c=some (g'.x,s)∧g.p=g'.p++[s]
theorem cut1 {α:Type}{f:α→List Nat}(l:List α)(h:∀ x∈l,(f x).length≤1):((l.map f).map List.length).sum≤l.length:=by
 have:=ZU (l.map f) fun x hx=>by refine jo (List.mem_map.mp hx) fun a ha zj89=>?_;subst zj89;exact h a ha
 rw[List.length_map] at this;exact this
theorem A_rev {C:kO}{L:Env}{h:H}{r:List S}{Q:Out→jz→H→Prop}{i n:Nat}{vs:List V}(hi:lk L i=some (.ref n))(hn:h[n]?=some (.list vs))(q:AB C L (h.set n (.list vs.reverse)) r Q):AB C L h (.expr (.meth .reverse (.var i) [])::r) Q:=fun ρ ag=>by
 refine zF ?_
 rw[zH,wh,ag i _ hi,jR,x_rr hn,kx,x_rev hn]
 exact⟨trivial,q ρ ag⟩
section
variable {Φ:Nat→Option Fn}{d:Nat}{h:H}{Q:V→H→Prop}
theorem JA {cn:Nat}{G:List GE}{e:GE}(h17:Φ 17=some wr)(nd:(G.map (·.x)).Nodup)(ch:ChainG G)(hc:∃ ver,h[cn]?=some (.dict (kvC G) ver))(he:e∈G)(hl:e.p.length<SZ)(q:Q (.ref h.length) (h++[.list (e.p.map Stp.v)])):Calls Φ (d+1) 17 [.ref cn,wg e.x] h Q:=by
 obtain⟨ver,hc⟩:=hc
 have mC:=jy (Φ:=Φ) d
 refine⟨wr,h17,rfl,wS (zt ?_)⟩
 refine yQ mC (fun g:GE=>[(0,.ref cn),(1,wg g.x),(2,.ref h.length)]) (fun n g H=>g∈G∧n=g.p.length∧∃ ps,e.p=g.p++ps.reverse∧H=h++[.list (ps.map Stp.v)]) e.p.length e (by exact rfl) ⟨he,rfl,[],by simp,rfl⟩ ?_
 intro n g H K0 kN0 kR0;rintro⟨hg,rfl,ps,hps,rfl⟩
 have hr:WF (h++[.list (ps.map Stp.v)]) (.ref cn) (wg g.x) (cV g.c):=wO (jf hc) rfl (kP (k:=fun g:GE=>g.x) nd hg)
 refine⟨[cV g.c],_,_,_,rfl,⟨hr,trivial⟩,fun hb=>?_,fun hb=>?_⟩
 ·rcases ch g hg with ⟨c1,c2⟩ | ⟨g',hg',s,c1,c2⟩
  ·rw[c1] at hb;cases hb
  rw[c1] at hr
  refine A_sets (g:=[cV (some (g'.x,s))]) rfl ⟨hr,trivial⟩ rfl (Jl rfl (ji _ _) ?_ (g:=[]) rfl trivial ?_)
  ·have:=congrArg List.length hps
   rw[List.length_append,List.length_reverse] at this
   rw[List.length_map];exact jt jE jg ja jD ja (qA je jc) jd qt hl (qi this)
  rw[zX]
  refine yY kN0 g'.p.length g' (by rw[c2,List.length_append];simp) (by exact rfl) ⟨hg',rfl,ps++[s],?_,?_⟩
  ·rw[hps,c2];simp
  ·rw[List.map_append];rfl
 ·rcases ch g hg with ⟨c1,c2⟩ | ⟨g',hg',s,c1,c2⟩
  ·refine A_rev rfl (ji _ _) ?_
   rw[zX]
   refine kA (g:=[]) rfl trivial fun ρ=>?_
   rw[c2,List.nil_append] at hps
   rw[←List.map_reverse,←hps];exact q
  ·rw[c1] at hb;cases hb
theorem pathon_ok {fd:Nat}{ms:List Mv}{es:List Nat}{b x:N2}{F:List (N2×Option Stp)}(h18:Φ 18=some wo)(r:Rst h fd ms es b F)(hx:x∈F.map (·.1))(hF:F.length<SZ)(q:∀ p y,Pth ms x p y→wm es y→p.length≤F.length→Q (.ref h.length) (h++[.list (p.map Stp.v)])):Calls Φ (d+1) 18 [.ref fd,wg x] h Q:=by
 obtain⟨ver,hd⟩:=r.dict
 have mC:=jy (Φ:=Φ) d
 refine jo (List.mem_map.mp hx) fun zk0 he zl1=>?_;obtain⟨x',o⟩:=zk0;subst zl1
 obtain⟨i,hi⟩:=List.mem_iff_getElem?.mp he
 have il:=(List.getElem?_eq_some_iff.mp hi).1
 refine⟨wo,h18,rfl,wS (zt ?_)⟩
 refine yQ mC (fun y:N2=>[(0,.ref fd),(1,wg y),(2,.ref h.length)]) (fun n y H=>∃ o ps,F[n]?=some (y,o)∧Pth ms x' ps y∧ps.length+n≤i∧H=h++[.list (ps.map Stp.v)]) i x' (by exact rfl) ⟨o,[],hi,.nil,by simp,rfl⟩ ?_
 intro n y H K0 kN0 kR0;rintro⟨o,ps,hn,hp,hl,rfl⟩
 have hr:WF (h++[.list (ps.map Stp.v)]) (.ref fd) (wg y) (osV o):=wO (jf hd) rfl (kP (k:=fun e:N2×Option Stp=>e.1) (w:=fun e=>osV e.2) r.nd (List.mem_of_getElem? hn))
 refine⟨[osV o],_,_,_,rfl,⟨hr,trivial⟩,fun hb=>?_,fun hb=>?_⟩
 ·rcases r.val n y o hn with ⟨rfl,_⟩ | ⟨s,rfl,_,hs,j,o',hj,hjx⟩
  ·cases hb
  refine Jl rfl (ji _ _) (by rw[List.length_map];exact jV ka jg ja jD ja wG jd (qA jc jl) je qt hF il hl) (g:=[s.v]) rfl ⟨hr,trivial⟩ ?_
  rw[zX]
  have hr2:WF (h++[.list (ps.map Stp.v++[s.v])]) (.ref fd) (wg y) (osV (some s)):=wO (jf hd) rfl (kP (k:=fun e:N2×Option Stp=>e.1) (w:=fun e=>osV e.2) r.nd (List.mem_of_getElem? hn))
  refine kY (g:=[s.v]) rfl ⟨hr2,trivial⟩ (yY kN0 j s.to hj (by exact rfl) ⟨o',ps++[s],hjx,hp.app (.one hs),by rw[List.length_append];show _+1+_≤_;exact jt jE (qA jg ja) jd (qA jc je) jd jA je qt hl hj,by rw[List.map_append];rfl⟩)
 ·rcases r.val n y o hn with ⟨rfl,hf⟩ | ⟨s,rfl,_,hs,j,o',hj,hjx⟩
  ·exact kA (g:=[]) rfl trivial fun ρ=>q ps y hp hf (by exact jt jE jc ja jD ja (qA jc je) jd qt il hl)
  ·cases hb
theorem Kb {m a:Nat}{M:Ma}{p:List Stp}(h19:Φ 19=some yt)(ok:M.ok)(hm:h[m]?=some (.list (M.moves.map Mv.v)))(ha:h[a]?=some (.list (p.map Stp.v)))(hp:p.length≤1000000)(hv:∀ s∈p,(∀ k,s.a=some k→k<M.moves.length)∧(∀ k,s.b=some k→k<M.moves.length))
  (q:∀ h' u w,h <+: h'→h'[u]?=some (.list ((p.filterMap (·.a)).map jK))→h'[w]?=some (.list ((p.filterMap (·.b)).map jK))→Q (.tup [.tup [.str (r1 M.moves p),.ref u,.ref w],.bool (!decide (w1 M.moves p=w2 M.moves p))]) h'):Calls Φ (d+1) 19 [.ref m,.ref a] h Q:=by
 have mC:=jy (Φ:=Φ) d
 have hz:=kp
 have l1:=ok.l1
 have la:(p.filterMap (·.a)).length≤p.length:=List.length_filterMap_le ..
 have lb:(p.filterMap (·.b)).length≤p.length:=List.length_filterMap_le ..
 have one:∀ {k:Nat},k<M.moves.length→∃ mv,M.moves[k]?=some mv∧mv.t.length≤1∧mv.g.length≤1:=fun {k} hk=>by
  have hmk:=List.getElem?_eq_getElem hk
  have:=ok.m1 _ (List.mem_of_getElem? hmk)
  exact⟨_,hmk,this.2.2.1,this.2.2.2⟩
 have va:∀ k∈p.filterMap (·.a),k<M.moves.length:=fun k hk=>by
  obtain⟨s,hs,e⟩:=List.mem_filterMap.mp hk;exact(hv s hs).1 k e
 have vb:∀ k∈p.filterMap (·.b),k<M.moves.length:=fun k hk=>by
  refine jo (List.mem_filterMap.mp hk) fun s hs e=>?_;exact(hv s hs).2 k e
 have mp:∀ (f:Stp→Option Nat),p.filterMap (fun s=>(f s).map jK)=(p.filterMap f).map jK:=fun f=>by rw[List.map_filterMap]
 refine⟨yt,h19,rfl,wS (jL mC (ZZ mC (Ju [.int 0,.int 1]) (g:=[]) rfl trivial (fun J q=>q) (fun J J=>trivial) ?_))⟩
 refine JY mC (jU a _) (l:=p) (f:=Stp.v) (ga:=fun s=>s.a.map jK) (g:=[]) rfl trivial (kj ha) ha (by exact jt ju jc ja jc (qN 1000000) (qN 16777216) ja qt hp (qi hz)) (fun s hs=>⟨[],_,_,_,rfl,trivial,?_,fun w hw=>?_⟩) ?_
 ·cases s.a <;> rfl
 ·obtain⟨sa,sb,st⟩:=s
  cases sa with
  | none=>cases hw
  | some k=>cases hw;exact⟨[],_,_,rfl,trivial⟩
 rw[mp]
 refine⟨List.prefix_append _ _,?_⟩
 refine JY mC (jU a _) (l:=p) (f:=Stp.v) (ga:=fun s=>s.b.map jK) (g:=[]) rfl trivial (kj (jf ha)) (jf ha) (by exact jt ju jc ja jc (qN 1000000) (qN 16777216) ja qt hp (qi hz)) (fun s hs=>⟨[],_,_,_,rfl,trivial,?_,fun w hw=>?_⟩) ?_
 ·cases s.b <;> rfl
 ·obtain⟨sa,sb,st⟩:=s
  cases sb with
  | none=>cases hw
  | some k=>cases hw;exact⟨[],_,_,rfl,trivial⟩
 rw[mp]
 refine⟨by rw[List.append_assoc];exact List.prefix_append _ _,?_⟩
 generalize hH:h++[MO.list ((p.filterMap (·.a)).map jK)]++[MO.list ((p.filterMap (·.b)).map jK)]=H1
 have lH:(h++[MO.list ((p.filterMap (·.a)).map jK)]).length=h.length+1:=by simp
 rw[lH]
 have pH:h <+: H1:=by rw[←hH,List.append_assoc];exact List.prefix_append _ _
 have gA:H1[h.length]?=some (.list ((p.filterMap (·.a)).map jK)):=by rw[←hH];exact jf (ji _ _)
 have gB:H1[h.length+1]?=some (.list ((p.filterMap (·.b)).map jK)):=by rw[←hH,←lH];exact ji _ _
 clear hH
 have pH2:h <+: H1++[MO.list [.ref h.length,.ref (h.length+1)]]:=pH.trans (List.prefix_append _ _)
 have gA:=jf (t:=[MO.list [.ref h.length,.ref (h.length+1)]]) gA
 have gB:=jf (t:=[MO.list [.ref h.length,.ref (h.length+1)]]) gB
 have gW:(H1++[MO.list [.ref h.length,.ref (h.length+1)]])[H1.length]?=_:=ji _ _
 generalize H1.length=wn at gW ⊢
 generalize H1++[MO.list [.ref h.length,.ref (h.length+1)]]=H2 at pH2 gA gB gW ⊢
 refine jL mC (Kx mC (fun k=>UA M.moves (some k)) (Ka mC (jU h.length _) (l:=p.filterMap (·.a)) (f:=jK) (w:=fun k=>.str (UA M.moves (some k))) (g:=[.ref h.length]) rfl ⟨jZ (k:=0) gW (by decide) rfl,trivial⟩ (kj gA) gA (by exact jV jr jc ja jd (qN 1000000) (qN 16777216) ja jc jd qt hp (qi hz) la) (fun k hk=>?_) ⟨H2.length,p.filterMap (·.a),rfl,ji _ _,?_,?_⟩))
 ·refine jo (one (va k hk)) fun mv hmv J=>?_
  rw[wI hmv]
  exact⟨[mv.v],_,_,rfl,zd (js pH2 hm) l1 hmv,trivial⟩
 ·have:=cut1 (f:=fun k=>UA M.moves (some k)) (p.filterMap (·.a)) fun k hk=>by refine kL (one (va k hk)) fun mv hmv h1 J=>?_;rw[wI hmv];exact h1
  exact yS jE jc ja jd (qN 1000000) (qN 16777216) ja je jd jc je qt hp (qi hz) la this
 rw[show(p.filterMap (·.a)).flatMap (fun k=>UA M.moves (some k))=r1 M.moves p from Jr (ms:=M.moves) (f:=(·.a)) (g:=UA M.moves) rfl p]
 generalize hX:H2++[MO.list ((p.filterMap (·.a)).map fun k=>V.str (UA M.moves (some k)))]=H3
 have p3:H2 <+: H3:=by rw[←hX];exact List.prefix_append _ _
 clear hX
 have gA:=js p3 gA
 have gB:=js p3 gB
 have gW:=js p3 gW
 have pH:=pH2.trans p3
 have hm3:=js pH hm
 have jn:∀ {Q:V→H→Prop} {L:Env} {H':H} {r:Nat} {ks:List Nat},lk L 0=some (.ref m)→H'[m]?=some (.list (M.moves.map Mv.v))→H'[r]?=some (.list (ks.map jK))→ks.length≤p.length→(∀ k∈ks,k<M.moves.length)→Q (.str (ks.flatMap fun k=>yL M.moves (some k))) (H'++[.list (ks.map fun k=>.str (yL M.moves (some k)))])→AE (Calls Φ d) ((6,.ref r)::L) H' (.meth .join (.lit (.str [])) [(.comp (.sub (.sub (.var 0) (.var 9)) (.lit (.int 2))) (.name 9) (.var 6) none)]) Q:=by
  intro Q L H' r ks l0 hm' hr hl hk q
  refine Kx mC (fun k=>yL M.moves (some k)) (Ka mC (jU r _) (l:=ks) (f:=jK) (w:=fun k=>.str (yL M.moves (some k))) (g:=[]) rfl trivial (kj hr) hr (by exact jV jr jc ja jd (qN 1000000) (qN 16777216) ja jc jd qt hp (qi hz) hl) (fun k hkk=>?_) ⟨H'.length,ks,rfl,ji _ _,?_,q⟩)
  ·refine jo (one (hk k hkk)) fun mv hmv J=>?_
   rw[ZE hmv]
   have e:ev ((9,jK k)::(6,.ref r)::L) H' (.sub (.sub (.var 0) (.var 9)) (.lit (.int 2))) [mv.v]=some (.str mv.g,[WF H' (.ref m) (jK k) mv.v],[]):=by
    show(Tw.M.bind (Tw.M.bind (Tw.M.of (lk L 0)) _) _) _=_
    rw[l0];rfl
   exact⟨[mv.v],_,_,e,zd hm' l1 hmv,trivial⟩
  ·have:=cut1 (f:=fun k=>yL M.moves (some k)) ks fun k hkk=>by refine kL (one (hk k hkk)) fun mv hmv J h1=>?_;rw[ZE hmv];exact h1
   exact yS jE jc ja jd (qN 1000000) (qN 16777216) ja je jd jc je qt hp (qi hz) hl this
 refine jL mC (ZZ mC (jU wn [.ref h.length,.ref (h.length+1)]) (g:=[]) rfl trivial (kj gW) (fun h' ph=>js ph gW) ?_)
 refine jn rfl hm3 gA la va ⟨List.prefix_append _ _,?_⟩
 refine jn rfl (jf hm3) (jf gB) lb vb ⟨by rw[List.append_assoc];exact List.prefix_append _ _,?_⟩
 rw[show(p.filterMap (·.a)).flatMap (fun k=>yL M.moves (some k))=w1 M.moves p from Jr (ms:=M.moves) (f:=(·.a)) (g:=yL M.moves) rfl p]
 rw[show(p.filterMap (·.b)).flatMap (fun k=>yL M.moves (some k))=w2 M.moves p from Jr (ms:=M.moves) (f:=(·.b)) (g:=yL M.moves) rfl p]
 generalize hX:H3++[MO.list ((p.filterMap (·.a)).map fun k=>V.str (yL M.moves (some k)))]++[MO.list ((p.filterMap (·.b)).map fun k=>V.str (yL M.moves (some k)))]=H4
 have p4:H3 <+: H4:=by rw[←hX,List.append_assoc];exact List.prefix_append _ _
 clear hX
 have gA:=jf (t:=[MO.list [.str (w1 M.moves p),.str (w2 M.moves p)]]) (js p4 gA)
 have gB:=jf (t:=[MO.list [.str (w1 M.moves p),.str (w2 M.moves p)]]) (js p4 gB)
 have gW:=jf (t:=[MO.list [.str (w1 M.moves p),.str (w2 M.moves p)]]) (js p4 gW)
 have gT:(H4++[MO.list [.str (w1 M.moves p),.str (w2 M.moves p)]])[H4.length]?=_:=ji _ _
 have pH:=(pH.trans p4).trans (List.prefix_append H4 [MO.list [.str (w1 M.moves p),.str (w2 M.moves p)]])
 exact kA (g:=[.ref h.length,.ref (h.length+1),.str (w1 M.moves p),.str (w2 M.moves p)]) rfl ⟨jZ (k:=0) gW (by decide) rfl,jZ (k:=1) gW (by decide) rfl,jZ (k:=0) gT (by decide) rfl,jZ (k:=1) gT (by decide) rfl,trivial⟩ fun ρ=>q _ _ _ pH gA gB
end
section
variable {C:kO}{L:Env}{h:H}{Q:V→H→Prop}
theorem zS (hC:jY C){f:Nat}{a b:E}(x:AE C L h a fun v h1=>AE C L h1 b fun w h2=>C f [v,w] h2 Q):AE C L h (.call f [a,b]) Q:=fun ρ ag=>by
 rw[WA,jJ]
 refine jh hC a (fun v h1 y=>?_) (x ρ ag)
 rw[jJ]
 exact jh hC b (fun w h2 z=>z) (y ρ ag)
theorem Zp (hC:jY C){a b:E}(x:AE C L h a fun v h1=>AE C L h1 b fun w h2=>Q (.tup [v,w]) h2):AE C L h (.tup [a,b]) Q:=fun ρ ag=>by
 rw[jak,jJ]
 refine jh hC a (fun v h1 y=>?_) (x ρ ag)
 rw[jJ]
 exact jh hC b (fun w h2 z=>z) (y ρ ag)
theorem A_sub0 (hC:jY C){a:E}(x:AE C L h a fun v h1=>∃ u r,v=.tup (u::r)∧Q u h1):AE C L h (.sub a (.lit (.int 0))) Q:=fun ρ ag=>by
 rw[e_sub]
 refine jh hC a (fun v h1 z=>yI z fun u r e q=>?_) (x ρ ag)
 rw[e,Ut,x_st0];exact q
theorem A_sub1 (hC:jY C){a:E}(x:AE C L h a fun v h1=>∃ t u r,v=.tup (t::u::r)∧Q u h1):AE C L h (.sub a (.lit (.int 1))) Q:=fun ρ ag=>by
 rw[e_sub]
 refine jh hC a (fun v h1 z=>Zz z fun t u r e q=>?_) (x ρ ag)
 rw[e,Ut,x_st1];exact q
theorem ZO {a:E}{v:V}{g g':List V}{c:List Prop}(x:ev L h a g=some (v,c,g'))(hc:km c)(q:Q (.ref h.length) (h++[.list [v]])):AE C L h (.list [a]) Q:=fun ρ ag=>by
 rw[zN,jJ]
 exact jB (C:=C) (Q:=fun v h1=>wpEs C [] ρ h1 fun vs h2=>Q (.ref h2.length) (h2++[.list (v::vs)])) x hc (by rw[kx];exact q) ρ ag
end
theorem app3 {α:Type}{a b:List α}{s:α}(ha:a.length≤10000)(hb:b.length≤10000):(a++[s]++b).length≤20001:=by rw[List.length_append,List.length_append];exact Nat.add_le_add (Nat.add_le_add_right ha 1) hb
theorem app2 {α:Type}{a b:List α}(ha:a.length≤10000)(hb:b.length≤10000):(a++b).length≤20000:=by rw[List.length_append];exact Nat.add_le_add ha hb
noncomputable def lgD (l:List Nat×List Nat):D:=.tup [.str l.1,.str l.2]
theorem cm_lg {h:H}{l k:List Nat×List Nat}:CmW h .ne (.tup [.str l.1,.str l.2]) (.tup [.str k.1,.str k.2]) (!decide (l=k)):=fun P x=>by
 rw[x_ne]
 refine x_eqd (d₁:=lgD l) (d₂:=lgD k) (.tup (.cons (.str _) (.cons (.str _) .nil))) (.tup (.cons (.str _) (.cons (.str _) .nil))) rfl rfl ?_
 have:decide (lgD l=lgD k)=decide (l=k):=decide_eq_decide.mpr ⟨fun e=>by
  obtain⟨a,b⟩:=l
  obtain⟨a',b'⟩:=k
  simp [lgD] at e
  rw[e.1,e.2],fun e=>by rw[e]⟩
 rw[this];exact x
theorem Wa {ms:List Mv}{x y:N2}{p:List Stp}(h:Pth ms x p y):∀ s∈p,(∀ k,s.a=some k→k<ms.length)∧(∀ k,s.b=some k→k<ms.length):=by
 induction h with
 | nil=>exact fun J h=>nomatch h
 | cons hs _ ih =>
  intro s hsm
  rcases List.mem_cons.mp hsm with rfl | hsm
  ·have lt:∀ {i:Nat} {m:Mv},ms[i]?=some m→i<ms.length:=fun h=>(List.getElem?_eq_some_iff.mp h).1
   cases kW.mp hs with
   | one hm _ _=>exact⟨fun k e=>by cases e;exact lt hm,fun k e=>nomatch e⟩
   | both hm _ _ hn _ _=>exact⟨fun k e=>by cases e;exact lt hm,fun k e=>by cases e;exact lt hn⟩
   | two hn _ _=>exact⟨fun k e=>(nomatch e),fun k e=>by cases e;exact lt hn⟩
  ·exact ih s hsm
structure Gn (M:Ma)(b:N2)(F:List (N2×Option Stp))(G:List GE):Prop where
 nd:(G.map (·.x)).Nodup
 sub:∀ g∈G,g.x∈F.map (·.1)
 ch:ChainG G
 pth:∀ g∈G,Pth M.moves b g.p g.x
 lag:∀ g∈G,Lags (w1 M.moves g.p) (w2 M.moves g.p) g.l
 idx:∀ (i:Nat) g,G[i]?=some g→g.p.length≤i
 head:b∈F.map (·.1)→∃ g∈G,g.x=b∧g.l=([],[])
def Told (ms:List Mv)(G:List GE)(g:GE)(s:Stp):Prop:=∃ g'∈G,g'.x=s.to∧JD (g.l.1++yL ms s.a) (g.l.2++yL ms s.b)=some g'.l
def GnD (M:Ma)(F:List (N2×Option Stp))(G:List GE)(a:Nat):Prop:=∀ (i:Nat) g,i<a→G[i]?=some g→(wm M.ends g.x→g.l=([],[]))∧∀ s∈jQ M.moves g.x,s.to∈F.map (·.1)→Told M.moves G g s
structure Two (M:Ma)(b:N2)(h:H)(v:V):Prop where
 ex:∃ p y u w,Pth M.moves b p y∧wm M.ends y∧w1 M.moves p≠w2 M.moves p∧p.length≤100000∧v=.tup [.str (r1 M.moves p),.ref u,.ref w]∧h[u]?=some (.list ((p.filterMap (·.a)).map jK))∧h[w]?=some (.list ((p.filterMap (·.b)).map jK))
section
variable {Φ:Nat→Option Fn}{d:Nat}{h:H}{Q:V→H→Prop}
theorem UG {m fd cn:Nat}{M:Ma}{b:N2}{F:List (N2×Option Stp)}{G:List GE}{e:GE}{s:Stp}(h17:Φ 17=some wr)(h18:Φ 18=some wo)(h19:Φ 19=some yt)(h21:Φ 21=some yx)(ok:M.ok)
  (hm:h[m]?=some (.list (M.moves.map Mv.v))) (r:Rst h fd M.moves M.ends b F) (gn:Gn M b F G) (hc:∃ ver,h[cn]?=some (.dict (kvC G) ver)) (he:e∈G) (hs:s∈jQ M.moves e.x) (hto:s.to∈F.map (·.1)) (hF:F.length≤10000) (hG:G.length≤10000)
  (bad:JD (e.l.1++yL M.moves s.a) (e.l.2++yL M.moves s.b)=none∨∃ g∈G,∃ k,g.x=s.to∧JD (e.l.1++yL M.moves s.a) (e.l.2++yL M.moves s.b)=some k∧g.l≠k)
  (q:∀ h' v,h <+: h'→Two M b h' v→Q v h'):Calls Φ (d+2) 21 [.ref m,.ref fd,.ref cn,wg e.x,s.v] h Q:=by
 have mC:=jy (Φ:=Φ) (d+1)
 have hz:=kp
 have pl:∀ g∈G,g.p.length≤10000:=fun g hg=>by
  obtain⟨i,hi⟩:=List.mem_iff_getElem?.mp hg
  have:=gn.idx i g hi
  have:=(List.getElem?_eq_some_iff.mp hi).1
  exact jV jr jc (qN 10000) ja (qN 10000) jc jd jD ja qt hG (by assumption) this
 have pe:=pl e he
 refine⟨yx,h21,rfl,wS (UL mC (g:=[]) rfl trivial (pathon_ok h18 r hto (yM hF) fun on y hon hfin hol=>?_))⟩
 have hon4:on.length≤10000:=Nat.le_trans hol hF
 have path1:=(gn.pth e he).app ((Pth.one hs).app hon)
 rw[←List.append_assoc] at path1
 obtain⟨cver,hc⟩:=hc
 refine A_tup mC (zS mC (jB (g:=[]) rfl trivial (kK mC (kK mC (jC (g:=[]) rfl trivial (JA h17 gn.nd gn.ch ⟨cver,jf hc⟩ he (yM pe) (ZO (g:=[]) rfl trivial ?_)))))))
 rw[JB (jf (ji _ _)) (ji _ _)]
 refine⟨by rw[List.length_map];exact Nat.le_trans (Nat.add_le_add_right pe 1) (by decide),jB (g:=[]) rfl trivial ?_⟩
 have hon':((((h++[MO.list (on.map Stp.v)])++[MO.list (e.p.map Stp.v)])++[MO.list [s.v]])++[MO.list (e.p.map Stp.v++[s.v])])[h.length]?=some (.list (on.map Stp.v)):=jf (jf (jf (ji _ _)))
 rw[JB (ji _ _) hon']
 refine⟨by simp;exact jV jr (qA jg ja) jd (qN 16777216) jd jc (qN 10000) ja (qN 10000) qt (qi hz) pe hon4,?_⟩
 generalize hX:((((h++[MO.list (on.map Stp.v)])++[MO.list (e.p.map Stp.v)])++[MO.list [s.v]])++[MO.list (e.p.map Stp.v++[s.v])])=H1 at hon'
 have p1:h <+: H1:=by rw[←hX];simp only[List.append_assoc];exact List.prefix_append _ _
 clear hX
 have eL:e.p.map Stp.v++[s.v]++on.map Stp.v=(e.p++[s]++on).map Stp.v:=by simp
 rw[eL]
 have p2:h <+: H1++[MO.list ((e.p++[s]++on).map Stp.v)]:=p1.trans (List.prefix_append _ _)
 refine Kb h19 ok (js p2 hm) (ji _ _) (Nat.le_trans (app3 pe hon4) (by decide)) (Wa path1) fun H2 u w pH gu gw=>⟨_,rfl,rfl,?_⟩
 have pH:=p2.trans pH
 have hon2:H2[h.length]?=some (.list (on.map Stp.v)):=js ‹_ <+: H2› (jf hon')
 refine wi (g:=[]) rfl trivial (fun hne=>kA (g:=[]) rfl trivial fun ρ=>q _ _ pH ⟨_,y,u,w,path1,hfin,by simpa using hne,Nat.le_trans (app3 pe hon4) (by decide),rfl,gu,gw⟩) fun heq=>jG ?_
 have heq:w1 M.moves (e.p++[s]++on)=w2 M.moves (e.p++[s]++on):=by simpa using heq
 rw[UY,UY,UV,UV,w1_one,w2_one] at heq
 refine jP (gn.lag e he) fun c0 zm2=>?_;refine jo zm2 fun d0 e1 e2=>?_
 have heq':(e.l.1++yL M.moves s.a)++w1 M.moves on=(e.l.2++yL M.moves s.b)++w2 M.moves on:=by
  rw[e1,e2] at heq
  simp only[List.append_assoc] at heq ⊢
  exact List.append_cancel_left heq
 rcases bad with bad | ⟨g,hg,k,hgx,hk,hne⟩
 ·exact absurd heq' (lagF_none bad)
 have path2:Pth M.moves b (g.p++on) y:=(gn.pth g hg).app (hgx▸hon)
 have hun:w1 M.moves (g.p++on)≠w2 M.moves (g.p++on):=fun e3=>by
  rw[UY,UV] at e3
  exact hne (Lags.uniq (gn.lag g hg) (Js hk) e3 heq')
 have pg:=pl g hg
 refine yp mC (A_sub0 mC (zS mC (jB (g:=[]) rfl trivial (kK mC (jC (g:=[]) (vs:=[.ref cn,wg s.to]) rfl trivial ?_)))))
 rw[←hgx]
 refine JA h17 gn.nd gn.ch ⟨cver,js pH hc⟩ hg (yM pg) (jB (g:=[]) rfl trivial ?_)
 rw[JB (ji _ _) (jf hon2)]
 refine⟨by simp;exact jV jr (qA jc ja) jd (qN 16777216) jd ja (qN 10000) jc (qN 10000) qt (qi hz) hon4 pg,?_⟩
 rw[←List.map_append]
 generalize hX:H2++[MO.list (g.p.map Stp.v)]=H3
 have p3:h <+: H3++[MO.list ((g.p++on).map Stp.v)]:=by rw[←hX];exact(pH.trans (List.prefix_append _ _)).trans (List.prefix_append _ _)
 clear hX
 exact Kb h19 ok (js p3 hm) (ji _ _) (Nat.le_trans (app2 pg hon4) (by decide)) (Wa path2) fun H4 u w pH4 gu gw=>⟨_,_,rfl,fun ρ=>q _ _ (p3.trans pH4) ⟨_,y,u,w,path2,hfin,hun,Nat.le_trans (app2 pg hon4) (by decide),rfl,gu,gw⟩⟩
end
structure GnH (H0 H:Tw.H)(G:List GE):Prop where
 pre:H0 <+: H
 l:∃ ver,H[H0.length]?=some (.dict (kvL G) ver)
 c:∃ ver,H[H0.length+1]?=some (.dict (kvC G) ver)
 r:H[H0.length+2]?=some (.list (Yv G))
theorem GnH.app {H0 H:Tw.H}{G:List GE}(x:GnH H0 H G)(t:Tw.H):GnH H0 (H++t) G:=⟨x.pre.trans (List.prefix_append _ _),x.l.imp fun J=>jf,x.c.imp fun J=>jf,jf x.r⟩
theorem GnH.new {H0 H:Tw.H}{G:List GE}(x:GnH H0 H G){g:GE}(hn:g.x ∉ G.map (·.x))(v1 v2:Nat):GnH H0 (((H.set H0.length (.dict (kB (kvL G) (wg g.x) (.tup [.str g.l.1,.str g.l.2])) v1)).set (H0.length+1) (.dict (kB (kvC G) (wg g.x) (cV g.c)) v2)).set (H0.length+2) (.list (Yv G++[wg g.x]))) (G++[g]):=by
 have l2:=wK x.r
 have e1:kvL (G++[g])=kB (kvL G) (wg g.x) (.tup [.str g.l.1,.str g.l.2]):=by unfold kvL;rw[yW (k:=fun g:GE=>g.x) hn,List.map_append];rfl
 have e2:kvC (G++[g])=kB (kvC G) (wg g.x) (cV g.c):=by unfold kvC;rw[yW (k:=fun g:GE=>g.x) hn,List.map_append];rfl
 have e3:Yv (G++[g])=Yv G++[wg g.x]:=by unfold Yv;rw[List.map_append];rfl
 refine⟨wz (wz (wz x.pre (by exact Nat.le_refl _) _) (by exact kg jO jc jg qt ) _) (by exact kg jO jc (qA jc qk2) qt ) _,⟨v1,?_⟩,⟨v2,?_⟩,?_⟩
 ·rw[List.getElem?_set_ne (by exact fun e0=>ZN jO (qA jc qk2) jc qt (qe e0)),List.getElem?_set_ne (by exact fun e0=>ZN jO jg jc qt (qe e0)),List.getElem?_set_self (by exact jq ju jg ja (qA (qA jc qk2) jj) ja qt l2),e1]
 ·rw[List.getElem?_set_ne (by exact fun e0=>ZN jO (qA jc qk2) jg qt (qe e0)),List.getElem?_set_self (by rw[List.length_set];exact jq ju (qA jg jj) ja (qA (qA jc qk2) jj) ja qt l2),e2]
 ·rw[List.getElem?_set_self (by rw[List.length_set,List.length_set];exact l2),e3]
theorem Told.mono {ms:List Mv}{G G':List GE}{g:GE}{s:Stp}(t:Told ms G g s)(p:G <+: G'):Told ms G' g s:=by
 refine jo t fun g' h1 h2=>?_
 obtain⟨r,rfl⟩:=p
 exact⟨g',List.mem_append_left _ h1,h2⟩
theorem GnD.app {M:Ma}{F:List (N2×Option Stp)}{G G':List GE}{a:Nat}(x:GnD M F G a)(ha:a≤G.length)(p:G <+: G'):GnD M F G' a:=fun i g hi hg=>by
 have hp:=p
 obtain⟨r,rfl⟩:=p
 rw[List.getElem?_append_left (by exact jt jr jg ja jd ja jg jd qt ha hi)] at hg
 obtain⟨h1,h2⟩:=x i g hi hg
 exact⟨h1,fun s hs ht=>(h2 s hs ht).mono hp⟩
theorem Gn.new {M:Ma}{b:N2}{F:List (N2×Option Stp)}{G:List GE}(x:Gn M b F G){e:GE}(he:e∈G){s:Stp}(hs:s∈jQ M.moves e.x)(hto:s.to∈F.map (·.1))(hn:s.to ∉ G.map (·.x)){k:List Nat×List Nat}(hk:JD (e.l.1++yL M.moves s.a) (e.l.2++yL M.moves s.b)=some k):Gn M b F (G++[⟨s.to,k,some (e.x,s),e.p++[s]⟩]) where
 nd:=by
  rw[List.map_append]
  refine List.nodup_append.mpr ⟨x.nd,by simp,fun u hu w hw e=>hn ?_⟩
  have:w=s.to:=by simpa using hw
  rw[←this,←e];exact hu
 sub:=fun g hg=>by
  rcases List.mem_append.mp hg with hg | hg
  ·exact x.sub g hg
  ·rw[List.mem_singleton.mp hg];exact hto
 ch:=fun g hg=>by
  rcases List.mem_append.mp hg with hg | hg
  ·rcases x.ch g hg with h | ⟨g',h1,h2⟩
   ·exact .inl h
   ·exact .inr ⟨g',List.mem_append_left _ h1,h2⟩
  ·rw[List.mem_singleton.mp hg];exact .inr ⟨e,List.mem_append_left _ he,s,rfl,rfl⟩
 pth:=fun g hg=>by
  rcases List.mem_append.mp hg with hg | hg
  ·exact x.pth g hg
  ·rw[List.mem_singleton.mp hg];exact(x.pth e he).app (.one hs)
 lag:=fun g hg=>by
  rcases List.mem_append.mp hg with hg | hg
  ·exact x.lag g hg
  ·rw[List.mem_singleton.mp hg]
   show Lags (w1 M.moves (e.p++[s])) (w2 M.moves (e.p++[s])) k
   rw[UY,UV,w1_one,w2_one]
   exact(x.lag e he).add (Js hk)
 idx:=fun i g hg=>by
  rcases Nat.lt_or_ge i G.length with h1 | h1
  ·rw[List.getElem?_append_left h1] at hg;exact x.idx i g hg
  ·rw[List.getElem?_append_right h1] at hg
   have:=List.mem_singleton.mp (List.mem_of_getElem? hg)
   rw[this]
   obtain⟨j,hj⟩:=List.mem_iff_getElem?.mp he
   have:=x.idx j e hj
   have:=(List.getElem?_eq_some_iff.mp hj).1
   show(e.p++[s]).length≤i
   rw[List.length_append];show _+1≤i;exact jV jE jg ja jd ja jc je wG jd qt h1 (by assumption) this
 head:=fun hb=>by
  refine jo (x.head hb) fun g h1 h2=>?_
  exact⟨g,List.mem_append_left _ h1,h2⟩
structure Gone (M:Ma)(b:N2)(G:List GE):Prop where
 nd:(G.map (·.x)).Nodup
 mem:∀ x,x∈G.map (·.x)↔Reach b (nxt M.moves) x∧Co M.moves M.ends x
 pth:∀ g∈G,Pth M.moves b g.p g.x
 lag:∀ g∈G,Lags (w1 M.moves g.p) (w2 M.moves g.p) g.l
 head:b∈G.map (·.x)→∃ g∈G,g.x=b∧g.l=([],[])
 fin:∀ g∈G,wm M.ends g.x→g.l=([],[])
 step:∀ g∈G,∀ s∈jQ M.moves g.x,Co M.moves M.ends s.to→Told M.moves G g s
 len:∀ g∈G,g.p.length≤G.length
theorem Gn.done {M:Ma}{b:N2}{F:List (N2×Option Stp)}{G:List GE}{a:Nat}(x:Gn M b F G)(dn:GnD M F G a)(ha:G.length≤a)(mem:∀ x,x∈F.map (·.1)↔Reach b (nxt M.moves) x∧Co M.moves M.ends x):Gone M b G:=by
 have at':∀ g∈G,(wm M.ends g.x→g.l=([],[]))∧∀ s∈jQ M.moves g.x,s.to∈F.map (·.1)→Told M.moves G g s:=fun g hg=>by
  obtain⟨i,hi⟩:=List.mem_iff_getElem?.mp hg
  exact dn i g (by have:=(List.getElem?_eq_some_iff.mp hi).1;exact jt jr jg ja jd ja jg jd qt ha this) hi
 have st:∀ g∈G,∀ s∈jQ M.moves g.x,Co M.moves M.ends s.to→Told M.moves G g s:=fun g hg s hs hc=>by
  obtain⟨h1,_⟩:=(mem g.x).mp (x.sub g hg)
  exact(at' g hg).2 s hs ((mem _).mpr ⟨.step h1 (yD.mpr ⟨s,hs,rfl⟩),hc⟩)
 have key:∀ y,Reach b (nxt M.moves) y→Co M.moves M.ends y→y∈G.map (·.x):=by
  intro y h1
  induction h1 with
  | nil =>
   intro h2
   refine kL (x.head ((mem _).mpr ⟨.nil,h2⟩)) fun g hg e J=>?_
   exact List.mem_map.mpr ⟨g,hg,e⟩
  | step hr hy ih =>
   intro h2
   refine jo (yD.mp hy) fun s hs zn3=>?_;subst zn3
   refine jo (List.mem_map.mp (ih (.step hs h2))) fun g hg e=>?_
   refine kL (st g hg s (by rw[e];exact hs) h2) fun g' hg' e' J=>?_
   exact List.mem_map.mpr ⟨g',hg',e'⟩
 refine⟨x.nd,fun y=>⟨fun hy=>?_,fun z=>key y z.1 z.2⟩,x.pth,x.lag,fun hb=>x.head ?_,fun g hg=>(at' g hg).1,st,fun g hg=>?_⟩
 ·refine jo (List.mem_map.mp hy) fun g hg zo4=>?_;subst zo4
  exact(mem _).mp (x.sub g hg)
 ·refine jo (List.mem_map.mp hb) fun g hg e=>?_
  exact e▸x.sub g hg
 ·obtain⟨i,hi⟩:=List.mem_iff_getElem?.mp hg
  have:=x.idx i g hi
  have:=(List.getElem?_eq_some_iff.mp hi).1
  exact jt jr jc ja jc jd jD ja qt (by assumption) this
noncomputable def gtL (m:Nat)(ov:V)(r k:Nat):Env:=[(4,.ref m),(5,ov),(6,.ref r),(7,.ref k),(8,.ref (k+1)),(9,.ref (k+2))]
def GwI (M:Ma)(F:List (N2×Option Stp))(H0:Tw.H)(n a:Nat)(H:Tw.H):Prop:=∃ G,n=M.n * M.n - a∧a≤G.length∧GnH H0 H G∧Gn M (M.b,M.b) F G∧GnD M F G a
def GwJ (M:Ma)(F:List (N2×Option Stp))(H0:Tw.H)(G:List GE)(e:GE)(SS:List Stp)(rr i:Nat)(H:Tw.H):Prop:=∃ G',G <+: G'∧GnH H0 H G'∧Gn M (M.b,M.b) F G'∧(∀ s∈SS.take i,Told M.moves G' e s)∧H[rr]?=some (.list (SS.map Stp.v))
section
variable {Φ:Nat→Option Fn}{d:Nat}{h:H}{Q:V→H→Prop}
theorem zL {v:V}{M:Ma}{K:Nat}(h0:Φ 0=some zf)(h1:Φ 1=some wX)(h2:Φ 2=some ya)(h12:Φ 12=some yv)(h13:Φ 13=some wF)(h14:Φ 14=some yP)(h15:Φ 15=some yc)(h16:Φ 16=some KH)(h17:Φ 17=some wr)(h18:Φ 18=some wo)(h19:Φ 19=some yt)(h20:Φ 20=some fn_gone_through)(h21:Φ 21=some yx)
  (hv:IsMa h v M) (ok:M.ok) (hK:∀ x,(jQ M.moves x).length≤K) (hB:M.n * M.n * K<10000000)
  (qn:∀ h' k G,h <+: h'→(∃ ver,h'[k]?=some (.dict (kvL G) ver))→Gone M (M.b,M.b) G→G.length≤M.n * M.n→Q (.tup [.ref k,.none]) h')
  (qs:∀ h' k w,h <+: h'→Two M (M.b,M.b) h' w→Q (.tup [.ref k,w]) h'):Calls Φ (d+3) 20 [v] h Q:=by
 have mC:=jy (Φ:=Φ) (d+2)
 have hz:=kp
 have hn2:=ok.n2
 have hb:=ok.b1
 have l1:=ok.l1
 have hnn:M.n * M.n≤10000:=Nat.mul_le_mul hn2 hn2
 have hKb:K<10000000:=by
  have:K≤M.n * M.n * K:=Nat.le_mul_of_pos_left _ (Nat.mul_pos ok.n1 ok.n1)
  exact jt ju jg (qN 10000000) jA (qN 10000000) jc ja qt hB this
 refine⟨fn_gone_through,h20,rfl,wS (Wi mC (g:=[]) rfl trivial (Zc h0 h1 hv ok fun fver=>⟨_,rfl,rfl,?_⟩))⟩
 generalize hA:h++[MO.dict (zu M.ends) fver,MO.list (M.moves.map Mv.v)]=A
 have pA:h <+: A:=⟨_,hA⟩
 have gF:A[h.length]?=some (.dict (zu M.ends) fver):=by rw[←hA];exact JV ..
 have gM:A[h.length+1]?=some (.list (M.moves.map Mv.v)):=by rw[←hA];exact len2 ..
 clear hA
 refine UL mC (g:=[]) rfl trivial (Zb h2 gM ok fun ov B pB ho=>?_)
 refine jL mC (zS mC (jC (g:=[]) rfl trivial (led_ok h12 h13 ok (js pB gM) ho hb hK hB fun D dn E T pD le=>jB (g:=[]) rfl trivial (rests_ok h14 ok ⟨hb,hb⟩ le ⟨fver,js (pB.trans pD) gF⟩ fun H0 fd F pH rs=>?_))))
 have p0:h <+: H0:=pA.trans (pB.trans (pD.trans pH))
 have gM:=js (pB.trans (pD.trans pH)) gM
 have ho:=ho.pre (pD.trans pH)
 clear pA gF pB pD pH le
 have inB:∀ {R:List N2},R.Nodup→(∀ x∈R,x∈F.map (·.1))→R.length≤M.n * M.n:=fun {R} nd hr=>by
  have:=yw R (Zx M.n M.n) nd fun x hx=>by
   obtain⟨h1,h2⟩:=yU ok ⟨hb,hb⟩ ((rs.mem x).mp (hr x hx)).1
   exact Ku h1 h2
  rw[Kr] at this;exact this
 have hFl:=inB rs.nd fun x hx=>hx
 rw[List.length_map] at hFl
 obtain⟨rver,gR⟩:=rs.dict
 refine JT fun ver1=>JT fun ver2=>zt ?_
 have n1:(H0++[MO.dict [] ver1]).length=H0.length+1:=by simp
 have n2:(H0++[MO.dict [] ver1]++[MO.dict [] ver2]).length=H0.length+2:=by simp
 rw[n1,n2]
 generalize hX:H0++[MO.dict [] ver1]++[MO.dict [] ver2]++[MO.list []]=H1
 have x0:GnH H0 H1 []:=by
  subst hX
  refine⟨by simp only[List.append_assoc];exact List.prefix_append _ _,⟨ver1,jf (jf (ji _ _))⟩,⟨ver2,jf ?_⟩,?_⟩
  ·rw[←n1];exact ji _ _
  ·rw[←n2];exact ji _ _
 clear hX
 have loop:∀ {L:Env} {H:Tw.H} {G:List GE} {Q':Out→jz→Tw.H→Prop},AllIn ((10,.int 0)::gtL (h.length+1) ov fd H0.length) ((10,.int 0)::L)→GnH H0 H G→Gn M (M.b,M.b) F G →
   (∀ ρ h' k G,h <+: h'→(∃ ver,h'[k]?=some (.dict (kvL G) ver))→Gone M (M.b,M.b) G→G.length≤M.n * M.n→Q' (.ret (.tup [.ref k,.none])) ρ h')→(∀ ρ h' k w,h <+: h'→Two M (M.b,M.b) h' w→Q' (.ret (.tup [.ref k,w])) ρ h') →
   AB (Calls Φ (d+2)) L H (fn_gone_through.body.drop 7) Q':=by
  clear qn qs
  intro L H G Q' hin x gn qn qs
  show AB _ _ _ (.assign (.name 10) (.lit (.int 0))::_) _
  refine kY (g:=[]) rfl trivial (yQ mC (fun a:Nat=>(10,.int a)::gtL (h.length+1) ov fd H0.length) (fun n a H=>GwI M F H0 n a H) (M.n * M.n) 0 hin ⟨G,rfl,Nat.zero_le _,x,gn,fun i g hi=>absurd hi (Nat.not_lt_zero _)⟩ ?_)
  clear x gn hin
  intro n a H K0 kN0 kR0;rintro⟨G,rfl,ha,x,gn,dn⟩
  have hGb:∀ {G:List GE},Gn M (M.b,M.b) F G→G.length≤M.n * M.n:=fun {G} gn=>by
   have:=inB gn.nd fun x hx=>by refine jo (List.mem_map.mp hx) fun g hg zp5=>?_;subst zp5;exact gn.sub g hg
   rw[List.length_map] at this;exact this
  have hGl:=hGb gn
  refine⟨[.int G.length],_,_,_,rfl,⟨fun Q q=>by rw[UP x.r,Yv,List.length_map];exact q,trivial⟩,fun hlt=>?_,fun hge=>?_⟩
  ·have hlt:a<G.length:=Jz hlt
   obtain⟨e,he⟩:∃ e,G[a]?=some e:=⟨_,List.getElem?_eq_getElem hlt⟩
   have hem:=List.mem_of_getElem? he
   have hpe:=gn.idx a e he
   have hle:=(gn.lag e hem).len
   have gone1:∀ p:List Stp,Pth M.moves (M.b,M.b) p e.x→(w1 M.moves p).length≤p.length∧(w2 M.moves p).length≤p.length:=fun p hp=>by
    have wl:∀ o:Option Nat,(yL M.moves o).length≤1:=fun o=>by
     cases o with
     | none=>exact Nat.zero_le _
     | some i =>
      show((M.moves[i]?.map Mv.g).getD []).length≤1
      cases hi:M.moves[i]? with
      | none=>exact Nat.zero_le _
      | some mv=>exact(ok.m1 mv (List.mem_of_getElem? hi)).2.2.2
    exact⟨by have:=yj (k:=1) p fun s J=>wl s.a;rw[Nat.mul_one] at this;exact this,by have:=yj (k:=1) p fun s J=>wl s.b;rw[Nat.mul_one] at this;exact this⟩
   obtain⟨lw1,lw2⟩:=gone1 e.p (gn.pth e hem)
   have hp4:e.p.length≤10000:=Nat.le_trans hpe (Nat.le_trans (Nat.le_of_lt hlt) (Nat.le_trans hGl hnn))
   have ll1:e.l.1.length≤10000:=Nat.le_trans hle.1 (Nat.le_trans lw1 hp4)
   have ll2:e.l.2.length≤10000:=Nat.le_trans hle.2 (Nat.le_trans lw2 hp4)
   refine kY (g:=[wg e.x]) rfl ⟨jZ x.r (lt62 (Nat.le_trans (Nat.le_of_lt hlt) (Nat.le_trans hGl hnn))) (by unfold Yv;rw[List.getElem?_map,he];rfl),trivial⟩ (kY (g:=[]) rfl trivial ?_)
   obtain⟨⟨fx,o⟩,hfo,hfx⟩:=List.mem_map.mp (gn.sub e hem)
   have hfx:fx=e.x:=hfx
   subst hfx
   have rdR:∀ {H':Tw.H},H0 <+: H'→WF H' (.ref fd) (wg e.x) (osV o):=fun p=>wO (js p gR) rfl (kP (k:=fun e:N2×Option Stp=>e.1) (w:=fun e=>osV e.2) rs.nd hfo)
   have rdL:∀ {H':Tw.H} {G':List GE},GnH H0 H' G'→Gn M (M.b,M.b) F G'→∀ {g:GE},g∈G'→WF H' (.ref H0.length) (wg g.x) (.tup [.str g.l.1,.str g.l.2]):=fun {H' G'} x gn {g} hg=>by
    obtain⟨lv,gl⟩:=x.l
    exact wO gl rfl (kP (k:=fun g:GE=>g.x) (w:=fun g=>.tup [.str g.l.1,.str g.l.2]) gn.nd hg)
   have hfin:yA (osV o)=true↔wm M.ends e.x:=by
    obtain⟨i,hi⟩:=List.mem_iff_getElem?.mp hfo
    rcases rs.val i e.x o hi with ⟨rfl,hf⟩ | ⟨s,rfl,hf,_⟩
    ·exact⟨fun J=>hf,fun J=>rfl⟩
    ·exact⟨fun h=>(nomatch h),fun h=>absurd h hf⟩
   refine wi (g:=[osV o,.tup [.str e.l.1,.str e.l.2],.bool (!decide (e.l=([],[])))]) rfl ⟨rdR x.pre,fun J=>⟨rdL x gn hem,cm_lg (k:=([],[])),trivial⟩,trivial⟩ (fun hc=>?_) fun hc=>jG ?_
   ·have hc:yA (osV o)=true∧e.l≠([],[]):=by simpa using hc
    have pp:=x.pre.trans (List.prefix_append H [MO.list (e.p.map Stp.v)])
    refine yp mC (Zp mC (jB (g:=[]) rfl trivial (A_sub0 mC (zS mC (jB (g:=[]) rfl trivial (jC (g:=[]) rfl trivial (JA h17 gn.nd gn.ch x.c hem (yM hp4) (Kb h19 ok (js pp gM) (ji _ _) (leM hp4) (Wa (gn.pth e hem)) fun H2 u w pH gu gw=>⟨_,_,rfl,fun ρ=>kR0 _ _ _ (qs ρ _ _ _ (p0.trans (pp.trans pH)) ⟨_,_,u,w,gn.pth e hem,hfin.mp hc.1,fun ee=>hc.2 ((gn.lag e hem).eq.mp ee),Nat.le_trans hp4 (by decide),rfl,gu,gw⟩)⟩))))))))
   have hf0:wm M.ends e.x→e.l=([],[]):=fun hf=>by
    by_cases h:e.l=([],[])
    ·exact h
    ·have:(yA (osV o) && !decide (e.l=([],[])))=true:=by rw[hfin.mpr hf,decide_eq_false h];rfl
     exact absurd (this.symm.trans hc) (fun e=>nomatch e)
   obtain⟨i1,i2⟩:=yU ok ⟨hb,hb⟩ ((rs.mem e.x).mp (gn.sub e hem)).1
   have hKe:=hK e.x
   refine A_forE mC (Ww mC (jC (g:=[]) rfl trivial (jaa h12 ok (js x.pre gM) (ho.pre x.pre) i1 i2 l1 (by exact jt ju jg (qN 10000000) jA (qN 10000000) jc ja qt hKb hKe) ?_)))
   have gS:=ji H (.list ((jQ M.moves e.x).map Stp.v))
   refine JY mC (jU H.length _) (l:=jQ M.moves e.x) (f:=Stp.v) (ga:=fun s=>if s.to∈F.map (·.1) then some s.v else none) (g:=[]) rfl trivial (kj gS) gS (by exact jV jr jc ja (qN 16777216) ja jD (qN 10000000) jc jd qt (qi hz) hKb hKe) (fun s hs=>⟨[.bool (decide (s.to∈F.map (·.1)))],_,_,_,rfl,⟨Uu (jf (js x.pre gR)) rfl wR,trivial⟩,Ze rfl,fun w hw=>?_⟩) ?_
   ·obtain⟨_,rfl⟩:=UU hw
    exact⟨[],_,_,rfl,trivial⟩
   rw[UH]
   have hSS:∀ s,s∈(jQ M.moves e.x).filter (fun s=>decide (s.to∈F.map (·.1)))↔s∈jQ M.moves e.x∧s.to∈F.map (·.1):=fun s=>by rw[List.mem_filter,decide_eq_true_eq]
   generalize (jQ M.moves e.x).filter (fun s=>decide (s.to∈F.map (·.1)))=SS at hSS
   have x2:=(x.app [MO.list ((jQ M.moves e.x).map Stp.v)]).app [MO.list (SS.map Stp.v)]
   have g1:=ji (H++[MO.list ((jQ M.moves e.x).map Stp.v)]) (.list (SS.map Stp.v))
   have lr:H0.length+2<(H++[MO.list ((jQ M.moves e.x).map Stp.v)]).length:=by
    have:=wK x.r
    rw[List.length_append];exact jq jr (qA (qA jc qk2) jj) (qA ja jd) (qA (qA jc qk2) jj) ja qt this
   generalize (H++[MO.list ((jQ M.moves e.x).map Stp.v)]).length=rr at g1 lr ⊢
   generalize H++[MO.list ((jQ M.moves e.x).map Stp.v)]++[MO.list (SS.map Stp.v)]=H2 at x2 g1 ⊢
   refine ye mC (jU rr (SS.map Stp.v)) (fun _:Unit=>(11,wg e.x)::(10,.int (a+1))::gtL (h.length+1) ov fd H0.length) (fun i J H=>GwJ M F H0 G e SS rr i H) () (by exact rfl) (jB (g:=[]) rfl trivial ⟨kj g1,G,List.prefix_refl _,x2,gn,fun s hs=>(nomatch hs),g1⟩) (fun i J H z=>by refine Z14 z fun J J J J J g=>?_;exact g) ?_ ?_
   ·clear x x2 g1 gS H2 H
    intro i v _ H K1 kN1 kR1 hv;rintro⟨G',pG,x,gn',told,g1⟩
    obtain⟨s,hs,rfl,hil⟩:=wJ hv
    obtain⟨hs1,hs2⟩:=(hSS s).mp (List.mem_of_getElem? hs)
    have hst:∀ y,y∈SS.take (i+1)↔y∈SS.take i∨y=s:=fun y=>by rw[List.take_add_one,hs,List.mem_append];exact or_congr Iff.rfl List.mem_singleton
    have hem':e∈G':=pG.subset hem
    have hGl':=hGb gn'
    have gM':=js x.pre gM
    obtain⟨v1,v2⟩:=Wa (Pth.one hs1) s (List.mem_singleton.mpr rfl)
    have wl:∀ o:Option Nat,(yL M.moves o).length≤1:=fun o=>by
     cases o with
     | none=>exact Nat.zero_le _
     | some i =>
      show((M.moves[i]?.map Mv.g).getD []).length≤1
      cases hi:M.moves[i]? with
      | none=>exact Nat.zero_le _
      | some mv=>exact(ok.m1 mv (List.mem_of_getElem? hi)).2.2.2
    have wa:=wl s.a
    have wb:=wl s.b
    refine jL mC (zS mC (kK mC (jB (g:=[.tup [.str e.l.1,.str e.l.2]]) rfl ⟨rdL x gn' hem',trivial⟩ (jC (g:=[]) rfl trivial (KO h15 gM' l1 v1 ?_)))))
    rw[x_adds]
    refine⟨cat1 ll1 wa,kK mC (jB (g:=[.tup [.str e.l.1,.str e.l.2]]) rfl ⟨rdL x gn' hem',trivial⟩ (jC (g:=[]) rfl trivial (KO h15 gM' l1 v2 ?_)))⟩
    rw[x_adds]
    refine⟨cat1 ll2 wb,lag_ok h16 (cat2 ll1 wa) (cat2 ll2 wb) ?_⟩
    obtain⟨lv,gl⟩:=x.l
    obtain⟨cv,gc⟩:=x.c
    have rs':Rst H fd M.moves M.ends (M.b,M.b) F:=⟨⟨rver,js x.pre gR⟩,rs.nd,rs.val,rs.mem⟩
    cases hlag:JD (e.l.1++yL M.moves s.a) (e.l.2++yL M.moves s.b) with
    | none =>
     exact wi (g:=[.bool false,.none,.bool false]) rfl ⟨fun h=>no_b h,trivial⟩ (fun J=>yp mC (Zp mC (jB (g:=[]) rfl trivial (jC (g:=[]) rfl trivial (UG h17 h18 h19 h21 ok gM' rs' gn' ⟨cv,gc⟩ hem' hs1 hs2 (Nat.le_trans hFl hnn) (Nat.le_trans hGl' hnn) (.inl hlag) fun h' v pH two=>fun ρ=>kR1 _ _ _ (kR0 _ _ _ (qs ρ _ _ _ (p0.trans (x.pre.trans pH)) two))))))) fun h=>nomatch h
    | some k =>
     by_cases hin:s.to∈G'.map (·.x)
     ·obtain⟨g',hg',hgx⟩:=List.mem_map.mp hin
      refine wi (g:=[.bool (decide (s.to∈G'.map (·.x))),.tup [.str g'.l.1,.str g'.l.2],.bool (!decide (g'.l=k))]) rfl ⟨fun J=>⟨Uu gl rfl wR,fun J=>⟨hgx▸rdL x gn' hg',cm_lg,trivial⟩,trivial⟩,trivial⟩ (fun hc=>?_) fun hc=>jG ?_
      ·have hc:g'.l≠k:=by
        have hc:(false || (decide (s.to∈G'.map (·.x)) && !decide (g'.l=k)))=true:=hc
        rw[decide_eq_true hin] at hc
        simpa using hc
       exact yp mC (Zp mC (jB (g:=[]) rfl trivial (jC (g:=[]) rfl trivial (UG h17 h18 h19 h21 ok gM' rs' gn' ⟨cv,gc⟩ hem' hs1 hs2 (Nat.le_trans hFl hnn) (Nat.le_trans hGl' hnn) (.inr ⟨g',hg',k,hgx,hlag,hc⟩) fun h' v pH two=>fun ρ=>kR1 _ _ _ (kR0 _ _ _ (qs ρ _ _ _ (p0.trans (x.pre.trans pH)) two))))))
      ·have hgk:g'.l=k:=by
        have hc:(false || (decide (s.to∈G'.map (·.x)) && !decide (g'.l=k)))=false:=hc
        rw[decide_eq_true hin] at hc
        simpa using hc
       refine wi (g:=[.bool (!decide (s.to∈G'.map (·.x)))]) rfl ⟨UO gl rfl wR,trivial⟩ (fun h=>?_) fun J=>jG (kz kN1 () (by exact rfl) ⟨G',pG,x,gn',fun y hy=>?_,g1⟩)
       ·rw[decide_eq_true hin] at h;cases h
       ·rcases (hst y).mp hy with hy | rfl
        ·exact told y hy
        ·exact⟨g',hg',hgx,by rw[hlag,hgk]⟩
     ·refine wi (g:=[.bool (decide (s.to∈G'.map (·.x))),.none,.bool false]) rfl ⟨fun J=>⟨Uu gl rfl wR,fun h=>absurd (of_decide_eq_true h) hin,trivial⟩,trivial⟩ (fun hc=>?_) fun hc=>jG ?_
      ·have hc:(false || (decide (s.to∈G'.map (·.x)) && false))=true:=hc
       rw[Bool.and_false] at hc;cases hc
      refine wi (g:=[.bool (!decide (s.to∈G'.map (·.x)))]) rfl ⟨UO gl rfl wR,trivial⟩ (fun J=>?_) fun h=>?_
      ·refine Kh (g:=[]) (g₂:=[]) rfl gl rfl trivial rfl trivial rfl (by unfold kvL;rw[List.length_map];exact yM (Nat.le_trans hGl' hnn)) fun ver1=>Kh (g:=[]) (g₂:=[]) rfl (by rw[List.getElem?_set_ne (ne01 _)];exact gc) rfl trivial rfl trivial rfl (by unfold kvC;rw[List.length_map];exact yM (Nat.le_trans hGl' hnn)) fun ver2=>Jl (g:=[]) rfl (by rw[List.getElem?_set_ne (ne12 _),List.getElem?_set_ne (ne02 _)];exact x.r) (by unfold Yv;rw[List.length_map];exact yM (Nat.le_trans hGl' hnn)) rfl trivial (jG ?_)
       have xn:=x.new (g:=⟨s.to,k,some (e.x,s),e.p++[s]⟩) hin ver1 ver2
       refine kz kN1 () (by exact rfl) ⟨_,pG.trans (List.prefix_append _ _),xn,gn'.new hem' hs1 hs2 hin hlag,fun y hy=>?_,?_⟩
       ·rcases (hst y).mp hy with hy | rfl
        ·exact(told y hy).mono (List.prefix_append _ _)
        ·exact⟨_,List.mem_append_right _ (List.mem_singleton.mpr rfl),rfl,hlag⟩
       ·rw[List.getElem?_set_ne (Nat.ne_of_lt lr),List.getElem?_set_ne (Nat.ne_of_lt (Nat.lt_trans (Nat.lt_succ_self _) lr)),List.getElem?_set_ne (Nat.ne_of_lt (Nat.lt_of_le_of_lt (Nat.le_add_right ..) lr))];exact g1
      ·rw[decide_eq_false hin] at h;cases h
   ·clear x x2 g1 gS H2 H
    intro _ H zy68
    refine Z14 zy68 fun G' pG x gn' told g1=>?_
    rw[List.length_map,List.take_length] at told
    have lG:=pG.length_le
    have hGl':=hGb gn'
    have he':G'[a]?=some e:=by obtain⟨t,rfl⟩:=pG;rw[List.getElem?_append_left hlt];exact he
    refine yY kN0 (M.n * M.n - (a+1)) (a+1) (Nat.sub_lt_sub_left (Nat.lt_of_lt_of_le hlt hGl) (Nat.lt_succ_self a)) (by exact rfl) ⟨G',rfl,Nat.le_trans hlt lG,x,gn',fun i g hi hg=>?_⟩
    by_cases hia:i=a
    ·rw[hia,he'] at hg
     cases hg
     exact⟨hf0,fun s hs ht=>told s ((hSS s).mpr ⟨hs,ht⟩)⟩
    ·exact dn.app ha pG i g (Nat.lt_of_le_of_ne (Nat.le_of_lt_succ hi) hia) hg
  ·have hge:G.length≤a:=JE hge
   exact kA (g:=[]) rfl trivial fun ρ=>qn ρ H _ G (p0.trans x.pre) x.l (gn.done dn hge rs.mem) hGl
 refine wi (g:=[.bool (decide (((M.b,M.b):N2)∈F.map (fun e:N2×Option Stp=>e.1)))]) rfl ⟨Uu (js x0.pre gR) rfl (wR (k:=fun e:N2×Option Stp=>e.1) (w:=fun e=>osV e.2) (l:=F) (z:=(M.b,M.b))),trivial⟩ (fun hc=>?_) fun hc=>jG (loop (by exact rfl) x0 ⟨List.nodup_nil,fun J h=>(nomatch h),fun J h=>(nomatch h),fun J h=>(nomatch h),fun J h=>(nomatch h),fun J J h=>(nomatch h),fun h=>absurd h (of_decide_eq_false hc)⟩ (fun ρ=>qn) fun ρ=>qs)
 obtain⟨lv,gl⟩:=x0.l
 obtain⟨cv,gc⟩:=x0.c
 refine Kh (g:=[]) (g₂:=[]) rfl gl rfl trivial rfl trivial rfl (yM (Nat.zero_le _)) fun ver1=>Kh (g:=[]) (g₂:=[]) rfl (by rw[List.getElem?_set_ne (ne01 _)];exact gc) rfl trivial rfl trivial rfl (yM (Nat.zero_le _)) fun ver2=>Jl (g:=[]) rfl (by rw[List.getElem?_set_ne (ne12 _),List.getElem?_set_ne (ne02 _)];exact x0.r) (yM (Nat.zero_le _)) rfl trivial (jG ?_)
 have xn:=x0.new (g:=⟨(M.b,M.b),([],[]),none,[]⟩) (fun h=>nomatch h) ver1 ver2
 refine loop (by exact rfl) xn ⟨by simp,fun g hg=>?_,fun g hg=>?_,fun g hg=>?_,fun g hg=>?_,fun i g hg=>?_,fun J=>⟨_,List.mem_singleton.mpr rfl,rfl,rfl⟩⟩ (fun ρ=>qn) fun ρ=>qs
 ·rw[List.mem_singleton.mp hg];exact of_decide_eq_true hc
 ·rw[List.mem_singleton.mp hg];exact .inl ⟨rfl,rfl⟩
 ·rw[List.mem_singleton.mp hg];exact .nil
 ·rw[List.mem_singleton.mp hg];exact⟨.inl rfl,[],rfl,rfl⟩
 ·rw[List.mem_singleton.mp (List.mem_of_getElem? hg)];exact Nat.zero_le _
end
theorem Co.path {ms:List Mv}{es:List Nat}{x y:N2}{p:List Stp}(h:Pth ms x p y)(hc:Co ms es y):Co ms es x:=by
 induction h with
 | nil=>exact hc
 | cons hs _ ih=>exact .step hs (ih hc)
theorem Gone.along {M:Ma}{b:N2}{G:List GE}(gn:Gone M b G){x y:N2}{p:List Stp}(h:Pth M.moves x p y)(hc:Co M.moves M.ends y):∀ g∈G,g.x=x→∀ u w,Lags u w g.l→∃ g'∈G,g'.x=y∧Lags (u++w1 M.moves p) (w++w2 M.moves p) g'.l:=by
 induction h with
 | nil=>intro g hg e u w l;exact⟨g,hg,e,by simp only[w1,w2,List.flatMap_nil,List.append_nil];exact l⟩
 | @cons x y s p hs hp ih =>
  intro g hg e u w l
  refine kL (gn.step g hg s (by rw[e];exact hs) (hc.path hp)) fun g1 hg1 e1 hl1=>?_
  refine kL (ih hc g1 hg1 e1 _ _ (l.add (Js hl1))) fun g2 hg2 e2 l2=>?_
  refine⟨g2,hg2,e2,?_⟩
  rw[List.append_assoc,List.append_assoc] at l2
  exact l2
theorem Gone.from {M:Ma}{b:N2}{G:List GE}(gn:Gone M b G){y:N2}{p:List Stp}(h:Pth M.moves b p y)(hc:Co M.moves M.ends y):∃ g∈G,g.x=y∧Lags (w1 M.moves p) (w2 M.moves p) g.l:=by
 refine kL (gn.head ((gn.mem b).mpr ⟨.nil,hc.path h⟩)) fun g hg e el=>?_
 have:=gn.along h hc g hg e [] [] (by rw[el];exact⟨.inl rfl,[],rfl,rfl⟩)
 simpa using this
theorem Gone.no {M:Ma}{b:N2}{G:List GE}(gn:Gone M b G){h:H}{v:V}:¬ Two M b h v:=fun t=>by
 refine Z43 (t.ex) fun p y u w h1 h2 h3 J=>?_
 refine kL (gn.from h1 (.fin h2)) fun g hg e l=>?_
 exact h3 (l.eq.mpr (gn.fin g hg (by rw[e];exact h2)))
noncomputable def zZ (G:List GE)(x:N2):List Nat×List Nat:=((G.find? fun g=>decide (g.x=x)).map (·.l)).getD ([],[])
theorem zR {G:List GE}(nd:(G.map (·.x)).Nodup){g:GE}(hg:g∈G):zZ G g.x=g.l:=by
 unfold zZ
 cases hf:G.find? fun g'=>decide (g'.x=g.x) with
 | none=>exact absurd (decide_eq_true rfl) (List.find?_eq_none.mp hf g hg)
 | some g' =>
  have h1:=List.mem_of_find?_eq_some hf
  have h2:=List.find?_some hf
  have h2:g'.x=g.x:=of_decide_eq_true h2
  rw[Wv nd h1 hg h2];rfl
noncomputable def Zt (G:List GE)(x:N2):V:=.tup [.int x.1,.int x.2,.str (zZ G x).1,.str (zZ G x).2]
structure FnsP (Φ:Nat→Option Fn):Prop where
 h0:Φ 0=some zf
 h1:Φ 1=some wX
 h2:Φ 2=some ya
 h12:Φ 12=some yv
 h13:Φ 13=some wF
 h14:Φ 14=some yP
 h15:Φ 15=some yc
 h16:Φ 16=some KH
 h17:Φ 17=some wr
 h18:Φ 18=some wo
 h19:Φ 19=some yt
 h20:Φ 20=some fn_gone_through
 h21:Φ 21=some yx
 h22:Φ 22=some zG
theorem KF {h:H}{n:Nat}{l:List (Nat×Nat)}{Q:V→H→Prop}(hi:Wp h n (l.map Jo))(nd:l.Nodup)(q:∀ ks:List (Nat×Nat),ks.Perm l→ks.Pairwise (fun a b=>¬ jX b a)→Q (.ref h.length) (h++[.list (ks.map Jo)])):BiW .sorted [.ref n] h Q:=by
 refine⟨_,hi,.inr (.inr (.inl ⟨l.map fun x=>(x,[]),by rw[List.map_map];rfl,by rw[List.map_map,show((fun x:(Nat×Nat)×List (List Nat)=>x.1)∘fun x=>(x,[]))=id from rfl,List.map_id];exact nd,fun ks hp hs=>?_⟩))⟩
 have e1:(l.map fun x=>(x,([]:List (List Nat)))).map (·.1)=l:=by rw[List.map_map,show((fun x:(Nat×Nat)×List (List Nat)=>x.1)∘fun x=>(x,[]))=id from rfl,List.map_id]
 have e2:ks.map Zf=(ks.map (·.1)).map Jo:=by
  rw[List.map_map]
  refine List.map_congr_left fun x hx=>?_
  refine jo (List.mem_map.mp (hp.mem_iff.mp hx)) fun y J zq6=>?_;subst zq6
  rfl
 rw[e2]
 exact q _ (e1▸hp.map (·.1)) (List.pairwise_map.mpr hs)
section
variable {Φ:Nat→Option Fn}{d:Nat}{h:H}{Q:V→H→Prop}
theorem Zu {v:V}{M:Ma}{K:Nat}(F:FnsP Φ)(hv:IsMa h v M)(ok:M.ok)(hK:∀ x,(jQ M.moves x).length≤K)(hB:M.n * M.n * K<10000000)
  (qn:∀ h' G,h <+: h'→Gone M (M.b,M.b) G→G.length≤M.n * M.n→Q .none h') (qs:∀ h' w,h <+: h'→Two M (M.b,M.b) h' w→Q w h'):Calls Φ (d+4) 22 [v] h Q:=by
 have mC:=jy (Φ:=Φ) (d+3)
 refine⟨zG,F.h22,rfl,wS (yp mC (A_sub1 mC (jC (g:=[]) rfl trivial (zL F.h0 F.h1 F.h2 F.h12 F.h13 F.h14 F.h15 F.h16 F.h17 F.h18 F.h19 F.h20 F.h21 hv ok hK hB ?_ ?_))))⟩
 ·exact fun h' k G p J gn hl=>⟨_,_,_,rfl,fun ρ=>qn h' G p gn hl⟩
 ·exact fun h' k w p t=>⟨_,_,_,rfl,fun ρ=>qs h' w p t⟩
theorem ahead_ok {v:V}{M:Ma}{K:Nat}(F:FnsP Φ)(h23:Φ 23=some Ji)(hv:IsMa h v M)(ok:M.ok)(hK:∀ x,(jQ M.moves x).length≤K)(hB:M.n * M.n * K<10000000){G0:List GE}(g0:Gone M (M.b,M.b) G0)
  (q:∀ h' r G (ks:List N2),h <+: h'→Gone M (M.b,M.b) G→ks.Perm (G.map (·.x))→ks.Pairwise (fun a b=>¬ jX b a)→h'[r]?=some (.list (ks.map (Zt G)))→Q (.ref r) h'):Calls Φ (d+4) 23 [v] h Q:=by
 have mC:=jy (Φ:=Φ) (d+3)
 have hz:=kp
 refine⟨Ji,h23,rfl,wS (Wi mC (g:=[]) rfl trivial (zL F.h0 F.h1 F.h2 F.h12 F.h13 F.h14 F.h15 F.h16 F.h17 F.h18 F.h19 F.h20 F.h21 hv ok hK hB ?_ ?_))⟩
 ·rintro h' k G p ⟨ver,hk⟩ gn hl
  refine⟨_,rfl,rfl,wi (g:=[]) rfl trivial (fun e=>nomatch e) fun J=>jG (yp mC (Ww mC (UQ (g:=[]) rfl trivial ?_)))⟩
  refine KF (l:=G.map fun g=>g.x) (.inl ⟨_,ver,hk,?hks⟩) gn.nd fun ks hp hs=>?_
  case hks=>exact Jk (k:=fun g:GE=>g.x) G
  have hlen:=hp.length_eq
  rw[List.length_map] at hlen
  have hnn:M.n * M.n≤10000:=Nat.mul_le_mul ok.n2 ok.n2
  have g1:=ji h' (.list (ks.map Jo))
  refine Ka mC (jU h'.length _) (l:=ks) (f:=Jo) (w:=Zt G) (g:=[]) rfl trivial (kj g1) g1 (by exact yS jE jc ja (qN 16777216) ja jd je jc jd je (qN 10000) qt (qi hz) hl (qe hlen) hnn) (fun x hx=>?_) fun ρ=>q _ _ G ks ((p.trans (List.prefix_append _ _)).trans (List.prefix_append _ _)) gn hp hs (ji _ _)
  refine jo (List.mem_map.mp (hp.mem_iff.mp hx)) fun g hg zr7=>?_;subst zr7
  have hr:WF (h'++[.list (ks.map Jo)]) (.ref k) (wg g.x) (.tup [.str g.l.1,.str g.l.2]):=wO (jf hk) rfl (kP (k:=fun g:GE=>g.x) (w:=fun g=>.tup [.str g.l.1,.str g.l.2]) gn.nd hg)
  unfold Zt
  rw[zR gn.nd hg]
  exact⟨[.tup [.str g.l.1,.str g.l.2],.tup [.str g.l.1,.str g.l.2]],_,_,rfl,hr,hr,trivial⟩
 ·exact fun h' k w p t=>absurd t g0.no
end
namespace L10
end L10
abbrev Q4:=N2×List Nat×List Nat
noncomputable def q4V (y:Q4):V:=.tup [.int y.1.1,.int y.1.2,.str y.2.1,.str y.2.2]
noncomputable def q4 (ms:List Mv)(s:Stp):Q4:=(s.to,yL ms s.a,yL ms s.b)
def AEs (C:kO)(L:Env)(h:H)(es:List E)(Q:List V→H→Prop):Prop:=∀ ρ,Ag L ρ→wpEs C es ρ h Q
section
variable {C:kO}{L:Env}{h:H}{Q:V→H→Prop}
theorem yH {Q:List V→H→Prop}(q:Q [] h):AEs C L h [] Q:=fun ρ ag=>q
theorem jN (hC:jY C){e:E}{es:List E}{Q:List V→H→Prop}(x:AE C L h e fun v h1=>AEs C L h1 es fun vs h2=>Q (v::vs) h2):AEs C L h (e::es) Q:=fun ρ ag=>by
 rw[jJ];exact jh hC e (fun v h1 y=>y ρ ag) (x ρ ag)
theorem Wq {f:Nat}{as:List E}(x:AEs C L h as fun vs h1=>C f vs h1 Q):AE C L h (.call f as) Q:=fun ρ ag=>by rw[WA];exact x ρ ag
theorem Zi {as:List E}(x:AEs C L h as fun vs h1=>Q (.tup vs) h1):AE C L h (.tup as) Q:=fun ρ ag=>by rw[jak];exact x ρ ag
theorem A_expr {e:E}(hC:jY C){r:List S}{Q:Out→jz→H→Prop}(x:AE C L h e fun J h1=>AB C L h1 r Q):AB C L h (.expr e::r) Q:=fun ρ ag=>zF (jh hC e (fun v h1 y=>y ρ ag) (x ρ ag))
end
theorem A_appX {C:kO}(hC:jY C){L:Env}{h:H}{r:List S}{Q:Out→jz→H→Prop}{i n:Nat}{e:E}(hi:lk L i=some (.ref n))(h0:∃ vs,h[n]?=some (.list vs))(x:AE C L h e fun v h1=>∃ vs,h1[n]?=some (.list vs)∧vs.length<SZ∧AB C L (h1.set n (.list (vs++[v]))) r Q):AB C L h (.expr (.meth .append (.var i) [e])::r) Q:=fun ρ ag=>by
 refine zF ?_
 rw[zH,wh,ag i _ hi,jR,jJ]
 refine⟨h0,jh hC e (fun v h1 z=>?_) (x ρ ag)⟩
 refine kL z fun vs h2 h3 h4=>?_
 rw[kx,jac h2]
 exact⟨h3,h4 ρ ag⟩
theorem A_subG {C:kO}(hC:jY C){L:Env}{h:H}{Q:V→H→Prop}{a i:E}(x:AE C L h a fun v h1=>AE C L h1 i fun w h2=>SubW v w h2 fun u=>Q u h2):AE C L h (.sub a i) Q:=fun ρ ag=>by
 rw[e_sub]
 exact jh hC a (fun v h1 y=>jh hC i (fun w h2 z=>z) (y ρ ag)) (x ρ ag)
theorem UB {C:kO}{L L':Env}{h:H}{r:List S}{Q:Out→jz→H→Prop}(hin:AllIn L L')(x:AB C L h r Q):AB C L' h r Q:=fun ρ ag=>x ρ (AllIn.ag ag hin)
theorem Wc {k:Nat}(h:k<1000):Kz (.int k)=some k:=by unfold Kz;exact if_pos ⟨Int.natCast_nonneg k,WN (Nat.lt_trans h (by decide))⟩
theorem Zv {k n:Nat}(h:k<1000):Kq n (.int k)=some k:=by unfold Kq;exact if_pos ⟨Int.natCast_nonneg k,WN (Nat.lt_trans h (by decide))⟩
noncomputable def nd2 (x:N2):D:=.tup [.int x.1,.int x.2]
noncomputable def qd4 (y:Q4):D:=.tup [.int y.1.1,.int y.1.2,.str y.2.1,.str y.2.2]
theorem snap4 (h:H)(y:Q4):Snap h (q4V y) (qd4 y):=.tup (.cons (.int _) (.cons (.int _) (.cons (.str _) (.cons (.str _) .nil))))
noncomputable def wf:Fn:=⟨1,[
 .assign (.tup [1,2]) (.call 20 [(.var 0)]),
 .ite (.cmp .isNot (.var 2) (.lit .none)) [
  .ret (some (.lit (.bool true)))] [],
 .expr (.comp (.tup [(.sub (.var 7) (.lit (.int 0))),(.sub (.var 7) (.lit (.int 1))),(.sub (.sub (.var 1) (.var 7)) (.lit (.int 0))),(.sub (.sub (.var 1) (.var 7)) (.lit (.int 1)))]) (.name 7) (.bi .sorted [(.var 1)]) none),
 .ret (some (.lit (.bool false)))]⟩
namespace L11
noncomputable def fn__law_is_refused:Fn:=⟨1,[
 .ite (.call 1023 [(.var 0)]) [
  .ret (some (.lit (.bool true)))] [],
 .ret (some (.lit (.bool false)))]⟩
end L11
section
variable {Φ:Nat→Option Fn}{d:Nat}{h:H}{Q:V→H→Prop}
theorem try_ok {v:V}{M:Ma}{K:Nat}(F:FnsP Φ)(h1023:Φ 1023=some wf)(hv:IsMa h v M)(ok:M.ok)(hK:∀ x,(jQ M.moves x).length≤K)(hB:M.n * M.n * K<10000000)
  (qn:∀ h' G,h <+: h'→Gone M (M.b,M.b) G→Q (.bool false) h') (qs:∀ h' w,h <+: h'→Two M (M.b,M.b) h' w→Q (.bool true) h'):Calls Φ (d+4) 1023 [v] h Q:=by
 have mC:=jy (Φ:=Φ) (d+3)
 have hz:=kp
 refine⟨wf,h1023,rfl,wS (Wi mC (g:=[]) rfl trivial (zL F.h0 F.h1 F.h2 F.h12 F.h13 F.h14 F.h15 F.h16 F.h17 F.h18 F.h19 F.h20 F.h21 hv ok hK hB ?_ ?_))⟩
 ·rintro h' k G p ⟨ver,hk⟩ gn hl
  refine⟨_,rfl,rfl,wi (g:=[]) rfl trivial (fun e=>nomatch e) fun J=>jG (A_expr mC (Ww mC (UQ (g:=[]) rfl trivial ?_)))⟩
  refine KF (l:=G.map fun g=>g.x) (.inl ⟨_,ver,hk,?hks⟩) gn.nd fun ks hp hs=>?_
  case hks=>exact Jk (k:=fun g:GE=>g.x) G
  have hlen:=hp.length_eq
  rw[List.length_map] at hlen
  have hnn:M.n * M.n≤10000:=Nat.mul_le_mul ok.n2 ok.n2
  have g1:=ji h' (.list (ks.map Jo))
  refine Ka mC (jU h'.length _) (l:=ks) (f:=Jo) (w:=Zt G) (g:=[]) rfl trivial (kj g1) g1 (by exact yS jE jc ja (qN 16777216) ja jd je jc jd je (qN 10000) qt (qi hz) hl (qe hlen) hnn) (fun x hx=>?_) (kA (g:=[]) rfl trivial fun ρ=>qn _ G ((p.trans (List.prefix_append _ _)).trans (List.prefix_append _ _)) gn)
  refine jo (List.mem_map.mp (hp.mem_iff.mp hx)) fun g hg zs8=>?_;subst zs8
  have hr:WF (h'++[.list (ks.map Jo)]) (.ref k) (wg g.x) (.tup [.str g.l.1,.str g.l.2]):=wO (jf hk) rfl (kP (k:=fun g:GE=>g.x) (w:=fun g=>.tup [.str g.l.1,.str g.l.2]) gn.nd hg)
  unfold Zt
  rw[zR gn.nd hg]
  exact⟨[.tup [.str g.l.1,.str g.l.2],.tup [.str g.l.1,.str g.l.2]],_,_,rfl,hr,hr,trivial⟩
 ·rintro h' k w p t
  refine⟨_,rfl,rfl,?_⟩
  refine Z45 (t.ex) fun J J J J J J J J e J=>?_
  have t:=t
  subst e
  exact wi (g:=[]) rfl trivial (fun J=>kA (g:=[]) rfl trivial fun ρ=>qs _ _ p t) fun e=>nomatch e
theorem Wg {v:V}{M:Ma}{K:Nat}(F:FnsP Φ)(h1023:Φ 1023=some wf)(h38:Φ 38=some L11.fn__law_is_refused)(hv:IsMa h v M)(ok:M.ok)(hK:∀ x,(jQ M.moves x).length≤K)(hB:M.n * M.n * K<10000000)
  (qn:∀ h' G,h <+: h'→Gone M (M.b,M.b) G→Q (.bool false) h') (qs:∀ h' w,h <+: h'→Two M (M.b,M.b) h' w→Q (.bool true) h'):Calls Φ (d+5) 38 [v] h Q:=by
 have mC:=jy (Φ:=Φ) (d+4)
 refine⟨L11.fn__law_is_refused,h38,rfl,wS (A_ifW mC fun ρ ag=>?_)⟩
 rw[t_call,jJ,wh,ag 0 _ rfl,jR,kx]
 refine try_ok F h1023 hv ok hK hB (fun h' G p gn=>?_) fun h' w p t=>?_
 ·rw[x_tb];exact jG (kA (g:=[]) rfl trivial fun ρ=>qn h' G p gn)
 ·rw[x_tb];exact kA (g:=[]) rfl trivial fun ρ=>qs h' w p t
end
theorem WZ {M:Ma}{x y:N2}{p:List Stp}(h:Pth M.moves x p y):∀ {u w:List Nat},Path M u x.1→Path M w x.2→Path M (u++p.filterMap (·.a)) y.1∧Path M (w++p.filterMap (·.b)) y.2:=by
 induction h with
 | nil=>intro u w hu hw;simpa using ⟨hu,hw⟩
 | @cons x y s p hs _ ih =>
  intro u w hu hw
  cases kW.mp hs with
  | @one i m h1 h2 h3 =>
   have:=ih (u:=u++[i]) (w:=w) (.snoc (h2▸hu) h1) hw
   simpa using this
  | @both i j m n h1 h2 h3 h4 h5 h6 =>
   have:=ih (u:=u++[i]) (w:=w++[j]) (.snoc (h2▸hu) h1) (.snoc (h5▸hw) h4)
   simpa using this
  | @two j n h1 h2 h3 =>
   have:=ih (u:=u) (w:=w++[j]) hu (.snoc (h2▸hw) h1)
   simpa using this
theorem rd_a (M:Ma)(p:List Stp):zc M (p.filterMap (·.a))=r1 M.moves p:=by
 unfold zc r1
 induction p with
 | nil=>rfl
 | cons s p ih =>
  obtain⟨a,b,t⟩:=s
  cases a with
  | none=>simpa [UA] using ih
  | some i=>simpa [UA] using ih
theorem wr_a (M:Ma)(p:List Stp):Wj M (p.filterMap (·.a))=w1 M.moves p:=by
 unfold Wj w1
 induction p with
 | nil=>rfl
 | cons s p ih =>
  obtain⟨a,b,t⟩:=s
  cases a with
  | none=>simpa [yL] using ih
  | some i=>simpa [yL] using ih
theorem wr_b (M:Ma)(p:List Stp):Wj M (p.filterMap (·.b))=w2 M.moves p:=by
 unfold Wj w2
 induction p with
 | nil=>rfl
 | cons s p ih =>
  obtain⟨a,b,t⟩:=s
  cases b with
  | none=>simpa [yL] using ih
  | some i=>simpa [yL] using ih
theorem rd_b {M:Ma}{x y:N2}{p:List Stp}(h:Pth M.moves x p y):zc M (p.filterMap (·.b))=r1 M.moves p:=by
 induction h with
 | nil=>rfl
 | @cons x y s p hs _ ih =>
  unfold zc r1 at *
  cases kW.mp hs with
  | @one i m h1 h2 h3=>simpa [UA,h1,h3] using ih
  | @both i j m n h1 h2 h3 h4 h5 h6=>simpa [UA,h1,h4,h6] using ih
  | @two j n h1 h2 h3=>simpa [UA,h1,h3] using ih
theorem ways_pth {M:Ma}(ok:M.ok):∀ (n:Nat) {p q:List Nat} {s u:Nat},p.length+q.length≤n→Path M p s→Path M q u→zc M p=zc M q→∃ x,Pth M.moves (M.b,M.b) x (s,u)∧x.filterMap (·.a)=p∧x.filterMap (·.b)=q:=by
 intro n
 induction n with
 | zero =>
  intro p q s u hl hp hq e
  cases hp with
  | nil =>
   cases hq with
   | nil=>exact⟨[],.nil,rfl,rfl⟩
   | snoc=>simp at hl
  | snoc=>simp at hl
 | succ n ih =>
  intro p q s u hl hp hq e
  have tl:∀ {k:Nat} {m:Mv},M.moves[k]?=some m→m.t=[]∨∃ c,m.t=[c]:=fun {k m} h=>by
   have:=(ok.m1 m (List.mem_of_getElem? h)).2.2.1
   match m.t,this with
   | [],_=>exact .inl rfl
   | [c],_=>exact .inr ⟨c,rfl⟩
  have one:∀ {p0:List Nat} {k:Nat} {m:Mv},Path M p0 m.s→M.moves[k]?=some m→m.t=[]→p0.length+q.length≤n→zc M p0=zc M q→∃ x,Pth M.moves (M.b,M.b) x (m.q,u)∧x.filterMap (·.a)=p0++[k]∧x.filterMap (·.b)=q:=fun h1 h2 h3 h4 h5=>by
   refine kL (ih h4 h1 hq h5) fun x hx ea eb=>?_
   exact⟨x++[_],hx.app (.one (kW.mpr (.one h2 rfl h3))),by simp [ea],by simp [eb]⟩
  have two:∀ {q0:List Nat} {k:Nat} {m:Mv},Path M q0 m.s→M.moves[k]?=some m→m.t=[]→p.length+q0.length≤n→zc M p=zc M q0→∃ x,Pth M.moves (M.b,M.b) x (s,m.q)∧x.filterMap (·.a)=p∧x.filterMap (·.b)=q0++[k]:=fun h1 h2 h3 h4 h5=>by
   refine kL (ih h4 hp h1 h5) fun x hx ea eb=>?_
   exact⟨x++[_],hx.app (.one (kW.mpr (.two h2 rfl h3))),by simp [ea],by simp [eb]⟩
  have hp':=hp
  have hq':=hq
  cases hp with
  | nil =>
   cases hq with
   | nil=>exact⟨[],.nil,rfl,rfl⟩
   | @snoc q0 k m h1 h2 =>
    rw[yB h2] at e
    have e':zc M q0=[]∧m.t=[]:=List.append_eq_nil_iff.mp (e.symm.trans rfl)
    exact two h1 h2 e'.2 (by simp at hl ⊢;exact hl) e'.1.symm
  | @snoc p0 k m h1 h2 =>
   rcases tl h2 with ht | ⟨c,ht⟩
   ·exact one h1 h2 ht (by simp at hl ⊢;exact jq jr (qA jc ja) jd (qA jg ja) jD qt hl) (by rw[yB h2,ht,List.append_nil] at e;exact e)
   ·cases hq with
    | nil =>
     rw[yB h2,ht] at e
     exact absurd e (by simp [zc])
    | @snoc q0 k' m' h1' h2' =>
     rcases tl h2' with ht' | ⟨c',ht'⟩
     ·exact two h1' h2' ht' (by simp at hl ⊢;exact jq jr (qA jg ja) jd (qA jg jA) jD qt hl) (by rw[yB h2',ht',List.append_nil] at e;exact e)
     ·rw[yB h2,yB h2',ht,ht'] at e
      obtain⟨e1,e2⟩:=List.append_inj' e rfl
      refine kL (ih (by simp at hl ⊢;exact jq jr (qA jc ja) jd (qA jg jA) jD qt hl) h1 h1' e1) fun x hx ea eb=>?_
      exact⟨x++[_],hx.app (.one (kW.mpr (.both h2 rfl (by rw[ht];simp) h2' rfl (by rw[ht,ht',e2])))),by simp [ea],by simp [eb]⟩
theorem stps_few {ms:List Mv}{x:N2}{k:Nat}(h1:1≤k)(h:∀ s,(wE ms s).length≤k):(jQ ms x).length≤k * k+k:=by
 unfold jQ
 rw[List.length_append]
 have a:((wE ms x.1).flatMap (pA ms x)).length≤k * k:=by
  refine Nat.le_trans (yj (k:=k) _ fun i J=>?_) (Nat.mul_le_mul_right k (h _))
  unfold pA
  split
  ·exact h1
  ·rw[List.length_map]
   exact Nat.le_trans (List.length_filter_le _ _) (h _)
 have b:(pB ms x).length≤k:=by
  unfold pB
  rw[List.length_map]
  exact Nat.le_trans (List.length_filter_le _ _) (h _)
 exact jt jE (qA jc ja) (qA jd je) jc jd ja je qt a b
structure P2 where
 N:Nat
 L:Nat
 t:List Nat
 w:List Nat
 o:List Nat
 dn:Bool
structure P2.ok (P:P2):Prop where
 n1:1≤P.N
 n2:P.N≤40
 l1:P.L≤P.N
 l9:P.L≤9
 ht:P.t.length=P.N
 hw:P.w.length=P.N
 ho:P.o.length=P.N
namespace P2
noncomputable def ln (P:P2)(r:Bool):Nat:=if r then P.N+P.L else P.N
noncomputable def off (P:P2)(r:Bool):Nat:=if r then P.N else 0
noncomputable def lt (P:P2)(r:Bool):Nat:=if r then P.L else 0
noncomputable def src (P:P2)(r:Bool):List Nat:=if r then P.o else P.w
noncomputable def st (P:P2)(r:Bool)(n:Nat):Nat:=if n=0 then 0 else P.off r+n
noncomputable def T (P:P2)(s:Nat):Nat:=if P.dn then 2 * P.N+P.L - s else s
noncomputable def row (P:P2)(r:Bool)(i:Nat):List Nat:=if i<P.lt r then [] else (P.src r)[i - P.lt r]?.toList
noncomputable def mv (P:P2)(r:Bool)(i:Nat):Mv:=⟨P.T (P.st r i),P.t[i]?.toList,P.row r i,P.T (P.st r (i+1))⟩
noncomputable def moves (P:P2):List Mv:=(List.range P.N).map (P.mv false)++(List.range (P.N+P.L)).map (P.mv true)
noncomputable def ma (P:P2):Ma:=⟨1+2 * P.N+P.L,P.T 0,[P.T P.N,P.T (2 * P.N+P.L)],P.moves⟩
noncomputable def wy (P:P2)(r:Bool)(n:Nat):List Nat:=(List.range n).map (P.off r+·)
noncomputable def wt (P:P2)(r:Bool)(n:Nat):List Nat:=(P.src r).take (n - P.lt r)
def Sy (P:P2)(r:Bool)(n:Nat)(r':Bool)(m:Nat):Prop:=n≤P.ln r∧m≤P.ln r'∧min n P.N=min m P.N
section
variable {P:P2}(K:P.ok)
theorem ln_le (P:P2)(r:Bool):P.ln r≤P.N+P.L:=by cases r <;> simp [ln]
theorem YV (P:P2)(r:Bool):P.N≤P.ln r:=by cases r <;> simp [ln]
theorem st_le {r:Bool}{n:Nat}(h:n≤P.ln r):P.st r n≤2 * P.N+P.L:=by
 unfold st
 cases r <;> simp [ln,off] at h ⊢ <;> split <;> (first | exact kg ju jw (qA (qM 2 jc) ja) qt  | exact jq jr jc (qA (qM 2 ja) jd) jc ja qt h | exact jq jr (qA jc ja) (qA (qM 2 jc) jd) ja (qA jc jd) qt h)
theorem T_le {s:Nat}(h:s≤2 * P.N+P.L):P.T s≤2 * P.N+P.L:=by unfold T;split <;> (first | exact qu | exact h)
theorem T_inj {a b:Nat}(ha:a≤2 * P.N+P.L)(hb:b≤2 * P.N+P.L)(e:P.T a=P.T b):a=b:=by unfold T at e;split at e <;> (first | exact qa (jV yn jc ja jd je (qA je jc) (qA (qM 2 jl) jM) (qA (qM 2 jl) jM) (qA jd ja) qt (qi e) (qx (ha)) qw) (jV yn jc ja jd je (qA (qM 2 jl) jM) (qA jd ja) (qA je jc) (qA (qM 2 jl) jM) qt (qe e) qw (qx (hb))) | exact qa (qe e) (qi e))
theorem st_inj {r r':Bool}{i n:Nat}(hi:i≤P.ln r)(hn:n≤P.ln r')(e:P.st r i=P.st r' n):(i=0∧n=0)∨(r=r'∧i=n):=by
 unfold st at e
 by_cases h1:i=0
 ·rw[if_pos h1] at e
  by_cases h2:n=0
  ·exact .inl ⟨h1,h2⟩
  ·rw[if_neg h2] at e;exact False.elim (oq116 e h2)
 ·rw[if_neg h1] at e
  by_cases h2:n=0
  ·rw[if_pos h2] at e;exact False.elim (oq117 e h1)
  ·rw[if_neg h2] at e
   right
   cases r <;> cases r' <;> simp [ln,off] at hi hn e ⊢ <;> (first | exact qa (qe e) (qi e) | exact False.elim (oq118 h2 hi e) | exact False.elim (oq119 h1 hn e))
theorem Jp {r r':Bool}{i n:Nat}(hi:i≤P.ln r)(hn:n≤P.ln r')(e:P.T (P.st r i)=P.T (P.st r' n)):(i=0∧n=0)∨(r=r'∧i=n):=st_inj hi hn (T_inj (st_le hi) (st_le hn) e)
theorem Jb {r:Bool}{i:Nat}(h:i<P.ln r):P.moves[P.off r+i]?=some (P.mv r i):=by
 unfold moves
 cases r with
 | false =>
  have h:i<P.N:=h
  rw[show P.off false+i=i from Nat.zero_add i,List.getElem?_append_left (by simpa using h)]
  simp [h]
 | true =>
  have h:i<P.N+P.L:=h
  rw[show P.off true+i=P.N+i from rfl,List.getElem?_append_right (by simp)]
  simp [h]
theorem Yr {k:Nat}{m:Mv}(h:P.moves[k]?=some m):∃ r i,i<P.ln r∧k=P.off r+i∧m=P.mv r i:=by
 rcases Nat.lt_or_ge k P.N with hk | hk
 ·have:=Jb (P:=P) (r:=false) (i:=k) hk
  rw[show P.off false+k=k from Nat.zero_add k,h] at this
  exact⟨false,k,hk,(Nat.zero_add k).symm,Option.some.inj this⟩
 ·have hl:=(List.getElem?_eq_some_iff.mp h).1
  have hl:k<P.N+(P.N+P.L):=by simpa [moves] using hl
  have:=Jb (P:=P) (r:=true) (i:=k - P.N) (by show k - P.N<P.N+P.L;exact oq120 hl)
  rw[show P.off true+(k - P.N)=k from by show P.N+(k - P.N)=k;exact qa (jq jr (qA jc ja) jd (qA ja jc) jd qt (qx (hk))) (jq jr jc (qA ja jd) jc (qA jd ja) qt qw),h] at this
  exact⟨true,k - P.N,by show k - P.N<P.N+P.L;exact oq120 hl,by show k=P.N+(k - P.N);exact qa (jq jr jc (qA ja jd) jc (qA jd ja) qt qw) (jq jr (qA jc ja) jd (qA ja jc) jd qt (qx (hk))),Option.some.inj this⟩
theorem Jd (P:P2)(r:Bool)(n:Nat):P.wy r (n+1)=P.wy r n++[P.off r+n]:=by unfold wy;rw[List.range_succ,List.map_append];rfl
theorem Ws {r:Bool}:∀ {n:Nat},n≤P.ln r→Path P.ma (P.wy r n) (P.T (P.st r n))
 | 0,_=>by
  have:P.st r 0=0:=rfl
  rw[this];exact .nil
 | n+1,h=>by
  rw[Jd]
  exact Path.snoc (m:=P.mv r n) (Ws (Nat.le_of_succ_le h)) (Jb h)
theorem Wy {p:List Nat}{s:Nat}(h:Path P.ma p s):∃ r n,n≤P.ln r∧p=P.wy r n∧s=P.T (P.st r n):=by
 induction h with
 | nil=>exact⟨false,0,Nat.zero_le _,rfl,rfl⟩
 | @snoc p k m _ h2 ih =>
  refine wZ ih fun r n hn hp hs=>?_
  refine wZ (Yr h2) fun r' i hi zt9 zu10=>?_;subst zt9;subst zu10
  have e:P.T (P.st r' i)=P.T (P.st r n):=hs
  rcases Jp (Nat.le_of_lt hi) hn e with ⟨rfl,rfl⟩ | ⟨rfl,rfl⟩
  ·refine⟨r',1,hi,?_,rfl⟩
   rw[Jd,hp];rfl
  ·exact⟨r',i+1,hi,by rw[Jd,hp],rfl⟩
theorem Ue {r:Bool}:∀ {n:Nat},n≤P.ln r→zc P.ma (P.wy r n)=P.t.take n
 | 0,_=>by rw[List.take_zero];rfl
 | n+1,h=>by
  rw[Jd,yB (M:=P.ma) (m:=P.mv r n) (Jb h),Ue (Nat.le_of_succ_le h),List.take_add_one];rfl
theorem Uh {r:Bool}:∀ {n:Nat},n≤P.ln r→Wj P.ma (P.wy r n)=P.wt r n
 | 0,_=>by unfold wt;rw[Nat.zero_sub,List.take_zero];rfl
 | n+1,h=>by
  rw[Jd,wr_snoc (M:=P.ma) (m:=P.mv r n) (Jb h),Uh (Nat.le_of_succ_le h)]
  show P.wt r n++P.row r n=_
  unfold wt row
  by_cases hl:n<P.lt r
  ·rw[if_pos hl,List.append_nil,show n+1 - P.lt r=n - P.lt r from by exact qa (jq ju jc ja jc jw qt (qy (hl))) (jq ju jc ja jc jw qt (qy (jq ju jc ja jg ja qt hl)))]
  ·rw[if_neg hl,show n+1 - P.lt r=n - P.lt r+1 from by exact qa (jt jE jc jA (qA jc jd) wG je (qA ja jd) qt (qx (jq ju jc jA jc ja qt (qm hl))) qw) (jt jE jg ja jD (qA ja je) (qA jc je) jd qt qw (qx (qm hl))),List.take_add_one]
include K
theorem ma_ok:P.ma.ok:=by
 obtain⟨n1,n2,l1,l9,ht,hw,ho⟩:=K
 have ml:P.moves.length=P.N+(P.N+P.L):=by simp [moves]
 refine⟨?_,?_,?_,?_,?_,?_,?_⟩
 ·show 1≤1+2 * P.N+P.L;exact kg ju jj (qA (qA jj (qM 2 jc)) ja) qt
 ·show 1+2 * P.N+P.L≤100;exact jt ju (qA (qA jj (qM 2 jc)) ja) (qN 100) (qM 2 jc) (qM 2 (qN 40)) ja (qN 9) qt (qr 2 n2) l9
 ·show P.T 0<1+2 * P.N+P.L
  have:=T_le (P:=P) (s:=0) (Nat.zero_le _);exact jq jr jg (qA (qA jj (qM 2 ja)) jd) jc (qA (qM 2 ja) jd) qt this
 ·show P.moves.length≤1000;exact jV jr jc (qN 1000) (qM 2 ja) (qM 2 (qN 40)) jd (qN 9) jc (qA ja (qA ja jd)) qt (qr 2 n2) l9 (qe ml)
 ·show 2≤1000;decide
 ·intro e he
  show e<1+2 * P.N+P.L
  have he:e=P.T P.N∨e=P.T (2 * P.N+P.L):=by simpa [ma] using he
  rcases he with rfl | rfl
  ·have:=T_le (P:=P) (s:=P.N) (by exact kg ju jc (qA (qM 2 jc) ja) qt );exact jq jr jg (qA (qA jj (qM 2 ja)) jd) jc (qA (qM 2 ja) jd) qt this
  ·have:=T_le (P:=P) (s:=2 * P.N+P.L) (Nat.le_refl _);exact jq jr jg (qA (qA jj (qM 2 ja)) jd) jc (qA (qM 2 ja) jd) qt this
 ·intro m hm
  obtain⟨k,hk⟩:=List.mem_iff_getElem?.mp hm
  refine wZ (Yr hk) fun r i hi J zv11=>?_;subst zv11
  have t1:∀ o:Option Nat,o.toList.length≤1:=fun o=>by cases o <;> simp
  have a1:=T_le (st_le (P:=P) (Nat.le_of_lt hi))
  have a2:=T_le (st_le (P:=P) (n:=i+1) hi)
  refine⟨by show P.T (P.st r i)<1+2 * P.N+P.L;exact jq jr jg (qA (qA jj (qM 2 ja)) jd) jc (qA (qM 2 ja) jd) qt a1,by show P.T (P.st r (i+1))<1+2 * P.N+P.L;exact jq jr jg (qA (qA jj (qM 2 ja)) jd) jc (qA (qM 2 ja) jd) qt a2,t1 _,?_⟩
  show(P.row r i).length≤1
  unfold row
  split
  ·simp
  ·exact t1 _
theorem Jw (r:Bool):P.T (P.st r (P.ln r))∈P.ma.ends:=by
 have:=K.n1
 cases r with
 | false =>
  have:P.st false (P.ln false)=P.N:=by unfold st;rw[if_neg (by show P.N≠0;exact fun e0=>kc jO jj jc jc jw qt this (qe e0))];exact Nat.zero_add _
  rw[this];exact List.mem_cons_self ..
 | true =>
  have:P.st true (P.ln true)=2 * P.N+P.L:=by unfold st;rw[if_neg (by show P.N+P.L≠0;exact fun e0=>kc ju jj jc (qA jc ja) jw qt this (qe e0))];show P.N+(P.N+P.L)=_;exact qa (kg ju (qA jc (qA jc ja)) (qA (qM 2 jc) ja) qt ) (kg ju (qA (qM 2 jc) ja) (qA jc (qA jc ja)) qt )
  rw[this];exact List.mem_cons_of_mem _ (List.mem_cons_self ..)
theorem end_st {r:Bool}{n:Nat}(hn:n≤P.ln r)(h:P.T (P.st r n)∈P.ma.ends):n=P.ln r:=by
 have n1:=K.n1
 have h:P.T (P.st r n)=P.T P.N∨P.T (P.st r n)=P.T (2 * P.N+P.L):=by simpa [ma] using h
 have s0:P.st false P.N=P.N:=by unfold st;rw[if_neg (by exact fun e0=>kc jO jj jc jc jw qt n1 (qe e0))];exact Nat.zero_add _
 have s1:P.st true (P.N+P.L)=2 * P.N+P.L:=by unfold st;rw[if_neg (by exact fun e0=>kc ju jj jc (qA jc ja) jw qt n1 (qe e0))];show P.N+(P.N+P.L)=_;exact qa (kg ju (qA jc (qA jc ja)) (qA (qM 2 jc) ja) qt ) (kg ju (qA (qM 2 jc) ja) (qA jc (qA jc ja)) qt )
 rcases h with h | h
 ·have h:P.T (P.st r n)=P.T (P.st false P.N):=by rw[s0];exact h
  rcases Jp hn (YV P false) h with ⟨_,k⟩ | ⟨rfl,k⟩
  ·exact kc jO jj jc jc jw qt n1 (qe k)
  ·exact k
 ·have h:P.T (P.st r n)=P.T (P.st true (P.N+P.L)):=by rw[s1];exact h
  rcases Jp hn (show P.N+P.L≤P.ln true from Nat.le_refl _) h with ⟨_,k⟩ | ⟨rfl,k⟩
  ·exact kc ju jj jc (qA jc ja) jw qt n1 (qe k)
  ·exact k
theorem way_end {p:List Nat}{s:Nat}(h:Path P.ma p s)(hs:s∈P.ma.ends):∃ r,p=P.wy r (P.ln r):=by
 refine wZ (Wy h) fun r n hn zw12 zx13=>?_;subst zw12;subst zx13
 rw[end_st K hn hs]
 exact⟨r,rfl⟩
theorem rd_end (r:Bool):zc P.ma (P.wy r (P.ln r))=P.t:=by
 rw[Ue (Nat.le_refl _),List.take_of_length_le]
 rw[K.ht];exact YV P r
theorem Wh (r:Bool):Wj P.ma (P.wy r (P.ln r))=P.src r:=by
 rw[Uh (Nat.le_refl _)]
 unfold wt
 rw[List.take_of_length_le]
 cases r with
 | false=>show P.w.length≤P.N - 0;rw[K.hw];exact Nat.le_refl _
 | true=>show P.o.length≤P.N+P.L - P.L;rw[K.ho];exact jq jr jc ja (qA jc jd) (qA ja jd) qt qw
theorem outs_two (s:Nat):(wE P.ma.moves s).length≤2:=by
 have nd:(wE P.ma.moves s).Nodup:=by unfold wE KZ;exact List.nodup_range.filter _
 by_cases h0:s=P.T 0
 ·refine Nat.le_trans (yw _ [0,P.N] nd fun k hk=>?_) (Nat.le_refl 2)
  refine jo (kr.mp hk) fun m hm e=>?_
  refine wZ (Yr hm) fun r i hi zy14 zz15=>?_;subst zy14;subst zz15
  have e:P.T (P.st r i)=P.T (P.st false 0):=e.trans h0
  rcases Jp (Nat.le_of_lt hi) (Nat.zero_le _) e with ⟨rfl,_⟩ | ⟨rfl,rfl⟩
  ·cases r <;> simp [off]
  ·simp [off]
 ·have all:∀ k∈wE P.ma.moves s,∀ k'∈wE P.ma.moves s,k=k':=fun k hk k' hk'=>by
   refine jo (kr.mp hk) fun m hm e=>?_
   refine jo (kr.mp hk') fun m' hm' e'=>?_
   refine wZ (Yr hm) fun r i hi za16 zb17=>?_;subst za16;subst zb17
   refine wZ (Yr hm') fun r' i' hi' zc18 zd19=>?_;subst zc18;subst zd19
   have e2:P.T (P.st r i)=P.T (P.st r' i'):=e.trans e'.symm
   rcases Jp (Nat.le_of_lt hi) (Nat.le_of_lt hi') e2 with ⟨rfl,_⟩ | ⟨rfl,rfl⟩
   ·exact absurd e.symm h0
   ·rfl
  cases hl:wE P.ma.moves s with
  | nil=>simp
  | cons k l =>
   rw[hl] at nd all
   refine Nat.le_trans (yw _ [k] nd fun k' hk'=>?_) (Nat.le_succ 1)
   rw[all k' hk' k (List.mem_cons_self ..)];exact List.mem_cons_self ..
theorem few (x:N2):(jQ P.ma.moves x).length≤6:=stps_few (k:=2) (by decide) (outs_two K)
theorem bound:P.ma.n * P.ma.n * 6<10000000:=by
 have h:P.ma.n≤100:=(ma_ok K).n2
 have:=Nat.mul_le_mul h h
 exact jq jO (qA (qR jc 6) jj) (qN 10000000) (qM 6 jc) (qM 6 (qM 100 (qN 100))) qt (qr 6 this)
theorem sy_pth {r r':Bool}{n m:Nat}(s:P.Sy r n r' m):∃ x,Pth P.ma.moves (P.ma.b,P.ma.b) x (P.T (P.st r n),P.T (P.st r' m))∧w1 P.ma.moves x=P.wt r n∧w2 P.ma.moves x=P.wt r' m:=by
 refine kH s fun h1 h2 h3=>?_
 refine kL (ways_pth (ma_ok K) _ (Nat.le_refl _) (Ws h1) (Ws h2) (by rw[Ue h1,Ue h2];exact List.take_eq_take_iff.mpr (by rw[K.ht];exact h3))) fun x hx ea eb=>?_
 refine⟨x,hx,?_,?_⟩
 ·rw[←wr_a,ea,Uh h1]
 ·rw[←wr_b,eb,Uh h2]
theorem sy_co:∀ (k:Nat) {r r':Bool} {n m:Nat},P.Sy r n r' m→(P.ln r - n)+(P.ln r' - m)≤k→Co P.ma.moves P.ma.ends (P.T (P.st r n),P.T (P.st r' m))
 | 0,r,r',n,m,s,hk=>by
  refine kH s fun h1 h2 h3=>?_
  have e1:n=P.ln r:=by exact qa (h1) (jt jE jc ja (qA jd je) jw jc (qA jd ja) qt hk qw)
  have e2:m=P.ln r':=by exact qa (h2) (jt jE jc ja (qA jd je) jw jc (qA je ja) qt hk qw)
  subst e1;subst e2
  exact .fin ⟨Jw K r,Jw K r'⟩
 | k+1,r,r',n,m,s,hk=>by
  refine kH s fun h1 h2 h3=>?_
  have nl:=YV P r
  have nl':=YV P r'
  have tn:∀ {i:Nat},P.N≤i→P.t[i]?.toList=[]:=fun {i} h=>by rw[List.getElem?_eq_none (by rw[K.ht];exact h)];rfl
  by_cases hn:n<P.ln r
  ·by_cases hnN:P.N≤n
   ·exact .step (kW.mpr (.one (Jb hn) rfl (tn hnN))) (sy_co k (r:=r) (r':=r') (n:=n+1) (m:=m) ⟨hn,h2,by exact oq121 h3 hnN⟩ (by exact jV yn (qA jc ja) jd (qA je ja) jD jl (qA je jM) (qA jc zo) jl qt hk qw (qx (hn))))
   ·have hm:m=n:=by exact oq122 h3 hnN
    subst hm
    have hm:m<P.ln r':=by exact jt jr jg ja jd ja jg jd qt nl' (qn hnN)
    have hmt:m<P.t.length:=by rw[K.ht];exact qn hnN
    refine .step (kW.mpr (.both (Jb hn) rfl ?_ (Jb hm) rfl rfl)) (sy_co k (r:=r) (r':=r') (n:=m+1) (m:=m+1) ⟨hn,hm,rfl⟩ (by exact oq123 hk))
    show P.t[m]?.toList≠[]
    rw[List.getElem?_eq_getElem hmt];simp
  ·by_cases hm:m<P.ln r'
   ·have hmN:P.N≤m:=by exact oq124 h3 nl hn
    exact .step (kW.mpr (.two (Jb hm) rfl (tn hmN))) (sy_co k (r:=r) (r':=r') (n:=n) (m:=m+1) ⟨h1,hm,by exact oq125 nl hn hmN⟩ (by exact jV yn (qA jc ja) jd (qA jc je) jD jl (qA je jM) (qA ja zo) jl qt hk qw (qx (hm))))
   ·have e1:n=P.ln r:=by exact qa (h1) (qm hn)
    have e2:m=P.ln r':=by exact qa (h2) (qm hm)
    subst e1;subst e2
    exact .fin ⟨Jw K r,Jw K r'⟩
theorem pth_sy {x:List Stp}{y:N2}(h:Pth P.ma.moves (P.ma.b,P.ma.b) x y):∃ r n r' m,P.Sy r n r' m∧y=(P.T (P.st r n),P.T (P.st r' m)):=by
 obtain⟨a,b⟩:=WZ h (u:=[]) (w:=[]) .nil .nil
 rw[List.nil_append] at a b
 refine wZ (Wy a) fun r n hn ea es=>?_
 refine wZ (Wy b) fun r' m hm eb eu=>?_
 refine⟨r,n,r',m,⟨hn,hm,?_⟩,Prod.ext es eu⟩
 have e:=rd_a P.ma x
 rw[←rd_b h,ea,eb,Ue hn,Ue hm] at e
 have:=List.take_eq_take_iff.mp e
 rwa [K.ht] at this
theorem jan {G:List GE}(gn:Gone P.ma (P.ma.b,P.ma.b) G){r r':Bool}{n m:Nat}(s:P.Sy r n r' m):∃ g∈G,g.x=(P.T (P.st r n),P.T (P.st r' m))∧Lags (P.wt r n) (P.wt r' m) g.l:=by
 refine kL (sy_pth K s) fun x hx e1 e2=>?_
 rw[←e1,←e2]
 exact gn.from hx (sy_co K _ s (Nat.le_refl _))
theorem spoilt {G:List GE}(h:P.w≠P.o)(gn:Gone P.ma (P.ma.b,P.ma.b) G):False:=by
 have s:P.Sy false (P.ln false) true (P.ln true):=⟨Nat.le_refl _,Nat.le_refl _,(Nat.min_eq_right (YV P false)).trans (Nat.min_eq_right (YV P true)).symm⟩
 refine kL (jan K gn s) fun g hg e l=>?_
 have:=gn.fin g hg (by rw[e];exact⟨Jw K false,Jw K true⟩)
 have e2:=l.eq.mpr this
 rw[←Uh (Nat.le_refl _),←Uh (Nat.le_refl _),Wh K,Wh K] at e2
 exact h e2
theorem two_ways {h:H}{v:V}(t:Two P.ma (P.ma.b,P.ma.b) h v):∃ r r' u w,P.src r≠P.src r'∧v=.tup [.str P.t,.ref u,.ref w]∧h[u]?=some (.list ((P.wy r (P.ln r)).map jK))∧h[w]?=some (.list ((P.wy r' (P.ln r')).map jK)):=by
 refine Z45 (t.ex) fun p y u w hp hy hne hl ze20 zf21=>?_;subst ze20;refine jP zf21 fun hu hw=>?_
 obtain⟨a,b⟩:=WZ hp (u:=[]) (w:=[]) .nil .nil
 rw[List.nil_append] at a b
 obtain⟨r,ea⟩:=way_end K a hy.1
 obtain⟨r',eb⟩:=way_end K b hy.2
 rw[←wr_a,←wr_b,ea,eb,Wh K,Wh K] at hne
 rw[ea] at hu
 rw[eb] at hw
 refine⟨r,r',u,w,hne,?_,hu,hw⟩
 rw[←rd_a,ea,rd_end K]
theorem unspoilt {h:H}{v:V}(e:P.w=P.o)(t:Two P.ma (P.ma.b,P.ma.b) h v):False:=by
 refine WD (two_ways K t) fun r r' J J hne J=>?_
 apply hne
 cases r <;> cases r' <;> simp [src,e]
end
end P2
theorem JU {α β:Type}{f:α→List β}{l:List α}(h1:∀ a∈l,(f a).Nodup)(h2:l.Pairwise fun a b=>∀ x∈f a,∀ y∈f b,x≠y):(l.flatMap f).Nodup:=List.pairwise_flatMap.mpr ⟨h1,h2⟩
namespace P2
noncomputable def rowQ (P:P2)(r:Bool)(n:Nat)(r':Bool)(m:Nat):Q4:=((P.st r n,P.st r' m),(P.w.take (n - P.lt r)).drop (m - P.lt r'),(P.w.take (m - P.lt r')).drop (n - P.lt r))
noncomputable def dX (P:P2)(k:Nat):List Nat:=(P.w.take k).drop (k - P.L)
noncomputable def dY (P:P2)(j:Nat):List Nat:=P.w.drop (P.N - P.L+j)
noncomputable def dZ (P:P2)(i j:Nat):List Nat:=(P.w.take (P.N - P.L+max i j)).drop (P.N - P.L+min i j)
noncomputable def dk (P:P2)(k:Nat):List Q4:=[((k,k),[],[]),((P.N+k,P.N+k),[],[]),((k,P.N+k),P.dX k,[]),((P.N+k,k),[],P.dX k)]
noncomputable def de (P:P2)(j:Nat):List Q4:=[((P.N,2 * P.N+j),P.dY j,[]),((2 * P.N+j,P.N),[],P.dY j)]
noncomputable def df (P:P2)(i j:Nat):List Q4:=if 0<i+j then [((2 * P.N+i,2 * P.N+j),if j<i then (P.dZ i j,[]) else ([],P.dZ i j))] else []
noncomputable def due1 (P:P2)(n:Nat):List Q4:=[((0,0),[],[])]++(List.range n).flatMap fun k=>P.dk (k+1)
noncomputable def due2 (P:P2)(n:Nat):List Q4:=P.due1 P.N++(List.range n).flatMap fun j=>P.de (j+1)
noncomputable def due3 (P:P2)(n:Nat):List Q4:=P.due2 P.L++(List.range n).flatMap fun i=>(List.range (P.L+1)).flatMap fun j=>P.df i j
noncomputable def due (P:P2):List Q4:=P.due3 (P.L+1)
section
variable {P:P2}
theorem wB {r r':Bool}{n m a b:Nat}{c e:List Nat}(h1:P.st r n=a)(h2:P.st r' m=b)(h3:(P.w.take (n - P.lt r)).drop (m - P.lt r')=c)(h4:(P.w.take (m - P.lt r')).drop (n - P.lt r)=e):P.rowQ r n r' m=((a,b),c,e):=by subst h1;subst h2;subst h3;subst h4;rfl
theorem td_nil (w:List Nat){a b:Nat}(h:a≤b):(w.take a).drop b=[]:=List.drop_eq_nil_of_le (by rw[List.length_take];exact oq126 h)
theorem st_pos (r:Bool){n:Nat}(h:n≠0):P.st r n=P.off r+n:=if_neg h
theorem Yh (n:Nat):P.st false n=n:=by
 by_cases h:n=0
 ·rw[h];rfl
 ·rw[st_pos _ h];exact Nat.zero_add n
theorem st_t {n:Nat}(h:n≠0):P.st true n=P.N+n:=st_pos _ h
variable (K:P.ok)
include K
theorem dk_row {k:Nat}(h1:1≤k)(h2:k≤P.N):P.dk k=[P.rowQ false k false k,P.rowQ true k true k,P.rowQ false k true k,P.rowQ true k false k]:=by
 have n1:(P.w.take (k - 0)).drop (k - 0)=[]:=td_nil _ (Nat.le_refl _)
 have n2:(P.w.take (k - P.L)).drop (k - P.L)=[]:=td_nil _ (Nat.le_refl _)
 have n3:(P.w.take (k - P.L)).drop (k - 0)=[]:=td_nil _ (by exact jt jr jc ja jc jd jd (qA ja jw) qt qu qw)
 rw[wB (Yh k) (Yh k) n1 n1,wB (st_t (by exact fun e0=>kc jO jj jc jc jw qt h1 (qe e0))) (st_t (by exact fun e0=>kc jO jj jc jc jw qt h1 (qe e0))) n2 n2,wB (Yh k) (st_t (by exact fun e0=>kc jO jj jc jc jw qt h1 (qe e0))) rfl n3,wB (st_t (by exact fun e0=>kc jO jj jc jc jw qt h1 (qe e0))) (Yh k) n3 rfl]
 rfl
theorem Zr {j:Nat}(h1:1≤j)(h2:j≤P.L):P.de j=[P.rowQ false P.N true (P.N+j),P.rowQ true (P.N+j) false P.N]:=by
 have:=K.l1
 have:=K.n1
 have e:P.st true (P.N+j)=2 * P.N+j:=by rw[st_t (by exact fun e0=>kc ju jj jc (qA jc ja) jw qt this (qe e0))];exact qa (kg ju (qA jc (qA jc ja)) (qA (qM 2 jc) ja) qt ) (kg ju (qA (qM 2 jc) ja) (qA jc (qA jc ja)) qt )
 have y:(P.w.take (P.N - 0)).drop (P.N+j - P.L)=P.dY j:=by
  unfold dY
  rw[List.take_of_length_le (by rw[K.hw];exact jq ju jc ja jc (qA ja jw) qt qw),show P.N+j - P.L=P.N - P.L+j from by exact qa (jt ka jc (qA ja jd) (qA jc je) (qA jl jd) jl (qA ja je) qt (qx (jq jr jc (qA ja jd) jc ja qt (by assumption))) qw) (jt ka (qA jc ja) jd (qA je ja) (qA jd jl) (qA jc jl) je qt qw (qx (by assumption)))]
 have z:(P.w.take (P.N+j - P.L)).drop (P.N - 0)=[]:=td_nil _ (by exact oq127 h2)
 rw[wB (Yh P.N) e y z,wB e (Yh P.N) z y]
 rfl
theorem df_row {i j:Nat}(h1:i≤P.L)(h2:j≤P.L):P.df i j=if 0<i+j then [P.rowQ true (P.N+i) true (P.N+j)] else []:=by
 have:=K.l1
 have:=K.n1
 have e:∀ i,P.st true (P.N+i)=2 * P.N+i:=fun i=>by rw[st_t (by exact fun e0=>kc ju jj jc (qA jc ja) jw qt this (qe e0))];exact qa (kg ju (qA jc (qA jc ja)) (qA (qM 2 jc) ja) qt ) (kg ju (qA (qM 2 jc) ja) (qA jc (qA jc ja)) qt )
 unfold df
 congr 1
 have c1:∀ i,P.N+i - P.L=P.N - P.L+i:=fun i=>by exact qa (jt ka jc (qA ja jd) (qA jc je) (qA jl jd) jl (qA ja je) qt (qx (jq jr jc (qA ja jd) jc ja qt (by assumption))) qw) (jt ka (qA jc ja) jd (qA je ja) (qA jd jl) (qA jc jl) je qt qw (qx (by assumption)))
 by_cases h:j<i
 ·rw[if_pos h,wB (c:=P.dZ i j) (e:=[]) (e i) (e j) (by unfold dZ;show List.drop (P.N+j - P.L) (List.take (P.N+i - P.L) P.w)=_;rw[c1,c1,show max i j=i from by exact oq128 h,show min i j=j from by exact oq129 h]) (td_nil _ (by show P.N+j - P.L≤P.N+i - P.L;exact oq130 h))]
 ·rw[if_neg h,wB (c:=[]) (e:=P.dZ i j) (e i) (e j) (td_nil _ (by show P.N+i - P.L≤P.N+j - P.L;exact oq131 h)) (by unfold dZ;show List.drop (P.N+i - P.L) (List.take (P.N+j - P.L) P.w)=_;rw[c1,c1,show max i j=j from by exact oq132 h,show min i j=i from by exact oq133 h])]
theorem due_sy {q:Q4}(h:q∈P.due):∃ r n r' m,P.Sy r n r' m∧q=P.rowQ r n r' m:=by
 have n1:=K.n1
 have l1:=K.l1
 have lt:=YV P true
 have lf:P.ln false=P.N:=rfl
 have ltt:P.ln true=P.N+P.L:=rfl
 unfold due due3 due2 due1 at h
 simp only[List.mem_append,List.mem_flatMap,List.mem_range] at h
 rcases h with ((h | ⟨k,hk,h⟩) | ⟨j,hj,h⟩) | ⟨i,hi,j,hj,h⟩
 ·rw[List.mem_singleton.mp h]
  refine⟨false,0,false,0,⟨Nat.zero_le _,Nat.zero_le _,rfl⟩,?_⟩
  rw[wB (Yh 0) (Yh 0) (td_nil _ (Nat.le_refl _)) (td_nil _ (Nat.le_refl _))]
 ·rw[dk_row K (by exact kg jO jj jg qt ) (by exact hk)] at h
  simp only[List.mem_cons,List.not_mem_nil,or_false] at h
  rcases h with rfl | rfl | rfl | rfl
  ·exact⟨false,k+1,false,k+1,⟨by exact jt jr jg ja jd ja jg jd qt (qi lf) hk,by exact jt jr jg ja jd ja jg jd qt (qi lf) hk,rfl⟩,rfl⟩
  ·exact⟨true,k+1,true,k+1,⟨by exact jt jE jg ja (qA jd je) ja jg jd qt (qi ltt) hk,by exact jt jE jg ja (qA jd je) ja jg jd qt (qi ltt) hk,rfl⟩,rfl⟩
  ·exact⟨false,k+1,true,k+1,⟨by exact jt jr jg ja jd ja jg jd qt (qi lf) hk,by exact jt jE jg ja (qA jd je) ja jg jd qt (qi ltt) hk,rfl⟩,rfl⟩
  ·exact⟨true,k+1,false,k+1,⟨by exact jt jE jg ja (qA jd je) ja jg jd qt (qi ltt) hk,by exact jt jr jg ja jd ja jg jd qt (qi lf) hk,rfl⟩,rfl⟩
 ·rw[Zr K (by exact kg jO jj jg qt ) (by exact hj)] at h
  simp only[List.mem_cons,List.not_mem_nil,or_false] at h
  rcases h with rfl | rfl
  ·exact⟨false,P.N,true,P.N+(j+1),⟨by exact qi lf,by exact jt jE (qA jc jA) jd (qA jc je) jd jA je qt (qi ltt) hj,by exact oq134⟩,rfl⟩
  ·exact⟨true,P.N+(j+1),false,P.N,⟨by exact jt jE (qA jc jA) jd (qA jc je) jd jA je qt (qi ltt) hj,by exact qi lf,by exact oq135⟩,rfl⟩
 ·rw[df_row K (by exact jq ju jc ja jg jA qt hi) (by exact jq ju jc ja jg jA qt hj)] at h
  by_cases h0:0<i+j
  ·rw[if_pos h0] at h
   rw[List.mem_singleton.mp h]
   exact⟨true,P.N+i,true,P.N+j,⟨by exact jt jE (qA jc ja) jd (qA jc je) jd jA wG qt (qi ltt) hi,by exact jt jE (qA jc ja) jd (qA jc je) jd jA wG qt (qi ltt) hj,by exact oq136⟩,rfl⟩
  ·rw[if_neg h0] at h;cases h
theorem sy_due {r r':Bool}{n m:Nat}(s:P.Sy r n r' m):P.rowQ r n r' m∈P.due:=by
 have n1:=K.n1
 have l1:=K.l1
 refine kH s fun h1 h2 h3=>?_
 have lf:P.ln false=P.N:=rfl
 have ltt:P.ln true=P.N+P.L:=rfl
 have lr:=ln_le P r
 have lr':=ln_le P r'
 unfold due due3 due2 due1
 simp only[List.mem_append,List.mem_flatMap,List.mem_range]
 by_cases hn0:n=0
 ·have hm0:m=0:=by exact oq137 l1 h2 h3 lr' hn0
  subst hn0;subst hm0
  refine .inl (.inl (.inl (List.mem_singleton.mpr ?_)))
  exact wB rfl rfl (td_nil _ (by exact jq ju jc ja jc jw qt (qy (kg jO jw jc qt )))) (td_nil _ (by exact jq ju jc ja jc jw qt (qy (kg jO jw jc qt ))))
 have inK:n=m→n≤P.N→(P.rowQ r n r' m∈[((0,0),[],[])]∨∃ a,a<P.N∧P.rowQ r n r' m∈P.dk (a+1)):=fun e hN=>by
  subst e
  refine .inr ⟨n - 1,by exact oq138 hn0 hN,?_⟩
  rw[show n - 1+1=n from by exact oq139 hn0,dk_row K (by exact oq140 hn0) hN]
  cases r <;> cases r' <;> simp
 by_cases hnN:n≤P.N∧m≤P.N
 ·exact .inl (.inl (inK (by exact oq141 h3 hnN) hnN.1))
 ·-- both are behind the text
  have a1:P.N≤n:=by exact oq142 h3 hnN
  have a2:P.N≤m:=by exact oq143 h3 a1
  obtain⟨i,rfl⟩:=Nat.exists_eq_add_of_le a1
  obtain⟨j,rfl⟩:=Nat.exists_eq_add_of_le a2
  cases r with
  | false =>
   have hi:i=0:=by exact qa (jt jr jc jw ja jd (qA jd jc) ja qt (qe lf) h1) (kg jO jw jc qt )
   subst hi
   cases r' with
   | false=>exact False.elim (oq144 lf hnN h2)
   | true =>
    refine .inl (.inr ⟨j - 1,by exact oq145 hnN lr' h2,?_⟩)
    rw[show j - 1+1=j from by exact oq146 hnN,Zr K (by exact oq147 hnN) (by exact jt jE jc ja jd (qA je ja) (qA je jc) jd qt lr' h2)]
    exact List.mem_cons_self ..
  | true =>
   cases r' with
   | false =>
    have hj:j=0:=by exact qa (jt jr jc jw ja jd (qA jd jc) ja qt (qe lf) h2) (kg jO jw jc qt )
    subst hj
    refine .inl (.inr ⟨i - 1,by exact oq148 lr h1 hnN,?_⟩)
    rw[show i - 1+1=i from by exact oq149 hnN,Zr K (by exact oq150 hnN) (by exact jt jE jc ja jd (qA je ja) (qA je jc) jd qt lr h1)]
    exact List.mem_cons_of_mem _ (List.mem_cons_self ..)
   | true =>
    refine .inr ⟨i,by exact jt jE jg jA (qA jd jc) je je (qA jd ja) qt h1 lr',j,by exact jt jE jg jA jd (qA je ja) (qA je jc) jd qt lr' h2,?_⟩
    rw[df_row K (by exact jt jE jc ja (qA jd jc) je je (qA jd ja) qt h1 lr') (by exact jt jE jc ja jd (qA je ja) (qA je jc) jd qt lr' h2),if_pos (by exact oq151 hnN)]
    exact List.mem_cons_self ..
theorem due_nd:(P.due.map (·.1)).Nodup:=by
 have n1:=K.n1
 have kk:∀ {k:Nat} {x:N2},x∈(P.dk k).map (·.1)→(x.1=k∨x.1=P.N+k)∧(x.2=k∨x.2=P.N+k):=fun {k x} h=>by
  simp only[dk,List.map_cons,List.map_nil,List.mem_cons,List.not_mem_nil,or_false] at h
  rcases h with rfl | rfl | rfl | rfl <;> simp
 have ke:∀ {j:Nat} {x:N2},x∈(P.de j).map (·.1)→(x.1=P.N∧x.2=2 * P.N+j)∨(x.1=2 * P.N+j∧x.2=P.N):=fun {j x} h=>by
  simp only[de,List.map_cons,List.map_nil,List.mem_cons,List.not_mem_nil,or_false] at h
  rcases h with rfl | rfl <;> simp
 have kf:∀ {i j:Nat} {x:N2},x∈(P.df i j).map (·.1)→0<i+j∧x.1=2 * P.N+i∧x.2=2 * P.N+j:=fun {i j x} h=>by
  unfold df at h
  split at h
  ·rename_i h0
   rw[List.map_cons,List.map_nil,List.mem_singleton] at h
   subst h
   exact⟨h0,rfl,rfl⟩
  ·cases h
 have ne:∀ {x y:N2},(x.1=y.1→x.2=y.2→False)→x≠y:=fun h e=>h (congrArg _ e) (congrArg _ e)
 unfold due due3 due2 due1
 simp only[List.map_append,List.map_flatMap]
 refine List.nodup_append.mpr ⟨List.nodup_append.mpr ⟨List.nodup_append.mpr ⟨?_,?_,?_⟩,?_,?_⟩,?_,?_⟩
 ·simp
 ·refine JU (fun k hk=>?_) (List.pairwise_lt_range.imp_of_mem fun {a b} ha hb hab x hx y hy=>?_)
  ·have hk:=List.mem_range.mp hk
   simp only[dk,List.map_cons,List.map_nil,List.nodup_cons,List.mem_cons,List.not_mem_nil,or_false,Prod.mk.injEq,List.nodup_nil,not_false_eq_true,and_true]
   exact oq152 hk
  ·have:=List.mem_range.mp hb
   obtain⟨a1,_⟩:=kk hx
   obtain⟨b1,_⟩:=kk hy
   exact ne (by exact oq153 hab this right right_1)
 ·intro x hx y hy
  refine jo (List.mem_flatMap.mp hy) fun k hk hy=>?_
  have hx:x=(0,0):=by simpa using hx
  obtain⟨b1,_⟩:=kk hy
  subst hx
  exact ne (by dsimp only;exact oq154 right)
 ·refine JU (fun k hk=>?_) (List.pairwise_lt_range.imp_of_mem fun {a b} ha hb hab x hx y hy=>?_)
  ·simp only[de,List.map_cons,List.map_nil,List.nodup_cons,List.mem_cons,List.not_mem_nil,or_false,Prod.mk.injEq,List.nodup_nil,not_false_eq_true,and_true]
   exact fun e0=>ZN ju (qA (qM 2 jc) jA) jc qt (qi (And.left e0))
  ·have a1:=ke hx
   have b1:=ke hy
   exact ne (by exact oq155 hab a1 b1)
 ·intro x hx y hy
  refine jo (List.mem_flatMap.mp hy) fun j hj hy=>?_
  have b1:=ke hy
  rcases List.mem_append.mp hx with hx | hx
  ·have hx:x=(0,0):=by simpa using hx
   subst hx
   exact ne (by dsimp only;exact oq156 n1 b1)
  ·refine jo (List.mem_flatMap.mp hx) fun k hk hx=>?_
   have hk:=List.mem_range.mp hk
   obtain⟨a1,a2⟩:=kk hx
   exact ne (by exact oq157 b1 a1 a2)
 ·refine JU (fun i hi=>JU (fun j hj=>?_) (List.pairwise_lt_range.imp_of_mem fun {a b} ha hb hab x hx y hy=>?_)) (List.pairwise_lt_range.imp_of_mem fun {a b} ha hb hab x hx y hy=>?_)
  ·unfold df
   split <;> simp
  ·refine kH (kf hx) fun J J a2=>?_
   refine kH (kf hy) fun J J b2=>?_
   exact ne (by exact fun e0=>fun e1=>KS ka jg ja jd (qA (qM 2 je) jc) (qA (qM 2 je) ja) jl jl jd qt hab (qe a2) (qi b2) (qi e1))
  ·refine jo (List.mem_flatMap.mp hx) fun j hj hx=>?_
   refine jo (List.mem_flatMap.mp hy) fun j' hj' hy=>?_
   refine kH (kf hx) fun J a1 J=>?_
   refine kH (kf hy) fun J b1 J=>?_
   exact ne (by exact fun e0=>fun e1=>KS ka jg ja jd (qA (qM 2 je) jc) (qA (qM 2 je) ja) jl jl jd qt hab (qe a1) (qi b1) (qi e0))
 ·intro x hx y hy
  refine jo (List.mem_flatMap.mp hy) fun i hi hy=>?_
  refine jo (List.mem_flatMap.mp hy) fun j hj hy=>?_
  refine kH (kf hy) fun b0 b1 b2=>?_
  rcases List.mem_append.mp hx with hx | hx
  ·rcases List.mem_append.mp hx with hx | hx
   ·have hx:x=(0,0):=by simpa using hx
    subst hx
    exact ne (by dsimp only;exact fun e0=>fun e1=>WO jr (qM 2 jj) (qM 2 jc) (qA (qM 2 jc) ja) jd jd jw qt (qr 2 n1) (qi b2) (qi e1))
   ·refine jo (List.mem_flatMap.mp hx) fun k hk hx=>?_
    have hk:=List.mem_range.mp hk
    obtain⟨a1,a2⟩:=kk hx
    exact ne (by exact oq158 b0 b1 b2 hk a1 a2)
  ·refine jo (List.mem_flatMap.mp hx) fun k hk hx=>?_
   have a1:=ke hx
   exact ne (by exact oq159 n1 b1 b2 a1)
end
end P2
theorem pair_eq {a b:Nat×Nat}(h1:¬ jX a b)(h2:¬ jX b a):a=b:=by
 have e:a.1=b.1:=Nat.le_antisymm (Nat.not_lt.mp fun k=>h2 (.inl k)) (Nat.not_lt.mp fun k=>h1 (.inl k))
 exact Prod.ext e (Nat.le_antisymm (Nat.not_lt.mp fun k=>h2 (.inr ⟨e.symm,k⟩)) (Nat.not_lt.mp fun k=>h1 (.inr ⟨e,k⟩)))
theorem lags_take (w:List Nat)(a b:Nat):Lags (w.take a) (w.take b) ((w.take a).drop b,(w.take b).drop a):=by
 have key:∀ {a b:Nat},b≤a→w.take a=w.take b++(w.take a).drop b:=fun {a b} h=>by
  have:=List.take_append_drop b (w.take a)
  rw[List.take_take,Nat.min_eq_left h] at this
  exact this.symm
 rcases Nat.le_total b a with h | h
 ·refine⟨.inr (P2.td_nil _ h),w.take b,key h,?_⟩
  rw[P2.td_nil _ h,List.append_nil]
 ·refine⟨.inl (P2.td_nil _ h),w.take a,?_,key h⟩
  rw[P2.td_nil _ h,List.append_nil]
theorem lags_eq {w:List Nat}{a b:Nat}{l:List Nat×List Nat}(h:Lags (w.take a) (w.take b) l):l=((w.take a).drop b,(w.take b).drop a):=Option.some.inj ((jad h).symm.trans (jad (lags_take w a b)))
theorem nd_of {α β:Type}{f:α→β}{l:List α}(h:(l.map f).Nodup):l.Nodup:=(List.pairwise_map.mp h).imp fun h e=>h (congrArg f e)
theorem eq_sorted {α:Type}{key:α→Nat×Nat}{a b:List α}(p:a.Perm b)(nd:(b.map key).Nodup)(h1:a.Pairwise fun x y=>¬ jX (key y) (key x))(h2:b.Pairwise fun x y=>¬ jX (key y) (key x)):a=b:=by
 refine List.Perm.eq_of_pairwise (le:=fun x y=>¬ jX (key y) (key x)) (fun x y hx hy e1 e2=>?_) h1 h2 p
 have e:=pair_eq e2 e1
 have hx:=p.mem_iff.mp hx
 have nd:=List.pairwise_map.mp nd
 obtain⟨i,hi⟩:=List.mem_iff_getElem.mp hx
 obtain⟨j,hj⟩:=List.mem_iff_getElem.mp hy
 obtain⟨hi,rfl⟩:=hi
 obtain⟨hj,rfl⟩:=hj
 have nd:=List.pairwise_iff_getElem.mp nd
 rcases Nat.lt_trichotomy i j with h | h | h
 ·exact absurd e (nd i j hi hj h)
 ·subst h;rfl
 ·exact absurd e.symm (nd j i hj hi h)
namespace P2
noncomputable def tq (P:P2)(q:Q4):N2×List (List Nat):=((P.T q.1.1,P.T q.1.2),[q.2.1,q.2.2])
section
variable {P:P2}(K:P.ok)
include K
theorem due_nd2:((P.due.map P.tq).map (·.1)).Nodup:=by
 rw[List.map_map]
 have:=List.pairwise_map.mp (due_nd K)
 refine List.pairwise_map.mpr (this.imp_of_mem fun {x y} hx hy hne h=>hne ?_)
 refine WD (due_sy K hx) fun r n r' m zg22 zh23=>?_;obtain⟨s1,s2,_⟩:=zg22;subst zh23
 refine WD (due_sy K hy) fun u a u' b zi24 zj25=>?_;obtain⟨t1,t2,_⟩:=zi24;subst zj25
 have h:(P.T (P.st r n),P.T (P.st r' m))=(P.T (P.st u a),P.T (P.st u' b)):=h
 exact Prod.ext (T_inj (st_le s1) (st_le t1) (congrArg (·.1) h)) (T_inj (st_le s2) (st_le t2) (congrArg (·.2) h))
theorem rows_eq (e:P.w=P.o){G:List GE}(gn:Gone P.ma (P.ma.b,P.ma.b) G){ks:List N2}(hp:ks.Perm (G.map (·.x)))(hs:ks.Pairwise fun a b=>¬ jX b a){ks2:List (N2×List (List Nat))}(hp2:ks2.Perm (P.due.map P.tq))(hs2:ks2.Pairwise fun a b=>¬ jX b.1 a.1):ks.map (Zt G)=ks2.map Zf:=by
 have wt_eq:∀ r n,P.wt r n=P.w.take (n - P.lt r):=fun r n=>by
  unfold wt src
  cases r
  ·rfl
  ·rw[←e];rfl
 have at':∀ {r n r' m},P.Sy r n r' m→∃ g∈G,(g.x,[g.l.1,g.l.2])=P.tq (P.rowQ r n r' m):=fun {r n r' m} s=>by
  refine kL (jan K gn s) fun g hg ex l=>?_
  rw[wt_eq,wt_eq] at l
  refine⟨g,hg,?_⟩
  rw[ex,lags_eq l];rfl
 have nd2:=due_nd2 K
 have ndk:ks.Nodup:=hp.nodup_iff.mpr gn.nd
 have ndA:((ks.map fun x=>(x,[(zZ G x).1,(zZ G x).2])).map (·.1)).Nodup:=by
  rw[List.map_map]
  show(ks.map id).Nodup
  rw[List.map_id];exact ndk
 have nd3:(ks2.map (·.1)).Nodup:=(hp2.map _).nodup_iff.mpr nd2
 suffices h:(ks.map fun x=>(x,[(zZ G x).1,(zZ G x).2]))=ks2 by
  rw[←h,List.map_map];rfl
 refine eq_sorted (key:=(·.1)) ((List.perm_ext_iff_of_nodup (nd_of ndA) (nd_of nd3)).mpr fun a=>?_) nd3 (List.pairwise_map.mpr hs) hs2
 rw[List.mem_map,hp2.mem_iff,List.mem_map]
 constructor
 ·intro za70
  refine jo za70 fun x hx zz69=>?_
  subst zz69
  refine jo (List.mem_map.mp (hp.mem_iff.mp hx)) fun g hg zk26=>?_;subst zk26
  refine WD (pth_sy K (gn.pth g hg)) fun r n r' m s ex=>?_
  refine⟨_,sy_due K s,?_⟩
  refine jo (at' s) fun g' hg' eg=>?_
  rw[←eg]
  have e1:g'.x=g.x:=(congrArg (·.1) eg).trans ex.symm
  rw[←e1,zR gn.nd hg']
 ·intro zc72
  refine jo zc72 fun q hq zb71=>?_
  subst zb71
  refine WD (due_sy K hq) fun r n r' m s zl27=>?_;subst zl27
  refine jo (at' s) fun g hg eg=>?_
  refine⟨g.x,hp.mem_iff.mpr (List.mem_map.mpr ⟨g,hg,rfl⟩),?_⟩
  rw[zR gn.nd hg];exact eg
end
end P2
namespace L12
noncomputable def fn__law_signs:Fn:=⟨1,[
 .assign (.name 1) (.lit (.str sgA)),
 .assign (.name 1) (.bin .add (.var 1) (.lit (.str sgB))),
 .assign (.name 2) (.bin .mod (.bin .add (.bin .add (.var 0) (.lit (.int 1))) (.bin .mod (.bin .fdiv (.var 0) (.lit (.int 94))) (.lit (.int 46)))) (.lit (.int 94))),
 .assign (.name 3) (.bin .mod (.bin .add (.bin .add (.var 0) (.lit (.int 47))) (.bin .mod (.bin .fdiv (.var 0) (.lit (.int 4324))) (.lit (.int 46)))) (.lit (.int 94))),
 .ret (some (.list [(.sub (.var 1) (.bin .mod (.var 0) (.lit (.int 94)))),(.sub (.var 1) (.var 2)),(.sub (.var 1) (.var 3))]))]⟩
noncomputable def fn__law_text:Fn:=⟨3,[
 .ret (some (.comp (.sub (.var 2) (.bin .mod (.bin .mod (.bin .mul (.bin .add (.var 0) (.bin .mul (.bin .mul (.lit (.int 104729)) (.var 5)) (.var 5))) (.lit (.int 48271))) (.lit (.int 2147483647))) (.lit (.int 3)))) (.name 5) (.bi .range [(.var 1)]) none))]⟩
noncomputable def fn__law_road:Fn:=⟨4,[
 .assign (.name 4) (.bin .add (.bin .mul (.list [(.lit (.str []))]) (.var 2)) (.var 1)),
 .assign (.name 5) (.list []),
 .for (.name 6) (.bi .range [(.bi .len [(.var 4)])]) [
  .assign (.name 7) (.meth .join (.lit (.str [])) [(.slice (.var 0) (.var 6) (.bin .add (.var 6) (.lit (.int 1))))]),
  .expr (.meth .append (.var 5) [(.tup [(.bin .sub (.bin .add (.var 3) (.var 6)) (.bin .mul (.bi .int [(.cmp .eq (.var 6) (.lit (.int 0)))]) (.var 3))),(.var 7),(.sub (.var 4) (.var 6)),(.bin .add (.bin .add (.var 3) (.var 6)) (.lit (.int 1)))])])],
 .ret (some (.var 5))]⟩
noncomputable def fn__law_turned:Fn:=⟨3,[
 .ite (.var 2) [
  .ret (some (.bin .sub (.bin .sub (.var 0) (.lit (.int 1))) (.var 1)))] [],
 .ret (some (.var 1))]⟩
noncomputable def fn__law_due:Fn:=⟨2,[
 .assign (.name 2) (.bi .len [(.var 0)]),
 .assign (.name 3) (.list [(.tup [(.lit (.int 0)),(.lit (.int 0)),(.lit (.str [])),(.lit (.str []))])]),
 .for (.name 4) (.bi .range [(.lit (.int 1)),(.bin .add (.var 2) (.lit (.int 1)))]) [
  .assign (.name 5) (.meth .join (.lit (.str [])) [(.slice (.var 0) (.bi .max [(.lit (.int 0)),(.bin .sub (.var 4) (.var 1))]) (.var 4))]),
  .assign (.name 6) (.var 4),
  .assign (.name 7) (.bin .add (.var 2) (.var 4)),
  .assign (.name 3) (.bin .add (.var 3) (.list [(.tup [(.var 6),(.var 6),(.lit (.str [])),(.lit (.str []))]),(.tup [(.var 7),(.var 7),(.lit (.str [])),(.lit (.str []))]),(.tup [(.var 6),(.var 7),(.var 5),(.lit (.str []))]),(.tup [(.var 7),(.var 6),(.lit (.str [])),(.var 5)])])),
  .ite (.cmp .eq (.var 4) (.var 2)) [
   .for (.name 8) (.bi .range [(.lit (.int 1)),(.bin .add (.var 1) (.lit (.int 1)))]) [
    .assign (.name 5) (.meth .join (.lit (.str [])) [(.slice (.var 0) (.bin .add (.bin .sub (.var 2) (.var 1)) (.var 8)) (.lit .none))]),
    .assign (.name 9) (.bin .add (.bin .mul (.lit (.int 2)) (.var 2)) (.var 8)),
    .assign (.name 3) (.bin .add (.var 3) (.list [(.tup [(.var 6),(.var 9),(.var 5),(.lit (.str []))]),(.tup [(.var 9),(.var 6),(.lit (.str [])),(.var 5)])]))]] []],
 .for (.name 10) (.bi .range [(.bin .add (.var 1) (.lit (.int 1)))]) [
  .for (.name 8) (.bi .range [(.bin .add (.var 1) (.lit (.int 1)))]) [
   .assign (.name 11) (.bi .min [(.var 10),(.var 8)]),
   .assign (.name 5) (.meth .join (.lit (.str [])) [(.slice (.var 0) (.bin .add (.bin .sub (.var 2) (.var 1)) (.var 11)) (.bin .add (.bin .sub (.var 2) (.var 1)) (.bi .max [(.var 10),(.var 8)])))]),
   .ite (.cmp .gt (.bin .add (.var 10) (.var 8)) (.lit (.int 0))) [
    .assign (.name 12) (.sub (.list [(.tup [(.lit (.str [])),(.var 5)]),(.tup [(.var 5),(.lit (.str []))])]) (.bi .int [(.cmp .gt (.var 10) (.var 8))])),
    .expr (.meth .append (.var 3) [(.bin .add (.tup [(.bin .add (.bin .mul (.lit (.int 2)) (.var 2)) (.var 10)),(.bin .add (.bin .mul (.lit (.int 2)) (.var 2)) (.var 8))]) (.var 12))])] []]],
 .ret (some (.var 3))]⟩
noncomputable def fn_law:Fn:=⟨1,[
 .assign (.name 1) (.call 26 [(.call 25 [(.var 0),(.lit (.int 0))])]),
 .assign (.name 2) (.bin .add (.lit (.int 1)) (.bin .mod (.call 25 [(.var 0),(.lit (.int 1))]) (.lit (.int 40)))),
 .assign (.name 3) (.bin .mod (.call 25 [(.var 0),(.lit (.int 2))]) (.bin .add (.var 2) (.lit (.int 1)))),
 .ite (.cmp .gt (.var 3) (.lit (.int 9))) [
  .assign (.name 3) (.bin .add (.lit (.int 1)) (.bin .mod (.var 3) (.lit (.int 9))))] [],
 .assign (.name 4) (.call 29 [(.call 25 [(.var 0),(.lit (.int 3))]),(.var 2),(.var 1)]),
 .assign (.name 5) (.call 29 [(.call 25 [(.var 0),(.lit (.int 4))]),(.var 2),(.var 1)]),
 .assign (.name 6) (.bi .list [(.var 5)]),
 .assign (.name 7) (.cmp .eq (.bin .mod (.call 25 [(.var 0),(.lit (.int 5))]) (.lit (.int 3))) (.lit (.int 1))),
 .ite (.var 7) [
  .assign (.name 8) (.bin .mod (.bin .fdiv (.call 25 [(.var 0),(.lit (.int 5))]) (.lit (.int 3))) (.var 2)),
  .store (.var 6) (.var 8) (.sub (.var 1) (.bin .mod (.bin .add (.meth .index (.var 1) [(.sub (.var 6) (.var 8))]) (.lit (.int 1))) (.lit (.int 3))))] [],
 .assign (.name 9) (.bin .add (.call 42 [(.var 4),(.var 5),(.lit (.int 0)),(.lit (.int 0))]) (.call 42 [(.var 4),(.var 6),(.var 3),(.var 2)])),
 .assign (.name 10) (.cmp .eq (.bin .mod (.bin .fdiv (.call 25 [(.var 0),(.lit (.int 1))]) (.lit (.int 40))) (.lit (.int 2))) (.lit (.int 1))),
 .assign (.name 11) (.bin .add (.bin .add (.lit (.int 1)) (.bin .mul (.lit (.int 2)) (.var 2))) (.var 3)),
 .assign (.name 9) (.comp (.tup [(.call 41 [(.var 11),(.var 33),(.var 10)]),(.var 34),(.var 35),(.call 41 [(.var 11),(.var 36),(.var 10)])]) (.tup [33,34,35,36]) (.var 9) none),
 .assign (.name 12) (.list [(.call 41 [(.var 11),(.var 2),(.var 10)]),(.call 41 [(.var 11),(.bin .add (.bin .mul (.lit (.int 2)) (.var 2)) (.var 3)),(.var 10)])]),
 .assign (.name 13) (.tup [(.var 11),(.call 41 [(.var 11),(.lit (.int 0)),(.var 10)]),(.var 12),(.var 9)]),
 .assign (.name 14) (.call 22 [(.var 13)]),
 .ite (.var 7) [
  .assign (.name 15) (.list [(.bi .list [(.bi .range [(.var 2)])]),(.bi .list [(.bi .range [(.var 2),(.bi .len [(.var 9)])])])]),
  .ite (.or (.not (.isinst (.var 14) .tuple)) (.or (.cmp .ne (.bi .len [(.var 14)]) (.lit (.int 3))) (.cmp .ne (.sub (.var 14) (.lit (.int 0))) (.meth .join (.lit (.str [])) [(.var 4)])))) [
   .ret (some (.lit (.bool false)))] [],
  .ret (some (.and (.cmp .isIn (.list [(.sub (.var 14) (.lit (.int 1))),(.sub (.var 14) (.lit (.int 2)))]) (.list [(.var 15),(.list [(.sub (.var 15) (.lit (.int 1))),(.sub (.var 15) (.lit (.int 0)))])])) (.call 38 [(.var 13)])))] [],
 .assign (.name 16) (.call 54 [(.var 5),(.var 3)]),
 .assign (.name 16) (.comp (.tup [(.call 41 [(.var 11),(.var 33),(.var 10)]),(.call 41 [(.var 11),(.var 34),(.var 10)]),(.var 35),(.var 36)]) (.tup [33,34,35,36]) (.var 16) none),
 .ret (some (.and (.cmp .is (.var 14) (.lit .none)) (.cmp .eq (.call 23 [(.var 13)]) (.bi .sorted [(.var 16)]))))]⟩
end L12
noncomputable def kX (c:Nat):V:=.str [c]
namespace P2
noncomputable def mv0 (P:P2)(r:Bool)(i:Nat):Mv:=⟨P.st r i,P.t[i]?.toList,P.row r i,P.st r (i+1)⟩
end P2
theorem mod94 {c d:Int}(h0:0<d)(h1:d<94):c % 94≠(c+d) % 94:=by exact oq160 h0 h1
theorem sg_nd:(sgA++sgB).Nodup:=by decide +kernel
section
variable {C:kO}{L:Env}{h:H}{Q:V→H→Prop}
theorem WM (hC:jY C){a lo hi:E}(x:AE C L h a fun v h1=>AE C L h1 lo fun u h2=>AE C L h2 hi fun w h3=>SliceW v u w h3 Q):AE C L h (.slice a lo hi) Q:=fun ρ ag=>by
 rw[e_slice]
 exact jh hC a (fun v h1 y=>jh hC lo (fun u h2 z=>z ρ ag) (y ρ ag)) (x ρ ag)
theorem A_js (hC:jY C){a lo hi:E}{n i j:Nat}{l:List Nat}{vl vh:V}{ga ga' gl gl' gh gh':List V}{ca cl ch:List Prop}(xa:ev L h a ga=some (.ref n,ca,ga'))(pa:km ca)(xl:ev L h lo gl=some (vl,cl,gl'))(pl:km cl)(xh:ev L h hi gh=some (vh,ch,gh'))(ph:km ch)
  (hn:h[n]?=some (.list (l.map kX))) (hl:l.length≤1000) (h1:Kz vl=some i) (h2:Kq l.length vh=some j) (q:Q (.str ((l.take j).drop i)) (h++[.list (((l.take j).drop i).map kX)])):AE C L h (.meth .join (.lit (.str [])) [.slice a lo hi]) Q:=by
 refine Kx hC (fun c:Nat=>[c]) (WM hC (jB xa pa (jB xl pl (jB xh ph ?_))))
 have e:((l.map kX).take j).drop i=((l.take j).drop i).map kX:=by rw[←List.map_take,←List.map_drop]
 refine⟨l.map kX,i,j,.inl hn,h1,by rw[List.length_map];exact h2,?_⟩
 rw[e]
 have fl:∀ l:List Nat,l.flatMap (fun c=>[c])=l:=fun l=>by rw[List.flatMap_singleton']
 refine⟨_,(l.take j).drop i,rfl,ji _ _,?_,?_⟩
 ·have s1:∀ l:List Nat,((l.map fun c:Nat=>[c]).map List.length).sum=l.length:=fun l=>by
   induction l with
   | nil=>rfl
   | cons x l ih=>simp only[List.map_cons,List.sum_cons,ih,List.length_cons,List.length_nil];exact qa (kg jO (qA (qA jw jj) jc) jg qt ) (kg jO jg (qA (qA jw jj) jc) qt )
  rw[s1,List.length_drop,List.length_take]
  have:=kp
  exact oq161 hl this
 ·rw[fl];exact q
end
theorem hi_nat1 {n k:Nat}(h:k<999):Kq n (.int ((k:Int)+1))=some (k+1):=Zv (k:=k+1) (by exact jq jO (qA jg jj) (qN 1000) jg (qN 999) qt h)
section
variable {Φ:Nat→Option Fn}{d:Nat}{h:H}{Q:V→H→Prop}
theorem Zd {c:Int}(h26:Φ 26=some L12.fn__law_signs)(q:∀ a b e:Nat,[a,b,e].Nodup→Q (.ref h.length) (h++[.list ([a,b,e].map kX)])):Calls Φ (d+1) 26 [.int c] h Q:=by
 have mC:=jy (Φ:=Φ) d
 have hS:=kp
 refine⟨L12.fn__law_signs,h26,rfl,wS (kY (g:=[]) rfl trivial (kY (g:=[]) rfl ⟨by rw[hS,sg_a,sg_b];decide,trivial⟩ ?_))⟩
 have hl:(sgA++sgB).length=94:=by rw[List.length_append,sg_a,sg_b]
 have hnd:=sg_nd
 generalize sgA++sgB=sg at hl hnd ⊢
 refine kY (g:=[]) rfl ⟨by decide,by decide,by decide,trivial⟩ (kY (g:=[]) rfl ⟨by decide,by decide,by decide,trivial⟩ ?_)
 refine jo (kQ c (b:=94) (by decide)) fun k1 e1 l1=>?_
 refine jo (kQ (c.fdiv 94) (b:=46) (by decide)) fun x ex lx=>?_
 refine jo (kQ (c.fdiv 4324) (b:=46) (by decide)) fun y ey ly=>?_
 refine jo (kQ (c+1+(c.fdiv 94).fmod 46) (b:=94) (by decide)) fun k2 e2 l2=>?_
 refine jo (kQ (c+47+(c.fdiv 4324).fmod 46) (b:=94) (by decide)) fun k3 e3 l3=>?_
 have lt:∀ {k:Nat},(k:Int)<94→k<sg.length∧k<1000:=fun h=>by exact oq162 hl h
 obtain⟨x1,g1⟩:=UM (s:=sg) (k:=k1) (lt l1).1
 obtain⟨x2,g2⟩:=UM (s:=sg) (k:=k2) (lt l2).1
 obtain⟨x3,g3⟩:=UM (s:=sg) (k:=k3) (lt l3).1
 have ne:k1≠k2∧k1≠k3∧k2≠k3:=by
  rw[ex] at e2
  rw[ey] at e3
  rw[Int.fmod_eq_emod_of_nonneg _ (by decide)] at e1 e2 e3
  refine⟨fun h=>mod94 (c:=c) (d:=1+x) (by exact oq163) (by exact oq164 lx) ?_,fun h=>mod94 (c:=c) (d:=47+y) (by exact oq165) (by exact False.elim (oq166 e1 ly e3 h)) ?_,fun h=>mod94 (c:=c+1+x) (d:=46+y - x) (by exact oq167 lx) (by exact False.elim (oq168 lx ly e2 e3 h)) ?_⟩
  ·rw[e1,←Int.add_assoc,e2,h]
  ·rw[e1,←Int.add_assoc,e3,h]
  ·rw[e2,show c+1+x+(46+y - x)=c+47+(y:Int) from by exact oq169,e3,h]
 have inj:∀ {i j u w:Nat},i<sg.length→sg[i]?=some u→sg[j]?=some w→i≠j→u≠w:=fun hi h1 h2 hne e=>hne ((List.getElem?_inj hi hnd).mp (by rw[h1,h2,e]))
 have nd:[x1,x2,x3].Nodup:=by
  have a1:=inj (lt l1).1 g1 g2 ne.1
  have a2:=inj (lt l1).1 g1 g3 ne.2.1
  have a3:=inj (lt l2).1 g2 g3 ne.2.2
  simp [a1,a2,a3]
 rw[e2,e3]
 exact A_retL (es:=[]) mC (g:=[.str [x1],.str [x2],.str [x3]]) rfl ⟨by decide,by rw[e1];exact YZ (lt l1).2 g1,YZ (lt l2).2 g2,YZ (lt l3).2 g3,trivial⟩ fun ρ=>q x1 x2 x3 nd
theorem Ud {c:Int}{n N:Nat}{cs:List Nat}(h29:Φ 29=some L12.fn__law_text)(hn:h[n]?=some (.list (cs.map kX)))(hc:cs.length=3)(hN:N≤1000)(q:∀ l:List Nat,l.length=N→(∀ c∈l,c∈cs)→Q (.ref h.length) (h++[.list (l.map kX)])):Calls Φ (d+1) 29 [.int c,.int N,.ref n] h Q:=by
 have mC:=jy (Φ:=Φ) d
 have hz:=kp
 have key:∀ k:Nat,∃ x,x∈cs∧WF h (.ref n) (.int ((((c+104729 * k * k) * 48271).fmod 2147483647).fmod 3)) (kX x):=fun k=>by
  refine jo (kQ (((c+104729 * k * k) * 48271).fmod 2147483647) (b:=3) (by decide)) fun i e l=>?_
  have hi:i<cs.length:=by exact oq170 hc l
  refine⟨cs[i],List.getElem_mem hi,?_⟩
  rw[e]
  exact jZ hn (Nat.lt_trans hi (hc▸by decide)) (by rw[List.getElem?_map,List.getElem?_eq_getElem hi];rfl)
 refine⟨L12.fn__law_text,h29,rfl,wS (yp mC (Ka mC (wp N) (l:=List.range N) (f:=jK) (w:=fun k=>kX (key k).choose) (g:=[]) rfl ⟨kh (by exact jq jO jg (qN 2147483648) jc (qN 1000) qt hN),trivial⟩ (fun J q=>q) trivial (by rw[List.length_range];exact jt ju jc ja jc (qN 1000) (qN 16777216) ja qt hN (qi hz)) (fun k hk=>?_) fun ρ=>?_))⟩
 ·have hk:=List.mem_range.mp hk
  exact⟨[kX (key k).choose],_,_,rfl,.inl (by decide),.inr (Nat.lt_of_lt_of_le hk (Nat.le_trans hN (by decide))),ZP _ (by decide),by decide,by decide,(key k).choose_spec.2,trivial⟩
 ·have:=q ((List.range N).map fun k=>(key k).choose) (by simp) (fun x hx=>by
   refine jo (List.mem_map.mp hx) fun k J zm28=>?_;subst zm28
   exact(key k).choose_spec.1)
  rw[List.map_map] at this
  exact this
theorem kD {P:P2}{s:Nat}(h41:Φ 41=some L12.fn__law_turned)(hs:s≤2 * P.N+P.L)(q:Q (.int (P.T s)) h):Calls Φ (d+1) 41 [.int (1+2 * P.N+P.L),.int s,.bool P.dn] h Q:=by
 refine⟨L12.fn__law_turned,h41,rfl,wS ?_⟩
 cases hd:P.dn with
 | true =>
  refine wi (g:=[]) rfl trivial (fun J=>kA (g:=[]) rfl trivial fun ρ=>?_) fun e=>nomatch e
  rw[show((1+2 * P.N+P.L:Int) - 1 - s)=((P.T s:Nat):Int) from by unfold P2.T;rw[hd,if_pos rfl];exact oq171 hs]
  exact q
 | false =>
  refine wi (g:=[]) rfl trivial (fun e=>nomatch e) fun J=>jG (kA (g:=[]) rfl trivial fun ρ=>?_)
  have e:P.T s=s:=by unfold P2.T;rw[hd];rfl
  rw[e] at q;exact q
noncomputable def rdL (tn sn rn ld:Nat)(L B:Int):Env:=[(0,.ref tn),(1,.ref sn),(2,.int L),(3,.int B),(4,.ref rn),(5,.ref ld)]
theorem Ub {P:P2}{r:Bool}{tn sn:Nat}(K:P.ok)(h42:Φ 42=some L12.fn__law_road)(ht:h[tn]?=some (.list (P.t.map kX)))(hs:h[sn]?=some (.list ((P.src r).map kX)))
  (q:∀ H k,h <+: H→H[k]?=some (.list ((List.range (P.ln r)).map fun i=>(P.mv0 r i).v))→Q (.ref k) H):Calls Φ (d+1) 42 [.ref tn,.ref sn,.int (P.lt r),.int (P.off r)] h Q:=by
 have mC:=jy (Φ:=Φ) d
 have hz:=kp
 obtain⟨n1,n2,l1,l9,htl,hwl,hol⟩:=K
 have sl:(P.src r).length=P.N:=by cases r <;> simp [P2.src,hwl,hol]
 have ltl:P.lt r≤9:=by cases r <;> simp [P2.lt,l9]
 have offl:P.off r≤40:=by cases r <;> simp [P2.off,n2]
 have lnl:P.lt r+P.N=P.ln r:=by cases r <;> simp [P2.lt,P2.ln];exact qa (kg ju (qA jc ja) (qA ja jc) qt ) (kg ju (qA jc ja) (qA ja jc) qt )
 refine⟨L12.fn__law_road,h42,rfl,wS (jL mC (kK mC (kK mC (ZO (g:=[]) rfl trivial (jB (g:=[]) rfl trivial ⟨[.str []],ji _ _,Int.natCast_nonneg _,WN (Nat.lt_of_le_of_lt ltl (by decide)),by simp;exact jt ju jc ja (qN 16777216) ja jc (qN 9) qt (qi hz) ltl,jB (g:=[]) rfl trivial ⟨_,_,ji _ _,jf (jf hs),by simp;exact yS jE (qA jc ja) jd (qN 16777216) jd je (qN 40) ja je jc (qN 9) qt (qi hz) n2 (qe sl) ltl,?_⟩⟩)))))⟩
 have erow:(List.replicate (P.lt r:Int).toNat [V.str []]).flatten++(P.src r).map kX=(List.range (P.ln r)).map fun i=>V.str (P.row r i):=by
  apply List.ext_getElem?
  intro i
  have e1:∀ k:Nat,(List.replicate k [V.str []]).flatten=List.replicate k (V.str []):=fun k=>by
   induction k with
   | zero=>rfl
   | succ k ih=>rw[List.replicate_succ,List.flatten_cons,ih];rfl
  rw[Int.toNat_natCast,e1,List.getElem?_map]
  by_cases hi:i<P.ln r
  ·rw[List.getElem?_range hi]
   show _=some (V.str (P.row r i))
   unfold P2.row
   by_cases hl:i<P.lt r
   ·rw[if_pos hl,List.getElem?_append_left (by simpa using hl)];simp [hl]
   ·have hk:i - P.lt r<(P.src r).length:=by exact oq172 n1 sl lnl hi
    rw[if_neg hl,List.getElem?_append_right (by simp;exact qm hl),List.length_replicate,List.getElem?_map,List.getElem?_eq_getElem hk];rfl
  ·rw[List.getElem?_eq_none (by simp;exact jV ka (qA jc ja) jd ja je (qA jc je) jl jl jd qt (qe sl) (qe lnl) (qm hi)),List.getElem?_eq_none (by simp;exact qm hi)];rfl
 rw[erow]
 generalize hX:h++[MO.list [V.str []]]++[MO.list (List.replicate (P.lt r:Int).toNat [V.str []]).flatten]=H1
 have p1:h <+: H1:=by rw[←hX,List.append_assoc];exact List.prefix_append _ _
 clear hX erow
 have gR:=ji H1 (.list ((List.range (P.ln r)).map fun i=>V.str (P.row r i)))
 have p2:h <+: H1++[.list ((List.range (P.ln r)).map fun i=>V.str (P.row r i))]:=p1.trans (List.prefix_append _ _)
 generalize H1.length=rn at gR ⊢
 generalize H1++[MO.list ((List.range (P.ln r)).map fun i=>V.str (P.row r i))]=H2 at gR p2 ⊢
 refine zt ?_
 refine ye mC (wp (P.ln r)) (fun _:Unit=>rdL tn sn rn H2.length (P.lt r) (P.off r)) (fun i J H=>H2 <+: H∧H[H2.length]?=some (.list ((List.range i).map fun i=>(P.mv0 r i).v))) () (by exact rfl) (jB (g:=[.int (P.ln r)]) rfl ⟨?_,kh (by exact jV jr jg (qN 2147483648) ja (qN 40) jd (qN 9) jc (qA jd ja) qt n2 ltl (qi lnl)),trivial⟩ ⟨fun J q=>q,List.prefix_append _ _,ji _ _⟩) (fun J J J J=>trivial) ?_ ?_
 ·have:=Kt (f:=fun i=>V.str (P.row r i)) (jf (t:=[MO.list []]) gR)
  rw[List.length_range] at this;exact this
 ·intro i w _ H Kk kN kR hw;rintro⟨pH,hL⟩
  refine kL (wJ hw) fun k hk zn29 hkm=>?_;subst zn29
  have:k=i:=by rw[List.getElem?_range (by simpa using hkm)] at hk;exact(Option.some.inj hk).symm
  subst this
  rw[List.length_range] at hkm
  have ht':=js (p2.trans pH) ht
  refine jL mC (A_js mC (ga:=[]) (gl:=[]) (gh:=[]) rfl trivial rfl trivial rfl trivial ht' (by exact jt ju jc (qN 1000) ja (qN 40) jc ja qt n2 (qe htl)) (Wc (k:=k) (by exact yS jE jg (qN 1000) ja (qN 40) jd (qN 9) je (qA jd ja) jg je qt n2 ltl (qi lnl) hkm)) (hi_nat1 (k:=k) (by exact yS jE jg (qN 999) ja (qN 40) jd (qN 9) je (qA jd ja) jg je qt n2 ltl (qi lnl) hkm)) ?_)
  have et:(P.t.take (k+1)).drop k=P.t[k]?.toList:=by
   rw[List.take_add_one,List.drop_append]
   by_cases hk:k<P.t.length
   ·rw[List.drop_eq_nil_of_le (by rw[List.length_take];exact oq105),List.length_take,show k - min k P.t.length=0 from by exact oq173 hk,List.drop_zero,List.nil_append]
   ·rw[List.drop_eq_nil_of_le (by rw[List.length_take];exact oq105),List.getElem?_eq_none (by exact qm hk)];simp
  rw[et]
  have gR':=jf (t:=[MO.list (List.map kX P.t[k]?.toList)]) (js pH gR)
  have hL':=jf (t:=[MO.list (List.map kX P.t[k]?.toList)]) hL
  refine Jl rfl hL' (by rw[List.length_map,List.length_range];exact YG ka jg ja (qN 16777216) ja jd (qN 40) je (qN 9) jl (qA je jd) jg jl qt (qi hz) n2 ltl (qi lnl) hkm) (g:=[.str (P.row r k)]) rfl ⟨ZP _ (Nat.lt_of_le_of_lt offl (by decide)),jZ gR' (Nat.lt_of_lt_of_le hkm (lnl▸Nat.le_trans (Nat.add_le_add ltl n2) (by decide))) (by rw[List.getElem?_map,List.getElem?_range hkm];rfl),trivial⟩ (kz kN () (by exact rfl) ⟨wz (pH.trans (List.prefix_append _ _)) (Nat.le_refl _) _,?_⟩)
  rw[List.getElem?_set_self (wK hL'),List.range_succ,List.map_append,List.map_cons,List.map_nil]
  have e1:(P.off r:Int)+k - (if decide ((k:Int)=0) then 1 else 0) * (P.off r:Int)=(P.st r k:Nat):=by
   unfold P2.st
   by_cases h0:k=0
   ·subst h0;simp
   ·rw[if_neg h0,if_neg (by simp [h0])];simp
  have e2:(P.off r:Int)+k+1=(P.st r (k+1):Nat):=by
   rw[P2.st_pos _ (Nat.succ_ne_zero k)];simp;exact oq174
  rw[e1,e2];rfl
 ·rintro _ H ⟨pH,hL⟩
  rw[List.length_map,List.length_range] at hL
  exact kA (g:=[]) rfl trivial fun ρ=>q H _ (p2.trans pH) hL
end
theorem KA (a b:Int)(n:Nat)(e:b=a+n):kF a b 1=(List.range n).map fun k:Nat=>V.int (a+k):=by
 unfold kF
 rw[rlen e]
 apply List.ext_getElem?
 intro i
 rw[Km,List.getElem?_map]
 by_cases h:i<n
 ·rw[if_pos h,List.getElem?_range h];simp
 ·rw[if_neg h,List.getElem?_eq_none (by simpa using h)];rfl
theorem JK (a b:Int)(n:Nat)(e:b=a+n):yq (fun i=>.vals ((kF a b 1).drop i)) ((List.range n).map fun k:Nat=>V.int (a+k)) fun J=>True:=KA a b n e▸Ju (kF a b 1)
theorem rg_at {α:Type}{f:Nat→α}{n i:Nat}{v:α}(h:((List.range n).map f)[i]?=some v):i<n∧v=f i:=by
 rw[List.getElem?_map] at h
 by_cases hi:i<n
 ·rw[List.getElem?_range hi] at h;exact⟨hi,(Option.some.inj h).symm⟩
 ·rw[List.getElem?_eq_none (by simpa using hi)] at h;cases h
section
variable {C:kO}{L:Env}{h:H}{Q:V→H→Prop}
theorem Jg {es:List E}{vs g g':List V}{c:List Prop}(x:evs L h es g=some (vs,c,g'))(hc:km c)(q:Q (.ref h.length) (h++[.list vs])):AE C L h (.list es) Q:=fun ρ ag=>by
 rw[zN]
 exact evs_snd ag es g vs c g' x hc (fun w=>w=vs) rfl _ fun w e=>by rw[e];exact q
theorem A_jsG (hC:jY C){a lo hi:E}{n:Nat}{l:List Nat}{ga ga':List V}{ca:List Prop}(xa:ev L h a ga=some (.ref n,ca,ga'))(pa:km ca)(hn:h[n]?=some (.list (l.map kX)))(hl:l.length≤1000)
  (x:AE C L h lo fun u h2=>h2=h∧∃ i,Kz u=some i∧AE C L h hi fun w h3=>h3=h∧∃ j,Kq l.length w=some j∧Q (.str ((l.take j).drop i)) (h++[.list (((l.take j).drop i).map kX)])):AE C L h (.meth .join (.lit (.str [])) [.slice a lo hi]) Q:=by
 refine Kx hC (fun c:Nat=>[c]) (WM hC (jB xa pa fun ρ ag=>jh hC lo (fun u h2 z=>?_) (x ρ ag)))
 refine jP z fun zo30 zp31=>?_;subst zo30;refine jo zp31 fun i h1 x=>?_
 refine fun ρ ag=>jh hC hi (fun w h3 z=>?_) (x ρ ag)
 refine jP z fun zq32 zr33=>?_;subst zq32;refine jo zr33 fun j h2 q=>?_
 have e:((l.map kX).take j).drop i=((l.take j).drop i).map kX:=by rw[←List.map_take,←List.map_drop]
 refine⟨l.map kX,i,j,.inl hn,h1,by rw[List.length_map];exact h2,?_⟩
 rw[e]
 have fl:∀ l:List Nat,l.flatMap (fun c=>[c])=l:=fun l=>by rw[List.flatMap_singleton']
 refine⟨_,(l.take j).drop i,rfl,ji _ _,?_,?_⟩
 ·have s1:∀ l:List Nat,((l.map fun c:Nat=>[c]).map List.length).sum=l.length:=fun l=>by
   induction l with
   | nil=>rfl
   | cons x l ih=>simp only[List.map_cons,List.sum_cons,ih,List.length_cons,List.length_nil];exact qa (kg jO (qA (qA jw jj) jc) jg qt ) (kg jO jg (qA (qA jw jj) jc) qt )
  rw[s1,List.length_drop,List.length_take]
  have:=kp
  exact oq161 hl this
 ·rw[fl];exact q
end
namespace P2
variable {P:P2}
theorem due1_len (n:Nat):(P.due1 n).length≤1+n * 4:=by
 unfold due1
 rw[List.length_append]
 have:=yj (f:=fun k=>P.dk (k+1)) (k:=4) (List.range n) fun J J=>Nat.le_refl _
 rw[List.length_range] at this
 rw[List.length_singleton];exact jq ju (qA jj jc) (qA jj (qR ja 4)) jc (qR ja 4) qt this
theorem due2_len (n:Nat):(P.due2 n).length≤1+P.N * 4+n * 2:=by
 unfold due2
 rw[List.length_append]
 have:=yj (f:=fun k=>P.de (k+1)) (k:=2) (List.range n) fun J J=>Nat.le_refl _
 rw[List.length_range] at this
 have:=due1_len (P:=P) P.N
 exact jt jE (qA jc ja) (qA (qA jj (qR jd 4)) (qR je 2)) ja (qR je 2) jc (qA jj (qR jd 4)) qt (by assumption) this
theorem df_len (i j:Nat):(P.df i j).length≤1:=by unfold df;split <;> simp
theorem df_lenR (i n:Nat):((List.range n).flatMap fun j=>P.df i j).length≤n:=by
 have:=yj (f:=fun j=>P.df i j) (k:=1) (List.range n) fun j J=>df_len i j
 rw[List.length_range] at this;exact jq ju jc ja jc (qR ja 1) qt this
theorem due3_len (K:P.ok){n:Nat}(hn:n≤P.L+1):(P.due3 n).length≤1000:=by
 unfold due3
 rw[List.length_append]
 have:=yj (f:=fun i=>(List.range (P.L+1)).flatMap fun j=>P.df i j) (k:=10) (List.range n) fun i J=>Nat.le_trans (df_lenR i (P.L+1)) (by have:=K.l9;exact jq jO jg (qN 10) jc (qN 9) qt this)
 rw[List.length_range] at this
 have:=due2_len (P:=P) P.L
 have:=K.n2
 have:=K.l9
 exact YG ka (qA jc ja) (qN 1000) (qM 10 jd) (qM 10 wG) ja (qR jd 10) jc (qA (qA jj (qR jl 4)) (qR je 2)) (qM 4 jl) (qM 4 (qN 40)) (qM 12 je) (qM 12 (qN 9)) qt (qr 10 hn) (by assumption) (by assumption) (qr 4 (by assumption)) (qr 12 this)
theorem due1_succ (n:Nat):P.due1 (n+1)=P.due1 n++P.dk (n+1):=by
 unfold due1
 rw[List.range_succ,List.flatMap_append,List.append_assoc];simp
theorem due2_succ (n:Nat):P.due2 (n+1)=P.due2 n++P.de (n+1):=by
 unfold due2
 rw[List.range_succ,List.flatMap_append,List.append_assoc];simp
theorem due3_succ (n:Nat):P.due3 (n+1)=P.due3 n++(List.range (P.L+1)).flatMap fun j=>P.df n j:=by
 unfold due3
 rw[show List.range (n+1)=List.range n++[n] from List.range_succ,List.flatMap_append,List.append_assoc,List.flatMap_singleton]
noncomputable def dueA (P:P2)(i:Nat):List Q4:=if i=P.N then P.due2 P.L else P.due1 i
end P2
noncomputable def duL (wn:Nat)(L N:Int)(r:Nat):Env:=[(0,.ref wn),(1,.int L),(2,.int N),(3,.ref r)]
def UR (h H:Tw.H)(r:Nat)(l:List Q4):Prop:=h <+: H∧h.length≤r∧H[r]?=some (.list (l.map q4V))
section
variable {Φ:Nat→Option Fn}{d:Nat}{h:H}{Q:V→H→Prop}
theorem due12_ok {P:P2}{wn:Nat}(K:P.ok)(h54:Φ 54=some L12.fn__law_due)(hw:h[wn]?=some (.list (P.w.map kX)))
  (q:∀ H k,h <+: H→H[k]?=some (.list (P.due.map q4V))→Q (.ref k) H):Calls Φ (d+1) 54 [.ref wn,.int P.L] h Q:=by
 have mC:=jy (Φ:=Φ) d
 have hz:=kp
 have n1:=K.n1
 have n2:=K.n2
 have l1:=K.l1
 have l9:=K.l9
 have hwl:=K.hw
 have eNL:(P.N:Int) - P.L=((P.N - P.L:Nat):Int):=by exact oq175 l1
 refine⟨L12.fn__law_due,h54,rfl,wS (kY (g:=[.int P.N]) rfl ⟨by have:=Kt hw;rw[hwl] at this;exact this,trivial⟩ (A_list (g:=[]) rfl trivial ?_))⟩
 refine ye mC (JK 1 (P.N+1) P.N (by exact oq176)) (duL wn P.L P.N) (fun i r H=>UR h H r (P.dueA i)) h.length (by exact rfl) (UQ (g:=[]) rfl trivial ⟨kh (n:=1) (by decide),kh (n:=P.N+1) (Nat.lt_of_le_of_lt (Nat.succ_le_succ n2) (by decide)),fun J q=>q,List.prefix_append _ _,Nat.le_refl _,?_⟩) (fun J J J J=>trivial) ?_ ?_
 ·rw[ji]
  unfold P2.dueA
  rw[if_neg (by exact fun e0=>kc jO jj jc jc jw qt n1 (qi e0))];rfl
 ·intro i v r H Kk kN kR hv;rintro⟨pH,hr,hR⟩
  obtain⟨hi,rfl⟩:=rg_at hv
  have e1:(1:Int)+i=((i+1:Nat):Int):=by exact oq177
  rw[e1]
  unfold P2.dueA at hR
  rw[if_neg (by exact fun e0=>kc ju jg ja ja jc qt hi (qi e0))] at hR
  refine jL mC (A_jsG mC (ga:=[]) rfl trivial (js pH hw) (by exact jt ju jc (qN 1000) ja (qN 40) jc ja qt n2 (qe hwl)) (UQ (g:=[]) rfl trivial ?_))
  rw[x_max,show max (0:Int) (((i+1:Nat):Int) - P.L)=((i+1 - P.L:Nat):Int) from by exact oq178]
  refine⟨rfl,_,Wc (by exact jV jr jg (qN 1000) ja (qN 40) jD ja jc jD qt n2 hi qu),jB (g:=[]) rfl trivial ⟨rfl,_,Zv (by exact jt ju (qA jg jj) (qN 1000) ja (qN 40) jg ja qt n2 hi),?_⟩⟩
  have hR:=jf (t:=[MO.list (List.map kX (List.drop (i+1 - P.L) (List.take (i+1) P.w)))]) hR
  have pH:=pH.trans (List.prefix_append _ [MO.list (List.map kX (List.drop (i+1 - P.L) (List.take (i+1) P.w)))])
  generalize H++[MO.list (List.map kX (List.drop (i+1 - P.L) (List.take (i+1) P.w)))]=H1 at hR pH ⊢
  refine kY (g:=[]) rfl trivial (kY (g:=[]) rfl trivial (jL mC (kK mC (jB (g:=[]) rfl trivial (Jg (g:=[]) rfl trivial ?_)))))
  rw[JB (jf hR) (ji _ _)]
  refine⟨?_,?_⟩
  ·have:=P2.due1_len (P:=P) i
   rw[List.length_map];simp;exact yS jE (qA jc qk4) ja (qN 16777216) ja (qM 4 jd) (qM 4 (qN 40)) (qM 4 wG) (qM 4 jd) jc (qA jj (qR je 4)) qt (qi hz) (qr 4 n2) (qr 4 hi) this
  have e2:(P.due1 i).map q4V++[.tup [.int ((i+1:Nat):Int),.int ((i+1:Nat):Int),.str [],.str []],.tup [.int ((P.N:Int)+((i+1:Nat):Int)),.int ((P.N:Int)+((i+1:Nat):Int)),.str [],.str []],.tup [.int ((i+1:Nat):Int),.int ((P.N:Int)+((i+1:Nat):Int)),.str (List.drop (i+1 - P.L) (List.take (i+1) P.w)),.str []],.tup [.int ((P.N:Int)+((i+1:Nat):Int)),.int ((i+1:Nat):Int),.str [],.str (List.drop (i+1 - P.L) (List.take (i+1) P.w))]]=(P.due1 (i+1)).map q4V:=by rw[P2.due1_succ,List.map_append];rfl
  rw[e2]
  generalize hX:H1++[MO.list [_,_,_,_]]=H2
  have p2:H1 <+: H2:=⟨_,hX⟩
  clear hX
  have hr2:h.length≤H2.length:=Nat.le_trans pH.length_le p2.length_le
  have hR2:=ji H2 (.list ((P.due1 (i+1)).map q4V))
  have pH2:=(pH.trans p2).trans (List.prefix_append H2 [.list ((P.due1 (i+1)).map q4V)])
  generalize H2.length=r2 at hr2 hR2 ⊢
  generalize H2++[MO.list ((P.due1 (i+1)).map q4V)]=H3 at hR2 pH2 ⊢
  clear p2 hR pH e2
  refine wi (g:=[]) rfl trivial (fun hc=>?_) fun hc=>jG (kz kN r2 (by exact rfl) ⟨pH2,hr2,?_⟩)
  ·have hc:i+1=P.N:=by have:=of_decide_eq_true hc;exact oq179 this
   refine ye mC (JK 1 (P.L+1) P.L (by exact oq176)) (fun r=>(6,.int ((i+1:Nat):Int))::duL wn P.L P.N r) (fun j r H=>UR h H r (P.due2 j)) r2 (by exact rfl) (UQ (g:=[]) rfl trivial ⟨kh (n:=1) (by decide),kh (n:=P.L+1) (Nat.lt_of_le_of_lt (Nat.succ_le_succ l9) (by decide)),fun J q=>q,pH2,hr2,?_⟩) (fun J J J J=>trivial) ?_ ?_
   ·rw[hR2,hc];unfold P2.due2;rw[List.range_zero,List.flatMap_nil,List.append_nil]
   ·intro j v r H Kk kN kR hv;rintro⟨pH,hr,hR⟩
    obtain⟨hj,rfl⟩:=rg_at hv
    have e1:(1:Int)+j=((j+1:Nat):Int):=by exact oq177
    rw[e1]
    refine jL mC (A_jsG mC (ga:=[]) rfl trivial (js pH hw) (by exact jt ju jc (qN 1000) ja (qN 40) jc ja qt n2 (qe hwl)) (jB (g:=[]) rfl trivial ?_))
    rw[eNL,show((P.N - P.L:Nat):Int)+((j+1:Nat):Int)=((P.N - P.L+(j+1):Nat):Int) from by exact oq180]
    refine⟨rfl,_,Wc (by exact oq181 n2 eNL hj),jB (g:=[]) rfl trivial ⟨rfl,_,rfl,?_⟩⟩
    have ey:List.drop (P.N - P.L+(j+1)) (List.take P.w.length P.w)=P.dY (j+1):=by rw[List.take_length];rfl
    rw[ey]
    have hR:=jf (t:=[MO.list (List.map kX (P.dY (j+1)))]) hR
    have pH:=pH.trans (List.prefix_append _ [MO.list (List.map kX (P.dY (j+1)))])
    generalize H++[MO.list (List.map kX (P.dY (j+1)))]=H1 at hR pH ⊢
    refine kY (g:=[]) rfl ⟨.inl (by decide),trivial⟩ (jL mC (kK mC (jB (g:=[]) rfl trivial (Jg (g:=[]) rfl trivial ?_))))
    rw[JB (jf hR) (ji _ _)]
    refine⟨?_,?_⟩
    ·have:=P2.due2_len (P:=P) j
     rw[List.length_map];simp;exact oq182 hz n2 eNL hj this
    have e2:(P.due2 j).map q4V++[.tup [.int ((i+1:Nat):Int),.int (2 * (P.N:Int)+((j+1:Nat):Int)),.str (P.dY (j+1)),.str []],.tup [.int (2 * (P.N:Int)+((j+1:Nat):Int)),.int ((i+1:Nat):Int),.str [],.str (P.dY (j+1))]]=(P.due2 (j+1)).map q4V:=by rw[P2.due2_succ,List.map_append,hc];rfl
    rw[e2]
    generalize hX:H1++[MO.list [_,_]]=H2
    have p2:H1 <+: H2:=⟨_,hX⟩
    clear hX
    exact kz kN H2.length (by exact rfl) ⟨(pH.trans p2).trans (List.prefix_append _ _),Nat.le_trans pH.length_le p2.length_le,ji _ _⟩
   ·intro r H zd73
    refine kH zd73 fun pH hr hR=>?_
    rw[List.length_map,List.length_range] at hR
    refine jG (kz kN r (by exact rfl) ⟨pH,hr,?_⟩)
    unfold P2.dueA
    rw[if_pos hc];exact hR
  ·have hc:i+1≠P.N:=fun e=>by have:=of_decide_eq_false hc;exact False.elim (oq183 e this)
   unfold P2.dueA
   rw[if_neg hc];exact hR2
 ·intro r H ze74
  refine kH ze74 fun pH hr hR=>?_
  rw[List.length_map,List.length_range] at hR
  unfold P2.dueA at hR
  rw[if_pos rfl] at hR
  refine ye mC (wp (P.L+1)) (fun _:Unit=>duL wn P.L P.N r) (fun i J H=>UR h H r (P.due3 i)) () (by exact rfl) (jB (g:=[]) rfl ⟨kh (n:=P.L+1) (by exact jq jO (qA jg jj) (qN 2147483648) jc (qN 9) qt l9),trivial⟩ ⟨fun J q=>q,pH,hr,?_⟩) (fun J J J J=>trivial) ?_ ?_
  ·rw[hR];unfold P2.due3;rw[List.range_zero,List.flatMap_nil,List.append_nil]
  ·intro i v _ H Kk kN kR hv;rintro⟨pH,hr,hR⟩
   obtain⟨hi,rfl⟩:=rg_at hv
   refine ye mC (wp (P.L+1)) (fun _:Unit=>(10,jK i)::duL wn P.L P.N r) (fun j J H=>UR h H r (P.due3 i++(List.range j).flatMap fun j=>P.df i j)) () (by exact rfl) (jB (g:=[]) rfl ⟨kh (n:=P.L+1) (by exact jq jO (qA jg jj) (qN 2147483648) jc (qN 9) qt l9),trivial⟩ ⟨fun J q=>q,pH,hr,?_⟩) (fun J J J J=>trivial) ?_ ?_
   ·rw[hR,List.range_zero,List.flatMap_nil,List.append_nil]
   ·intro j v _ H Kk kN kR hv;rintro⟨pH,hr,hR⟩
    obtain⟨hj,rfl⟩:=rg_at hv
    refine jL mC (UQ (g:=[]) rfl trivial ?_)
    show BiW .min [.int i,.int j] _ _
    rw[x_min,show min (i:Int) j=((min i j:Nat):Int) from by exact oq184]
    refine jL mC (A_jsG mC (ga:=[]) rfl trivial (js pH hw) (by exact jt ju jc (qN 1000) ja (qN 40) jc ja qt n2 (qe hwl)) (jB (g:=[]) rfl trivial ?_))
    rw[eNL,show((P.N - P.L:Nat):Int)+((min i j:Nat):Int)=((P.N - P.L+min i j:Nat):Int) from by exact oq185]
    refine⟨rfl,_,Wc (by exact oq186 n2 l9 hj),kK mC (jB (g:=[]) rfl trivial (UQ (g:=[]) rfl trivial ?_))⟩
    show BiW .max [.int i,.int j] _ _
    rw[x_max,eNL]
    show _∧_
    rw[show((P.N - P.L:Nat):Int)+max (i:Int) j=((P.N - P.L+max i j:Nat):Int) from by exact oq187]
    refine⟨rfl,_,Zv (by exact oq188 n2 eNL hi hj),?_⟩
    have ez:List.drop (P.N - P.L+min i j) (List.take (P.N - P.L+max i j) P.w)=P.dZ i j:=rfl
    rw[ez]
    have hR:=jf (t:=[MO.list (List.map kX (P.dZ i j))]) hR
    have pH:=pH.trans (List.prefix_append _ [MO.list (List.map kX (P.dZ i j))])
    generalize H++[MO.list (List.map kX (P.dZ i j))]=H1 at hR pH ⊢
    have fl:∀ n,(List.range (n+1)).flatMap (fun j=>P.df i j)=(List.range n).flatMap (fun j=>P.df i j)++P.df i n:=fun n=>by rw[List.range_succ,List.flatMap_append];simp
    have len:(P.due3 i++(List.range j).flatMap fun j=>P.df i j).length<SZ:=by
     have a1:=P2.due3_len K (n:=i) (by exact jq ju jc jA jg jA qt hi)
     have a2:=P2.df_lenR (P:=P) i j
     rw[List.length_append];exact YG ka (qA (qA jc ja) jj) jd (qN 16777216) jd je (qN 9) yF wG jc (qN 1000) ja jl qt (qi hz) l9 hj a1 a2
    refine wi (g:=[]) rfl trivial (fun hc=>?_) fun hc=>jG (kz kN () (by exact rfl) ⟨pH,hr,?_⟩)
    ·have hc:0<i+j:=by have:=of_decide_eq_true hc;exact oq189 this
     have hR:=jf (t:=[MO.list [.tup [.str [],.str (P.dZ i j)],.tup [.str (P.dZ i j),.str []]]]) hR
     have pH:=pH.trans (List.prefix_append _ [MO.list [.tup [.str [],.str (P.dZ i j)],.tup [.str (P.dZ i j),.str []]]])
     have hB:=ji H1 (.list [.tup [.str [],.str (P.dZ i j)],.tup [.str (P.dZ i j),.str []]])
     have hdf:P.df i j=[((2 * P.N+i,2 * P.N+j),if j<i then (P.dZ i j,[]) else ([],P.dZ i j))]:=if_pos hc
     have hv:([.tup [.str [],.str (P.dZ i j)],.tup [.str (P.dZ i j),.str []]]:List V)[if j<i then 1 else 0]?=some (.tup [.str (if j<i then (P.dZ i j,[]) else ([],P.dZ i j)).1,.str (if j<i then (P.dZ i j,[]) else ([],P.dZ i j)).2]):=by split <;> rfl
     refine jL mC (A_subG mC (Jg (g:=[]) rfl trivial (jB (g:=[]) rfl trivial ?_)))
     generalize H1.length=b at hB ⊢
     generalize H1++[MO.list [.tup [.str [],.str (P.dZ i j)],.tup [.str (P.dZ i j),.str []]]]=H2 at hB hR pH ⊢
     rw[show(V.int (if decide ((j:Int)<i) then 1 else 0))=.int ((if j<i then 1 else 0:Nat):Int) from by
       by_cases h:j<i
       ·rw[if_pos h,if_pos (by simpa using h)];rfl
       ·rw[if_neg h,if_neg (by simpa using h)];rfl]
     refine jZ hB (by split <;> decide) hv _ ?_
     generalize (if j<i then (P.dZ i j,[]) else ([],P.dZ i j):List Nat×List Nat)=pr at hdf
     refine A_appX mC rfl ⟨_,hR⟩ (kK mC (jB (g:=[]) rfl ⟨.inl (by decide),.inl (by decide),trivial⟩ (jB (g:=[]) rfl trivial ⟨by simp,by simp,by simp;exact jq jO qk4 jc (qN 16777216) jc qt (qi hz),_,hR,by rw[List.length_map];exact len,jG (kz kN () (by exact rfl) ⟨wz pH hr _,hr,?_⟩)⟩)))
     rw[List.getElem?_set_self (wK hR),fl,hdf,←List.append_assoc,List.map_append (l₁:=P.due3 i++_)]
     rfl
    ·have hc:¬ 0<i+j:=fun e=>by have:=of_decide_eq_false hc;exact False.elim (oq190 e this)
     rw[fl,show P.df i j=[] from if_neg hc,List.append_nil]
     exact hR
   ·intro _ H zf75
    refine kH zf75 fun pH hr hR=>?_
    rw[List.length_map,List.length_range] at hR
    exact kz kN () (by exact rfl) ⟨pH,hr,by rw[P2.due3_succ];exact hR⟩
  ·intro _ H zg76
   refine kH zg76 fun pH hr hR=>?_
   rw[List.length_map,List.length_range] at hR
   exact kA (g:=[]) rfl trivial fun ρ=>q H r pH hR
end
section
variable {C:kO}{L:Env}{h:H}{Q:V→H→Prop}
theorem ZJ (hC:jY C){op:Cmp}{a b:E}(x:AE C L h a fun v h1=>AE C L h1 b fun w h2=>CmpW op v w h2 fun r=>Q (.bool r) h2):AE C L h (.cmp op a b) Q:=fun ρ ag=>by
 rw[e_cmp];exact jh hC a (fun v h1 y=>y ρ ag) (x ρ ag)
theorem UT {es:List E}(x:AEs C L h es fun vs h1=>Q (.ref h1.length) (h1++[.list vs])):AE C L h (.list es) Q:=fun ρ ag=>by rw[zN];exact x ρ ag
theorem A_stoL (hC:jY C){r:List S}{R:Out→jz→H→Prop}{o i n:Nat}{k:Nat}{e:E}(ho:lk L o=some (.ref n))(hi:lk L i=some (.int k))(hk:k<1000)(y:AE C L h e fun v h1=>∃ vs,h1[n]?=some (.list vs)∧k<vs.length∧AB C L (h1.set n (.list (vs.set k v))) r R):AB C L h (.store (.var o) (.var i) e::r) R:=fun ρ ag=>by
 refine Wo (jh hC e (fun v h1 z=>?_) (y ρ ag))
 refine kL z fun vs hn hl q=>?_
 rw[wh,ag o _ ho,jR,wh,ag i _ hi,jR,x_sto,hn]
 exact⟨Int.natCast_nonneg _,by show(k:Int)<4611686018427387904;exact oq107 hk,by simpa using hl,by simpa using q ρ ag⟩
theorem A_compG (hC:jY C){e:E}{g g':List V}{v:V}{c:List Prop}{α:Type}{l:List α}{f:α→V}{w:α→V}{elt:E}{tgt:Tgt}{it:Nat→It}{K:H→Prop}(go:yq it (l.map f) K)(he:ev L h e g=some (v,c,g'))(hc:km c)(hv:∀ Q:It→Prop,Q (it 0)→IterW v h Q)(hK:K h)(hl:l.length≤SZ)
  (step:∀ a∈l,JM tgt (f a) L fun L'=>AE C L' h elt fun x h₁=>x=w a∧h₁=h) (q:Q (.ref h.length) (h++[.list (l.map w)])):AE C L h (.comp elt tgt e none) Q:=fun ρ ag=>by
 refine yZ hC (g:=fun a=>some (w a)) go (jB (C:=C) (Q:=fun u h₁=>(∀ Q:It→Prop,Q (it 0)→IterW u h Q)∧h₁=h) he hc ⟨hv,rfl⟩ ρ ag) hK hl (fun a ha=>?_) (by rw[List.filterMap_eq_map'];exact q)
 refine yR ag (step a ha) fun L' ρ' a' z=>⟨rfl,rfl,fun u hu=>?_⟩
 cases hu
 exact z ρ' a'
end
theorem cm_q4 {h:H}{n m:Nat}{l:List Q4}(h1:h[n]?=some (.list (l.map q4V)))(h2:h[m]?=some (.list (l.map q4V))):CmW h .eq (.ref n) (.ref m) true:=fun P x=>by
 have ok:D.ok 9 (.list (l.map qd4))=true:=by
  show(l.map qd4).all (D.ok 8)=true
  rw[List.all_eq_true];intro d hd;refine jo (List.mem_map.mp hd) fun y J zs34=>?_;subst zs34;rfl
 rw[x_eq]
 refine x_eqd (.list h1 (zp (snap4 h) l)) (.list h2 (zp (snap4 h) l)) ok ok ?_
 rw[decide_eq_true rfl];exact x
namespace P2
noncomputable def pl (P:P2):List (Bool×Nat):=(List.range P.N).map (fun i=>(false,i))++(List.range (P.N+P.L)).map fun i=>(true,i)
theorem pl_in {P:P2}{x:Bool×Nat}(h:x∈P.pl):x.2<P.ln x.1:=by
 unfold pl at h
 rcases List.mem_append.mp h with h | h
 ·obtain⟨i,hi,rfl⟩:=List.mem_map.mp h;exact List.mem_range.mp hi
 ·obtain⟨i,hi,rfl⟩:=List.mem_map.mp h;exact List.mem_range.mp hi
theorem pl_mv (P:P2):P.moves=P.pl.map fun x=>P.mv x.1 x.2:=by unfold moves pl;rw[List.map_append,List.map_map,List.map_map];rfl
theorem pl_len (P:P2):P.pl.length=2 * P.N+P.L:=by unfold pl;simp;exact qa (kg ju (qA jc (qA jc ja)) (qA (qM 2 jc) ja) qt ) (kg ju (qA (qM 2 jc) ja) (qA jc (qA jc ja)) qt )
end P2
noncomputable def lwL (sc sn N L tn wn on:Nat)(sp:Bool):Env:=[(0,.ref sc),(1,.ref sn),(2,.int N),(3,.int L),(4,.ref tn),(5,.ref wn),(6,.ref on),(7,.bool sp)]
structure Fns12 (Φ:Nat→Option Fn):Prop extends FnsP Φ where
 h23:Φ 23=some Ji
 h1023:Φ 1023=some wf
 h25:Φ 25=some wN
 h26:Φ 26=some L12.fn__law_signs
 h29:Φ 29=some L12.fn__law_text
 h38:Φ 38=some L11.fn__law_is_refused
 h41:Φ 41=some L12.fn__law_turned
 h42:Φ 42=some L12.fn__law_road
 h54:Φ 54=some L12.fn__law_due
section
variable {Φ:Nat→Option Fn}{d:Nat}{h:H}{Q:V→H→Prop}
theorem Yz {P:P2}{tn mn en:Nat}{R:Out→jz→H→Prop}{w:V}(K:P.ok)(F:Fns12 Φ)(hM:IsMa h (.tup [.int P.ma.n,.int P.ma.b,.ref en,.ref mn]) P.ma)(hmv:h[mn]?=some (.list (P.moves.map Mv.v)))(ht:h[tn]?=some (.list (P.t.map kX)))(hne:P.w≠P.o)(two:Two P.ma (P.ma.b,P.ma.b) h w)(q:∀ ρ h',R (.ret (.bool true)) ρ h') :
  AB (Calls Φ (d+5)) [(2,.int P.N),(4,.ref tn),(9,.ref mn),(13,.tup [.int P.ma.n,.int P.ma.b,.ref en,.ref mn]),(14,w)] h [
  .assign (.name 15) (.list [(.bi .list [(.bi .range [(.var 2)])]),(.bi .list [(.bi .range [(.var 2),(.bi .len [(.var 9)])])])]),
  .ite (.or (.not (.isinst (.var 14) .tuple)) (.or (.cmp .ne (.bi .len [(.var 14)]) (.lit (.int 3))) (.cmp .ne (.sub (.var 14) (.lit (.int 0))) (.meth .join (.lit (.str [])) [(.var 4)])))) [
   .ret (some (.lit (.bool false)))] [],
  .ret (some (.and (.cmp .isIn (.list [(.sub (.var 14) (.lit (.int 1))),(.sub (.var 14) (.lit (.int 2)))]) (.list [(.var 15),(.list [(.sub (.var 15) (.lit (.int 1))),(.sub (.var 15) (.lit (.int 0)))])])) (.call 38 [(.var 13)])))] R:=by
 have mC:=jy (Φ:=Φ) (d+5)
 have hz:=kp
 have n1:=K.n1
 have n2:=K.n2
 have l9:=K.l9
 have htl:=K.ht
 refine Z42 (P2.two_ways K two) fun r r' u w' hsr zt35 zu36=>?_;subst zt35;refine jP zu36 fun hu hw'=>?_
 have ml:P.moves.length=2 * P.N+P.L:=by rw[P.pl_mv,List.length_map,P.pl_len]
 have w0:(P.wy false (P.ln false)).map jK=(List.range P.N).map jK:=by
  unfold P2.wy
  rw[List.map_map]
  show(List.range P.N).map _=_
  refine List.map_congr_left fun i J=>?_
  show V.int ((0+i:Nat):Int)=V.int i
  rw[Nat.zero_add]
 have w1:(P.wy true (P.ln true)).map jK=(List.range (P.N+P.L)).map fun k:Nat=>V.int ((P.N:Int)+k):=by
  unfold P2.wy
  rw[List.map_map];rfl
 refine jL mC (UT (jN mC (A_bi1 mC (jB (g:=[]) rfl ⟨kh (n:=P.N) (by exact jq jO jg (qN 2147483648) jc (qN 40) qt n2),trivial⟩ ?_))))
 rw[x_lr]
 have n40:P.N+P.L≤49:=Nat.add_le_add n2 l9
 refine⟨by rw[rlen (n:=P.N) (Int.zero_add _).symm];exact Nat.le_trans n2 (by decide),jN mC (A_bi1 mC (UQ (g:=[.int ((2 * P.N+P.L:Nat):Int)]) rfl ⟨?_,trivial⟩ ⟨kh (Nat.lt_of_le_of_lt n2 (by decide)),kh (Nat.lt_of_le_of_lt (Nat.add_le_add (Nat.mul_le_mul_left 2 n2) l9) (by decide)),?_⟩))⟩
 ·have:=Kt (f:=Mv.v) (jf (t:=[MO.list (kF 0 P.N 1)]) hmv)
  rw[ml] at this;exact this
 show BiW .list [.rng _ _ 1] _ _
 rw[x_lr]
 have eNL:((2 * P.N+P.L:Nat):Int)=P.N+((P.N+P.L:Nat):Int):=congrArg Int.ofNat ((congrArg (·+P.L) (Nat.two_mul P.N)).trans (Nat.add_assoc ..))
 refine⟨by rw[rlen eNL];exact Nat.le_trans n40 (by decide),yH ?_⟩
 rw[Uk,KA P.N _ (P.N+P.L) eNL,←w0,←w1]
 have g0:(h++[MO.list ((P.wy false (P.ln false)).map jK)]++[MO.list ((P.wy true (P.ln true)).map jK)])[h.length]?=some (.list ((P.wy false (P.ln false)).map jK)):=jf (ji _ _)
 have g1:=ji (h++[MO.list ((P.wy false (P.ln false)).map jK)]) (.list ((P.wy true (P.ln true)).map jK))
 have pH:h <+: h++[MO.list ((P.wy false (P.ln false)).map jK)]++[MO.list ((P.wy true (P.ln true)).map jK)]:=by rw[List.append_assoc];exact List.prefix_append _ _
 generalize (h++[MO.list ((P.wy false (P.ln false)).map jK)]).length=b1 at g1 ⊢
 generalize h.length=b0 at g0 ⊢
 generalize h++[MO.list ((P.wy false (P.ln false)).map jK)]++[MO.list ((P.wy true (P.ln true)).map jK)]=H1 at g0 g1 pH ⊢
 have g15:=ji H1 (.list [.ref b0,.ref b1])
 have g0:=jf (t:=[MO.list [.ref b0,.ref b1]]) g0
 have g1:=jf (t:=[MO.list [.ref b0,.ref b1]]) g1
 have pH:=pH.trans (List.prefix_append _ [MO.list [.ref b0,.ref b1]])
 generalize H1.length=b15 at g15 ⊢
 generalize H1++[MO.list [.ref b0,.ref b1]]=H2 at g0 g1 g15 pH ⊢
 refine A_skip mC fun ρ ag=>?_
 rw[t_or,t_not,t_isinst,wh,ag 14 _ rfl,jR,x_itt]
 show wpT _ _ _ _ _
 rw[t_or,t_cmp,e_bi,jJ,wh,ag 14 _ rfl,jR,kx,x_lent,Ut,x_nei]
 show wpT _ _ _ _ _
 rw[t_cmp,e_sub,wh,ag 14 _ rfl,jR,Ut]
 refine⟨.str P.t,⟨by decide,by decide⟩,rfl,?_⟩
 have fl:∀ l:List Nat,l.flatMap (fun c=>[c])=l:=fun l=>by rw[List.flatMap_singleton']
 have s1:∀ l:List Nat,((l.map fun c:Nat=>[c]).map List.length).sum=l.length:=fun l=>by
  induction l with
  | nil=>rfl
  | cons x l ih=>simp only[List.map_cons,List.sum_cons,ih,List.length_cons,List.length_nil];exact qa (kg jO (qA (qA jw jj) jc) jg qt ) (kg jO jg (qA (qA jw jj) jc) qt )
 refine(show AE _ _ _ _ _ from ?_) ρ ag
 refine Kx mC (fun c:Nat=>[c]) (jB (g:=[]) rfl trivial ⟨_,P.t,rfl,js pH ht,by rw[s1];exact jV jE jc ja (qN 16777216) ja jc jd (qA jd je) (qN 49) qt (qi hz) (qe htl) n40,?_⟩)
 rw[fl,x_nes,decide_eq_true rfl]
 refine⟨rfl,?_⟩
 refine yp mC fun ρ ag=>?_
 rw[e_and]
 refine(show AE _ _ _ _ _ from ?_) ρ ag
 refine ZJ mC (Jg (g:=[]) rfl trivial (UT (jN mC (jB (g:=[]) rfl trivial (jN mC (Jg (g:=[.ref b1,.ref b0]) rfl ⟨jZ (jf g15) (by decide) rfl,jZ (jf g15) (by decide) rfl,trivial⟩ (yH ?_)))))))
 have sn:∀ {H':Tw.H} {n:Nat} {l:List Nat},H'[n]?=some (.list (l.map jK))→Snap H' (.ref n) (.list (l.map Jf)):=fun g=>.list g (snaps_nat _ _)
 have okn:∀ (k:Nat) (l:List Nat),D.ok (k+2) (.list (l.map Jf))=true:=fun k l=>by
  show(l.map Jf).all (D.ok (k+1))=true
  rw[List.all_eq_true];intro d hd;refine jo (List.mem_map.mp hd) fun y J zv37=>?_;subst zv37;rfl
 have ok2:∀ (l l':List Nat),D.ok 9 (.list [.list (l.map Jf),.list (l'.map Jf)])=true:=fun l l'=>by
  show(D.ok 8 (.list (l.map Jf)) && (D.ok 8 (.list (l'.map Jf)) && true))=true
  rw[okn,okn];rfl
 have gu:=jf (t:=[MO.list [.ref u,.ref w']]) (js pH hu)
 have gw:=jf (t:=[MO.list [.ref u,.ref w']]) (js pH hw')
 have ga:=ji H2 (.list [.ref u,.ref w'])
 have g0:=jf (t:=[MO.list [.ref u,.ref w']]) g0
 have g1:=jf (t:=[MO.list [.ref u,.ref w']]) g1
 have g15:=jf (t:=[MO.list [.ref u,.ref w']]) g15
 have pH:=pH.trans (List.prefix_append _ [MO.list [.ref u,.ref w']])
 generalize H2.length=a at ga ⊢
 generalize H2++[MO.list [.ref u,.ref w']]=H3 at gu gw ga g0 g1 g15 pH ⊢
 have gc:=ji H3 (.list [.ref b1,.ref b0])
 have gu:=jf (t:=[MO.list [.ref b1,.ref b0]]) gu
 have gw:=jf (t:=[MO.list [.ref b1,.ref b0]]) gw
 have ga:=jf (t:=[MO.list [.ref b1,.ref b0]]) ga
 have g0:=jf (t:=[MO.list [.ref b1,.ref b0]]) g0
 have g1:=jf (t:=[MO.list [.ref b1,.ref b0]]) g1
 have g15:=jf (t:=[MO.list [.ref b1,.ref b0]]) g15
 have pH:=pH.trans (List.prefix_append _ [MO.list [.ref b1,.ref b0]])
 generalize H3.length=c at gc ⊢
 generalize H3++[MO.list [.ref b1,.ref b0]]=H4 at gu gw ga g0 g1 g15 gc pH ⊢
 rw[x_inl (ji _ _)]
 refine⟨.list [.list ((P.wy r (P.ln r)).map Jf),.list ((P.wy r' (P.ln r')).map Jf)],[.list [.list ((P.wy false (P.ln false)).map Jf),.list ((P.wy true (P.ln true)).map Jf)],.list [.list ((P.wy true (P.ln true)).map Jf),.list ((P.wy false (P.ln false)).map Jf)]],.list (jf ga) (.cons (sn (jf gu)) (.cons (sn (jf gw)) .nil)),.cons (.list (jf g15) (.cons (sn (jf g0)) (.cons (sn (jf g1)) .nil))) (.cons (.list (jf gc) (.cons (sn (jf g1)) (.cons (sn (jf g0)) .nil))) .nil),ok2 _ _,?_,?_⟩
 ·intro d hd
  rcases List.mem_cons.mp hd with rfl | hd
  ·exact ok2 _ _
  ·rw[List.mem_singleton.mp hd];exact ok2 _ _
 rw[decide_eq_true (by cases r <;> cases r' <;> simp at hsr ⊢),x_tb]
 show jW _ _ _ _ _
 rw[WA,jJ,wh,ag 13 _ rfl,jR,kx]
 exact Wg F.toFnsP F.h1023 F.h38 (hM.pre (pH.trans (List.prefix_append _ _))) (P2.ma_ok K) (P2.few K) (P2.bound K) (fun h' G p gn=>(P2.spoilt K hne gn).elim) fun h' w p t ρ=>q ρ _
theorem due12_end {P:P2}{wn mn en:Nat}{R:Out→jz→H→Prop}{G0:List GE}(K:P.ok)(F:Fns12 Φ)(hM:IsMa h (.tup [.int P.ma.n,.int P.ma.b,.ref en,.ref mn]) P.ma)(hw:h[wn]?=some (.list (P.w.map kX)))(he:P.w=P.o)(gn0:Gone P.ma (P.ma.b,P.ma.b) G0)(q:∀ ρ h',R (.ret (.bool true)) ρ h') :
  AB (Calls Φ (d+5)) [(3,.int P.L),(5,.ref wn),(10,.bool P.dn),(11,.int (1+2 * P.N+P.L)),(13,.tup [.int P.ma.n,.int P.ma.b,.ref en,.ref mn]),(14,.none)] h [
 .assign (.name 16) (.call 54 [(.var 5),(.var 3)]),
 .assign (.name 16) (.comp (.tup [(.call 41 [(.var 11),(.var 33),(.var 10)]),(.call 41 [(.var 11),(.var 34),(.var 10)]),(.var 35),(.var 36)]) (.tup [33,34,35,36]) (.var 16) none),
 .ret (some (.and (.cmp .is (.var 14) (.lit .none)) (.cmp .eq (.call 23 [(.var 13)]) (.bi .sorted [(.var 16)]))))] R:=by
 have mC:=jy (Φ:=Φ) (d+5)
 have hz:=kp
 refine UL mC (g:=[]) rfl trivial (due12_ok K F.h54 hw fun H1 k1 p1 g1=>?_)
 have dl:P.due.length≤1000:=P2.due3_len K (Nat.le_refl _)
 refine jL mC (A_compG mC (jU k1 _) (l:=P.due) (f:=q4V) (w:=fun x=>Zf (P.tq x)) (g:=[]) rfl trivial (kj g1) g1 (by exact jt ju jc ja (qN 16777216) ja jc (qN 1000) qt (qi hz) dl) (fun x hx=>⟨rfl,?_⟩) ?_)
 ·refine WD (P2.due_sy K hx) fun r n r' m zw38 zx39=>?_;obtain⟨s1,s2,_⟩:=zw38;subst zx39
  exact Zi (jN mC (jC (g:=[]) rfl trivial (kD F.h41 (P2.st_le s1) (jN mC (jC (g:=[]) rfl trivial (kD F.h41 (P2.st_le s2) (jN mC (jB (g:=[]) rfl trivial (jN mC (jB (g:=[]) rfl trivial (yH ⟨rfl,rfl⟩)))))))))))
 have g2:=ji H1 (.list (P.due.map fun x=>Zf (P.tq x)))
 have p2:=p1.trans (List.prefix_append _ [.list (P.due.map fun x=>Zf (P.tq x))])
 generalize H1.length=k2 at g2 ⊢
 generalize H1++[MO.list (P.due.map fun x=>Zf (P.tq x))]=H2 at g2 p2 ⊢
 refine yp mC fun ρ ag=>?_
 rw[e_and,e_cmp,wh,ag 14 _ rfl,jR,Ut,x_isn,decide_eq_true rfl,x_tb]
 show jW _ _ _ _ _
 rw[e_cmp,WA,jJ,wh,ag 13 _ rfl,jR,kx]
 refine ahead_ok F.toFnsP F.h23 (hM.pre p2) (P2.ma_ok K) (P2.few K) (P2.bound K) gn0 fun H5 rr G ks p5 gn hpm hs hrr=>?_
 rw[e_bi,jJ,wh,ag 16 _ rfl,jR,kx]
 have e1:(P.due.map fun x=>Zf (P.tq x))=(P.due.map P.tq).map Zf:=by rw[List.map_map];rfl
 rw[e1] at g2
 refine⟨_,.inr (js p5 g2),.inr (.inr (.inl ⟨P.due.map P.tq,rfl,P2.due_nd2 K,fun ks2 hp2 hs2=>?_⟩))⟩
 have er:=P2.rows_eq K he gn hpm hs hp2 hs2
 rw[←er]
 have e2:ks.map (Zt G)=(ks.map fun x=>((x,zZ G x):Q4)).map q4V:=by rw[List.map_map];rfl
 rw[e2] at hrr ⊢
 exact cm_q4 (jf hrr) (ji _ _) _ fun ρ=>q ρ _
theorem tail12 {P:P2}{xs:List Int}{sc sn tn wn on:Nat}{sp:Bool}{R:Out→jz→H→Prop}(K:P.ok)(F:Fns12 Φ)(hx:h[sc]?=some (.frz (xs.map V.int)))(hdn:P.dn=decide (((xs.getD 1 0).fdiv 40).fmod 2=1))(h0:sp=false→P.w=P.o)(h1:sp=true→P.w≠P.o)(ht:h[tn]?=some (.list (P.t.map kX)))(hw:h[wn]?=some (.list (P.w.map kX)))(ho:h[on]?=some (.list (P.o.map kX)))(q:∀ ρ h',R (.ret (.bool true)) ρ h') :
  AB (Calls Φ (d+5)) (lwL sc sn P.N P.L tn wn on sp) h (L12.fn_law.body.drop 9) R:=by
 have mC:=jy (Φ:=Φ) (d+5)
 have hz:=kp
 have n1:=K.n1
 have n2:=K.n2
 have l9:=K.l9
 simp only[L12.fn_law,List.drop_succ_cons,List.drop_zero]
 refine jL mC (kK mC (jC (g:=[]) rfl trivial (Ub (P:=P) (r:=false) K F.h42 ht hw fun H1 k1 p1 g1=>jC (g:=[]) rfl trivial (Ub (P:=P) (r:=true) K F.h42 (js p1 ht) (js p1 ho) fun H2 k2 p2 g2=>?_))))
 rw[JB (js p2 g1) g2]
 refine⟨by have:=P2.ln_le P false;have:=P2.ln_le P true;rw[List.length_map,List.length_map,List.length_range,List.length_range];exact YG ka (qA jc ja) jd (qN 16777216) jd (qM 2 je) (qM 2 (qN 40)) (qM 2 jl) (qM 2 (qN 9)) jc (qA je jl) ja (qA je jl) qt (qi hz) (qr 2 n2) (qr 2 l9) (by assumption) this,?_⟩
 have e1:(List.range (P.ln false)).map (fun i=>(P.mv0 false i).v)++(List.range (P.ln true)).map (fun i=>(P.mv0 true i).v)=P.pl.map fun x=>(P.mv0 x.1 x.2).v:=by unfold P2.pl;rw[List.map_append,List.map_map,List.map_map];rfl
 rw[e1]
 have p3:=(p1.trans p2).trans (List.prefix_append H2 [.list (P.pl.map fun x=>(P.mv0 x.1 x.2).v)])
 have g3:=ji H2 (.list (P.pl.map fun x=>(P.mv0 x.1 x.2).v))
 generalize H2.length=k3 at g3 ⊢
 generalize H2++[MO.list (P.pl.map fun x=>(P.mv0 x.1 x.2).v)]=H3 at g3 p3 ⊢
 clear g1 g2 p1 p2 e1
 refine jL mC (ZJ mC (kK mC (kK mC (jC (g:=[]) rfl trivial (yg (k:=1) F.h25 (js p3 hx) (by decide) (jB (g:=[]) rfl trivial ?_))))))
 rw[x_fdiv]
 refine⟨by decide,by decide,jB (g:=[]) rfl trivial ?_⟩
 rw[Ug]
 refine⟨by decide,jB (g:=[]) rfl trivial ?_⟩
 rw[jae,←hdn]
 refine kY (g:=[]) rfl ⟨.inl (by decide),trivial⟩ ?_
 refine jL mC (A_compG mC (jU k3 _) (l:=P.pl) (f:=fun x=>(P.mv0 x.1 x.2).v) (w:=fun x=>(P.mv x.1 x.2).v) (g:=[]) rfl trivial (kj g3) g3 (by rw[P.pl_len];exact jV jr (qA (qM 2 jc) ja) jd (qN 16777216) jd (qM 2 jc) (qM 2 (qN 40)) ja (qN 9) qt (qi hz) (qr 2 n2) l9) (fun x hx=>⟨rfl,?_⟩) ?_)
 ·have:=P2.pl_in hx
  exact Zi (jN mC (jC (g:=[]) rfl trivial (kD F.h41 (P2.st_le (Nat.le_of_lt this)) (jN mC (jB (g:=[]) rfl trivial (jN mC (jB (g:=[]) rfl trivial (jN mC (jC (g:=[]) rfl trivial (kD F.h41 (P2.st_le this) (yH ⟨rfl,rfl⟩)))))))))))
 have e2:(P.pl.map fun x=>(P.mv x.1 x.2).v)=P.moves.map Mv.v:=by rw[P.pl_mv,List.map_map];rfl
 rw[e2]
 have p4:=p3.trans (List.prefix_append H3 [.list (P.moves.map Mv.v)])
 have g4:=ji H3 (.list (P.moves.map Mv.v))
 generalize H3.length=mn at g4 ⊢
 generalize H3++[MO.list (P.moves.map Mv.v)]=H4 at g4 p4 ⊢
 refine jL mC (UT (jN mC (jC (g:=[]) rfl trivial (kD (s:=P.N) F.h41 (by exact kg ju jc (qA (qM 2 jc) ja) qt ) (jN mC (jC (g:=[]) rfl ⟨.inl (by decide),trivial⟩ (kD (s:=2 * P.N+P.L) F.h41 (Nat.le_refl _) (yH ?_))))))))
 have p5:=p4.trans (List.prefix_append H4 [.list (P.ma.ends.map jK)])
 have g5:=ji H4 (.list (P.ma.ends.map jK))
 have g4':=jf (t:=[MO.list (P.ma.ends.map jK)]) g4
 show AB _ ((12,.ref H4.length)::_) (H4++[MO.list (P.ma.ends.map jK)]) _ _
 generalize H4.length=en at g5 ⊢
 generalize H4++[MO.list (P.ma.ends.map jK)]=H5 at g4' g5 p5 ⊢
 refine jL mC (Zi (jN mC (jB (g:=[]) rfl trivial (jN mC (jC (g:=[]) rfl trivial (kD (s:=0) F.h41 (Nat.zero_le _) (jN mC (jB (g:=[]) rfl trivial (jN mC (jB (g:=[]) rfl trivial (yH ?_)))))))))))
 have hM:IsMa H5 (.tup [.int P.ma.n,.int P.ma.b,.ref en,.ref mn]) P.ma:=⟨en,mn,rfl,g5,g4'⟩
 show AB _ ((13,.tup [.int P.ma.n,.int P.ma.b,.ref en,.ref mn])::_) _ _ _
 refine UL mC (g:=[]) rfl trivial (Zu F.toFnsP hM (P2.ma_ok K) (P2.few K) (P2.bound K) (fun H6 G p6 gn J=>?_) fun H6 w p6 two=>?_)
 ·cases sp with
  | true=>exact(P2.spoilt K (h1 rfl) gn).elim
  | false =>
   refine wi (g:=[]) rfl trivial (fun e=>nomatch e) fun J=>jG ?_
   exact UB (by exact rfl) (due12_end K F (hM.pre p6) (js (p5.trans p6) hw) (h0 rfl) gn q)
 ·cases sp with
  | false=>exact(P2.unspoilt K (h0 rfl) two).elim
  | true =>
   refine wi (g:=[]) rfl trivial (fun J=>?_) fun e=>nomatch e
   exact UB (by exact rfl) (Yz K F (hM.pre p6) (js p6 g4') (js (p5.trans p6) ht) (h1 rfl) two q)
theorem A_idx {C:kO}{L:Env}{h:H}{Q:V→H→Prop}{i n k:Nat}{e:E}{s:List Nat}{g g':List V}{c:List Prop}{l:List (List Nat)}(hi:lk L i=some (.ref n))(x:ev L h e g=some (.str s,c,g'))(hc:km c)(hn:h[n]?=some (.list (l.map V.str)))(hk:l[k]?=some s)(h3:∀ j,j<k→l[j]?≠some s)(q:Q (.int k) h):AE C L h (.meth .index (.var i) [e]) Q:=fun ρ ag=>by
 rw[zH,wh,ag i _ hi,jR,jJ]
 exact⟨x_ri hn,jB (C:=C) (Q:=fun v h1=>wpEs C [] ρ h1 fun vs h2=>MethW .index (.ref n) (v::vs) h2 Q) x hc (x_idx hn hk h3 q) ρ ag⟩
theorem pick3 {a b e c:Nat}(nd:[a,b,e].Nodup)(hc:c∈[a,b,e]):∃ k x:Nat,k<3∧[a,b,e][k]?=some c∧(∀ j,j<k→[a,b,e][j]?≠some c)∧[a,b,e][(k+1) % 3]?=some x∧x≠c:=by
 have nd:(a≠b∧a≠e)∧b≠e:=by simpa using nd
 have hc:c=a∨c=b∨c=e:=by simpa using hc
 rcases hc with rfl | rfl | rfl
 ·exact⟨0,b,by decide,rfl,fun j hj=>absurd hj (Nat.not_lt_zero _),rfl,nd.1.1.symm⟩
 ·refine⟨1,e,by decide,rfl,fun j hj=>?_,rfl,nd.2.symm⟩
  rw[show j=0 from by exact qa (jq jO jc jw jg jj qt hj) (kg jO jw jc qt )]
  intro h
  exact nd.1.1 (by simpa using h)
 ·refine⟨2,a,by decide,rfl,fun j hj=>?_,rfl,nd.1.2⟩
  have:j=0∨j=1:=by exact oq191 hj
  rcases this with rfl | rfl
  ·intro h;exact nd.1.2 (by simpa using h)
  ·intro h;exact nd.2 (by simpa using h)
theorem law12 {xs:List Int}{sc:Nat}(F:Fns12 Φ)(h24:Φ 24=some L12.fn_law)(hx:h[sc]?=some (.frz (xs.map V.int)))(q:∀ h',Q (.bool true) h'):Calls Φ (d+6) 24 [.ref sc] h Q:=by
 have mC:=jy (Φ:=Φ) (d+5)
 have hz:=kp
 refine⟨L12.fn_law,h24,rfl,wS (jL mC (Wq (jN mC (jC (g:=[]) rfl trivial (yg (k:=0) F.h25 hx (by decide) (yH (Zd F.h26 fun a b e nd=>?_)))))))⟩
 have hx1:=jf (t:=[MO.list ([a,b,e].map kX)]) hx
 have gs:=ji h (.list ([a,b,e].map kX))
 generalize h.length=sn at gs ⊢
 generalize h++[MO.list ([a,b,e].map kX)]=H1 at hx1 gs ⊢
 refine jo (kQ (xs.getD 1 0) (b:=40) (by decide)) fun k1 e1 l1=>?_
 refine jL mC (kK mC (jB (g:=[]) rfl trivial (kK mC (jC (g:=[]) rfl trivial (yg (k:=1) F.h25 hx1 (by decide) (jB (g:=[]) rfl trivial ?_))))))
 rw[Ug,e1]
 refine⟨by decide,?_⟩
 show AB _ ((2,.int (1+(k1:Int)))::_) _ _ _
 rw[show(1:Int)+k1=((k1+1:Nat):Int) from by exact oq177]
 have n1:1≤k1+1:=Nat.le_add_left ..
 have n2:k1+1≤40:=by exact oq192 l1
 generalize k1+1=N at n1 n2 ⊢
 have tl:∀ {R:Out→jz→H→Prop} (L:Nat),L≤N→L≤9→(∀ ρ h',R (.ret (.bool true)) ρ h')→AB (Calls Φ (d+5)) [(0,.ref sc),(1,.ref sn),(2,.int N),(3,.int L)] H1 (L12.fn_law.body.drop 4) R:=by
  intro R L hL h9 q
  simp only[L12.fn_law,List.drop_succ_cons,List.drop_zero]
  refine jL mC (Wq (jN mC (jC (g:=[]) rfl trivial (yg (k:=3) F.h25 hx1 (by decide) (jN mC (jB (g:=[]) rfl trivial (jN mC (jB (g:=[]) rfl trivial (yH (Ud F.h29 gs rfl (by exact jq jO jc (qN 1000) jc (qN 40) qt n2) fun t tl ts=>?_))))))))))
  have hx2:=jf (t:=[MO.list (t.map kX)]) hx1
  have gs2:=jf (t:=[MO.list (t.map kX)]) gs
  have gt2:=ji H1 (.list (t.map kX))
  generalize H1.length=tn at gt2 ⊢
  generalize H1++[MO.list (t.map kX)]=H2 at hx2 gs2 gt2 ⊢
  refine jL mC (Wq (jN mC (jC (g:=[]) rfl trivial (yg (k:=4) F.h25 hx2 (by decide) (jN mC (jB (g:=[]) rfl trivial (jN mC (jB (g:=[]) rfl trivial (yH (Ud F.h29 gs2 rfl (by exact jq jO jc (qN 1000) jc (qN 40) qt n2) fun w wl ws=>?_))))))))))
  have hx3:=jf (t:=[MO.list (w.map kX)]) hx2
  have gs3:=jf (t:=[MO.list (w.map kX)]) gs2
  have gt3:=jf (t:=[MO.list (w.map kX)]) gt2
  have gw3:=ji H2 (.list (w.map kX))
  generalize H2.length=wn at gw3 ⊢
  generalize H2++[MO.list (w.map kX)]=H3 at hx3 gs3 gt3 gw3 ⊢
  refine jL mC (UQ (g:=[]) rfl trivial ?_)
  rw[x_ll gw3]
  refine⟨by rw[List.length_map];exact jV jr jc ja (qN 16777216) ja jd (qN 40) jc jd qt (qi hz) n2 (qe wl),?_⟩
  have p4:H3 <+: H3++[MO.list (w.map kX)]:=List.prefix_append _ _
  have go4:=ji H3 (.list (w.map kX))
  refine jL mC (ZJ mC (kK mC (jC (g:=[]) rfl trivial (yg (k:=5) F.h25 (js p4 hx3) (by decide) (jB (g:=[]) rfl trivial ?_)))))
  rw[Ug]
  refine⟨by decide,jB (g:=[]) rfl trivial ?_⟩
  rw[jae]
  generalize hsp:decide ((xs.getD 5 0).fmod 3=1)=sp
  cases sp with
  | false =>
   refine wi (g:=[]) rfl trivial (fun e=>nomatch e) fun J=>jG (UB (L:=lwL sc sn N L tn wn H3.length false) (by exact rfl) ?_)
   exact tail12 (P:=⟨N,L,t,w,w,decide (((xs.getD 1 0).fdiv 40).fmod 2=1)⟩) (sn:=sn) ⟨n1,n2,hL,h9,tl,wl,wl⟩ F (js p4 hx3) rfl (fun J=>rfl) (fun e=>nomatch e) (js p4 gt3) (js p4 gw3) go4 q
  | true =>
   refine wi (g:=[]) rfl trivial (fun J=>?_) fun e=>nomatch e
   refine jo (kQ ((xs.getD 5 0).fdiv 3) (b:=N) (by exact oq193 n1)) fun k8 e8 l8=>?_
   refine jL mC (kK mC (kK mC (jC (g:=[]) rfl trivial (yg (k:=5) F.h25 (js p4 hx3) (by decide) (jB (g:=[]) rfl trivial ?_)))))
   rw[x_fdiv]
   refine⟨by decide,by decide,jB (g:=[]) rfl trivial ?_⟩
   rw[Ug,e8]
   refine⟨by exact oq194 n1,?_⟩
   have hk8:k8<w.length:=by exact oq195 wl l8
   refine Z24 (pick3 nd (ws w[k8] (List.getElem_mem hk8))) fun k x hk3 g1 g2 g3 hxc=>?_
   have sgm:∀ l:List Nat,l.map kX=(l.map fun c=>[c]).map V.str:=fun l=>by rw[List.map_map];rfl
   have gi:∀ {j c:Nat},([a,b,e].map fun c=>[c])[j]?=some [c]↔[a,b,e][j]?=some c:=fun {j c}=>by
    rw[List.getElem?_map]
    cases [a,b,e][j]? <;> simp
   refine A_stoL mC (k:=k8) rfl rfl (by exact oq196 n2 l8) (A_subG mC (jB (g:=[]) rfl trivial (kK mC (kK mC (A_idx (k:=k) (g:=[.str [w[k8]]]) (l:=[a,b,e].map fun c=>[c]) rfl rfl ⟨?_,trivial⟩ (by rw[←sgm];exact js p4 gs3) (gi.mpr g1) (fun j hj h=>g2 j hj (gi.mp h)) (jB (g:=[]) rfl trivial (jB (g:=[]) rfl trivial ?_)))))))
   ·exact jZ go4 (Nat.lt_trans hk8 (wl▸Nat.lt_of_le_of_lt n2 (by decide))) (by rw[List.getElem?_map,List.getElem?_eq_getElem hk8];rfl)
   rw[Ug,show((k:Int)+1).fmod 3=(((k+1) % 3:Nat):Int) from rfl]
   refine⟨by decide,jZ (v:=kX x) (js p4 gs3) (Nat.lt_trans (Nat.mod_lt (k+1) (by decide)) (by decide)) (by rw[List.getElem?_map,g3];rfl) _ ⟨_,go4,by rw[List.length_map];exact hk8,?_⟩⟩
   have p5:H3 <+: (H3++[MO.list (w.map kX)]).set H3.length (.list ((w.map kX).set k8 (kX x))):=wz p4 (Nat.le_refl _) _
   have go5:((H3++[MO.list (w.map kX)]).set H3.length (.list ((w.map kX).set k8 (kX x))))[H3.length]?=some (.list ((w.set k8 x).map kX)):=by
    rw[List.getElem?_set_self (wK go4),List.map_set]
   generalize (H3++[MO.list (w.map kX)]).set H3.length (.list ((w.map kX).set k8 (kX x)))=H5 at p5 go5 ⊢
   refine jG (UB (L:=lwL sc sn N L tn wn H3.length true) (by exact rfl) ?_)
   exact tail12 (P:=⟨N,L,t,w,w.set k8 x,decide (((xs.getD 1 0).fdiv 40).fmod 2=1)⟩) (sn:=sn) ⟨n1,n2,hL,h9,tl,wl,by show(w.set k8 x).length=N;rw[List.length_set];exact wl⟩ F (js p5 hx3) rfl (fun e=>nomatch e) (fun J he=>hxc (by
    have he:w=w.set k8 x:=he
    have h5:(w.set k8 x)[k8]?=some x:=List.getElem?_set_self hk8
    rw[←he,List.getElem?_eq_getElem hk8] at h5
    exact(Option.some.inj h5).symm)) (js p5 gt3) (js p5 gw3) go5 q
 refine jo (kQ (xs.getD 2 0) (b:=(N:Int)+1) (by exact oq197)) fun k2 e2 l2=>?_
 refine jL mC (kK mC (jC (g:=[]) rfl trivial (yg (k:=2) F.h25 hx1 (by decide) (jB (g:=[]) rfl trivial ?_))))
 rw[Ug,e2]
 refine⟨by exact oq198,?_⟩
 refine wi (g:=[]) rfl trivial (fun hc=>?_) fun hc=>jG (UB (by exact rfl) (tl k2 (by exact oq199 l2) ?_ fun ρ=>q))
 ·have hc:9<k2:=by have:=of_decide_eq_true hc;exact oq200 this
  refine jo (kQ (k2:Int) (b:=9) (by decide)) fun k3 e3 l3=>?_
  refine kY (g:=[]) rfl ⟨by decide,trivial⟩ ?_
  rw[e3,show(1:Int)+k3=((k3+1:Nat):Int) from by exact oq177]
  exact jG (UB (by exact rfl) (tl (k3+1) (by exact oq201 l2 hc l3) (by exact oq202 l3) fun ρ=>q))
 ·have hc:=of_decide_eq_false hc
  exact oq203 hc
end
end Tw
end
open PySem PySem.W PyProof.Rows
set_option Elab.async false
namespace Tw
noncomputable def Φ12:Nat→Option Fn:=ZM [(0,zf),(1,wX),(2,ya),(12,yv),(13,wF),(14,yP),(15,yc),(16,KH),(17,wr),(18,wo),(19,yt),(20,fn_gone_through),(21,yx),(22,zG),(23,Ji),(24,L12.fn_law),(25,wN),(26,L12.fn__law_signs),(29,L12.fn__law_text),(38,L11.fn__law_is_refused),(41,L12.fn__law_turned),(42,L12.fn__law_road),(54,L12.fn__law_due),(1023,wf)]
noncomputable def view12:PySem.Program:={ PySem.Challenge.pw_uf030022_12 with main:={ PySem.Challenge.pw_uf030022_12.main with body:=(PySem.Challenge.pw_uf030022_12.main.body.drop 1).take 3++(PySem.Challenge.pw_uf030022_12.main.body.drop 5).take 5++(PySem.Challenge.pw_uf030022_12.main.body.drop 11).take 12++(PySem.Challenge.pw_uf030022_12.main.body.drop 24).take 8 } }
end Tw
theorem PySem.Challenge.cw_uf030022_12_holds : PySem.Challenge.rw_uf030022_12.Holds := by
 w_on
 refine holds_law (by decide +kernel) fun said=>?_
 refine holds_open (q:=Tw.view12) (loose:=[]) (Xt:=fun s=>xlAt Tw.view12 [] s && recOk (RowW.records (OpenRow.toRowW _)) s) (XP:=XL Tw.view12 []) (Yf:=Hook.obs Hook.none) (Ya:=Hook.val Hook.none) (YP:=Hook.says Hook.none) (N:=2892) ?hl (Hook.of Hook.none) (Hook.keeps Hook.none) (fun s e=>xl_of s (Bool.and_eq_true_iff.mp e).1) XL.keeps (by rfl) (by rfl) (by rfl) (fun s e=>recFacts_of (Bool.and_eq_true_iff.mp e).2) (by rfl) (by first | assumption | decide +kernel) (by decide +kernel) ⟨rfl,rfl,rfl,rfl,rfl,by decide +kernel⟩ ?hw ?hc
 case hl=>intro w;kernel_rfl
 (case hw=>w_witness2)
 refine(Tw.law_holds (D:=6) (kl:=24) (Φ:=Tw.Φ12) (names:=Tw.fnNames) rfl rfl (by decide) ?_ ?_ ?_ ?_ ?_ (by decide) ?_ rfl ?_ (by decide) fun xs hxs=>Tw.law12 (d:=0) ⟨⟨rfl,rfl,rfl,rfl,rfl,rfl,rfl,rfl,rfl,rfl,rfl,rfl,rfl,rfl⟩,rfl,rfl,rfl,rfl,rfl,rfl,rfl,rfl,rfl⟩ rfl rfl fun J=>rfl)
 ·kernel_rfl
 ·kernel_rfl
 ·kernel_rfl
 ·kernel_rfl
 ·kernel_rfl
 ·exact Tw.tab_all (Tw.all_cons (by kernel_rfl) (Tw.all_cons (by kernel_rfl) (Tw.all_cons (by kernel_rfl) (Tw.all_cons (by kernel_rfl) (Tw.all_cons (by kernel_rfl) (Tw.all_cons (by kernel_rfl) (Tw.all_cons (by kernel_rfl) (Tw.all_cons (by kernel_rfl) (Tw.all_cons (by kernel_rfl) (Tw.all_cons (by kernel_rfl) (Tw.all_cons (by kernel_rfl) (Tw.all_cons (by kernel_rfl) (Tw.all_cons (by kernel_rfl) (Tw.all_cons (by kernel_rfl) (Tw.all_cons (by kernel_rfl) (Tw.all_cons (by kernel_rfl) (Tw.all_cons (by kernel_rfl) (Tw.all_cons (by kernel_rfl) (Tw.all_cons (by kernel_rfl) (Tw.all_cons (by kernel_rfl) (Tw.all_cons (by kernel_rfl) (Tw.all_cons (by kernel_rfl) (Tw.all_cons (by kernel_rfl) (Tw.all_cons (by kernel_rfl) (Tw.all_nil)))))))))))))))))))))))))
 ·kernel_rfl
