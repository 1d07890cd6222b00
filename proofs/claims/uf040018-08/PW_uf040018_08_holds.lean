import PyProof.Rows.All
import PyProof.Rows.Frame
import PyProof.RaisesMany
import PyProof.Rows.Tup
import PyProof.Claim2
import PyProof.Dict
import PyProof.RangeIter
import PyProof.Cells
import PyProof.PureInt
import PyProof.Rules3
import PyProof.Rules2
import PyProof.Rows.IntRules
import PyProof.Rows.RuleB_mul
import PyProof.Rows.RuleB_floordiv
import PyProof.Rows.RuleB_mod
import PyProof.Rows.RuleB_pow
import PyProof.Rows.StrRules
import PyProof.ListOps
import PyProof.FitsBits
import PyProof.StrBlock2
import PyProof.P3In
import PyProof.NeData
import PyProof.DictRoadsH
import PyProof.DictRoads
import PyProof.Rows.TupMore
import PyProof.Rows.StrTemp
import PyProof.Rows.TupSub
import PyProof.ListIndexNeg
import PyProof.SliceMore
import PyProof.SliceStr2
import PyProof.StrLaws
import OpenK.KWalk
import OpenK.KCls
import KE.KIsAll
import PyProof.InstEq
import PyProof.StrLawsIn
import KE.KDictList
import PyProof.DictTruth
import PyProof.Rows.SortWalk
import KE.KDictSum
import PyProof.WalkInts
import PyProof.CallStr
import PyProof.Conv_int_bool
import PyProof.ListRange
import PyProof.ListCopy
import PyProof.ForRange
import PyProof.ConsumeWalk
import PyProof.StrWalks
import PyProof.TupleIter
import PyProof.Rows.TupAssign
import PyProof.AssignAttr
import PyProof.ForAny
import PyProof.WalksPairs
import PyProof.EnumFor
import OpenK.KCall
import PySem.SetOps
import PyProof.SetKind
import PyProof.SetNew
import PyProof.SetRoads
import PyProof.TupleKey
import PyProof.Rows.SetFrom
import OpenK.KMake
import PyProof.LetGo
import PyProof.Rows.RuleM_int
import PyProof.Rows.SeqMore
import PyProof.Rows.DictMade
import PyProof.CompMap
import PyProof.CompFree
import PyProof.WalksMore
import PyProof.EnumStmt
import KE.KUnpack
import Wide.Ends
import Wide.All
import Open.FastT9
import Open.FastLooks
import Open.FastRun
import Open.Line
import Open.Head
import Wide.FinOn
import PySem.Challenge.RW_uf040018_08
set_option bootstrap.genMatcherCode false

noncomputable section
set_option genSizeOf false
set_option genSizeOfSpec false
set_option genInjectivity false
universe u0 u1 u2 u3 u4 u5 u6 u7 u8 u9 u10 u11 u12
namespace Mine
theorem el_pp  {p0 : Prop} {p1 : Prop} {p2 : Prop} {C : Prop} (h : p0 ∧ p1 ∧ p2) (k : ∀ (_ : p0) (_ : p1) (_ : p2), C) : C := h.elim fun v0 h0 => h0.elim fun v1 h1 => k v0 v1 h1
theorem el_ppp  {p0 : Prop} {p1 : Prop} {p2 : Prop} {p3 : Prop} {C : Prop} (h : p0 ∧ p1 ∧ p2 ∧ p3) (k : ∀ (_ : p0) (_ : p1) (_ : p2) (_ : p3), C) : C := h.elim fun v0 h0 => h0.elim fun v1 h1 => h1.elim fun v2 h2 => k v0 v1 v2 h2
theorem el_ppppp  {p0 : Prop} {p1 : Prop} {p2 : Prop} {p3 : Prop} {p4 : Prop} {p5 : Prop} {C : Prop} (h : p0 ∧ p1 ∧ p2 ∧ p3 ∧ p4 ∧ p5) (k : ∀ (_ : p0) (_ : p1) (_ : p2) (_ : p3) (_ : p4) (_ : p5), C) : C := h.elim fun v0 h0 => h0.elim fun v1 h1 => h1.elim fun v2 h2 => h2.elim fun v3 h3 => h3.elim fun v4 h4 => k v0 v1 v2 v3 v4 h4
theorem el_ppppx {a4 : Type} {p0 : Prop} {p1 : Prop} {p2 : Prop} {p3 : Prop} {p5 : a4 → Prop} {C : Prop} (h : p0 ∧ p1 ∧ p2 ∧ p3 ∧ ∃ x4, p5 x4) (k : ∀ (_ : p0) (_ : p1) (_ : p2) (_ : p3) (x4 : a4) (_ : p5 x4), C) : C := h.elim fun v0 h0 => h0.elim fun v1 h1 => h1.elim fun v2 h2 => h2.elim fun v3 h3 => h3.elim fun v4 h4 => k v0 v1 v2 v3 v4 h4
theorem el_ppppxxp {a4 : Type} {a5 : Type} {p0 : Prop} {p1 : Prop} {p2 : Prop} {p3 : Prop} {p6 : a4 → a5 → Prop} {p7 : a4 → a5 → Prop} {C : Prop} (h : p0 ∧ p1 ∧ p2 ∧ p3 ∧ ∃ x4, ∃ x5, p6 x4 x5 ∧ p7 x4 x5) (k : ∀ (_ : p0) (_ : p1) (_ : p2) (_ : p3) (x4 : a4) (x5 : a5) (_ : p6 x4 x5) (_ : p7 x4 x5), C) : C := h.elim fun v0 h0 => h0.elim fun v1 h1 => h1.elim fun v2 h2 => h2.elim fun v3 h3 => h3.elim fun v4 h4 => h4.elim fun v5 h5 => h5.elim fun v6 h6 => k v0 v1 v2 v3 v4 v5 v6 h6
theorem el_ppx {a2 : Type} {p0 : Prop} {p1 : Prop} {p3 : a2 → Prop} {C : Prop} (h : p0 ∧ p1 ∧ ∃ x2, p3 x2) (k : ∀ (_ : p0) (_ : p1) (x2 : a2) (_ : p3 x2), C) : C := h.elim fun v0 h0 => h0.elim fun v1 h1 => h1.elim fun v2 h2 => k v0 v1 v2 h2
theorem el_ppxxp {a2 : Type} {a3 : Type} {p0 : Prop} {p1 : Prop} {p4 : a2 → a3 → Prop} {p5 : a2 → a3 → Prop} {C : Prop} (h : p0 ∧ p1 ∧ ∃ x2, ∃ x3, p4 x2 x3 ∧ p5 x2 x3) (k : ∀ (_ : p0) (_ : p1) (x2 : a2) (x3 : a3) (_ : p4 x2 x3) (_ : p5 x2 x3), C) : C := h.elim fun v0 h0 => h0.elim fun v1 h1 => h1.elim fun v2 h2 => h2.elim fun v3 h3 => h3.elim fun v4 h4 => k v0 v1 v2 v3 v4 h4
theorem el_px {a1 : Type} {p0 : Prop} {p2 : a1 → Prop} {C : Prop} (h : p0 ∧ ∃ x1, p2 x1) (k : ∀ (_ : p0) (x1 : a1) (_ : p2 x1), C) : C := h.elim fun v0 h0 => h0.elim fun v1 h1 => k v0 v1 h1
theorem el_pxp {a1 : Type} {p0 : Prop} {p2 : a1 → Prop} {p3 : a1 → Prop} {C : Prop} (h : p0 ∧ ∃ x1, p2 x1 ∧ p3 x1) (k : ∀ (_ : p0) (x1 : a1) (_ : p2 x1) (_ : p3 x1), C) : C := h.elim fun v0 h0 => h0.elim fun v1 h1 => h1.elim fun v2 h2 => k v0 v1 v2 h2
theorem el_pxppp {a1 : Type} {p0 : Prop} {p2 : a1 → Prop} {p3 : a1 → Prop} {p4 : a1 → Prop} {p5 : a1 → Prop} {C : Prop} (h : p0 ∧ ∃ x1, p2 x1 ∧ p3 x1 ∧ p4 x1 ∧ p5 x1) (k : ∀ (_ : p0) (x1 : a1) (_ : p2 x1) (_ : p3 x1) (_ : p4 x1) (_ : p5 x1), C) : C := h.elim fun v0 h0 => h0.elim fun v1 h1 => h1.elim fun v2 h2 => h2.elim fun v3 h3 => h3.elim fun v4 h4 => k v0 v1 v2 v3 v4 h4
theorem el_pxxp {a1 : Type} {a2 : Type} {p0 : Prop} {p3 : a1 → a2 → Prop} {p4 : a1 → a2 → Prop} {C : Prop} (h : p0 ∧ ∃ x1, ∃ x2, p3 x1 x2 ∧ p4 x1 x2) (k : ∀ (_ : p0) (x1 : a1) (x2 : a2) (_ : p3 x1 x2) (_ : p4 x1 x2), C) : C := h.elim fun v0 h0 => h0.elim fun v1 h1 => h1.elim fun v2 h2 => h2.elim fun v3 h3 => k v0 v1 v2 v3 h3
theorem el_pxxpp {a1 : Type} {a2 : Type} {p0 : Prop} {p3 : a1 → a2 → Prop} {p4 : a1 → a2 → Prop} {p5 : a1 → a2 → Prop} {C : Prop} (h : p0 ∧ ∃ x1, ∃ x2, p3 x1 x2 ∧ p4 x1 x2 ∧ p5 x1 x2) (k : ∀ (_ : p0) (x1 : a1) (x2 : a2) (_ : p3 x1 x2) (_ : p4 x1 x2) (_ : p5 x1 x2), C) : C := h.elim fun v0 h0 => h0.elim fun v1 h1 => h1.elim fun v2 h2 => h2.elim fun v3 h3 => h3.elim fun v4 h4 => k v0 v1 v2 v3 v4 h4
theorem el_pxxpppp {a1 : Type} {a2 : Type} {p0 : Prop} {p3 : a1 → a2 → Prop} {p4 : a1 → a2 → Prop} {p5 : a1 → a2 → Prop} {p6 : a1 → a2 → Prop} {p7 : a1 → a2 → Prop} {C : Prop} (h : p0 ∧ ∃ x1, ∃ x2, p3 x1 x2 ∧ p4 x1 x2 ∧ p5 x1 x2 ∧ p6 x1 x2 ∧ p7 x1 x2) (k : ∀ (_ : p0) (x1 : a1) (x2 : a2) (_ : p3 x1 x2) (_ : p4 x1 x2) (_ : p5 x1 x2) (_ : p6 x1 x2) (_ : p7 x1 x2), C) : C := h.elim fun v0 h0 => h0.elim fun v1 h1 => h1.elim fun v2 h2 => h2.elim fun v3 h3 => h3.elim fun v4 h4 => h4.elim fun v5 h5 => h5.elim fun v6 h6 => k v0 v1 v2 v3 v4 v5 v6 h6
theorem el_pxxxp {a1 : Type} {a2 : Type} {a3 : Type} {p0 : Prop} {p4 : a1 → a2 → a3 → Prop} {p5 : a1 → a2 → a3 → Prop} {C : Prop} (h : p0 ∧ ∃ x1, ∃ x2, ∃ x3, p4 x1 x2 x3 ∧ p5 x1 x2 x3) (k : ∀ (_ : p0) (x1 : a1) (x2 : a2) (x3 : a3) (_ : p4 x1 x2 x3) (_ : p5 x1 x2 x3), C) : C := h.elim fun v0 h0 => h0.elim fun v1 h1 => h1.elim fun v2 h2 => h2.elim fun v3 h3 => h3.elim fun v4 h4 => k v0 v1 v2 v3 v4 h4
theorem el_pxxxppp {a1 : Type} {a2 : Type} {a3 : Type} {p0 : Prop} {p4 : a1 → a2 → a3 → Prop} {p5 : a1 → a2 → a3 → Prop} {p6 : a1 → a2 → a3 → Prop} {p7 : a1 → a2 → a3 → Prop} {C : Prop} (h : p0 ∧ ∃ x1, ∃ x2, ∃ x3, p4 x1 x2 x3 ∧ p5 x1 x2 x3 ∧ p6 x1 x2 x3 ∧ p7 x1 x2 x3) (k : ∀ (_ : p0) (x1 : a1) (x2 : a2) (x3 : a3) (_ : p4 x1 x2 x3) (_ : p5 x1 x2 x3) (_ : p6 x1 x2 x3) (_ : p7 x1 x2 x3), C) : C := h.elim fun v0 h0 => h0.elim fun v1 h1 => h1.elim fun v2 h2 => h2.elim fun v3 h3 => h3.elim fun v4 h4 => h4.elim fun v5 h5 => h5.elim fun v6 h6 => k v0 v1 v2 v3 v4 v5 v6 h6
theorem el_x {a0 : Type} {p1 : a0 → Prop} {C : Prop} (h : ∃ x0, p1 x0) (k : ∀ (x0 : a0) (_ : p1 x0), C) : C := h.elim fun v0 h0 => k v0 h0
theorem el_xp {a0 : Type} {p1 : a0 → Prop} {p2 : a0 → Prop} {C : Prop} (h : ∃ x0, p1 x0 ∧ p2 x0) (k : ∀ (x0 : a0) (_ : p1 x0) (_ : p2 x0), C) : C := h.elim fun v0 h0 => h0.elim fun v1 h1 => k v0 v1 h1
theorem el_xpp {a0 : Type} {p1 : a0 → Prop} {p2 : a0 → Prop} {p3 : a0 → Prop} {C : Prop} (h : ∃ x0, p1 x0 ∧ p2 x0 ∧ p3 x0) (k : ∀ (x0 : a0) (_ : p1 x0) (_ : p2 x0) (_ : p3 x0), C) : C := h.elim fun v0 h0 => h0.elim fun v1 h1 => h1.elim fun v2 h2 => k v0 v1 v2 h2
theorem el_xppp {a0 : Type} {p1 : a0 → Prop} {p2 : a0 → Prop} {p3 : a0 → Prop} {p4 : a0 → Prop} {C : Prop} (h : ∃ x0, p1 x0 ∧ p2 x0 ∧ p3 x0 ∧ p4 x0) (k : ∀ (x0 : a0) (_ : p1 x0) (_ : p2 x0) (_ : p3 x0) (_ : p4 x0), C) : C := h.elim fun v0 h0 => h0.elim fun v1 h1 => h1.elim fun v2 h2 => h2.elim fun v3 h3 => k v0 v1 v2 v3 h3
theorem el_xppx {a0 : Type} {a3 : Type} {p1 : a0 → Prop} {p2 : a0 → Prop} {p4 : a0 → a3 → Prop} {C : Prop} (h : ∃ x0, p1 x0 ∧ p2 x0 ∧ ∃ x3, p4 x0 x3) (k : ∀ (x0 : a0) (_ : p1 x0) (_ : p2 x0) (x3 : a3) (_ : p4 x0 x3), C) : C := h.elim fun v0 h0 => h0.elim fun v1 h1 => h1.elim fun v2 h2 => h2.elim fun v3 h3 => k v0 v1 v2 v3 h3
theorem el_xppxxx {a0 : Type} {a3 : Type} {a4 : Type} {a5 : Type} {p1 : a0 → Prop} {p2 : a0 → Prop} {p6 : a0 → a3 → a4 → a5 → Prop} {C : Prop} (h : ∃ x0, p1 x0 ∧ p2 x0 ∧ ∃ x3, ∃ x4, ∃ x5, p6 x0 x3 x4 x5) (k : ∀ (x0 : a0) (_ : p1 x0) (_ : p2 x0) (x3 : a3) (x4 : a4) (x5 : a5) (_ : p6 x0 x3 x4 x5), C) : C := h.elim fun v0 h0 => h0.elim fun v1 h1 => h1.elim fun v2 h2 => h2.elim fun v3 h3 => h3.elim fun v4 h4 => h4.elim fun v5 h5 => k v0 v1 v2 v3 v4 v5 h5
theorem el_xpxp {a0 : Type} {a2 : Type} {p1 : a0 → Prop} {p3 : a0 → a2 → Prop} {p4 : a0 → a2 → Prop} {C : Prop} (h : ∃ x0, p1 x0 ∧ ∃ x2, p3 x0 x2 ∧ p4 x0 x2) (k : ∀ (x0 : a0) (_ : p1 x0) (x2 : a2) (_ : p3 x0 x2) (_ : p4 x0 x2), C) : C := h.elim fun v0 h0 => h0.elim fun v1 h1 => h1.elim fun v2 h2 => h2.elim fun v3 h3 => k v0 v1 v2 v3 h3
theorem el_xpxpp {a0 : Type} {a2 : Type} {p1 : a0 → Prop} {p3 : a0 → a2 → Prop} {p4 : a0 → a2 → Prop} {p5 : a0 → a2 → Prop} {C : Prop} (h : ∃ x0, p1 x0 ∧ ∃ x2, p3 x0 x2 ∧ p4 x0 x2 ∧ p5 x0 x2) (k : ∀ (x0 : a0) (_ : p1 x0) (x2 : a2) (_ : p3 x0 x2) (_ : p4 x0 x2) (_ : p5 x0 x2), C) : C := h.elim fun v0 h0 => h0.elim fun v1 h1 => h1.elim fun v2 h2 => h2.elim fun v3 h3 => h3.elim fun v4 h4 => k v0 v1 v2 v3 v4 h4
theorem el_xx {a0 : Type} {a1 : Type} {p2 : a0 → a1 → Prop} {C : Prop} (h : ∃ x0, ∃ x1, p2 x0 x1) (k : ∀ (x0 : a0) (x1 : a1) (_ : p2 x0 x1), C) : C := h.elim fun v0 h0 => h0.elim fun v1 h1 => k v0 v1 h1
theorem el_xxp {a0 : Type} {a1 : Type} {p2 : a0 → a1 → Prop} {p3 : a0 → a1 → Prop} {C : Prop} (h : ∃ x0, ∃ x1, p2 x0 x1 ∧ p3 x0 x1) (k : ∀ (x0 : a0) (x1 : a1) (_ : p2 x0 x1) (_ : p3 x0 x1), C) : C := h.elim fun v0 h0 => h0.elim fun v1 h1 => h1.elim fun v2 h2 => k v0 v1 v2 h2
theorem el_xxpp {a0 : Type} {a1 : Type} {p2 : a0 → a1 → Prop} {p3 : a0 → a1 → Prop} {p4 : a0 → a1 → Prop} {C : Prop} (h : ∃ x0, ∃ x1, p2 x0 x1 ∧ p3 x0 x1 ∧ p4 x0 x1) (k : ∀ (x0 : a0) (x1 : a1) (_ : p2 x0 x1) (_ : p3 x0 x1) (_ : p4 x0 x1), C) : C := h.elim fun v0 h0 => h0.elim fun v1 h1 => h1.elim fun v2 h2 => h2.elim fun v3 h3 => k v0 v1 v2 v3 h3
theorem el_xxpppp {a0 : Type} {a1 : Type} {p2 : a0 → a1 → Prop} {p3 : a0 → a1 → Prop} {p4 : a0 → a1 → Prop} {p5 : a0 → a1 → Prop} {p6 : a0 → a1 → Prop} {C : Prop} (h : ∃ x0, ∃ x1, p2 x0 x1 ∧ p3 x0 x1 ∧ p4 x0 x1 ∧ p5 x0 x1 ∧ p6 x0 x1) (k : ∀ (x0 : a0) (x1 : a1) (_ : p2 x0 x1) (_ : p3 x0 x1) (_ : p4 x0 x1) (_ : p5 x0 x1) (_ : p6 x0 x1), C) : C := h.elim fun v0 h0 => h0.elim fun v1 h1 => h1.elim fun v2 h2 => h2.elim fun v3 h3 => h3.elim fun v4 h4 => h4.elim fun v5 h5 => k v0 v1 v2 v3 v4 v5 h5
theorem el_xxxp {a0 : Type} {a1 : Type} {a2 : Type} {p3 : a0 → a1 → a2 → Prop} {p4 : a0 → a1 → a2 → Prop} {C : Prop} (h : ∃ x0, ∃ x1, ∃ x2, p3 x0 x1 x2 ∧ p4 x0 x1 x2) (k : ∀ (x0 : a0) (x1 : a1) (x2 : a2) (_ : p3 x0 x1 x2) (_ : p4 x0 x1 x2), C) : C := h.elim fun v0 h0 => h0.elim fun v1 h1 => h1.elim fun v2 h2 => h2.elim fun v3 h3 => k v0 v1 v2 v3 h3
theorem el_xxxpp {a0 : Type} {a1 : Type} {a2 : Type} {p3 : a0 → a1 → a2 → Prop} {p4 : a0 → a1 → a2 → Prop} {p5 : a0 → a1 → a2 → Prop} {C : Prop} (h : ∃ x0, ∃ x1, ∃ x2, p3 x0 x1 x2 ∧ p4 x0 x1 x2 ∧ p5 x0 x1 x2) (k : ∀ (x0 : a0) (x1 : a1) (x2 : a2) (_ : p3 x0 x1 x2) (_ : p4 x0 x1 x2) (_ : p5 x0 x1 x2), C) : C := h.elim fun v0 h0 => h0.elim fun v1 h1 => h1.elim fun v2 h2 => h2.elim fun v3 h3 => h3.elim fun v4 h4 => k v0 v1 v2 v3 v4 h4
theorem el_xxxppp {a0 : Type} {a1 : Type} {a2 : Type} {p3 : a0 → a1 → a2 → Prop} {p4 : a0 → a1 → a2 → Prop} {p5 : a0 → a1 → a2 → Prop} {p6 : a0 → a1 → a2 → Prop} {C : Prop} (h : ∃ x0, ∃ x1, ∃ x2, p3 x0 x1 x2 ∧ p4 x0 x1 x2 ∧ p5 x0 x1 x2 ∧ p6 x0 x1 x2) (k : ∀ (x0 : a0) (x1 : a1) (x2 : a2) (_ : p3 x0 x1 x2) (_ : p4 x0 x1 x2) (_ : p5 x0 x1 x2) (_ : p6 x0 x1 x2), C) : C := h.elim fun v0 h0 => h0.elim fun v1 h1 => h1.elim fun v2 h2 => h2.elim fun v3 h3 => h3.elim fun v4 h4 => h4.elim fun v5 h5 => k v0 v1 v2 v3 v4 v5 h5
theorem el_xxxxp {a0 : Type} {a1 : Type} {a2 : Type} {a3 : Type} {p4 : a0 → a1 → a2 → a3 → Prop} {p5 : a0 → a1 → a2 → a3 → Prop} {C : Prop} (h : ∃ x0, ∃ x1, ∃ x2, ∃ x3, p4 x0 x1 x2 x3 ∧ p5 x0 x1 x2 x3) (k : ∀ (x0 : a0) (x1 : a1) (x2 : a2) (x3 : a3) (_ : p4 x0 x1 x2 x3) (_ : p5 x0 x1 x2 x3), C) : C := h.elim fun v0 h0 => h0.elim fun v1 h1 => h1.elim fun v2 h2 => h2.elim fun v3 h3 => h3.elim fun v4 h4 => k v0 v1 v2 v3 v4 h4
theorem el_xxxxppp {a0 : Type} {a1 : Type} {a2 : Type} {a3 : Type} {p4 : a0 → a1 → a2 → a3 → Prop} {p5 : a0 → a1 → a2 → a3 → Prop} {p6 : a0 → a1 → a2 → a3 → Prop} {p7 : a0 → a1 → a2 → a3 → Prop} {C : Prop} (h : ∃ x0, ∃ x1, ∃ x2, ∃ x3, p4 x0 x1 x2 x3 ∧ p5 x0 x1 x2 x3 ∧ p6 x0 x1 x2 x3 ∧ p7 x0 x1 x2 x3) (k : ∀ (x0 : a0) (x1 : a1) (x2 : a2) (x3 : a3) (_ : p4 x0 x1 x2 x3) (_ : p5 x0 x1 x2 x3) (_ : p6 x0 x1 x2 x3) (_ : p7 x0 x1 x2 x3), C) : C := h.elim fun v0 h0 => h0.elim fun v1 h1 => h1.elim fun v2 h2 => h2.elim fun v3 h3 => h3.elim fun v4 h4 => h4.elim fun v5 h5 => h5.elim fun v6 h6 => k v0 v1 v2 v3 v4 v5 v6 h6
theorem el_xxxxppppp {a0 : Type} {a1 : Type} {a2 : Type} {a3 : Type} {p4 : a0 → a1 → a2 → a3 → Prop} {p5 : a0 → a1 → a2 → a3 → Prop} {p6 : a0 → a1 → a2 → a3 → Prop} {p7 : a0 → a1 → a2 → a3 → Prop} {p8 : a0 → a1 → a2 → a3 → Prop} {p9 : a0 → a1 → a2 → a3 → Prop} {C : Prop} (h : ∃ x0, ∃ x1, ∃ x2, ∃ x3, p4 x0 x1 x2 x3 ∧ p5 x0 x1 x2 x3 ∧ p6 x0 x1 x2 x3 ∧ p7 x0 x1 x2 x3 ∧ p8 x0 x1 x2 x3 ∧ p9 x0 x1 x2 x3) (k : ∀ (x0 : a0) (x1 : a1) (x2 : a2) (x3 : a3) (_ : p4 x0 x1 x2 x3) (_ : p5 x0 x1 x2 x3) (_ : p6 x0 x1 x2 x3) (_ : p7 x0 x1 x2 x3) (_ : p8 x0 x1 x2 x3) (_ : p9 x0 x1 x2 x3), C) : C := h.elim fun v0 h0 => h0.elim fun v1 h1 => h1.elim fun v2 h2 => h2.elim fun v3 h3 => h3.elim fun v4 h4 => h4.elim fun v5 h5 => h5.elim fun v6 h6 => h6.elim fun v7 h7 => h7.elim fun v8 h8 => k v0 v1 v2 v3 v4 v5 v6 v7 v8 h8
theorem el_y {a0 : Sort u0} {p1 : a0 → Prop} {C : Prop} (h : ∃ x0, p1 x0) (k : ∀ (x0 : a0) (_ : p1 x0), C) : C := h.elim fun v0 h0 => k v0 h0
theorem in_ppppx {a4 : Type} {p0 : Prop} {p1 : Prop} {p2 : Prop} {p3 : Prop} {p5 : a4 → Prop} (w0 : p0) (w1 : p1) (w2 : p2) (w3 : p3) (x4 : a4) (w5 : p5 x4) : p0 ∧ p1 ∧ p2 ∧ p3 ∧ ∃ x4, p5 x4 := ⟨w0, w1, w2, w3, x4, w5⟩
theorem in_pxp {a1 : Type} {p0 : Prop} {p2 : a1 → Prop} {p3 : a1 → Prop} (w0 : p0) (x1 : a1) (w2 : p2 x1) (w3 : p3 x1) : p0 ∧ ∃ x1, p2 x1 ∧ p3 x1 := ⟨w0, x1, w2, w3⟩
theorem in_pxxpp {a1 : Type} {a2 : Type} {p0 : Prop} {p3 : a1 → a2 → Prop} {p4 : a1 → a2 → Prop} {p5 : a1 → a2 → Prop} (w0 : p0) (x1 : a1) (x2 : a2) (w3 : p3 x1 x2) (w4 : p4 x1 x2) (w5 : p5 x1 x2) : p0 ∧ ∃ x1, ∃ x2, p3 x1 x2 ∧ p4 x1 x2 ∧ p5 x1 x2 := ⟨w0, x1, x2, w3, w4, w5⟩
theorem in_pxxxp {a1 : Type} {a2 : Type} {a3 : Type} {p0 : Prop} {p4 : a1 → a2 → a3 → Prop} {p5 : a1 → a2 → a3 → Prop} (w0 : p0) (x1 : a1) (x2 : a2) (x3 : a3) (w4 : p4 x1 x2 x3) (w5 : p5 x1 x2 x3) : p0 ∧ ∃ x1, ∃ x2, ∃ x3, p4 x1 x2 x3 ∧ p5 x1 x2 x3 := ⟨w0, x1, x2, x3, w4, w5⟩
theorem in_pxxxppp {a1 : Type} {a2 : Type} {a3 : Type} {p0 : Prop} {p4 : a1 → a2 → a3 → Prop} {p5 : a1 → a2 → a3 → Prop} {p6 : a1 → a2 → a3 → Prop} {p7 : a1 → a2 → a3 → Prop} (w0 : p0) (x1 : a1) (x2 : a2) (x3 : a3) (w4 : p4 x1 x2 x3) (w5 : p5 x1 x2 x3) (w6 : p6 x1 x2 x3) (w7 : p7 x1 x2 x3) : p0 ∧ ∃ x1, ∃ x2, ∃ x3, p4 x1 x2 x3 ∧ p5 x1 x2 x3 ∧ p6 x1 x2 x3 ∧ p7 x1 x2 x3 := ⟨w0, x1, x2, x3, w4, w5, w6, w7⟩
theorem in_x {a0 : Type} {p1 : a0 → Prop} (x0 : a0) (w1 : p1 x0) : ∃ x0, p1 x0 := ⟨x0, w1⟩
theorem in_xp {a0 : Type} {p1 : a0 → Prop} {p2 : a0 → Prop} (x0 : a0) (w1 : p1 x0) (w2 : p2 x0) : ∃ x0, p1 x0 ∧ p2 x0 := ⟨x0, w1, w2⟩
theorem in_xpp {a0 : Type} {p1 : a0 → Prop} {p2 : a0 → Prop} {p3 : a0 → Prop} (x0 : a0) (w1 : p1 x0) (w2 : p2 x0) (w3 : p3 x0) : ∃ x0, p1 x0 ∧ p2 x0 ∧ p3 x0 := ⟨x0, w1, w2, w3⟩
theorem in_xppxxx {a0 : Type} {a3 : Type} {a4 : Type} {a5 : Type} {p1 : a0 → Prop} {p2 : a0 → Prop} {p6 : a0 → a3 → a4 → a5 → Prop} (x0 : a0) (w1 : p1 x0) (w2 : p2 x0) (x3 : a3) (x4 : a4) (x5 : a5) (w6 : p6 x0 x3 x4 x5) : ∃ x0, p1 x0 ∧ p2 x0 ∧ ∃ x3, ∃ x4, ∃ x5, p6 x0 x3 x4 x5 := ⟨x0, w1, w2, x3, x4, x5, w6⟩
theorem in_xpxp {a0 : Type} {a2 : Type} {p1 : a0 → Prop} {p3 : a0 → a2 → Prop} {p4 : a0 → a2 → Prop} (x0 : a0) (w1 : p1 x0) (x2 : a2) (w3 : p3 x0 x2) (w4 : p4 x0 x2) : ∃ x0, p1 x0 ∧ ∃ x2, p3 x0 x2 ∧ p4 x0 x2 := ⟨x0, w1, x2, w3, w4⟩
theorem in_xxp {a0 : Type} {a1 : Type} {p2 : a0 → a1 → Prop} {p3 : a0 → a1 → Prop} (x0 : a0) (x1 : a1) (w2 : p2 x0 x1) (w3 : p3 x0 x1) : ∃ x0, ∃ x1, p2 x0 x1 ∧ p3 x0 x1 := ⟨x0, x1, w2, w3⟩
theorem in_xxpp {a0 : Type} {a1 : Type} {p2 : a0 → a1 → Prop} {p3 : a0 → a1 → Prop} {p4 : a0 → a1 → Prop} (x0 : a0) (x1 : a1) (w2 : p2 x0 x1) (w3 : p3 x0 x1) (w4 : p4 x0 x1) : ∃ x0, ∃ x1, p2 x0 x1 ∧ p3 x0 x1 ∧ p4 x0 x1 := ⟨x0, x1, w2, w3, w4⟩
theorem in_xxppp {a0 : Type} {a1 : Type} {p2 : a0 → a1 → Prop} {p3 : a0 → a1 → Prop} {p4 : a0 → a1 → Prop} {p5 : a0 → a1 → Prop} (x0 : a0) (x1 : a1) (w2 : p2 x0 x1) (w3 : p3 x0 x1) (w4 : p4 x0 x1) (w5 : p5 x0 x1) : ∃ x0, ∃ x1, p2 x0 x1 ∧ p3 x0 x1 ∧ p4 x0 x1 ∧ p5 x0 x1 := ⟨x0, x1, w2, w3, w4, w5⟩
theorem in_xxpppp {a0 : Type} {a1 : Type} {p2 : a0 → a1 → Prop} {p3 : a0 → a1 → Prop} {p4 : a0 → a1 → Prop} {p5 : a0 → a1 → Prop} {p6 : a0 → a1 → Prop} (x0 : a0) (x1 : a1) (w2 : p2 x0 x1) (w3 : p3 x0 x1) (w4 : p4 x0 x1) (w5 : p5 x0 x1) (w6 : p6 x0 x1) : ∃ x0, ∃ x1, p2 x0 x1 ∧ p3 x0 x1 ∧ p4 x0 x1 ∧ p5 x0 x1 ∧ p6 x0 x1 := ⟨x0, x1, w2, w3, w4, w5, w6⟩
theorem in_xxxp {a0 : Type} {a1 : Type} {a2 : Type} {p3 : a0 → a1 → a2 → Prop} {p4 : a0 → a1 → a2 → Prop} (x0 : a0) (x1 : a1) (x2 : a2) (w3 : p3 x0 x1 x2) (w4 : p4 x0 x1 x2) : ∃ x0, ∃ x1, ∃ x2, p3 x0 x1 x2 ∧ p4 x0 x1 x2 := ⟨x0, x1, x2, w3, w4⟩
theorem in_xxxpp {a0 : Type} {a1 : Type} {a2 : Type} {p3 : a0 → a1 → a2 → Prop} {p4 : a0 → a1 → a2 → Prop} {p5 : a0 → a1 → a2 → Prop} (x0 : a0) (x1 : a1) (x2 : a2) (w3 : p3 x0 x1 x2) (w4 : p4 x0 x1 x2) (w5 : p5 x0 x1 x2) : ∃ x0, ∃ x1, ∃ x2, p3 x0 x1 x2 ∧ p4 x0 x1 x2 ∧ p5 x0 x1 x2 := ⟨x0, x1, x2, w3, w4, w5⟩
theorem in_xxxxppppp {a0 : Type} {a1 : Type} {a2 : Type} {a3 : Type} {p4 : a0 → a1 → a2 → a3 → Prop} {p5 : a0 → a1 → a2 → a3 → Prop} {p6 : a0 → a1 → a2 → a3 → Prop} {p7 : a0 → a1 → a2 → a3 → Prop} {p8 : a0 → a1 → a2 → a3 → Prop} {p9 : a0 → a1 → a2 → a3 → Prop} (x0 : a0) (x1 : a1) (x2 : a2) (x3 : a3) (w4 : p4 x0 x1 x2 x3) (w5 : p5 x0 x1 x2 x3) (w6 : p6 x0 x1 x2 x3) (w7 : p7 x0 x1 x2 x3) (w8 : p8 x0 x1 x2 x3) (w9 : p9 x0 x1 x2 x3) : ∃ x0, ∃ x1, ∃ x2, ∃ x3, p4 x0 x1 x2 x3 ∧ p5 x0 x1 x2 x3 ∧ p6 x0 x1 x2 x3 ∧ p7 x0 x1 x2 x3 ∧ p8 x0 x1 x2 x3 ∧ p9 x0 x1 x2 x3 := ⟨x0, x1, x2, x3, w4, w5, w6, w7, w8, w9⟩
end Mine
section
/-! A small core of Python: syntax without places, and a reckoning of it. -/
namespace Mine

inductive V where
  | none
  | bool (b : Bool)
  | int (i : Int)
  | str (s : List Nat)
  | ref (i : Nat)
  | tup (l : List V)
  | rng (a b c : Int)
  | fz (l : List V)

inductive Ob where
  | list (l : List V)
  | dict (es : List (V × V))
  | inst (C : String) (fs : List (String × V))

noncomputable abbrev Hp := List Ob
noncomputable abbrev Gm := List (Option V)

inductive R (α : Type) where
  | ok (a : α) (h : Hp)
  | bad

noncomputable def R.bind {α β : Type} : R α → (α → Hp → R β) → R β
  | .ok a h, f => f a h
  | .bad, _ => .bad

inductive RS where
  | nx (g : Gm) (h : Hp)
  | ret (v : V) (h : Hp)
  | bad

noncomputable def R.bindS {α : Type} (g : Gm) : R α → (α → Hp → RS) → RS
  | .ok a h, f => f a h
  | .bad, _ => .bad

inductive BO where | add | sub | mul | fdiv | mod | pow deriving DecidableEq
inductive CO where | eq | ne | lt | le | gt | ge | isin | notin | is | isnot deriving DecidableEq

set_option genCtorIdx false in
inductive E where
  | none
  | bool (b : Bool)
  | int (i : Int)
  | str (s : String)
  | var (i : Nat)
  | glob (x : String)
  | bin (op : BO) (l r : E)
  | neg (e : E)
  | not (e : E)
  | and (es : List E)
  | or (es : List E)
  | cmp (op : CO) (l r : E)
  | cmp2 (l : E) (o1 : CO) (m : E) (o2 : CO) (r : E)
  | sub (o i : E)
  | slc (o lo hi : E)
  | attr (o : E) (f : String)
  | call (f : String) (args : List E)
  | make (C : String) (args : List E)
  | meth (o : E) (m : String) (args : List E)
  | bi (b : String) (args : List E)
  | isa (e : E) (t : String)
  | list (es : List E)
  | tup (es : List E)
  | dict
  | comp (elt : E) (t : Nat) (it : E) (cond : E)
  | lset (e : E)

set_option genCtorIdx false in
inductive S where
  | expr (e : E)
  | asg (x : Nat) (e : E)
  | unp (xs : List Nat) (e : E)
  | asgA (o : E) (f : String) (e : E)
  | asgI (o i e : E)
  | iff (c : E) (t f : List S)
  | whil (c : E) (b : List S)
  | forr (xs : List Nat) (it : E) (b : List S)
  | forE (x y : Nat) (it : E) (b : List S)
  | ret (e : E)
  | ret0
  | raise (C : String) (msg : String)
  | pass

structure FD where
  arity : Nat
  names : List String
  body : List S

noncomputable abbrev Fid := String × String

structure Pg where
  fns : List (Fid × FD)
  ups : List (String × List String)
  globs : List (String × V)
  exc : Bool
noncomputable def Pg.fn (P : Pg) (f : Fid) : Option FD := P.fns.lookup f
noncomputable def Pg.glob (P : Pg) (x : String) : Option V := P.globs.lookup x

noncomputable def cps (s : String) : List Nat := s.toList.map Char.toNat

noncomputable def mostLen : Nat := 16777216
noncomputable def mostBits : Nat := 1048576

noncomputable def bitsOf (i : Int) : Nat := if i.natAbs = 0 then 0 else i.natAbs.log2 + 1

inductive D where
  | none
  | bool (b : Bool)
  | int (i : Int)
  | str (s : List Nat)
  | list (l : List D)
  | tup (l : List D)

noncomputable def mapO {α β : Type} (f : α → Option β) : List α → Option (List β)
  | [] => some []
  | a :: r => match f a, mapO f r with
    | some b, some s => some (b :: s)
    | _, _ => .none

noncomputable def data : Nat → Hp → V → Option D
  | 0, _, _ => .none
  | _ + 1, _, .none => some .none
  | _ + 1, _, .bool b => some (.bool b)
  | _ + 1, _, .int i => some (.int i)
  | _ + 1, _, .str s => some (.str s)
  | n + 1, h, .tup l => (mapO (data n h) l).map .tup
  | n + 1, h, .ref r => match h[r]? with
    | some (.list l) => (mapO (data n h) l).map .list
    | _ => .none
  | _ + 1, _, .rng _ _ _ => .none
  | _ + 1, _, .fz _ => .none

mutual
noncomputable def D.eqv : D → D → Bool
  | .none, .none => true
  | .bool a, .bool b => a == b
  | .int a, .int b => a == b
  | .bool a, .int b => (if a then 1 else 0) == b
  | .int a, .bool b => a == (if b then 1 else 0)
  | .str a, .str b => a == b
  | .list a, .list b => D.eqvs a b
  | .tup a, .tup b => D.eqvs a b
  | _, _ => false
noncomputable def D.eqvs : List D → List D → Bool
  | [], [] => true
  | a :: r, b :: s => D.eqv a b && D.eqvs r s
  | _, _ => false
end

noncomputable def deep : Nat := 8

noncomputable def veq (h : Hp) (a b : V) : Option Bool :=
  match a, b with
  | .ref i, .ref j => match h[i]?, h[j]? with
    | some (.inst _ _), some (.inst _ _) => some (i == j)
    | _, _ => match data deep h a, data deep h b with
      | some x, some y => some (D.eqv x y)
      | _, _ => .none
  | _, _ => match data deep h a, data deep h b with
    | some x, some y => some (D.eqv x y)
    | _, _ => .none

noncomputable abbrev Key := List Nat ⊕ (List Int ⊕ Int)
noncomputable def Key.v : Key → V
  | .inl s => .str s
  | .inr (.inl l) => .tup (l.map .int)
  | .inr (.inr i) => .int i
noncomputable def intOf (v : V) : Option { i : Int // v = .int i } := match v with
  | .int i => some ⟨i, rfl⟩
  | _ => .none
noncomputable def intsOf : (l : List V) → Option { is : List Int // l = is.map .int }
  | [] => some ⟨[], rfl⟩
  | v :: r => (intOf v).bind fun x => (intsOf r).map fun y => ⟨x.1 :: y.1, congr (congrArg List.cons x.2) y.2⟩
noncomputable def keyOf (v : V) : Option { k : Key // v = k.v } := match v with
  | .str s => some ⟨.inl s, rfl⟩
  | .tup l => (intsOf l).map fun x => ⟨.inr (.inl x.1), congrArg V.tup x.2⟩
  | .int i => some ⟨.inr (.inr i), rfl⟩
  | _ => .none
noncomputable def isKey (v : V) : Bool := (keyOf v).isSome
noncomputable def tupOf (v : V) : Option { is : List Int // v = .tup (is.map .int) } := match v with
  | .tup l => (intsOf l).map fun x => ⟨x.1, congrArg V.tup x.2⟩
  | _ => .none
noncomputable def keyEq (a b : V) : Bool := match keyOf a with
  | .none => false
  | some x => match keyOf b with
    | .none => false
    | some y => decide (x.1 = y.1)
noncomputable def dGet : List (V × V) → V → Option V
  | [], _ => .none
  | (k, v) :: r, x => if keyEq k x then some v else dGet r x
noncomputable def dSet : List (V × V) → V → V → List (V × V)
  | [], x, y => [(x, y)]
  | (k, v) :: r, x, y => if keyEq k x then (k, y) :: r else (k, v) :: dSet r x y

noncomputable def alloc (o : Ob) (h : Hp) : R V := .ok (.ref h.length) (h ++ [o])

noncomputable def onI (v : V) (k : Int → R V) : R V := match v with
  | .int i => k i
  | _ => .bad
noncomputable def onL (v : V) (h : Hp) (k : List V → R V) : R V := match v with
  | .ref r => (match h[r]? with
    | some (.list l) => k l
    | _ => .bad)
  | _ => .bad
noncomputable def onS (v : V) (k : List Nat → R V) : R V := match v with
  | .str s => k s
  | _ => .bad
noncomputable def bAdd (a b : V) (h : Hp) : R V := match a with
  | .int a => onI b fun b => .ok (.int (a + b)) h
  | .str a => onS b fun b => if a.length + b.length ≤ mostLen then .ok (.str (a ++ b)) h else .bad
  | a => onL a h fun x => onL b h fun y => if x.length + y.length ≤ mostLen then alloc (.list (x ++ y)) h else .bad
noncomputable def bMul (a b : V) (h : Hp) : R V := match a with
  | .int a => onI b fun b => if bitsOf a ≤ mostBits ∧ bitsOf b ≤ mostBits then .ok (.int (a * b)) h else .bad
  | _ => .bad
noncomputable def binop (op : BO) (a b : V) (h : Hp) : R V :=
  match op with
  | .add => bAdd a b h
  | .sub => onI a fun a => onI b fun b => .ok (.int (a - b)) h
  | .mul => bMul a b h
  | .fdiv => onI a fun a => onI b fun b => if b = 0 ∨ 1073741824 ≤ b.natAbs then .bad else .ok (.int (a.fdiv b)) h
  | .mod => onI a fun a => onI b fun b => if b = 0 then .bad else .ok (.int (a.fmod b)) h
  | .pow => .bad

noncomputable def okB (b : Bool) (h : Hp) : R V := .ok (.bool b) h
noncomputable def okO (b : Option Bool) (h : Hp) : R V := match b with | some b => .ok (.bool b) h | .none => .bad

noncomputable def vin (h : Hp) (a b : V) : Option Bool :=
  match b with
  | .ref r => match h[r]? with
    | some (.list _) => match data deep h b, data deep h a with
      | some (.list ds), some d => some (ds.any fun y => D.eqv y d)
      | _, _ => .none
    | some (.dict es) => if isKey a then some (dGet es a).isSome else .none
    | _ => .none
  | .str s => match a with
    | .str [c] => some (s.contains c)
    | _ => .none
  | _ => .none

noncomputable def cmpop (op : CO) (a b : V) (h : Hp) : R V :=
  match op with
  | .eq => okO (veq h a b) h
  | .ne => okO ((veq h a b).map (!·)) h
  | .lt => onI a fun a => onI b fun b => okB (decide (a < b)) h
  | .le => onI a fun a => onI b fun b => okB (decide (a ≤ b)) h
  | .gt => onI a fun a => onI b fun b => okB (decide (a > b)) h
  | .ge => onI a fun a => onI b fun b => okB (decide (a ≥ b)) h
  | .isin => okO (vin h a b) h
  | .notin => okO ((vin h a b).map (!·)) h
  | .is => .bad
  | .isnot => .bad

noncomputable def truth : V → Option Bool
  | .bool b => some b
  | _ => .none

noncomputable def idx (i : Int) (n : Nat) : Option Nat :=
  if 0 ≤ i then (if i.toNat < n then some i.toNat else .none)
  else .none

noncomputable def getItem (o i : V) (h : Hp) : R V :=
  match o, i with
  | .ref r, _ => match h[r]?, i with
    | some (.list l), .int k => match idx k l.length with
      | some j => match l[j]? with | some v => .ok v h | .none => .bad
      | .none => .bad
    | some (.dict es), k => if isKey k then (match dGet es k with | some v => .ok v h | .none => .bad) else .bad
    | _, _ => .bad
  | .tup l, .int k => match idx k l.length with
    | some j => match l[j]? with | some v => .ok v h | .none => .bad
    | .none => .bad
  | .fz l, .int k => match idx k l.length with
    | some j => match l[j]? with | some v => .ok v h | .none => .bad
    | .none => .bad
  | .str s, .int k => match idx k s.length with
    | some j => match s[j]? with | some c => .ok (.str [c]) h | .none => .bad
    | .none => .bad
  | _, _ => .bad

noncomputable def clamp (i : Int) (n : Nat) : Nat := (max 0 (min (if i < 0 then i + n else i) n)).toNat
noncomputable def cut {α : Type} (l : List α) (lo hi : Nat) : List α := (l.drop lo).take (hi - lo)
noncomputable def bound (v : V) (n : Nat) (d : Nat) : Option Nat :=
  match v with
  | .none => some d
  | .int i => some (clamp i n)
  | _ => .none

noncomputable def getSlice (o lo hi : V) (h : Hp) : R V :=
  match o with
  | .ref r => match h[r]? with
    | some (.list l) => match bound lo l.length 0, bound hi l.length l.length with
      | some a, some b => alloc (.list (cut l a b)) h
      | _, _ => .bad
    | _ => .bad
  | .str s => match bound lo s.length 0, bound hi s.length s.length with
    | some a, some b => .ok (.str (cut s a b)) h
    | _, _ => .bad
  | .fz l => match bound lo l.length 0, bound hi l.length l.length with
    | some a, some b => alloc (.list (cut l a b)) h
    | _, _ => .bad
  | .tup l => match lo, hi with
    | .none, .int k => if 0 ≤ k ∧ k.toNat < l.length then .ok (.tup (l.take k.toNat)) h else .bad
    | _, _ => .bad
  | _ => .bad

noncomputable def setItem (o i v : V) (h : Hp) : R V :=
  match o with
  | .ref r => match h[r]?, i with
    | some (.list l), .int k => if 0 ≤ k ∧ k.toNat < l.length then .ok .none (h.set r (.list (l.set k.toNat v))) else .bad
    | some (.dict es), k => if isKey k ∧ es.length < mostLen then .ok .none (h.set r (.dict (dSet es k v))) else .bad
    | _, _ => .bad
  | _ => .bad

noncomputable def getAttr (o : V) (f : String) (h : Hp) : R V :=
  match o with
  | .ref r => match h[r]? with
    | some (.inst _ fs) => match fs.lookup f with | some v => .ok v h | .none => .bad
    | _ => .bad
  | _ => .bad
noncomputable def setF : List (String × V) → String → V → List (String × V)
  | [], f, v => [(f, v)]
  | (g, w) :: r, f, v => if g = f then (g, v) :: r else (g, w) :: setF r f v
noncomputable def setAttr (o : V) (f : String) (v : V) (h : Hp) : R V :=
  match o with
  | .ref r => match h[r]? with
    | some (.inst C fs) => if fs.length < 100 then .ok .none (h.set r (.inst C (setF fs f v))) else .bad
    | _ => .bad
  | _ => .bad

noncomputable def digitsOf (n : Nat) : List Nat := (Nat.repr n).toList.map Char.toNat

noncomputable def nth (v : V) (h : Hp) (k : Nat) : Option (Option V) :=
  match v with
  | .ref r => match h[r]? with
    | some (.list l) => some l[k]?
    | _ => .none
  | .str s => some (s[k]?.map fun c => .str [c])
  | .rng a b c => if c = 1 then some (if a + k < b then some (.int (a + k)) else .none) else .none
  | _ => .none

noncomputable def bools? : List V → Option (List Bool)
  | [] => some []
  | .bool b :: r => (bools? r).map (b :: ·)
  | _ => .none

noncomputable def a1 (as : List V) (k : V → R V) : R V := match as with
  | [a] => k a
  | _ => .bad
noncomputable def a2 (as : List V) (k : V → V → R V) : R V := match as with
  | [a, b] => k a b
  | _ => .bad
noncomputable def bLen (h : Hp) (v : V) : R V := match v with
  | .fz l => .ok (.int l.length) h
  | .str s => .ok (.int s.length) h
  | v => onL v h fun l => .ok (.int l.length) h
noncomputable def bRange (as : List V) (h : Hp) : R V := match as with
  | [a] => onI a fun n => if n.natAbs < 1000000000000 then .ok (.rng 0 n 1) h else .bad
  | [a, b] => onI a fun a => onI b fun b => if a.natAbs < 1000000000000 ∧ b.natAbs < 1000000000000 then .ok (.rng a b 1) h else .bad
  | _ => .bad
noncomputable def bList (h : Hp) (v : V) : R V := onL v h fun l => alloc (.list l) h
noncomputable def keysAt (v : V) (h : Hp) : Option (List V) := match v with
  | .ref r => (match h[r]? with
    | some (.dict es) => some (es.map (·.1))
    | _ => .none)
  | _ => .none
noncomputable def bSorted (h : Hp) (v : V) : R V := match keysAt v h with
  | some l => (match intsOf l with
    | some x => if x.1.Pairwise (· ≤ ·) then alloc (.list l) h else .bad
    | .none => .bad)
  | .none => .bad
noncomputable def setLen (l : List V) (h : Hp) : R V := if l.all (fun v => (tupOf v).isSome) = true ∧ l.length < 9000 ∧ l.Pairwise (fun x y => keyEq x y = false) then .ok (.int l.length) h else .bad
noncomputable def bInt (h : Hp) (v : V) : R V := match v with
  | .bool b => .ok (.int (if b then 1 else 0)) h
  | _ => .bad
noncomputable def bfn (b : String) (as : List V) (h : Hp) : R V :=
  if b = "len" then a1 as (bLen h)
  else if b = "range" then bRange as h
  else if b = "min" then a2 as fun a b => onI a fun a => onI b fun b => .ok (.int (if b < a then b else a)) h
  else if b = "list" then a1 as (bList h)
  else if b = "str" then a1 as fun a => onI a fun i => if 0 ≤ i ∧ i < 1000000000 then .ok (.str (digitsOf i.toNat)) h else .bad
  else if b = "int" then a1 as (bInt h)
  else if b = "max" then a2 as fun a b => onI a fun a => onI b fun b => .ok (.int (if b > a then b else a)) h
  else if b = "sorted" then a1 as (bSorted h)
  else if b = "all" then a1 as fun a => onL a h fun l => okO ((bools? l).map fun bs => bs.all id) h
  else .bad

noncomputable def isaTs : List String := ["int", "bool", "str"]
noncomputable def isa (P : Pg) (t : String) (v : V) (h : Hp) : R V :=
  match v with
  | .int _ => okB (t == "int") h
  | .str _ => okB (t == "str") h
  | _ => .bad

noncomputable def listMs : List String := ["append", "pop"]
noncomputable def a0 (as : List V) (k : R V) : R V := match as with
  | [] => k
  | _ => .bad
noncomputable def objMeth (m : String) (r : Nat) (o : Ob) (as : List V) (h : Hp) : R V :=
  match o with
  | .list l => if m = "append" then a1 as fun v => if l.length < mostLen then .ok .none (h.set r (.list (l ++ [v]))) else .bad
    else if m = "pop" then a0 as (match l.getLast? with
      | some v => .ok v (h.set r (.list l.dropLast))
      | .none => .bad)
    else .bad
  | _ => .bad

noncomputable def CallT := Fid → List V → Hp → R V

noncomputable def LF : Nat := 100000

noncomputable def compL (cond elt : V → Hp → R V) (src : V) : Nat → Nat → List V → Hp → R (List V)
  | 0, _, _, _ => .bad
  | n + 1, k, acc, h => match nth src h k with
    | .none => .bad
    | some .none => .ok acc h
    | some (some v) => (cond v h).bind fun c h => match truth c with
      | .none => .bad
      | some false => compL cond elt src n (k + 1) acc h
      | some true => (elt v h).bind fun x h => if acc.length < mostLen then compL cond elt src n (k + 1) (acc ++ [x]) h else .bad

mutual
noncomputable def ev (P : Pg) (cl : CallT) (g : Gm) : E → Hp → R V
  | .none, h => .ok .none h
  | .bool b, h => .ok (.bool b) h
  | .int i, h => .ok (.int i) h
  | .str s, h => .ok (.str (cps s)) h
  | .var i, h => match g[i]? with
    | some (some v) => .ok v h
    | _ => .bad
  | .glob x, h => match P.glob x with
    | some v => .ok v h
    | .none => .bad
  | .bin op l r, h => (ev P cl g l h).bind fun a h => (ev P cl g r h).bind fun b h => binop op a b h
  | .neg e, h => (ev P cl g e h).bind fun a h => match a with
    | .int i => .ok (.int (-i)) h
    | _ => .bad
  | .not e, h => (ev P cl g e h).bind fun a h => match truth a with
    | some b => .ok (.bool (!b)) h
    | .none => .bad
  | .and es, h => evAnd P cl g es h
  | .or es, h => evOr P cl g es h
  | .cmp op l r, h => (ev P cl g l h).bind fun a h => (ev P cl g r h).bind fun b h => cmpop op a b h
  | .cmp2 l o1 m o2 r, h => (ev P cl g l h).bind fun a h => (ev P cl g m h).bind fun b h => (cmpop o1 a b h).bind fun c h => match truth c with
    | some true => (ev P cl g r h).bind fun d h => cmpop o2 b d h
    | some false => .ok c h
    | .none => .bad
  | .sub o i, h => (ev P cl g o h).bind fun a h => (ev P cl g i h).bind fun b h => getItem a b h
  | .slc o lo hi, h => (ev P cl g o h).bind fun a h => (ev P cl g lo h).bind fun b h => (ev P cl g hi h).bind fun c h => getSlice a b c h
  | .attr o f, h => (ev P cl g o h).bind fun a h => getAttr a f h
  | .call f as, h => (evs P cl g as h).bind fun vs h => cl ("", f) vs h
  | .make C as, h => (evs P cl g as h).bind fun vs h => match P.fn (C, "__init__") with
    | some _ => (cl (C, "__init__") (.ref h.length :: vs) (h ++ [.inst C []])).bind fun v h' => match v with
      | .none => .ok (.ref h.length) h'
      | _ => .bad
    | .none => .bad
  | .meth o m as, h => (ev P cl g o h).bind fun a h => match a with
    | .int i => if m = "bit_length" then (match as with | [] => .ok (.int (bitsOf i)) h | _ => .bad) else .bad
    | .ref r => match h[r]? with
      | some (.inst C fs) => match P.fn (C, m), fs.lookup m with
        | some _, .none => (evs P cl g as h).bind fun vs h => cl (C, m) (.ref r :: vs) h
        | _, _ => .bad
      | some (.list _) => if listMs.contains m then (evs P cl g as h).bind fun vs h => match h[r]? with
          | some o => objMeth m r o vs h
          | .none => .bad
        else .bad
      | _ => .bad
    | _ => .bad
  | .bi b as, h => (evs P cl g as h).bind fun vs h => bfn b vs h
  | .isa e t, h => (ev P cl g e h).bind fun a h => isa P t a h
  | .list es, h => (evs P cl g es h).bind fun vs h => if vs.length ≤ mostLen then alloc (.list vs) h else .bad
  | .tup es, h => (evs P cl g es h).bind fun vs h => if vs.length ≤ mostLen then .ok (.tup vs) h else .bad
  | .dict, h => alloc (.dict []) h
  | .comp elt t it cond, h => (ev P cl g it h).bind fun src h =>
      (compL (fun v h => ev P cl (g.set t (some v)) cond h) (fun v h => ev P cl (g.set t (some v)) elt h) src LF 0 [] h).bind fun l h => alloc (.list l) h
  | .lset e, h => (ev P cl g e h).bind fun a h => onL a h fun l => setLen l h
noncomputable def evs (P : Pg) (cl : CallT) (g : Gm) : List E → Hp → R (List V)
  | [], h => .ok [] h
  | e :: r, h => (ev P cl g e h).bind fun v h => (evs P cl g r h).bind fun vs h => .ok (v :: vs) h
noncomputable def evAnd (P : Pg) (cl : CallT) (g : Gm) : List E → Hp → R V
  | [], _ => .bad
  | [e], h => ev P cl g e h
  | e :: r, h => (ev P cl g e h).bind fun v h => match truth v with
    | some true => evAnd P cl g r h
    | some false => .ok v h
    | .none => .bad
noncomputable def evOr (P : Pg) (cl : CallT) (g : Gm) : List E → Hp → R V
  | [], _ => .bad
  | [e], h => ev P cl g e h
  | e :: r, h => (ev P cl g e h).bind fun v h => match truth v with
    | some true => .ok v h
    | some false => evOr P cl g r h
    | .none => .bad
end

noncomputable def bindAll : List Nat → List V → Gm → Option Gm
  | [], [], g => some g
  | x :: xs, v :: vs, g => bindAll xs vs (g.set x (some v))
  | _, _, _ => .none

noncomputable def bindU (xs : List Nat) (v : V) (g : Gm) (h : Hp) : Option Gm :=
  match v with
  | .ref r => (match h[r]? with
    | some (.list l) => bindAll xs l g
    | _ => .none)
  | .tup l => bindAll xs l g
  | _ => .none
noncomputable def bindT (xs : List Nat) (v : V) (g : Gm) (_ : Hp) : Option Gm :=
  match xs with
  | [x] => some (g.set x (some v))
  | _ => match v with
    | .tup l => bindAll xs l g
    | _ => .none

noncomputable def forL (body : Gm → Hp → RS) (xs : List Nat) (src : V) : Nat → Nat → Gm → Hp → RS
  | 0, _, _, _ => .bad
  | n + 1, k, g, h => match nth src h k with
    | .none => .bad
    | some .none => .nx g h
    | some (some v) => match bindT xs v g h with
      | .none => .bad
      | some g => match body g h with
        | .nx g h => forL body xs src n (k + 1) g h
        | r => r

noncomputable def nthL (v : V) (h : Hp) (k : Nat) : Option (Option V) :=
  match v with
  | .ref r => match h[r]? with
    | some (.list l) => some l[k]?
    | _ => .none
  | _ => .none

noncomputable def forEL (body : Gm → Hp → RS) (x y : Nat) (src : V) : Nat → Nat → Gm → Hp → RS
  | 0, _, _, _ => .bad
  | n + 1, k, g, h => match nthL src h k with
    | .none => .bad
    | some .none => .nx g h
    | some (some v) => match body ((g.set x (some (.int k))).set y (some v)) h with
        | .nx g h => forEL body x y src n (k + 1) g h
        | r => r

noncomputable def whileL (c : Gm → Hp → R V) (body : Gm → Hp → RS) : Nat → Gm → Hp → RS
  | 0, _, _ => .bad
  | n + 1, g, h => (c g h).bindS g fun v h => match truth v with
    | .none => .bad
    | some false => .nx g h
    | some true => match body g h with
      | .nx g h => whileL c body n g h
      | r => r

mutual
noncomputable def ex (P : Pg) (cl : CallT) : S → Gm → Hp → RS
  | .expr e, g, h => (ev P cl g e h).bindS g fun _ h => .nx g h
  | .asg x e, g, h => (ev P cl g e h).bindS g fun v h => .nx (g.set x (some v)) h
  | .unp xs e, g, h => (ev P cl g e h).bindS g fun v h => match bindU xs v g h with
    | some g => .nx g h
    | .none => .bad
  | .asgA o f e, g, h => (ev P cl g e h).bindS g fun v h => (ev P cl g o h).bindS g fun a h => (setAttr a f v h).bindS g fun _ h => .nx g h
  | .asgI o i e, g, h => (ev P cl g e h).bindS g fun v h => (ev P cl g o h).bindS g fun a h => (ev P cl g i h).bindS g fun b h => (setItem a b v h).bindS g fun _ h => .nx g h
  | .iff c t f, g, h => (ev P cl g c h).bindS g fun v h => match truth v with
    | some true => exs P cl t g h
    | some false => exs P cl f g h
    | .none => .bad
  | .whil c b, g, h => whileL (fun g h => ev P cl g c h) (fun g h => exs P cl b g h) LF g h
  | .forr xs it b, g, h => (ev P cl g it h).bindS g fun src h => forL (fun g h => exs P cl b g h) xs src LF 0 g h
  | .forE x y it b, g, h => (ev P cl g it h).bindS g fun src h => forEL (fun g h => exs P cl b g h) x y src LF 0 g h
  | .ret e, g, h => (ev P cl g e h).bindS g fun v h => .ret v h
  | .ret0, _, h => .ret .none h
  | .raise _ _, _, _ => .bad
  | .pass, g, h => .nx g h
noncomputable def exs (P : Pg) (cl : CallT) : List S → Gm → Hp → RS
  | [], g, h => .nx g h
  | s :: r, g, h => match ex P cl s g h with
    | .nx g h => exs P cl r g h
    | o => o
end

section
variable {P : Pg} {cl : CallT} {g : Gm} {h : Hp}
theorem ev_none : ev P cl g .none h = .ok .none h := rfl
theorem ev_bool {b : Bool} : ev P cl g (.bool b) h = .ok (.bool b) h := rfl
theorem ev_var {i : Nat} : ev P cl g (.var i) h = match g[i]? with
    | some (some v) => .ok v h
    | _ => .bad := rfl
theorem ev_glob {x : String} : ev P cl g (.glob x) h = match P.glob x with
    | some v => .ok v h
    | .none => .bad := rfl
theorem ev_bin {op : BO} {l r : E} : ev P cl g (.bin op l r) h = (ev P cl g l h).bind fun a h => (ev P cl g r h).bind fun b h => binop op a b h := rfl
theorem ev_neg {e : E} : ev P cl g (.neg e) h = (ev P cl g e h).bind fun a h => match a with
    | .int i => .ok (.int (-i)) h
    | _ => .bad := rfl
theorem ev_not {e : E} : ev P cl g (.not e) h = (ev P cl g e h).bind fun a h => match truth a with
    | some b => .ok (.bool (!b)) h
    | .none => .bad := rfl
theorem ev_and {es : List E} : ev P cl g (.and es) h = evAnd P cl g es h := rfl
theorem ev_or {es : List E} : ev P cl g (.or es) h = evOr P cl g es h := rfl
theorem ev_cmp {op : CO} {l r : E} : ev P cl g (.cmp op l r) h = (ev P cl g l h).bind fun a h => (ev P cl g r h).bind fun b h => cmpop op a b h := rfl
theorem ev_cmp2 {l : E} {o1 : CO} {m : E} {o2 : CO} {r : E} : ev P cl g (.cmp2 l o1 m o2 r) h = (ev P cl g l h).bind fun a h => (ev P cl g m h).bind fun b h => (cmpop o1 a b h).bind fun c h => match truth c with
    | some true => (ev P cl g r h).bind fun d h => cmpop o2 b d h
    | some false => .ok c h
    | .none => .bad := rfl
theorem ev_sub {o i : E} : ev P cl g (.sub o i) h = (ev P cl g o h).bind fun a h => (ev P cl g i h).bind fun b h => getItem a b h := rfl
theorem ev_slc {o lo hi : E} : ev P cl g (.slc o lo hi) h = (ev P cl g o h).bind fun a h => (ev P cl g lo h).bind fun b h => (ev P cl g hi h).bind fun c h => getSlice a b c h := rfl
theorem ev_attr {o : E} {f : String} : ev P cl g (.attr o f) h = (ev P cl g o h).bind fun a h => getAttr a f h := rfl
theorem ev_call {f : String} {as : List E} : ev P cl g (.call f as) h = (evs P cl g as h).bind fun vs h => cl ("", f) vs h := rfl
theorem ev_make {C : String} {as : List E} : ev P cl g (.make C as) h = (evs P cl g as h).bind fun vs h => match P.fn (C, "__init__") with
    | some _ => (cl (C, "__init__") (.ref h.length :: vs) (h ++ [.inst C []])).bind fun v h' => match v with
      | .none => .ok (.ref h.length) h'
      | _ => .bad
    | .none => .bad := rfl
theorem ev_meth {o : E} {m : String} {as : List E} : ev P cl g (.meth o m as) h = (ev P cl g o h).bind fun a h => match a with
    | .int i => if m = "bit_length" then (match as with | [] => .ok (.int (bitsOf i)) h | _ => .bad) else .bad
    | .ref r => match h[r]? with
      | some (.inst C fs) => match P.fn (C, m), fs.lookup m with
        | some _, .none => (evs P cl g as h).bind fun vs h => cl (C, m) (.ref r :: vs) h
        | _, _ => .bad
      | some (.list _) => if listMs.contains m then (evs P cl g as h).bind fun vs h => match h[r]? with
          | some o => objMeth m r o vs h
          | .none => .bad
        else .bad
      | _ => .bad
    | _ => .bad := rfl
theorem ev_bi {b : String} {as : List E} : ev P cl g (.bi b as) h = (evs P cl g as h).bind fun vs h => bfn b vs h := rfl
theorem ev_isa {e : E} {t : String} : ev P cl g (.isa e t) h = (ev P cl g e h).bind fun a h => isa P t a h := rfl
theorem ev_list {es : List E} : ev P cl g (.list es) h = (evs P cl g es h).bind fun vs h => if vs.length ≤ mostLen then alloc (.list vs) h else .bad := rfl
theorem ev_tup {es : List E} : ev P cl g (.tup es) h = (evs P cl g es h).bind fun vs h => if vs.length ≤ mostLen then .ok (.tup vs) h else .bad := rfl
theorem ev_dict : ev P cl g .dict h = alloc (.dict []) h := rfl
theorem ev_comp {elt : E} {t : Nat} {it cond : E} : ev P cl g (.comp elt t it cond) h = (ev P cl g it h).bind fun src h =>
      (compL (fun v h => ev P cl (g.set t (some v)) cond h) (fun v h => ev P cl (g.set t (some v)) elt h) src LF 0 [] h).bind fun l h => alloc (.list l) h := rfl
theorem ev_lset {e : E} : ev P cl g (.lset e) h = (ev P cl g e h).bind fun a h => onL a h fun l => setLen l h := rfl
theorem evs_nil : evs P cl g [] h = .ok [] h := rfl
theorem evs_cons {e : E} {r : List E} : evs P cl g (e :: r) h = (ev P cl g e h).bind fun v h => (evs P cl g r h).bind fun vs h => .ok (v :: vs) h := rfl
theorem ex_expr {e : E} : ex P cl (.expr e) g h = (ev P cl g e h).bindS g fun _ h => .nx g h := rfl
theorem ex_asg {x : Nat} {e : E} : ex P cl (.asg x e) g h = (ev P cl g e h).bindS g fun v h => .nx (g.set x (some v)) h := rfl
theorem ex_unp {xs : List Nat} {e : E} : ex P cl (.unp xs e) g h = (ev P cl g e h).bindS g fun v h => match bindU xs v g h with
    | some g => .nx g h
    | .none => .bad := rfl
theorem ex_asgA {o : E} {f : String} {e : E} : ex P cl (.asgA o f e) g h = (ev P cl g e h).bindS g fun v h => (ev P cl g o h).bindS g fun a h => (setAttr a f v h).bindS g fun _ h => .nx g h := rfl
theorem ex_asgI {o i e : E} : ex P cl (.asgI o i e) g h = (ev P cl g e h).bindS g fun v h => (ev P cl g o h).bindS g fun a h => (ev P cl g i h).bindS g fun b h => (setItem a b v h).bindS g fun _ h => .nx g h := rfl
theorem ex_iff {c : E} {t f : List S} : ex P cl (.iff c t f) g h = (ev P cl g c h).bindS g fun v h => match truth v with
    | some true => exs P cl t g h
    | some false => exs P cl f g h
    | .none => .bad := rfl
theorem ex_whil {c : E} {b : List S} : ex P cl (.whil c b) g h = whileL (fun g h => ev P cl g c h) (fun g h => exs P cl b g h) LF g h := rfl
theorem ex_forr {xs : List Nat} {it : E} {b : List S} : ex P cl (.forr xs it b) g h = (ev P cl g it h).bindS g fun src h => forL (fun g h => exs P cl b g h) xs src LF 0 g h := rfl
theorem ex_forE {x y : Nat} {it : E} {b : List S} : ex P cl (.forE x y it b) g h = (ev P cl g it h).bindS g fun src h => forEL (fun g h => exs P cl b g h) x y src LF 0 g h := rfl
theorem ex_ret {e : E} : ex P cl (.ret e) g h = (ev P cl g e h).bindS g fun v h => .ret v h := rfl
theorem ex_ret0  : ex P cl (.ret0) g h = .ret .none h := rfl
theorem exs_cons {s : S} {r : List S} : exs P cl (s :: r) g h = (match ex P cl s g h with | .nx g h => exs P cl r g h | o => o) := rfl
end

noncomputable def RS.back : RS → R V
  | .nx _ h => .ok .none h
  | .ret v h => .ok v h
  | .bad => .bad

noncomputable def run (P : Pg) : Nat → CallT
  | 0, _, _, _ => .bad
  | n + 1, f, vs, h => match P.fn f with
    | some d => if vs.length = d.arity then (exs P (run P n) d.body (vs.map some ++ List.replicate (d.names.length - d.arity) .none) h).back else .bad
    | .none => .bad

end Mine
end

namespace Mine
noncomputable def f_size_of : FD :=
  { arity := 1, names := ["height", "size", "turn"], body := [
    .asg 1 (.int 1),
    .forr [2] (.bi "range" [.var 0]) [.asg 1 (.bin .mul (.var 1) (.int 2))],
    .ret (.var 1)] }
noncomputable def f_digits : FD :=
  { arity := 1, names := ["count"], body := [
    .ret (.meth (.var 0) "bit_length" [])] }
noncomputable def f_parted : FD :=
  { arity := 1, names := ["count", "found", "place", "turn", "height", "size"], body := [
    .asg 1 (.list []),
    .asg 2 (.int 0),
    .forr [3] (.bi "range" [.call "digits" [.var 0]]) [.asg 4 (.bin .sub (.bin .sub (.call "digits" [.var 0]) (.int 1)) (.var 3)), .asg 5 (.call "size_of" [.var 4]), .iff (.cmp .ge (.bin .sub (.var 0) (.var 2)) (.var 5)) [.expr (.meth (.var 1) "append" [.tup [.var 4, .bin .fdiv (.var 2) (.var 5)]]), .asg 2 (.bin .add (.var 2) (.var 5))] []],
    .ret (.var 1)] }
noncomputable def f_law_cell_at : FD :=
  { arity := 2, names := ["_law_script", "_law_k"], body := [
    .iff (.cmp .lt (.var 1) (.bi "len" [.var 0])) [.ret (.sub (.var 0) (.var 1))] [],
    .ret (.int 0)] }
noncomputable def f_law_whole : FD :=
  { arity := 1, names := ["_law_found"], body := [
    .ret (.and [.isa (.var 0) "int", .not (.isa (.var 0) "bool")])] }
noncomputable def f_law_digits : FD :=
  { arity := 1, names := ["_law_count", "_law_found"], body := [
    .asg 1 (.int 0),
    .whil (.cmp .gt (.var 0) (.int 0)) [.asg 0 (.bin .fdiv (.var 0) (.int 2)), .asg 1 (.bin .add (.var 1) (.int 1))],
    .ret (.var 1)] }
noncomputable def f_law_size : FD :=
  { arity := 1, names := ["_law_height", "_law_size_here", "_law_turn"], body := [
    .asg 1 (.int 1),
    .forr [2] (.bi "range" [.var 0]) [.asg 1 (.bin .mul (.var 1) (.int 2))],
    .ret (.var 1)] }
noncomputable def f_law_parted : FD :=
  { arity := 1, names := ["_law_count", "_law_found", "_law_place", "_law_height"], body := [
    .asg 1 (.list []),
    .asg 2 (.int 0),
    .forr [3] (.bi "range" [.call "_law_digits" [.var 0], .neg (.int 1), .neg (.int 1)]) [.iff (.cmp .le (.bin .add (.var 2) (.call "_law_size" [.var 3])) (.var 0)) [.expr (.meth (.var 1) "append" [.tup [.var 3, .bin .fdiv (.var 2) (.call "_law_size" [.var 3])]]), .asg 2 (.bin .add (.var 2) (.call "_law_size" [.var 3]))] []],
    .ret (.var 1)] }
noncomputable def f_is_whole : FD :=
  { arity := 1, names := ["thing"], body := [
    .ret (.and [.isa (.var 0) "int", .not (.isa (.var 0) "bool")])] }
noncomputable def f_is_row : FD :=
  { arity := 1, names := ["thing", "sign"], body := [
    .ret (.and [.isa (.var 0) "str", .cmp .le (.bi "len" [.var 0]) (.glob "MOST_SIGNS"), .bi "all" [.comp (.cmp .isin (.var 1) (.glob "SIGNS")) 1 (.var 0) (.bool true)]])] }
noncomputable def f_need_row : FD :=
  { arity := 1, names := ["thing"], body := [
    .iff (.not (.call "is_row" [.var 0])) [.raise "NoRow" "no row"] []] }
noncomputable def f_Ledger_init : FD :=
  { arity := 1, names := ["self"], body := [
    .asgA (.var 0) "numbers" .dict,
    .asgA (.var 0) "things" (.list [])] }
noncomputable def f_Ledger_number_of : FD :=
  { arity := 2, names := ["self", "thing"], body := [
    .iff (.cmp .notin (.var 1) (.attr (.var 0) "numbers")) [.asgI (.attr (.var 0) "numbers") (.var 1) (.bi "len" [.attr (.var 0) "things"]), .expr (.meth (.attr (.var 0) "things") "append" [.var 1])] [],
    .ret (.sub (.attr (.var 0) "numbers") (.var 1))] }
noncomputable def f_Ledger_need_sum : FD :=
  { arity := 2, names := ["self", "number"], body := [
    .iff (.or [.not (.call "is_whole" [.var 1]), .not (.cmp2 (.int 0) .le (.var 1) .lt (.bi "len" [.attr (.var 0) "things"]))]) [.raise "NoSum" "no such sum"] []] }
noncomputable def f_Ledger_of_row : FD :=
  { arity := 2, names := ["self", "row"], body := [
    .expr (.call "need_row" [.var 1]),
    .ret (.meth (.var 0) "number_of" [.var 1])] }
noncomputable def f_Ledger_of_pair : FD :=
  { arity := 3, names := ["self", "one", "other"], body := [
    .expr (.meth (.var 0) "need_sum" [.var 1]),
    .expr (.meth (.var 0) "need_sum" [.var 2]),
    .ret (.meth (.var 0) "number_of" [.tup [.var 1, .var 2]])] }
noncomputable def f_Ledger_what : FD :=
  { arity := 2, names := ["self", "number"], body := [
    .expr (.meth (.var 0) "need_sum" [.var 1]),
    .ret (.sub (.attr (.var 0) "things") (.var 1))] }
noncomputable def f_Ledger_many : FD :=
  { arity := 1, names := ["self"], body := [
    .ret (.bi "len" [.attr (.var 0) "things"])] }
noncomputable def f_law_mix : FD :=
  { arity := 2, names := ["_law_number", "_law_k", "_law_more"], body := [
    .asg 2 (.bin .mod (.bin .add (.bin .add (.bin .mul (.var 0) (.int 48271)) (.bin .mul (.var 1) (.int 69621))) (.int 11)) (.int 1000003)),
    .ret (.bin .mod (.bin .add (.bin .add (.bin .mul (.var 2) (.var 2)) (.bin .mul (.int 7) (.var 2))) (.var 1)) (.int 999983))] }
noncomputable def f_law_text : FD :=
  { arity := 1, names := ["_law_cell", "_law_signs", "_law_many", "_law_text_here", "_law_k"], body := [
    .asg 1 (.str "abcdefghijklmnopqrstuvwxyz0123456789 "),
    .asg 2 (.bin .mod (.var 0) (.int 9)),
    .iff (.cmp .eq (.bin .mod (.bin .fdiv (.var 0) (.int 9)) (.int 6)) (.int 2)) [.ret (.bin .add (.bin .add (.bi "str" [.bin .mod (.bin .fdiv (.var 0) (.int 54)) (.int 40)]) (.sub (.list [.str " ", .str ""]) (.bin .mod (.bin .fdiv (.var 0) (.int 2160)) (.int 2)))) (.bi "str" [.bin .mod (.bin .fdiv (.var 0) (.int 4320)) (.int 40)]))] [],
    .iff (.cmp .eq (.bin .mod (.bin .fdiv (.var 0) (.int 9)) (.int 6)) (.int 1)) [.asg 2 (.sub (.list [.int 40, .int 39, .int 0, .int 1]) (.bin .mod (.bin .fdiv (.var 0) (.int 54)) (.int 4)))] [],
    .asg 3 (.str ""),
    .forr [4] (.bi "range" [.var 2]) [.asg 3 (.bin .add (.var 3) (.sub (.var 1) (.bin .mod (.bin .fdiv (.call "_law_mix" [.var 0, .var 4]) (.int 7)) (.int 37))))],
    .ret (.var 3)] }
noncomputable def f_law_near : FD :=
  { arity := 2, names := ["_law_text_here", "_law_cell", "_law_at", "_law_sign"], body := [
    .asg 2 (.bin .mod (.var 1) (.bin .add (.int 1) (.bi "len" [.var 0]))),
    .asg 3 (.sub (.str "abcdefghijklmnopqrstuvwxyz0123456789 ") (.bin .mod (.bin .fdiv (.var 1) (.int 41)) (.int 37))),
    .iff (.and [.cmp .lt (.var 2) (.bi "len" [.var 0]), .cmp .ne (.sub (.var 0) (.var 2)) (.var 3)]) [.ret (.bin .add (.bin .add (.slc (.var 0) .none (.var 2)) (.var 3)) (.slc (.var 0) (.bin .add (.var 2) (.int 1)) .none))] [],
    .iff (.cmp .lt (.bi "len" [.var 0]) (.int 40)) [.ret (.bin .add (.bin .add (.slc (.var 0) .none (.var 2)) (.var 3)) (.slc (.var 0) (.var 2) .none))] [],
    .ret (.slc (.var 0) (.int 1) .none)] }
noncomputable def f_law_room : FD :=
  { arity := 3, names := ["_law_script", "_law_small", "_law_great"], body := [
    .iff (.cmp .gt (.bi "len" [.var 0]) (.int 63)) [.ret (.var 2)] [],
    .ret (.var 1)] }
noncomputable def f_Book_init : FD :=
  { arity := 3, names := ["self", "ledger", "rows", "row"], body := [
    .forr [3] (.var 2) [.expr (.call "need_row" [.var 3])],
    .iff (.cmp .gt (.bi "len" [.var 2]) (.glob "MOST_ROWS")) [.raise "Full" "too many rows"] [],
    .asgA (.var 0) "ledger" (.var 1),
    .asgA (.var 0) "lines" (.list []),
    .asgA (.var 0) "levels" (.list [.list []]),
    .forr [3] (.var 2) [.expr (.meth (.var 0) "add" [.var 3])]] }
noncomputable def f_Book_need_place : FD :=
  { arity := 2, names := ["self", "place"], body := [
    .iff (.or [.not (.call "is_whole" [.var 1]), .not (.cmp2 (.int 0) .le (.var 1) .lt (.bi "len" [.attr (.var 0) "lines"]))]) [.raise "NoPlace" "no such place"] []] }
noncomputable def f_Book_half_sum : FD :=
  { arity := 3, names := ["self", "height", "number", "below"], body := [
    .asg 3 (.sub (.attr (.var 0) "levels") (.bin .sub (.var 1) (.int 1))),
    .ret (.meth (.attr (.var 0) "ledger") "of_pair" [.sub (.var 3) (.bin .mul (.int 2) (.var 2)), .sub (.var 3) (.bin .add (.bin .mul (.int 2) (.var 2)) (.int 1))])] }
noncomputable def f_Book_put : FD :=
  { arity := 3, names := ["self", "place", "row", "height", "number"], body := [
    .expr (.meth (.var 0) "need_place" [.var 1]),
    .expr (.call "need_row" [.var 2]),
    .asgI (.attr (.var 0) "lines") (.var 1) (.var 2),
    .asgI (.sub (.attr (.var 0) "levels") (.int 0)) (.var 1) (.meth (.attr (.var 0) "ledger") "of_row" [.var 2]),
    .asg 3 (.int 1),
    .asg 4 (.bin .fdiv (.var 1) (.int 2)),
    .whil (.and [.cmp .lt (.var 3) (.bi "len" [.attr (.var 0) "levels"]), .cmp .lt (.var 4) (.bi "len" [.sub (.attr (.var 0) "levels") (.var 3)])]) [.asgI (.sub (.attr (.var 0) "levels") (.var 3)) (.var 4) (.meth (.var 0) "half_sum" [.var 3, .var 4]), .asg 3 (.bin .add (.var 3) (.int 1)), .asg 4 (.bin .fdiv (.var 4) (.int 2))],
    .ret (.var 3)] }
noncomputable def f_Book_add : FD :=
  { arity := 2, names := ["self", "row", "height"], body := [
    .expr (.call "need_row" [.var 1]),
    .iff (.cmp .ge (.bi "len" [.attr (.var 0) "lines"]) (.glob "MOST_ROWS")) [.raise "Full" "no room"] [],
    .expr (.meth (.attr (.var 0) "lines") "append" [.var 1]),
    .expr (.meth (.sub (.attr (.var 0) "levels") (.int 0)) "append" [.meth (.attr (.var 0) "ledger") "of_row" [.var 1]]),
    .asg 2 (.int 1),
    .whil (.cmp .eq (.bin .mod (.bi "len" [.sub (.attr (.var 0) "levels") (.bin .sub (.var 2) (.int 1))]) (.int 2)) (.int 0)) [.iff (.cmp .eq (.var 2) (.bi "len" [.attr (.var 0) "levels"])) [.expr (.meth (.attr (.var 0) "levels") "append" [.list []])] [], .expr (.meth (.sub (.attr (.var 0) "levels") (.var 2)) "append" [.meth (.var 0) "half_sum" [.var 2, .bi "len" [.sub (.attr (.var 0) "levels") (.var 2)]]]), .asg 2 (.bin .add (.var 2) (.int 1))],
    .ret (.var 2)] }
noncomputable def f_Book_cut : FD :=
  { arity := 1, names := ["self", "gone", "height", "level"], body := [
    .iff (.cmp .eq (.attr (.var 0) "lines") (.list [])) [.raise "NoPlace" "no row"] [],
    .expr (.meth (.attr (.var 0) "lines") "pop" []),
    .asg 1 (.int 0),
    .forE 2 3 (.attr (.var 0) "levels") [.iff (.cmp .gt (.bi "len" [.var 3]) (.meth (.var 0) "room" [.var 2])) [.expr (.meth (.var 3) "pop" []), .asg 1 (.bin .add (.var 1) (.int 1))] []],
    .ret (.var 1)] }
noncomputable def f_Book_room : FD :=
  { arity := 2, names := ["self", "height", "many", "turn"], body := [
    .asg 2 (.bi "len" [.attr (.var 0) "lines"]),
    .forr [3] (.bi "range" [.var 1]) [.asg 2 (.bin .fdiv (.var 2) (.int 2))],
    .ret (.var 2)] }
noncomputable def f_Book_count : FD :=
  { arity := 1, names := ["self"], body := [
    .ret (.bi "len" [.attr (.var 0) "lines"])] }
noncomputable def f_Book_row : FD :=
  { arity := 2, names := ["self", "place"], body := [
    .expr (.meth (.var 0) "need_place" [.var 1]),
    .ret (.sub (.attr (.var 0) "lines") (.var 1))] }
noncomputable def f_Book_rows : FD :=
  { arity := 1, names := ["self"], body := [
    .ret (.bi "list" [.attr (.var 0) "lines"])] }
noncomputable def f_law_rows : FD :=
  { arity := 2, names := ["_law_cell", "_law_more", "_law_many", "_law_kinds", "_law_rows_here", "_law_k"], body := [
    .asg 2 (.bin .mod (.var 0) (.int 21)),
    .iff (.cmp .eq (.bin .mod (.bin .fdiv (.var 0) (.int 21)) (.int 8)) (.int 1)) [.asg 2 (.sub (.list [.int 16, .int 17, .int 31, .int 32, .int 33, .int 64, .int 63, .int 100, .int 128, .int 200, .int 600, .int 900]) (.bin .mod (.bin .fdiv (.var 0) (.int 168)) (.int 12)))] [],
    .asg 3 (.bin .add (.int 1) (.bin .mod (.var 1) (.int 5))),
    .asg 4 (.list []),
    .forr [5] (.bi "range" [.var 2]) [.expr (.meth (.var 4) "append" [.call "_law_text" [.bin .mod (.bin .fdiv (.call "_law_mix" [.var 1, .var 5]) (.int 3)) (.sub (.list [.var 3, .int 99991]) (.bin .fdiv (.bin .mod (.var 5) (.int 3)) (.int 2)))]])],
    .ret (.var 4)] }
noncomputable def f_Book_sum_of_2 : FD :=
  { arity := 3, names := ["self", "height", "number"], body := [
    .iff (.or [.not (.call "is_whole" [.var 1]), .not (.call "is_whole" [.var 2]), .not (.cmp2 (.int 0) .le (.var 1) .lt (.bi "len" [.attr (.var 0) "levels"]))]) [.raise "NoBlock" "no such block"] [],
    .iff (.not (.cmp2 (.int 0) .le (.var 2) .lt (.bi "len" [.sub (.attr (.var 0) "levels") (.var 1)]))) [.raise "NoBlock" "no such block"] [],
    .ret (.sub (.sub (.attr (.var 0) "levels") (.var 1)) (.var 2))] }
noncomputable def f_Looker_init : FD :=
  { arity := 3, names := ["self", "one", "other"], body := [
    .iff (.cmp .ne (.attr (.var 1) "ledger") (.attr (.var 2) "ledger")) [.raise "Strange" "books of two ledgers"] [],
    .asgA (.var 0) "one" (.var 1),
    .asgA (.var 0) "other" (.var 2),
    .asgA (.var 0) "looks" (.list []),
    .asgA (.var 0) "places" (.list [])] }
noncomputable def f_Looker_is_alike : FD :=
  { arity := 3, names := ["self", "height", "number", "alike"], body := [
    .asg 3 (.cmp .eq (.meth (.attr (.var 0) "one") "sum_of" [.var 1, .var 2]) (.meth (.attr (.var 0) "other") "sum_of" [.var 1, .var 2])),
    .expr (.meth (.attr (.var 0) "looks") "append" [.tup [.var 1, .var 2, .var 3]]),
    .ret (.var 3)] }
noncomputable def f_Looker_first_in : FD :=
  { arity := 3, names := ["self", "height", "number"], body := [
    .whil (.cmp .gt (.var 1) (.int 0)) [.asg 1 (.bin .sub (.var 1) (.int 1)), .asg 2 (.bin .mul (.int 2) (.var 2)), .iff (.meth (.var 0) "is_alike" [.var 1, .var 2]) [.asg 2 (.bin .add (.var 2) (.int 1))] []],
    .ret (.var 2)] }
noncomputable def f_first_unlike : FD :=
  { arity := 2, names := ["one", "other", "looker", "least", "height", "number", "place"], body := [
    .asg 2 (.make "Looker" [.var 0, .var 1]),
    .asg 3 (.bi "min" [.meth (.var 0) "count" [], .meth (.var 1) "count" []]),
    .forr [4, 5] (.call "parted" [.var 3]) [.iff (.not (.meth (.var 2) "is_alike" [.var 4, .var 5])) [.asg 6 (.meth (.var 2) "first_in" [.var 4, .var 5]), .ret (.tup [.var 6, .attr (.var 2) "looks"])] []],
    .iff (.cmp .ne (.meth (.var 0) "count" []) (.meth (.var 1) "count" [])) [.ret (.tup [.var 3, .attr (.var 2) "looks"])] [],
    .ret (.tup [.none, .attr (.var 2) "looks"])] }
noncomputable def f_law_twin : FD :=
  { arity := 2, names := ["_law_rows_here", "_law_cell", "_law_other", "_law_k", "_law_at", "_law_way"], body := [
    .asg 2 (.bi "list" [.var 0]),
    .forr [3] (.bi "range" [.sub (.list [.int 0, .int 1, .int 1, .int 2, .int 5]) (.bin .mod (.var 1) (.int 5))]) [.iff (.cmp .gt (.bi "len" [.var 2]) (.int 0)) [.asg 4 (.bin .mod (.call "_law_mix" [.var 1, .bin .add (.int 70) (.var 3)]) (.bi "len" [.var 2])), .iff (.cmp .eq (.bin .mod (.call "_law_mix" [.var 1, .bin .add (.int 90) (.var 3)]) (.int 3)) (.int 0)) [.asg 4 (.sub (.list [.int 0, .bin .sub (.bi "len" [.var 2]) (.int 1), .bin .fdiv (.bi "len" [.var 2]) (.int 2)]) (.bin .mod (.call "_law_mix" [.var 1, .bin .add (.int 80) (.var 3)]) (.int 3)))] [], .asgI (.var 2) (.var 4) (.call "_law_near" [.sub (.var 2) (.var 4), .call "_law_mix" [.var 1, .bin .add (.int 60) (.var 3)]])] []],
    .asg 5 (.bin .mod (.bin .fdiv (.var 1) (.int 5)) (.int 6)),
    .iff (.cmp .eq (.var 5) (.int 1)) [.asg 2 (.slc (.var 2) .none (.bin .mod (.call "_law_mix" [.var 1, .int 50]) (.bin .add (.int 1) (.bi "len" [.var 2]))))] [],
    .iff (.cmp .eq (.var 5) (.int 2)) [.asg 2 (.bin .add (.var 2) (.comp (.call "_law_text" [.call "_law_mix" [.var 1, .bin .add (.int 40) (.var 3)]]) 3 (.bi "range" [.bin .add (.int 1) (.bin .mod (.call "_law_mix" [.var 1, .int 51]) (.int 9))]) (.bool true)))] [],
    .iff (.cmp .eq (.var 5) (.int 3)) [.asg 2 (.slc (.var 2) .none (.neg (.int 1)))] [],
    .ret (.var 2)] }
noncomputable def f_law_books : FD :=
  { arity := 1, names := ["_law_script", "_law_ledger", "_law_rows_here", "_law_other", "_law_books_here", "_law_kept", "_law_cell", "_law_turn"], body := [
    .asg 1 (.make "Ledger" []),
    .asg 2 (.call "_law_rows" [.call "_law_cell_at" [.var 0, .int 0], .call "_law_cell_at" [.var 0, .int 1]]),
    .asg 3 (.call "_law_twin" [.var 2, .call "_law_cell_at" [.var 0, .int 2]]),
    .iff (.cmp .eq (.bin .mod (.bin .fdiv (.call "_law_cell_at" [.var 0, .int 1]) (.int 5)) (.int 7)) (.int 1)) [.asg 3 (.call "_law_rows" [.call "_law_cell_at" [.var 0, .int 2], .call "_law_cell_at" [.var 0, .int 1]])] [],
    .asg 4 (.list [.make "Book" [.var 1, .bi "list" [.var 2]], .make "Book" [.var 1, .bi "list" [.var 3]]]),
    .asg 5 (.list [.var 2, .var 3]),
    .forr [6] (.slc (.var 0) (.int 3) (.bin .add (.int 3) (.call "_law_room" [.var 0, .int 8, .int 30]))) [.asg 7 (.bin .mod (.var 6) (.int 2)), .expr (.call "_law_change" [.sub (.var 4) (.var 7), .sub (.var 5) (.var 7), .sub (.var 5) (.bin .sub (.int 1) (.var 7)), .bin .fdiv (.var 6) (.int 2)])],
    .ret (.tup [.var 4, .var 5])] }
noncomputable def f_law_change_2 : FD :=
  { arity := 4, names := ["_law_book", "_law_rows_here", "_law_others", "_law_cell", "_law_kind", "_law_text_here", "_law_place"], body := [
    .asg 4 (.bin .mod (.var 3) (.int 6)),
    .asg 5 (.call "_law_text" [.bin .mod (.call "_law_mix" [.var 3, .int 1]) (.sub (.list [.int 9, .int 99991]) (.bin .mod (.bin .fdiv (.var 3) (.int 6)) (.int 2)))]),
    .iff (.and [.cmp .lt (.var 4) (.int 4), .cmp .gt (.bi "len" [.var 1]) (.int 0)]) [.asg 6 (.bin .mod (.call "_law_mix" [.var 3, .int 2]) (.bi "len" [.var 1])), .iff (.and [.cmp .eq (.var 4) (.int 0), .cmp .lt (.var 6) (.bi "len" [.var 2])]) [.asg 5 (.sub (.var 2) (.var 6))] [], .iff (.cmp .eq (.var 4) (.int 1)) [.asg 5 (.call "_law_near" [.sub (.var 1) (.var 6), .call "_law_mix" [.var 3, .int 3]])] [], .expr (.meth (.var 0) "put" [.var 6, .var 5]), .asgI (.var 1) (.var 6) (.var 5)] [.iff (.and [.cmp .eq (.var 4) (.int 4), .cmp .gt (.bi "len" [.var 1]) (.int 0)]) [.expr (.meth (.var 0) "cut" []), .expr (.meth (.var 1) "pop" [])] [.iff (.and [.cmp .lt (.bi "len" [.var 1]) (.bi "len" [.var 2]), .cmp .gt (.bin .mod (.bin .fdiv (.var 3) (.int 6)) (.int 3)) (.int 0)]) [.asg 5 (.sub (.var 2) (.bi "len" [.var 1]))] [], .expr (.meth (.var 0) "add" [.var 5]), .expr (.meth (.var 1) "append" [.var 5])]]] }
noncomputable def f_Looker_all_in : FD :=
  { arity := 3, names := ["self", "height", "number"], body := [
    .iff (.cmp .eq (.var 1) (.int 0)) [.expr (.meth (.attr (.var 0) "places") "append" [.var 2]), .ret0] [],
    .iff (.meth (.var 0) "is_alike" [.bin .sub (.var 1) (.int 1), .bin .mul (.int 2) (.var 2)]) [.expr (.meth (.var 0) "all_in" [.bin .sub (.var 1) (.int 1), .bin .add (.bin .mul (.int 2) (.var 2)) (.int 1)]), .ret0] [],
    .expr (.meth (.var 0) "all_in" [.bin .sub (.var 1) (.int 1), .bin .mul (.int 2) (.var 2)]),
    .iff (.not (.meth (.var 0) "is_alike" [.bin .sub (.var 1) (.int 1), .bin .add (.bin .mul (.int 2) (.var 2)) (.int 1)])) [.expr (.meth (.var 0) "all_in" [.bin .sub (.var 1) (.int 1), .bin .add (.bin .mul (.int 2) (.var 2)) (.int 1)])] []] }
noncomputable def f_all_unlike : FD :=
  { arity := 2, names := ["one", "other", "looker", "height", "number"], body := [
    .asg 2 (.make "Looker" [.var 0, .var 1]),
    .forr [3, 4] (.call "parted" [.bi "min" [.meth (.var 0) "count" [], .meth (.var 1) "count" []]]) [.iff (.not (.meth (.var 2) "is_alike" [.var 3, .var 4])) [.expr (.meth (.var 2) "all_in" [.var 3, .var 4])] []],
    .ret (.tup [.attr (.var 2) "places", .attr (.var 2) "looks"])] }
noncomputable def f_law_true : FD :=
  { arity := 3, names := ["_law_rows_here", "_law_other", "_law_looks", "_law_height", "_law_number", "_law_alike", "_law_size_here", "_law_first", "_law_there"], body := [
    .forr [3, 4, 5] (.var 2) [.asg 6 (.call "_law_size" [.var 3]), .asg 7 (.bin .mul (.var 4) (.var 6)), .iff (.cmp .gt (.bin .add (.var 7) (.var 6)) (.bi "min" [.bi "len" [.var 0], .bi "len" [.var 1]])) [.ret (.bool false)] [], .asg 8 (.slc (.var 0) (.var 7) (.bin .add (.var 7) (.var 6))), .iff (.cmp .ne (.var 5) (.cmp .eq (.var 8) (.slc (.var 1) (.var 7) (.bin .add (.var 7) (.var 6))))) [.ret (.bool false)] []],
    .ret (.bool true)] }
noncomputable def f_law_8 : FD :=
  { arity := 1, names := ["_law_script", "_law_books_here", "_law_kept", "_law_rows_here", "_law_other", "_law_lesser", "_law_due", "_law_places", "_law_looks", "_law_many", "_law_covered", "_law_height", "_law_number", "_law_alike", "_law_size_here", "_law_place", "_law_first", "_law_look"], body := [
    .unp [1, 2] (.call "_law_books" [.var 0]),
    .unp [3, 4] (.var 2),
    .asg 5 (.bi "min" [.bi "len" [.var 3], .bi "len" [.var 4]]),
    .asg 6 (.comp (.var 15) 15 (.bi "range" [.var 5]) (.cmp .ne (.sub (.var 3) (.var 15)) (.sub (.var 4) (.var 15)))),
    .unp [7, 8] (.call "all_unlike" [.sub (.var 1) (.int 0), .sub (.var 1) (.int 1)]),
    .asg 9 (.call "_law_digits" [.var 5]),
    .iff (.or [.cmp .ne (.var 7) (.var 6), .cmp .gt (.bi "len" [.var 8]) (.bin .add (.var 9) (.bin .mul (.bin .mul (.int 2) (.bi "len" [.var 6])) (.bi "max" [.int 0, .bin .sub (.var 9) (.int 1)])))]) [.ret (.bool false)] [],
    .iff (.or [.not (.call "_law_true" [.var 3, .var 4, .var 8]), .cmp .ne (.lset (.comp (.slc (.var 17) .none (.int 2)) 17 (.var 8) (.bool true))) (.bi "len" [.var 8])]) [.ret (.bool false)] [],
    .asg 10 .dict,
    .forr [11, 12, 13] (.var 8) [.iff (.var 13) [.asg 14 (.call "_law_size" [.var 11]), .forr [15] (.bi "range" [.bin .mul (.var 12) (.var 14), .bin .add (.bin .mul (.var 12) (.var 14)) (.var 14)]) [.asgI (.var 10) (.var 15) (.bool true)]] []],
    .iff (.cmp .ne (.bi "sorted" [.var 10]) (.comp (.var 15) 15 (.bi "range" [.var 5]) (.cmp .notin (.var 15) (.var 6)))) [.ret (.bool false)] [],
    .asg 16 (.sub (.call "first_unlike" [.sub (.var 1) (.int 0), .sub (.var 1) (.int 1)]) (.int 0)),
    .iff (.cmp .ne (.var 6) (.list [])) [.ret (.cmp .eq (.var 16) (.sub (.var 6) (.int 0)))] [],
    .ret (.cmp .eq (.var 16) (.sub (.list [.var 5, .none]) (.bi "int" [.cmp .eq (.bi "len" [.var 3]) (.bi "len" [.var 4])])))] }
noncomputable def P08 : Pg where
  fns := [
    (("", "size_of"), f_size_of),
    (("", "digits"), f_digits),
    (("", "parted"), f_parted),
    (("Looker", "__init__"), f_Looker_init),
    (("Looker", "is_alike"), f_Looker_is_alike),
    (("Looker", "first_in"), f_Looker_first_in),
    (("Looker", "all_in"), f_Looker_all_in),
    (("", "first_unlike"), f_first_unlike),
    (("", "all_unlike"), f_all_unlike),
    (("", "is_whole"), f_is_whole),
    (("", "is_row"), f_is_row),
    (("", "need_row"), f_need_row),
    (("Ledger", "__init__"), f_Ledger_init),
    (("Ledger", "number_of"), f_Ledger_number_of),
    (("Ledger", "need_sum"), f_Ledger_need_sum),
    (("Ledger", "of_row"), f_Ledger_of_row),
    (("Ledger", "of_pair"), f_Ledger_of_pair),
    (("Ledger", "what"), f_Ledger_what),
    (("Ledger", "many"), f_Ledger_many),
    (("Book", "__init__"), f_Book_init),
    (("Book", "need_place"), f_Book_need_place),
    (("Book", "half_sum"), f_Book_half_sum),
    (("Book", "put"), f_Book_put),
    (("Book", "add"), f_Book_add),
    (("Book", "cut"), f_Book_cut),
    (("Book", "room"), f_Book_room),
    (("Book", "count"), f_Book_count),
    (("Book", "row"), f_Book_row),
    (("Book", "rows"), f_Book_rows),
    (("Book", "sum_of"), f_Book_sum_of_2),
    (("", "_law_cell_at"), f_law_cell_at),
    (("", "_law_whole"), f_law_whole),
    (("", "_law_mix"), f_law_mix),
    (("", "_law_text"), f_law_text),
    (("", "_law_near"), f_law_near),
    (("", "_law_rows"), f_law_rows),
    (("", "_law_twin"), f_law_twin),
    (("", "_law_books"), f_law_books),
    (("", "_law_change"), f_law_change_2),
    (("", "_law_digits"), f_law_digits),
    (("", "_law_size"), f_law_size),
    (("", "_law_parted"), f_law_parted),
    (("", "_law_room"), f_law_room),
    (("", "_law_true"), f_law_true),
    (("", "law"), f_law_8)]
  ups := [("TwinError", ["TwinError", "ValueError"]), ("NoRow", ["NoRow", "TwinError", "ValueError"]), ("NoSum", ["NoSum", "TwinError", "ValueError"]), ("NoPlace", ["NoPlace", "TwinError", "ValueError"]), ("NoBlock", ["NoBlock", "TwinError", "ValueError"]), ("Full", ["Full", "TwinError", "ValueError"]), ("Strange", ["Strange", "TwinError", "ValueError"])]
  globs := [("MOST_SIGNS", .int 40), ("SIGNS", .str (cps "abcdefghijklmnopqrstuvwxyz0123456789 ")), ("MOST_ROWS", .int 1024)]
  exc := false

end Mine

section
/-! keys of dicts -/
namespace Mine
theorem keyEq_eq {a b : V} : keyEq a b = true → a = b := by
  unfold keyEq
  cases keyOf a with
  | none => exact nofun
  | some x => cases keyOf b with
    | none => exact nofun
    | some y => exact fun h => x.2.trans ((congrArg Key.v (of_decide_eq_true h)).trans y.2.symm)
theorem keyEq_refl {a : V} : isKey a = true → keyEq a a = true := by
  unfold isKey keyEq
  cases keyOf a with
  | none => exact nofun
  | some x => exact fun _ => decide_eq_true rfl
theorem isKey_of {a : V} : isKey a = true → ∃ k : Key, a = k.v := by
  unfold isKey
  cases keyOf a with
  | none => exact nofun
  | some x => exact fun _ => ⟨x.1, x.2⟩
theorem intsOf_map : ∀ l : List Int, intsOf (l.map .int) = some ⟨l, rfl⟩
  | [] => rfl
  | a :: r => (congrArg (Option.map _) (intsOf_map r)).trans rfl
theorem keyOf_v : ∀ k : Key, keyOf k.v = some ⟨k, rfl⟩
  | .inl _ => rfl
  | .inr (.inl l) => (congrArg (Option.map _) (intsOf_map l)).trans rfl
  | .inr (.inr _) => rfl
theorem keyEq_v (k l : Key) : keyEq k.v l.v = decide (k = l) := by
  unfold keyEq; rw [keyOf_v, keyOf_v]
end Mine
end

section
/-! The core's values and objects, and the machine's: how they meet. -/
namespace Mine
open PySem PyProof.Rows

structure Loc where
  a : Addr
  d : Addr

noncomputable abbrev Mu := List Loc

noncomputable def RngAt (h : Heap) (r : Addr) (a b c : Int) : Prop := Builtin.Range.small a b c = true ∧ ∃ t u v, h.get? r = some { cls := .type "range", data := .fields #[.int a t, .int b u, .int c v] }

noncomputable def okStr (s : List Nat) : Prop := s.length ≤ mostLen ∧ ∀ x ∈ s, x < 1114112

mutual
noncomputable def VR (bs : Heap) (mu : Mu) (h : Heap) : V → Value → Prop
  | .none, c => c = .none
  | .bool b, c => c = .bool b
  | .int i, c => ∃ t, c = .int i t
  | .str s, c => ∃ t, c = .str ⟨s.toArray⟩ t ∧ okStr s
  | .ref i, c => ∃ l, mu[i]? = some l ∧ c = .ref l.a
  | .tup l, c => ∃ a o n vs, c = .ref a ∧ h.get? a = some o ∧ o.cls = .type "tuple" ∧ o.data = .seq vs n ∧ VRs bs mu h l vs.toList ∧ l.length ≤ mostLen
  | .rng x y z, c => ∃ r, c = .ref r ∧ RngAt h r x y z
  | .fz l, c => ∃ a o n vs, c = .ref a ∧ bs.get? a = some o ∧ o.cls = .type "list" ∧ o.data = .seq vs n ∧ VRs bs mu h l vs.toList ∧ l.length ≤ mostLen
noncomputable def VRs (bs : Heap) (mu : Mu) (h : Heap) : List V → List Value → Prop
  | [], cs => cs = []
  | v :: l, cs => ∃ c r, cs = c :: r ∧ VR bs mu h v c ∧ VRs bs mu h l r
end

noncomputable def Fixed (o : Obj) : Prop := (o.cls = .type "tuple" ∧ ∃ vs n, o.data = .seq vs n) ∨ (o.cls = .type "range" ∧ ∃ vs, o.data = .fields vs)

mutual
theorem VR.mono {bs : Heap} {mu mu' : Mu} {h h' : Heap} (k : ∀ b o, h.get? b = some o → Fixed o → h'.get? b = some o) (e : ∀ (i : Nat) l, mu[i]? = some l → mu'[i]? = some l) :
    ∀ {v : V} {c : Value}, VR bs mu h v c → VR bs mu' h' v c
  | .none, _, x => by exact x
  | .bool _, _, x => by exact x
  | .int _, _, x => by exact x
  | .str _, _, x => by exact x
  | .ref i, _, x => by
    refine el_xp x fun l h1 h2 => ?_; try clear x
    exact in_xp l (e _ _ h1) h2
  | .tup l, _, x => by
    refine el_xxxxppppp x fun a o n vs h1 h2 h3 h4 h5 h6 => ?_; try clear x
    exact in_xxxxppppp a o n vs h1 (k _ _ h2 (.inl ⟨h3, _, _, h4⟩)) h3 h4 (VRs.mono k e h5) h6
  | .rng _ _ _, _, x => by
    refine el_xppxxx x fun r h1 h0 t u v h2 => ?_; try clear x
    exact in_xppxxx r h1 h0 t u v (k _ _ h2 (.inr ⟨rfl, _, rfl⟩))
  | .fz l, _, x => by
    refine el_xxxxppppp x fun a o n vs h1 h2 h3 h4 h5 h6 => ?_; try clear x
    exact in_xxxxppppp a o n vs h1 h2 h3 h4 (VRs.mono k e h5) h6
theorem VRs.mono {bs : Heap} {mu mu' : Mu} {h h' : Heap} (k : ∀ b o, h.get? b = some o → Fixed o → h'.get? b = some o) (e : ∀ (i : Nat) l, mu[i]? = some l → mu'[i]? = some l) :
    ∀ {l : List V} {cs : List Value}, VRs bs mu h l cs → VRs bs mu' h' l cs
  | [], _, x => by simpa only [VRs] using x
  | _ :: _, _, x => by
    refine el_xxpp x fun c r h1 h2 h3 => ?_; try clear x
    exact in_xxpp c r h1 (VR.mono k e h2) (VRs.mono k e h3)
end

theorem VRs.length {bs : Heap} {mu : Mu} {h : Heap} : ∀ {l : List V} {cs : List Value}, VRs bs mu h l cs → cs.length = l.length
  | [], _, x => by replace x : _ = _ := x; rw [x]; rfl
  | _ :: l, _, x => by
    refine el_xxpp x fun c r h1 _ h3 => ?_; try clear x
    rw [h1, List.length_cons, List.length_cons, VRs.length h3]
theorem VRs.get {bs : Heap} {mu : Mu} {h : Heap} : ∀ {l : List V} {cs : List Value} {j : Nat} {v : V}, VRs bs mu h l cs → l[j]? = some v → ∃ c, cs[j]? = some c ∧ VR bs mu h v c
  | [], _, _, _, _, e => by simp at e
  | _ :: l, _, 0, _, x, e => by
    refine el_xxpp x fun c r h1 h2 h3 => ?_; try clear x
    simp only [List.getElem?_cons_zero, Option.some.injEq] at e
    subst e
    exact in_xp c (by rw [h1]; rfl) h2
  | _ :: l, _, j + 1, _, x, e => by
    refine el_xxpp x fun c r h1 h2 h3 => ?_; try clear x
    simp only [List.getElem?_cons_succ] at e
    refine el_xp (VRs.get h3 e) fun c' a b => ?_
    exact in_xp c' (by rw [h1]; simpa using a) b
theorem VRs.none {bs : Heap} {mu : Mu} {h : Heap} {l : List V} {cs : List Value} {j : Nat} (x : VRs bs mu h l cs) (e : l[j]? = none) : cs[j]? = none := by
  rw [List.getElem?_eq_none_iff] at e ⊢; rw [x.length]; exact e
theorem VRs.append {bs : Heap} {mu : Mu} {h : Heap} : ∀ {l m : List V} {cs ds : List Value}, VRs bs mu h l cs → VRs bs mu h m ds → VRs bs mu h (l ++ m) (cs ++ ds)
  | [], _, _, _, x, y => by replace x : _ = _ := x; rw [x]; exact y
  | _ :: l, _, _, _, x, y => by
    refine el_xxpp x fun c r h1 h2 h3 => ?_; try clear x
    rw [h1]
    show VRs _ _ _ (_ :: (l ++ _)) (c :: (r ++ _))
    simp only [VRs]
    exact in_xxpp c _ rfl h2 (VRs.append h3 y)
theorem VRs.single {bs : Heap} {mu : Mu} {h : Heap} {v : V} {c : Value} (x : VR bs mu h v c) : VRs bs mu h [v] [c] := by simp only [VRs]; exact in_xxpp c [] rfl x rfl
theorem VRs.take {bs : Heap} {mu : Mu} {h : Heap} : ∀ {l : List V} {cs : List Value} (n : Nat), VRs bs mu h l cs → VRs bs mu h (l.take n) (cs.take n)
  | [], _, _, x => by replace x : _ = _ := x; rw [x]; simp [VRs]
  | _ :: l, _, 0, _ => by simp [VRs]
  | _ :: l, _, n + 1, x => by
    refine el_xxpp x fun c r h1 h2 h3 => ?_; try clear x
    rw [h1, List.take_succ_cons, List.take_succ_cons]
    simp only [VRs]
    exact in_xxpp c _ rfl h2 (VRs.take n h3)
theorem VRs.drop {bs : Heap} {mu : Mu} {h : Heap} : ∀ {l : List V} {cs : List Value} (n : Nat), VRs bs mu h l cs → VRs bs mu h (l.drop n) (cs.drop n)
  | [], _, _, x => by replace x : _ = _ := x; rw [x]; simp [VRs]
  | _ :: l, _, 0, x => by simpa using x
  | _ :: l, _, n + 1, x => by
    refine el_xxpp x fun c r h1 h2 h3 => ?_; try clear x
    rw [h1, List.drop_succ_cons, List.drop_succ_cons]
    exact VRs.drop n h3
theorem VRs.set {bs : Heap} {mu : Mu} {h : Heap} : ∀ {l : List V} {cs : List Value} (n : Nat) {v : V} {c : Value}, VRs bs mu h l cs → VR bs mu h v c → VRs bs mu h (l.set n v) (cs.set n c)
  | [], _, _, _, _, x, _ => by replace x : _ = _ := x; rw [x]; simp [VRs]
  | _ :: l, _, 0, _, _, x, y => by
    refine el_xxpp x fun c r h1 h2 h3 => ?_; try clear x
    rw [h1, List.set_cons_zero, List.set_cons_zero]
    simp only [VRs]
    exact in_xxpp _ _ rfl y h3
  | _ :: l, _, n + 1, _, _, x, y => by
    refine el_xxpp x fun c r h1 h2 h3 => ?_; try clear x
    rw [h1, List.set_cons_succ, List.set_cons_succ]
    simp only [VRs]
    exact in_xxpp _ _ rfl h2 (VRs.set n h3 y)

noncomputable def intHash : V → Int
  | .int i => hashInt i
  | _ => 0
noncomputable def khash (w : World) : V → Int
  | .str s => PyData.keyHash w.params ⟨s.toArray⟩
  | .int i => hashInt i
  | .tup l => reduceHash (Builtin.Tuple.tupleHashOf (l.map intHash))
  | _ => 0

noncomputable def DRs (w : World) (bs : Heap) (mu : Mu) (h : Heap) : List (V × V) → List DictEntry → Prop
  | [], es => es = []
  | (k, v) :: r, es => ∃ e t, es = e :: t ∧ e.hash = khash w k ∧ VR bs mu h k e.key ∧ VR bs mu h v e.val ∧ DRs w bs mu h r t

noncomputable def FRs (w : World) (bs : Heap) (mu : Mu) (h : Heap) : List (String × V) → List DictEntry → Prop
  | [], es => es = []
  | (f, v) :: r, es => ∃ tk c t, es = ⟨PyData.keyHash w.params f, .str (Str.ofString f) tk, c⟩ :: t ∧ VR bs mu h v c ∧ FRs w bs mu h r t

noncomputable abbrev Cls := Bool → String → Option Addr

noncomputable def OR (w : World) (cl : Cls) (bs : Heap) (mu : Mu) (h : Heap) (l : Loc) : Ob → Prop
  | .list vs => l.d = l.a ∧ ∃ n items, h.get? l.a = some { cls := .type "list", data := .seq items n } ∧ VRs bs mu h vs items.toList ∧ vs.length ≤ mostLen
  | .dict es => (l.d = l.a ∧ l.a ≠ sysModules) ∧ ∃ n ents, h.get? l.a = some ⟨.type "dict", none, .dict ents n, #[]⟩ ∧ es.all (fun x => isKey x.1) = true ∧ (es.Pairwise fun x y => keyEq x.1 y.1 = false) ∧ DRs w bs mu h es ents.toList ∧ es.length ≤ mostLen
  | .inst C fs => l.d ≠ l.a ∧ ∃ A n ents, cl false C = some A ∧ h.get? l.a = some ⟨.ref A, some l.d, .plain, #[]⟩ ∧ h.get? l.d = some ⟨.type "dict", none, .dict ents n, #[]⟩ ∧ FRs w bs mu h fs ents.toList

structure Cf where
  w : World
  cl : Cls
  bs : Heap

noncomputable def Own (mu : Mu) (b : Addr) : Prop := ∃ l ∈ mu, b = l.a ∨ b = l.d

structure St (c : Cf) (F : List Addr) (mu : Mu) (H : Hp) (h : Heap) : Prop where
  mods : True
  stays : c.bs.StaysIn h
  len : mu.length = H.length
  objs : ∀ (i : Nat) l o, mu[i]? = some l → H[i]? = some o → OR c.w c.cl c.bs mu h l o
  apart : ∀ (i j : Nat) l m, mu[i]? = some l → mu[j]? = some m → i ≠ j → l.a ≠ m.a ∧ l.a ≠ m.d ∧ l.d ≠ m.a ∧ l.d ≠ m.d
  newB : ∀ b, Own mu b → c.bs.get? b = none
  notF : ∀ b, Own mu b → b ∉ F
  frs : ∀ b ∈ F, c.bs.get? b = none ∧ ∃ o es ep, h.get? b = some o ∧ o.data = .dict es ep

structure Go (F X : List Addr) (mu : Mu) (h : Heap) (mu' : Mu) (h' : Heap) : Prop where
  ext : ∀ (i : Nat) l, mu[i]? = some l → mu'[i]? = some l
  keep : ∀ b o, h.get? b = some o → ¬ Own mu b → b ∉ F → b ∉ X → h'.get? b = some o
  keepF : ∀ b o, h.get? b = some o → b ∈ F → b ∉ X → ∃ sl, h'.get? b = some { o with slots := sl }
  fresh : ∀ b, Own mu' b → Own mu b ∨ h.get? b = none
  alive : ∀ b o, h.get? b = some o → ∃ o', h'.get? b = some o'

theorem Go.refl (F X : List Addr) (mu : Mu) (h : Heap) : Go F X mu h mu h := ⟨fun _ _ e => e, fun _ _ e _ _ _ => e, fun _ o e _ _ => ⟨o.slots, e⟩, fun _ x => .inl x, fun _ o e => ⟨o, e⟩⟩
theorem Go.gone {F X : List Addr} {mu mu' : Mu} {h h' : Heap} (x : Go F X mu h mu' h') {b : Addr} (e : h'.get? b = none) : h.get? b = none := by
  cases q : h.get? b with
  | none => rfl
  | some o => refine el_x (x.alive b o q) fun o' r => ?_; rw [e] at r; cases r
theorem Go.trans {F X : List Addr} {mu mu1 mu2 : Mu} {h h1 h2 : Heap} (x : Go F X mu h mu1 h1) (y : Go F X mu1 h1 mu2 h2) : Go F X mu h mu2 h2 where
  ext := fun i l e => y.ext i l (x.ext i l e)
  keep := fun b o e n f k => y.keep b o (x.keep b o e n f k) (fun z => (x.fresh b z).elim n fun q => by rw [e] at q; cases q) f k
  keepF := fun b o e f k => by
    refine el_x (x.keepF b o e f k) fun sl e1 => ?_
    refine el_x (y.keepF b _ e1 f k) fun sl' e2 => ?_
    exact in_x sl' e2
  fresh := fun b z => (y.fresh b z).elim (x.fresh b) fun q => .inr (x.gone q)
  alive := fun b o e => let ⟨o', e'⟩ := x.alive b o e; y.alive b o' e'
theorem Go.grow {F X : List Addr} {mu : Mu} {h h' : Heap} (k : h.StaysIn h') : Go F X mu h mu h' :=
  ⟨fun _ _ e => e, fun b o e _ _ _ => k b o e, fun b o e _ _ => ⟨o.slots, k b o e⟩, fun _ x => .inl x, fun b o e => ⟨o, k b o e⟩⟩
theorem Go.wide {F X Y : List Addr} {mu mu' : Mu} {h h' : Heap} (x : Go F X mu h mu' h') (k : ∀ b ∈ X, b ∈ Y) : Go F Y mu h mu' h' :=
  ⟨x.ext, fun b o e n f z => x.keep b o e n f fun q => z (k b q), fun b o e f z => x.keepF b o e f fun q => z (k b q), x.fresh, x.alive⟩
theorem Go.wide0 {F Y : List Addr} {mu mu' : Mu} {h h' : Heap} (x : Go F [] mu h mu' h') : Go F Y mu h mu' h' := x.wide fun _ q => nomatch q
theorem Go.narrow {F X : List Addr} {mu mu' : Mu} {h h' : Heap} (x : Go F X mu h mu' h') (k : ∀ b ∈ X, h.get? b = none) : Go F [] mu h mu' h' :=
  ⟨x.ext, fun b o e n f _ => x.keep b o e n f fun q => (by rw [k b q] at e; cases e), fun b o e f _ => x.keepF b o e f fun q => (by rw [k b q] at e; cases e), x.fresh, x.alive⟩

theorem own_of_get {mu : Mu} {i : Nat} {l : Loc} (e : mu[i]? = some l) : Own mu l.a ∧ Own mu l.d := ⟨⟨l, List.mem_of_getElem? e, .inl rfl⟩, ⟨l, List.mem_of_getElem? e, .inr rfl⟩⟩

theorem OR.notFixed {w : World} {cl : Cls} {bs : Heap} {mu : Mu} {h : Heap} {l : Loc} : ∀ {o : Ob}, OR w cl bs mu h l o → ∀ b, b = l.a ∨ b = l.d → ∃ ob, h.get? b = some ob ∧ ¬ Fixed ob
  | .list _, x, b, hb => by
    refine el_pxxp x fun e n it h1 _ => ?_; try clear x
    have : b = l.a := by rcases hb with q | q <;> simp [q, e]
    subst this
    refine in_xp _ h1 ?_
    rintro (⟨q, _⟩ | ⟨q, _⟩) <;> exact absurd q (by simp)
  | .dict _, x, b, hb => by
    refine el_pxxp x fun tq0 n en h1 _ => ?_; try clear x; obtain ⟨e, _⟩ := tq0
    have : b = l.a := by rcases hb with q | q <;> simp [q, e]
    subst this
    refine in_xp _ h1 ?_
    rintro (⟨q, _⟩ | ⟨q, _⟩) <;> exact absurd q (by simp)
  | .inst _ _, x, b, hb => by
    refine el_pxxxppp x fun e A n en _ h1 h2 _ => ?_; try clear x
    rcases hb with q | q
    · subst q
      refine in_xp _ h1 ?_
      rintro (⟨q, _⟩ | ⟨q, _⟩) <;> exact absurd q (by simp)
    · subst q
      refine in_xp _ h2 ?_
      rintro (⟨q, _⟩ | ⟨q, _⟩) <;> exact absurd q (by simp)

theorem St.obj {c : Cf} {F : List Addr} {mu : Mu} {H : Hp} {h : Heap} (S : St c F mu H h) {i : Nat} {l : Loc} (e : mu[i]? = some l) : ∃ o, H[i]? = some o ∧ OR c.w c.cl c.bs mu h l o := by
  have : i < H.length := by rw [← S.len]; exact (List.getElem?_eq_some_iff.mp e).1
  exact in_xp _ (List.getElem?_eq_getElem this) (S.objs i l _ e (List.getElem?_eq_getElem this))
theorem St.ownAt {c : Cf} {F : List Addr} {mu : Mu} {H : Hp} {h : Heap} (S : St c F mu H h) {b : Addr} (z : Own mu b) : ∃ ob, h.get? b = some ob ∧ ¬ Fixed ob := by
  refine el_xp z fun l hl hb => ?_; try clear z
  refine el_x (List.mem_iff_getElem?.mp hl) fun i e => ?_
  refine el_xp (S.obj e) fun o _ x => ?_
  exact x.notFixed b hb

theorem St.fixed {c : Cf} {F : List Addr} {mu mu' : Mu} {H : Hp} {h h' : Heap} (S : St c F mu H h) (g : Go F [] mu h mu' h') (b : Addr) (o : Obj) (e : h.get? b = some o) (f : Fixed o) : h'.get? b = some o := by
  refine g.keep b o e (fun z => ?_) (fun z => ?_) (fun z => nomatch z)
  · refine el_xp (S.ownAt z) fun ob h1 h2 => ?_
    rw [e] at h1; cases h1; exact h2 f
  · refine el_pxxxp (S.frs b z) fun _ o' es ep h1 h2 => ?_
    rw [e] at h1; cases h1
    rcases f with ⟨_, vs, n, q⟩ | ⟨_, vs, q⟩ <;> rw [h2] at q <;> cases q
theorem VR.go {c : Cf} {F : List Addr} {mu mu' : Mu} {H : Hp} {h h' : Heap} (S : St c F mu H h) (g : Go F [] mu h mu' h') {v : V} {x : Value} (r : VR c.bs mu h v x) : VR c.bs mu' h' v x := r.mono (S.fixed g) g.ext
theorem VRs.go {c : Cf} {F : List Addr} {mu mu' : Mu} {H : Hp} {h h' : Heap} (S : St c F mu H h) (g : Go F [] mu h mu' h') {v : List V} {x : List Value} (r : VRs c.bs mu h v x) : VRs c.bs mu' h' v x := r.mono (S.fixed g) g.ext

theorem DRs.mono {w : World} {bs : Heap} {mu mu' : Mu} {h h' : Heap} (k : ∀ b o, h.get? b = some o → Fixed o → h'.get? b = some o) (e : ∀ (i : Nat) l, mu[i]? = some l → mu'[i]? = some l) :
    ∀ {es : List (V × V)} {ds : List DictEntry}, DRs w bs mu h es ds → DRs w bs mu' h' es ds
  | [], _, x => x
  | (_, _) :: _, _, z0 => by
    refine el_xxpppp z0 fun d t h1 h2 h3 h4 h5 => ?_; try clear z0
    exact in_xxpppp d t h1 h2 (h3.mono k e) (h4.mono k e) (DRs.mono k e h5)
theorem FRs.mono {w : World} {bs : Heap} {mu mu' : Mu} {h h' : Heap} (k : ∀ b o, h.get? b = some o → Fixed o → h'.get? b = some o) (e : ∀ (i : Nat) l, mu[i]? = some l → mu'[i]? = some l) :
    ∀ {es : List (String × V)} {ds : List DictEntry}, FRs w bs mu h es ds → FRs w bs mu' h' es ds
  | [], _, x => x
  | (_, _) :: _, _, z0 => by
    refine el_xxxpp z0 fun tk d t h1 h2 h3 => ?_; try clear z0
    exact in_xxxpp tk d t h1 (h2.mono k e) (FRs.mono k e h3)
theorem OR.mono {w : World} {cl : Cls} {bs : Heap} {mu mu' : Mu} {h h' : Heap} {l : Loc} (k : ∀ b o, h.get? b = some o → Fixed o → h'.get? b = some o) (e : ∀ (i : Nat) l, mu[i]? = some l → mu'[i]? = some l)
    (ka : h'.get? l.a = h.get? l.a) (kd : h'.get? l.d = h.get? l.d) : ∀ {o : Ob}, OR w cl bs mu h l o → OR w cl bs mu' h' l o
  | .list _, z0 => by
    refine el_pxxpp z0 fun q n it h1 h4 h5 => ?_; try clear z0
    exact in_pxxpp q n it (ka.trans h1) (h4.mono k e) h5
  | .dict _, z0 => by
    refine el_pxxpppp z0 fun q n en h1 h2 h2' h3 h4 => ?_; try clear z0
    exact ⟨q, n, en, ka.trans h1, h2, h2', h3.mono k e, h4⟩
  | .inst _ _, z0 => by
    refine el_pxxxppp z0 fun q A n en h0 h1 h2 h3 => ?_; try clear z0
    exact in_pxxxppp q A n en h0 (ka.trans h1) (kd.trans h2) (h3.mono k e)

section
variable {c : Cf} {F : List Addr} {mu : Mu} {H : Hp} {h h' : Heap}

theorem St.grow (S : St c F mu H h) (k : h.StaysIn h') : St c F mu H h' where
  mods := S.mods
  stays := fun b o e => k b o (S.stays b o e)
  len := S.len
  objs := fun i l o e1 e2 => by
    have x := S.objs i l o e1 e2
    refine el_xp (x.notFixed l.a (.inl rfl)) fun oa ha _ => ?_
    refine el_xp (x.notFixed l.d (.inr rfl)) fun od hd _ => ?_
    exact x.mono (fun b o e _ => k b o e) (fun _ _ e => e) ((k _ _ ha).trans ha.symm) ((k _ _ hd).trans hd.symm)
  apart := S.apart
  newB := S.newB
  notF := S.notF
  frs := fun b hb => let ⟨q, o, es, ep, e, d⟩ := S.frs b hb; ⟨q, o, es, ep, k _ _ e, d⟩

theorem St.turn (S : St c F mu H h) {i : Nat} {l : Loc} {o : Ob} (e : mu[i]? = some l) (k : ∀ b, b ≠ l.a → b ≠ l.d → h'.get? b = h.get? b) (x : OR c.w c.cl c.bs mu h' l o) :
    St c F mu (H.set i o) h' ∧ Go F [] mu h mu h' := by
  have O := own_of_get e
  have keep : ∀ b o, h.get? b = some o → ¬ Own mu b → h'.get? b = some o := fun b o q n => (k b (fun y => n (y ▸ O.1)) fun y => n (y ▸ O.2)).trans q
  have keepF : ∀ b ∈ F, h'.get? b = h.get? b := fun b f => k b (fun y => S.notF _ (y ▸ O.1) f) fun y => S.notF _ (y ▸ O.2) f
  have fx : ∀ b o, h.get? b = some o → Fixed o → h'.get? b = some o := fun b o q f => keep b o q fun y => by
    refine el_xp (S.ownAt y) fun ob h1 h2 => ?_
    rw [q] at h1; cases h1; exact h2 f
  refine ⟨⟨S.mods, fun b o q => keep b o (S.stays b o q) fun y => ?_, by rw [List.length_set]; exact S.len, fun j m p e1 e2 => ?_, S.apart, S.newB, S.notF, fun b hb => ?_⟩,
    ⟨fun _ _ e => e, fun b o q n _ _ => keep b o q n, fun b o q f _ => ⟨o.slots, (keepF b f).trans q⟩, fun _ y => .inl y, fun b o q => ?_⟩⟩
  · have := S.newB b y; rw [q] at this; cases this
  · by_cases hj : i = j
    · subst hj
      rw [e] at e1; cases e1
      have hi : i < H.length := by rw [← S.len]; exact (List.getElem?_eq_some_iff.mp e).1
      rw [List.getElem?_set_self hi] at e2; cases e2
      exact x
    · rw [List.getElem?_set_ne hj] at e2
      refine el_ppp (S.apart i j l m e e1 hj) fun a1 a2 a3 a4 => ?_
      exact (S.objs j m p e1 e2).mono fx (fun _ _ e => e) (k _ (Ne.symm a1) (Ne.symm a3)) (k _ (Ne.symm a2) (Ne.symm a4))
  · refine el_pxxxp (S.frs b hb) fun q o es ep e d => ?_
    exact in_pxxxp q o es ep ((keepF b hb).trans e) d
  · by_cases n : b = l.a ∨ b = l.d
    · refine el_xp (x.notFixed b n) fun ob h1 _ => ?_; exact in_x ob h1
    · exact in_x o ((k b (fun y => n (.inl y)) fun y => n (.inr y)).trans q)

theorem St.more (S : St c F mu H h) {l : Loc} {o : Ob} (k : h.StaysIn h') (na : h.get? l.a = none) (nd : h.get? l.d = none) (x : OR c.w c.cl c.bs (mu ++ [l]) h' l o) :
    St c F (mu ++ [l]) (H ++ [o]) h' ∧ Go F [] mu h (mu ++ [l]) h' := by
  have S' := S.grow k
  have ext : ∀ (i : Nat) m, mu[i]? = some m → (mu ++ [l])[i]? = some m := fun i m e => by rw [List.getElem?_append_left (List.getElem?_eq_some_iff.mp e).1]; exact e
  have own : ∀ b, Own (mu ++ [l]) b → Own mu b ∨ b = l.a ∨ b = l.d := fun b ⟨m, hm, hb⟩ => by
    rcases List.mem_append.mp hm with q | q
    · exact .inl ⟨m, q, hb⟩
    · rw [List.mem_singleton.mp q] at hb; exact .inr hb
  have new : ∀ b, b = l.a ∨ b = l.d → h.get? b = none := fun b hb => by rcases hb with q | q <;> rw [q] <;> assumption
  have cases : ∀ (i : Nat) m, (mu ++ [l])[i]? = some m → mu[i]? = some m ∨ (i = mu.length ∧ m = l) := fun i m e => by
    by_cases hi : i < mu.length
    · rw [List.getElem?_append_left hi] at e; exact .inl e
    · rw [List.getElem?_append_right (by (first | lia | omega))] at e
      have : i - mu.length = 0 := by
        have := (List.getElem?_eq_some_iff.mp e).1; simp at this; (first | lia | omega)
      rw [this] at e; simp at e; exact .inr ⟨by (first | lia | omega), e.symm⟩
  have oldNe : ∀ m, m ∈ mu → ∀ b, b = l.a ∨ b = l.d → m.a ≠ b ∧ m.d ≠ b := fun m hm b hb => by
    constructor <;> intro q
    · refine el_xp (S.ownAt ⟨m, hm, .inl rfl⟩) fun ob h1 _ => ?_
      rw [q, new b hb] at h1; cases h1
    · refine el_xp (S.ownAt ⟨m, hm, .inr rfl⟩) fun ob h1 _ => ?_
      rw [q, new b hb] at h1; cases h1
  refine ⟨⟨S.mods, S'.stays, by simp [S.len], fun i m p e1 e2 => ?_, fun i j m p e1 e2 hij => ?_, fun b y => ?_, fun b y => ?_, S'.frs⟩, ⟨ext, fun b o e _ _ _ => k b o e, fun b o e _ _ => ⟨o.slots, k b o e⟩, fun b y => ?_, fun b o e => ⟨o, k b o e⟩⟩⟩
  · rcases cases i m e1 with q | ⟨q, rfl⟩
    · rw [List.getElem?_append_left (by rw [← S.len]; exact (List.getElem?_eq_some_iff.mp q).1)] at e2
      exact (S'.objs i m p q e2).mono (fun _ _ e _ => e) ext rfl rfl
    · rw [q, S.len, List.getElem?_append_right (Nat.le_refl _)] at e2
      simp at e2; subst e2; exact x
  · rcases cases i m e1 with q | ⟨q, rfl⟩ <;> rcases cases j p e2 with r | ⟨r, rfl⟩
    · exact S.apart i j m p q r hij
    · have A := oldNe m (List.mem_of_getElem? q) _ (.inl rfl); have B := oldNe m (List.mem_of_getElem? q) _ (.inr rfl)
      exact ⟨A.1, B.1, A.2, B.2⟩
    · have A := oldNe p (List.mem_of_getElem? r) _ (.inl rfl); have B := oldNe p (List.mem_of_getElem? r) _ (.inr rfl)
      exact ⟨Ne.symm A.1, Ne.symm A.2, Ne.symm B.1, Ne.symm B.2⟩
    · exact absurd (q.trans r.symm) hij
  · rcases own b y with q | q
    · exact S.newB b q
    · cases e : c.bs.get? b with
      | none => rfl
      | some o => have := S.stays b o e; rw [new b q] at this; cases this
  · rcases own b y with q | q
    · exact S.notF b q
    · intro f
      refine el_pxxxp (S.frs b f) fun _ o es ep e _ => ?_
      rw [new b q] at e; cases e
  · rcases own b y with q | q
    · exact .inl q
    · exact .inr (new b q)
end

end Mine
end

section
/-! Soundness: the frame, what a step gives, how steps are put together. -/
namespace Mine
open PySem PyProof.Rows

noncomputable def NoE (_ : Value) (_ : Shared) : Prop := False
theorem NoE.elim {e : Value} {s : Shared} {p : Prop} (x : NoE e s) : p := False.elim x

inductive QV {α β : Type} (c : Cf) (F : List Addr) (mu : Mu) (s : Shared) (r : R α) (Rl : α → β → Mu → Heap → Prop) (b : β) (s' : Shared) : Prop
  | mk (a : α) (H' : Hp) (mu' : Mu) (e : r = .ok a H') (S : St c F mu' H' s'.heap) (G : Go F [] mu s.heap mu' s'.heap) (R : Rl a b mu' s'.heap) (eg : s'.gens = s.gens) (eo : s'.os = s.os)
noncomputable def Snd {α β : Type} (M : Model) (c : Cf) (F : List Addr) (A : Around) (mu : Mu) (s : Shared) (t : Sem β) (r : R α) (Rl : α → β → Mu → Heap → Prop) : Prop :=
  r ≠ .bad → wpAny M A t (QV c F mu s r Rl) NoE s

noncomputable abbrev VRl (c : Cf) : V → Value → Mu → Heap → Prop := fun v x mu h => VR c.bs mu h v x
noncomputable abbrev VRsl (c : Cf) : List V → List Value → Mu → Heap → Prop := fun v x mu h => VRs c.bs mu h v x

section
variable {α β γ δ : Type} {M : Model} {c : Cf} {F : List Addr} {A : Around} {mu : Mu} {s : Shared} {H : Hp}

theorem QV.back {r : R α} {Rl : α → β → Mu → Heap → Prop} {mu1 : Mu} {s1 : Shared} {b : β} {s' : Shared} (x : QV c F mu1 s1 r Rl b s') (g : Go F [] mu s.heap mu1 s1.heap) (eg : s1.gens = s.gens) (eo : s1.os = s.os) : QV c F mu s r Rl b s' := by
  obtain ⟨a, H', mu', e, S, G, R, h1, h2⟩ := x
  exact ⟨a, H', mu', e, S, g.trans G, R, h1.trans eg, h2.trans eo⟩
theorem Snd.seq {t : Sem β} {f : β → Sem δ} {r : R α} {k : α → Hp → R γ} {Rl : α → β → Mu → Heap → Prop} {Rl' : γ → δ → Mu → Heap → Prop}
    (h1 : Snd M c F A mu s t r Rl)
    (h2 : ∀ a b H' mu' s', r = .ok a H' → St c F mu' H' s'.heap → Go F [] mu s.heap mu' s'.heap → Rl a b mu' s'.heap → Snd M c F A mu' s' (f b) (k a H') Rl') :
    Snd M c F A mu s (t >>= f) (r.bind k) Rl' := by
  intro hb
  have hr : r ≠ .bad := fun e => hb (by rw [e]; rfl)
  refine wpAny_bind (wpAny_mono (h1 hr) (fun b s' x => ?_) fun _ _ => id)
  obtain ⟨a, H', mu', e, S, G, R, eg, eo⟩ := x
  subst e
  exact wpAny_mono (h2 a b H' mu' s' rfl S G R hb) (fun _ _ y => y.back G eg eo) fun _ _ => id

theorem Snd.ok {a : α} {b : β} {Rl : α → β → Mu → Heap → Prop} (S : St c F mu H s.heap) (h : Rl a b mu s.heap) : Snd M c F A mu s (pure b) (.ok a H) Rl :=
  fun _ => wpAny_pure ⟨a, H, mu, rfl, S, .refl .., h, rfl, rfl⟩
theorem Snd.holding {vs : List Value} {t : Sem β} {r : R α} {Rl : α → β → Mu → Heap → Prop} (h : Snd M c F A mu s t r Rl) : Snd M c F A mu s (holding vs t) r Rl := fun hb => wpAny_holding (h hb)
theorem Snd.at {p : Pos} {t : Sem β} {r : R α} {Rl : α → β → Mu → Heap → Prop} (h : Snd M c F A mu s t r Rl) : Snd M c F A mu s (do standAt p; t) r Rl := fun hb => wpAny_bind (wpAny_standAt (h hb))
theorem QV.here {a : α} {b : β} {Rl : α → β → Mu → Heap → Prop} {s' : Shared} (S : St c F mu H s.heap) (k : s.heap.StaysIn s'.heap) (h : Rl a b mu s'.heap) (hg : s'.gens = s.gens) (ho : s'.os = s.os) :
    QV c F mu s (.ok a H) Rl b s' := ⟨a, H, mu, rfl, S.grow k, .grow k, h, hg, ho⟩
theorem QV.same {a : α} {b : β} {Rl : α → β → Mu → Heap → Prop} {t : Nat} (S : St c F mu H s.heap) (h : Rl a b mu s.heap) : QV c F mu s (.ok a H) Rl b { s with toks := t } :=
  ⟨a, H, mu, rfl, S, .refl .., h, rfl, rfl⟩
theorem QV.turn {a : α} {b : β} {Rl : α → β → Mu → Heap → Prop} {i : Nat} {l : Loc} {o : Ob} {s' : Shared} (S : St c F mu H s.heap) (e : mu[i]? = some l) (k : ∀ b, b ≠ l.a → b ≠ l.d → s'.heap.get? b = s.heap.get? b)
    (x : OR c.w c.cl c.bs mu s'.heap l o) (h : Rl a b mu s'.heap) (hg : s'.gens = s.gens) (ho : s'.os = s.os) :
    QV c F mu s (.ok a (H.set i o)) Rl b s' := have T := S.turn e k x; ⟨a, _, mu, rfl, T.1, T.2, h, hg, ho⟩
theorem QV.more {a : α} {b : β} {Rl : α → β → Mu → Heap → Prop} {l : Loc} {o : Ob} {s' : Shared} (S : St c F mu H s.heap) (k : s.heap.StaysIn s'.heap)
    (na : s.heap.get? l.a = none) (nd : s.heap.get? l.d = none) (x : OR c.w c.cl c.bs (mu ++ [l]) s'.heap l o) (h : Rl a b (mu ++ [l]) s'.heap) (hg : s'.gens = s.gens) (ho : s'.os = s.os) :
    QV c F mu s (.ok a (H ++ [o])) Rl b s' := have T := S.more k na nd x; ⟨a, _, _, rfl, T.1, T.2, h, hg, ho⟩
end

theorem get_push_fresh (h : Heap) : h.get? h.objs.size = none := by
  cases e : h.get? h.objs.size with
  | none => rfl
  | some o => exact absurd (Heap.lt_size e) (Nat.lt_irrefl _)
theorem stays_push (h : Heap) (o : Obj) : h.StaysIn (h.push o) := fun _ _ e => Heap.get?_push_of_some o e
structure FrR (c : Cf) (F : List Addr) (ns : List String) (env : Env) (g : Gm) (mu : Mu) (h : Heap) : Prop where
  kind : env.scope.kind = .function
  glob : env.globals = mainGlobals
  blt : env.builtins = builtinsNs
  len : g.length = ns.length
  loc : ∃ m, h.Ns env.locals m ∧ ∀ (i : Nat) (n : String) (v : V), ns[i]? = some n → g[i]? = some (some v) → env.kindOf n = some .local → ∃ x, m n = some x ∧ VR c.bs mu h v x
  cel : ∀ (i : Nat) (n : String) (v : V), ns[i]? = some n → g[i]? = some (some v) → env.kindOf n = some .cell ∨ env.kindOf n = some .free → ∃ a x, env.cells.lookup (n : Str) = some a ∧ h.IsCell a (some x) ∧ VR c.bs mu h v x
  out : ¬ Own mu env.locals
  outs : ∀ (n : Str) a, (n, a) ∈ env.cells → ¬ Own mu a ∧ a ∉ F ∧ a ≠ env.locals ∧ c.bs.get? a = none ∧ ∃ v, h.IsCell a v
  inj : env.cells.Pairwise fun x y => x.2 ≠ y.2
  has : ∀ n : Str, env.kindOf n = some .cell → (env.cells.lookup n).isSome = true
  cls : ∃ o, h.get? env.locals = some o
  new : c.bs.get? env.locals = none

theorem Ns.slots {h h' : Heap} {a : Addr} {m : Str → Option Value} (x : h.Ns a m) (k : ∀ o, h.get? a = some o → ∃ sl, h'.get? a = some { o with slots := sl }) : h'.Ns a m := by
  refine el_xxxpp x fun o es ep h1 h2 h3 => ?_; try clear x
  refine el_x (k o h1) fun sl h1' => ?_
  exact in_xxxpp _ es ep h1' h2 h3

theorem FrR.go {c : Cf} {F : List Addr} {ns : List String} {env : Env} {g : Gm} {mu mu' : Mu} {h h' : Heap} {H : Hp} (S : St c F mu H h) (G : Go F [] mu h mu' h') (x : FrR c F ns env g mu h) : FrR c F ns env g mu' h' := by
  have notNew : ∀ a o, h.get? a = some o → ¬ Own mu a → ¬ Own mu' a := fun a o e n z => (G.fresh a z).elim n fun q => by rw [e] at q; cases q
  have kc : ∀ a v, ¬ Own mu a → a ∉ F → h.IsCell a v → h'.IsCell a v := fun a v n f ⟨o, e, d⟩ => ⟨o, G.keep a o e n f (fun q => nomatch q), d⟩
  refine el_x (x.cls) fun oL hL => ?_
  have kL : ∀ o, h.get? env.locals = some o → ∃ sl, h'.get? env.locals = some { o with slots := sl } := fun o e => by
    by_cases f : env.locals ∈ F
    · exact G.keepF _ o e f fun q => nomatch q
    · exact in_x o.slots (G.keep _ o e x.out f fun q => nomatch q)
  refine ⟨x.kind, x.glob, x.blt, x.len, ?_, fun i n v e1 e2 e3 => ?_, notNew _ _ hL x.out, fun n a e => ?_, x.inj, x.has, let ⟨_, e⟩ := kL _ hL; ⟨_, e⟩, x.new⟩
  · refine el_xp (x.loc) fun m h1 h2 => ?_
    refine in_xp m (Ns.slots h1 kL) (fun i n v e1 e2 e3 => ?_)
    refine el_xp (h2 i n v e1 e2 e3) fun y a b => ?_
    exact in_xp y a (b.go S G)
  · refine el_xxpp (x.cel i n v e1 e2 e3) fun a y h1 h2 h3 => ?_
    refine el_pp (x.outs _ a (PySem.mem_of_lookup h1)) fun o1 o2 _ => ?_
    exact in_xxpp a y h1 (kc _ _ o1 o2 h2) (h3.go S G)
  · refine el_ppppxxp (x.outs n a e) fun o1 o2 o3 o4 v o e1 e2 => ?_
    exact in_ppppx (notNew _ _ e1 o1) o2 o3 o4 v (kc _ _ o1 o2 ⟨o, e1, e2⟩)

section
variable {M : Model} {c : Cf} {F : List Addr} {A : Around} {mu : Mu} {s : Shared} {H : Hp} {ns : List String} {env : Env} {g : Gm}

theorem snd_var {i : Nat} {n : String} {v : V} {x : Str} {pos : Pos} (S : St c F mu H s.heap) (R : FrR c F ns env g mu s.heap) (e1 : ns[i]? = some n) (e2 : g[i]? = some (some v)) (hx : Str.ofString n = x)
    (hk : env.kindOf x = some .local ∨ env.kindOf x = some .cell ∨ env.kindOf x = some .free) (hd : (x == ("__debug__" : Str)) = false) (hcd : (x == ("__classdict__" : Str)) = false) :
    Snd M c F A mu s (eval (.Name x pos) env) (.ok v H) (VRl c) := by
  subst hx
  intro _
  refine wpAny_Name ?_ hd
  rcases hk with hk | hk
  · refine el_xp (R.loc) fun m h1 h2 => ?_
    refine el_xp (h2 i n v e1 e2 hk) fun y a b => ?_
    exact wpAny_loadName_local R.kind hk h1 a (QV.same (t := s.toks) S b)
  · refine el_xxpp (R.cel i n v e1 e2 hk) fun a y h1 h2 h3 => ?_
    rcases hk with hk | hk
    · exact wpAny_loadName_cell R.kind hk h1 h2 (QV.same (t := s.toks) S h3)
    · exact wpAny_loadName_free R.kind hk h1 h2 (QV.same (t := s.toks) S h3) hcd

theorem snd_int {i : Int} {k pos} (S : St c F mu H s.heap) : Snd M c F A mu s (eval (.Constant (.int i) k pos) env) (.ok (.int i) H) (VRl c) := fun _ => wpAny_Constant_int (QV.same S ⟨_, rfl⟩)
theorem snd_bool {i : Bool} {k pos} (S : St c F mu H s.heap) : Snd M c F A mu s (eval (.Constant (.bool i) k pos) env) (.ok (.bool i) H) (VRl c) := fun _ => wpAny_Constant_bool (QV.same (t := s.toks) S rfl)
theorem snd_none {k pos} (S : St c F mu H s.heap) : Snd M c F A mu s (eval (.Constant .none k pos) env) (.ok .none H) (VRl c) := fun _ => wpAny_Constant_none (QV.same (t := s.toks) S rfl)
theorem snd_str {x : Str} {l : List Nat} {k pos} (S : St c F mu H s.heap) (hx : x.cps.toList = l) (ho : okStr l) : Snd M c F A mu s (eval (.Constant (.str x) k pos) env) (.ok (.str l) H) (VRl c) :=
  fun _ => wpAny_Constant_str (QV.same S ⟨s.toks, by subst hx; rfl, ho⟩)
end

end Mine
end

section
/-! + - * // % ** -/
namespace Mine
open PySem PyProof.Rows

noncomputable def BO.op : BO → Operator
  | .add => .Add | .sub => .Sub | .mul => .Mult | .fdiv => .FloorDiv | .mod => .Mod | .pow => .Pow

theorem bits_eq (i : Int) : bitsOf i = Builtin.Int.intBits i := by
  unfold bitsOf Builtin.Int.intBits
  by_cases h : i = 0
  · subst h; rfl
  · rw [if_neg (by (first | lia | omega)), if_neg (by simpa using h)]

theorem mostLen_eq : mostLen = sizeLine := by decide

section
variable {prog : Program} {c : Cf} {F : List Addr} {A : Around} {mu : Mu} {s : Shared} {H : Hp}

inductive LAt (c : Cf) (mu : Mu) (s : Shared) (r : Nat) (l : List V) (x : Value) : Prop
  | mk (q : Loc) (n : Nat) (items : Array Value) (e : x = .ref q.a) (h1 : mu[r]? = some q) (h2 : q.d = q.a) (h3 : s.heap.get? q.a = some { cls := .type "list", data := .seq items n }) (h4 : VRs c.bs mu s.heap l items.toList) (h5 : l.length ≤ mostLen)
theorem St.listAt (S : St c F mu H s.heap) {r : Nat} {l : List V} {x : Value} (e : H[r]? = some (.list l)) (v : VR c.bs mu s.heap (.ref r) x) : LAt c mu s r l x := by
  refine el_xp v fun q h1 h2 => ?_; try clear v
  refine el_pxxpp (S.objs r q _ h1 e) fun h3 n items h4 h5 h6 => ?_
  exact ⟨q, n, items, h2, h1, h3, h4, h5, h6⟩

theorem VRs.size {bs : Heap} {mu : Mu} {h : Heap} {l : List V} {a : Array Value} (x : VRs bs mu h l a.toList) : a.size = l.length := by rw [← x.length]; simp

theorem QV.newList {vs : List V} {cs : Array Value} (S : St c F mu H s.heap) (v : VRs c.bs mu s.heap vs cs.toList) (hz : vs.length ≤ mostLen) (n : Nat) :
    QV c F mu s (alloc (.list vs) H) (VRl c) (.ref s.heap.objs.size) { s with heap := s.heap.push { cls := .type "list", data := .seq cs n } } := by
  refine QV.more (l := ⟨s.heap.objs.size, s.heap.objs.size⟩) S (stays_push _ _) (get_push_fresh _) (get_push_fresh _) ⟨rfl, n, cs, Heap.get?_push_size _ rfl, v.mono (fun b o e _ => Heap.get?_push_of_some _ e) (fun i m e => ?_), hz⟩ ⟨⟨s.heap.objs.size, s.heap.objs.size⟩, ?_, rfl⟩ rfl rfl
  · rw [List.getElem?_append_left (List.getElem?_eq_some_iff.mp e).1]; exact e
  · rw [← S.len, List.getElem?_append_right (Nat.le_refl _), Nat.sub_self]; rfl

theorem Snd.onI {k : Int → Mine.R V} {v : V} {x : Value} {α : Type} {t : Sem α} {Rl : V → α → Mu → Heap → Prop} {M : Model} (va : VR c.bs mu s.heap v x) (f : ∀ i u, x = .int i u → Snd M c F A mu s t (k i) Rl) : Snd M c F A mu s t (onI v k) Rl := by
  cases v with
  | int i => refine el_x va fun u e => ?_; try clear va; exact f i u e
  | _ => exact fun h => absurd rfl h
theorem Snd.onS {k : List Nat → Mine.R V} {v : V} {x : Value} {α : Type} {t : Sem α} {Rl : V → α → Mu → Heap → Prop} {M : Model} (va : VR c.bs mu s.heap v x) (f : ∀ l u, x = .str ⟨l.toArray⟩ u → okStr l → Snd M c F A mu s t (k l) Rl) : Snd M c F A mu s t (onS v k) Rl := by
  cases v with
  | str l => refine el_xp va fun u e o => ?_; try clear va; exact f l u e o
  | _ => exact fun h => absurd rfl h
theorem Snd.onL {k : List V → Mine.R V} {v : V} {x : Value} {α : Type} {t : Sem α} {Rl : V → α → Mu → Heap → Prop} {M : Model} (va : VR c.bs mu s.heap v x) (f : ∀ r l, VR c.bs mu s.heap (.ref r) x → H[r]? = some (.list l) → Snd M c F A mu s t (k l) Rl) : Snd M c F A mu s t (onL v H k) Rl := by
  cases v with
  | ref r =>
    show Snd M c F A mu s t (match H[r]? with | some (.list l) => k l | _ => .bad) Rl
    cases e : H[r]? with
    | none => exact fun h => absurd rfl h
    | some o =>
      cases o with
      | list l => exact f r l va e
      | _ => exact fun h => absurd rfl h
  | _ => exact fun h => absurd rfl h
theorem Snd.ifT {p : Prop} [Decidable p] {a : Mine.R V} {α : Type} {t : Sem α} {Rl : V → α → Mu → Heap → Prop} {M : Model} (f : p → Snd M c F A mu s t a Rl) : Snd M c F A mu s t (if p then a else .bad) Rl := by
  by_cases q : p
  · rw [if_pos q]; exact f q
  · rw [if_neg q]; exact fun h => absurd rfl h
theorem Snd.ifF {p : Prop} [Decidable p] {a : Mine.R V} {α : Type} {t : Sem α} {Rl : V → α → Mu → Heap → Prop} {M : Model} (f : ¬ p → Snd M c F A mu s t a Rl) : Snd M c F A mu s t (if p then .bad else a) Rl := by
  by_cases q : p
  · rw [if_pos q]; exact fun h => absurd rfl h
  · rw [if_neg q]; exact f q
theorem addL_snd {a b : V} {x y : Value} (S : St c F mu H s.heap) (va : VR c.bs mu s.heap a x) (vb : VR c.bs mu s.heap b y) :
    Snd (model prog c.w) c F A mu s (binaryOp .Add x y) (onL a H fun x => onL b H fun y => if x.length + y.length ≤ mostLen then alloc (.list (x ++ y)) H else .bad) (VRl c) :=
  .onL va fun r1 l1 va h1 => .onL vb fun r2 l2 vb h2 => .ifT fun h _ => by
    obtain ⟨l1, n1, i1, rfl, _, _, e1, v1, _⟩ := S.listAt h1 va
    obtain ⟨l2, n2, i2, rfl, _, _, e2, v2, _⟩ := S.listAt h2 vb
    refine P.add_list e1 e2 (QV.newList S ?_ (by rw [List.length_append]; exact h) 0) ?_
    · rw [Array.toList_append]; exact v1.append v2
    · rw [v1.size, v2.size, ← mostLen_eq]; exact h
theorem add_snd {a b : V} {x y : Value} (S : St c F mu H s.heap) (va : VR c.bs mu s.heap a x) (vb : VR c.bs mu s.heap b y) :
    Snd (model prog c.w) c F A mu s (binaryOp .Add x y) (bAdd a b H) (VRl c) := by
  cases a with
  | int a => refine el_x va fun t tqz => ?_; try clear va; subst tqz; exact .onI vb fun b u e _ => e ▸ PyProof.Rows.add_int (QV.same S ⟨_, rfl⟩)
  | str a =>
    refine el_xp va fun t tq1 o1 => ?_; try clear va; subst tq1
    refine .onS vb fun b u e o2 => .ifT fun h _ => e ▸ PyProof.Rows.add_str (fun t' tk => QV.same S ⟨t', ?_, by rw [List.length_append]; exact h, fun x hx => (List.mem_append.mp hx).elim (o1.2 x) (o2.2 x)⟩) ?_
    · show Value.str ⟨_ ++ _⟩ _ = _
      rw [List.append_toArray]
    · simpa [Str.length, ← mostLen_eq] using h
  | _ => exact addL_snd S va vb
theorem mul_snd {a b : V} {x y : Value} (S : St c F mu H s.heap) (va : VR c.bs mu s.heap a x) (vb : VR c.bs mu s.heap b y) :
    Snd (model prog c.w) c F A mu s (binaryOp .Mult x y) (bMul a b H) (VRl c) := by
  cases a with
  | int a => refine el_x va fun t tqz => ?_; try clear va; subst tqz; exact .onI vb fun b u e => .ifT fun h _ => e ▸ PyProof.Rows.mul_int (QV.same S ⟨_, rfl⟩) (IntMulOk.of_bits (bits_eq a ▸ h.1) (bits_eq b ▸ h.2))
  | _ => exact fun h => absurd rfl h
theorem binop_snd {op : BO} {a b : V} {x y : Value} (S : St c F mu H s.heap) (va : VR c.bs mu s.heap a x) (vb : VR c.bs mu s.heap b y) :
    Snd (model prog c.w) c F A mu s (binaryOp op.op x y) (binop op a b H) (VRl c) := by
  cases op with
  | add => exact add_snd S va vb
  | sub => exact .onI va fun i u e => .onI vb fun j u' e' _ => by subst e e'; exact PyProof.Rows.sub_int (QV.same S ⟨_, rfl⟩)
  | mul => exact mul_snd S va vb
  | fdiv => exact .onI va fun i u e => .onI vb fun j u' e' => .ifF fun h _ => by subst e e'; exact PyProof.Rows.floordiv_int (fun q => h (.inl q)) (QV.same S ⟨_, rfl⟩) (.inl (PyProof.noPylong_small (by (first | lia | omega))))
  | mod => exact .onI va fun i u e => .onI vb fun j u' e' => .ifF fun h _ => by subst e e'; exact PyProof.Rows.mod_int' h (QV.same S ⟨_, rfl⟩)
  | pow => exact fun h => absurd rfl h
end
end Mine
end

section
/-! == != in over data; < <= > >= -/
namespace Mine
open PySem PyProof.Rows

mutual
noncomputable def toPy : D → PyData
  | .none => .none
  | .bool b => .bool b
  | .int i => .int i
  | .str s => .str ⟨s.toArray⟩
  | .list l => .list (toPys l)
  | .tup l => .tuple (toPys l)
noncomputable def toPys : List D → List PyData
  | [] => []
  | d :: r => toPy d :: toPys r
end

mutual
theorem eqv_py : ∀ a b : D, D.eqv a b = PyData.eqv (toPy a) (toPy b)
  | .none, b => by cases b <;> first | rfl | simp [D.eqv, toPy, PyData.eqv]
  | .bool _, b => by cases b <;> first | rfl | simp [D.eqv, toPy, PyData.eqv]
  | .int _, b => by cases b <;> first | rfl | simp [D.eqv, toPy, PyData.eqv]
  | .str x, b => by
    cases b with
    | str y =>
      show (x == y) = _
      rw [Bool.eq_iff_iff]; simp [toPy, PyData.eqv]
    | _ => first | rfl | simp [D.eqv, toPy, PyData.eqv]
  | .list l, b => by
    cases b with
    | list m => exact eqvs_py l m
    | _ => first | rfl | simp [D.eqv, toPy, PyData.eqv]
  | .tup l, b => by
    cases b with
    | tup m => exact eqvs_py l m
    | _ => first | rfl | simp [D.eqv, toPy, PyData.eqv]
theorem eqvs_py : ∀ a b : List D, D.eqvs a b = PyData.eqvAll (toPys a) (toPys b)
  | [], [] => by first | rfl | simp [D.eqvs, toPys, PyData.eqvAll]
  | [], _ :: _ => by first | rfl | simp [D.eqvs, toPys, PyData.eqvAll]
  | _ :: _, [] => by first | rfl | simp [D.eqvs, toPys, PyData.eqvAll]
  | a :: r, b :: s => congr (congrArg Bool.and (eqv_py a b)) (eqvs_py r s)
end

theorem any_py (d : D) : ∀ l : List D, (l.any fun y => D.eqv y d) = (toPys l).any fun y => PyData.eqv y (toPy d)
  | [] => rfl
  | a :: r => by rw [List.any_cons, toPys, List.any_cons, eqv_py, any_py d r]

theorem mapO_some {α β : Type} {f : α → Option β} : ∀ {l : List α} {m : List β}, mapO f l = some m → (l = [] ∧ m = []) ∨ ∃ a r b t, l = a :: r ∧ m = b :: t ∧ f a = some b ∧ mapO f r = some t
  | [], m, e => by simp [mapO] at e; exact .inl ⟨rfl, e⟩
  | a :: r, m, e => by
    unfold mapO at e
    split at e
    · rename_i b t h1 h2
      cases e
      exact .inr ⟨a, r, b, t, rfl, rfl, h1, h2⟩
    · cases e

section
variable {c : Cf} {F : List Addr} {mu : Mu} {h : Heap} {H : Hp}

theorem reads_data (S : St c F mu H h) : ∀ (n : Nat) {v : V} {d : D} {x : Value}, data n H v = some d → VR c.bs mu h v x → ∃ as, Reads h x (toPy d) as ∧ (toPy d).canLay0 = true ∧ (toPy d).depth ≤ n
  | 0, _, _, _, e, _ => by simp [data] at e
  | n + 1, v, d, x, e, r => by
    have all : ∀ {l : List V} {ds : List D} {xs : List Value}, mapO (data n H) l = some ds → VRs c.bs mu h l xs → ∃ as, ReadsAll h xs (toPys ds) as ∧ PyData.canLayAll0 (toPys ds) = true ∧ PyData.depthAll (toPys ds) ≤ n := by
      intro l
      induction l with
      | nil =>
        intro ds xs e r
        simp only [mapO, Option.some.injEq] at e; subst e
        replace r : _ = _ := r; subst r
        exact in_xpp [] .nil (by simp [toPys, PyData.canLayAll0]) (by simp [toPys, PyData.depthAll])
      | cons v l ih =>
        intro ds xs e r
        rcases mapO_some e with ⟨q, _⟩ | ⟨_, _, b, t, q, rfl, h1, h2⟩
        · cases q
        · cases q
          refine el_xxpp r fun y ys tq2 r1 r2 => ?_; try clear r; subst tq2
          refine el_xpp (reads_data S n h1 r1) fun as a1 a2 a3 => ?_
          refine el_xpp (ih h2 r2) fun bs b1 b2 b3 => ?_
          refine in_xpp (as ++ bs) (.cons a1 b1) ?_ ?_
          · simp only [toPys, PyData.canLayAll0, Bool.and_eq_true]; exact ⟨a2, b2⟩
          · simp only [toPys, PyData.depthAll]; (first | lia | omega)
    cases v with
    | none => simp only [data, Option.some.injEq] at e; subst e; replace r : _ = _ := r; subst r; exact in_xpp [] .none (by simp [toPy, PyData.canLay0]) (by simp [toPy, PyData.depth])
    | bool b => simp only [data, Option.some.injEq] at e; subst e; replace r : _ = _ := r; subst r; exact in_xpp [] (.bool b) (by simp [toPy, PyData.canLay0]) (by simp [toPy, PyData.depth])
    | int i => simp only [data, Option.some.injEq] at e; subst e; refine el_x r fun t tqz => ?_; try clear r; subst tqz; exact in_xpp [] (.int i t) (by simp [toPy, PyData.canLay0]) (by simp [toPy, PyData.depth])
    | str s =>
      simp only [data, Option.some.injEq] at e; subst e; refine el_xp r fun t tq1 ho => ?_; try clear r; subst tq1
      refine in_xpp [] (.str _ t) ?_ (by simp [toPy, PyData.depth])
      simp only [toPy, PyData.canLay0, PyData.strOk, List.all_toArray, List.all_eq_true, decide_eq_true_eq]
      exact ho.2
    | tup l =>
      simp only [data, Option.map_eq_some_iff] at e
      obtain ⟨ds, e, rfl⟩ := e
      obtain ⟨a, o, k, vs, rfl, h1, h2, h3, h4, _⟩ := r
      obtain ⟨as, a1, a2, a3⟩ := all e h4
      refine in_xpp as (.tuple h1 h2 h3 a1) (by simp only [toPy, PyData.canLay0]; exact a2) (by simp only [toPy, PyData.depth]; (first | lia | omega))
    | ref i =>
      simp only [data] at e
      split at e
      · rename_i l hl
        simp only [Option.map_eq_some_iff] at e
        obtain ⟨ds, e, rfl⟩ := e
        obtain ⟨q, h1, rfl⟩ := r
        obtain ⟨_, k, items, h4, h5, _⟩ := S.objs i q _ h1 hl
        obtain ⟨as, a1, a2, a3⟩ := all e h5
        refine in_xpp (q.a :: as) (.list h4 rfl rfl a1) (by simp only [toPy, PyData.canLay0]; exact a2) (by simp only [toPy, PyData.depth]; (first | lia | omega))
      · cases e
    | rng _ _ _ => simp [data] at e
    | fz _ => simp [data] at e
end

noncomputable def CO.op : CO → CmpOp
  | .eq => .Eq | .ne => .NotEq | .lt => .Lt | .le => .LtE | .gt => .Gt | .ge => .GtE | .isin => .In | .notin => .NotIn | .is => .Is | .isnot => .IsNot

section
variable {prog : Program} {c : Cf} {F : List Addr} {A : Around} {mu : Mu} {s : Shared} {H : Hp} {E : Value → Shared → Prop} {Q : Value → Shared → Prop}

theorem eq_data {a b : V} {x y : Value} {d e : D} (S : St c F mu H s.heap) (va : VR c.bs mu s.heap a x) (vb : VR c.bs mu s.heap b y) (ea : data deep H a = some d) (eb : data deep H b = some e) (hu : A.units + deep < cLine)
    (h : Q (.bool (D.eqv d e)) s) : wpAny (model prog c.w) A (compareOp .Eq x y) Q E s := by
  refine el_xpp (reads_data S deep ea va) fun as a1 a2 a3 => ?_
  refine el_xpp (reads_data S deep eb vb) fun bs b1 b2 b3 => ?_
  exact SeqAt.compareEq_reads a1 b1 a2 b2 (by (first | lia | omega)) (by rw [← eqv_py]; exact h)
theorem ne_data {a b : V} {x y : Value} {d e : D} (S : St c F mu H s.heap) (va : VR c.bs mu s.heap a x) (vb : VR c.bs mu s.heap b y) (ea : data deep H a = some d) (eb : data deep H b = some e) (hu : A.units + deep < cLine)
    (h : Q (.bool (!D.eqv d e)) s) : wpAny (model prog c.w) A (compareOp .NotEq x y) Q E s := by
  refine el_xpp (reads_data S deep ea va) fun as a1 a2 a3 => ?_
  refine el_xpp (reads_data S deep eb vb) fun bs b1 b2 b3 => ?_
  exact SeqAt.compareNe_reads a1 b1 a2 b2 (by (first | lia | omega)) (by rw [← eqv_py]; exact h)
theorem in_data {a b : V} {x y : Value} {d : D} {ds : List D} (S : St c F mu H s.heap) (va : VR c.bs mu s.heap a x) (vb : VR c.bs mu s.heap b y) (ea : data deep H a = some d) (eb : data deep H b = some (.list ds)) (hu : A.units + 1 + deep < cLine)
    (h : Q (.bool (ds.any fun z => D.eqv z d)) s) : wpAny (model prog c.w) A (compareOp .In x y) Q E s := by
  refine el_xpp (reads_data S deep ea va) fun as a1 a2 a3 => ?_
  refine el_xpp (reads_data S deep eb vb) fun bs b1 b2 b3 => ?_
  simp only [toPy] at b1
  exact SeqAt.in_list_reads b1 a1 (by simpa only [toPy, PyData.canLay0] using b2) a2 (by (first | lia | omega)) (by rw [← any_py]; exact h)
theorem notin_data {a b : V} {x y : Value} {d : D} {ds : List D} (S : St c F mu H s.heap) (va : VR c.bs mu s.heap a x) (vb : VR c.bs mu s.heap b y) (ea : data deep H a = some d) (eb : data deep H b = some (.list ds)) (hu : A.units + 1 + deep < cLine)
    (h : Q (.bool (!ds.any fun z => D.eqv z d)) s) : wpAny (model prog c.w) A (compareOp .NotIn x y) Q E s := by
  refine el_xpp (reads_data S deep ea va) fun as a1 a2 a3 => ?_
  refine el_xpp (reads_data S deep eb vb) fun bs b1 b2 b3 => ?_
  simp only [toPy] at b1
  exact SeqAt.notIn_list_reads b1 a1 (by simpa only [toPy, PyData.canLay0] using b2) a2 (by (first | lia | omega)) (by rw [← any_py]; exact h)
end
end Mine
end

section
/-! dicts whose keys are strs, ints, tuples of ints -/
namespace Mine
open PySem PyProof.Rows

noncomputable def Key.d : Key → D
  | .inl s => .str s
  | .inr (.inl l) => .tup (l.map .int)
  | .inr (.inr i) => .int i
theorem data_ints (n : Nat) (H : Hp) : ∀ is : List Int, mapO (data (n + 1) H) (is.map .int) = some (is.map .int)
  | [] => rfl
  | a :: r => by rw [List.map_cons, mapO, data_ints n H r]; rfl
theorem key_data (H : Hp) : ∀ k : Key, data deep H k.v = some k.d
  | .inl _ => rfl
  | .inr (.inl l) => congrArg (Option.map D.tup) (data_ints 6 H l)
  | .inr (.inr _) => rfl
theorem eqvs_ints : ∀ is js : List Int, D.eqvs (is.map .int) (js.map .int) = decide (is = js)
  | [], [] => rfl
  | [], _ :: _ => rfl
  | _ :: _, [] => rfl
  | a :: r, b :: t => by
    show ((a == b) && D.eqvs (r.map .int) (t.map .int)) = _
    rw [eqvs_ints r t, Bool.eq_iff_iff]; simp
theorem key_eqv : ∀ k l : Key, D.eqv k.d l.d = decide (k = l)
  | .inl a, .inl b => by show (a == b) = _; rw [Bool.eq_iff_iff]; simp
  | .inl _, .inr (.inl _) => rfl
  | .inl _, .inr (.inr _) => rfl
  | .inr (.inl _), .inl _ => rfl
  | .inr (.inr _), .inl _ => rfl
  | .inr (.inl a), .inr (.inl b) => (eqvs_ints a b).trans (by rw [Bool.eq_iff_iff]; simp)
  | .inr (.inl _), .inr (.inr _) => rfl
  | .inr (.inr _), .inr (.inl _) => rfl
  | .inr (.inr a), .inr (.inr b) => by show (a == b) = _; rw [Bool.eq_iff_iff]; simp

section
variable {prog : Program} {c : Cf} {F : List Addr} {A : Around} {mu : Mu} {s : Shared} {H : Hp} {E : Value → Shared → Prop}

theorem key_eqAt {k l : V} {x y : Value} (S : St c F mu H s.heap) (hk : isKey k = true) (hl : isKey l = true) (vk : VR c.bs mu s.heap k x) (vl : VR c.bs mu s.heap l y) (hu : A.units + deep < cLine) : SeqAt.EqAt A s x y (keyEq k l) := by
  refine el_x (isKey_of hk) fun k e => ?_
  refine el_x (isKey_of hl) fun l f => ?_
  rw [e] at vk; rw [f] at vl
  refine el_xpp (reads_data S deep (key_data H k) vk) fun as a1 a2 a3 => ?_
  refine el_xpp (reads_data S deep (key_data H l) vl) fun bs b1 b2 b3 => ?_
  rw [e, f, keyEq_v, ← key_eqv, eqv_py]
  exact SeqAt.eqAt_reads _ _ A s x y as bs a1 b1 a2 b2 (by (first | lia | omega))

theorem vrs_ints {bs : Heap} {h : Heap} : ∀ {is : List Int} {xs : List Value}, VRs bs mu h (is.map .int) xs → ItemsAre (intKind prog c.w) is xs
  | [], _, r => by rw [show _ = [] from r]; exact .nil
  | _ :: _, _, z0 => by
    refine el_xxpp z0 fun _ _ e tq3 r => ?_; try clear z0; obtain ⟨_, f⟩ := tq3
    rw [e, f]
    exact .cons (by simp [intKind, Value.isInt]) (vrs_ints r)

theorem key_tuple {is : List Int} {x : Value} (vk : VR c.bs mu s.heap (.tup (is.map .int)) x) : ∃ a, x = .ref a ∧ IsTupleKey (intKind prog c.w) s.heap is a := by
  refine el_xxxxppppp vk fun a o n vs e h1 h2 h3 h4 _ => ?_; try clear vk
  exact ⟨a, e, o, vs, n, h1, h2, h3, vrs_ints h4⟩

theorem key_hash {k : V} {x : Value} {Q : Int → Shared → Prop} (hk : isKey k = true) (vk : VR c.bs mu s.heap k x) (hu : A.units < cLine) (h : ∀ t, Q (khash c.w k) { s with toks := t }) : wpAny (model prog c.w) A (pyHash x) Q E s := by
  obtain ⟨(_ | is | i), rfl⟩ := isKey_of hk
  · refine el_xp vk fun t tq1 _ => ?_; try clear vk; subst tq1
    exact wpAny_pyHash_str (h _)
  rotate_left
  · refine el_x vk fun t tqz => ?_; try clear vk; subst tqz
    exact wpAny_pyHash_int (h _)
  · refine el_xp (key_tuple (prog := prog) vk) fun a tq1 q => ?_; subst tq1
    refine wpAny_pyHash_tuple hu q ?_
    have : tupleKeyHash (intKind prog c.w) is = khash c.w (.tup (is.map .int)) := by
      show _ = reduceHash (Builtin.Tuple.tupleHashOf ((is.map V.int).map intHash)); rw [List.map_map]; rfl
    rw [this]; exact h _

theorem key_quiet {k : V} {x : Value} {Q : Bool → Shared → Prop} (hk : isKey k = true) (vk : VR c.bs mu s.heap k x) (h : Q true s) : wpAny (model prog c.w) A (eqIsQuiet 8 x) Q E s := by
  obtain ⟨(_ | is | i), rfl⟩ := isKey_of hk
  · refine el_xp vk fun t tq1 _ => ?_; try clear vk; subst tq1
    rw [eqIsQuiet_byValue 8 rfl]; exact wpAny_pure h
  rotate_left
  · refine el_x vk fun t tqz => ?_; try clear vk; subst tqz
    rw [eqIsQuiet_byValue 8 rfl]; exact wpAny_pure h
  · refine el_xp (key_tuple (prog := prog) vk) fun a tq1 q => ?_; subst tq1
    exact wpAny_eqIsQuiet_tuple q h

theorem key_one (prog : Program) {k l : V} {x : Value} (_ : St c F mu H s.heap) (hk : isKey k = true) (hl : isKey l = true) (vk : VR c.bs mu s.heap k x) (vl : VR c.bs mu s.heap l x) : k = l := by
  obtain ⟨(_ | is | i), rfl⟩ := isKey_of hk <;> obtain ⟨(_ | js | j), rfl⟩ := isKey_of hl
  · refine el_xp vk fun t tq1 _ => ?_; try clear vk; subst tq1; refine el_xp vl fun u e _ => ?_; try clear vl; simp at e; simp [e.1, Key.v]
  · refine el_xp vk fun t tq1 _ => ?_; try clear vk; subst tq1; refine el_xp (key_tuple (prog := prog) vl) fun u e _ => ?_; cases e
  · refine el_xp vk fun t tq1 _ => ?_; try clear vk; subst tq1; refine el_x vl fun u e => ?_; try clear vl; cases e
  · refine el_xp (key_tuple (prog := prog) vk) fun a tq1 _ => ?_; subst tq1; obtain ⟨u, e, _⟩ := vl; cases e
  · obtain ⟨a, rfl, q⟩ := key_tuple (prog := prog) vk
    obtain ⟨b, e, q'⟩ := key_tuple (prog := prog) vl
    cases e
    rw [q.inj q']
  · obtain ⟨a, rfl, _⟩ := key_tuple (prog := prog) vk; obtain ⟨u, e⟩ := vl; cases e
  · obtain ⟨t, rfl⟩ := vk; obtain ⟨u, e, _⟩ := vl; cases e
  · obtain ⟨t, rfl⟩ := vk; obtain ⟨u, e, _⟩ := key_tuple (prog := prog) vl; cases e
  · obtain ⟨t, rfl⟩ := vk; obtain ⟨u, e⟩ := vl; cases e; rfl
theorem key_shape (prog : Program) {k : V} {x : Value} (hk : isKey k = true) (vk : VR c.bs mu s.heap k x) : (∃ y t, x = .str y t) ∨ (∃ y t, x = .int y t) ∨ ∃ a, x = .ref a := by
  obtain ⟨(_ | is | i), rfl⟩ := isKey_of hk
  · refine el_xp vk fun t e _ => ?_; try clear vk; exact .inl ⟨_, _, e⟩
  · refine el_xp (key_tuple (prog := prog) vk) fun a e _ => ?_; exact .inr (.inr ⟨_, e⟩)
  · refine el_x vk fun t e => ?_; try clear vk; exact .inr (.inl ⟨_, _, e⟩)
theorem key_str (prog : Program) {k : V} {y : Str} {x : Value} (hk : isKey k = true) (vk : VR c.bs mu s.heap k x) (h : x.isStr y = true) : ∃ z, k = .str z ∧ y = ⟨z.toArray⟩ := by
  obtain ⟨(_ | is | i), rfl⟩ := isKey_of hk
  · refine el_xp vk fun t e _ => ?_; try clear vk; rw [e] at h; exact in_xp _ rfl ((eq_of_beq h).symm)
  · refine el_xp (key_tuple (prog := prog) vk) fun t e _ => ?_; rw [e] at h; cases h
  · refine el_x vk fun t e => ?_; try clear vk; rw [e] at h; cases h

noncomputable def dIdx (es : List (V × V)) (k : V) : Option Nat := es.findIdx? fun p => keyEq p.1 k
noncomputable def Hit (es : List (V × V)) (k : V) (j : Nat) : Prop := ∃ v, es[j]? = some (k, v)

theorem dIdx_some {es : List (V × V)} {k : V} (hk : isKey k = true) (hp : es.Pairwise fun x y => keyEq x.1 y.1 = false) {j : Nat} (x : Hit es k j) : dIdx es k = some j := by
  refine el_x x fun v e => ?_; try clear x
  refine el_y (List.getElem?_eq_some_iff.mp e) fun hj e' => ?_
  unfold dIdx
  rw [List.findIdx?_eq_some_iff_getElem]
  refine ⟨hj, by rw [e']; exact keyEq_refl hk, fun i hi => ?_⟩
  have z := List.pairwise_iff_getElem.mp hp i j (by (first | lia | omega)) hj hi
  rw [e'] at z; simpa using z
theorem dIdx_none {es : List (V × V)} {k : V} (x : ∀ j, ¬ Hit es k j) : dIdx es k = none := by
  unfold dIdx
  rw [List.findIdx?_eq_none_iff]
  intro p hp
  refine el_x (List.mem_iff_getElem?.mp hp) fun j hj => ?_
  cases q : keyEq p.1 k with
  | false => rfl
  | true => exact absurd ⟨p.2, by rw [hj, ← keyEq_eq q]⟩ (x j)
theorem dGet_idx : ∀ (es : List (V × V)) (k : V), dGet es k = ((dIdx es k).bind fun j => es[j]?).map (·.2)
  | [], _ => rfl
  | (a, v) :: r, k => by
    unfold dGet dIdx
    rw [List.findIdx?_cons]
    cases q : keyEq a k with
    | true => simp
    | false =>
      have ih := dGet_idx r k
      unfold dIdx at ih
      simp only [Bool.false_eq_true, if_false, ih]
      cases List.findIdx? (fun p => keyEq p.1 k) r <;> simp
theorem dSet_idx : ∀ (es : List (V × V)) (k v : V), dSet es k v = match dIdx es k with | some j => es.modify j fun p => (p.1, v) | none => es ++ [(k, v)]
  | [], _, _ => rfl
  | (a, u) :: r, k, v => by
    unfold dSet dIdx
    rw [List.findIdx?_cons]
    cases q : keyEq a k with
    | true => simp
    | false =>
      have ih := dSet_idx r k v
      unfold dIdx at ih
      simp only [Bool.false_eq_true, if_false, ih]
      cases List.findIdx? (fun p => keyEq p.1 k) r <;> simp

theorem DRs.get {w : World} {bs : Heap} {h : Heap} : ∀ {es : List (V × V)} {ds : List DictEntry}, DRs w bs mu h es ds → ∀ {j : Nat} {p : V × V}, es[j]? = some p → ∃ e, ds[j]? = some e ∧ e.hash = khash w p.1 ∧ VR bs mu h p.1 e.key ∧ VR bs mu h p.2 e.val
  | [], _, _, _, _, e => by simp at e
  | (k, v) :: r, _, z0, 0, p, e => by
    refine el_xxpppp z0 fun d t h1 h2 h3 h4 h5 => ?_; try clear z0
    simp only [List.getElem?_cons_zero, Option.some.injEq] at e; subst e
    exact ⟨d, by rw [h1]; rfl, h2, h3, h4⟩
  | (k, v) :: r, _, z0, j + 1, p, e => by
    refine el_xxpppp z0 fun d t h1 h2 h3 h4 h5 => ?_; try clear z0
    simp only [List.getElem?_cons_succ] at e
    refine el_xp (DRs.get h5 e) fun q a b => ?_
    exact in_xp q (by rw [h1]; simpa using a) b
theorem DRs.length {w : World} {bs : Heap} {h : Heap} : ∀ {es : List (V × V)} {ds : List DictEntry}, DRs w bs mu h es ds → ds.length = es.length
  | [], _, x => by rw [show _ = [] from x]; rfl
  | (_, _) :: _, _, z0 => by
    refine el_xxpppp z0 fun d t h1 _ _ _ h5 => ?_; try clear z0
    rw [h1, List.length_cons, List.length_cons, h5.length]

section
variable {es : List (V × V)} {ents : Array DictEntry} {k : V} {x : Value} {d : Addr} {n : Nat} {Q : Option Nat → Shared → Prop}

inductive DAt (c : Cf) (F : List Addr) (A : Around) (mu : Mu) (H : Hp) (s : Shared) (es : List (V × V)) (ents : Array DictEntry) (k : V) (x : Value) (d : Addr) (n : Nat) : Prop
  | mk (S : St c F mu H s.heap) (hu : A.units + deep < cLine) (hk : isKey k = true) (vk : VR c.bs mu s.heap k x) (ho : s.heap.get? d = some ⟨.type "dict", none, .dict ents n, #[]⟩)
    (hks : es.all (fun p => isKey p.1) = true) (hp : es.Pairwise fun x y => keyEq x.1 y.1 = false) (hr : DRs c.w c.bs mu s.heap es ents.toList)
inductive Plc (c : Cf) (es : List (V × V)) (ents : Array DictEntry) (k : V) (j : Nat) : Prop
  | mk (e : DictEntry) (p : V × V) (e1 : ents[j]? = some e) (e2 : es[j]? = some p) (e3 : e.hash = khash c.w k) (e4 : keyEq p.1 k = true → Hit es k j)
inductive KeyE (c : Cf) (mu : Mu) (h : Heap) (es : List (V × V)) (e : DictEntry) (j : Nat) : Prop
  | mk (p : V × V) (e1 : es[j]? = some p) (e2 : isKey p.1 = true) (e3 : e.hash = khash c.w p.1) (e4 : VR c.bs mu h p.1 e.key)
theorem DAt.key (D : DAt c F A mu H s es ents k x d n) {j : Nat} {e : DictEntry} (hj : ents[j]? = some e) : KeyE c mu s.heap es e j := by
  obtain ⟨_, _, _, _, _, hks, _, hr⟩ := D
  have hl : j < es.length := by rw [← hr.length]; simpa using (Array.getElem?_eq_some_iff.mp hj).1
  refine el_xppp (hr.get (List.getElem?_eq_getElem hl)) fun q a b c' _ => ?_
  rw [Array.getElem?_toList, hj] at a; cases a
  exact ⟨_, List.getElem?_eq_getElem hl, List.all_eq_true.mp hks _ (List.getElem_mem hl), b, c'⟩
theorem DAt.hit (D : DAt c F A mu H s es ents k x d n) {j : Nat} (h : Hit es k j) : ∃ e, ents[j]? = some e ∧ e.hash = khash c.w k ∧ VR c.bs mu s.heap k e.key := by
  obtain ⟨_, _, _, _, _, _, _, hr⟩ := D
  refine el_x h fun v hv => ?_; try clear h
  refine el_xppp (hr.get hv) fun q a b c' _ => ?_
  exact in_xpp q (by rw [← Array.getElem?_toList]; exact a) b c'
theorem DAt.eqb (D : DAt c F A mu H s es ents k x d n) {j : Nat} {e : DictEntry} {p : V × V} (hj : ents[j]? = some e) (hp' : es[j]? = some p) : SeqAt.EqAt A s e.key x (keyEq p.1 k) := by
  obtain ⟨p', h1, h2, _, h4⟩ := D.key hj
  obtain ⟨S, hu, hk, vk, _⟩ := D
  rw [hp'] at h1; cases h1
  exact key_eqAt S h2 hk h4 vk hu
theorem DAt.at (D : DAt c F A mu H s es ents k x d n) : s.heap.get? d = some ⟨.type "dict", none, .dict ents n, #[]⟩ := by
  obtain ⟨_, _, _, _, ho, _⟩ := D; exact ho
theorem DAt.look (D : DAt c F A mu H s es ents k x d n) {j : Nat} {e : DictEntry} {p : V × V} {α : Type} {f : Nat → Bool → Nat → Sem α} {Q : α → Shared → Prop} (hj : ents[j]? = some e) (hp' : es[j]? = some p)
    (h : wpAny (model prog c.w) A (f n (keyEq p.1 k) n) Q E s) : wpAny (model prog c.w) A (dictEpoch d (keyPart x) >>= fun a => eqBool e.key x >>= fun b => dictEpoch d (keyPart x) >>= fun c => f a b c) Q E s :=
  wpAny_bind (wpAny_dictEpoch D.at rfl (wpAny_bind (D.eqb hj hp' prog c.w E _ (wpAny_bind (wpAny_dictEpoch D.at rfl h)))))
theorem DAt.idx (D : DAt c F A mu H s es ents k x d n) {j : Nat} (h : Hit es k j) : dIdx es k = some j := by
  obtain ⟨_, _, hk, _, _, _, hp, _⟩ := D; exact dIdx_some hk hp h
theorem DAt.ik (D : DAt c F A mu H s es ents k x d n) : isKey k = true := by
  obtain ⟨_, _, hk, _⟩ := D; exact hk
theorem DAt.vk (D : DAt c F A mu H s es ents k x d n) : VR c.bs mu s.heap k x := by
  obtain ⟨_, _, _, vk, _⟩ := D; exact vk
theorem DAt.other (D : DAt c F A mu H s es ents k x d n) {i j : Nat} {p : V × V} (e2 : es[j]? = some p) (q : keyEq p.1 k = false) (hi : Hit es k i) : i ≠ j := by
  refine el_x hi fun v hv => ?_; try clear hi
  rintro rfl
  rw [e2] at hv; cases hv
  rw [keyEq_refl D.ik] at q; cases q
theorem DAt.inPl (D : DAt c F A mu H s es ents k x d n) {j : Nat} (hj : Hit es k j) : j ∈ placesWithHash ents.size (fun i => ents[i]?.map (·.hash)) (khash c.w k) := by
  refine el_xpp (D.hit hj) fun e h1 h2 _ => ?_
  unfold placesWithHash
  rw [List.mem_filter, List.mem_range]
  exact ⟨(Array.getElem?_eq_some_iff.mp h1).1, by dsimp only; rw [h1]; simp [h2]⟩
theorem DAt.plc (D : DAt c F A mu H s es ents k x d n) {j : Nat} (hj : j ∈ placesWithHash ents.size (fun i => ents[i]?.map (·.hash)) (khash c.w k)) : Plc c es ents k j := by
  unfold placesWithHash at hj
  rw [List.mem_filter, List.mem_range] at hj
  have e := Array.getElem?_eq_getElem hj.1
  obtain ⟨p, h1, h2, h3, h4⟩ := D.key e
  refine ⟨_, p, e, h1, ?_, fun q => ⟨p.2, by rw [h1, ← keyEq_eq q]⟩⟩
  have := hj.2; dsimp only at this; rw [e] at this; simpa using this
theorem DAt.plain (D : DAt c F A mu H s es ents k x d n) {pl : List Nat} (hin : ∀ j, Hit es k j → j ∈ pl) (hpl : ∀ j ∈ pl, Plc c es ents k j) (h : Q (dIdx es k) s) : wpAny (model prog c.w) A (dictWalkPlain d x (khash c.w k) ents pl) Q E s := by
  unfold dictWalkPlain
  refine wpAny_bind ?_
  refine wpAny_forIn_list _ (fun rest r s' => (r = (none, PUnit.unit) ∧ s' = s) ∧ (∀ j, Hit es k j → j ∈ rest) ∧ ∀ j ∈ rest, Plc c es ents k j) _ ?_ ?_ _ _ ⟨⟨rfl, rfl⟩, hin, hpl⟩
  · intro j rest r s' z
    refine el_pp z fun tq0 h1 h2 => ?_; try clear z; obtain ⟨er, es'⟩ := tq0
    obtain ⟨e, p, e1, e2, e3, e4⟩ := h2 j (.head _)
    rw [es', e1]
    dsimp only
    rw [if_pos (by rw [e3]; exact beq_self_eq_true _)]
    refine D.look e1 e2 ?_
    rw [if_neg (by simp)]
    cases q : keyEq p.1 k with
    | true =>
      rw [if_pos rfl]
      rw [D.idx (e4 q)] at h
      exact wpAny_bind (wpAny_rule (wpAny_pure (wpAny_pure h)))
    | false =>
      rw [if_neg Bool.false_ne_true]
      exact wpAny_bind (wpAny_rule (wpAny_pure ⟨⟨rfl, rfl⟩, fun i hi => (List.mem_cons.mp (h1 i hi)).resolve_left (D.other e2 q hi), fun i hi => h2 i (.tail _ hi)⟩))
  · intro r s' z
    refine el_pp z fun tq0 h1 h2 => ?_; try clear z; obtain ⟨er, es'⟩ := tq0
    rw [er, es']
    rw [dIdx_none fun j hj => nomatch h1 j hj] at h
    exact wpAny_pure h
theorem DAt.tell (D : DAt c F A mu H s es ents k x d n) {pl : List Nat} {Q' : Bool → Shared → Prop} (q : Q' false s) : wpAny (model prog c.w) A (tableMayTell x (pl.filterMap (fun i => ents[i]?.map (·.key)))) Q' E s := by
  have quietAll : ∀ v ∈ pl.filterMap (fun i => ents[i]?.map (·.key)), ∃ l, isKey l = true ∧ VR c.bs mu s.heap l v := fun v hv => by
    refine el_xp (List.mem_filterMap.mp hv) fun i _ hi => ?_
    refine el_xp (Option.map_eq_some_iff.mp hi) fun e hei hv => ?_
    obtain ⟨p, _, h2, _, h4⟩ := D.key hei
    exact in_xp p.1 h2 (hv ▸ h4)
  generalize pl.filterMap (fun i => ents[i]?.map (·.key)) = l at quietAll
  unfold tableMayTell
  split
  · exact wpAny_pure q
  · refine wpAny_bind (key_quiet D.ik D.vk ?_)
    rw [if_neg (by decide)]
    refine wpAny_bind ?_
    refine wpAny_forIn_list _ (fun rest r s' => (s' = s ∧ r = (none, ())) ∧ ∀ v ∈ rest, ∃ l, isKey l = true ∧ VR c.bs mu s.heap l v) _ ?_ ?_ _ _ ⟨⟨rfl, rfl⟩, quietAll⟩
    · intro v rest r s' z
      obtain ⟨⟨es', er⟩, hr'⟩ := z
      refine el_xp (hr' v List.mem_cons_self) fun l l1 l2 => ?_
      rw [es']
      refine wpAny_bind (key_quiet l1 l2 ?_)
      rw [if_neg (by decide)]
      exact wpAny_pure ⟨⟨rfl, rfl⟩, fun v hv => hr' v (List.mem_cons_of_mem _ hv)⟩
    · intro r s' z
      obtain ⟨⟨es', er⟩, _⟩ := z
      rw [es', er]
      exact wpAny_pure q
theorem DAt.same (D : DAt c F A mu H s es ents k x d n) (prog : Program) : ¬ (ents.any fun e => e.key == x && e.hash != khash c.w k) = true := by
  rw [← Array.any_toList, List.any_eq_true]
  intro z
  refine el_xp z fun e hin hc => ?_; try clear z
  refine el_x (List.mem_iff_getElem?.mp hin) fun j hj => ?_
  rw [Array.getElem?_toList] at hj
  obtain ⟨p, h1, h2, h3, h4⟩ := D.key hj
  obtain ⟨S, _, hk, vk, _⟩ := D
  simp only [Bool.and_eq_true, beq_iff_eq, bne_iff_ne, ne_eq] at hc
  obtain ⟨hxa, hne⟩ := hc
  rw [hxa] at h4
  exact hne (by rw [h3, key_one prog S h2 hk h4 vk])
theorem DAt.found (D : DAt c F A mu H s es ents k x d n) {y : Str} {t : Tok} (ex : x = .str y t) (h : Q (dIdx es k) s) : wpAny (model prog c.w) A (foundByValue d x ents y) Q E s := by
  have ys : x.isStr y = true := by rw [ex]; exact beq_self_eq_true y
  refine el_xp (key_str prog D.ik D.vk ys) fun z ek ey => ?_
  clear ys ex
  unfold foundByValue
  cases hf : ents.findIdx? fun e => e.key.isStr y with
  | none =>
    rw [dIdx_none fun j hj => ?_] at h
    · exact wpAny_pure h
    · refine el_xpp (D.hit hj) fun e h1 _ h3 => ?_
      rw [ek] at h3
      refine el_xp h3 fun t' h3 _ => ?_
      have := Array.findIdx?_eq_none_iff.mp hf e (Array.mem_of_getElem? h1)
      rw [h3, ey] at this; simp [Value.isStr] at this
  | some i =>
    obtain ⟨hi, h1, _⟩ := Array.findIdx?_eq_some_iff_getElem.mp hf
    have e1 := Array.getElem?_eq_getElem hi
    obtain ⟨p, p1, p2, p3, p4⟩ := D.key e1
    have hp1 : p.1 = k := by
      refine el_xp (key_str prog p2 p4 h1) fun z' q1 q2 => ?_
      have q3 : z.toArray = z'.toArray := congrArg Str.cps (ey.symm.trans q2)
      rw [q1, ek, show z = z' from congrArg Array.toList q3]
    dsimp only
    rw [e1]
    rw [D.idx ⟨p.2, by rw [p1, ← hp1]⟩] at h
    refine D.look e1 p1 ?_
    rw [if_neg (by simp), hp1, keyEq_refl D.ik, if_pos rfl]
    exact wpAny_bind (wpAny_rule (wpAny_pure h))
theorem DAt.find (D : DAt c F A mu H s es ents k x d n) (h : Q (dIdx es k) s) : wpAny (model prog c.w) A (dictFind d x (khash c.w k)) Q E s := by
  unfold dictFind
  refine wpAny_holding (wpAny_bind (wpAny_dictEntries D.at rfl ?_))
  have shape := key_shape prog D.ik D.vk
  extract_lets -underBinder jp
  suffices hjp : wpAny (model prog c.w) A (jp ()) Q E s by
    clear_value jp
    rcases shape with ⟨y, t, e⟩ | ⟨y, t, e⟩ | ⟨a, e⟩
    · have f := D.found (prog := prog) (E := E) e h
      rw [e] at f ⊢
      exact wpAny_ite_split (fun _ => f) fun _ => hjp
    · rw [e]; exact hjp
    · rw [e]; exact hjp
  unfold jp
  clear jp
  extract_lets -underBinder +onlyGivenNames pl st
  have nodup : pl.Nodup := List.Nodup.sublist List.filter_sublist List.nodup_range
  have hin : ∀ j, Hit es k j → j ∈ pl := fun j => D.inPl
  have hpl : ∀ j ∈ pl, Plc c es ents k j := fun j => D.plc
  clear_value pl
  refine wpAny_ite_split (fun _ => D.plain hin hpl h) fun _ => ?_
  extract_lets -underBinder jp
  suffices hjp : wpAny (model prog c.w) A (jp ()) Q E s by
    clear_value jp
    have unchanged := D.same prog
    rcases shape with ⟨y, t, e⟩ | ⟨y, t, e⟩ | ⟨a, e⟩
    · rw [e]; exact hjp
    · rw [e]; exact hjp
    · rw [e] at unchanged ⊢; dsimp only; rw [if_neg unchanged]; exact hjp
  unfold jp
  clear jp shape
  extract_lets -underBinder jp
  suffices hjp : wpAny (model prog c.w) A (jp false) Q E s by
    clear_value jp
    exact wpAny_ite_split (fun _ => wpAny_bind (wpAny_pure hjp)) fun _ => wpAny_bind (D.tell hjp)
  unfold jp
  clear jp
  extract_lets -underBinder jp
  suffices hjp : wpAny (model prog c.w) A (jp ()) Q E s by
    clear_value jp
    rw [if_neg (by simp)]; exact hjp
  unfold jp
  clear jp
  refine wpAny_bind ?_
  refine wpAny_forIn_list _ (fun rest b s' => s' = s ∧ ∃ hit, b = (none, hit) ∧ rest.Nodup ∧ (∀ j ∈ rest, Plc c es ents k j) ∧
    ((hit = none ∧ ∀ j, Hit es k j → j ∈ rest) ∨ ∃ j, hit = some j ∧ Hit es k j ∧ j ∉ rest)) _ ?_ ?_ _ _ ⟨rfl, none, rfl, nodup, hpl, .inl ⟨rfl, hin⟩⟩
  · clear nodup hin hpl
    intro j rest b s' z
    refine el_pxppp z fun es' hit eb h1 h2 h3 => ?_; try clear z
    obtain ⟨e, p, e1, e2, e3, e4⟩ := h2 j (.head _)
    rw [es', eb, e1]
    dsimp only
    rw [if_pos (by rw [e3]; exact beq_self_eq_true _)]
    refine D.look e1 e2 ?_
    rw [if_neg (by simp)]
    cases q : keyEq p.1 k with
    | true =>
      have hj := e4 q
      have hn : hit = none := by
        rcases h3 with ⟨z, _⟩ | ⟨i, _, z, n⟩
        · exact z
        · exact absurd (by rw [show i = j from Option.some.inj ((D.idx z).symm.trans (D.idx hj))]; exact .head _) n
      rw [hn, if_pos rfl, if_neg (by decide)]
      refine wpAny_bind (wpAny_rule ?_)
      rw [D.idx hj] at h
      exact wpAny_ite_split (fun _ => wpAny_pure (wpAny_pure h)) fun _ => wpAny_pure ⟨rfl, some j, rfl, (List.nodup_cons.mp h1).2, fun i hi => h2 i (.tail _ hi), .inr ⟨j, rfl, hj, (List.nodup_cons.mp h1).1⟩⟩
    | false =>
      rw [if_neg Bool.false_ne_true]
      refine wpAny_bind (wpAny_rule ?_)
      rw [Bool.false_and, if_neg Bool.false_ne_true]
      exact wpAny_pure ⟨rfl, hit, rfl, (List.nodup_cons.mp h1).2, fun i hi => h2 i (.tail _ hi), h3.imp (fun z => ⟨z.1, fun i hi => (List.mem_cons.mp (z.2 i hi)).resolve_left (D.other e2 q hi)⟩) fun ⟨i, z, z2, n⟩ => ⟨i, z, z2, fun m => n (.tail _ m)⟩⟩
  · intro b s' z
    refine el_pxppp z fun es' hit eb h1 h2 h3 => ?_; try clear z
    rw [es', eb]
    rcases h3 with ⟨eh, n⟩ | ⟨j, eh, hj, _⟩
    · rw [dIdx_none fun j hj => nomatch n j hj] at h
      rw [eh]; exact wpAny_pure h
    · rw [D.idx hj] at h
      rw [eh]; exact wpAny_pure h
theorem dictFind_key (S : St c F mu H s.heap) (hu : A.units + deep < cLine) (hk : isKey k = true) (vk : VR c.bs mu s.heap k x) (ho : s.heap.get? d = some ⟨.type "dict", none, .dict ents n, #[]⟩)
    (hks : es.all (fun p => isKey p.1) = true) (hp : es.Pairwise fun x y => keyEq x.1 y.1 = false) (hr : DRs c.w c.bs mu s.heap es ents.toList) (h : Q (dIdx es k) s) :
    wpAny (model prog c.w) A (dictFind d x (khash c.w k)) Q E s := DAt.find ⟨S, hu, hk, vk, ho, hks, hp, hr⟩ h

theorem dictGet_key {Q : Option Value → Shared → Prop} (S : St c F mu H s.heap) (hu : A.units + deep < cLine) (hk : isKey k = true) (vk : VR c.bs mu s.heap k x) (ho : s.heap.get? d = some ⟨.type "dict", none, .dict ents n, #[]⟩)
    (hks : es.all (fun p => isKey p.1) = true) (hp : es.Pairwise fun x y => keyEq x.1 y.1 = false) (hr : DRs c.w c.bs mu s.heap es ents.toList)
    (h0 : dGet es k = none → ∀ t, Q none { s with toks := t }) (h1 : ∀ v y, dGet es k = some v → VR c.bs mu s.heap v y → ∀ t, Q (some y) { s with toks := t }) : wpAny (model prog c.w) A (dictGet d x) Q E s := by
  unfold dictGet
  refine wpAny_holding (wpAny_bind (key_hash hk vk (by unfold deep at hu; (first | lia | omega)) fun t => wpAny_bind (dictFind_key (s := { s with toks := t }) S hu hk vk ho hks hp hr ?_)))
  have g := dGet_idx es k
  cases q : dIdx es k with
  | none => rw [q] at g; exact wpAny_pure (h0 g t)
  | some j =>
    have hj : j < es.length := by
      unfold dIdx at q
      exact (List.findIdx?_eq_some_iff_getElem.mp q).1
    have e := List.getElem?_eq_getElem hj
    rw [q, Option.bind_some, e] at g
    refine el_xppp (hr.get e) fun en a1 _ _ a4 => ?_
    rw [Array.getElem?_toList] at a1
    refine wpAny_bind (wpAny_dictEntries (s := { s with toks := t }) ho rfl ?_)
    rw [a1]
    exact wpAny_pure (h1 _ _ g a4 t)

theorem in_dict {Q : Value → Shared → Prop} (S : St c F mu H s.heap) (hu : A.units + 1 + deep < cLine) (hk : isKey k = true) (vk : VR c.bs mu s.heap k x) (ho : s.heap.get? d = some ⟨.type "dict", none, .dict ents n, #[]⟩) (hd : (d == sysModules) = false)
    (hks : es.all (fun p => isKey p.1) = true) (hp : es.Pairwise fun x y => keyEq x.1 y.1 = false) (hr : DRs c.w c.bs mu s.heap es ents.toList)
    (h : ∀ t, Q (.bool (dGet es k).isSome) { s with toks := t }) : wpAny (model prog c.w) A (contains (.ref d) x) (fun b => Q (.bool b)) E s := by
  have hT : s.TypeIs (.ref d) "dict" := ⟨_, ho, rfl⟩
  unfold contains
  refine wpAny_holding (wpAny_bind (wpAny_specialOf hT slot_dict_contains.lookup ?_))
  show wpAny _ _ (if (some (Value.builtin "dict.__contains__") == some Value.none) = true then _ else _) _ E s
  rw [if_neg (by rw [beq_builtin_none]; exact Bool.false_ne_true)]
  refine wpAny_bind (wpAny_callSpecialUnlessNone?_slot (name := Str.ofString "__contains__") hT slot_dict_contains
    (wpAny_call_entry slot_dict_contains hT entry_dict_contains ?_ (args_dict_contains _ _)))
  show wpAny _ _ (dictGet d x >>= _) _ _ s
  refine wpAny_bind (dictGet_key (A := A.in1) S hu hk vk ho hks hp hr (fun g t => ?_) fun v y g _ t => ?_)
  · have h := h t
    rw [g] at h
    exact wpAny_bind (wpAny_pendingKey_other hd (wpAny_pure ⟨_, rfl, wpAny_truthy_bool h⟩))
  · have h := h t
    rw [g] at h
    exact wpAny_pure ⟨_, rfl, wpAny_truthy_bool h⟩

theorem getItem_dict {Q : Value → Shared → Prop} {v : V} (S : St c F mu H s.heap) (hu : A.units + 1 + deep < cLine) (hk : isKey k = true) (vk : VR c.bs mu s.heap k x) (ho : s.heap.get? d = some ⟨.type "dict", none, .dict ents n, #[]⟩)
    (hks : es.all (fun p => isKey p.1) = true) (hp : es.Pairwise fun x y => keyEq x.1 y.1 = false) (hr : DRs c.w c.bs mu s.heap es ents.toList) (hv : dGet es k = some v)
    (h : ∀ y t, VR c.bs mu s.heap v y → Q y { s with toks := t }) : wpAny (model prog c.w) A (PySem.getItem (.ref d) x) Q E s := by
  have hT : s.TypeIs (.ref d) "dict" := ⟨_, ho, rfl⟩
  unfold PySem.getItem
  refine wpAny_holding (wpAny_bind (wpAny_sequenceKey hT (by decide) ?_))
  refine wpAny_bind (wpAny_callSpecial?_slot (name := Str.ofString "__getitem__") hT slot_dict_getitem
    (wpAny_call_entry slot_dict_getitem hT entry_dict_getitem ?_ (args_dict_getitem _ _)))
  show wpAny _ _ (dictGet d x >>= _) _ _ s
  refine wpAny_bind (dictGet_key (A := A.in1) S hu hk vk ho hks hp hr (fun g t => by rw [hv] at g; cases g) fun u y g r t => ?_)
  rw [hv] at g; cases g
  exact wpAny_pure ⟨y, rfl, wpAny_pure (h y t r)⟩

theorem DRs.push {w : World} {bs : Heap} {h : Heap} {k v : V} {e : DictEntry} : ∀ {es : List (V × V)} {ds : List DictEntry}, DRs w bs mu h es ds → e.hash = khash w k → VR bs mu h k e.key → VR bs mu h v e.val → DRs w bs mu h (es ++ [(k, v)]) (ds ++ [e])
  | [], _, x, a, b, c => by rw [show _ = [] from x]; exact in_xxpppp e [] rfl a b c rfl
  | (_, _) :: _, _, z0, a, b, c => by
    refine el_xxpppp z0 fun d t h1 h2 h3 h4 h5 => ?_; try clear z0
    rw [h1]
    exact in_xxpppp d (t ++ [e]) rfl h2 h3 h4 (h5.push a b c)
theorem DRs.modify {w : World} {bs : Heap} {h : Heap} {v : V} {y : Value} (r : VR bs mu h v y) : ∀ {es : List (V × V)} {ds : List DictEntry} (j : Nat), DRs w bs mu h es ds → DRs w bs mu h (es.modify j fun p => (p.1, v)) (ds.modify j fun e => { e with val := y })
  | [], _, j, x => by rw [show _ = [] from x]; cases j <;> exact rfl
  | (k, u) :: t', _, 0, z0 => by
    refine el_xxpppp z0 fun d t h1 h2 h3 h4 h5 => ?_; try clear z0
    rw [h1]
    exact in_xxpppp _ t rfl h2 h3 r h5
  | (k, u) :: t', _, j + 1, z0 => by
    refine el_xxpppp z0 fun d t h1 h2 h3 h4 h5 => ?_; try clear z0
    rw [h1]
    exact in_xxpppp d _ rfl h2 h3 h4 (DRs.modify r j h5)

theorem dSet_keys {v : V} (hk : isKey k = true) (hks : es.all (fun p => isKey p.1) = true) : (dSet es k v).all (fun p => isKey p.1) = true := by
  induction es with
  | nil => simp [dSet, hk]
  | cons p r ih =>
    simp only [List.all_cons, Bool.and_eq_true] at hks
    unfold dSet
    split
    · simp only [List.all_cons, Bool.and_eq_true]; exact hks
    · simp only [List.all_cons, Bool.and_eq_true]; exact ⟨hks.1, ih hks.2⟩
theorem dSet_len {v : V} {N : Nat} (h : es.length < N) : (dSet es k v).length ≤ N := by
  rw [dSet_idx]
  split
  · rw [List.length_modify]; (first | lia | omega)
  · rw [List.length_append]; simp; (first | lia | omega)
theorem dSet_mem {v : V} {q : V × V} (h : q ∈ dSet es k v) : (∃ u, (q.1, u) ∈ es) ∨ q.1 = k := by
  induction es with
  | nil => simp [dSet] at h; exact .inr (by rw [h])
  | cons p r ih =>
    unfold dSet at h
    split at h
    · rcases List.mem_cons.mp h with e | e
      · rw [e]; exact .inl ⟨p.2, .head _⟩
      · exact .inl ⟨q.2, .tail _ e⟩
    · rcases List.mem_cons.mp h with e | e
      · rw [e]; exact .inl ⟨p.2, .head _⟩
      · rcases ih e with ⟨u, z⟩ | z
        · exact .inl ⟨u, .tail _ z⟩
        · exact .inr z
theorem dSet_apart {v : V} (hp : es.Pairwise fun x y => keyEq x.1 y.1 = false) : (dSet es k v).Pairwise fun x y => keyEq x.1 y.1 = false := by
  induction es with
  | nil => simp [dSet]
  | cons p r ih =>
    obtain ⟨h1, h2⟩ := List.pairwise_cons.mp hp
    unfold dSet
    split
    · exact List.pairwise_cons.mpr ⟨fun q hq => h1 q hq, h2⟩
    · rename_i hne
      refine List.pairwise_cons.mpr ⟨fun q hq => ?_, ih h2⟩
      rcases dSet_mem hq with ⟨u, z⟩ | z
      · exact h1 (q.1, u) z
      · rw [z]; simpa using hne

theorem setItem_dict {Q : Unit → Shared → Prop} {v : V} {y : Value} {i : Nat} {l : Loc} (S : St c F mu H s.heap) (hu : A.units + 1 + deep < cLine) (hk : isKey k = true) (vk : VR c.bs mu s.heap k x) (vv : VR c.bs mu s.heap v y)
    (_ : mu[i]? = some l) (ho : s.heap.get? l.a = some ⟨.type "dict", none, .dict ents n, #[]⟩) (hld : l.d = l.a ∧ l.a ≠ sysModules)
    (hks : es.all (fun p => isKey p.1) = true) (hp : es.Pairwise fun x y => keyEq x.1 y.1 = false) (hr : DRs c.w c.bs mu s.heap es ents.toList) (hz : es.length < mostLen)
    (h : ∀ h' t, (∀ b, b ≠ l.a → h'.get? b = s.heap.get? b) → h'.objs.size = s.heap.objs.size → OR c.w c.cl c.bs mu h' l (.dict (dSet es k v)) → Q () { s with heap := h', toks := t }) :
    wpAny (model prog c.w) A (PySem.setItem (.ref l.a) x y) Q E s := by
  have hT : s.TypeIs (.ref l.a) "dict" := ⟨_, ho, rfl⟩
  unfold PySem.setItem
  refine wpAny_holding (wpAny_bind (wpAny_sequenceKey hT (by decide) ?_))
  refine wpAny_bind (wpAny_callSpecial?_slot (name := Str.ofString "__setitem__") hT slot_dict_setitem
    (wpAny_call_entry slot_dict_setitem hT entry_dict_setitem ?_ (args_dict_setitem _ _ _)))
  show wpAny _ _ (Builtin.Dict.notOrdered "__setitem__" ⟨[.ref l.a, x, y], []⟩ >>= _) _ _ s
  refine wpAny_bind (wpAny_notOrdered_dict hT ?_)
  show wpAny _ _ (dictSet l.a x y >>= _) _ _ s
  refine wpAny_bind ?_
  unfold dictSet
  refine wpAny_holding (wpAny_bind (key_hash hk vk (by show A.units + 1 < _; unfold deep at hu; (first | lia | omega)) fun t => ?_))
  unfold dictSetHashed
  refine wpAny_holding (wpAny_bind (dictFind_key (A := A.in1) (s := { s with toks := t }) S hu hk vk ho hks hp hr ?_))
  have fx : ∀ f : Obj → Obj, ∀ b o, s.heap.get? b = some o → Fixed o → (s.heap.update l.a f).get? b = some o := fun f b o q hf => by
    rw [Heap.get?_update_other]
    · exact q
    · rintro rfl
      rw [ho] at q; cases q
      rcases hf with ⟨q, _⟩ | ⟨q, _⟩ <;> exact absurd q (by simp)
  have sz : ents.size = es.length := by simpa using hr.length
  have g := dSet_idx es k v
  cases q : dIdx es k with
  | none =>
    rw [q] at g
    refine wpAny_bind (wpAny_rule (wpAny_updateDictKeys (hz := by rw [sz, ← mostLen_eq]; (first | lia | omega)) (s := { s with toks := t }) ho rfl (wpAny_pure ⟨_, rfl, wpAny_pure (h _ _ (fun b hb => Heap.get?_update_other _ _ (Ne.symm hb)) (Heap.size_after_update ..) ⟨hld, n + 1, _, Heap.get?_update_self _ ho rfl, dSet_keys hk hks, dSet_apart hp, ?_, dSet_len hz⟩)⟩)))
    rw [g, Array.toList_push]
    exact (hr.mono (fx _) fun _ _ e => e).push rfl (vk.mono (fx _) fun _ _ e => e) (vv.mono (fx _) fun _ _ e => e)
  | some j =>
    rw [q] at g
    refine wpAny_bind (wpAny_rule (wpAny_bind (wpAny_updateDict (s := { s with toks := t }) ho rfl (wpAny_point (wpAny_pure ⟨_, rfl, wpAny_pure (h _ _ (fun b hb => Heap.get?_update_other _ _ (Ne.symm hb)) (Heap.size_after_update ..) ⟨hld, n, _, Heap.get?_update_self _ ho rfl, dSet_keys hk hks, dSet_apart hp, ?_, dSet_len hz⟩)⟩)))))
    rw [g]
    have : (ents.modify j fun e => { e with val := y }).toList = ents.toList.modify j fun e => { e with val := y } := by
      obtain ⟨z⟩ := ents; simp
    rw [this]
    exact (hr.mono (fx _) fun _ _ e => e).modify (vv.mono (fx _) fun _ _ e => e) j
end
end
end Mine
end

section
/-! the first few of a tuple -/
namespace Mine
open PySem PyProof.Rows
section
variable {prog : Program} {w : World} {A : Around} {E : Value → Shared → Prop} {s : Shared}
theorem adjust_to (a n : Nat) (ha : a ≤ n) : Builtin.Slice.sliceAdjust none (some (a : Int)) 1 (n : Int) = (0, (a : Int)) := by
  unfold Builtin.Slice.sliceAdjust
  have h1 : ¬ ((1 : Int) < 0) := by (first | lia | omega)
  have h2 : ¬ ((a : Int) < 0) := by (first | lia | omega)
  simp only [h1, h2, if_false]
  congr 1
  (first | lia | omega)
theorem places_to (a : Nat) : Builtin.Slice.slicePlaces 0 (a : Int) 1 = a := by
  unfold Builtin.Slice.slicePlaces
  have h1 : (1 : Int) > 0 := by (first | lia | omega)
  simp only [h1, if_true, Int.ediv_one]
  split <;> (first | lia | omega)
theorem applied_to {sl : Addr} {a n : Nat} {u : Tok} {Q : Int × Int × Nat → Shared → Prop} (hs : s.heap.IsSliceOf sl .none (.int a u) .none) (ha : a ≤ n) (h : Q (0, 1, a) s) :
    wpAny (model prog w) A (Builtin.Slice.sliceApplied (.ref sl) (pure (n : Int))) Q E s := by
  refine el_xpp (id hs) fun os hos hcs hds => ?_
  unfold Builtin.Slice.sliceApplied Builtin.Slice.sliceFields
  refine wpAny_bind (wpAny_bind (wpAny_field hos hds (x := .none) rfl (wpAny_bind (wpAny_field hos hds (x := .int a u) rfl (wpAny_bind (wpAny_field hos hds (x := .none) rfl (wpAny_pure ?_)))))))
  refine wpAny_bind (slicePart_none ?_)
  show wpAny _ _ (if ((1 : Int) == 0) = true then _ else _) _ _ s
  rw [if_neg (by decide)]
  refine wpAny_bind (slicePart_none (wpAny_bind (slicePart_int (wpAny_bind (wpAny_pure ?_)))))
  show wpAny _ _ (match Builtin.Slice.sliceAdjust none (some (a : Int)) 1 (n : Int) with | (lo, hi) => pure (lo, (1 : Int), Builtin.Slice.slicePlaces lo hi 1)) _ _ s
  rw [adjust_to a n ha]
  show wpAny _ _ (pure ((0 : Int), (1 : Int), Builtin.Slice.slicePlaces 0 (a : Int) 1)) _ _ s
  rw [places_to]
  exact wpAny_pure h
theorem pick_to (xs : Array Value) (a : Nat) : ((List.range a).filterMap fun (k : Nat) => xs[((0 : Int) + (k : Int) * 1).toNat]?).toArray = (xs.toList.take a).toArray := by
  have e : (fun (k : Nat) => xs[((0 : Int) + (k : Int) * 1).toNat]?) = fun k => xs[0 + k]? := by
    funext k
    have : ((0 : Int) + (k : Int) * 1).toNat = 0 + k := by (first | lia | omega)
    rw [this]
  rw [e]
  have := pick_run xs 0 a
  rw [List.filterMap_map] at this
  have e2 : ((fun x => xs[x]?) ∘ fun x => 0 + x) = fun k => xs[0 + k]? := rfl
  rw [e2] at this
  rw [this, List.drop_zero]
theorem item_to {t sl : Addr} {items : Array Value} {a : Nat} {u : Tok} {Q : Value → Shared → Prop} (ht : IsTup s.heap t items) (hs : s.heap.IsSliceOf sl .none (.int a u) .none) (ha : a < items.size)
    (h : Q (.ref s.heap.objs.size) { s with heap := s.heap.push { cls := .type "tuple", data := .seq (items.toList.take a).toArray } })
    (hsz : items.size ≤ sizeLine) : wpAny (model prog w) A (PySem.getItem (.ref t) (.ref sl)) Q E s := by
  have hdrop : sizeOk (.seq (items.toList.take a).toArray) := by
    show (items.toList.take a).toArray.size ≤ sizeLine
    rw [List.size_toArray, List.length_take, Array.length_toList]
    (first | lia | omega)
  refine el_xpp (id hs) fun os hos hcs hds => ?_
  have hTs : s.TypeIs (.ref sl) "slice" := ⟨os, hos, hcs⟩
  unfold PySem.getItem
  try with_reducible refine wpAny_holding ?_
  first | refine wpAny_bind (wpAny_pure ?_) | skip
  refine wpAny_bind (wpAny_sequenceKey ht.typeIs (by decide) ?_)
  refine wpAny_bind (wpAny_callSpecial?_slot (name := Str.ofString "__getitem__") ht.typeIs slot_tuple_getitem
    (wpAny_call_entry slot_tuple_getitem ht.typeIs entry_tuple_getitem ?_ (args_tuple_getitem _ _)))
  show wpAny _ _ (Builtin.Tuple.tupleItemsOf (.ref t) >>= _) _ _ s
  refine wpAny_bind (tupleItemsOf_ ht ?_)
  refine wpAny_bind (wpAny_typeOf hTs ?_)
  rw [if_pos (by decide)]
  refine wpAny_bind (applied_to hs (Nat.le_of_lt ha) ?_)
  have hno : ¬ (((0 : Int) == 0 && (1 : Int) == 1 && a == items.size) = true) := by
    have : (a == items.size) = false := by rw [beq_eq_false_iff_ne]; (first | lia | omega)
    rw [this]; simp
  show wpAny _ _ (if ((0 : Int) == 0 && (1 : Int) == 1 && a == items.size) = true then _ else _) _ _ s
  rw [if_neg hno, pick_to items a]
  first
    | exact wpAny_bind (m := Builtin.Tuple.tupleExact _) (wpAny_newObj_type (wpAny_pure ⟨_, rfl, wpAny_pure h⟩) hdrop)
    | exact wpAny_bind (m := Builtin.Tuple.tupleExact _) (wpAny_newObj_type (wpAny_bind (wpAny_pure (wpAny_pure ⟨_, rfl, wpAny_pure h⟩))) hdrop)
    | exact wpAny_bind (wpAny_bind (m := Builtin.Tuple.tupleExact _) (wpAny_newObj_type (wpAny_pure (wpAny_pure ⟨_, rfl, wpAny_pure h⟩)) hdrop))
    | exact wpAny_bind (wpAny_bind (m := Builtin.Tuple.tupleExact _) (wpAny_newObj_type (wpAny_pure ⟨_, rfl, wpAny_pure h⟩) hdrop))
end
end Mine
end

section
/-! items and cuts -/
namespace Mine
open PySem PyProof.Rows

theorem idx_seq {i : Int} {n j : Nat} (h : idx i n = some j) (hn : n ≤ mostLen) : 0 ≤ i ∧ i < 2 ^ 63 ∧ i.toNat = j ∧ seqIndex? i n = some j := by
  unfold idx at h
  by_cases h0 : 0 ≤ i
  · rw [if_pos h0] at h
    by_cases h1 : i.toNat < n
    · rw [if_pos h1] at h
      cases h
      unfold mostLen at hn
      refine ⟨h0, by (first | lia | omega), rfl, ?_⟩
      unfold seqIndex?
      rw [if_neg (Int.not_lt.mpr h0)]
      show (if (decide (0 ≤ i) && decide (i < (n : Int))) = true then some i.toNat else none) = some i.toNat
      rw [decide_eq_true h0, decide_eq_true (show i < n by (first | lia | omega))]
      rfl
    · rw [if_neg h1] at h; cases h
  · rw [if_neg h0] at h; cases h
theorem clamp_eq (i : Int) (n : Nat) : clamp i n = clipAt n i := rfl

section
variable {prog : Program} {c : Cf} {F : List Addr} {A : Around} {mu : Mu} {s : Shared} {H : Hp} {E : Value → Shared → Prop} {Q : Value → Shared → Prop}

theorem item_list {a : Addr} {items : Array Value} {l : List V} {k : Int} {t : Tok} {j : Nat} {v : V} (hl : s.heap.IsList a items) (r : VRs c.bs mu s.heap l items.toList) (hz : l.length ≤ mostLen) (hj : idx k l.length = some j) (hv : l[j]? = some v)
    (h : ∀ y, VR c.bs mu s.heap v y → Q y s) : wpAny (model prog c.w) A (PySem.getItem (.ref a) (.int k t)) Q E s := by
  refine el_ppp (idx_seq hj hz) fun f1 f2 f3 _ => ?_
  refine el_xp (r.get hv) fun y e ry => ?_
  rw [Array.getElem?_toList, ← f3] at e
  exact wpAny_getItem_list hl f1 f2 e (h y ry)

theorem subPlain {slice : Expr} (hs : (slice.ctorIdx != 26) = true) (o i : Value) : subscripted slice false o i = operate [o, i] (PySem.getItem o i) := by
  cases slice <;> first | rfl | exact (Bool.false_ne_true hs).elim

theorem sub_snd {a b : V} {x y : Value} {value slice : Expr} (S : St c F mu H s.heap) (va : VR c.bs mu s.heap a x) (vb : VR c.bs mu s.heap b y) (hu : A.units + 1 + deep < cLine) (hs : (slice.ctorIdx != 26) = true) :
    Snd (model prog c.w) c F A mu s (subscriptTail value slice x y) (getItem a b H) (VRl c) := by
  unfold getItem
  split
  · rename_i r
    split
    · rename_i l k hl
      obtain ⟨q, n, items, rfl, _, _, e1, v1, z⟩ := S.listAt hl va
      refine el_x vb fun t tqz => ?_; try clear vb; subst tqz
      split
      · rename_i j hj
        split
        · rename_i v hv
          exact fun _ => tail_any ⟨_, e1, rfl⟩ slot_list_getitem.lookup (item_list ⟨_, e1, rfl, _, rfl⟩ v1 z hj hv fun y ry => QV.same (t := s.toks) S ry) (subPlain hs _ _)
        · exact fun h => absurd rfl h
      · exact fun h => absurd rfl h
    · rename_i es hd
      split
      · rename_i hk
        split
        · rename_i v hv
          refine el_xp va fun q h1 tqz => ?_; try clear va; subst tqz
          refine el_pxxpppp (S.objs r q _ h1 hd) fun _ n ents e1 e2 e3 e4 _ => ?_
          exact fun _ => tail_any ⟨_, e1, rfl⟩ slot_dict_getitem.lookup (getItem_dict S hu hk vb e1 e2 e3 e4 hv fun y t ry => QV.same S ry) (subPlain hs _ _)
        · exact fun h => absurd rfl h
      · exact fun h => absurd rfl h
    · exact fun h => absurd rfl h
  · rename_i l k
    refine el_xxxxppppp va fun q o n vs tq4 h1 h2 h3 h4 z => ?_; try clear va; subst tq4
    refine el_x vb fun t tqz => ?_; try clear vb; subst tqz
    split
    · rename_i j hj
      split
      · rename_i v hv
        refine el_ppp (idx_seq hj z) fun f1 f2 _ f3 => ?_
        refine el_xp (h4.get hv) fun y e ry => ?_
        rw [Array.getElem?_toList] at e
        exact fun _ => tail_any ⟨_, h1, h2⟩ slot_tuple_getitem.lookup (getItem_tuple ⟨_, h1, h2, _, h3⟩ (by (first | lia | omega)) f2 (by rw [h4.size]; exact f3) e (QV.same (t := s.toks) S ry)) (subPlain hs _ _)
      · exact fun h => absurd rfl h
    · exact fun h => absurd rfl h
  · rename_i l k
    refine el_xxxxppppp va fun q o n vs tq4 h1 h2 h3 h4 z => ?_; try clear va; subst tq4
    have h1 := S.stays _ _ h1
    refine el_x vb fun t tqz => ?_; try clear vb; subst tqz
    split
    · rename_i j hj
      split
      · rename_i v hv
        exact fun _ => tail_any ⟨_, h1, h2⟩ slot_list_getitem.lookup (item_list ⟨_, h1, h2, _, h3⟩ h4 z hj hv fun y ry => QV.same (t := s.toks) S ry) (subPlain hs _ _)
      · exact fun h => absurd rfl h
    · exact fun h => absurd rfl h
  · rename_i x k
    refine el_xpp va fun u tq1 o1 o2 => ?_; try clear va; subst tq1
    refine el_x vb fun t tqz => ?_; try clear vb; subst tqz
    split
    · rename_i j hj
      split
      · rename_i ch hch
        refine el_ppp (idx_seq hj o1) fun f1 f2 _ f3 => ?_
        refine fun _ => tail_any (typeIs_str s _ _) PySem.F.slot_str_getitem.lookup (PyProof.Rows.getItem_str (c := ch) ?_ ?_ (QV.same S ⟨_, rfl, ?_, ?_⟩)) (subPlain hs _ _)
        · rw [decide_eq_false (by (first | lia | omega)), decide_eq_false (by (first | lia | omega))]; rfl
        · rw [show (⟨x.toArray⟩ : Str).length = x.length by simp [Str.length], f3]; simpa using hch
        · simp [mostLen]
        · intro z hz; rw [List.mem_singleton.mp hz]; exact o2 ch (List.mem_of_getElem? hch)
      · exact fun h => absurd rfl h
    · exact fun h => absurd rfl h
  · exact fun h => absurd rfl h

theorem part_of {v : V} {x : Value} {n d k : Nat} {bs : Heap} {h : Heap} (e : bound v n d = some k) (r : VR bs mu h v x) : ∃ p : Option (Int × Tok), x = partValue p ∧ IsPart x (p.map (·.1)) ∧ k = (p.map (·.1)).elim d (clipAt n) := by
  cases v <;> simp [bound] at e
  · replace r : _ = _ := r; subst r; exact in_xpp none rfl .none e.symm
  · refine el_x r fun t tqz => ?_; try clear r; subst tqz; exact in_xpp (some (_, t)) rfl (.int _ _) (by rw [← e, clamp_eq]; rfl)

theorem picked_eq (x : List Nat) (l u : Option (Int × Tok)) : slicePicked ⟨x.toArray⟩ l u none = sliceRange (((l.map (·.1)).elim 0 (clipAt x.length) : Nat) : Int) (((u.map (·.1)).elim x.length (clipAt x.length) : Nat) : Int) 1 := by
  unfold slicePicked Builtin.Str.strSliceIndices
  have : (⟨x.toArray⟩ : Str).length = x.length := by simp [Str.length]
  rw [this]
  cases l <;> cases u <;> simp [clipAt_cast]
theorem str_cut (x : List Nat) (l u : Option (Int × Tok)) :
    (slicePicked ⟨x.toArray⟩ l u none).filterMap ((⟨x.toArray⟩ : Str).cps[·]?) = cut x ((l.map (·.1)).elim 0 (clipAt x.length)) ((u.map (·.1)).elim x.length (clipAt x.length)) := by
  rw [picked_eq, sliceRange_one, pick_run]
  simp [cut]

theorem str_whole {x : List Nat} {l u : Option (Int × Tok)} (h : (slicePicked ⟨x.toArray⟩ l u none).length = (⟨x.toArray⟩ : Str).length) :
    cut x ((l.map (·.1)).elim 0 (clipAt x.length)) ((u.map (·.1)).elim x.length (clipAt x.length)) = x := by
  rw [picked_eq, sliceRange_one, show (⟨x.toArray⟩ : Str).length = x.length by simp [Str.length], List.length_map, List.length_range] at h
  have hu : (u.map (·.1)).elim x.length (clipAt x.length) ≤ x.length := by
    cases u with
    | none => exact Nat.le_refl _
    | some p => show clipAt x.length p.1 ≤ _; have := clipAt_cast x.length p.1; (first | lia | omega)
  unfold cut
  generalize (l.map (·.1)).elim 0 (clipAt x.length) = a at *
  generalize (u.map (·.1)).elim x.length (clipAt x.length) = b at *
  by_cases hx : x.length = 0
  · have : x = [] := List.length_eq_zero_iff.mp hx
    subst this; simp
  · have ha : a = 0 := by (first | lia | omega)
    subst ha
    rw [List.drop_zero, List.take_of_length_le (by (first | lia | omega))]

noncomputable abbrev sSh (s : Shared) (y z : Value) : Shared := { s with heap := s.heap.push { cls := .type "slice", data := .fields #[y, z, .none] } }
theorem slc_back {y z : Value} {m : Sem Value} {r : R V} (h : wpAny (model prog c.w) A m (QV c F mu (sSh s y z) r (VRl c)) NoE (sSh s y z)) : wpAny (model prog c.w) A m (QV c F mu s r (VRl c)) NoE (sSh s y z) :=
  wpAny_mono h (fun _ _ q => q.back (.grow (stays_push _ _)) rfl rfl) fun _ _ q => q.elim
theorem slc_list {b d : V} {y z : Value} {value : Expr} {lo hi : Option Expr} {p : Pos} {q : Addr} {items : Array Value} {l : List V} {k1 k2 : Nat} (S : St c F mu H s.heap) (vb : VR c.bs mu s.heap b y) (vd : VR c.bs mu s.heap d z)
    (hl : (sSh s y z).heap.IsList q items) (r : VRs c.bs mu s.heap l items.toList) (hz : l.length ≤ mostLen) (e1 : bound b l.length 0 = some k1) (e2 : bound d l.length l.length = some k2) :
    wpAny (model prog c.w) A (subscriptTail value (.Slice lo hi none p) (.ref q) (.ref s.heap.objs.size)) (QV c F mu s (alloc (.list (cut l k1 k2)) H) (VRl c)) NoE (sSh s y z) := by
  refine el_xpp (part_of e1 vb) fun p1 _ i1 k1 => ?_
  refine el_xpp (part_of e2 vd) fun p2 _ i2 k2 => ?_
  refine slc_back (tail_any hl.typeIs slot_list_getitem.lookup (wpAny_getItem_list_slice (hsz := by rw [r.size, ← mostLen_eq]; exact hz) hl (Heap.IsSliceOf.new ..) i1 i2 .none (by simp) ?_) rfl)
  have G : Go F [] mu s.heap mu (sSh s y z).heap := .grow (stays_push _ _)
  refine QV.newList (vs := cut l _ _) (s := sSh s y z) (S.grow (stays_push _ _)) ?_ (by unfold cut; rw [List.length_take, List.length_drop]; (first | lia | omega)) 0
  rw [slicePick_plain, r.size, k1, k2]
  exact ((r.mono (S.fixed G) G.ext).drop _).take _
theorem slc_str {b d : V} {y z : Value} {value : Expr} {lo hi : Option Expr} {p : Pos} {w : List Nat} {u : Tok} {k1 k2 : Nat} (S : St c F mu H s.heap) (vb : VR c.bs mu s.heap b y) (vd : VR c.bs mu s.heap d z)
    (o : okStr w) (e1 : bound b w.length 0 = some k1) (e2 : bound d w.length w.length = some k2) :
    wpAny (model prog c.w) A (subscriptTail value (.Slice lo hi none p) (.str ⟨w.toArray⟩ u) (.ref s.heap.objs.size)) (QV c F mu s (.ok (.str (cut w k1 k2)) H) (VRl c)) NoE (sSh s y z) := by
  refine el_xpp (part_of e1 vb) fun p1 q1 _ k1 => ?_
  refine el_xpp (part_of e2 vd) fun p2 q2 _ k2 => ?_
  rw [q1, q2, k1, k2]
  clear e1 e2 vb vd q1 q2 k1 k2
  refine slc_back (tail_any (typeIs_str _ _ _) PySem.F.slot_str_getitem.lookup (wpAny_getItem_str_slice (l := p1) (u := p2) (st := none) ⟨_, Heap.get?_push_size _ rfl, rfl, rfl⟩ rfl ?_) rfl)
  have ok : okStr (cut w ((p1.map (·.1)).elim 0 (clipAt w.length)) ((p2.map (·.1)).elim w.length (clipAt w.length))) := by
    obtain ⟨o1, o2⟩ := o
    unfold cut
    exact ⟨by rw [List.length_take, List.length_drop]; (first | lia | omega), fun z hz => o2 z (List.mem_of_mem_drop (List.mem_of_mem_take hz))⟩
  have S' := S.grow (stays_push s.heap { cls := .type "slice", data := .fields #[partValue p1, partValue p2, .none] })
  unfold sliceMade
  split
  · rename_i hw
    refine QV.same (t := s.toks) S' ⟨u, ?_, ok⟩
    rw [str_whole (l := p1) (u := p2) (by simpa using hw)]
  · refine ⟨?_, QV.same S' ⟨s.toks, ?_, ok⟩⟩
    · rw [str_cut, ← mostLen_eq]; simpa [Str.length] using ok.1
    · rw [str_cut]
theorem slc_tup {value : Expr} {lo hi : Option Expr} {p : Pos} {q : Addr} {items : Array Value} {l : List V} {j : Nat} {t : Tok} (S : St c F mu H s.heap) (ht : IsTup s.heap q items) (r : VRs c.bs mu s.heap l items.toList) (hz : l.length ≤ mostLen) (hj : j < l.length) :
    wpAny (model prog c.w) A (subscriptTail value (.Slice lo hi none p) (.ref q) (.ref s.heap.objs.size)) (QV c F mu s (.ok (.tup (l.take j)) H) (VRl c)) NoE (sSh s .none (.int (j : Nat) t)) := by
  have G : Go F [] mu s.heap mu (sSh s .none (.int (j : Nat) t)).heap := .grow (stays_push _ _)
  have ht : IsTup (sSh s .none (.int (j : Nat) t)).heap q items := by
    refine el_xp ht fun o h1 h2 => ?_; try clear ht
    exact in_xp o (stays_push _ _ _ _ h1) h2
  refine slc_back (tail_any ht.typeIs slot_tuple_getitem.lookup (item_to ht (Heap.IsSliceOf.new ..) (by rw [r.size]; exact hj) ?_ (by rw [r.size, ← mostLen_eq]; exact hz)) rfl)
  refine QV.here (S.grow (stays_push _ _)) (stays_push _ _) ?_ rfl rfl
  exact Exists.intro _ ⟨_, 0, _, rfl, Heap.get?_push_size _ rfl, rfl, rfl, by rw [List.toList_toArray]; exact ((r.mono (S.fixed G) G.ext).mono (fun _ _ e _ => stays_push _ _ _ _ e) fun _ _ e => e).take _, by rw [List.length_take]; (first | lia | omega)⟩

theorem slc_core {a b d : V} {x y z : Value} {value : Expr} {lo hi : Option Expr} {p : Pos} (S : St c F mu H s.heap) (va : VR c.bs mu s.heap a x) (vb : VR c.bs mu s.heap b y) (vd : VR c.bs mu s.heap d z) :
    getSlice a b d H ≠ .bad → wpAny (model prog c.w) A (newFields "slice" [y, z, .none]) (fun i s' => wpAny (model prog c.w) A (subscriptTail value (.Slice lo hi none p) x i) (QV c F mu s (getSlice a b d H) (VRl c)) NoE s') NoE s := by
  intro hb
  refine (wpAny_newObj_type ?_)
  revert hb
  unfold getSlice
  split
  · rename_i r
    split
    · rename_i l hl
      obtain ⟨q, n, items, ex, _, _, e1, v1, zz⟩ := S.listAt hl va
      rw [ex]
      split
      · rename_i k1 k2 h1 h2
        exact fun _ => slc_list S vb vd ⟨_, stays_push _ _ _ _ e1, rfl, _, rfl⟩ v1 zz h1 h2
      · exact fun hb => absurd rfl hb
    · exact fun hb => absurd rfl hb
  · rename_i w
    refine el_xp va fun u ex o => ?_; try clear va
    rw [ex]
    split
    · rename_i k1 k2 h1 h2
      exact fun _ => slc_str S vb vd o h1 h2
    · exact fun hb => absurd rfl hb
  · rename_i l
    refine el_xxxxppppp va fun q o n vs ex h1 h2 h3 h4 zz => ?_; try clear va
    rw [ex]
    split
    · rename_i k1 k2 e1 e2
      exact fun _ => slc_list S vb vd ⟨_, stays_push _ _ _ _ (S.stays _ _ h1), h2, _, h3⟩ h4 zz e1 e2
    · exact fun hb => absurd rfl hb
  · rename_i l
    refine el_xxxxppppp va fun q o n vs ex h1 h2 h3 h4 zz => ?_; try clear va
    rw [ex]
    split
    · rename_i k
      split
      · rename_i hk
        rw [show y = .none from vb]
        refine el_x vd fun t ez => ?_; try clear vd
        refine el_x (Int.eq_ofNat_of_zero_le hk.1) fun j ej => ?_
        rw [ez, ej]
        exact fun _ => slc_tup S ⟨_, h1, h2, _, h3⟩ h4 zz (by (first | lia | omega))
      · exact fun hb => absurd rfl hb
    · exact fun hb => absurd rfl hb
  · exact fun hb => absurd rfl hb
end
end Mine
end

section
/-! the text's own defs and classes; names; arguments; attributes -/
namespace Mine
open PySem PySem.W PyProof.Rows

theorem map_inj {α β : Type} {f : α → β} (hf : ∀ a b, f a = f b → a = b) : ∀ {l m : List α}, l.map f = m.map f → l = m
  | [], [], _ => rfl
  | [], _ :: _, h => by simp at h
  | _ :: _, [], h => by simp at h
  | a :: l, b :: m, h => by
    simp only [List.map_cons, List.cons.injEq] at h
    rw [hf a b h.1, map_inj hf h.2]

theorem ofString_inj {s t : String} (h : Str.ofString s = Str.ofString t) : s = t := by
  rw [Str.ofString_eq_toList, Str.ofString_eq_toList] at h
  have h1 : s.toList.map Char.toNat = t.toList.map Char.toNat := by simpa using h
  have h2 : s.toList = t.toList := map_inj (fun a b e => Char.ext (UInt32.toNat_inj.mp e)) h1
  exact String.toList_inj.mp h2

noncomputable def biTab : List (String × Value) := [("len", .builtin "len"), ("range", .type "range"), ("min", .builtin "min"), ("max", .builtin "max"), ("set", .type "set"), ("list", .type "list"), ("str", .type "str"), ("int", .type "int"), ("all", .builtin "all"),
  ("sorted", .builtin "sorted"), ("isinstance", .builtin "isinstance"), ("enumerate", .type "enumerate"), ("bool", .type "bool"), ("tuple", .type "tuple"), ("ValueError", .type "ValueError")]

noncomputable def addrOf (K : Frag) (x : String) : Option Addr := match nsIn K mainGlobals x with
  | some (some (.ref a)) => some a
  | _ => none

noncomputable def clsOk (K : Frag) (fields : List String) (C : Addr) : Bool :=
  findIn K (.ref C) "__getattribute__" == some (some (.builtin "object.__getattribute__")) && findIn K (.ref C) "__getattr__" == some none && hasDictIn K C && (fields.all fun f => findIn K (.ref C) f == some none) &&
  findIn K (.ref C) "__setattr__" == some (some (.builtin "object.__setattr__")) && plainOver K C && (fields.all fun f => takerIn K C f == some none)

noncomputable def EqCls (h : Heap) (C : Addr) : Prop :=
  ∃ (nm q : Str) (N : Addr) (bs : List Value) (hdct : Bool) (sn : List Str) (sub : List Value) (ab : Bool) (col : Option Bool) (dd : Option Addr) (k0 k1 k2 k3 k5 : Option Value) (newId : String) (mN : Str → Option Value),
    h.get? C = some (excClassObj nm q C N bs [.type "object"] hdct sn sub ab col dd k0 k1 k2 k3 k5 newId) ∧ h.Ns N mN ∧ mN "__eq__" = none ∧ mN "__ne__" = none

structure Base (c : Cf) (K : Frag) (fields : List String) : Prop where
  KX : K.In c.bs
  lim : c.bs.NoLimit
  bns : ∃ mb, c.bs.Ns builtinsNs mb ∧ ∀ p ∈ biTab, mb p.1 = some p.2
  inst : ∀ C D, c.cl false C = some D → C ≠ "" ∧ addrOf K C = some D ∧ clsOk K fields D = true ∧ EqCls c.bs D
  free : (biTab.all fun p => nsIn K mainGlobals p.1 == some none) = true

section
variable {prog : Program} {c : Cf} {F : List Addr} {A : Around} {mu : Mu} {s : Shared} {H : Hp} {E : Value → Shared → Prop} {Q : Value → Shared → Prop} {K : Frag} {fields : List String} {ns : List String} {env : Env} {g : Gm}

theorem Base.in (B : Base c K fields) (S : St c F mu H s.heap) : K.In s.heap := B.KX.keeps S.stays

theorem name_text {M : Model} {x : Str} {v : Value} {pos : Pos} (B : Base c K fields) (S : St c F mu H s.heap) (R : FrR c F ns env g mu s.heap) (hk : env.kindOf x = some .globalImplicit) (hd : (x == ("__debug__" : Str)) = false)
    (e : nsIn K mainGlobals x = some (some v)) (h : Q v s) : wpAny M A (eval (.Name x pos) env) Q E s := by
  refine Calls.Name_function_global R.kind hk ?_ hd
  unfold loadGlobal
  rw [R.glob]
  exact wpAny_bind ((looks_nsIn (B.in S) e).here (wpAny_pure h))
theorem name_blt {M : Model} {x : String} {v : Value} {pos : Pos} (B : Base c K fields) (S : St c F mu H s.heap) (R : FrR c F ns env g mu s.heap) (hk : env.kindOf x = some .globalImplicit) (hd : ((x : Str) == ("__debug__" : Str)) = false)
    (e : (x, v) ∈ biTab) (h : Q v s) : wpAny M A (eval (.Name x pos) env) Q E s := by
  refine Calls.Name_function_global R.kind hk ?_ hd
  unfold loadGlobal
  rw [R.glob, R.blt]
  refine wpAny_bind ((looks_nsIn (B.in S) (beq_iff_eq.mp (List.all_eq_true.mp B.free _ e))).here ?_)
  refine el_xp (B.bns) fun mb h1 h2 => ?_
  refine wpAny_bind (wpAny_nsGet (h1.keeps S.stays) ?_)
  rw [h2 _ e]
  exact wpAny_pure h

noncomputable def notStar (x : Expr) : Bool := x.ctorIdx != 22
theorem starEach_cons {x : Expr} {r : List Expr} (h : notStar x = true) : starEach (x :: r) env = (false, eval x env) :: starEach r env := by
  cases x <;> first | rfl | exact (Bool.false_ne_true h).elim
theorem starEach_plain : ∀ {xs : List Expr}, xs.all notStar = true → ∀ p, (backTo p (starEach xs env)).any (·.1) = false
  | [], _, _ => rfl
  | x :: r, h, p => by
    simp only [List.all_cons, Bool.and_eq_true] at h
    rw [starEach_cons h.1]
    show (false || (backTo p (starEach r env)).any (·.1)) = false
    rw [starEach_plain h.2 p]; rfl
theorem evalArgs_all {M : Model} {f : Value} {xs : List Expr} {p : Pos} {Q : Args → Shared → Prop} (hp : xs.all notStar = true) (h : wpAny M A (spliced (backTo p (starEach xs env))) (fun vs s' => Q ⟨vs, []⟩ s') E s) :
    wpAny M A (evalArgs f true (backTo p (starEach xs env)) []) Q E s := by
  cases xs with
  | nil =>
    unfold evalArgs
    show wpAny M A (spliced [] >>= _) Q E s
    refine wpAny_bind (wpAny_mono h (fun vs s' h' => ?_) fun _ _ x => x)
    refine wpAny_holding ?_
    exact wpAny_bind (wpAny_pure (wpAny_bind (wpAny_pure (wpAny_pure h'))))
  | cons x r =>
    simp only [List.all_cons, Bool.and_eq_true] at hp
    rw [starEach_cons hp.1] at h ⊢
    exact Calls.evalArgs_plain h

theorem callWith_snd {f : Value} {first : List Value} {xs : List Expr} {p q : Pos} {r : R (List V)} {k : List V → Hp → R V} (B : Base c K fields) (hp : xs.all notStar = true)
    (hk : ∀ h, K.In h → ∃ k, (k = Keeper.frame ∨ k = Keeper.machine ∨ k = Keeper.boundFrame) ∧ Looks (model prog c.w) h (keeperOf f) k)
    (h1 : Snd (model prog c.w) c F A mu s (spliced (backTo p (starEach xs env))) r (VRsl c))
    (h2 : ∀ vs cs H' mu' s', r = .ok vs H' → St c F mu' H' s'.heap → Go F [] mu s.heap mu' s'.heap → VRs c.bs mu' s'.heap vs cs → Snd (model prog c.w) c F A mu' s' (call f (first ++ cs)) (k vs H') (VRl c)) :
    Snd (model prog c.w) c F A mu s (callWith q f first (backTo p (starEach xs env)) []) (r.bind k) (VRl c) := by
  intro hb
  have hr : r ≠ .bad := fun e => hb (by rw [e]; rfl)
  refine callWith_of (P := K.In) (by rw [starEach_plain hp]; rfl) hk (evalArgs_all hp (wpAny_mono (h1 hr) (fun cs s' x => ?_) fun e s' x => ?_))
  · obtain ⟨vs, H', mu', e, S, G, R, eg, eo⟩ := x
    subst e
    exact ⟨B.in S, wpAny_mono (h2 vs cs H' mu' s' rfl S G R hb) (fun _ _ y => y.back G eg eo) fun _ _ y => y.elim⟩
  · exact x.elim

theorem keeps_builtin {M : Model} {id : String} : ∀ h, K.In h → ∃ k, (k = Keeper.frame ∨ k = Keeper.machine ∨ k = Keeper.boundFrame) ∧ Looks M h (keeperOf (.builtin id)) k := fun _ _ => ⟨.machine, .inr (.inl rfl), Looks.of_pure rfl⟩
theorem keeps_type {M : Model} {id : String} : ∀ h, K.In h → ∃ k, (k = Keeper.frame ∨ k = Keeper.machine ∨ k = Keeper.boundFrame) ∧ Looks M h (keeperOf (.type id)) k := fun _ _ => ⟨.machine, .inr (.inl rfl), Looks.of_pure rfl⟩

/-! fields -/
theorem FRs.find {w : World} {bs : Heap} {h : Heap} {f : String} : ∀ {fs : List (String × V)} {ds : List DictEntry}, FRs w bs mu h fs ds →
    (fs.lookup f = none ∧ ds.find? (fun e => e.key.isStr f) = none) ∨ ∃ v e, fs.lookup f = some v ∧ ds.find? (fun e => e.key.isStr f) = some e ∧ VR bs mu h v e.val
  | [], _, x => by rw [show _ = [] from x]; exact .inl ⟨rfl, rfl⟩
  | (k, u) :: r, _, z0 => by
    refine el_xxxpp z0 fun tk y t h1 h2 h3 => ?_; try clear z0
    rw [h1]
    by_cases q : f = k
    · subst q
      refine .inr ⟨u, ⟨PyData.keyHash w.params f, .str (Str.ofString f) tk, y⟩, by simp, ?_, h2⟩
      rw [List.find?_cons]; simp [Value.isStr]
    · have q' : (Str.ofString k == Str.ofString f) = false := beq_eq_false_iff_ne.mpr fun e => q (ofString_inj e).symm
      have qq : (f == k) = false := beq_eq_false_iff_ne.mpr q
      rw [List.lookup_cons, qq, List.find?_cons]
      simp only [Value.isStr, q']
      exact FRs.find h3
theorem FRs.noRef {w : World} {bs : Heap} {h : Heap} : ∀ {fs : List (String × V)} {ds : List DictEntry}, FRs w bs mu h fs ds → ds.any (·.refKey) = false
  | [], _, x => by rw [show _ = [] from x]; rfl
  | (k, u) :: r, _, z0 => by
    refine el_xxxpp z0 fun tk y t h1 h2 h3 => ?_; try clear z0
    rw [h1, List.any_cons, FRs.noRef h3]
    rfl

theorem look_fields {w : World} {bs : Heap} {h : Heap} {f : String} {fs : List (String × V)} {ents : Array DictEntry} {n : Nat} (x : FRs w bs mu h fs ents.toList) :
    (fs.lookup f = none ∧ lookIn f ⟨.type "dict", none, .dict ents n, #[]⟩ = some none) ∨ ∃ v y, fs.lookup f = some v ∧ lookIn f ⟨.type "dict", none, .dict ents n, #[]⟩ = some (some y) ∧ VR bs mu h v y := by
  unfold lookIn
  dsimp only
  rcases x.find (f := f) with ⟨a, b⟩ | ⟨v, e, a, b, r⟩
  · rw [b, x.noRef]; exact .inl ⟨a, rfl⟩
  · rw [b]; exact .inr ⟨v, _, a, rfl, r⟩

theorem VR.handed {bs : Heap} {h : Heap} {v : V} {y : Value} (r : VR bs mu h v y) : handedIn y = true := by
  cases v
  · rw [r]; rfl
  · rw [r]; rfl
  · refine el_x r fun t tqz => ?_; try clear r; subst tqz; rfl
  · refine el_xp r fun t tq1 _ => ?_; try clear r; subst tq1; rfl
  · refine el_xp r fun l _ tqz => ?_; try clear r; subst tqz; rfl
  · refine el_xxxxp r fun a _ _ _ tq4 _ => ?_; try clear r; subst tq4; rfl
  · refine el_xp r fun a tq1 _ => ?_; try clear r; subst tq1; rfl
  · refine el_xxxxp r fun a _ _ _ tq4 _ => ?_; try clear r; subst tq4; rfl

inductive IAt (c : Cf) (mu : Mu) (s : Shared) (r : Nat) (C : String) (fs : List (String × V)) (x : Value) : Prop
  | mk (q : Loc) (D : Addr) (n : Nat) (ents : Array DictEntry) (e : x = .ref q.a) (h1 : mu[r]? = some q) (h2 : q.d ≠ q.a) (h3 : c.cl false C = some D) (h4 : s.heap.get? q.a = some ⟨.ref D, some q.d, .plain, #[]⟩) (h5 : s.heap.get? q.d = some ⟨.type "dict", none, .dict ents n, #[]⟩) (h6 : FRs c.w c.bs mu s.heap fs ents.toList)
      (h7 : InstAt s.heap q.a ⟨.ref D, some q.d, .plain, #[]⟩ D (some ⟨.type "dict", none, .dict ents n, #[]⟩))
theorem St.instAt (S : St c F mu H s.heap) {r : Nat} {C : String} {fs : List (String × V)} {x : Value} (e : H[r]? = some (.inst C fs)) (v : VR c.bs mu s.heap (.ref r) x) : IAt c mu s r C fs x := by
  refine el_xp v fun q h1 h2 => ?_; try clear v
  refine el_pxxxppp (S.objs r q _ h1 e) fun h3 D n ents h4 h5 h6 h7 => ?_
  exact ⟨q, D, n, ents, h2, h1, h3, h4, h5, h6, h7, ⟨h5, rfl, rfl, h6⟩⟩

theorem attr_snd {a : V} {x : Value} {f : String} (B : Base c K fields) (S : St c F mu H s.heap) (va : VR c.bs mu s.heap a x) (hf : f ∈ fields) :
    Snd (model prog c.w) c F A mu s (PySem.getAttr x f true) (getAttr a f H) (VRl c) := by
  unfold getAttr
  split
  · rename_i r
    split
    · rename_i C fs hi
      obtain ⟨q, D, n, ents, rfl, h1, h2, h3, h4, h5, h6, I⟩ := S.instAt hi va
      have ck := (B.inst C D h3).2.2.1
      unfold clsOk at ck
      simp only [Bool.and_eq_true, beq_iff_eq, List.all_eq_true] at ck
      obtain ⟨⟨⟨⟨⟨⟨k1, k2⟩, k3⟩, k4⟩, k5⟩, k6⟩, k7⟩ := ck
      split
      · rename_i v hv
        rcases look_fields (n := n) (f := f) h6 with ⟨z, _⟩ | ⟨v', y, z, l, ry⟩
        · rw [hv] at z; cases z
        · rw [hv] at z; cases z
          exact fun _ => get_value (B.in S) I k1 (findObj_own k3 (k4 f hf) rfl l) ry.handed (QV.same S ry)
      · exact fun h => absurd rfl h
    · exact fun h => absurd rfl h
  · exact fun h => absurd rfl h
end
end Mine
end

section
/-! comparisons, truth, stores -/
namespace Mine
open PySem PySem.W PyProof.Rows
section
variable {prog : Program} {c : Cf} {F : List Addr} {A : Around} {mu : Mu} {s : Shared} {H : Hp} {E : Value → Shared → Prop} {K : Frag} {fields : List String}

theorem EqCls.at {h : Heap} {C x : Addr} {o : Obj} (X : EqCls h C) (e : h.get? x = some o) (hc : o.cls = .ref C) : h.CmpInst x C [.type "object"] := by
  obtain ⟨nm, q, N, bs, hdct, sn, sub, ab, col, dd, k0, k1, k2, k3, k5, newId, mN, h1, h2, h3, h4⟩ := X
  exact ⟨o, nm, q, N, bs, hdct, sn, sub, ab, col, dd, k0, k1, k2, k3, k5, newId, mN, e, hc, h1, h2, h3, h4⟩
theorem EqCls.keeps {h h' : Heap} {C : Addr} (X : EqCls h C) (k : h.StaysIn h') : EqCls h' C := by
  obtain ⟨nm, q, N, bs, hdct, sn, sub, ab, col, dd, k0, k1, k2, k3, k5, newId, mN, h1, h2, h3, h4⟩ := X
  exact ⟨nm, q, N, bs, hdct, sn, sub, ab, col, dd, k0, k1, k2, k3, k5, newId, mN, k _ _ h1, h2.keeps k, h3, h4⟩

theorem veq_both {a b : V} {x y : Value} {r : Bool} {Q : Value → Shared → Prop} (B : Base c K fields) (S : St c F mu H s.heap) (va : VR c.bs mu s.heap a x) (vb : VR c.bs mu s.heap b y) (hu : A.units + 1 + deep < cLine) (e : veq H a b = some r) :
    (Q (.bool r) s → wpAny (model prog c.w) A (compareOp .Eq x y) Q E s) ∧ (Q (.bool (!r)) s → wpAny (model prog c.w) A (compareOp .NotEq x y) Q E s) := by
  have dt : ∀ {d d'}, data deep H a = some d → data deep H b = some d' → D.eqv d d' = r → (Q (.bool r) s → wpAny (model prog c.w) A (compareOp .Eq x y) Q E s) ∧ (Q (.bool (!r)) s → wpAny (model prog c.w) A (compareOp .NotEq x y) Q E s) := by
    intro d d' e1 e2 e3
    subst e3
    exact ⟨fun h => eq_data S va vb e1 e2 (by (first | lia | omega)) h, fun h => ne_data S va vb e1 e2 (by (first | lia | omega)) h⟩
  have dt' : (match data deep H a, data deep H b with | some x, some y => some (D.eqv x y) | _, _ => none) = some r → (Q (.bool r) s → wpAny (model prog c.w) A (compareOp .Eq x y) Q E s) ∧ (Q (.bool (!r)) s → wpAny (model prog c.w) A (compareOp .NotEq x y) Q E s) := by
    intro e
    split at e
    · rename_i e1 e2; cases e; exact dt e1 e2 rfl
    · cases e
  unfold veq at e
  split at e
  · rename_i i j
    split at e
    · rename_i C fs C' fs' hi hj
      cases e
      obtain ⟨q, D, n, ents, rfl, h1, h2, h3, h4, h5, h6, I⟩ := S.instAt hi va
      obtain ⟨q', D', n', ents', rfl, h1', h2', h3', h4', h5', h6', I'⟩ := S.instAt hj vb
      have X := ((B.inst _ _ h3).2.2.2.keeps S.stays).at h4 rfl
      have X' := ((B.inst _ _ h3').2.2.2.keeps S.stays).at h4' rfl
      obtain ⟨hh, g, d, t, os⟩ := s
      by_cases hij : i = j
      · subst hij
        rw [h1] at h1'; cases h1'
        simp only [beq_self_eq_true]
        exact ⟨fun h => compareOp_eq_same PySem.F.cmp_object X (by (first | lia | omega)) h, fun h => compareOp_ne_same PySem.F.cmp_object X (by (first | lia | omega)) h⟩
      · rw [beq_eq_false_iff_ne.mpr hij]
        have ne := (S.apart i j q q' h1 h1' hij).1
        exact ⟨fun h => compareOp_eq_other PySem.F.cmp_object PySem.F.cmp_object X X' ne (by (first | lia | omega)) h, fun h => compareOp_ne_other PySem.F.cmp_object PySem.F.cmp_object X X' ne (by (first | lia | omega)) h⟩
    · exact dt' e
  · exact dt' e

theorem str_in {l : List Nat} {k : Nat} {t u : Tok} {Q : Value → Shared → Prop} :
    (Q (.bool (l.contains k)) s → wpAny (model prog c.w) A (compareOp .In (.str ⟨[k].toArray⟩ u) (.str ⟨l.toArray⟩ t)) Q E s) ∧ (Q (.bool (!l.contains k)) s → wpAny (model prog c.w) A (compareOp .NotIn (.str ⟨[k].toArray⟩ u) (.str ⟨l.toArray⟩ t)) Q E s) := by
  have e : (!(Builtin.Str.occurrences ⟨l.toArray⟩ ⟨[k].toArray⟩ 0 (⟨l.toArray⟩ : Str).length 1).isEmpty) = l.contains k := by
    rw [show (⟨[k].toArray⟩ : Str) = ⟨#[k]⟩ from rfl, StrLaws.found_one]; simp
  exact ⟨fun h => PyProof.Rows.in_str (by rw [e]; exact h), fun h => PyProof.Rows.notIn_str (by rw [e]; exact h)⟩

theorem vin_both {a b : V} {x y : Value} {r : Bool} {Q : Value → Shared → Prop} (S : St c F mu H s.heap) (va : VR c.bs mu s.heap a x) (vb : VR c.bs mu s.heap b y) (hu : A.units + 1 + deep < cLine) (e : vin H a b = some r) :
    ((∀ t, Q (.bool r) { s with toks := t }) → wpAny (model prog c.w) A (compareOp .In x y) Q E s) ∧ ((∀ t, Q (.bool (!r)) { s with toks := t }) → wpAny (model prog c.w) A (compareOp .NotIn x y) Q E s) := by
  unfold vin at e
  split at e
  · rename_i i
    split at e
    · split at e
      · rename_i ds d e1 e2
        cases e
        exact ⟨fun h => in_data S va vb e2 e1 hu (h s.toks), fun h => notin_data S va vb e2 e1 hu (h s.toks)⟩
      · cases e
    · rename_i es hi
      split at e
      · rename_i hk
        cases e
        refine el_xp vb fun l h1 tqz => ?_; try clear vb; subst tqz
        refine el_pxxpppp (S.objs _ _ _ h1 hi) fun tq0 n ents h2 h3 h4 h5 h6 => ?_; obtain ⟨_, hne⟩ := tq0
        have hd : (l.a == sysModules) = false := beq_eq_false_iff_ne.mpr hne
        refine ⟨fun h => ?_, fun h => ?_⟩
        · exact wpAny_bind (wpAny_mono (in_dict (Q := fun v s' => ∀ b, v = .bool b → wpAny (model prog c.w) A (pure (.bool b)) Q E s') S hu hk va h2 hd h3 h4 h5 fun t b e => by cases e; exact wpAny_pure (h t)) (fun b s' q => q b rfl) fun _ _ q => q)
        · exact wpAny_bind (wpAny_mono (in_dict (Q := fun v s' => ∀ b, v = .bool b → wpAny (model prog c.w) A (pure (.bool !b)) Q E s') S hu hk va h2 hd h3 h4 h5 fun t b e => by cases e; exact wpAny_pure (h t)) (fun b s' q => q b rfl) fun _ _ q => q)
      · cases e
    · cases e
  · rename_i l
    split at e
    · rename_i k
      cases e
      refine el_xp va fun t tq1 _ => ?_; try clear va; subst tq1
      refine el_xp vb fun u tq1 _ => ?_; try clear vb; subst tq1
      exact ⟨fun h => str_in.1 (h s.toks), fun h => str_in.2 (h s.toks)⟩
    · cases e
  · cases e

theorem okO_snd {t : Sem Value} {o : Option Bool} (h : ∀ r, o = some r → wpAny (model prog c.w) A t (QV c F mu s (.ok (.bool r) H) (VRl c)) NoE s) : Snd (model prog c.w) c F A mu s t (okO o H) (VRl c) := by
  intro hb
  cases o with
  | none => exact absurd rfl hb
  | some r => exact h r rfl

theorem cmpop_snd {op : CO} {a b : V} {x y : Value} (B : Base c K fields) (S : St c F mu H s.heap) (va : VR c.bs mu s.heap a x) (vb : VR c.bs mu s.heap b y) (hu : A.units + 1 + deep < cLine) :
    Snd (model prog c.w) c F A mu s (compareOp op.op x y) (cmpop op a b H) (VRl c) := by
  have qv : ∀ r t, QV c F mu s (.ok (.bool r) H) (VRl c) (.bool r) { s with toks := t } := fun r t => QV.same S rfl
  cases op with
  | eq => exact okO_snd fun r e => (veq_both B S va vb hu e).1 (qv r s.toks)
  | ne =>
    refine okO_snd fun r e => ?_
    refine el_xp (Option.map_eq_some_iff.mp e) fun r' e' tqz => ?_; subst tqz
    exact (veq_both B S va vb hu e').2 (qv _ s.toks)
  | lt => exact .onI va fun i u e => .onI vb fun j u' e' _ => e ▸ e' ▸ PySem.P.lt_int (qv _ s.toks)
  | le => exact .onI va fun i u e => .onI vb fun j u' e' _ => e ▸ e' ▸ PySem.P.le_int (qv _ s.toks)
  | gt => exact .onI va fun i u e => .onI vb fun j u' e' _ => e ▸ e' ▸ PySem.P.gt_int (qv _ s.toks)
  | ge => exact .onI va fun i u e => .onI vb fun j u' e' _ => e ▸ e' ▸ PySem.P.ge_int (qv _ s.toks)
  | isin => exact okO_snd fun r e => (vin_both S va vb hu e).1 fun t => qv r t
  | notin =>
    refine okO_snd fun r e => ?_
    refine el_xp (Option.map_eq_some_iff.mp e) fun r' e' tqz => ?_; subst tqz
    exact (vin_both S va vb hu e').2 fun t => qv _ t
  | is => exact fun h => absurd rfl h
  | isnot => exact fun h => absurd rfl h
end
end Mine
end

section
/-! stores: items, attributes -/
namespace Mine
open PySem PySem.W PyProof.Rows
section
variable {prog : Program} {c : Cf} {F : List Addr} {A : Around} {mu : Mu} {s : Shared} {H : Hp} {E : Value → Shared → Prop} {K : Frag} {fields : List String}

theorem put_list {l : Addr} {items : Array Value} {n : Nat} {k : Int} {t : Tok} {v : Value} {Q : Unit → Shared → Prop} (hl : IsL s.heap l items n) (h0 : 0 ≤ k) (hfit : k < 2 ^ 63) (hj : k.toNat < items.size)
    (hQ : Q () { s with heap := s.heap.update l (Obj.mapSeq (·.setIfInBounds k.toNat v)) }) : wpAny (model prog c.w) A (PySem.setItem (.ref l) (.int k t) v) Q E s := by
  have hT : s.TypeIs (.ref l) "list" := ⟨_, hl, rfl⟩
  unfold PySem.setItem
  refine wpAny_holding (wpAny_bind (wpAny_sequenceKey hT (by decide) ?_))
  refine wpAny_bind (wpAny_callSpecial?_slot (name := Str.ofString "__setitem__") hT slot_list_setitem (wpAny_call_entry slot_list_setitem hT entry_list_setitem ?_ (args_list_setitem _ _ _)))
  show wpAny _ _ (Builtin.List.listSubscript? (.int k t) >>= _) _ _ s
  refine wpAny_bind (wpAny_listSubscript_int (fitsIndex_of h0 hfit) ?_)
  clear hfit
  refine el_x (Int.eq_ofNat_of_zero_le h0) fun j tqz => ?_; subst tqz
  show wpAny _ _ ((seqItemAt l j >>= fun r => pure (r.map (j, ·))) >>= _) _ _ s
  refine wpAny_bind (wpAny_bind (wpAny_seqItemAt hl rfl (wpAny_pure ?_)))
  rw [Array.getElem?_eq_getElem (show j < items.size from hj)]
  show wpAny _ _ (setSeqItemAt l j v >>= _) _ _ s
  refine wpAny_bind (wpAny_setSeqItemAt hl rfl ?_)
  exact wpAny_pure ⟨.none, rfl, wpAny_pure hQ⟩

theorem setItem_snd {a b v : V} {x y z : Value} (S : St c F mu H s.heap) (va : VR c.bs mu s.heap a x) (vb : VR c.bs mu s.heap b y) (vv : VR c.bs mu s.heap v z) (hu : A.units + 1 + deep < cLine) :
    Snd (model prog c.w) c F A mu s (PySem.setItem x y z) (setItem a b v H) (fun _ (_ : Unit) _ _ => True) := by
  unfold setItem
  split
  · rename_i r
    refine el_xp va fun q hq tqz => ?_; try clear va; subst tqz
    split
    · rename_i l k hr
      refine el_x vb fun t tqz => ?_; try clear vb; subst tqz
      split
      · rename_i hk
        refine el_pxxpp (S.objs _ _ _ hq hr) fun e1 n items h1 h2 h3 => ?_
        refine el_x (Int.eq_ofNat_of_zero_le hk.1) fun j tqz => ?_; subst tqz
        have hj : j < items.size := by rw [h2.size]; simpa using hk.2
        have hm : mostLen < 2 ^ 63 := by decide
        refine fun _ => put_list (n := n) h1 hk.1 (by rw [h2.size] at hj; (first | lia | omega)) hj ?_
        have U : IsL (s.heap.update q.a (Obj.mapSeq (·.setIfInBounds j z))) q.a _ _ := IsL.update (n := n) h1 _
        refine QV.turn S hq (fun b h _ => Heap.get?_update_other _ _ (Ne.symm h)) ⟨e1, _, _, U, ?_, by simpa using h3⟩ trivial rfl rfl
        have fx : ∀ b o, s.heap.get? b = some o → Fixed o → (s.heap.update q.a (Obj.mapSeq (·.setIfInBounds j z))).get? b = some o := fun b o e f => by
          rw [Heap.get?_update_other _ _ (fun q' => ?_)]; exact e
          rw [← q', h1] at e; cases e
          rcases f with ⟨f, _⟩ | ⟨f, _⟩ <;> exact absurd f (by simp)
        have := (h2.mono fx (fun _ _ e => e)).set j (vv.mono fx fun _ _ e => e)
        simpa using this
      · exact fun h => absurd rfl h
    · rename_i es hr
      split
      · rename_i hk
        refine el_pxxpppp (S.objs _ _ _ hq hr) fun e1 n ents h1 h2 h3 h4 h5 => ?_
        exact fun _ => setItem_dict S hu hk.1 vb vv hq h1 e1 h2 h3 h4 hk.2 fun h' t k _ o => QV.turn S hq (fun b h _ => k b h) o trivial rfl rfl
      · exact fun h => absurd rfl h
    · exact fun h => absurd rfl h
  · exact fun h => absurd rfl h

theorem FRs.put {w : World} {bs : Heap} {h : Heap} {f : String} {v : V} {y : Value} {tk : Tok} (r : VR bs mu h v y) : ∀ {fs : List (String × V)} {ds : List DictEntry}, FRs w bs mu h fs ds →
    FRs w bs mu h (setF fs f v) (nsPutIn (Str.ofString f).cps.size (Str.ofString f).cps.toList (fun | some e => { e with val := y } | none => ⟨PyData.keyHash w.params f, .str (Str.ofString f) tk, y⟩) ds).1
  | [], _, x => by rw [show _ = [] from x]; exact in_xxxpp tk y [] rfl r rfl
  | (k, u) :: q, _, z0 => by
    refine el_xxxpp z0 fun tk' z t h1 h2 h3 => ?_; try clear z0
    subst h1
    unfold setF nsPutIn
    rw [Value.isStrByCps_eq]
    by_cases e : k = f
    · subst e
      rw [if_pos rfl, if_pos (by simp [Value.isStr])]
      exact in_xxxpp tk' y t rfl r h3
    · rw [if_neg e, if_neg (by simpa [Value.isStr] using fun q => e (ofString_inj q))]
      exact in_xxxpp tk' z _ rfl h2 (FRs.put r h3)
theorem setF_len (f : String) (v : V) : ∀ fs : List (String × V), (setF fs f v).length ≤ fs.length + 1
  | [] => by simp [setF]
  | (k, u) :: q => by
    have := setF_len f v q
    unfold setF
    split <;> simp <;> (first | lia | omega)
theorem FRs.length {w : World} {bs : Heap} {h : Heap} : ∀ {fs : List (String × V)} {ds : List DictEntry}, FRs w bs mu h fs ds → ds.length = fs.length
  | [], _, x => by rw [show _ = [] from x]; rfl
  | (k, u) :: q, _, z0 => by
    refine el_xxxpp z0 fun tk' z t h1 h2 h3 => ?_; try clear z0
    rw [h1, List.length_cons, List.length_cons, FRs.length h3]
theorem osa_put {w : World} {R : Result → Shared → Prop} {x d C : Addr} {name : Str} {tk : Tok} {v : Value} {ents ents' : Array DictEntry} {n n' : Nat} (X : K.In s.heap) (I : InstAt s.heap x ⟨.ref C, some d, .plain, #[]⟩ C (some ⟨.type "dict", none, .dict ents n, #[]⟩))
    (hp : plainOver K C = true) (ht : takerIn K C name = some none) (hh : hasDictIn K C = true) (h5 : s.heap.get? d = some ⟨.type "dict", none, .dict ents n, #[]⟩) (nr : ents.toList.any (·.refKey) = false)
    (up : Obj.putName name (PyData.keyHash w.params name) (.str name s.toks) v ⟨.type "dict", none, .dict ents n, #[]⟩ = ⟨.type "dict", none, .dict ents' n', #[]⟩) (hz : ents'.size ≤ sizeLine)
    (h : ∀ h', h'.get? d = some ⟨.type "dict", none, .dict ents' n', #[]⟩ → (∀ b, b ≠ d → h'.get? b = s.heap.get? b) → R (.ok (.ret .none)) { s with heap := h', toks := s.toks + 1 }) :
    codeAny (model prog w) A (.call (.builtin "object.__setattr__") ⟨[.ref x, .str name tk, v], []⟩) R s := by
  refine osa_open X I hp ht fun b => ?_
  refine el_xp (any_some hh) fun cd hc hd' => ?_
  refine wpAny_bind (wpAny_pure (wpAny_bind (wpAny_bind (wpAny_loadPart I.1 (wpAny_bind ((looks_clsIn X hc).here ?_))))))
  rw [hd']
  refine wpAny_pure (a := some d) (wpAny_bind (wpAny_pure (wpAny_bind ?_)))
  unfold nsSet
  refine wpAny_bind (wpAny_bind (wpAny_askSetting (wpAny_pure (wpAny_bind (wpAny_mkText (wpAny_bind (wpAny_loadPart h5 ?_)))))))
  dsimp only
  have nr' : (!ents.any (·.key.isStr name) && ents.any (·.refKey)) = false := by
    have : ents.any (·.refKey) = false := by rw [← Array.any_toList]; exact nr
    rw [this, Bool.and_false]
  rw [aRefKeyMayBeTheName_at, nr']
  refine wpAny_updatePart h5 ?_
  have e1 : (s.heap.update d (Obj.putName name (PyData.keyHash w.params name) (.str name s.toks) v)).get? d = some ⟨.type "dict", none, .dict ents' n', #[]⟩ := by
    rw [Heap.get?_update_self _ h5 (by rw [up]; rfl), up]
  refine wpAny_bind (wpAny_lookBehind e1 (pastItsLine_dict (Nat.le_succ_of_le hz)) ?_)
  exact wpAny_pure (h _ e1 fun b hb => Heap.get?_update_other _ _ (Ne.symm hb))

theorem setAttr_snd {a v : V} {x y : Value} {f : String} (B : Base c K fields) (S : St c F mu H s.heap) (va : VR c.bs mu s.heap a x) (vv : VR c.bs mu s.heap v y) (hf : f ∈ fields) :
    Snd (model prog c.w) c F A mu s (PySem.setAttr x f y) (setAttr a f v H) (fun _ (_ : Unit) _ _ => True) := by
  unfold setAttr
  split
  · rename_i r
    split
    · rename_i C fs hi
      split
      · rename_i hz
        intro _
        obtain ⟨q, D, n, ents, rfl, h1, h2, h3, h4, h5, h6, I⟩ := S.instAt hi va
        have ck := (B.inst C D h3).2.2.1
        unfold clsOk at ck
        simp only [Bool.and_eq_true, beq_iff_eq, List.all_eq_true] at ck
        obtain ⟨⟨⟨⟨⟨⟨k1, k2⟩, k3⟩, k4⟩, k5⟩, k6⟩, k7⟩ := ck
        have X := B.in S
        have hn := (FRs.put (f := f) (tk := s.toks + 1) vv h6)
        generalize hg : nsPutIn (Str.ofString f).cps.size (Str.ofString f).cps.toList (fun | some e => { e with val := y } | none => ⟨PyData.keyHash c.w.params f, .str (Str.ofString f) (s.toks + 1), y⟩) ents.toList = out at hn
        obtain ⟨ds, nw⟩ := out
        have up : ∃ n', Obj.putName (Str.ofString f) (PyData.keyHash c.w.params f) (.str (Str.ofString f) (s.toks + 1)) y ⟨.type "dict", none, .dict ents n, #[]⟩ = ⟨.type "dict", none, .dict ds.toArray n', #[]⟩ := by
          unfold Obj.putName
          dsimp only
          split
          · rename_i e
            have := hg.symm.trans e; cases this; exact in_x _ rfl
          · rename_i e
            have := hg.symm.trans e; cases this; exact in_x _ rfl
        refine el_x up fun n' up => ?_
        have hl := hn.length
        have hl' := setF_len f v fs
        refine set_plain X I k5 (osa_put (s := { s with toks := s.toks + 1 }) X I k6 (k7 f hf) k3 h5 h6.noRef up (by rw [List.size_toArray, sizeLine_eq]; dsimp only at hl; (first | lia | omega)) fun h' e1 e2 => ?_)
        have fx : ∀ b o, s.heap.get? b = some o → Fixed o → h'.get? b = some o := fun b o e f => by
          rw [e2 b (fun q' => ?_)]; exact e
          rw [q', h5] at e; cases e
          rcases f with ⟨f, _⟩ | ⟨f, _⟩ <;> exact absurd f (by simp)
        exact QV.turn S h1 (fun b _ h => e2 b h) ⟨h2, D, n', ds.toArray, h3, (e2 _ (Ne.symm h2)).trans h4, e1, hn.mono fx fun _ _ e => e⟩ trivial rfl rfl
      · exact fun h => absurd rfl h
    · exact fun h => absurd rfl h
  · exact fun h => absurd rfl h
end
end Mine
end

section
/-! the keys of any dict, one after another -/
namespace Mine
open PySem PySem.W
section
variable {prog : Program} {w : World} {A : Around} {E : Value → Shared → Prop} {s : Shared} {d it : Addr} {ents : Array DictEntry} {n i : Nat}
noncomputable def dOb (ents : Array DictEntry) (n : Nat) : Obj := ⟨.type "dict", none, .dict ents n, #[]⟩
theorem dIter {Q : Value → Shared → Prop} (hd : (d == sysModules) = false) (ho : s.heap.get? d = some (dOb ents n))
    (hQ : Q (.ref s.heap.objs.size) { s with heap := s.heap.push { cls := .type "dict_keyiterator", data := .fields #[.ref d, .int 0 0, .int ents.size 0, .int n 0] } }) :
    wpAny (model prog w) A (pyIter (.ref d)) Q E s := by
  have hT : s.TypeIs (.ref d) "dict" := ⟨_, ho, rfl⟩
  refine wpAny_pyIter_slot hT PySem.F.slot_dict_iter (wpAny_call_entry PySem.F.slot_dict_iter hT PySem.F.entry_dict_iter ?_ (PySem.F.args_dict_iter_1 _))
  unfold Builtin.«dict.__iter__»
  refine wpAny_bind ?_
  unfold Builtin.Dict.dictSlotNone
  refine wpAny_bind (wpAny_notOrdered_dict hT (wpAny_pure ?_))
  show wpAny _ _ (Builtin.Dict.showsAll d >>= _) _ _ s
  unfold Builtin.Dict.showsAll
  rw [if_neg (by rw [hd]; exact Bool.false_ne_true)]
  refine wpAny_bind (wpAny_pure (wpAny_bind (wpAny_dictEntries ho rfl (wpAny_bind (wpAny_dictEpoch ho rfl ?_)))))
  exact wpAny_bind (wpAny_newObj_type (wpAny_pure ⟨_, rfl, "dict_keyiterator", _, ⟨_, Heap.get?_push_size _ rfl, rfl⟩, PySem.F.slot_dict_keyiterator_next.lookup, hQ⟩))
theorem dNext {Q : Option Value → Shared → Prop} (hit : s.heap.IsKeyIter it d i ents.size n) (ho : s.heap.get? d = some (dOb ents n)) (hi : i < ents.size)
    (hQ : ∀ h', h'.IsKeyIter it d (i + 1) ents.size n → Heap.SameBut it s.heap h' → Q (some ents[i].key) { s with heap := h' }) :
    wpAny (model prog w) A (pyNext (.ref it)) Q E s := by
  refine el_xpp (id hit) fun o hi1 hi2 hi3 => ?_
  unfold pyNext
  refine wpAny_bind (wpAny_attempt (wpAny_callSpecial?_slot (name := Str.ofString "__next__") hit.typeIs PySem.F.slot_dict_keyiterator_next
    (wpAny_call_entry PySem.F.slot_dict_keyiterator_next hit.typeIs PySem.F.entry_dict_keyiterator_next ?_ (PySem.F.args_dict_keyiterator_next_1 _))))
  refine wpAny_bind (wpAny_pure (wpAny_bind (wpAny_bind ?_)))
  first | refine wpAny_bind (wpAny_typeNameOfWhole_keyiter hit.typeIs (wpAny_pure ?_)) | refine wpAny_bind (wpAny_typeNameOf_keyiter hit.typeIs (wpAny_pure ?_))
  refine wpAny_bind (wpAny_fieldsOf hi1 hi3 ?_)
  rw [if_neg (show ¬ (Builtin.Dict_items.ownsTuple "dict_keyiterator" = true) by decide)]
  show wpAny _ _ (if (Value.ref d == Value.none) = true then _ else _) _ _ s
  rw [if_neg (show ¬ ((Value.ref d == Value.none) = true) from Bool.false_ne_true)]
  refine wpAny_bind (wpAny_pure (wpAny_bind (wpAny_dictEntries ho rfl ?_)))
  rw [if_neg (by simp)]
  refine wpAny_bind (wpAny_pure (wpAny_bind (wpAny_dictEpoch ho rfl ?_)))
  rw [if_neg (by simp)]
  refine wpAny_pure ?_
  simp only [show ¬ ((i : Int) < 0) from by (first | lia | omega), if_false, Int.toNat_natCast, Array.getElem?_eq_getElem hi]
  refine wpAny_bind ?_
  first | refine wpAny_bind (wpAny_typeNameOfWhole_keyiter hit.typeIs (wpAny_pure ?_)) | refine wpAny_bind (wpAny_typeNameOf_keyiter hit.typeIs (wpAny_pure ?_))
  refine wpAny_bind (wpAny_isOneOf_keyiter hit.typeIs ?_)
  show wpAny _ _ (setField (.ref it) 1 (rawInt ((i : Int) + 1)) >>= _) _ _ s
  refine wpAny_bind (wpAny_setField hi1 hi3 (by simp) ?_)
  have hit' : (s.heap.update it (Obj.mapFields (·.setIfInBounds 1 (rawInt ((i : Int) + 1))))).IsKeyIter it d (i + 1) ents.size n :=
    ⟨_, Heap.get?_update_self _ hi1 (Obj.isFreed_of_fields (Obj.data_mapFields hi3 _)), (Obj.cls_mapFields ..).trans hi2, by rw [Obj.data_mapFields hi3]; simp [rawInt]⟩
  refine wpAny_bind (wpAny_holding ?_)
  refine wpAny_bind (wpAny_isOneOf_keyiter (s := { s with heap := s.heap.update it (Obj.mapFields (·.setIfInBounds 1 (rawInt ((i : Int) + 1)))) }) hit'.typeIs ?_)
  show wpAny _ _ (pure ents[i].key) _ _ _
  exact wpAny_pure (wpAny_pure ⟨_, rfl, wpAny_pure (hQ _ hit' (Heap.SameBut.update ..))⟩)
theorem dEnd {Q : Option Value → Shared → Prop} (hh : A.handled = none) (hit : s.heap.IsKeyIter it d i ents.size n) (ho : s.heap.get? d = some (dOb ents n)) (hi : ents.size ≤ i)
    (hQ : ∀ h', Heap.ExtBut it s.heap h' → Q none { s with heap := h' }) : wpAny (model prog w) A (pyNext (.ref it)) Q E s := by
  refine el_xpp (id hit) fun o hi1 hi2 hi3 => ?_
  unfold pyNext
  refine wpAny_bind (wpAny_attempt (wpAny_callSpecial?_slot (name := Str.ofString "__next__") hit.typeIs PySem.F.slot_dict_keyiterator_next
    (wpAny_call_entry PySem.F.slot_dict_keyiterator_next hit.typeIs PySem.F.entry_dict_keyiterator_next ?_ (PySem.F.args_dict_keyiterator_next_1 _))))
  refine wpAny_bind (wpAny_pure (wpAny_bind (wpAny_bind ?_)))
  first | refine wpAny_bind (wpAny_typeNameOfWhole_keyiter hit.typeIs (wpAny_pure ?_)) | refine wpAny_bind (wpAny_typeNameOf_keyiter hit.typeIs (wpAny_pure ?_))
  refine wpAny_bind (wpAny_fieldsOf hi1 hi3 ?_)
  rw [if_neg (show ¬ (Builtin.Dict_items.ownsTuple "dict_keyiterator" = true) by decide)]
  show wpAny _ _ (if (Value.ref d == Value.none) = true then _ else _) _ _ s
  rw [if_neg (show ¬ ((Value.ref d == Value.none) = true) from Bool.false_ne_true)]
  refine wpAny_bind (wpAny_pure (wpAny_bind (wpAny_dictEntries ho rfl ?_)))
  rw [if_neg (by simp)]
  refine wpAny_bind (wpAny_pure (wpAny_bind (wpAny_dictEpoch ho rfl ?_)))
  rw [if_neg (by simp)]
  refine wpAny_pure ?_
  simp only [show ¬ ((i : Int) < 0) from by (first | lia | omega), if_false, Int.toNat_natCast, Array.getElem?_eq_none hi]
  refine wpAny_bind ?_
  first | refine wpAny_bind (wpAny_typeNameOfWhole_keyiter hit.typeIs (wpAny_pure ?_)) | refine wpAny_bind (wpAny_typeNameOf_keyiter hit.typeIs (wpAny_pure ?_))
  show wpAny _ _ (setField (.ref it) 0 .none >>= _) _ _ s
  refine wpAny_bind (wpAny_setField hi1 hi3 (by simp) ?_)
  show wpAny _ _ (newExc (.type "StopIteration") [] >>= _) _ _ _
  refine wpAny_bind ?_
  simp only [newExc, newTuple]
  refine wpAny_bind (wpAny_newObj_type ?_ (by size_fits))
  refine wpAny_bind (m := firstArgMember _ _) (wpAny_of_eq (a := Value.none) (by first | rfl | (simp only [firstArgMember]; rfl)) ?_)
  refine wpAny_newObj_type ?_ (by size_fits)
  unfold raiseNew
  refine wpAny_bind (wpAny_handled ?_)
  rw [show A.in1.handled = none from hh]
  refine wpAny_bind (wpAny_pure (wpAny_throw ?_))
  refine wpAny_bind (wpAny_isInstance (T := "StopIteration") (b := true) ⟨_, Heap.get?_push_size _ rfl, rfl⟩ isSubtype_stop ?_)
  exact wpAny_pure (hQ _ (((Heap.SameBut.update ..).extBut.push _).push _))
theorem dWalk (hh : A.handled = none) (hne : d ≠ it) : Walks prog w A it [it, d] [it] ents.size (fun i v => ∃ e, ents[i]? = some e ∧ v = e.key) (fun i h => h.IsKeyIter it d i ents.size n ∧ h.get? d = some (dOb ents n)) where
  sub := fun b hb => by simp at hb; simp [hb]
  frame := fun _ _ _ st hk => ⟨st.1.at fun o e => hk it (by simp) o e, hk d (by simp) _ st.2⟩
  item := fun i s Q E hi st hQ => dNext st.1 st.2 hi fun h' a b => hQ _ h' s.toks ⟨_, Array.getElem?_eq_getElem hi, rfl⟩ ⟨a, b.extBut d _ hne st.2⟩ fun c o hb e => b.extBut c o (fun h => hb (by simp [h])) e
  done := fun s Q E st hQ => dEnd hh st.1 st.2 (Nat.le_refl _) fun h' b => hQ h' s.toks fun c o hb e => b c o (fun h => hb (by simp [h])) e
  self := fun _ _ _ _ st hQ => wpAny_pyIter_keyiter st.1 hQ
theorem dSrc (lo : (d == sysModules) = false) : KdlSrc prog w "dict" d d ents.size (fun i v => ∃ e, ents[i]? = some e ∧ v = e.key) (fun h => h.get? d = some (dOb ents n)) where
  type := fun _ ho => ⟨_, ho, rfl⟩
  there := fun _ ho => ⟨Heap.lt_size ho, Heap.lt_size ho⟩
  keep := fun _ _ ho hk => hk d (.inl rfl) _ ho
  notList := by decide
  notTuple := by decide
  hint := fun _ _ s _ ho hq => kdl_hint_dict (s := s) ⟨_, ho, rfl⟩ hq
  iter := fun _ _ hh ho => ⟨_, _, (fun _ _ hq => dIter lo ho hq), dWalk hh (Nat.ne_of_lt (Heap.lt_size ho)), ⟨⟨_, Heap.get?_push_size _ rfl, rfl, rfl⟩, Heap.get?_push_of_some _ ho⟩⟩
end
end Mine
end

section
/-! sorted() of whole numbers that stand in order -/
namespace Mine
open PySem PyProof.Rows
theorem minRun_le : ∀ f n r : Nat, minRun' f n r ≤ n + r
  | 0, _, _ => Nat.le_refl _
  | f + 1, n, r => by
    rw [minRun'_succ]
    split
    · exact Nat.le_refl _
    · have := minRun_le f (n / 2) (max r (n % 2)); (first | lia | omega)
theorem pairs_asc {vs : List Value} {ns : List Int} (hI : IntsAre vs ns) (hp : ns.Pairwise (· ≤ ·)) : SortedTo (pairsOf vs) (pairsOf vs).size := by
  have at_ : ∀ i, i < (pairsOf vs).size → ∃ h : i < ns.length, K (pairsOf vs) i = ns[i] := fun i hi => by
    have hn := hI.nums
    have hv : i < vs.length := by rwa [pairsOf_size] at hi
    have e : (pairsOf vs)[i].1 = vs[i] := by unfold pairsOf; simp
    subst hn
    exact ⟨by rwa [List.length_map], by rw [K_eq hi, e, List.getElem_map]⟩
  intro i j hij hj
  refine el_y (at_ i (Nat.lt_of_le_of_lt hij hj)) fun a e => ?_
  refine el_y (at_ j hj) fun b f => ?_
  rw [e, f]
  rcases Nat.eq_or_lt_of_le hij with q | q
  · subst q; exact Int.le_refl _
  · exact List.pairwise_iff_getElem.mp hp i j a b q
section
variable {prog : Program} {w : World} {A : Around} {E : Value → Shared → Prop} {s : Shared} {a₀ : Array Keyed}
theorem runs_asc {st : SortSt} {Q : Unit → SortSt → Prop} (h0 : IntKeys a₀) (hB : SBase a₀ st) (h2 : 2 ≤ a₀.size) (hs : SortedTo (arrOf st) a₀.size)
    (h : Q () (setPending st #[(0, a₀.size, 0)])) : wpS (model prog w) A E s sortRuns' Q st := by
  rw [sortRuns'_eq]
  refine wpS_bind (wpS_get ?_)
  have hm := minRun_le a₀.size a₀.size 0
  rw [hB.size]
  have s1 : ∀ st : SortSt, SortedTo (arrOf st) 1 := fun st i j hij hj => Int.le_of_eq (congrArg (K (arrOf st)) (by (first | lia | omega)))
  dsimp only
  refine wpS_bind (wpS_mono (wpS_forRange
    (I := fun x c st' => (x = 0 ∧ c = (none, 0) ∧ st' = st) ∨ (1 ≤ x ∧ c = (none, a₀.size) ∧ st' = setPending st #[(0, a₀.size, 0)]))
    (Q := fun c st' => c = (none, a₀.size) ∧ st' = setPending st #[(0, a₀.size, 0)]) ?step ?fin (.inl ⟨rfl, rfl, rfl⟩)) ?post)
  case fin =>
    rintro c st' (⟨hx, _, _⟩ | q)
    · (first | lia | omega)
    · exact q.2
  case step =>
    rintro x c st' _ hx (⟨rfl, rfl, rfl⟩ | ⟨hx1, rfl, rfl⟩)
    · rw [if_neg (by show ¬ 0 ≥ a₀.size; (first | lia | omega))]
      dsimp only
      rw [Nat.sub_zero, countRun0_eq]
      refine wpS_bind (wpS_bind (wpS_ascLoop h0 (Nat.le_refl _) (Nat.le_refl 1) (by (first | lia | omega)) hB (s1 _) fun n hn1 hn2 hsn hor => ?_))
      obtain rfl : n = a₀.size := hor.elim id fun q => by
        rcases Nat.eq_or_lt_of_le hn2 with z | z
        · exact z
        · exact absurd (hs (n - 1) n (by (first | lia | omega)) z) (Int.not_le.mpr q)
      dsimp only
      rw [if_pos (beq_self_eq_true _)]
      refine wpS_pure ?_
      dsimp only
      rw [if_neg (by (first | lia | omega))]
      refine wpS_bind (wpS_get ?_)
      rw [hB.pend]
      refine wpS_bind (wpS_modify (wpS_pure (.inr ⟨Nat.le_refl _, by rw [Nat.zero_add], ?_⟩)))
      rw [hB.pend]; rfl
    · rw [if_pos (Nat.le_refl _)]
      exact wpS_pure ⟨rfl, rfl⟩
  case post =>
    rintro c st' ⟨rfl, rfl⟩
    dsimp only
    refine wpS_bind (wpS_mono (wpS_forRange (I := fun _ c st'' => st'' = setPending st #[(0, a₀.size, 0)] ∧ c = (none, ())) (Q := fun c st'' => st'' = setPending st #[(0, a₀.size, 0)] ∧ c = (none, ())) ?_ (fun _ _ hh => hh) ⟨rfl, rfl⟩) ?_)
    · rintro x c st'' _ _ ⟨rfl, rfl⟩
      refine wpS_bind (wpS_get ?_)
      rw [if_pos (show (pendingOf (setPending st #[(0, a₀.size, 0)])).size ≤ 1 from Nat.le_refl 1)]
      exact wpS_pure ⟨rfl, rfl⟩
    · rintro c st'' ⟨rfl, rfl⟩
      exact wpS_pure h
theorem sort_asc {a : Addr} {vs : List Value} {ns : List Int} {n : Nat} {P : Fin → Shared → Prop} (ho : s.heap.get? a = some (seqObj "list" vs.toArray n)) (hI : IntsAre vs ns) (hp : ns.Pairwise (· ≤ ·)) (hz : vs.length ≤ sizeLine)
    (h : P (.done (.ret .none)) { s with heap := sortedHeap s.heap a vs vs.toArray }) : wpAny (model prog w) A (Builtin.«list.sort» ⟨[.ref a], []⟩) P E s := by
  rw [list_sort_plain]
  have ha : a < s.heap.objs.size := Heap.lt_size ho
  have hm : (pairsOf vs).map (·.2) = vs.toArray := by
    apply Array.toList_inj.mp
    rw [Array.toList_map, pairsOf_toList]; exact List.map_snd_zip (Nat.le_refl _)
  refine wpAny_bind (listItems_at ho rfl (wpAny_bind (listUpdate_at ho rfl ?_ (hsz := hz))))
  obtain ⟨e1, ho1⟩ : ∃ e1, (s.heap.update a (Obj.mapSeq fun _ => #[])).get? a = some (seqObj "list" #[] e1) := ⟨_, get?_update_seq ho (fun _ => #[])⟩
  refine wpAny_bind (seqEpoch_at ho1 rfl (wpAny_bind (wpAny_newTuple (wpAny_bind (wpAny_newList (wpAny_holding ?_))))))
  have ho6 : (((s.heap.update a (Obj.mapSeq fun _ => #[])).push (seqObj "tuple" vs.toArray 0)).push (seqObj "list" #[] 0)).get? a = some (seqObj "list" #[] e1) := by
    rw [Heap.get?_push_ne _ _ _ (by rw [size_push', Heap.size_update]; exact Nat.ne_of_lt (Nat.lt_succ_of_lt ha)), Heap.get?_push_ne _ _ _ (by rw [Heap.size_update]; exact Nat.ne_of_lt ha)]
    exact ho1
  show wpAny (model prog w) A _ P E { s with heap := ((s.heap.update a (Obj.mapSeq fun _ => #[])).push (seqObj "tuple" vs.toArray 0)).push (seqObj "list" #[] 0) }
  dsimp only
  have fin : ∀ st' : SortSt, arrOf st' = pairsOf vs → failedOf st' = none → wpAny (model prog w) A (do
      let sorted := (arrOf st').map (·.2)
      let touched := (← seqEpoch a) != e1
      Builtin.List.listUpdate (.ref a) fun _ => sorted
      if let some e := failedOf st' then rule "list.sort.comparison-raised"; throw e
      if touched then rule "list.sort.modified"; raiseError "ValueError" "list modified during sort"
      ret .none) P E { s with heap := ((s.heap.update a (Obj.mapSeq fun _ => #[])).push (seqObj "tuple" vs.toArray 0)).push (seqObj "list" #[] 0) } := by
    intro st' ha hf
    dsimp only
    rw [ha, hm, hf]
    refine wpAny_bind (seqEpoch_at ho6 rfl (wpAny_bind (listUpdate_at ho6 rfl ?_ (hsz2 := by show vs.toArray.size ≤ _; rw [List.size_toArray]; (first | lia | omega)))))
    rw [bne_self_eq_false]
    exact wpAny_pure h
  by_cases h2 : vs.toArray.size < 2
  · rw [if_pos h2, if_pos h2]
    refine wpAny_bind (wpAny_pure ?_)
    rw [StateT.run_pure]
    exact wpAny_bind (wpAny_pure (fin (SortSt.mk' general' (vs.toArray.zip vs.toArray) #[] 7 none) rfl rfl))
  · rw [if_neg h2, if_neg h2]
    rw [List.size_toArray] at h2
    obtain ⟨v₁, v₂, rest, rfl⟩ : ∃ v₁ v₂ rest, vs = v₁ :: v₂ :: rest := by
      match vs, h2 with
      | [], h2 => exact absurd (by decide) h2
      | [_], h2 => exact absurd (Nat.lt_succ_self 1) h2
      | v₁ :: v₂ :: rest, _ => exact ⟨v₁, v₂, rest, rfl⟩
    rw [keyKind_ints hI]
    refine wpAny_bind (wpAny_pure (wpAny_bind (wpAny_mono (runs_asc (a₀ := pairsOf (v₁ :: v₂ :: rest)) (st := SortSt.mk' oneType' ((v₁ :: v₂ :: rest).toArray.zip (v₁ :: v₂ :: rest).toArray) #[] 7 none)
      (Q := fun _ st' => arrOf st' = pairsOf (v₁ :: v₂ :: rest) ∧ failedOf st' = none)
      hI.intKeys ⟨Array.Perm.refl _, rfl, rfl, rfl⟩ (by rw [pairsOf_size]; exact Nat.not_lt.mp h2) (pairs_asc hI hp) ⟨rfl, rfl⟩) ?_ fun _ _ e => e)))
    rintro ⟨⟨⟩, st'⟩ s' ⟨rfl, hp, hf⟩
    exact fin st' hp hf
theorem sorted_dict {d : Addr} {ents : Array DictEntry} {n : Nat} {ns : List Int} {Q : Value → Shared → Prop} (hh : A.handled = none) (hd : (d == sysModules) = false) (ho : s.heap.get? d = some (dOb ents n)) (hI : IntsAre (ents.toList.map (·.key)) ns) (hp : ns.Pairwise (· ≤ ·)) (hz : ents.size ≤ sizeLine)
    (h : ∀ h' tk a e, s.heap.get? a = none → (∀ b o, s.heap.get? b = some o → h'.get? b = some o) → h'.get? a = some (seqObj "list" (ents.toList.map (·.key)).toArray e) → Q (.ref a) { s with heap := h', toks := tk }) : wpAny (model prog w) A (call (.builtin "sorted") [.ref d]) Q E s := by
  refine Calls.call_function_entry kind_sorted plain_sorted entry_sorted (args_sorted1 _) ?_
  unfold Builtin.«sorted»
  refine wpAny_bind (m := checkCount "sorted" 1 1 _) (wpAny_pure (wpAny_bind (PySem.W.kdu_collect (dSrc hd) (by exact hh) ho hz fun h' tk acc k I => ?_)))
  have ea : acc.toList = ents.toList.map (·.key) := by
    apply List.ext_getElem?
    intro i
    rw [List.getElem?_map, Array.getElem?_toList, Array.getElem?_toList]
    cases q : acc[i]? with
    | none =>
      have : ents.size ≤ i := by rw [← I.1]; exact Nat.le_of_not_lt fun z => by rw [Array.getElem?_eq_getElem z] at q; cases q
      rw [Array.getElem?_eq_none this]; rfl
    | some v => refine el_xp (I.2 i v q) fun e e1 e2 => ?_; rw [e1, e2]; rfl
  rw [ea]
  generalize hvs : ents.toList.map (·.key) = vs at hI h
  have hzv : vs.length ≤ sizeLine := by rw [← hvs, List.length_map, Array.length_toList]; exact hz
  refine wpAny_bind (wpAny_newList ?_)
  have hoL : (h'.push (seqObj "list" vs.toArray 0)).get? h'.objs.size = some (seqObj "list" vs.toArray 0) := Heap.get?_push_size _ rfl
  refine el_x (sortedHeap_at (out := vs.toArray) hoL) fun e he => ?_
  have gone : s.heap.get? h'.objs.size = none := by
    cases q : s.heap.get? h'.objs.size with
    | none => rfl
    | some o => exact absurd (Heap.lt_size (k _ _ q)) (Nat.lt_irrefl _)
  refine wpAny_bind (wpAny_holding (wpAny_call_entry (s := { s with heap := h'.push (seqObj "list" vs.toArray 0), toks := tk }) slot_list_sort ⟨_, hoL, rfl⟩ entry_list_sort (sort_asc hoL hI hp hzv ⟨_, rfl, wpAny_pure ⟨_, rfl, ?_⟩⟩) (args_list_sort _)))
  refine h _ tk _ e gone (fun b o eb => ?_) he
  have lt := Heap.lt_size (k b o eb)
  rw [sortedHeap_old (Nat.ne_of_lt lt) (by rw [size_push']; exact Nat.lt_succ_of_lt lt), Heap.get?_push_ne _ _ _ (Nat.ne_of_lt lt)]
  exact k b o eb
end
end Mine
end

section
/-! builtins and the methods of lists -/
namespace Mine
open PySem PySem.W PyProof.Rows
set_option maxRecDepth 100000
section
variable {prog : Program} {c : Cf} {F : List Addr} {A : Around} {mu : Mu} {s : Shared} {H : Hp} {E : Value → Shared → Prop} {K : Frag} {fields : List String}

theorem isa_row (K : Frag) : ∀ T ∈ ["int", "str"], ∀ t ∈ isaTs, kitOne K (.type T) (.type t) = some (t == T) := by
  intro T hT t ht
  simp only [isaTs, List.mem_cons, List.not_mem_nil, or_false] at hT ht
  rcases hT with rfl | rfl <;> rcases ht with rfl | rfl | rfl <;> kernel_rfl

theorem isa_snd {P : Pg} {a : V} {x : Value} {t : String} (B : Base c K fields) (S : St c F mu H s.heap) (va : VR c.bs mu s.heap a x) (ht : t ∈ isaTs) :
    Snd (model prog c.w) c F A mu s (call (.builtin "isinstance") [x, .type t]) (isa P t a H) (VRl c) :=
  match a, va with
  | .int i, va => fun _ => by
    refine el_x va fun tk e => ?_; try clear va
    rw [e]
    exact kia_one kitx_int (B.in S) trivial (isa_row K "int" (.head _) t ht) (fun e => nomatch e) fun tk => QV.same S rfl
  | .str l, va => fun _ => by
    refine el_xp va fun tk e _ => ?_; try clear va
    rw [e]
    exact kia_one kitx_str (B.in S) trivial (isa_row K "str" (.tail _ (.head _)) t ht) (fun e => nomatch e) fun tk => QV.same S rfl
  | .none, _ => fun h => absurd rfl h
  | .bool _, _ => fun h => absurd rfl h
  | .tup _, _ => fun h => absurd rfl h
  | .rng _ _ _, _ => fun h => absurd rfl h
  | .fz _, _ => fun h => absurd rfl h
  | .ref _, _ => fun h => absurd rfl h

theorem QV.list' {vs : List V} {cs : Array Value} {h' : Heap} {a : Addr} {n tk : Nat} (S : St c F mu H s.heap) (k : s.heap.StaysIn h') (e : h'.get? a = some { cls := .type "list", data := .seq cs n }) (na : s.heap.get? a = none)
    (v : VRs c.bs mu h' vs cs.toList) (hz : vs.length ≤ mostLen) : QV c F mu s (alloc (.list vs) H) (VRl c) (.ref a) { s with heap := h', toks := tk } := by
  refine QV.more (l := ⟨a, a⟩) S k na na ⟨rfl, n, cs, e, v.mono (fun b o e _ => e) (fun i m e => ?_), hz⟩ ⟨⟨a, a⟩, ?_, rfl⟩ rfl rfl
  · rw [List.getElem?_append_left (List.getElem?_eq_some_iff.mp e).1]; exact e
  · rw [← S.len, List.getElem?_append_right (Nat.le_refl _), Nat.sub_self]; rfl

theorem rng_vr {a b k : Int} {t u v tk : Nat} (S : St c F mu H s.heap) (h : Builtin.Range.small a b k = true) :
    QV c F mu s (.ok (.rng a b k) H) (VRl c) (.ref s.heap.objs.size) { s with heap := s.heap.push { cls := .type "range", data := .fields #[.int a t, .int b u, .int k v] }, toks := tk } := by
  refine QV.here S (stays_push _ _) ?_ rfl rfl
  show VR _ _ _ (.rng a b k) _
  simp only [VR]
  exact in_xppxxx _ rfl h t u v (Heap.get?_push_size _ rfl)

noncomputable def bfv : String → Value
  | "len" => .builtin "len" | "range" => .type "range" | "min" => .builtin "min" | "max" => .builtin "max" | "list" => .type "list" | "str" => .type "str" | "int" => .type "int" | "all" => .builtin "all" | "sorted" => .builtin "sorted"
  | _ => .none

theorem int_vr {i : Int} {t : Nat} {bs h} : VR bs mu h (.int i) (.int i t) := by simp only [VR]; exact in_x t rfl
theorem QV.int {i : Int} {t tk : Nat} (S : St c F mu H s.heap) : QV c F mu s (.ok (.int i) H) (VRl c) (.int i t) { s with toks := tk } := QV.same S int_vr

theorem size_fit {n : Nat} (h : n ≤ mostLen) : (n : Int) < 2 ^ 63 := by have : mostLen < 2 ^ 63 := by decide
                                                                        (first | lia | omega)


theorem lenL_snd {a : V} {x : Value} (S : St c F mu H s.heap) (va : VR c.bs mu s.heap a x) : Snd (model prog c.w) c F A mu s (call (.builtin "len") [x]) (onL a H fun l => .ok (.int l.length) H) (VRl c) :=
  .onL va fun r l va hr _ => by
    obtain ⟨q, n, items, rfl, h1, h2, h3, h4, h5⟩ := S.listAt hr va
    refine PyProof.Rows.len_list (items := items) ⟨_, h3, rfl, n, rfl⟩ (by rw [h4.size]; exact size_fit h5) ?_
    rw [h4.size]; exact QV.int S
theorem len_snd {a : V} {x : Value} (S : St c F mu H s.heap) (va : VR c.bs mu s.heap a x) : Snd (model prog c.w) c F A mu s (call (.builtin "len") [x]) (bLen H a) (VRl c) := by
  cases a with
  | fz l =>
    intro _
    refine el_xxxxppppp va fun q o n vs tq4 h1 h2 h3 h4 h5 => ?_; try clear va; subst tq4
    refine PyProof.Rows.len_list (items := vs) ⟨o, S.stays _ _ h1, h2, n, h3⟩ (by rw [h4.size]; exact size_fit h5) ?_
    rw [h4.size]; exact QV.int S
  | str l =>
    intro _
    refine el_xpp va fun t tq1 h1 h2 => ?_; try clear va; subst tq1
    have hz : (⟨l.toArray⟩ : Str).length = l.length := by simp [Str.length]
    refine PyProof.Rows.len_str (by rw [hz]; have := size_fit h1; (first | lia | omega)) ?_
    rw [hz]; exact QV.int S
  | _ => exact lenL_snd S va

theorem bools_get {bs h} : ∀ {l : List V} {xs : List Value} {b : List Bool}, bools? l = some b → VRs bs mu h l xs → b.length = xs.length ∧ ∀ (i : Nat) v, xs[i]? = some v → v = .bool (b.getD i false)
  | [], xs, b, e, r => by simp only [VRs] at r; cases e; rw [r]; exact ⟨rfl, fun i v h => by simp at h⟩
  | v :: l, xs, b, e, r => by
    cases v <;> simp only [bools?] at e <;> try cases e
    refine el_xp (Option.map_eq_some_iff.mp e) fun js e' tqz => ?_; subst tqz
    refine el_xxpp r fun c q tq2 h1 h2 => ?_; try clear r; subst tq2
    subst h1
    obtain ⟨z1, z2⟩ := bools_get e' h2
    refine ⟨by simp [z1], fun i v h => ?_⟩
    cases i with
    | zero => simp at h; rw [← h]; rfl
    | succ i => simp at h; simpa using z2 i v h
theorem range_all (b : List Bool) : (List.range b.length).all (fun i => b.getD i false) = b.all id := by
  rw [Bool.eq_iff_iff, List.all_eq_true, List.all_eq_true]
  constructor
  · intro h x hx
    obtain ⟨i, hi, rfl⟩ := List.mem_iff_getElem.mp hx
    have := h i (by simpa using hi)
    simpa [List.getD_eq_getElem?_getD, hi] using this
  · intro h i hi
    have hi' : i < b.length := by simpa using hi
    have := h b[i] (List.getElem_mem hi')
    simpa [List.getD_eq_getElem?_getD, hi'] using this

theorem all_snd {r : V} {x : Value} (hh : A.handled = none) (S : St c F mu H s.heap) (va : VR c.bs mu s.heap r x) : Snd (model prog c.w) c F A mu s (call (.builtin "all") [x]) (onL r H fun l => okO ((bools? l).map fun bs => bs.all id) H) (VRl c) := by
  refine .onL va fun r l va hr => ?_
  · refine okO_snd fun b e => ?_
    refine el_xp (Option.map_eq_some_iff.mp e) fun bs e' tqz => ?_; subst tqz
    obtain ⟨q, n, items, rfl, h1, h2, h3, h4, h5⟩ := S.listAt hr va
    obtain ⟨z1, z2⟩ := bools_get e' h4
    have hne : q.a ≠ s.heap.objs.size := fun e => Nat.lt_irrefl _ (e ▸ Heap.lt_size h3)
    refine call_all_walk (wpAny_pyIter_list (items := items) ⟨_, h3, rfl, n, rfl⟩ ⟨s.heap.objs.size, _, _, _, _, _, fun i => bs.getD i false, rfl, Walks.list (A := A.in1) hh _ q.a hne items, ⟨⟨_, Heap.get?_push_size _ rfl, rfl, rfl⟩, _, Heap.get?_push_of_some _ h3, rfl, n, rfl⟩, ?_, fun h' tk k => ?_⟩)
    · intro i v s Q E hP hQ
      rw [z2 i v (by simpa using hP)]
      exact wpAny_truthy_bool hQ
    · have : (List.range items.size).all (fun i => bs.getD i false) = bs.all id := by
        rw [show items.size = bs.length by rw [z1]; simp]; exact range_all bs
      rw [this]
      refine QV.here S (fun b o e => k b o ?_ (Heap.get?_push_of_some _ e)) rfl rfl rfl
      simp only [List.mem_singleton]
      exact fun q => Nat.lt_irrefl _ (q ▸ Heap.lt_size e)

theorem char_lt (ch : Char) : ch.toNat < 1114112 := by
  have := ch.valid
  unfold Char.toNat
  rcases this with h | h
  · exact Nat.lt_of_lt_of_le h (by decide)
  · exact h.2
theorem int_text {i : Int} (h0 : 0 ≤ i) : Str.ofString (toString i) = ⟨(digitsOf i.toNat).toArray⟩ := by
  refine el_x (Int.eq_ofNat_of_zero_le h0) fun n tqz => ?_; subst tqz
  rw [Str.ofString_eq_toList]
  rfl
theorem log_small {i : Int} (h0 : 0 ≤ i) (h1 : i < 1000000000) : i.natAbs.log2 < 1920 := by
  by_cases z : i.natAbs = 0
  · rw [z]; decide
  · rw [Nat.log2_lt z]
    exact Nat.lt_of_lt_of_le (show i.natAbs < 2 ^ 30 by (first | lia | omega)) (Nat.pow_le_pow_right (by decide) (by decide))
theorem repr_fits {i : Int} (h0 : 0 ≤ i) (h1 : i < 1000000000) : okStr (digitsOf i.toNat) := by
  refine ⟨?_, ?_⟩
  · have := int_text_fits (log_small h0 h1)
    rw [int_text h0] at this
    rw [mostLen_eq]; simpa [Str.length] using this
  · intro x hx
    unfold digitsOf at hx
    refine el_xp (List.mem_map.mp hx) fun ch _ tqz => ?_; subst tqz
    exact char_lt ch

theorem VRs.cons_inv {bs h} {a : V} {l : List V} {xs : List Value} (v : VRs bs mu h (a :: l) xs) : ∃ x r, xs = x :: r ∧ VR bs mu h a x ∧ VRs bs mu h l r := by simpa only [VRs] using v
theorem VRs.nil_inv {bs h} {xs : List Value} (v : VRs bs mu h [] xs) : xs = [] := by simpa only [VRs] using v
theorem Snd.a1 {f : Value} {as : List V} {xs : List Value} {k : V → Mine.R V} (va : VRs c.bs mu s.heap as xs) (q : ∀ a x, VR c.bs mu s.heap a x → Snd (model prog c.w) c F A mu s (call f [x]) (k a) (VRl c)) : Snd (model prog c.w) c F A mu s (call f xs) (a1 as k) (VRl c) :=
  match as, va with
  | [], _ => fun h => absurd rfl h
  | [a], va => by refine el_xxpp (va.cons_inv) fun x r tq2 v w => ?_; subst tq2; rw [w.nil_inv]; exact q a x v
  | _ :: _ :: _, _ => fun h => absurd rfl h
theorem Snd.a2 {f : Value} {as : List V} {xs : List Value} {k : V → V → Mine.R V} (va : VRs c.bs mu s.heap as xs) (q : ∀ a b x y, VR c.bs mu s.heap a x → VR c.bs mu s.heap b y → Snd (model prog c.w) c F A mu s (call f [x, y]) (k a b) (VRl c)) : Snd (model prog c.w) c F A mu s (call f xs) (a2 as k) (VRl c) :=
  match as, va with
  | [], _ => fun h => absurd rfl h
  | [_], _ => fun h => absurd rfl h
  | [a, b], va => by obtain ⟨x, r, rfl, v, w⟩ := va.cons_inv; obtain ⟨y, r, rfl, v', w⟩ := w.cons_inv; rw [w.nil_inv]; exact q a b x y v v'
  | _ :: _ :: _ :: _, _ => fun h => absurd rfl h
theorem range_snd {as : List V} {xs : List Value} (S : St c F mu H s.heap) (va : VRs c.bs mu s.heap as xs) : Snd (model prog c.w) c F A mu s (call (bfv "range") xs) (bRange as H) (VRl c) :=
  match as, va with
  | [], _ => fun h => absurd rfl h
  | [a], va => by
    refine el_xxpp (va.cons_inv) fun x r tq2 v w => ?_; subst tq2; rw [w.nil_inv]
    exact .onI v fun i u e => .ifT fun hn _ => e ▸ call_range_1 (rng_vr S (small_one (by decide) (by decide) (by (first | lia | omega)) (by (first | lia | omega))))
  | [a, b], va => by
    obtain ⟨x, r, rfl, v, w⟩ := va.cons_inv; obtain ⟨y, r, rfl, v', w⟩ := w.cons_inv; rw [w.nil_inv]
    exact .onI v fun i u e => .onI v' fun j u' e' => .ifT fun hn _ => e ▸ e' ▸ call_range_2 (rng_vr S (small_one (by (first | lia | omega)) (by (first | lia | omega)) (by (first | lia | omega)) (by (first | lia | omega))))
  | _ :: _ :: _ :: _, _ => fun h => absurd rfl h
theorem list_snd {a : V} {x : Value} (hh : A.handled = none) (S : St c F mu H s.heap) (va : VR c.bs mu s.heap a x) : Snd (model prog c.w) c F A mu s (call (bfv "list") [x]) (bList H a) (VRl c) := by
  have lst : Snd (model prog c.w) c F A mu s (call (bfv "list") [x]) (onL a H fun l => alloc (.list l) H) (VRl c) := .onL va fun r l va hr _ => by
    obtain ⟨q, n, items, rfl, h1, h2, h3, h4, h5⟩ := S.listAt hr va
    have hz := h4.size
    exact call_list_seq q.a (.inl rfl) h3 rfl rfl (fun h' c' k e => QV.list' (tk := s.toks) S k e (get_push_fresh _) (h4.mono (fun b o e _ => k b o e) fun _ _ e => e) h5) (by rw [hz, ← mostLen_eq]; exact h5)
  exact lst
theorem ints_are {bs h} : ∀ {is : List Int} {xs : List Value}, VRs bs mu h (is.map .int) xs → IntsAre xs is
  | [], _, r => by rw [show _ = [] from r]; exact .nil
  | _ :: _, _, z0 => by
    refine el_xxpp z0 fun _ _ e tq3 r => ?_; try clear z0; obtain ⟨_, f⟩ := tq3
    rw [e, f]
    exact .cons _ _ (ints_are r)
theorem DRs.ks {w : World} {bs : Heap} {h : Heap} : ∀ {es : List (V × V)} {ds : List DictEntry}, DRs w bs mu h es ds → VRs bs mu h (es.map (·.1)) (ds.map (·.key))
  | [], ds, x => by rw [show ds = [] from x]; exact (rfl : ([] : List Value) = [])
  | (_, _) :: _, ds, z0 => by
    refine el_xxpppp z0 fun e t h1 _ h3 _ h5 => ?_; try clear z0
    rw [h1]
    exact in_xxpp _ _ rfl h3 (DRs.ks h5)
theorem DRs.len {w : World} {bs : Heap} {h : Heap} {es : List (V × V)} {ds : List DictEntry} (x : DRs w bs mu h es ds) : ds.length = es.length := by
  have := (DRs.ks x).length
  rwa [List.length_map, List.length_map] at this
theorem keysAt_inv {a : V} {l : List V} (e : keysAt a H = some l) : ∃ r es, a = .ref r ∧ H[r]? = some (.dict es) ∧ l = es.map (·.1) := by
  cases a with
  | ref r =>
    have e : (match H[r]? with | some (.dict es) => some (List.map Prod.fst es) | _ => .none) = some l := e
    cases hr : H[r]? with
    | none => rw [hr] at e; cases e
    | some o =>
      rw [hr] at e
      cases o with
      | dict es => cases e; exact in_xxpp r es rfl hr rfl
      | _ => cases e
  | _ => cases e
theorem sorted_snd {a : V} {x : Value} (hh : A.handled = none) (S : St c F mu H s.heap) (va : VR c.bs mu s.heap a x) : Snd (model prog c.w) c F A mu s (call (bfv "sorted") [x]) (bSorted H a) (VRl c) := by
  unfold bSorted
  cases e : keysAt a H with
  | none => exact fun h => absurd rfl h
  | some l =>
    dsimp only
    cases intsOf l with
    | none => exact fun h => absurd rfl h
    | some t =>
      refine .ifT fun hp _ => ?_
      refine el_xxpp (keysAt_inv e) fun r es tq2 hr el => ?_; subst tq2
      refine el_xp va fun q h1 tqz => ?_; try clear va; subst tqz
      refine el_pxxpppp (S.objs _ _ _ h1 hr) fun tq0 n ents ho _ _ dr le => ?_; obtain ⟨_, ns⟩ := tq0
      have vs : VRs c.bs mu s.heap l (ents.toList.map (·.key)) := by rw [el]; exact dr.ks
      have sz : ents.size = es.length := by rw [← Array.length_toList]; exact dr.len
      refine sorted_dict hh (beq_eq_false_iff_ne.mpr ns) ho (ints_are (t.2 ▸ vs)) hp (by rw [sz, ← mostLen_eq]; exact le) fun h' tk a e gone k he => QV.list' S k he gone ?_ (by rw [el, List.length_map]; exact le)
      rw [List.toList_toArray]; exact vs.mono (fun b o e _ => k b o e) fun _ _ e => e
theorem int_snd {a : V} {x : Value} (S : St c F mu H s.heap) (va : VR c.bs mu s.heap a x) : Snd (model prog c.w) c F A mu s (call (bfv "int") [x]) (bInt H a) (VRl c) := by
  cases a with
  | bool b => replace va : _ = _ := va; subst va; exact fun _ => call_int_bool (QV.int S)
  | _ => exact fun h => absurd rfl h

theorem IntsAre.vrs {bs h} : ∀ {xs : List Value} {is : List Int}, IntsAre xs is → VRs bs mu h (is.map .int) xs
  | _, _, .nil => by simp [VRs]
  | _, _, .cons k t r => by simp only [List.map_cons, VRs]; exact in_xxpp _ _ rfl int_vr (IntsAre.vrs r)
theorem bfn_snd {b : String} {as : List V} {xs : List Value} (hh : A.handled = none) (S : St c F mu H s.heap) (va : VRs c.bs mu s.heap as xs) : Snd (model prog c.w) c F A mu s (call (bfv b) xs) (bfn b as H) (VRl c) := by
  have br : ∀ (n : String) {r r' : Mine.R V}, Snd (model prog c.w) c F A mu s (call (bfv n) xs) r (VRl c) → Snd (model prog c.w) c F A mu s (call (bfv b) xs) r' (VRl c) → Snd (model prog c.w) c F A mu s (call (bfv b) xs) (if b = n then r else r') (VRl c) := fun n {r r'} p q => by
    by_cases e : b = n
    · rw [if_pos e, e]; exact p
    · rw [if_neg e]; exact q
  exact br "len" (.a1 va fun a x v => len_snd S v) (br "range" (range_snd S va)
    (br "min" (.a2 va fun a b x y v v' => .onI v fun i u e => .onI v' fun j u' e' _ => e ▸ e' ▸ min_two_ints hh fun h' tk k => QV.here S k (show VR _ _ _ _ _ by split <;> exact int_vr) rfl rfl)
    (br "list" (.a1 va fun a x v => list_snd hh S v)
    (br "str" (.a1 va fun a x v => .onI v fun i u e => .ifT fun hi _ => e ▸ PySem.P.str_of_int (log_small hi.1 hi.2) (QV.same S (by show VR _ _ _ (.str _) _; simp only [VR]; exact in_xp _ (by rw [int_text hi.1]) (repr_fits hi.1 hi.2))))
    (br "int" (.a1 va fun a x v => int_snd S v)
    (br "max" (.a2 va fun a b x y v v' => .onI v fun i u e => .onI v' fun j u' e' _ => e ▸ e' ▸ max_two_ints hh fun h' tk k => QV.here S k (show VR _ _ _ _ _ by split <;> exact int_vr) rfl rfl)
    (br "sorted" (.a1 va fun a x v => sorted_snd hh S v)
    (br "all" (.a1 va fun a x v => all_snd hh S v) fun h => absurd rfl h))))))))
end
end Mine
end

section
/-! the methods of lists, and of ints -/
namespace Mine
open PySem PySem.W PyProof.Rows
set_option maxRecDepth 100000
section
variable {prog : Program} {c : Cf} {F : List Addr} {A : Around} {mu : Mu} {s : Shared} {H : Hp} {E : Value → Shared → Prop} {K : Frag} {fields : List String}

theorem turn_list {r : Nat} {m : List V} {q : Loc} {n n' : Nat} {items ys : Array Value} {h' : Heap} {v : V} {y : Value} {tk : Nat} (S : St c F mu H s.heap) (hq : mu[r]? = some q) (e1 : q.d = q.a)
    (h1 : s.heap.get? q.a = some { cls := .type "list", data := .seq items n }) (h2 : h'.get? q.a = some { cls := .type "list", data := .seq ys n' }) (hk : ∀ b, b ≠ q.a → h'.get? b = s.heap.get? b)
    (hm : VRs c.bs mu s.heap m ys.toList) (hz : m.length ≤ mostLen) (hv : VR c.bs mu s.heap v y) : QV c F mu s (.ok v (H.set r (.list m))) (VRl c) y { s with heap := h', toks := tk } := by
  have fx : ∀ b o, s.heap.get? b = some o → Fixed o → h'.get? b = some o := fun b o e f => by
    rw [hk b (fun q' => ?_)]; exact e
    rw [q', h1] at e; cases e
    rcases f with ⟨f, _⟩ | ⟨f, _⟩ <;> exact absurd f (by simp)
  exact QV.turn S hq (fun b h _ => hk b h) ⟨e1, n', ys, h2, hm.mono fx fun _ _ e => e, hz⟩ (hv.mono fx fun _ _ e => e) rfl rfl

section
variable {r : Nat} {l : List V} {v : V} {x y : Value}
theorem append_snd (S : St c F mu H s.heap) (vr : VR c.bs mu s.heap (.ref r) x) (ho : H[r]? = some (.list l)) (v1 : VR c.bs mu s.heap v y) (hz : l.length < mostLen) :
    wpAny (model prog c.w) A (call (.builtin "list.append") [x, y]) (QV c F mu s (.ok .none (H.set r (.list (l ++ [v])))) (VRl c)) E s := by
  obtain ⟨q, n, items, rfl, h1, h2, h3, h4, h5⟩ := S.listAt ho vr
  have hs := h4.size
  refine call_meets (T := "list") (name := Str.ofString "append") PySem.F.slot_list_append ⟨_, h3, rfl⟩ PySem.F.entry_list_append (PySem.F.args_list_append_2 _ _) (list_append q.a items n y (by rw [hs, ← mostLen_eq]; exact h5)) ⟨h3, ?_⟩
  refine turn_list (tk := s.toks) S h1 h2 h3 (IsL.update (n := n) h3 _) (fun b hb => Heap.get?_update_other _ _ (Ne.symm hb)) ?_ (by simp; (first | lia | omega)) (by exact rfl)
  rw [Array.toList_push]
  exact h4.append (VRs.single v1)
theorem pop_snd (S : St c F mu H s.heap) (vr : VR c.bs mu s.heap (.ref r) x) (ho : H[r]? = some (.list l)) (hv : l.getLast? = some v) :
    wpAny (model prog c.w) A (call (.builtin "list.pop") [x]) (QV c F mu s (.ok v (H.set r (.list l.dropLast))) (VRl c)) E s := by
  obtain ⟨q, n, items, rfl, h1, h2, h3, h4, h5⟩ := S.listAt ho vr
  have hs := h4.size
  rw [List.getLast?_eq_getElem?] at hv
  refine el_xp (h4.get hv) fun y hy vy => ?_
  refine call_meets (T := "list") (name := Str.ofString "pop") PySem.F.slot_list_pop ⟨_, h3, rfl⟩ PySem.F.entry_list_pop (PySem.F.args_list_pop_1 _) (MeetsSeq.list_pop_last q.a items n y (by rw [hs]; simpa using hy) (by rw [hs, ← mostLen_eq]; exact h5)) ⟨h3, ?_⟩
  refine turn_list (tk := s.toks) S h1 h2 h3 (IsL.update (n := n) h3 _) (fun b hb => Heap.get?_update_other _ _ (Ne.symm hb)) ?_ (by simp; (first | lia | omega)) vy
  have : (items.eraseIdxIfInBounds (items.size - 1)).toList = items.toList.take (items.toList.length - 1) := by
    by_cases z : items.size - 1 < items.size
    · rw [Array.eraseIdxIfInBounds, dif_pos z, Array.toList_eraseIdx, List.eraseIdx_eq_take_drop_succ, List.drop_eq_nil_of_le (by simp; (first | lia | omega))]
      simp
    · have : items = #[] := by simpa using (show items.size = 0 by (first | lia | omega))
      subst this; rfl
  rw [this, h4.length, List.dropLast_eq_take]
  exact h4.take _
end
theorem objMeth_snd {r : Nat} {o : Ob} {m : String} {x : Value} {as : List V} {xs : List Value} (S : St c F mu H s.heap) (vr : VR c.bs mu s.heap (.ref r) x) (ho : H[r]? = some o) (va : VRs c.bs mu s.heap as xs) :
    Snd (model prog c.w) c F A mu s (call (.builtin ("list." ++ m)) (x :: xs)) (objMeth m r o as H) (VRl c) := by
  cases o with
  | list l =>
    show Snd (model prog c.w) c F A mu s (call (.builtin ("list." ++ m)) (x :: xs)) (if m = "append" then _ else if m = "pop" then _ else .bad) (VRl c)
    by_cases e : m = "append"
    · rw [if_pos e, e]
      match as, va with
      | [], _ => exact fun h => absurd rfl h
      | [a], va => refine el_xxpp (va.cons_inv) fun y t tq2 v1 w => ?_; subst tq2; rw [w.nil_inv]; exact .ifT fun hz _ => append_snd S vr ho v1 hz
      | _ :: _ :: _, _ => exact fun h => absurd rfl h
    rw [if_neg e]
    by_cases e : m = "pop"
    · rw [if_pos e, e]
      match as, va with
      | [], va =>
        rw [va.nil_inv]
        show Snd _ c F A mu s _ (match l.getLast? with | some v => .ok v (H.set r (.list l.dropLast)) | .none => .bad) (VRl c)
        cases hv : l.getLast? with
        | none => exact fun h => absurd rfl h
        | some v => exact fun _ => pop_snd S vr ho hv
      | _ :: _, _ => exact fun h => absurd rfl h
    rw [if_neg e]
    exact fun h => absurd rfl h
  | _ => exact fun h => absurd rfl h
end
end Mine
end

section
/-! iterators -/
namespace Mine
open PySem PySem.W PyProof.Rows
set_option maxRecDepth 100000
section
variable {prog : Program} {c : Cf} {F : List Addr} {A : Around} {mu : Mu} {s : Shared} {H : Hp} {E : Value → Shared → Prop}

noncomputable def It (c : Cf) (I : Addr) (src : V) (k : Nat) (mu : Mu) (h : Heap) : Prop :=
  match src with
  | .ref r => ∃ l, mu[r]? = some l ∧ h.IsListIter I l.a k
  | .str l => okStr l ∧ k ≤ l.length ∧ ∃ ty t, (ty = "str_ascii_iterator" ∨ ty = "str_iterator") ∧ h.IsStrIter I ty ⟨l.toArray⟩ t k
  | .rng a b d => d = 1 ∧ (k : Int) ≤ Builtin.Range.rangeSize a b d ∧ IsRangeIter h I (a + k * d) (Builtin.Range.rangeSize a b d - k) d
  | _ => False

theorem It.at {I : Addr} {src : V} {k : Nat} {h : Heap} (x : It c I src k mu h) : ∃ o, h.get? I = some o ∧ ¬ Fixed o ∧ o.cls ≠ .type "list" := by
  unfold It at x
  split at x
  · refine el_xpxpp x fun l _ o h1 h2 h3 => ?_; try clear x
    exact in_xpp o h1 (by rintro (⟨q, _⟩ | ⟨q, _⟩) <;> rw [h2] at q <;> exact absurd q (by simp)) (by rw [h2]; simp)
  · obtain ⟨_, _, ty, t, h0, o, h1, h2, h3⟩ := x
    refine in_xpp o h1 ?_ ?_
    · rcases h0 with rfl | rfl <;> rintro (⟨q, _⟩ | ⟨q, _⟩) <;> rw [h2] at q <;> exact absurd q (by simp)
    · rcases h0 with rfl | rfl <;> rw [h2] <;> simp
  · exact in_xpp _ x.2.2 (by rintro (⟨q, _⟩ | ⟨q, _⟩) <;> exact absurd q (by simp)) (by simp)
  · exact x.elim

theorem It.mono {I : Addr} {src : V} {k : Nat} {mu' : Mu} {h h' : Heap} (x : It c I src k mu h) (kI : ∀ o, h.get? I = some o → h'.get? I = some o) (kF : ∀ b o, h.get? b = some o → Fixed o → h'.get? b = some o)
    (e : ∀ (i : Nat) l, mu[i]? = some l → mu'[i]? = some l) : It c I src k mu' h' := by
  unfold It at x ⊢
  split
  · refine el_xpxp x fun l h0 o h1 h2 => ?_; try clear x
    exact in_xpxp l (e _ _ h0) o (kI _ h1) h2
  · obtain ⟨h0, hk, ty, t, h1, o, h2, h3⟩ := x
    exact ⟨h0, hk, ty, t, h1, o, kI _ h2, h3⟩
  · exact ⟨x.1, x.2.1, kI _ x.2.2⟩
  · rename_i n1 n3 n4
    split at x
    · exact absurd rfl (n1 _)
    · exact absurd rfl (n3 _)
    · exact absurd rfl (n4 _ _ _)
    · exact x

theorem pyIter_snd {src : V} {x : Value} {Q : Value → Shared → Prop} (S : St c F mu H s.heap) (va : VR c.bs mu s.heap src x) (hn : nth src H 0 ≠ none)
    (hQ : ∀ o, It c s.heap.objs.size src 0 mu (s.heap.push o) → Q (.ref s.heap.objs.size) { s with heap := s.heap.push o }) : wpAny (model prog c.w) A (pyIter x) Q E s := by
  have p : ∀ o, ∀ b ob, s.heap.get? b = some ob → Fixed ob → (s.heap.push o).get? b = some ob := fun o b ob e _ => Heap.get?_push_of_some _ e
  unfold nth at hn
  split at hn
  · rename_i r
    split at hn
    · rename_i l hr
      obtain ⟨q, n, items, rfl, h1, h2, h3, h4, h5⟩ := S.listAt hr va
      exact wpAny_pyIter_list (items := items) ⟨_, h3, rfl, n, rfl⟩ (hQ _ ⟨q, h1, _, Heap.get?_push_size _ rfl, rfl, rfl⟩)
    · exact absurd rfl hn
  · rename_i l
    refine el_xp va fun t tq1 ok => ?_; try clear va; subst tq1
    cases ha : (⟨l.toArray⟩ : Str).cps.all (· < 128)
    · exact wpAny_pyIter_wide ha (hQ _ ⟨ok, Nat.zero_le _, "str_iterator", t, .inr rfl, _, Heap.get?_push_size _ rfl, rfl, rfl⟩)
    · exact wpAny_pyIter_ascii ha (hQ _ ⟨ok, Nat.zero_le _, "str_ascii_iterator", t, .inl rfl, _, Heap.get?_push_size _ rfl, rfl, rfl⟩)
  · rename_i a b d
    refine el_xppxxx va fun r tq1 h1 t u v h2 => ?_; try clear va; subst tq1
    have hd : d = 1 := by
      by_cases h : d = 1
      · exact h
      · rw [if_neg h] at hn; exact absurd rfl hn
    refine wpAny_pyIter_range h2 h1 (hQ _ ⟨hd, ?_, ?_⟩)
    · rw [hd, rangeSize_one]; split <;> simp <;> (first | lia | omega)
    · have e1 : a + ((0 : Nat) : Int) * d = a := by simp
      have e2 : Builtin.Range.rangeSize a b d - ((0 : Nat) : Int) = Builtin.Range.rangeSize a b d := by simp
      rw [e1, e2]
      exact Heap.get?_push_size _ rfl
  · exact absurd rfl hn

theorem pyNext_item {src : V} {I : Addr} {k : Nat} {v : V} {Q : Option Value → Shared → Prop} (hh : A.handled = none) (S : St c F mu H s.heap) (it : It c I src k mu s.heap) (hv : nth src H k = some (some v))
    (hQ : ∀ x h' tk, VR c.bs mu s.heap v x → It c I src (k + 1) mu h' → (∀ b o, b ≠ I → s.heap.get? b = some o → h'.get? b = some o) → Q (some x) { s with heap := h', toks := tk }) :
    wpAny (model prog c.w) A (pyNext (.ref I)) Q E s := by
  have at_ := it.at
  unfold nth at hv
  split at hv
  · rename_i r
    split at hv
    · rename_i l hr
      refine el_xp it fun q hq hi => ?_; try clear it
      refine el_pxxpp (S.objs _ _ _ hq hr) fun _ n items h3 h4 h5 => ?_
      simp only [Option.some.injEq] at hv
      refine el_xp (h4.get hv) fun x hx vx => ?_
      exact wpAny_pyNext_list_item hi (items := items) ⟨_, h3, rfl, n, rfl⟩ (by simpa using hx) fun h' e1 e2 => hQ x h' s.toks vx ⟨q, hq, e1⟩ fun b o hb e => e2.extBut b o hb e
    · cases hv
  · rename_i l
    refine el_ppxxp it fun ok hk ty t hty hi => ?_; try clear it
    simp only [Option.some.injEq, Option.map_eq_some_iff] at hv
    refine el_xp hv fun ch hc tqz => ?_; try clear hv; subst tqz
    have hlt : k < l.length := (List.getElem?_eq_some_iff.mp hc).1
    have W : Walks prog c.w A I [I] [I] (⟨l.toArray⟩ : Str).cps.size (SignAt ⟨l.toArray⟩) (fun i h => h.IsStrIter I ty ⟨l.toArray⟩ t i) := by
      rcases hty with rfl | rfl
      · exact Walks.strAscii hh I _ t
      · exact Walks.strWide hh I _ t
    refine W.item k s Q E (by simpa using hlt) hi fun x h' tk hx hst hk' => ?_
    refine el_xxp hx fun ch' u e tqz => ?_; try clear hx; subst tqz
    have : ch' = ch := by
      have e' : l[k]? = some ch' := by simpa using e
      rw [hc] at e'; cases e'; rfl
    subst this
    refine hQ _ h' tk ?_ ⟨ok, hlt, ty, t, hty, hst⟩ fun b o hb e => hk' b o (by simpa using hb) e
    simp only [VR]
    exact in_xpp u rfl (by simp; decide) (fun y hy => by rw [List.mem_singleton.mp hy]; exact ok.2 _ (List.mem_of_getElem? hc))
  · rename_i a b d
    refine el_pp it fun hd hk hi => ?_; try clear it
    subst hd
    have key : v = .int (a + k * 1) ∧ 0 < Builtin.Range.rangeSize a b 1 - k := by
      rw [if_pos rfl] at hv
      simp only [Option.some.injEq] at hv
      split at hv
      · cases hv; rw [rangeSize_one]; refine ⟨by simp, ?_⟩; split <;> (first | lia | omega)
      · cases hv
    obtain ⟨rfl, hl⟩ := key
    refine wpAny_pyNext_range_item hi hl fun h' e1 e2 => hQ _ h' _ int_vr ⟨rfl, by (first | lia | omega), ?_⟩ fun b o hb e => e2.extBut b o hb e
    have e3 : a + ((k + 1 : Nat) : Int) * 1 = a + (k : Int) * 1 + 1 := by push_cast; rw [Int.add_mul, Int.one_mul, Int.add_assoc]
    have e4 : Builtin.Range.rangeSize a b 1 - ((k + 1 : Nat) : Int) = Builtin.Range.rangeSize a b 1 - (k : Int) - 1 := by push_cast; (first | lia | omega)
    rw [e3, e4]; exact e1
  · cases hv

theorem pyNext_end {src : V} {I : Addr} {k : Nat} {Q : Option Value → Shared → Prop} (hh : A.handled = none) (S : St c F mu H s.heap) (it : It c I src k mu s.heap) (hv : nth src H k = some none)
    (hQ : ∀ h' tk, (∀ b o, b ≠ I → s.heap.get? b = some o → h'.get? b = some o) → Q none { s with heap := h', toks := tk }) :
    wpAny (model prog c.w) A (pyNext (.ref I)) Q E s := by
  unfold nth at hv
  split at hv
  · rename_i r
    split at hv
    · rename_i l hr
      refine el_xp it fun q hq hi => ?_; try clear it
      refine el_pxxpp (S.objs _ _ _ hq hr) fun _ n items h3 h4 h5 => ?_
      simp only [Option.some.injEq] at hv
      have hx := h4.none hv
      exact wpAny_pyNext_list_end hh hi (items := items) ⟨_, h3, rfl, n, rfl⟩ (by simpa using hx) fun h' e2 => hQ h' s.toks fun b o hb e => e2 b o hb e
    · cases hv
  · rename_i l
    refine el_ppxxp it fun ok hk ty t hty hi => ?_; try clear it
    simp only [Option.some.injEq, Option.map_eq_none_iff] at hv
    have hlt : k = l.length := by
      have := List.getElem?_eq_none_iff.mp hv; (first | lia | omega)
    subst hlt
    have W : Walks prog c.w A I [I] [I] (⟨l.toArray⟩ : Str).cps.size (SignAt ⟨l.toArray⟩) (fun i h => h.IsStrIter I ty ⟨l.toArray⟩ t i) := by
      rcases hty with rfl | rfl
      · exact Walks.strAscii hh I _ t
      · exact Walks.strWide hh I _ t
    exact W.done s Q E (by simpa using hi) fun h' tk hk' => hQ h' tk fun b o hb e => hk' b o (by simpa using hb) e
  · rename_i a b d
    refine el_pp it fun hd hk hi => ?_; try clear it
    subst hd
    have key : Builtin.Range.rangeSize a b 1 - k ≤ 0 := by
      rw [if_pos rfl] at hv
      simp only [Option.some.injEq] at hv
      split at hv
      · cases hv
      · rw [rangeSize_one]; split <;> (first | lia | omega)
    exact wpAny_pyNext_range_end hh hi key fun h' e2 => hQ h' s.toks fun b o hb e => e2 b o hb e
  · cases hv
end
end Mine
end

section
/-! frames: stores, statements -/
namespace Mine
open PySem PySem.W PyProof.Rows
set_option maxRecDepth 100000

noncomputable def ow (env : Env) : List Addr := env.locals :: env.cells.map (·.2)

section
variable {c : Cf} {F X : List Addr} {mu mu' : Mu} {H : Hp} {h h' : Heap}

theorem St.poke (S : St c F mu H h) {a : Addr} (ho : ¬ Own mu a) (hb : c.bs.get? a = none) (k : ∀ b o, b ≠ a → h.get? b = some o → h'.get? b = some o) (hf : a ∈ F → ∃ o es ep, h'.get? a = some o ∧ o.data = .dict es ep) (nf : ∀ o, h.get? a = some o → ¬ Fixed o) :
    St c F mu H h' := by
  have fx : ∀ b o, h.get? b = some o → Fixed o → h'.get? b = some o := fun b o e f => k b o (fun q => nf o (q ▸ e) f) e
  refine ⟨S.mods, fun b o e => k b o (fun q => by rw [q, hb] at e; cases e) (S.stays b o e), S.len, fun i l o e1 e2 => ?_, S.apart, S.newB, S.notF, fun b q => ?_⟩
  · have x := S.objs i l o e1 e2
    have O := own_of_get e1
    refine el_xp (x.notFixed l.a (.inl rfl)) fun oa ha _ => ?_
    refine el_xp (x.notFixed l.d (.inr rfl)) fun od hd _ => ?_
    exact x.mono fx (fun _ _ e => e) ((k _ _ (fun q => ho (q ▸ O.1)) ha).trans ha.symm) ((k _ _ (fun q => ho (q ▸ O.2)) hd).trans hd.symm)
  · refine el_pxxxp (S.frs b q) fun q1 o es ep e d => ?_
    by_cases hba : b = a
    · subst hba; exact ⟨q1, hf q⟩
    · exact in_pxxxp q1 o es ep (k b o hba e) d

theorem Go.poke {a : Addr} (ha : a ∈ X) (k : ∀ b o, b ≠ a → h.get? b = some o → h'.get? b = some o) (al : ∃ o, h'.get? a = some o) : Go F X mu h mu h' :=
  ⟨fun _ _ e => e, fun b o e _ _ hx => k b o (fun q => hx (q ▸ ha)) e, fun b o e _ hx => ⟨o.slots, k b o (fun q => hx (q ▸ ha)) e⟩, fun _ x => .inl x, fun b o e => by
    by_cases q : b = a
    · subst q; exact al
    · exact in_x o (k b o q e)⟩

theorem Go.drop {I : Addr} {h₀ : Heap} {mu₀ : Mu} (g : Go F (I :: X) mu₀ h₀ mu h) (n : h₀.get? I = none) (k : ∀ b o, b ≠ I → h.get? b = some o → h'.get? b = some o) : Go F X mu₀ h₀ mu h' := by
  refine ⟨g.ext, fun b o e no nf nx => ?_, fun b o e nf nx => ?_, g.fresh, fun b o e => ?_⟩
  · have hI : b ≠ I := fun q => by rw [q, n] at e; cases e
    exact k b o hI (g.keep b o e no nf (fun q => by rcases List.mem_cons.mp q with q | q <;> contradiction))
  · have hI : b ≠ I := fun q => by rw [q, n] at e; cases e
    refine el_x (g.keepF b o e nf (fun q => by rcases List.mem_cons.mp q with q | q <;> contradiction)) fun sl e' => ?_
    exact in_x sl (k b _ hI e')
  · have hI : b ≠ I := fun q => by rw [q, n] at e; cases e
    refine el_x (g.alive b o e) fun o' e' => ?_
    exact in_x o' (k b o' hI e')

theorem St.fixedX (S : St c F mu H h) (g : Go F X mu h mu' h') (nx : ∀ b ∈ X, ∀ o, h.get? b = some o → ¬ Fixed o) (b : Addr) (o : Obj) (e : h.get? b = some o) (f : Fixed o) : h'.get? b = some o := by
  refine g.keep b o e (fun z => ?_) (fun z => ?_) (fun z => nx b z o e f)
  · refine el_xp (S.ownAt z) fun ob h1 h2 => ?_
    rw [e] at h1; cases h1; exact h2 f
  · refine el_pxxxp (S.frs b z) fun _ o' es ep h1 h2 => ?_
    rw [e] at h1; cases h1
    rcases f with ⟨_, vs, n, q⟩ | ⟨_, vs, q⟩ <;> rw [h2] at q <;> cases q
end

theorem cell_notFixed {h : Heap} {a : Addr} {v : Option Value} (x : h.IsCell a v) : ∀ o, h.get? a = some o → ¬ Fixed o := by
  refine el_xp x fun o e d => ?_; try clear x
  intro o' e' f
  rw [e] at e'; cases e'
  rcases f with ⟨_, vs, n, q⟩ | ⟨_, vs, q⟩ <;> rw [d] at q <;> cases q
theorem ns_notFixed {h : Heap} {a : Addr} {m : Str → Option Value} (x : h.Ns a m) : ∀ o, h.get? a = some o → ¬ Fixed o := by
  refine el_xxxpp x fun o es ep e d _ => ?_; try clear x
  intro o' e' f
  rw [e] at e'; cases e'
  rcases f with ⟨_, vs, n, q⟩ | ⟨_, vs, q⟩ <;> rw [d] at q <;> cases q

section
variable {M : Model} {c : Cf} {F : List Addr} {A : Around} {mu : Mu} {s : Shared} {H : Hp} {E : Value → Shared → Prop} {ns : List String} {env : Env} {g : Gm}

theorem FrR.own_notFixed {h : Heap} (R : FrR c F ns env g mu h) : ∀ b ∈ ow env, ∀ o, h.get? b = some o → ¬ Fixed o := by
  intro b hb
  rcases List.mem_cons.mp hb with rfl | hb
  · refine el_xp (R.loc) fun m h1 _ => ?_; exact ns_notFixed h1
  · refine el_xp (List.mem_map.mp hb) fun tq0 hm tqz => ?_; obtain ⟨n, a⟩ := tq0; subst tqz
    refine el_ppppx (R.outs n a hm) fun _ _ _ _ v x => ?_
    exact cell_notFixed x

theorem get_set {g : Gm} {i j : Nat} {v : V} (w : Option V) (e : (g.set i w)[j]? = some (some v)) : (i = j ∧ w = some v) ∨ (i ≠ j ∧ g[j]? = some (some v)) := by
  by_cases h : i = j
  · subst h
    rw [List.getElem?_set] at e
    simp at e
    exact .inl ⟨rfl, e.2⟩
  · rw [List.getElem?_set_ne h] at e; exact .inr ⟨h, e⟩

theorem nodup_ix {ns : List String} (nd : ns.Nodup) {i j : Nat} {n : String} (h1 : ns[i]? = some n) (h2 : ns[j]? = some n) : i = j := by
  exact (List.getElem?_inj (List.getElem?_eq_some_iff.mp h1).1 nd).mp (h1.trans h2.symm)

theorem bind_snd {i : Nat} {n : String} {v : V} {x : Value} {Q : Unit → Shared → Prop} (S : St c F mu H s.heap) (R : FrR c F ns env g mu s.heap) (nd : ns.Nodup) (e1 : ns[i]? = some n)
    (hk : env.kindOf (Str.ofString n) = some .local ∨ env.kindOf (Str.ofString n) = some .cell) (hv : VR c.bs mu s.heap v x)
    (hQ : ∀ h' tk, St c F mu H h' → Go F (ow env) mu s.heap mu h' → FrR c F ns env (g.set i (some v)) mu h' → Q () { s with heap := h', toks := tk }) : wpAny M A (storeName env (Str.ofString n) x) Q E s := by
  have hp : (env.scope.kind == .class || (env.scope.kind == .module && env.locals != env.globals)) = false := by rw [R.kind]; rfl
  rcases hk with hk | hk
  · refine el_xp (R.loc) fun m h1 h2 => ?_
    refine wpAny_storeName_local hk h1 (fun h' e2 e3 => ?_) hp
    have k : ∀ b o, b ≠ env.locals → s.heap.get? b = some o → h'.get? b = some o := fun b o hb e => e3.extBut b o hb e
    have nf := ns_notFixed h1
    have fx : ∀ b o, s.heap.get? b = some o → Fixed o → h'.get? b = some o := fun b o e f => k b o (fun q => nf o (q ▸ e) f) e
    refine el_xxxpp (id e2) fun oL es ep q1 q2 q3 => ?_
    refine hQ h' _ (S.poke R.out R.new k (fun _ => ⟨oL, es, ep, q1, q2⟩) nf) (Go.poke (List.mem_cons_self ..) k ⟨oL, q1⟩) ?_
    refine ⟨R.kind, R.glob, R.blt, by rw [List.length_set]; exact R.len, ⟨_, e2, fun j n' v' f1 f2 f3 => ?_⟩, fun j n' v' f1 f2 f3 => ?_, R.out, fun n' a f1 => ?_, R.inj, R.has, ⟨oL, q1⟩, R.new⟩
    · by_cases hn : n' = n
      · subst hn
        rcases get_set _ f2 with ⟨_, w⟩ | ⟨w, _⟩
        · cases w; exact in_xp x (by simp) (hv.mono fx fun _ _ e => e)
        · exact absurd (nodup_ix nd e1 f1) w
      · rcases get_set _ f2 with ⟨w, _⟩ | ⟨w, f2⟩
        · subst w; rw [e1] at f1; cases f1; exact absurd rfl hn
        · refine el_xp (h2 j n' v' f1 f2 f3) fun y a b => ?_
          refine in_xp y ?_ (b.mono fx fun _ _ e => e)
          rw [if_neg (fun q => hn (ofString_inj q))]; exact a
    · rcases get_set _ f2 with ⟨w, _⟩ | ⟨w, f2⟩
      · subst w; rw [e1] at f1; cases f1; rw [hk] at f3; rcases f3 with f3 | f3 <;> cases f3
      · refine el_xxpp (R.cel j n' v' f1 f2 f3) fun a y b1 b2 b3 => ?_
        refine el_ppp (R.outs _ a (PySem.mem_of_lookup b1)) fun _ _ o3 _ => ?_
        exact in_xxpp a y b1 (b2.sameBut e3 o3) (b3.mono fx fun _ _ e => e)
    · refine el_ppppx (R.outs n' a f1) fun o1 o2 o3 o4 v' y => ?_
      exact in_ppppx o1 o2 o3 o4 v' (y.sameBut e3 o3)
  · refine el_x (Option.isSome_iff_exists.mp (R.has _ hk)) fun a ha => ?_
    refine el_ppppx (R.outs _ a (PySem.mem_of_lookup ha)) fun o1 o2 o3 o4 v₀ y => ?_
    refine wpAny_storeName_cell R.kind hk ha y fun h' e2 e3 => ?_
    have k : ∀ b o, b ≠ a → s.heap.get? b = some o → h'.get? b = some o := fun b o hb e => e3.extBut b o hb e
    have nf := cell_notFixed y
    have fx : ∀ b o, s.heap.get? b = some o → Fixed o → h'.get? b = some o := fun b o e f => k b o (fun q => nf o (q ▸ e) f) e
    refine el_xp (id e2) fun oc q1 q2 => ?_
    refine el_x (R.cls) fun oL hL => ?_
    have hs : ({ s with heap := h' } : Shared) = { s with heap := h', toks := s.toks } := rfl
    refine hQ h' s.toks (S.poke o1 o4 k (fun q => absurd q o2) nf) (Go.poke (List.mem_cons_of_mem _ (List.mem_map.mpr ⟨_, PySem.mem_of_lookup ha, rfl⟩)) k ⟨oc, q1⟩) ?_
    refine el_xp (R.loc) fun m h1 h2 => ?_
    refine ⟨R.kind, R.glob, R.blt, by rw [List.length_set]; exact R.len, ⟨m, h1.sameBut e3 (Ne.symm o3), fun j n' v' f1 f2 f3 => ?_⟩, fun j n' v' f1 f2 f3 => ?_, R.out, fun n' b f1 => ?_, R.inj, R.has, ⟨oL, k _ _ (Ne.symm o3) hL⟩, R.new⟩
    · rcases get_set _ f2 with ⟨w, _⟩ | ⟨w, f2⟩
      · subst w; rw [e1] at f1; cases f1; rw [hk] at f3; cases f3
      · refine el_xp (h2 j n' v' f1 f2 f3) fun y a b => ?_
        exact in_xp y a (b.mono fx fun _ _ e => e)
    · by_cases hn : n' = n
      · subst hn
        rcases get_set _ f2 with ⟨_, w⟩ | ⟨w, _⟩
        · cases w; exact in_xxpp a x ha e2 (hv.mono fx fun _ _ e => e)
        · exact absurd (nodup_ix nd e1 f1) w
      · rcases get_set _ f2 with ⟨w, _⟩ | ⟨w, f2⟩
        · subst w; rw [e1] at f1; cases f1; exact absurd rfl hn
        · refine el_xxpp (R.cel j n' v' f1 f2 f3) fun a' y' b1 b2 b3 => ?_
          have : a' ≠ a := fun q => hn (ofString_inj (name_of_addr R.inj (PySem.mem_of_lookup (q ▸ b1)) (PySem.mem_of_lookup ha)))
          exact in_xxpp a' y' b1 (b2.sameBut e3 this) (b3.mono fx fun _ _ e => e)
    · refine el_ppppx (R.outs n' b f1) fun p1 p2 p3 p4 v' y' => ?_
      refine ⟨p1, p2, p3, p4, ?_⟩
      by_cases q : b = a
      · subst q; exact in_x _ e2
      · exact in_x v' (y'.sameBut e3 q)

theorem FrR.goX {mu' : Mu} {X : List Addr} {h h' : Heap} (S : St c F mu H h) (G : Go F X mu h mu' h') (nx : ∀ b ∈ X, b ∉ ow env) (nf : ∀ b ∈ X, ∀ o, h.get? b = some o → ¬ Fixed o) (x : FrR c F ns env g mu h) : FrR c F ns env g mu' h' := by
  have fx := S.fixedX G nf
  have notNew : ∀ a o, h.get? a = some o → ¬ Own mu a → ¬ Own mu' a := fun a o e n z => (G.fresh a z).elim n fun q => by rw [e] at q; cases q
  have kc : ∀ a v, ¬ Own mu a → a ∉ F → a ∉ X → h.IsCell a v → h'.IsCell a v := fun a v n f z ⟨o, e, d⟩ => ⟨o, G.keep a o e n f z, d⟩
  refine el_x (x.cls) fun oL hL => ?_
  have nL : env.locals ∉ X := fun q => nx _ q (List.mem_cons_self ..)
  have kL : ∀ o, h.get? env.locals = some o → ∃ sl, h'.get? env.locals = some { o with slots := sl } := fun o e => by
    by_cases f : env.locals ∈ F
    · exact G.keepF _ o e f nL
    · exact in_x o.slots (G.keep _ o e x.out f nL)
  have nC : ∀ n a, (n, a) ∈ env.cells → a ∉ X := fun n a hm q => nx _ q (List.mem_cons_of_mem _ (List.mem_map.mpr ⟨_, hm, rfl⟩))
  refine ⟨x.kind, x.glob, x.blt, x.len, ?_, fun i n v e1 e2 e3 => ?_, notNew _ _ hL x.out, fun n a e => ?_, x.inj, x.has, let ⟨_, e⟩ := kL _ hL; ⟨_, e⟩, x.new⟩
  · refine el_xp (x.loc) fun m h1 h2 => ?_
    refine in_xp m (Ns.slots h1 kL) (fun i n v e1 e2 e3 => ?_)
    refine el_xp (h2 i n v e1 e2 e3) fun y a b => ?_
    exact in_xp y a (b.mono fx G.ext)
  · refine el_xxpp (x.cel i n v e1 e2 e3) fun a y h1 h2 h3 => ?_
    refine el_pp (x.outs _ a (PySem.mem_of_lookup h1)) fun o1 o2 _ => ?_
    exact in_xxpp a y h1 (kc _ _ o1 o2 (nC _ _ (PySem.mem_of_lookup h1)) h2) (h3.mono fx G.ext)
  · refine el_ppppxxp (x.outs n a e) fun o1 o2 o3 o4 v o e1 e2 => ?_
    exact in_ppppx (notNew _ _ e1 o1) o2 o3 o4 v (kc _ _ o1 o2 (nC _ _ e) ⟨o, e1, e2⟩)
end
end Mine
end

section
/-! exceptions in flight: the frames that they pass are noted -/
namespace Mine
open PySem PySem.W PyProof.Rows
set_option maxRecDepth 100000

structure Frames (A : Around) (F : List Addr) (env : Env) : Prop where
  at_ : ∃ outer, A.frames = some (env :: outer) ∧ ∀ e ∈ env :: outer, e.scope.kind ≠ .module ∧ ∃ b, e.frame = some b ∧ b ∈ F

end Mine
end

section
/-! statements: what they give, how they are put together -/
namespace Mine
open PySem PySem.W PyProof.Rows
set_option maxRecDepth 100000

inductive QS (c : Cf) (F : List Addr) (ns : List String) (env : Env) (mu : Mu) (s : Shared) (r : RS) (f : Flow) (s' : Shared) : Prop
  | mk (mu' : Mu) (G : Go F (ow env) mu s.heap mu' s'.heap) (eg : s'.gens = s.gens) (eo : s'.os = s.os) (h : (∃ g' H', r = .nx g' H' ∧ f = .next ∧ St c F mu' H' s'.heap ∧ FrR c F ns env g' mu' s'.heap) ∨ (∃ v H' x, r = .ret v H' ∧ f = .ret x ∧ St c F mu' H' s'.heap ∧ VR c.bs mu' s'.heap v x))
noncomputable def SndS (M : Model) (c : Cf) (F : List Addr) (A : Around) (ns : List String) (env : Env) (mu : Mu) (s : Shared) (t : Sem Flow) (r : RS) : Prop :=
  r ≠ .bad → wpAny M A t (QS c F ns env mu s r) NoE s

section
variable {M : Model} {c : Cf} {F : List Addr} {A : Around} {mu mu1 : Mu} {s s1 : Shared} {H : Hp} {E : Value → Shared → Prop} {ns : List String} {env : Env} {g : Gm} {α β : Type}

theorem QS.back {r : RS} {f : Flow} {s' : Shared} (x : QS c F ns env mu1 s1 r f s') (G : Go F (ow env) mu s.heap mu1 s1.heap) (eg : s1.gens = s.gens) (eo : s1.os = s.os) : QS c F ns env mu s r f s' := by
  obtain ⟨mu', G', e1, e2, x⟩ := x
  exact ⟨mu', G.trans G', e1.trans eg, e2.trans eo, x⟩
theorem SndS.ofE {t : Sem β} {f : β → Sem Flow} {r : R α} {k : α → Hp → RS} {Rl : α → β → Mu → Heap → Prop} (S : St c F mu H s.heap) (R : FrR c F ns env g mu s.heap)
    (h1 : Snd M c F A mu s t r Rl)
    (h2 : ∀ a b H' mu' s', r = .ok a H' → St c F mu' H' s'.heap → FrR c F ns env g mu' s'.heap → Go F [] mu s.heap mu' s'.heap → Rl a b mu' s'.heap → SndS M c F A ns env mu' s' (f b) (k a H')) :
    SndS M c F A ns env mu s (t >>= f) (r.bindS g k) := by
  intro hb
  have hr : r ≠ .bad := fun e => hb (by rw [e]; rfl)
  refine wpAny_bind (wpAny_mono (h1 hr) (fun b s' x => ?_) fun e s' x => ?_)
  · obtain ⟨a, H', mu', e, S', G, Q, eg, eo⟩ := x
    subst e
    exact wpAny_mono (h2 a b H' mu' s' rfl S' (R.go S G) G Q hb) (fun _ _ y => y.back G.wide0 eg eo) fun _ _ y => y.elim
  · exact x.elim


theorem SndS.cons {st : Stmt} {rest : List Stmt} {r : RS} {k : Gm → Hp → RS} (h1 : SndS M c F A ns env mu s (exec st env) r)
    (h2 : ∀ g' H' mu' s', r = .nx g' H' → St c F mu' H' s'.heap → FrR c F ns env g' mu' s'.heap → Go F (ow env) mu s.heap mu' s'.heap → SndS M c F A ns env mu' s' (execs rest env) (k g' H')) :
    SndS M c F A ns env mu s (execs (st :: rest) env) (match r with | .nx g h => k g h | o => o) := by
  intro hb
  have hr : r ≠ .bad := fun e => hb (by rw [e])
  refine wpAny_execs_cons (wpAny_mono (h1 hr) (fun f s' x => ?_) fun e s' x => ?_)
  · obtain ⟨mu', G, e1, e2, x⟩ := x
    rcases x with ⟨g', H', rfl, rfl, S', R'⟩ | ⟨v, H', y, rfl, rfl, S', V⟩
    · exact wpAny_mono (h2 g' H' mu' s' rfl S' R' G hb) (fun _ _ y => y.back G e1 e2) fun _ _ y => y.elim
    · exact ⟨mu', G, e1, e2, .inr ⟨v, H', y, rfl, rfl, S', V⟩⟩
  · exact x.elim

theorem QS.next {H' : Hp} {mu' : Mu} {s' : Shared} {g' : Gm} (S : St c F mu' H' s'.heap) (R : FrR c F ns env g' mu' s'.heap) (G : Go F (ow env) mu s.heap mu' s'.heap) (eg : s'.gens = s.gens) (eo : s'.os = s.os) :
    QS c F ns env mu s (.nx g' H') .next s' := ⟨mu', G, eg, eo, .inl ⟨g', H', rfl, rfl, S, R⟩⟩

theorem ret_sndS {e : Expr} {pos : Pos} {r : R V} (S : St c F mu H s.heap) (R : FrR c F ns env g mu s.heap) (h : Snd M c F A mu s (eval e env) r (VRl c)) :
    SndS M c F A ns env mu s (exec (.Return (some e) pos) env) (r.bindS g fun v h => .ret v h) := by
  intro hb
  have hr : r ≠ .bad := fun e => hb (by rw [e]; rfl)
  refine wpAny_Return_some (wpAny_mono (h hr) (fun x s' q => ?_) fun e s' q => q.elim)
  obtain ⟨a, H', mu', rfl, S', G, V, eg, eo⟩ := q
  exact ⟨mu', G.wide0, eg, eo, .inr ⟨a, H', x, rfl, rfl, S', V⟩⟩
theorem ret0_sndS {pos : Pos} (S : St c F mu H s.heap) : SndS M c F A ns env mu s (exec (.Return none pos) env) (.ret .none H) :=
  fun _ => wpAny_Return_none ⟨mu, Go.refl .., rfl, rfl, .inr ⟨.none, H, .none, rfl, rfl, S, by exact rfl⟩⟩
theorem pass_sndS {pos : Pos} (S : St c F mu H s.heap) (R : FrR c F ns env g mu s.heap) : SndS M c F A ns env mu s (exec (.Pass pos) env) (.nx g H) :=
  fun _ => wpAny_Pass (QS.next S R (Go.refl ..) rfl rfl)

theorem asg_sndS {i : Nat} {n : String} {e : Expr} {pos pos' : Pos} {r : R V} (S : St c F mu H s.heap) (R : FrR c F ns env g mu s.heap) (nd : ns.Nodup) (e1 : ns[i]? = some n)
    (hk : env.kindOf (Str.ofString n) = some .local ∨ env.kindOf (Str.ofString n) = some .cell) (hs : swapsWith e (some (.Name (Str.ofString n) pos')) pos.line env = pure false)
    (h : Snd M c F A mu s (eval e env) r (VRl c)) : SndS M c F A ns env mu s (exec (.Assign [.Name (Str.ofString n) pos'] e pos) env) (r.bindS g fun v h => .nx (g.set i (some v)) h) := by
  intro hb
  have hr : r ≠ .bad := fun e => hb (by rw [e]; rfl)
  refine wpAny_Assign_Name (wpAny_mono (h hr) (fun x s' q => ?_) fun e s' q => q.elim) hs
  obtain ⟨a, H', mu', rfl, S', G, V, eg, eo⟩ := q
  exact bind_snd S' (R.go S G) nd e1 hk V fun h' tk S2 G2 R2 => QS.next S2 R2 (G.wide0.trans G2) eg eo

theorem asgA_sndS {o e : Expr} {f : Str} {pos pos' : Pos} {r : R V} {k : V → Hp → R V} {k2 : V → V → Hp → R V} (S : St c F mu H s.heap) (R : FrR c F ns env g mu s.heap)
    (hs : swapsWith e (some (.Attribute o f pos')) pos.line env = pure false)
    (h : Snd M c F A mu s (eval e env) r (VRl c))
    (h2 : ∀ v x H' mu' s', r = .ok v H' → St c F mu' H' s'.heap → FrR c F ns env g mu' s'.heap → VR c.bs mu' s'.heap v x → Snd M c F A mu' s' (eval o env) (k v H') (VRl c))
    (h3 : ∀ v x a y H' mu' s', St c F mu' H' s'.heap → VR c.bs mu' s'.heap v x → VR c.bs mu' s'.heap a y → Snd M c F A mu' s' (PySem.setAttr y f x) (k2 v a H') (fun _ (_ : Unit) _ _ => True)) :
    SndS M c F A ns env mu s (exec (.Assign [.Attribute o f pos'] e pos) env) (r.bindS g fun v h => (k v h).bindS g fun a h => (k2 v a h).bindS g fun _ h => .nx g h) := by
  rw [plainObj_exec_Assign_Attribute _ _ _ _ _ hs]
  refine fun hb => wpAny_bind (wpAny_standAt ?_)
  refine SndS.ofE S R h (fun v x H1 mu1 s1 q1 S1 R1 G1 V1 => ?_) hb
  intro hb1
  rw [arm_assign_Attribute]
  have hr : k v H1 ≠ .bad := fun e => hb1 (by rw [e]; rfl)
  refine wpAny_bind (wpAny_bind (wpAny_holding (wpAny_mono (h2 v x H1 mu1 s1 q1 S1 R1 V1 hr) (fun y s2 q => ?_) fun e s' q => q.elim)))
  obtain ⟨a, H2, mu2, e2, S2, G2, V2, eg2, eo2⟩ := q
  rw [e2] at hb1 ⊢
  have hr2 : k2 v a H2 ≠ .bad := fun e => hb1 (by show (k2 v a H2).bindS g _ = _; rw [e]; rfl)
  refine wpAny_bind (wpAny_standAt (wpAny_bind (wpAny_holding (wpAny_mono (h3 v x a y H2 mu2 s2 S2 (V1.go S1 G2) V2 hr2) (fun _ s3 q => ?_) fun e s' q => q.elim))))
  obtain ⟨_, H3, mu3, e3, S3, G3, _, eg3, eo3⟩ := q
  refine wpAny_release (wpAny_pure ?_)
  show QS c F ns env mu1 s1 ((k2 v a H2).bindS g _) _ _
  rw [e3]
  exact QS.next S3 ((R1.go S1 G2).go S2 G3) (G2.trans G3).wide0 (eg3.trans eg2) (eo3.trans eo2)

theorem asgI_sndS {o i e : Expr} {pos pos' : Pos} {r : R V} {k : V → Hp → R V} {k2 : V → V → Hp → R V} {k3 : V → V → V → Hp → R V} (S : St c F mu H s.heap) (R : FrR c F ns env g mu s.heap)
    (hs : swapsWith e (some (.Subscript o i pos')) pos.line env = pure false)
    (h : Snd M c F A mu s (eval e env) r (VRl c))
    (h2 : ∀ v x H' mu' s', r = .ok v H' → St c F mu' H' s'.heap → FrR c F ns env g mu' s'.heap → VR c.bs mu' s'.heap v x → Snd M c F A mu' s' (eval o env) (k v H') (VRl c))
    (h3 : ∀ v x a y H' mu' s', St c F mu' H' s'.heap → FrR c F ns env g mu' s'.heap → VR c.bs mu' s'.heap v x → VR c.bs mu' s'.heap a y → Snd M c F A mu' s' (eval i env) (k2 v a H') (VRl c))
    (h4 : ∀ v x a y b z H' mu' s', St c F mu' H' s'.heap → VR c.bs mu' s'.heap v x → VR c.bs mu' s'.heap a y → VR c.bs mu' s'.heap b z → Snd M c F A mu' s' (PySem.setItem y z x) (k3 v a b H') (fun _ (_ : Unit) _ _ => True)) :
    SndS M c F A ns env mu s (exec (.Assign [.Subscript o i pos'] e pos) env) (r.bindS g fun v h => (k v h).bindS g fun a h => (k2 v a h).bindS g fun b h => (k3 v a b h).bindS g fun _ h => .nx g h) := by
  intro hb
  have hr : r ≠ .bad := fun e => hb (by rw [e]; rfl)
  refine wpAny_Assign_Subscript (wpAny_mono (h hr) (fun x s1 q => ?_) fun e s' q => q.elim) hs
  obtain ⟨v, H1, mu1, rfl, S1, G1, V1, eg1, eo1⟩ := q
  have R1 := R.go S G1
  have hr1 : k v H1 ≠ .bad := fun e => hb (by show (k v H1).bindS g _ = _; rw [e]; rfl)
  refine wpAny_mono (h2 v x H1 mu1 s1 rfl S1 R1 V1 hr1) (fun y s2 q => ?_) fun e s' q => q.elim
  obtain ⟨a, H2, mu2, e2, S2, G2, V2, eg2, eo2⟩ := q
  replace hb : (k v H1).bindS g (fun a h => (k2 v a h).bindS g fun b h => (k3 v a b h).bindS g fun _ h => .nx g h) ≠ .bad := hb
  show wpAny M A _ (fun _ => _) _ s2
  have R2 := R1.go S1 G2
  have G12 := G1.trans G2
  have eg12 := eg2.trans eg1
  have eo12 := eo2.trans eo1
  rw [e2] at hb
  have hr2 : k2 v a H2 ≠ .bad := fun e => hb (by show (k2 v a H2).bindS g _ = _; rw [e]; rfl)
  have fin : ∀ r', (k2 v a H2).bindS g (fun b h => (k3 v a b h).bindS g fun _ h => .nx g h) = r' → (Mine.R.ok v H1).bindS g (fun v h => (k v h).bindS g fun a h => (k2 v a h).bindS g fun b h => (k3 v a b h).bindS g fun _ h => .nx g h) = r' := fun r' e => by
    show (k v H1).bindS g _ = _; rw [e2]; exact e
  refine wpAny_mono (h3 v x a y H2 mu2 s2 S2 R2 (V1.go S1 G2) V2 hr2) (fun z s3 q => ?_) fun e s' q => q.elim
  obtain ⟨b, H3, mu3, e3, S3, G3, V3, eg3, eo3⟩ := q
  replace hb : (k2 v a H2).bindS g (fun b h => (k3 v a b h).bindS g fun _ h => .nx g h) ≠ .bad := hb
  rw [e3] at hb
  have hr3 : k3 v a b H3 ≠ .bad := fun e => hb (by show (k3 v a b H3).bindS g _ = _; rw [e]; rfl)
  have R3 := R2.go S2 G3
  have G13 := G12.trans G3
  have eg13 := eg3.trans eg12
  have eo13 := eo3.trans eo12
  have fin3 : ∀ r', (k3 v a b H3).bindS g (fun _ h => .nx g h) = r' → (Mine.R.ok v H1).bindS g (fun v h => (k v h).bindS g fun a h => (k2 v a h).bindS g fun b h => (k3 v a b h).bindS g fun _ h => .nx g h) = r' := fun r' e => fin _ (by rw [e3]; exact e)
  refine wpAny_mono (h4 v x a y b z H3 mu3 s3 S3 ((V1.go S1 G2).go S2 G3) (V2.go S2 G3) V3 hr3) (fun _ s4 q => ?_) fun e s' q => q.elim
  obtain ⟨_, H4, mu4, e4, S4, G4, _, eg4, eo4⟩ := q
  rw [fin3 (.nx g H4) (by rw [e4]; rfl)]
  exact QS.next S4 (R3.go S3 G4) (G13.trans G4).wide0 (eg4.trans eg13) (eo4.trans eo13)

theorem if_sndS {test : Expr} {body orelse : List Stmt} {pos : Pos} {r : R V} {k1 k2 : Hp → RS} (S : St c F mu H s.heap) (R : FrR c F ns env g mu s.heap)
    (h : Snd M c F A mu s (isTrue test env (eval test env)) r (fun v (b : Bool) _ _ => v = .bool b))
    (h1 : ∀ H' mu' s', St c F mu' H' s'.heap → FrR c F ns env g mu' s'.heap → Go F [] mu s.heap mu' s'.heap → SndS M c F A ns env mu' s' (execs body env) (k1 H'))
    (h2 : ∀ H' mu' s', St c F mu' H' s'.heap → FrR c F ns env g mu' s'.heap → Go F [] mu s.heap mu' s'.heap → SndS M c F A ns env mu' s' (execs orelse env) (k2 H')) :
    SndS M c F A ns env mu s (exec (.If test body orelse pos) env) (r.bindS g fun v h => match truth v with | some true => k1 h | some false => k2 h | .none => .bad) := by
  intro hb
  have hr : r ≠ .bad := fun e => hb (by rw [e]; rfl)
  refine wpAny_If (wpAny_mono (h hr) (fun b s' q => ?_) fun e s' q => q.elim)
  obtain ⟨v, H', mu', rfl, S', G, rfl, eg, eo⟩ := q
  cases b with
  | true => exact wpAny_mono (h1 H' mu' s' S' (R.go S G) G hb) (fun _ _ y => y.back G.wide0 eg eo) fun _ _ y => y.elim
  | false => exact wpAny_mono (h2 H' mu' s' S' (R.go S G) G hb) (fun _ _ y => y.back G.wide0 eg eo) fun _ _ y => y.elim

end

section
variable {prog : Program} {c : Cf} {F : List Addr} {A : Around} {mu mu1 : Mu} {s s1 : Shared} {H : Hp} {E : Value → Shared → Prop} {ns : List String} {env : Env} {g : Gm}
theorem expr_sndS {e : Expr} {pos : Pos} {r : R V} (S : St c F mu H s.heap) (R : FrR c F ns env g mu s.heap) (hi : interactive env = false) (hs : swapsWith e none pos.line env = pure false)
    (h : Snd (model prog c.w) c F A mu s (eval e env) r (VRl c)) : SndS (model prog c.w) c F A ns env mu s (exec (.Expr e pos) env) (r.bindS g fun _ h => .nx g h) := by
  intro hb
  have hr : r ≠ .bad := fun e => hb (by rw [e]; rfl)
  refine wpAny_Expr_any (wpAny_mono (h hr) (fun x s' q => ?_) fun e s' q => q.elim) hi hs
  obtain ⟨a, H', mu', rfl, S', G, V, eg, eo⟩ := q
  exact QS.next S' (R.go S G) G.wide0 eg eo
end
end Mine
end

section
/-! loops -/
namespace Mine
open PySem PySem.W PyProof.Rows
set_option maxRecDepth 100000

section
variable {prog : Program} {c : Cf} {F : List Addr} {A : Around} {mu mu1 : Mu} {s s1 : Shared} {H : Hp} {E : Value → Shared → Prop} {ns : List String} {env : Env} {g : Gm}

inductive WhileI (c : Cf) (F : List Addr) (ns : List String) (env : Env) (cnd : Gm → Hp → R V) (bd : Gm → Hp → RS) (rr : RS) (mu : Mu) (s : Shared) (k : Nat) (s' : Shared) : Prop
  | mk (g' : Gm) (H' : Hp) (mu' : Mu) (er : whileL cnd bd k g' H' = rr) (S : St c F mu' H' s'.heap) (R : FrR c F ns env g' mu' s'.heap) (G : Go F (ow env) mu s.heap mu' s'.heap) (eg : s'.gens = s.gens) (eo : s'.os = s.os)
theorem while_sndS {test : Expr} {body : List Stmt} {pos : Pos} {cnd : Gm → Hp → R V} {bd : Gm → Hp → RS} {n : Nat} (S : St c F mu H s.heap) (R : FrR c F ns env g mu s.heap)
    (h1 : ∀ g' H' mu' s', St c F mu' H' s'.heap → FrR c F ns env g' mu' s'.heap → Snd (model prog c.w) c F A mu' s' (isTrue test env (eval test env)) (cnd g' H') (fun v (b : Bool) _ _ => v = .bool b))
    (h2 : ∀ g' H' mu' s', St c F mu' H' s'.heap → FrR c F ns env g' mu' s'.heap → SndS (model prog c.w) c F A ns env mu' s' (execs body env) (bd g' H')) :
    SndS (model prog c.w) c F A ns env mu s (exec (.While test body [] pos) env) (whileL cnd bd n g H) := by
  intro hb
  generalize hrr : whileL cnd bd n g H = rr at hb ⊢
  refine wpAny_While (codeAny_whileLoop (WhileI c F ns env cnd bd rr mu s) ?_ n
    ⟨g, H, mu, hrr, S, R, Go.refl .., rfl, rfl⟩)
  rintro k s' ⟨g1, H1, mu1, er, S1, R1, G1, eg, eo⟩
  cases k with
  | zero => exact absurd er.symm hb
  | succ k =>
    unfold whileL at er
    have hr : cnd g1 H1 ≠ .bad := fun e => hb (by rw [← er, e]; rfl)
    refine wpAny_mono (h1 g1 H1 mu1 s' S1 R1 hr) (fun b s2 q => ?_) fun e s2 q => q.elim
    obtain ⟨v, H2, mu2, e2, S2, G2, rfl, eg2, eo2⟩ := q
    rw [e2] at er
    have R2 := R1.go S1 G2
    have G12 := G1.trans (G2.wide0 (Y := ow env))
    have eg12 := eg2.trans eg
    have eo12 := eo2.trans eo
    cases b with
    | false =>
      have er : RS.nx g1 H2 = rr := er
      subst er
      exact wpAny_execs_nil (QS.next S2 R2 G12 eg12 eo12)
    | true =>
      have er : (match bd g1 H2 with | .nx g h => whileL cnd bd k g h | r => r) = rr := er
      have hr2 : bd g1 H2 ≠ .bad := fun e => hb (by rw [← er, e])
      refine wpAny_mono (h2 g1 H2 mu2 s2 S2 R2 hr2) (fun f s3 q => ?_) fun e s3 q => q.elim
      obtain ⟨mu3, G3, eg3, eo3, q⟩ := q
      rcases q with ⟨g3, H3, e3, rfl, S3, R3⟩ | ⟨v, H3, y, e3, rfl, S3, V3⟩
      · rw [e3] at er
        exact in_xp k (Nat.lt_succ_self _) ⟨g3, H3, mu3, er, S3, R3, G12.trans G3, eg3.trans eg12, eo3.trans eo12⟩
      · rw [e3] at er
        exact ⟨mu3, G12.trans G3, eg3.trans eg12, eo3.trans eo12, .inr ⟨v, H3, y, er.symm, rfl, S3, V3⟩⟩

noncomputable def Tgt (ns : List String) (env : Env) (x : Nat) (t : Expr) : Prop := ∃ n p, t = .Name (Str.ofString n) p ∧ ns[x]? = some n ∧ (env.kindOf (Str.ofString n) = some .local ∨ env.kindOf (Str.ofString n) = some .cell)
inductive Tgts (ns : List String) (env : Env) : List Nat → List Expr → Prop
  | nil : Tgts ns env [] []
  | cons {x t xs ts} : Tgt ns env x t → Tgts ns env xs ts → Tgts ns env (x :: xs) (t :: ts)

theorem Tgts.each {xs : List Nat} {ts : List Expr} (h : Tgts ns env xs ts) : assignEach ts env = ts.map fun t => (false, assign t env) := by
  induction h with
  | nil => rfl
  | cons a _ ih =>
    refine el_xxp a fun n p tq2 _ => ?_; try clear a; subst tq2
    show (false, assign _ env) :: assignEach _ env = _
    rw [ih]; rfl
theorem Tgts.len {xs : List Nat} {ts : List Expr} (h : Tgts ns env xs ts) : xs.length = ts.length := by
  induction h with
  | nil => rfl
  | cons a _ ih => simp [ih]

theorem assigns_snd {xs : List Nat} {ts : List Expr} (nd : ns.Nodup) (h : Tgts ns env xs ts) : ∀ {g g' : Gm} {vs : List V} {cs : List Value} {s : Shared} {Q : Unit → Shared → Prop}, St c F mu H s.heap → FrR c F ns env g mu s.heap → VRs c.bs mu s.heap vs cs → bindAll xs vs g = some g' →
    (∀ h' tk, St c F mu H h' → Go F (ow env) mu s.heap mu h' → FrR c F ns env g' mu h' → Q () { s with heap := h', toks := tk }) → wpAny (model prog c.w) A (assignInOrder (ts.map fun t => assign t env) cs) Q E s := by
  induction h with
  | nil =>
    intro g g' vs cs s Q S R V e hQ
    cases vs with
    | nil => simp only [bindAll] at e; cases e; exact wpAny_pure (hQ s.heap s.toks S (Go.refl ..) R)
    | cons _ _ => simp [bindAll] at e
  | cons a _ ih =>
    intro g g' vs cs s Q S R V e hQ
    cases vs with
    | nil => simp [bindAll] at e
    | cons v vs =>
      refine el_xxpp V fun y r tq2 V1 V2 => ?_; try clear V; subst tq2
      simp only [bindAll] at e
      refine el_xxpp a fun n p tq2 e1 hk => ?_; try clear a; subst tq2
      refine wpAny_bind (wpAny_holding (wpAny_assign_Name (bind_snd S R nd e1 hk V1 fun h' tk S' G' R' => ?_)))
      exact ih (s := { s with heap := h', toks := tk }) S' R' (V2.mono (S.fixedX G' R.own_notFixed) G'.ext) e fun h'' tk'' S'' G'' R'' => hQ h'' tk'' S'' (G'.trans G'') R''

theorem bindAll_len : ∀ {xs : List Nat} {l : List V} {g g' : Gm}, bindAll xs l g = some g' → xs.length = l.length
  | [], [], _, _, _ => rfl
  | [], _ :: _, _, _, e => by simp [bindAll] at e
  | _ :: _, [], _, _, e => by simp [bindAll] at e
  | x :: xs, v :: l, g, g', e => by simp only [bindAll] at e; simp [bindAll_len e]
theorem target_snd {xs : List Nat} {t : Expr} {v : V} {x : Value} {g g' : Gm} {Q : Unit → Shared → Prop} (hh : A.handled = none) (nd : ns.Nodup) (S : St c F mu H s.heap) (R : FrR c F ns env g mu s.heap) (V0 : VR c.bs mu s.heap v x)
    (ht : (∃ k, xs = [k] ∧ Tgt ns env k t) ∨ (∃ ts n p, t = .Tuple ts n p ∧ Tgts ns env xs ts ∧ xs.length ≠ 1)) (e : bindT xs v g H = some g')
    (hQ : ∀ h' tk, St c F mu H h' → Go F (ow env) mu s.heap mu h' → FrR c F ns env g' mu h' → Q () { s with heap := h', toks := tk }) : wpAny (model prog c.w) A (assign t env x) Q E s := by
  rcases ht with ⟨k, rfl, n, p, rfl, e1, hk⟩ | ⟨ts, n, p, rfl, h, h1⟩
  · simp only [bindT] at e; cases e
    exact wpAny_assign_Name (bind_snd S R nd e1 hk V0 hQ)
  · have ex : ∃ l, v = .tup l ∧ bindAll xs l g = some g' := by
      unfold bindT at e
      split at e
      · simp at h1
      · split at e
        · exact in_xp _ rfl e
        · cases e
    refine el_xp ex fun l hv eb => ?_; try clear ex
    subst hv
    refine el_xxxxppppp V0 fun a o n' vs tq4 q1 q2 q3 q4 q5 => ?_; try clear V0; subst tq4
    have hl : xs.length = l.length := bindAll_len eb
    refine wpAny_assign_Tuple hh (items := vs) ⟨o, q1, q2, n', q3⟩ (by rw [h.each, List.length_map, ← h.len, hl, q4.size]) ?_ fun h' e1 => ?_
    · rw [h.each]
      clear hQ hl q4
      induction ts with
      | nil => rfl
      | cons t ts ih => simp
    · have k : s.heap.StaysIn h' := fun b o e => e1 b o (fun q => Nat.lt_irrefl _ (q ▸ Heap.lt_size e)) e
      have : (assignEach ts env).map (·.2) = ts.map fun t => assign t env := by rw [h.each]; simp
      rw [this]
      have G : Go F (ow env) mu s.heap mu h' := .grow k
      exact assigns_snd (s := { s with heap := h' }) nd h (S.grow k) (R.go S (.grow k)) (q4.mono (fun b o e _ => k b o e) fun _ _ e => e) eb fun h'' tk S' G' R' => hQ h'' tk S' (G.trans G') R'

theorem It.cls {I : Addr} {src : V} {k : Nat} {h : Heap} (x : It c I src k mu h) : ∃ o n, h.get? I = some o ∧ o.cls = .type n ∧ (["enumerate", "zip", "dict_itemiterator", "dict_reverseitemiterator", "odict_iterator", "itertools.zip_longest", "itertools.pairwise"].contains n) = false ∧ ∀ es ep, o.data ≠ .dict es ep := by
  unfold It at x
  split at x
  · refine el_xpxpp x fun l _ o h1 h2 h3 => ?_; try clear x
    exact in_xxppp o _ h1 h2 (by decide) (fun es ep => by rw [h3]; exact fun q => nomatch q)
  · obtain ⟨_, _, ty, t, h0, o, h1, h2, h3⟩ := x
    exact in_xxppp o ty h1 h2 (by rcases h0 with rfl | rfl <;> decide) (fun es ep => by rw [h3]; exact fun q => nomatch q)
  · exact in_xxppp _ _ x.2.2 rfl (by decide) (fun es ep q => nomatch q)
  · exact x.elim

theorem letOwned_snd {I : Addr} {src : V} {k : Nat} {t : Expr} {x : Value} {M : Model} {Q : Unit → Shared → Prop} (it : It c I src k mu s.heap) (h : Q () s) : wpAny M A (letOwnedTupleGo t (.ref I) x) Q E s := by
  obtain ⟨o, n, h1, h2, h3, _⟩ := it.cls
  have go : wpAny M A (match (Value.ref I, x) with
    | (.ref r, .ref a) => do
      let o ← load r
      match o.cls, o.data with
      | .type n, .fields vs =>
        if ["enumerate", "zip", "dict_itemiterator", "dict_reverseitemiterator", "odict_iterator", "itertools.zip_longest", "itertools.pairwise"].contains n && vs[0]? == some (rawInt a) then
          rule "for.unpacks-the-owned-tuple"
          updateField r 0 .none
      | _, _ => pure ()
    | _ => pure ()) Q E s := by
    cases x <;> try exact wpAny_pure h
    refine wpAny_bind (wpAny_load h1 ?_)
    rw [h2]
    cases o.data <;> try exact wpAny_pure h
    dsimp only
    rw [h3, Bool.false_and, if_neg (by decide)]
    exact wpAny_pure h
  unfold letOwnedTupleGo
  cases t <;> first | exact wpAny_pure h | exact go

theorem Go.notOwn {X : List Addr} {h h' : Heap} {mu' : Mu} (G : Go F X mu h mu' h') {I : Addr} (n : ¬ Own mu I) {o : Obj} (e : h.get? I = some o) : ¬ Own mu' I := fun q => (G.fresh I q).elim n fun z => by rw [e] at z; cases z

theorem FrR.poked {I : Addr} {h h' : Heap} (R : FrR c F ns env g mu h) (S : St c F mu H h) (IO : ¬ Own mu I) (IF : I ∉ F) (Iow : I ∉ ow env) (k : ∀ b o, b ≠ I → h.get? b = some o → h'.get? b = some o) (nf : ∀ o, h.get? I = some o → ¬ Fixed o) : FrR c F ns env g mu h' := by
  have fx : ∀ b o, h.get? b = some o → Fixed o → h'.get? b = some o := fun b o e f => k b o (fun q => nf o (q ▸ e) f) e
  have nL : env.locals ≠ I := fun q => Iow (q ▸ List.mem_cons_self ..)
  have nC : ∀ n a, (n, a) ∈ env.cells → a ≠ I := fun n a hm q => Iow (q ▸ List.mem_cons_of_mem _ (List.mem_map.mpr ⟨_, hm, rfl⟩))
  have kc : ∀ a v, a ≠ I → h.IsCell a v → h'.IsCell a v := fun a v z ⟨o, e, d⟩ => ⟨o, k a o z e, d⟩
  refine el_x (R.cls) fun oL hL => ?_
  refine el_xp (R.loc) fun m tq1 h2 => ?_; obtain ⟨o, es, ep, q1, q2⟩ := tq1
  refine ⟨R.kind, R.glob, R.blt, R.len, ⟨m, ⟨o, es, ep, k _ _ nL q1, q2⟩, fun i n v e1 e2 e3 => ?_⟩, fun i n v e1 e2 e3 => ?_, R.out, fun n a e => ?_, R.inj, R.has, ⟨oL, k _ _ nL hL⟩, R.new⟩
  · refine el_xp (h2 i n v e1 e2 e3) fun y a b => ?_
    exact in_xp y a (b.mono fx fun _ _ e => e)
  · refine el_xxpp (R.cel i n v e1 e2 e3) fun a y h1 h2 h3 => ?_
    exact in_xxpp a y h1 (kc _ _ (nC _ _ (PySem.mem_of_lookup h1)) h2) (h3.mono fx fun _ _ e => e)
  · refine el_ppppx (R.outs n a e) fun o1 o2 o3 o4 v y => ?_
    exact in_ppppx o1 o2 o3 o4 v (kc _ _ (nC _ _ e) y)

inductive ForI (c : Cf) (F : List Addr) (ns : List String) (env : Env) (bd : Gm → Hp → RS) (xs : List Nat) (src : V) (rr : RS) (I : Addr) (mu : Mu) (s : Shared) (k : Nat) (s' : Shared) : Prop
  | mk (j : Nat) (g' : Gm) (H' : Hp) (mu' : Mu) (er : forL bd xs src k j g' H' = rr) (S : St c F mu' H' s'.heap) (R : FrR c F ns env g' mu' s'.heap) (it : It c I src j mu' s'.heap) (IO : ¬ Own mu' I) (G : Go F (I :: ow env) mu s.heap mu' s'.heap) (eg : s'.gens = s.gens) (eo : s'.os = s.os)
theorem for_sndS {target iter : Expr} {body : List Stmt} {pos : Pos} {xs : List Nat} {r : Mine.R V} {bd : Gm → Hp → RS} {n : Nat} (hh : A.handled = none) (nd : ns.Nodup) (S : St c F mu H s.heap) (R : FrR c F ns env g mu s.heap)
    (hs : ∀ x, foldedSetIterable iter env x = pure x) (ht : (∃ k, xs = [k] ∧ Tgt ns env k target) ∨ (∃ ts n p, target = .Tuple ts n p ∧ Tgts ns env xs ts ∧ xs.length ≠ 1))
    (h1 : Snd (model prog c.w) c F A mu s (eval iter env) r (VRl c))
    (h2 : ∀ g' H' mu' s', St c F mu' H' s'.heap → FrR c F ns env g' mu' s'.heap → SndS (model prog c.w) c F A ns env mu' s' (execs body env) (bd g' H')) :
    SndS (model prog c.w) c F A ns env mu s (exec (.For target iter body [] pos) env) (r.bindS g fun src h => forL bd xs src n 0 g h) := by
  intro hb
  have hr : r ≠ .bad := fun e => hb (by rw [e]; rfl)
  refine wpAny_For (wpAny_mono (h1 hr) (fun x s1 q => ?_) fun e s2 q => q.elim) hs
  obtain ⟨src, H1, mu1, rfl, S1, G1, V1, eg1, eo1⟩ := q
  have R1 := R.go S G1
  replace hb : forL bd xs src n 0 g H1 ≠ .bad := hb
  show wpAny (model prog c.w) A (pyIter x) (fun it s₂ => codeAny _ _ _ (fun r s' => match r with | .ok f => QS c F ns env mu s (forL bd xs src n 0 g H1) f s' | .error e => cameBackBy _ A env NoE e s') s₂) _ s1
  generalize hrr : forL bd xs src n 0 g H1 = rr at hb ⊢
  have n0 : nth src H1 0 ≠ none := fun e => hb (by
    rw [← hrr]
    cases n with
    | zero => rfl
    | succ n => unfold forL; rw [e])
  refine pyIter_snd S1 V1 n0 fun o it0 => ?_
  have fI : s1.heap.get? s1.heap.objs.size = none := get_push_fresh _
  generalize s1.heap.objs.size = I at it0 fI ⊢
  have fI0 : s.heap.get? I = none := G1.gone fI
  have IF : I ∉ F := fun q => by refine el_pxxxp (S1.frs I q) fun _ o _ _ e _ => ?_; rw [fI] at e; cases e
  have Iow : I ∉ ow env := fun q => by
    rcases List.mem_cons.mp q with q | q
    · refine el_x (R1.cls) fun o e => ?_; rw [← q, fI] at e; cases e
    · refine el_xp (List.mem_map.mp q) fun tq0 hm tqz => ?_; obtain ⟨nm, a⟩ := tq0; subst tqz
      refine el_ppppxxp (R1.outs nm a hm) fun _ _ _ _ v o e _ => ?_
      rw [fI] at e; cases e
  have IO1 : ¬ Own mu1 I := fun q => by refine el_xp (S1.ownAt q) fun ob e _ => ?_; rw [fI] at e; cases e
  have G01 : Go F (I :: ow env) mu s.heap mu1 (s1.heap.push o) := (G1.wide0).trans (.grow (stays_push _ _))
  refine codeAny_forLoop_any (ForI c F ns env bd xs src rr I mu s) ?_ n
    ⟨0, g, H1, mu1, hrr, S1.grow (stays_push _ _), R1.go S1 (.grow (stays_push _ _)), it0, IO1, G01, eg1, eo1⟩
  rintro k s2 ⟨j, g2, H2, mu2, er, S2, R2, it2, IO2, G2, eg2, eo2⟩
  cases k with
  | zero => exact absurd er.symm hb
  | succ k =>
    unfold forL at er
    have bsI : c.bs.get? I = none := by
      cases e : c.bs.get? I with
      | none => rfl
      | some o => have := S1.stays I o e; rw [fI] at this; cases this
    have nfI : ∀ o, s2.heap.get? I = some o → ¬ Fixed o := fun o e => by
      refine el_xpp (it2.at) fun o' e' f _ => ?_
      rw [e] at e'; cases e'; exact f
    cases hn : nth src H2 j with
    | none => rw [hn] at er; exact absurd er.symm hb
    | some ov =>
      rw [hn] at er
      cases ov with
      | none =>
        have er : RS.nx g2 H2 = rr := er
        subst er
        refine pyNext_end hh S2 it2 hn fun h' tk k1 => wpAny_execs_nil ?_
        have S3 : St c F mu2 H2 h' := S2.poke IO2 bsI k1 (fun q => absurd q IF) nfI
        refine QS.next S3 ?_ (G2.drop fI0 k1) eg2 eo2
        exact R2.poked S2 IO2 IF Iow k1 nfI
      | some v =>
        dsimp only at er
        cases hbt : bindT xs v g2 H2 with
        | none => rw [hbt] at er; exact absurd er.symm hb
        | some g3 =>
          rw [hbt] at er
          dsimp only at er
          refine pyNext_item hh S2 it2 hn fun x h3 tk V3 it3 k1 => ?_
          have S3 : St c F mu2 H2 h3 := S2.poke IO2 bsI k1 (fun q => absurd q IF) nfI
          refine el_xp (it3.at) fun oI eI _ => ?_
          have Gp : Go F [I] mu2 s2.heap mu2 h3 := Go.poke (List.mem_singleton.mpr rfl) k1 ⟨oI, eI⟩
          have R3 := R2.goX S2 Gp (fun b hb => by rw [List.mem_singleton.mp hb]; exact Iow) (fun b hb o e => by rw [List.mem_singleton.mp hb] at e; exact nfI o e)
          have V3' := V3.mono (S2.fixedX Gp fun b hb o e => by rw [List.mem_singleton.mp hb] at e; exact nfI o e) fun _ _ e => e
          refine letOwned_snd (s := { s2 with heap := h3, toks := tk }) it3 ?_
          refine target_snd (s := { s2 with heap := h3, toks := tk }) hh nd S3 R3 V3' ht hbt fun h4 tk4 S4 G4 R4 => ?_
          have G34 : Go F (I :: ow env) mu s.heap mu2 h4 := (G2.trans (Gp.wide fun b hb => by rw [List.mem_singleton.mp hb]; exact List.mem_cons_self ..)).trans (G4.wide fun b hb => List.mem_cons_of_mem _ hb)
          have it4 : It c I src (j + 1) mu2 h4 := it3.mono (fun o e => G4.keep I o e IO2 IF Iow) (S3.fixedX G4 R3.own_notFixed) fun _ _ e => e
          have hr2 : bd g3 H2 ≠ .bad := fun e => hb (by rw [← er, e])
          refine wpAny_mono (h2 g3 H2 mu2 { s2 with heap := h4, toks := tk4 } S4 R4 hr2) (fun f s5 q => ?_) fun e s5 q => q.elim
          obtain ⟨mu5, G5, eg5, eo5, q⟩ := q
          have G45 : Go F (I :: ow env) mu s.heap mu5 s5.heap := G34.trans (G5.wide fun b hb => List.mem_cons_of_mem _ hb)
          refine el_xp (it4.at) fun oI4 eI4 _ => ?_
          rcases q with ⟨g5, H5, e5, rfl, S5, R5⟩ | ⟨v5, H5, y, e5, rfl, S5, V5⟩
          · rw [e5] at er
            exact in_xp k (Nat.lt_succ_self _) ⟨j + 1, g5, H5, mu5, er, S5, R5, it4.mono (fun o e => G5.keep I o e IO2 IF Iow) (S4.fixedX G5 R4.own_notFixed) G5.ext, G5.notOwn IO2 eI4, G45, eg5.trans eg2, eo5.trans eo2⟩
          · rw [e5] at er
            exact ⟨mu5, G45.drop fI0 fun b o _ e => e, eg5.trans eg2, eo5.trans eo2, .inr ⟨v5, H5, y, er.symm, rfl, S5, V5⟩⟩
end
end Mine
end

section
/-! calls of the text's own functions -/
namespace Mine
open PySem PySem.W PyProof.Rows
set_option maxRecDepth 100000

theorem zip_lookup : ∀ {ns : List Str} {vs : List Value}, vs.length = ns.length → ∀ n ∈ ns, ((ns.zip vs).lookup n).isSome = true
  | [], _, _, _, h => nomatch h
  | m :: ns, [], h, _, _ => by simp at h
  | m :: ns, v :: vs, h, n, hn => by
    simp only [List.zip_cons_cons, List.lookup_cons]
    cases e : n == m with
    | true => rfl
    | false =>
      rcases List.mem_cons.mp hn with q | q
      · subst q; simp at e
      · exact zip_lookup (by simpa using h) n q
theorem lookup_tail {α : Type} : ∀ {ns : List Str} {m : Str} {v : α} {l : List (Str × α)}, m ∉ ns → (ns.filterMap fun n => (((m, v) :: l).lookup n).map (n, ·)) = ns.filterMap fun n => (l.lookup n).map (n, ·)
  | [], _, _, _, _ => rfl
  | n :: ns, m, v, l, h => by
    have h1 : n ≠ m := fun q => h (q ▸ List.mem_cons_self ..)
    have h2 : m ∉ ns := fun q => h (List.mem_cons_of_mem _ q)
    have e : List.lookup n ((m, v) :: l) = List.lookup n l := by rw [List.lookup_cons, beq_eq_false_iff_ne.mpr h1]
    rw [List.filterMap_cons, List.filterMap_cons, e, lookup_tail h2]
theorem zip_back : ∀ {ns : List Str} {vs : List Value}, vs.length = ns.length → ns.Nodup → (ns.filterMap fun n => ((ns.zip vs).lookup n).map (n, ·)) = ns.zip vs
  | [], [], _, _ => rfl
  | [], _ :: _, h, _ => by simp at h
  | m :: ns, [], h, _ => by simp at h
  | m :: ns, v :: vs, h, nd => by
    obtain ⟨h1, h2⟩ := List.nodup_cons.mp nd
    rw [List.zip_cons_cons, List.filterMap_cons, List.lookup_cons, beq_self_eq_true]
    show (m, v) :: _ = _
    rw [lookup_tail h1, zip_back (by simpa using h) h2]

theorem bind_plain {fd : FuncData} {ps : List Arg} {vals : List Value} (hp : fd.params = ⟨[], ps, none, [], [], none, []⟩) (hd : fd.defaults = .none) (hl : vals.length = ps.length) (nd : (ps.map (·.arg)).Nodup) :
    bindArgs fd ⟨vals, []⟩ = pure ((ps.map (·.arg)).zip vals) := by
  have e1 : (ps.map (·.arg)).length = vals.length := by simp [hl]
  have hm : (List.filter (fun n => (((ps.map (·.arg)).zip vals).lookup n).isNone) (ps.map (·.arg))) = [] := by
    rw [List.filter_eq_nil_iff]
    intro n hn
    have := zip_lookup (vs := vals) e1.symm n hn
    cases q : ((ps.map (·.arg)).zip vals).lookup n with
    | none => rw [q] at this; cases this
    | some _ => simp
  have hz := zip_back (vs := vals) e1.symm nd
  have sq : seqItems? Value.none = pure none := rfl
  unfold bindArgs
  simp only [hp, hd, sq]
  simp [hl]
  rw [if_neg]
  · rw [← List.filterMap_map, hz]
  · have t : List.take ((List.map (fun x : Arg => x.arg) [] ++ List.map (fun x => x.arg) ps).length - (List.drop (#[].size (α := Value) - (List.map (fun x : Arg => x.arg) [] ++ List.map (fun x => x.arg) ps).length) ([] : List Value)).length) (List.map (fun x : Arg => x.arg) [] ++ List.map (fun x => x.arg) ps) = ps.map (·.arg) := by
      simp
      exact List.take_of_length_le (by simp)
    rw [t, hm]; simp

theorem cellsFrom_names : ∀ {l : List (Str × NameKind)} {N : Nat} {acc : List (Str × Addr)}, (cellsFrom N l acc).map (·.1) = ((l.filter fun x => x.2 == .cell).map (·.1)).reverse ++ acc.map (·.1)
  | [], _, _ => by simp [cellsFrom]
  | (n, k) :: r, N, acc => by
    rw [cellsFrom, List.filter_cons]
    cases h : k == NameKind.cell with
    | true => simp [cellsFrom_names]
    | false => simp [cellsFrom_names]
theorem lookup_of_mem {α : Type} : ∀ {l : List (Str × α)} {n : Str} {b : α}, (l.map (·.1)).Nodup → (n, b) ∈ l → l.lookup n = some b
  | [], _, _, _, h => nomatch h
  | (m, a) :: r, n, b, nd, h => by
    simp only [List.map_cons, List.nodup_cons] at nd
    rcases List.mem_cons.mp h with q | q
    · cases q; simp
    · have : n ≠ m := fun e => nd.1 (e ▸ List.mem_map.mpr ⟨_, q, rfl⟩)
      rw [List.lookup_cons, beq_eq_false_iff_ne.mpr this]
      exact lookup_of_mem nd.2 q
theorem cells_nodup {names : List (Str × NameKind)} {N : Nat} (nd : (names.map (·.1)).Nodup) : ((cellsFrom N names []).map (·.1)).Nodup := by
  rw [cellsFrom_names]
  simp only [List.map_nil, List.append_nil]
  exact List.pairwise_reverse.mpr ((nd.sublist (List.Sublist.map _ List.filter_sublist)).imp Ne.symm)
theorem cells_one {names : List (Str × NameKind)} {N : Nat} {n : Str} {b : Addr} (nd : (names.map (·.1)).Nodup) (h : (n, b) ∈ cellsFrom N names []) : (cellsFrom N names []).lookup n = some b := lookup_of_mem (cells_nodup nd) h
theorem cells_has {names : List (Str × NameKind)} {N : Nat} (nd : (names.map (·.1)).Nodup) (n : Str) (h : names.lookup n = some .cell) : ((cellsFrom N names []).lookup n).isSome = true := by
  have h1 : n ∈ (cellsFrom N names []).map (·.1) := by
    rw [cellsFrom_names]
    simp only [List.map_nil, List.append_nil, List.mem_reverse, List.mem_map, List.mem_filter]
    exact in_xp (n, .cell) ⟨PySem.mem_of_lookup h, by simp⟩ rfl
  refine el_xp (List.mem_map.mp h1) fun tq0 h2 tqz => ?_; obtain ⟨m, b⟩ := tq0; subst tqz
  rw [cells_one nd h2]; rfl

noncomputable def FrA (A : Around) (F : List Addr) : Prop := ∃ l, A.frames = some l ∧ ∀ e ∈ l, e.scope.kind ≠ .module ∧ ∃ b, e.frame = some b ∧ b ∈ F
theorem Frames.frA {A : Around} {F : List Addr} {env : Env} (x : Frames A F env) : FrA A F := let ⟨_, h1, h2⟩ := x.at_; ⟨_, h1, h2⟩

theorem bindL_of {kd : Str → Option NameKind} : ∀ {ns : List Str} {vs : List Value} {m : Str → Option Value} {i : Nat} {n : Str} {x : Value}, ns.Nodup → ns[i]? = some n → vs[i]? = some x → kd n = some .local → bindL kd (ns.zip vs) m n = some x
  | [], _, _, _, _, _, _, h, _, _ => by simp at h
  | _ :: _, [], _, _, _, _, _, _, h, _ => by simp at h
  | a :: ns, v :: vs, m, 0, n, x, nd, h1, h2, hk => by
    simp at h1 h2; subst h1 h2
    obtain ⟨nn, nd⟩ := List.nodup_cons.mp nd
    rw [List.zip_cons_cons, bindL, if_pos hk]
    have keep : ∀ {l : List Str} {us : List Value} {m : Str → Option Value}, a ∉ l → bindL kd (l.zip us) m a = m a := by
      intro l
      induction l with
      | nil => intro us m _; cases us <;> rfl
      | cons b l ih =>
        intro us m hb
        cases us with
        | nil => rfl
        | cons u us =>
          rw [List.zip_cons_cons, bindL, ih fun q => hb (List.mem_cons_of_mem _ q)]
          split
          · show (if a = b then some u else m a) = m a
            rw [if_neg (show ¬ a = b from fun q => hb (q ▸ List.mem_cons_self ..))]
          · rfl
    rw [keep nn]; simp
  | a :: ns, v :: vs, m, i + 1, n, x, nd, h1, h2, hk => by
    simp at h1 h2
    rw [List.zip_cons_cons, bindL]
    exact bindL_of (List.nodup_cons.mp nd).2 h1 h2 hk
theorem bindC_of {kd : Str → Option NameKind} : ∀ {ns : List Str} {vs : List Value} {m : Str → Option Value} {i : Nat} {n : Str} {x : Value}, ns.Nodup → ns[i]? = some n → vs[i]? = some x → kd n ≠ some .local → bindC kd (ns.zip vs) m n = some x
  | [], _, _, _, _, _, _, h, _, _ => by simp at h
  | _ :: _, [], _, _, _, _, _, _, h, _ => by simp at h
  | a :: ns, v :: vs, m, 0, n, x, nd, h1, h2, hk => by
    simp at h1 h2; subst h1 h2
    obtain ⟨nn, nd⟩ := List.nodup_cons.mp nd
    rw [List.zip_cons_cons, bindC, if_neg hk]
    have keep : ∀ {l : List Str} {us : List Value} {m : Str → Option Value}, a ∉ l → bindC kd (l.zip us) m a = m a := by
      intro l
      induction l with
      | nil => intro us m _; cases us <;> rfl
      | cons b l ih =>
        intro us m hb
        cases us with
        | nil => rfl
        | cons u us =>
          rw [List.zip_cons_cons, bindC, ih fun q => hb (List.mem_cons_of_mem _ q)]
          split
          · rfl
          · show (if a = b then some u else m a) = m a
            rw [if_neg (show ¬ a = b from fun q => hb (q ▸ List.mem_cons_self ..))]
    rw [keep nn]; simp
  | a :: ns, v :: vs, m, i + 1, n, x, nd, h1, h2, hk => by
    simp at h1 h2
    rw [List.zip_cons_cons, bindC]
    exact bindC_of (List.nodup_cons.mp nd).2 h1 h2 hk

section
variable {prog : Program} {c : Cf} {F : List Addr} {A : Around} {mu mu1 : Mu} {s s1 : Shared} {H : Hp} {E : Value → Shared → Prop} {K : Frag}

theorem St.enter {L' : Addr} {h h' : Heap} (S : St c F mu H h) (k : h.StaysIn h') (fr : h.get? L' = none) (hd : ∃ o es ep, h'.get? L' = some o ∧ o.data = .dict es ep) : St c (L' :: F) mu H h' := by
  have S' := S.grow k
  refine ⟨S'.mods, S'.stays, S'.len, S'.objs, S'.apart, S'.newB, fun b z q => ?_, fun b q => ?_⟩
  · rcases List.mem_cons.mp q with rfl | q
    · refine el_xp (S.ownAt z) fun o e _ => ?_; rw [fr] at e; cases e
    · exact S.notF b z q
  · rcases List.mem_cons.mp q with rfl | q
    · refine ⟨?_, hd⟩
      cases e : c.bs.get? b with
      | none => rfl
      | some o => have := S.stays b o e; rw [fr] at this; cases this
    · exact S'.frs b q
theorem St.left {L' : Addr} {h : Heap} (S : St c (L' :: F) mu H h) : St c F mu H h :=
  ⟨S.mods, S.stays, S.len, S.objs, S.apart, S.newB, fun b z q => S.notF b z (List.mem_cons_of_mem _ q), fun b q => S.frs b (List.mem_cons_of_mem _ q)⟩

theorem Go.left {L' : Addr} {X : List Addr} {mu' : Mu} {h h1 h' : Heap} (k : h.StaysIn h1) (G : Go (L' :: F) X mu h1 mu' h') (fr : h.get? L' = none) (fx : ∀ b ∈ X, h.get? b = none) : Go F [] mu h mu' h' := by
  refine ⟨G.ext, fun b o e no nf _ => G.keep b o (k b o e) no (fun q => ?_) fun q => ?_, fun b o e f _ => G.keepF b o (k b o e) (List.mem_cons_of_mem _ f) fun q => ?_, fun b z => (G.fresh b z).imp id fun q => ?_, fun b o e => G.alive b o (k b o e)⟩
  · rcases List.mem_cons.mp q with rfl | q
    · rw [fr] at e; cases e
    · exact nf q
  · rw [fx b q] at e; cases e
  · rw [fx b q] at e; cases e
  · cases e : h.get? b with
    | none => rfl
    | some o => rw [k b o e] at q; cases q

theorem call_core {a : Addr} {o : Obj} {fd : FuncData} {ps : List Arg} {body : List Stmt} {names : List String} {vs : List V} {xs : List Value} {r : RS}
    (S : St c F mu H s.heap) (V0 : VRs c.bs mu s.heap vs xs) (FA : FrA A F) (hroom : A.depth < recursionLimit) (hlim : c.bs.NoLimit)
    (ho : c.bs.get? a = some o) (hdata : o.data = .func fd) (hcd : c.bs.CodeRec fd.code fd.qualname) (hbody : fd.body = .stmts body) (hp : fd.params = ⟨[], ps, none, [], [], none, []⟩) (hd : fd.defaults = .none) (hclo : fd.closure = [])
    (hg : fd.globals = mainGlobals) (hbl : fd.builtins = builtinsNs) (hco : fd.scope.isCoroutine = false) (hgen : fd.scope.isGenerator = false) (hk : fd.scope.kind = .function)
    (nd : names.Nodup) (hn : (names.take ps.length).map Str.ofString = ps.map (·.arg)) (hlen : vs.length = ps.length) (hle : ps.length ≤ names.length)
    (hkind : ∀ p ∈ ps, fd.scope.names.lookup p.arg = some .local ∨ (fd.scope.names.lookup p.arg = some .cell))
    (ndn : (fd.scope.names.map (·.1)).Nodup)
    (h : ∀ env s1, env.scope = fd.scope → env.frame = some env.locals → Frames (A.deeper env) (env.locals :: F) env → St c (env.locals :: F) mu H s1.heap →
      FrR c (env.locals :: F) names env (vs.map some ++ List.replicate (names.length - ps.length) none) mu s1.heap →
      SndS (model prog c.w) c (env.locals :: F) (A.deeper env) names env mu s1 (execs body env) r) :
    r.back ≠ .bad → codeAny (model prog c.w) A (.call (.ref a) ⟨xs, []⟩) (fun q s' => match q with | .ok (.ret v) => QV c F mu s r.back (VRl c) v s' | .ok _ => False | .error _ => False) s := by
  intro hb
  have hcells := fun N => cells_has (N := N) (names := fd.scope.names) ndn
  have hr : r ≠ .bad := fun e => hb (by rw [e]; rfl)
  have hx : xs.length = ps.length := by rw [V0.length, hlen]
  have ndp : (ps.map (·.arg)).Nodup := by
    rw [← hn]
    exact List.pairwise_map.mpr ((nd.sublist (List.take_sublist ..)).imp fun ne q => ne (ofString_inj q))
  refine (codeAny_call_cells (binds := (ps.map (·.arg)).zip xs) hroom (S.stays _ _ ho) hdata (hlim.keeps S.stays) ?_ hbody (bind_plain hp hd hx ndp) hclo ?_ (fun s1 IC => ?_) hco hgen hk)
  · obtain ⟨cc, oc, vs, tq, z1, z2, z3⟩ := hcd
    exact ⟨cc, oc, vs, tq, z1, S.stays _ _ z2, z3⟩
  · intro y hy
    have := (List.of_mem_zip hy).1
    refine el_xp (List.mem_map.mp this) fun p hp e => ?_
    rw [← e]
    rcases hkind p hp with q | q
    · exact .inl q
    · exact .inr ⟨q, hcells _ _ q⟩
  · generalize henv : callEnvC fd s.heap.objs.size a = env at IC ⊢
    have eL : env.locals = s.heap.objs.size := by rw [← henv]; rfl
    have eS : env.scope = fd.scope := by rw [← henv]; rfl
    have eF : env.frame = some env.locals := by rw [← henv]; rfl
    have eC : env.cells = cellsFrom (s.heap.objs.size + 1) fd.scope.names [] := by rw [← henv]; rfl
    have eG : env.globals = mainGlobals := by rw [← henv]; exact hg
    have eB : env.builtins = builtinsNs := by rw [← henv]; exact hbl
    have fL : s.heap.get? env.locals = none := by rw [eL]; exact get_push_fresh _
    have keep : s.heap.StaysIn s1.heap := IC.toInCall.keep
    refine el_xxxpp (id IC.toInCall.ns) fun oL es ep q1 q2 q3 => ?_
    refine el_xx (IC.toInCall.same) fun hp1 tk1 es1 => ?_
    have eg1 : s1.gens = s.gens := by rw [es1]
    have eo1 : s1.os = s.os := by rw [es1]
    have S1 : St c (env.locals :: F) mu H s1.heap := S.enter keep fL ⟨oL, es, ep, q1, q2⟩
    have fC : ∀ n b, (n, b) ∈ env.cells → s.heap.get? b = none := fun n b hm => by
      have := IC.above n b hm
      cases e : s.heap.get? b with
      | none => rfl
      | some ob => rw [eL] at this; exact absurd (Heap.lt_size e) (Nat.not_lt.mpr (Nat.le_of_lt this))
    have bsN : ∀ b, s.heap.get? b = none → c.bs.get? b = none := fun b e => by
      cases e' : c.bs.get? b with
      | none => rfl
      | some ob => have := S.stays b ob e'; rw [e] at this; cases this
    have notO : ∀ b, s.heap.get? b = none → ¬ Own mu b := fun b e z => by refine el_xp (S.ownAt z) fun ob z1 _ => ?_; rw [e] at z1; cases z1
    have V1 := V0.mono (fun b o e _ => keep b o e) (fun _ _ e => e) (h' := s1.heap)
    have par : ∀ (i : Nat) (n : String) (v : V), names[i]? = some n → (vs.map some ++ List.replicate (names.length - ps.length) none)[i]? = some (some v) → ∃ x, (ps.map (·.arg))[i]? = some (Str.ofString n) ∧ xs[i]? = some x ∧ VR c.bs mu s1.heap v x := by
      intro i n v h1 h2
      have hi : i < ps.length := by
        by_cases hi : i < ps.length
        · exact hi
        · rw [List.getElem?_append_right (by simp; (first | lia | omega))] at h2
          simp [List.getElem?_replicate] at h2
      rw [List.getElem?_append_left (by simp; (first | lia | omega)), List.getElem?_map] at h2
      refine el_xp (Option.map_eq_some_iff.mp h2) fun v' hv e => ?_
      cases e
      refine el_xp (V1.get hv) fun x hx1 hx2 => ?_
      have h3 : (names.take ps.length)[i]? = some n := by rw [List.getElem?_take_of_lt hi]; exact h1
      have h4 : ((names.take ps.length).map Str.ofString)[i]? = some (Str.ofString n) := by rw [List.getElem?_map, h3]; rfl
      rw [hn] at h4
      exact in_xpp x h4 hx1 hx2
    have R1 : FrR c (env.locals :: F) names env (vs.map some ++ List.replicate (names.length - ps.length) none) mu s1.heap := by
      refine ⟨by rw [eS]; exact hk, eG, eB, by simp [hlen]; (first | lia | omega), ⟨_, IC.toInCall.ns, fun i n v h1 h2 h3 => ?_⟩, fun i n v h1 h2 h3 => ?_, notO _ fL, fun n b hm => ?_, IC.apart, fun n hn => ?_, ⟨oL, q1⟩, bsN _ fL⟩
      · refine el_xpp (par i n v h1 h2) fun x p1 p2 p3 => ?_
        exact in_xp x (bindL_of ndp p1 p2 h3) p3
      · refine el_xpp (par i n v h1 h2) fun x p1 p2 p3 => ?_
        have hc : env.kindOf (Str.ofString n) = some .cell := by
          refine el_xp (List.mem_map.mp (List.mem_of_getElem? p1)) fun p hp e => ?_
          rcases hkind p hp with q | q
          · rw [e] at q
            have q' : env.kindOf (Str.ofString n) = some .local := by unfold Env.kindOf; rw [eS]; exact q
            rw [q'] at h3; rcases h3 with h3 | h3 <;> cases h3
          · rw [e] at q; unfold Env.kindOf; rw [eS]; exact q
        have hl := hcells (s.heap.objs.size + 1) (Str.ofString n) (by unfold Env.kindOf at hc; rw [eS] at hc; exact hc)
        rw [← eC] at hl
        refine el_x (Option.isSome_iff_exists.mp hl) fun b hb => ?_
        refine in_xxpp b x hb ?_ p3
        have := IC.cell _ b hb
        rw [bindC_of ndp p1 p2 (by rw [hc]; exact fun q => nomatch q)] at this
        exact this
      · have f := fC n b hm
        refine ⟨notO b f, fun q => ?_, fun q => ?_, bsN b f, ?_⟩
        · rcases List.mem_cons.mp q with q | q
          · have := IC.above n b hm; rw [q] at this; exact Nat.lt_irrefl _ this
          · refine el_pxxxp (S.frs b q) fun _ ob _ _ z _ => ?_; rw [f] at z; cases z
        · have := IC.above n b hm; rw [q] at this; exact Nat.lt_irrefl _ this
        · exact in_x _ (IC.cell n b (by rw [eC] at hm ⊢; exact cells_one ndn hm))
      · rw [eC]; exact hcells _ _ (by unfold Env.kindOf at hn; rw [eS] at hn; exact hn)
    have Fr1 : Frames (A.deeper env) (env.locals :: F) env := by
      refine el_xp FA fun l h1 h2 => ?_; try clear FA
      refine ⟨⟨l, by simp [Around.deeper, h1], fun e he => ?_⟩⟩
      rcases List.mem_cons.mp he with rfl | he
      · exact in_pxp (by rw [eS, hk]; (intro q; cases q)) _ eF (List.mem_cons_self ..)
      · refine el_pxp (h2 e he) fun z1 b z2 z3 => ?_
        exact in_pxp z1 b z2 (List.mem_cons_of_mem _ z3)
    have fow : ∀ b ∈ ow env, s.heap.get? b = none := fun b hb => by
      rcases List.mem_cons.mp hb with rfl | hb
      · exact fL
      · refine el_xp (List.mem_map.mp hb) fun tq0 hm tqz => ?_; obtain ⟨n, b'⟩ := tq0; subst tqz
        exact fC n b' hm
    refine wpAny_mono (h env s1 eS eF Fr1 S1 R1 hr) (fun f s2 q => ?_) fun e s2 q => ?_
    · obtain ⟨mu2, G2, eg2, eo2, q⟩ := q
      have G := Go.left keep G2 fL fow
      rcases q with ⟨g', H', rfl, rfl, S2, R2⟩ | ⟨v, H', y, rfl, rfl, S2, V2⟩
      · exact ⟨.none, H', mu2, rfl, S2.left, G, by exact rfl, eg2.trans eg1, eo2.trans eo1⟩
      · exact ⟨v, H', mu2, rfl, S2.left, G, V2, eg2.trans eg1, eo2.trans eo1⟩
    · exact q.elim
end
end Mine
end

section
/-! a set's table: there is always an empty slot -/
namespace Mine
open PySem
noncomputable def geo : Nat → Nat
  | 0 => 0
  | d + 1 => 5 * geo d + 1
theorem geo_add (a b : Nat) : geo (a + b) = 5 ^ b * geo a + geo b := by
  induction b with
  | zero => show geo a = 1 * geo a + 0; (first | lia | omega)
  | succ b ih => show 5 * geo (a + b) + 1 = 5 ^ (b + 1) * geo a + (5 * geo b + 1); rw [ih, Nat.pow_succ, Nat.mul_add, ← Nat.mul_assoc, Nat.mul_comm 5 (5 ^ b)]; (first | lia | omega)
theorem five_mod (b : Nat) : 5 ^ b % 4 = 1 := by
  induction b with
  | zero => rfl
  | succ b ih => rw [Nat.pow_succ]; (first | lia | omega)
theorem geo_odd (e : Nat) : geo e % 2 = e % 2 := by
  induction e with
  | zero => rfl
  | succ e ih => show (5 * geo e + 1) % 2 = (e + 1) % 2; (first | lia | omega)
theorem odd_cop {m k : Nat} (h : m % 2 = 1) : Nat.Coprime (2 ^ k) m := by
  refine Nat.Coprime.pow_left k ?_
  rw [Nat.coprime_iff_gcd_eq_one]
  rcases Nat.lt_or_ge (Nat.gcd 2 m) 2 with q | q
  · have := Nat.gcd_pos_of_pos_left m (show 0 < 2 by decide); (first | lia | omega)
  · have h2 : Nat.gcd 2 m = 2 := Nat.le_antisymm (Nat.gcd_le_left _ (by decide)) q
    have := Nat.gcd_dvd_right 2 m
    rw [h2] at this; (first | lia | omega)
theorem geo_dvd : ∀ (k d : Nat), 2 ^ k ∣ geo d → 2 ^ k ∣ d
  | 0, d, _ => by rw [Nat.pow_zero]; exact Nat.one_dvd d
  | k + 1, d, h => by
    have h2 : 2 ∣ geo d := Nat.dvd_trans (by rw [Nat.pow_succ]; exact Nat.dvd_mul_left _ _) h
    have ho := geo_odd d
    obtain ⟨e, rfl⟩ : ∃ e, d = e + e := ⟨d / 2, by (first | lia | omega)⟩
    rw [geo_add] at h
    have hm := five_mod e
    obtain ⟨u, hu⟩ : ∃ u, 5 ^ e + 1 = 2 * u := ⟨(5 ^ e + 1) / 2, by (first | lia | omega)⟩
    have hu1 : u % 2 = 1 := by (first | lia | omega)
    have e1 : 5 ^ e * geo e + geo e = 2 * (u * geo e) := by
      have : 5 ^ e * geo e + geo e = (5 ^ e + 1) * geo e := by rw [Nat.add_mul, Nat.one_mul]
      rw [this, hu, Nat.mul_assoc]
    rw [e1, Nat.pow_succ, Nat.mul_comm (2 ^ k) 2] at h
    have h := Nat.dvd_of_mul_dvd_mul_left (by decide) h
    have h := geo_dvd k e (Nat.Coprime.dvd_of_dvd_mul_left (odd_cop hu1) h)
    refine el_x h fun c hc => ?_; try clear h
    exact in_x c (by rw [hc, Nat.pow_succ, Nat.mul_comm (2 ^ k) 2, Nat.mul_assoc]; (first | lia | omega))
noncomputable def lp (M : Nat) (q : Nat × Nat) : Nat × Nat := SetTable.leap M q.1 q.2
noncomputable def lps (M : Nat) (q : Nat × Nat) : Nat → Nat × Nat
  | 0 => q
  | r + 1 => lp M (lps M q r)
theorem lps_add (M : Nat) (q : Nat × Nat) (a b : Nat) : lps M q (a + b) = lps M (lps M q a) b := by
  induction b with
  | zero => rfl
  | succ b ih => show lp M (lps M q (a + b)) = _; rw [ih]; rfl
theorem lps_pert (M : Nat) (q : Nat × Nat) (r : Nat) : (lps M q r).2 = q.2 / 32 ^ r := by
  induction r with
  | zero => rw [Nat.pow_zero, Nat.div_one]; rfl
  | succ r ih => show (lps M q r).2 / 32 = _; rw [ih, Nat.pow_succ, Nat.div_div_eq_div_mul]
theorem lps_geo {k M : Nat} (hM : M + 1 = 2 ^ k) (x d : Nat) : (lps M (x, 0) d).1 % 2 ^ k = (5 ^ d * x + geo d) % 2 ^ k := by
  induction d with
  | zero => show x % 2 ^ k = (1 * x + 0) % 2 ^ k; rw [Nat.one_mul, Nat.add_zero]
  | succ d ih =>
    have hp : (lps M (x, 0) d).2 = 0 := by rw [lps_pert]; exact Nat.zero_div _
    show ((lps M (x, 0) d).1 * 5 + 1 + (lps M (x, 0) d).2 / 32) % (M + 1) % 2 ^ k = (5 ^ (d + 1) * x + (5 * geo d + 1)) % 2 ^ k
    rw [hp, hM, Nat.mod_mod, Nat.zero_div, Nat.add_zero]
    have e : 5 ^ (d + 1) * x + (5 * geo d + 1) = (5 ^ d * x + geo d) * 5 + 1 := by rw [Nat.pow_succ, Nat.add_mul, Nat.mul_right_comm]; (first | lia | omega)
    rw [e, Nat.add_mod, Nat.mul_mod, ih, ← Nat.mul_mod, ← Nat.add_mod]
theorem lps_lt {k M : Nat} (hM : M + 1 = 2 ^ k) {q : Nat × Nat} (hq : q.1 < 2 ^ k) (r : Nat) : (lps M q r).1 < 2 ^ k := by
  cases r with
  | zero => exact hq
  | succ r => show _ % (M + 1) < _; rw [hM]; exact Nat.mod_lt _ (Nat.pow_pos (by decide))
theorem lps_ne {k M : Nat} (hM : M + 1 = 2 ^ k) {q : Nat × Nat} (hq : q.1 < 2 ^ k) (hp : q.2 = 0) {a d : Nat} (h0 : 0 < d) (hd : d < 2 ^ k) : (lps M q a).1 ≠ (lps M q (a + d)).1 := by
  intro e
  rw [lps_add] at e
  have z : (lps M q a).2 = 0 := by rw [lps_pert, hp]; exact Nat.zero_div _
  have hx : lps M q a = ((lps M q a).1, 0) := Prod.ext rfl z
  rw [hx] at e
  generalize (lps M q a).1 = x at e
  have g := lps_geo hM x d
  rw [← e] at g
  -- x = 5^d x + geo d
  have f : 5 ^ d = 4 * geo d + 1 := by
    clear g e hd h0 hx
    induction d with
    | zero => rfl
    | succ d ih => rw [Nat.pow_succ, ih]; show _ = 4 * (5 * geo d + 1) + 1; (first | lia | omega)
  have f2 : 5 ^ d * x + geo d = x + geo d * (4 * x + 1) := by
    rw [f, Nat.mul_add, Nat.add_mul, Nat.mul_one, Nat.one_mul, Nat.mul_comm 4 (geo d), Nat.mul_assoc]; (first | lia | omega)
  rw [f2] at g
  have dv : 2 ^ k ∣ geo d * (4 * x + 1) := by
    have := Nat.sub_mod_eq_zero_of_mod_eq g.symm
    rw [Nat.add_sub_cancel_left] at this
    exact Nat.dvd_of_mod_eq_zero this
  have := geo_dvd k d (Nat.Coprime.dvd_of_dvd_mul_right (odd_cop (by (first | lia | omega))) dv)
  exact absurd (Nat.le_of_dvd h0 this) (by (first | lia | omega))
theorem sub_len {l m : List Nat} (nd : l.Nodup) (h : ∀ x ∈ l, x ∈ m) : l.length ≤ m.length := by
  induction l generalizing m with
  | nil => exact Nat.zero_le _
  | cons a l ih =>
    have hn := List.nodup_cons.mp nd
    have ha := h a (.head _)
    have := ih hn.2 (m := m.erase a) fun x hx => (List.mem_erase_of_ne (show x ≠ a from fun e => hn.1 (e ▸ hx))).mpr (h x (.tail _ hx))
    rw [List.length_erase_of_mem ha] at this
    have := List.length_pos_of_mem ha
    show l.length + 1 ≤ _; (first | lia | omega)
theorem lps_free {k M : Nat} (hM : M + 1 = 2 ^ k) {q : Nat × Nat} (hq : q.1 < 2 ^ k) (hp : q.2 < 2 ^ 64) (bad : List Nat) (hb : bad.length < 2 ^ k) : ∃ r, r ≤ 13 + bad.length ∧ (lps M q r).1 ∉ bad := by
  refine Classical.byContradiction fun no => ?_
  have all : ∀ r, r ≤ 13 + bad.length → (lps M q r).1 ∈ bad := fun r hr => Classical.byContradiction fun z => no ⟨r, hr, z⟩
  have z13 : (lps M q 13).2 = 0 := by rw [lps_pert]; exact Nat.div_eq_of_lt (Nat.lt_trans hp (by decide))
  have nd : ((List.range (bad.length + 1)).map fun j => (lps M q (13 + j)).1).Nodup := by
    refine List.pairwise_map.mpr (List.Pairwise.imp_of_mem ?_ List.pairwise_lt_range)
    intro a b ha hb' lt
    have e : 13 + b = 13 + (a + (b - a)) := by (first | lia | omega)
    rw [e, lps_add, lps_add M q 13 (a + (b - a))]
    exact lps_ne hM (lps_lt hM hq 13) z13 (by (first | lia | omega)) (by have := List.mem_range.mp hb'; (first | lia | omega))
  have := sub_len nd fun x hx => by
    refine el_xp (List.mem_map.mp hx) fun j hj tqz => ?_; subst tqz
    exact all _ (by have := List.mem_range.mp hj; (first | lia | omega))
  rw [List.length_map, List.length_range] at this
  (first | lia | omega)
end Mine
end

section
/-! a set's table: how a probe goes, what a new table holds -/
namespace Mine
open PySem
section
variable {t : SetTable} {M k n : Nat} {q : Nat × Nat} {p : SetTable.Probe}
noncomputable def itr (t : SetTable) : Nat → SetTable.Probe → SetTable.Probe
  | 0, p => p
  | s + 1, p => itr t s (t.advance p)
theorem itr_add (a b : Nat) (p : SetTable.Probe) : itr t (a + b) p = itr t b (itr t a p) := by
  induction a generalizing p with
  | zero => rw [Nat.zero_add]; rfl
  | succ a ih => rw [Nat.succ_add]; exact ih _
noncomputable def st (M : Nat) (q : Nat × Nat) : SetTable.Probe := { j := q.1, more := SetTable.runEnd M q.1 - q.1, i := q.1, perturb := q.2, dummy := none }
theorem more_le : SetTable.runEnd M q.1 - q.1 ≤ 9 := by unfold SetTable.runEnd; split <;> (first | lia | omega)
theorem run_end : ∀ (m j i u : Nat), itr t (m + 1) { j := j, more := m, i := i, perturb := u, dummy := none } = st t.mask (lp t.mask (i, u))
  | 0, j, i, u => by
    refine (show itr t 1 _ = t.advance _ from rfl).trans ?_
    unfold SetTable.advance
    rw [if_neg (show ¬ (0 : Nat) > 0 from Nat.lt_irrefl 0)]; rfl
  | m + 1, j, i, u => by
    show itr t (m + 1) (t.advance _) = _
    have : t.advance { j := j, more := m + 1, i := i, perturb := u, dummy := none } = { j := j + 1, more := m, i := i, perturb := u, dummy := none } := by
      unfold SetTable.advance
      rw [if_pos (show m + 1 > 0 from Nat.succ_pos m)]; rfl
    rw [this]; exact run_end m (j + 1) i u
theorem itr_lps (q : Nat × Nat) : ∀ r, ∃ s, s ≤ 10 * r ∧ itr t s (st t.mask q) = st t.mask (lps t.mask q r)
  | 0 => ⟨0, Nat.le_refl _, rfl⟩
  | r + 1 => by
    refine el_xp (itr_lps q r) fun s hs e => ?_
    have hm := more_le (M := t.mask) (q := lps t.mask q r)
    refine in_xp (s + (SetTable.runEnd t.mask (lps t.mask q r).1 - (lps t.mask q r).1 + 1)) (by (first | lia | omega)) ?_
    rw [itr_add, e]; exact run_end _ _ _ _
structure Tb (t : SetTable) (n : Nat) : Prop where
  size : t.place.size = n
  dum : t.dummies = #[]
  two : ∃ k, t.mask + 1 = 2 ^ k ∧ 3 ≤ k
  room : n * 5 < t.mask * 3
theorem Tb.fill (T : Tb t n) : t.fill = n := by unfold SetTable.fill; rw [T.size, T.dum]; rfl
theorem has_nil {j : Nat} : SetTable.has #[] j = false := rfl
theorem slot_live {j : Nat} (h : t.dummies = #[]) (e : t.slot j ≠ .empty) : j ∈ t.place.toList ∧ ∃ i, t.slot j = .live i ∧ t.place[i]? = some j := by
  unfold SetTable.slot at e ⊢
  dsimp only at e ⊢
  split at e
  · rename_i c
    rw [if_pos c]
    have c := eq_of_beq c
    exact in_pxp (List.mem_of_getElem? (by rw [Array.getElem?_toList]; exact c)) _ rfl c
  · rw [h, has_nil] at e; exact absurd rfl e
noncomputable def Ahead (t : SetTable) (p : SetTable.Probe) (m : Nat) : Prop := t.slot (itr t m p).j = .empty ∧ p.dummy = none
theorem ahead_start (T : Tb t n) (hn : n < t.mask) (h : Int) : ∃ m, m ≤ 10 * (13 + n) ∧ Ahead t (t.probeStart h) m := by
  refine el_xp (T.two) fun k hk _ => ?_
  have hb : t.place.toList.length < 2 ^ k := by rw [Array.length_toList, T.size, ← hk]; (first | lia | omega)
  have hz : SetTable.bits h < 2 ^ 64 := by unfold SetTable.bits; have := Int.emod_lt_of_pos h (show (0 : Int) < 2 ^ 64 by decide); have := Int.emod_nonneg h (show (2 ^ 64 : Int) ≠ 0 by decide); (first | lia | omega)
  refine el_xp (lps_free hk (q := (SetTable.bits h % (t.mask + 1), SetTable.bits h)) (by rw [← hk]; exact Nat.mod_lt _ (Nat.succ_pos _)) hz t.place.toList hb) fun r hr nr => ?_
  rw [Array.length_toList, T.size] at hr
  refine el_xp (itr_lps (t := t) (SetTable.bits h % (t.mask + 1), SetTable.bits h) r) fun s hs e => ?_
  refine in_xpp s (by (first | lia | omega)) ?_ rfl
  have e : itr t s (t.probeStart h) = st t.mask (lps t.mask (SetTable.bits h % (t.mask + 1), SetTable.bits h) r) := e
  rw [e]
  exact Classical.byContradiction fun z => nr (slot_live T.dum z).1
theorem adv_dummy : (t.advance p).dummy = p.dummy := by
  unfold SetTable.advance; split <;> rfl
inductive Meet (t : SetTable) (hashAt : Nat → Int) (h : Int) (p : SetTable.Probe) (m : Nat) : Option SetTable.Met → Prop
  | empty {j : Nat} (e : t.slot j = .empty) : Meet t hashAt h p m (some (.empty j none))
  | cand {j i d : Nat} {next : SetTable.Probe} (e : t.slot j = .live i) (hi : hashAt i = h) (hd : d < m) (a : Ahead t next d) : Meet t hashAt h p m (some (.candidate j i next))
theorem probe_go (hdm : t.dummies = #[]) {hashAt : Nat → Int} {h : Int} : ∀ (f m : Nat) (p : SetTable.Probe), m < f → Ahead t p m → Meet t hashAt h p m (SetTable.probe.go t hashAt h f p)
  | 0, _, _, l, _ => absurd l (Nat.not_lt_zero _)
  | f + 1, m, p, l, a => by
    unfold SetTable.probe.go
    by_cases e : t.slot p.j = .empty
    · rw [e]; dsimp only; rw [a.2]; exact .empty e
    · refine el_pxp (slot_live hdm e) fun _ i ei _ => ?_
      cases m with
      | zero => exact absurd a.1 e
      | succ m =>
        have a' : Ahead t (t.advance p) m := ⟨a.1, adv_dummy.trans a.2⟩
        rw [ei]; dsimp only
        by_cases q : hashAt i = h
        · rw [if_pos (beq_iff_eq.mpr q)]; exact .cand ei q (Nat.lt_succ_self m) a'
        · rw [if_neg (fun z => q (eq_of_beq z))]
          have := probe_go hdm (hashAt := hashAt) (h := h) f m (t.advance p) (Nat.lt_of_succ_lt_succ l) a'
          generalize SetTable.probe.go t hashAt h f (t.advance p) = o at this ⊢
          cases this with
          | empty e => exact .empty e
          | cand e hi hd a => exact .cand e hi (Nat.lt_succ_of_lt hd) a
theorem probe_meet (hdm : t.dummies = #[]) {hashAt : Nat → Int} {h : Int} {m : Nat} (l : m < 10 * (t.mask + 15)) (a : Ahead t p m) : Meet t hashAt h p m (t.probe hashAt h p) := probe_go hdm _ m p l a
theorem below_go {xs : Array Nat} {j : Nat} : ∀ f lo hi, lo ≤ hi → hi ≤ xs.size → SetTable.below.go xs j f lo hi ≤ xs.size
  | 0, lo, hi, h1, h2 => Nat.le_trans h1 h2
  | f + 1, lo, hi, h1, h2 => by
    unfold SetTable.below.go
    split
    · dsimp only
      split
      · exact below_go f _ _ (by (first | lia | omega)) h2
      · exact below_go f _ _ (by (first | lia | omega)) (by (first | lia | omega))
    · exact Nat.le_trans h1 h2
theorem below_le {xs : Array Nat} {j : Nat} : SetTable.below xs j ≤ xs.size := below_go _ _ _ (Nat.zero_le _) (Nat.le_refl _)
theorem insert_list {α : Type} {xs : Array α} {p : Nat} {x : α} (h : p ≤ xs.size) : (SetTable.insertAt xs p x).toList = xs.toList.take p ++ x :: xs.toList.drop p := by
  unfold SetTable.insertAt
  rw [Array.toList_append, Array.toList_push, Array.toList_extract, Array.toList_extract, List.append_assoc]
  have e1 : xs.toList.extract 0 p = xs.toList.take p := by simp
  have e2 : xs.toList.extract p xs.size = xs.toList.drop p := by simp; exact List.take_of_length_le (by simp)
  rw [e1, e2]; rfl
theorem insert_size {α : Type} {xs : Array α} {p : Nat} {x : α} (h : p ≤ xs.size) : (SetTable.insertAt xs p x).size = xs.size + 1 := by
  rw [← Array.length_toList, insert_list h, List.length_append, List.length_cons, List.length_take, List.length_drop, Array.length_toList]; (first | lia | omega)
theorem put_size {j : Nat} (T : t.dummies = #[]) : (t.put j).1.place.size = t.place.size + 1 ∧ (t.put j).1.dummies = #[] ∧ (t.put j).1.mask = t.mask ∧ (t.put j).2 ≤ t.place.size := by
  refine ⟨insert_size below_le, ?_, rfl, below_le⟩
  show (if SetTable.has t.dummies j then _ else t.dummies) = _
  rw [T, has_nil]; rfl
end
end Mine
end

section
/-! a set's table is laid anew -/
namespace Mine
open PySem
section
variable {M k n : Nat} {q : Nat × Nat} {owner : Array (Option Nat)}
noncomputable def occ (l : List (Option Nat)) : List Nat := (List.range l.length).filter fun j => (l.getD j none).isSome
theorem range_getD (l : List (Option Nat)) : (List.range l.length).map (fun j => l.getD j none) = l := by
  apply List.ext_getElem?
  intro i
  rw [List.getElem?_map]
  rcases Nat.lt_or_ge i l.length with h | h
  · rw [List.getElem?_range h, List.getElem?_eq_getElem h, Option.map_some, List.getD_eq_getElem?_getD, List.getElem?_eq_getElem h]; rfl
  · rw [List.getElem?_eq_none (by rw [List.length_range]; exact h), List.getElem?_eq_none h]; rfl
theorem occ_len (l : List (Option Nat)) : (occ l).length = l.countP Option.isSome := by
  conv => rhs; rw [← range_getD l, List.countP_map]
  rw [List.countP_eq_length_filter]; rfl
theorem free_some : ∀ (f : Nat) (q : Nat × Nat), (∃ r, r < f ∧ (owner.getD (lps M q r).1 (some 0)).isNone = true) → ∃ j, SetTable.layClean.free M owner f q.1 q.2 = some j ∧ (owner.getD j (some 0)).isNone = true
  | 0, _, ⟨_, h, _⟩ => absurd h (Nat.not_lt_zero _)
  | f + 1, q, ⟨r, hr, e⟩ => by
    unfold SetTable.layClean.free
    cases hf : (List.range (SetTable.runEnd M q.1 + 1 - q.1)).find? fun k => (owner.getD (q.1 + k) (some 0)).isNone with
    | some k => exact in_xp (q.1 + k) rfl (by have := List.find?_some hf; exact this)
    | none =>
      dsimp only
      cases r with
      | zero =>
        have := List.find?_eq_none.mp hf 0 (List.mem_range.mpr (by unfold SetTable.runEnd; split <;> (first | lia | omega)))
        exact absurd e this
      | succ r =>
        refine free_some f (lp M q) ⟨r, Nat.lt_of_succ_lt_succ hr, ?_⟩
        have : lps M q (r + 1) = lps M (lp M q) r := by rw [Nat.add_comm, lps_add]; rfl
        rw [this] at e; exact e
theorem free_of (hM : M + 1 = 2 ^ k) (hz : owner.size = M + 1) (hc : owner.toList.countP Option.isSome ≤ M) (h : Int) : ∃ j, SetTable.layClean.free M owner (SetTable.turns M) (SetTable.bits h % (M + 1)) (SetTable.bits h) = some j ∧ (owner.getD j (some 0)).isNone = true := by
  have hb : SetTable.bits h < 2 ^ 64 := by unfold SetTable.bits; have := Int.emod_lt_of_pos h (show (0 : Int) < 2 ^ 64 by decide); have := Int.emod_nonneg h (show (2 ^ 64 : Int) ≠ 0 by decide); (first | lia | omega)
  have hl : SetTable.bits h % (M + 1) < 2 ^ k := by rw [← hM]; exact Nat.mod_lt _ (Nat.succ_pos _)
  refine el_xp (lps_free hM (q := (SetTable.bits h % (M + 1), SetTable.bits h)) hl hb (occ owner.toList) (by rw [occ_len, ← hM]; (first | lia | omega))) fun r hr nr => ?_
  rw [occ_len] at hr
  refine free_some _ (SetTable.bits h % (M + 1), SetTable.bits h) ⟨r, by unfold SetTable.turns; (first | lia | omega), ?_⟩
  have lt := lps_lt hM (q := (SetTable.bits h % (M + 1), SetTable.bits h)) hl r
  generalize (lps M (SetTable.bits h % (M + 1), SetTable.bits h) r).1 = j at nr lt
  have hj : j < owner.size := by rw [hz, hM]; exact lt
  rw [Array.getD_eq_getD_getElem?, Array.getElem?_eq_getElem hj]
  cases e : owner[j] with
  | none => rfl
  | some x => exact absurd (List.mem_filter.mpr ⟨List.mem_range.mpr (by rw [Array.length_toList]; exact hj), by rw [List.getD_eq_getElem?_getD, Array.getElem?_toList, Array.getElem?_eq_getElem hj, e]; rfl⟩) nr
structure Laid (owner : Array (Option Nat)) (M n : Nat) : Prop where
  size : owner.size = M + 1
  cnt : owner.toList.countP Option.isSome = n
  idx : ∀ (j i : Nat), owner[j]? = some (some i) → i < n
theorem lay_step (hM : M + 1 = 2 ^ k) (L : Laid owner M n) (hn : n ≤ M) (h : Int) : ∃ owner', (do
    let (owner, k) ← (some (owner, n) : Option (Array (Option Nat) × Nat))
    let j ← SetTable.layClean.free M owner (SetTable.turns M) (SetTable.bits h % (M + 1)) (SetTable.bits h)
    pure (owner.setIfInBounds j (some k), k + 1)) = some (owner', n + 1) ∧ Laid owner' M (n + 1) := by
  refine el_xp (free_of hM L.size (by rw [L.cnt]; exact hn) h) fun j e hj => ?_
  have lj : j < owner.size := by
    rcases Nat.lt_or_ge j owner.size with q | q
    · exact q
    · rw [Array.getD_eq_getD_getElem?, Array.getElem?_eq_none q] at hj; cases hj
  have vj : owner[j] = none := by
    rw [Array.getD_eq_getD_getElem?, Array.getElem?_eq_getElem lj] at hj
    exact Option.isNone_iff_eq_none.mp hj
  refine in_xp (owner.setIfInBounds j (some n)) (by show (SetTable.layClean.free M owner (SetTable.turns M) (SetTable.bits h % (M + 1)) (SetTable.bits h)).bind _ = _; rw [e]; rfl) ⟨by rw [Array.size_setIfInBounds]; exact L.size, ?_, fun a i ha => ?_⟩
  · rw [Array.toList_setIfInBounds, List.countP_set (by rw [Array.length_toList]; exact lj), L.cnt, Array.getElem_toList, vj]; rfl
  · by_cases z : j = a
    · subst z; rw [Array.getElem?_setIfInBounds_self_of_lt lj] at ha; cases ha; exact Nat.lt_succ_self _
    · rw [Array.getElem?_setIfInBounds_ne z] at ha; exact Nat.lt_succ_of_lt (L.idx a i ha)
theorem lay_all (hM : M + 1 = 2 ^ k) : ∀ (hs : List Int) (owner : Array (Option Nat)) (n : Nat), Laid owner M n → n + hs.length ≤ M + 1 → ∃ owner', hs.foldl (fun acc h => do
    let (owner, k) ← acc
    let j ← SetTable.layClean.free M owner (SetTable.turns M) (SetTable.bits h % (M + 1)) (SetTable.bits h)
    pure (owner.setIfInBounds j (some k), k + 1)) (some (owner, n)) = some (owner', n + hs.length) ∧ Laid owner' M (n + hs.length)
  | [], owner, n, L, _ => ⟨owner, rfl, L⟩
  | h :: hs, owner, n, L, l => by
    have l : n + (hs.length + 1) ≤ M + 1 := l
    refine el_xp (lay_step hM L (by (first | lia | omega)) h) fun o1 e1 L1 => ?_
    refine el_xp (lay_all hM hs o1 (n + 1) L1 (by (first | lia | omega))) fun o2 e2 L2 => ?_
    have ea : n + 1 + hs.length = n + (h :: hs).length := by show _ = n + (hs.length + 1); (first | lia | omega)
    rw [ea] at e2 L2
    exact in_xp o2 (by rw [List.foldl_cons, e1]; exact e2) L2
theorem clean_of (hM : M + 1 = 2 ^ k) (hs : Array Int) (l : hs.size ≤ M + 1) : ∃ owner, SetTable.layClean M hs = some owner ∧ Laid owner M hs.size := by
  have L0 : Laid (Array.replicate (M + 1) none) M 0 := ⟨Array.size_replicate, by rw [Array.toList_replicate, List.countP_replicate]; rfl, fun j i e => by rw [Array.getElem?_replicate] at e; split at e <;> cases e⟩
  refine el_xp (lay_all hM hs.toList _ 0 L0 (by rw [Nat.zero_add, Array.length_toList]; exact l)) fun o e L => ?_
  rw [Nat.zero_add, Array.length_toList] at e L
  refine in_xp o ?_ L
  unfold SetTable.layClean
  rw [← Array.foldl_toList, e]; rfl
theorem above_go {n : Nat} : ∀ (f m : Nat), n < 8 * 2 ^ m * 2 ^ f → (m = 0 ∨ 8 * 2 ^ m ≤ 2 * n) → ∃ m', SetTable.sizeAbove.go n f (8 * 2 ^ m) = 8 * 2 ^ m' ∧ n < 8 * 2 ^ m' ∧ (m' = 0 ∨ 8 * 2 ^ m' ≤ 2 * n)
  | 0, m, h, q => ⟨m, rfl, by rwa [Nat.pow_zero, Nat.mul_one] at h, q⟩
  | f + 1, m, h, q => by
    unfold SetTable.sizeAbove.go
    split
    · rename_i c
      have e : 8 * 2 ^ m * 2 = 8 * 2 ^ (m + 1) := by rw [Nat.pow_succ, Nat.mul_assoc]
      rw [e]
      exact above_go f (m + 1) (by rw [← e, Nat.mul_assoc, Nat.mul_comm 2, ← Nat.pow_succ]; exact h) (.inr (by rw [← e]; (first | lia | omega)))
    · rename_i c; exact in_xpp m rfl (by (first | lia | omega)) q
theorem above_of (h : n < 2 ^ 60) : ∃ m, SetTable.sizeAbove n = 8 * 2 ^ m ∧ n < 8 * 2 ^ m ∧ (m = 0 ∨ 8 * 2 ^ m ≤ 2 * n) := above_go 64 0 (Nat.lt_of_lt_of_le h (by decide)) (.inl rfl)
theorem fmap_all {α β : Type} {f : α → Option β} : ∀ {l : List α}, (∀ x ∈ l, (f x).isSome = true) → (l.filterMap f).length = l.length
  | [], _ => rfl
  | x :: l, h => by
    refine el_x (Option.isSome_iff_exists.mp (h x (.head _))) fun y e => ?_
    rw [List.filterMap_cons_some e, List.length_cons, List.length_cons, fmap_all fun z hz => h z (.tail _ hz)]
theorem relaid_of {t : SetTable} {hs : Array Int} (hn : hs.size = n) (h0 : 0 < n) (h1 : n < 50000) : ∃ t' order, t.relaid hs (SetTable.grown n) = some (t', order) ∧ Tb t' n ∧ t'.led = t.led ∧ order.size = n ∧ (∀ i ∈ order, i < n) ∧ SetTable.sizeAbove (SetTable.grown n) ≤ 400000 := by
  have hg : SetTable.grown n = n * 4 := if_neg (by (first | lia | omega))
  refine el_xpp (above_of (n := n * 4) (by (first | lia | omega))) fun m em hm ml => ?_
  have hp : 8 * 2 ^ m = 2 ^ (3 + m) := by rw [Nat.pow_add]
  have hM : SetTable.sizeAbove (SetTable.grown n) - 1 + 1 = 2 ^ (3 + m) := by rw [hg, em, hp]; have := Nat.pow_pos (n := 3 + m) (show 0 < 2 by decide); (first | lia | omega)
  have hb : n * 4 < 2 ^ (3 + m) := by rw [← hp]; exact hm
  have up : SetTable.sizeAbove (SetTable.grown n) ≤ 400000 := by rw [hg, em]; rcases ml with z | z; subst z; decide; (first | lia | omega)
  unfold SetTable.relaid
  generalize SetTable.sizeAbove (SetTable.grown n) - 1 = M at hM ⊢
  refine el_xp (clean_of hM hs (by (first | lia | omega))) fun owner e L => ?_
  rw [hn] at L
  generalize hlive : ((List.range (M + 1)).filterMap fun j => (owner.getD j none).map (j, ·)) = live
  have ll : live.length = n := by
    have eo : occ owner.toList = (List.range (M + 1)).filter fun j => (owner.toList.getD j none).isSome := by
      unfold occ; rw [show owner.toList.length = M + 1 from Array.length_toList.trans L.size]
    rw [← hlive, List.length_filterMap_eq_countP, ← L.cnt, ← occ_len, eo, List.countP_eq_length_filter]
    refine congrArg List.length (List.filter_congr fun j _ => ?_)
    rw [Option.isSome_map, List.getD_eq_getElem?_getD, Array.getElem?_toList, Array.getD_eq_getD_getElem?]
  refine ⟨{ mask := M, place := (live.map (·.1)).toArray, dummies := #[], finger := t.finger, led := t.led, moves := t.movedTo M, plain := t.plain }, (live.map (·.2)).toArray, ?_, ⟨?_, rfl, ⟨3 + m, hM, by (first | lia | omega)⟩, ?_⟩, rfl, ?_, fun i hi => ?_, up⟩
  · unfold SetTable.laid
    rw [e]
    show some _ = some _
    rw [hlive]
  · show (live.map (·.1)).toArray.size = n
    rw [List.size_toArray, List.length_map, ll]
  · show n * 5 < M * 3
    (first | lia | omega)
  · rw [List.size_toArray, List.length_map, ll]
  · have hi := List.mem_toArray.mp hi
    refine el_xp (List.mem_map.mp hi) fun x hx tqz => ?_; subst tqz
    rw [← hlive] at hx
    refine el_xp (List.mem_filterMap.mp hx) fun j _ hj => ?_
    refine el_xp (Option.map_eq_some_iff.mp hj) fun i h1 tqz => ?_; subst tqz
    refine L.idx j i ?_
    rw [Array.getD_eq_getD_getElem?] at h1
    cases z : owner[j]? with
    | none => rw [z] at h1; cases h1
    | some y => rw [z] at h1; exact congrArg some h1
end
end Mine
end

section
/-! sets of tuples of whole numbers -/
namespace Mine
open PySem PyProof.Rows
set_option maxRecDepth 100000
section
variable {prog : Program} {w : World} {A : Around} {E : Value → Shared → Prop} {s : Shared} {a b : Addr} {is js : List Int}
theorem quiet_class (hk : IsTupleKey (intKind prog w) s.heap is b) {Q : Bool → Shared → Prop} (h : Q false s) : wpAny (model prog w) A (ofAClassStatement 8 (.ref b)) Q E s := by
  have hT := hk.typeIs
  refine el_xxxppp hk fun o items n ho _ hd hi => ?_; try clear hk
  unfold ofAClassStatement
  refine wpAny_bind (wpAny_typeOf hT ?_)
  dsimp only
  rw [if_pos (by decide)]
  refine wpAny_bind (wpAny_pure ?_)
  simp only [Bool.not_true, Bool.false_eq_true, if_false]
  refine wpAny_bind (wpAny_seqItems ho hd ?_)
  dsimp only
  refine wpAny_bind ?_
  show wpAny _ _ (forIn items _ _) _ _ s
  rw [← Array.forIn_toList]
  refine wpAny_forIn_list _ (fun rest r s' => r.1 = none ∧ s' = s ∧ ∀ v ∈ rest, carriedByValue v = true) _ ?_ ?_ _ _ ⟨rfl, rfl, hi.byValue⟩
  · rintro v rest r s' ⟨hr, rfl, hall⟩
    have hv := hall v List.mem_cons_self
    have e : ofAClassStatement 7 v = pure false := by cases v <;> first | rfl | exact absurd hv (by decide) | cases hv
    rw [e]
    refine wpAny_bind (wpAny_pure ?_)
    simp only [Bool.false_eq_true, if_false]
    exact wpAny_pure ⟨rfl, rfl, fun u hu' => hall u (List.mem_cons_of_mem _ hu')⟩
  · rintro ⟨r1, r2⟩ s' ⟨hr, rfl, _⟩
    simp only at hr
    subst hr
    exact wpAny_pure h
theorem unseen (hk : IsTupleKey (intKind prog w) s.heap is b) {ys : List Value} (hy : ∀ y ∈ ys, ∃ c js, y = .ref c ∧ IsTupleKey (intKind prog w) s.heap js c) {Q : Bool → Shared → Prop} (h : Q false s) : wpAny (model prog w) A (searchCouldBeSeen (.ref b) ys) Q E s := by
  unfold searchCouldBeSeen
  refine wpAny_bind ?_
  refine wpAny_forIn_list _ (fun rest r s' => r = (none, ()) ∧ s' = s ∧ ∀ y ∈ rest, ∃ c js, y = .ref c ∧ IsTupleKey (intKind prog w) s.heap js c) _ ?_ ?_ _ _ ⟨rfl, rfl, hy⟩
  · rintro v rest r s' ⟨rfl, rfl, hall⟩
    refine el_xxp (hall v List.mem_cons_self) fun c js tq2 hc => ?_; subst tq2
    dsimp only
    split
    · exact wpAny_pure ⟨rfl, rfl, fun u hu' => hall u (List.mem_cons_of_mem _ hu')⟩
    · refine wpAny_bind (wpAny_eqIsQuiet_tuple hk ?_)
      simp only [Bool.not_true, Bool.false_eq_true, if_false]
      refine wpAny_bind (wpAny_eqIsQuiet_tuple hc ?_)
      simp only [Bool.not_true, Bool.false_eq_true, if_false]
      refine wpAny_bind (quiet_class hk ?_)
      simp only [Bool.false_eq_true, if_false]
      refine wpAny_bind (quiet_class hc ?_)
      simp only [Bool.false_eq_true, if_false]
      exact wpAny_pure ⟨rfl, rfl, fun u hu' => hall u (List.mem_cons_of_mem _ hu')⟩
  · rintro r s' ⟨rfl, rfl, _⟩
    exact wpAny_pure h
structure SetAt (prog : Program) (w : World) (h : Heap) (a : Addr) (ks : List (List Int)) (es : Array (Int × Value)) (ep : Nat) (t : SetTable) : Prop where
  ob : h.get? a = some { cls := .type "set", dict := none, data := .set es ep t }
  tb : Tb t es.size
  sz : es.size = ks.length
  el : ∀ e ∈ es.toList, ∃ is ∈ ks, ∃ b, e.2 = .ref b ∧ IsTupleKey (intKind prog w) h is b
theorem Tb.fits {t : SetTable} {n : Nat} (T : Tb t n) (h : n ≤ t.mask) : t.fits n = true := by
  unfold SetTable.fits; rw [T.size, T.fill]; simp [h]
theorem Tb.le {t : SetTable} {n : Nat} (T : Tb t n) : n + 1 ≤ t.mask := by
  refine el_xp (T.two) fun k hk h3 => ?_
  have : 2 ^ 3 ≤ 2 ^ k := Nat.pow_le_pow_right (by decide) h3
  have := T.room
  (first | lia | omega)
theorem Tb.noWay {t : SetTable} {n : Nat} (T : Tb t n) : t.gaveWay = false := by
  refine el_xp (T.two) fun k hk h3 => ?_
  unfold SetTable.gaveWay
  obtain ⟨j, rfl⟩ : ∃ j, k = j + 1 := ⟨k - 1, by (first | lia | omega)⟩
  rw [Nat.pow_succ] at hk
  exact beq_eq_false_iff_ne.mpr (by (first | lia | omega))
theorem SetAt.state {ks : List (List Int)} {es : Array (Int × Value)} {ep : Nat} {t : SetTable} (S : SetAt prog w s.heap a ks es ep t) {Q : (Array (Int × Value) × Nat × SetTable) → Shared → Prop} (h : Q (es, ep, t) s) : wpAny (model prog w) A (setState a) Q E s :=
  wpAny_setState_of S.ob rfl (S.tb.fits (Nat.le_of_succ_le S.tb.le)) h
theorem same_ref {M : Model} {c : Addr} {R : Bool → Shared → Prop} (h : R true s) : wpAny M A (isSame (.ref c) (.ref c)) R E s := by
  show wpAny M A (if (c == c) = true then pure true else _) R E s
  rw [if_pos (beq_self_eq_true c)]
  exact wpAny_pure h
theorem srch {ks : List (List Int)} {es : Array (Int × Value)} {ep : Nat} {t : SetTable} {hh : Int} {Q : SetFound → Shared → Prop} (S : SetAt prog w s.heap a ks es ep t) (hk : IsTupleKey (intKind prog w) s.heap is b) (hn : is ∉ ks) (hu : A.units < cLine) (hQ : ∀ j, t.slot j = .empty → Q (.free j false) s) :
    ∀ (f d : Nat) (p : Option SetTable.Probe), d < f → d < 10 * (t.mask + 15) → Ahead t (p.getD (t.probeStart hh)) d → wpAny (model prog w) A (setSearchFrom a (.ref b) hh true f p) Q E s
  | 0, _, _, l, _, _ => absurd l (Nat.not_lt_zero _)
  | f + 1, d, p, l, l2, ah => by
    refine wpAny_bind (S.state ?_)
    dsimp only
    rw [S.tb.noWay, if_neg Bool.false_ne_true]
    have M := probe_meet (hashAt := fun i => (es[i]?.map (·.1)).getD 0) (h := hh) S.tb.dum l2 ah
    show wpAny _ _ (match t.probe (fun i => (es[i]?.map (·.1)).getD 0) hh (p.getD (t.probeStart hh)) with | some met => _ | _ => _) _ _ _
    generalize t.probe (fun i => (es[i]?.map (·.1)).getD 0) hh (p.getD (t.probeStart hh)) = o at M
    cases M with
    | empty e => exact wpAny_pure (hQ _ e)
    | @cand j i d' next e hi hd a' =>
      dsimp only
      refine el_pxp (slot_live S.tb.dum (show t.slot j ≠ .empty by rw [e]; exact nofun)) fun _ i' ei hp => ?_
      rw [e] at ei; cases ei
      have hlt : i < es.size := by rw [← S.tb.size]; exact (Array.getElem?_eq_some_iff.mp hp).1
      refine el_xpxp (S.el es[i] (by rw [← Array.getElem_toList]; exact List.getElem_mem _)) fun js hj c ec hc => ?_
      have key : es[i]? = some (es[i].1, .ref c) := by rw [Array.getElem?_eq_getElem hlt, ← ec]
      have sm : t.sameMemory t.moves t.mask = some true := by unfold SetTable.sameMemory; rw [if_pos (beq_self_eq_true _)]
      have all : ∀ y ∈ List.map (fun x => x.snd) (Array.filter (fun x => x.fst == hh) es).toList, ∃ c js, y = .ref c ∧ IsTupleKey (intKind prog w) s.heap js c := fun y hy => by
        refine el_xp (List.mem_map.mp hy) fun e he tqz => ?_; subst tqz
        rw [Array.toList_filter] at he
        refine el_xpxp (S.el e (List.mem_filter.mp he).1) fun js _ c q1 q2 => ?_
        exact in_xxp c js q1 q2
      have nxt := srch (hh := hh) S hk hn hu hQ f d' (some next) (by (first | lia | omega)) (by (first | lia | omega)) a'
      rw [key]
      cases t.led with
      | false =>
        rw [if_pos (show (!false) = true from rfl)]
        refine wpAny_bind (unseen hk all ?_)
        rw [if_neg Bool.false_ne_true]
        dsimp only
        refine wpAny_bind (wpAny_holding (wpAny_eqBool_tuple hu hc hk ?_))
        rw [decide_eq_false (show ¬ js = is from fun z => hn (z ▸ hj))]
        refine wpAny_bind (S.state ?_)
        dsimp only
        rw [if_neg (by decide), sm]
        dsimp only
        rw [if_pos rfl, e]
        dsimp only
        rw [key]
        dsimp only
        refine wpAny_bind (same_ref ?_)
        rw [if_pos rfl]
        refine wpAny_bind (wpAny_pure ?_)
        dsimp only
        rw [if_neg Bool.false_ne_true]
        exact nxt
      | true =>
        rw [if_neg (by decide)]
        dsimp only
        refine wpAny_bind (wpAny_holding (wpAny_eqBool_tuple hu hc hk ?_))
        rw [decide_eq_false (show ¬ js = is from fun z => hn (z ▸ hj))]
        refine wpAny_bind (S.state ?_)
        dsimp only
        rw [if_neg (by decide), sm]
        dsimp only
        rw [if_pos rfl, e]
        dsimp only
        rw [key]
        dsimp only
        refine wpAny_bind (same_ref ?_)
        rw [if_pos rfl]
        refine wpAny_bind (wpAny_pure ?_)
        dsimp only
        rw [if_neg Bool.false_ne_true]
        exact nxt
theorem hash_val (hk : IsTupleKey (intKind prog w) s.heap is b) {Q : Bool → Shared → Prop} (h : Q true s) : wpAny (model prog w) A (hashByValue 8 (.ref b)) Q E s := by
  have hT := hk.typeIs
  refine el_xxxppp hk fun o items n ho _ hd hi => ?_; try clear hk
  have hv : ∀ v ∈ items.toList, hashByValue 7 v = pure true := by
    generalize items.toList = l at hi
    clear hd ho
    induction hi with
    | nil => exact fun _ q => nomatch q
    | cons q _ ih =>
      intro v hv
      rcases List.mem_cons.mp hv with e | e
      · subst e
        cases v <;> first | rfl | exact absurd q (by simp [intKind, Value.isInt])
      · exact ih v e
  unfold hashByValue
  refine wpAny_bind (wpAny_specialOf hT F.slot_tuple_hash.lookup ?_)
  dsimp only
  refine wpAny_bind (wpAny_seqItems ho hd ?_)
  refine wpAny_bind ?_
  show wpAny _ _ (forIn items _ _) _ _ s
  rw [← Array.forIn_toList]
  refine wpAny_forIn_list _ (fun rest r s' => r.1 = none ∧ s' = s ∧ ∀ v ∈ rest, hashByValue 7 v = pure true) _ ?_ ?_ _ _ ⟨rfl, rfl, hv⟩
  · rintro v rest r s' ⟨hr, rfl, hall⟩
    rw [hall v List.mem_cons_self]
    refine wpAny_bind (wpAny_pure ?_)
    simp only [Bool.not_true, Bool.false_eq_true, if_false]
    exact wpAny_pure ⟨rfl, rfl, fun u hu' => hall u (List.mem_cons_of_mem _ hu')⟩
  · rintro ⟨r1, r2⟩ s' ⟨hr, rfl, _⟩
    simp only at hr
    subst hr
    exact wpAny_pure h
theorem set_add {ks : List (List Int)} {es : Array (Int × Value)} {ep : Nat} {t : SetTable} {Q : Bool → Shared → Prop} (S : SetAt prog w s.heap a ks es ep t) (hk : IsTupleKey (intKind prog w) s.heap is b) (hn : is ∉ ks) (hu : A.units < cLine) (few : ks.length < 9000)
    (hQ : ∀ h' tk es' ep' t', SetAt prog w h' a (ks ++ [is]) es' ep' t' → (∀ c o, c ≠ a → s.heap.get? c = some o → h'.get? c = some o) → Q true { s with heap := h', toks := tk }) : wpAny (model prog w) A (setAdd a (.ref b)) Q E s := by
  unfold setAdd
  refine wpAny_holding (wpAny_bind (wpAny_pyHash_tuple hu hk ?_))
  generalize tupleKeyHash (intKind prog w) is = hh
  generalize s.toks + (is.length + 1) = tk
  have S1 : SetAt prog w ({ s with toks := tk } : Shared).heap a ks es ep t := S
  have hk1 : IsTupleKey (intKind prog w) ({ s with toks := tk } : Shared).heap is b := hk
  unfold setAddHashed
  refine wpAny_holding ?_
  show wpAny _ _ (setAddHashedIn a (.ref b) hh (99999 + 1)) _ _ _
  unfold setAddHashedIn
  refine wpAny_bind (S1.state ?_)
  dsimp only
  rw [if_neg (show ¬ byScan (.ref b) es = true from Bool.false_ne_true)]
  refine el_xp (ahead_start S.tb (Nat.lt_of_succ_le S.tb.le) hh) fun d hd ah => ?_
  have hs := S.sz
  have hle := S.tb.le
  unfold setSearch
  refine wpAny_bind (srch S1 hk1 hn hu (fun j ej => ?_) 100000 d none (by (first | lia | omega)) (by (first | lia | omega)) ah)
  dsimp only
  refine wpAny_bind (S1.state ?_)
  dsimp only
  refine el_ppp (put_size (t := t) (j := j) S.tb.dum) fun p1 p2 p3 p4 => ?_
  have p5 : (t.put j).1.led = t.led := rfl
  generalize t.put j = tp at p1 p2 p3 p4 p5
  obtain ⟨t1, p⟩ := tp
  dsimp only at p1 p2 p3 p4 p5
  rw [S.tb.size] at p1 p4
  have ne : b ≠ a := fun z => by
    refine el_xxxpp hk fun o _ _ q1 q2 _ => ?_; try clear hk
    rw [z, S.ob] at q1; cases q1; exact absurd q2 (by simp)
  have isz : (SetTable.insertAt es p (hh, Value.ref b)).size = es.size + 1 := insert_size p4
  have keep1 : ∀ c, c ≠ a → (s.heap.update a (Obj.putSet (SetTable.insertAt es p (hh, Value.ref b)) t1)).get? c = s.heap.get? c := fun c hc => Heap.get?_update_other _ _ (Ne.symm hc)
  have ob1 : (s.heap.update a (Obj.putSet (SetTable.insertAt es p (hh, Value.ref b)) t1)).get? a = some { cls := .type "set", dict := none, data := .set (SetTable.insertAt es p (hh, Value.ref b)) (ep + 1) t1 } := Heap.get?_update_self _ S.ob rfl
  have tk1 : ∀ {h' : Heap}, (∀ c, c ≠ a → h'.get? c = s.heap.get? c) → ∀ {ls c}, IsTupleKey (intKind prog w) s.heap ls c → IsTupleKey (intKind prog w) h' ls c := fun {h'} hk' {ls c} q => by
    refine el_xxxpp q fun o items n q1 q2 q3 => ?_; try clear q
    refine in_xxxpp o items n ?_ q2 q3
    rw [hk' c fun z => by rw [z, S.ob] at q1; cases q1; exact absurd q2 (by simp)]; exact q1
  have el1 : ∀ {h' : Heap}, (∀ c, c ≠ a → h'.get? c = s.heap.get? c) → ∀ e ∈ (SetTable.insertAt es p (hh, Value.ref b)).toList, ∃ ls ∈ ks ++ [is], ∃ c, e.2 = .ref c ∧ IsTupleKey (intKind prog w) h' ls c := fun {h'} hk' e he => by
    rw [insert_list p4] at he
    have : e ∈ es.toList ∨ e = (hh, Value.ref b) := by
      rcases List.mem_append.mp he with q | q
      · exact .inl (List.mem_of_mem_take q)
      · rcases List.mem_cons.mp q with q | q
        · exact .inr q
        · exact .inl (List.mem_of_mem_drop q)
    rcases this with q | q
    · refine el_xpxp (S.el e q) fun ls h1 c h2 h3 => ?_
      exact in_xpxp ls (List.mem_append_left _ h1) c h2 (tk1 hk' h3)
    · subst q
      exact in_xpxp is (List.mem_append_right _ (.head _)) b rfl (tk1 hk' hk)
  have rest : wpAny (model prog w) A (do
      storeSet a (SetTable.insertAt es p (hh, Value.ref b)) t1
      if (!false && t1.tooFull) = true then do setRelay a (SetTable.grown (es.size + 1)); pure true else pure true) Q E { s with toks := tk } := by
    refine wpAny_bind (wpAny_storeSet_of S1.ob rfl ?_ (by rw [isz, sizeLine_eq]; (first | lia | omega)))
    have fl : t1.fill = es.size + 1 := by unfold SetTable.fill; rw [p1, p2]; rfl
    refine el_xp (S.tb.two) fun k k1 k2 => ?_
    by_cases q : t1.tooFull = true
    · rw [q, if_pos (show (!false && true) = true from rfl)]
      obtain ⟨t2, order, r1, r2, r3, r4, r5, r6⟩ := relaid_of (t := t1) (hs := (SetTable.insertAt es p (hh, Value.ref b)).map (·.1)) (n := es.size + 1) (by rw [Array.size_map, isz]) (Nat.succ_pos _) (by (first | lia | omega))
      have o1 : ({ s with heap := s.heap.update a (Obj.putSet (SetTable.insertAt es p (hh, Value.ref b)) t1), toks := tk } : Shared).heap.get? a = _ := ob1
      have ft : t1.fits (SetTable.insertAt es p (hh, Value.ref b)).size = true := by unfold SetTable.fits; rw [p1, isz, fl, p3]; simp; (first | lia | omega)
      have os : (order.filterMap (fun i => (SetTable.insertAt es p (hh, Value.ref b))[i]?)).size = es.size + 1 := by
        rw [← Array.length_toList, Array.toList_filterMap, fmap_all (fun i hi => ?_), Array.length_toList, r4]
        rw [Array.getElem?_eq_getElem (by rw [isz]; exact r5 i (Array.mem_toList_iff.mp hi))]; rfl
      unfold setRelay
      refine wpAny_bind (wpAny_bind (wpAny_setState_of o1 rfl ft ?_))
      dsimp only
      rw [if_neg (by rw [sizeLine_eq]; (first | lia | omega))]
      refine wpAny_bind ?_
      rw [r1]
      show wpAny _ _ (if ((order.filterMap (fun i => (SetTable.insertAt es p (hh, Value.ref b))[i]?)).size != (SetTable.insertAt es p (hh, Value.ref b)).size) = true then _ else _) _ _ _
      rw [os, isz, if_neg (by simp)]
      refine wpAny_pure ?_
      dsimp only
      refine wpAny_storeSet_of o1 rfl (wpAny_pure ?_) (by rw [os, sizeLine_eq]; (first | lia | omega))
      have kp : ∀ c, c ≠ a → ((s.heap.update a (Obj.putSet (SetTable.insertAt es p (hh, Value.ref b)) t1)).update a (Obj.putSet (order.filterMap (fun i => (SetTable.insertAt es p (hh, Value.ref b))[i]?)) t2)).get? c = s.heap.get? c := fun c hc => (Heap.get?_update_other _ _ (Ne.symm hc)).trans (keep1 c hc)
      refine hQ _ tk _ (ep + 1 + 1) t2 ⟨Heap.get?_update_self _ ob1 rfl, by rw [os]; exact r2, by rw [os, hs, List.length_append]; rfl, fun e he => ?_⟩ fun c o hc e => by rw [kp c hc]; exact e
      rw [Array.toList_filterMap] at he
      refine el_xp (List.mem_filterMap.mp he) fun i _ hi => ?_
      exact el1 kp e (List.mem_of_getElem? (by rw [Array.getElem?_toList]; exact hi))
    · rw [Bool.not_eq_true] at q
      rw [q, if_neg (by decide)]
      refine wpAny_pure (hQ _ tk _ (ep + 1) t1 ⟨ob1, ⟨by rw [isz]; exact p1, p2, ⟨k, by rw [p3]; exact k1, k2⟩, ?_⟩, by rw [isz, hs, List.length_append]; rfl, el1 keep1⟩ fun c o hc e => by rw [keep1 c hc]; exact e)
      unfold SetTable.tooFull at q
      rw [fl] at q
      have := of_decide_eq_false q
      rw [isz]; (first | lia | omega)
  dsimp only
  split
  · refine wpAny_bind (hash_val hk1 ?_)
    rw [if_pos rfl]
    exact rest
  · refine wpAny_bind (wpAny_pure ?_)
    rw [if_pos rfl]
    exact rest
end
end Mine
end

section
/-! a set is made of a list of tuples; how many it holds -/
namespace Mine
open PySem PyProof.Rows
set_option maxRecDepth 100000
section
variable {prog : Program} {w : World} {A : Around} {E : Value → Shared → Prop} {s : Shared}
theorem SetAt.move {h h' : Heap} {a : Addr} {ks : List (List Int)} {es : Array (Int × Value)} {ep : Nat} {t : SetTable} (S : SetAt prog w h a ks es ep t) (k : ∀ c o, h.get? c = some o → o.cls = .type "tuple" ∨ c = a → h'.get? c = some o) : SetAt prog w h' a ks es ep t :=
  ⟨k _ _ S.ob (.inr rfl), S.tb, S.sz, fun e he => let ⟨is, h1, b, h2, o, its, n, h3, h4, h5⟩ := S.el e he; ⟨is, h1, b, h2, o, its, n, k _ _ h3 (.inl h4), h4, h5⟩⟩
theorem set_loop {R : Result → Shared → Prop} {l I a : Addr} {h₀ : Heap} {items : Array Value} {ks : List (List Int)} (hh : A.in1.handled = none) (hu : A.in1.units < cLine) (hl : h₀.IsList l items) (nI : h₀.get? I = none) (na : h₀.get? a = none) (nIa : I ≠ a)
    (hz : ks.length = items.size) (few : ks.length < 9000) (nd : ks.Nodup) (hk : ∀ (i : Nat) v, items[i]? = some v → ∃ is b, ks[i]? = some is ∧ v = .ref b ∧ IsTupleKey (intKind prog w) h₀ is b) :
    ∀ (k i : Nat) (s : Shared) (es : Array (Int × Value)) (ep : Nat) (t : SetTable), items.size - i = k → i ≤ items.size → (∀ c o, h₀.get? c = some o → s.heap.get? c = some o) → SetAt prog w s.heap a (ks.take i) es ep t → s.heap.IsListIter I l i →
      (∀ h' tk es ep t, (∀ c o, h₀.get? c = some o → h'.get? c = some o) → SetAt prog w h' a ks es ep t → R (.ok (.ret .none)) { s with heap := h', toks := tk }) →
      codeAny (model prog w) A (.builtin "set.update.loop" ⟨[.ref a, .ref I], []⟩) R s := by
  have kl : ∀ {h : Heap}, (∀ c o, h₀.get? c = some o → h.get? c = some o) → h.IsList l items := fun {h} q => by refine el_xpp hl fun o h1 h2 h3 => ?_; try clear hl; exact in_xpp o (q _ _ h1) h2 h3
  intro k
  induction k with
  | zero =>
    intro i s es ep t hk0 hi keep S it fin
    have hin : i = items.size := by (first | lia | omega)
    refine codeAny_builtin F.entry_set_update_loop ?_
    rw [Around.under_plainId F.plain_set_update_loop _]
    show wpAny _ A.in1 (pyNext (.ref I) >>= _) _ _ s
    refine wpAny_bind (wpAny_pyNext_list_end hh it (kl keep) (by rw [hin]; exact Array.getElem?_eq_none (Nat.le_refl _)) fun h' e2 => ?_)
    show wpAny _ A.in1 (ret Value.none) _ _ _
    refine wpAny_pure (fin h' s.toks es ep t (fun c o e => e2 c o (fun z => by rw [z, nI] at e; cases e) (keep c o e)) ?_)
    rw [hin, ← hz, List.take_length] at S
    exact S.move fun c o e q => e2 c o (fun z => by
      refine el_xpp it fun oI e1 e3 _ => ?_; try clear it
      rw [z, e1] at e; cases e
      rcases q with q | q
      · rw [e3] at q; exact absurd q (by simp)
      · exact nIa (z ▸ q)) e
  | succ k ih =>
    intro i s es ep t hk0 hi keep S it fin
    have hlt : i < items.size := by (first | lia | omega)
    refine el_xxpp (hk i items[i] (Array.getElem?_eq_getElem hlt)) fun is b k1 k2 k3 => ?_
    have itc := it
    refine codeAny_builtin F.entry_set_update_loop ?_
    rw [Around.under_plainId F.plain_set_update_loop _]
    show wpAny _ A.in1 (pyNext (.ref I) >>= _) _ _ s
    refine wpAny_bind (wpAny_pyNext_list_item it (kl keep) (Array.getElem?_eq_getElem hlt) fun h' e1 e2 => ?_)
    rw [k2]
    have keep1 : ∀ c o, h₀.get? c = some o → h'.get? c = some o := fun c o e => e2.extBut c o (fun z => by rw [z, nI] at e; cases e) (keep c o e)
    have S1 : SetAt prog w h' a (ks.take i) es ep t := S.move fun c o e q => e2.extBut c o (fun z => by
      refine el_xpp itc fun oI e1 e3 _ => ?_; try clear itc
      rw [z, e1] at e; cases e
      rcases q with q | q
      · rw [e3] at q; exact absurd q (by simp)
      · exact nIa (z ▸ q)) e
    have hk' : IsTupleKey (intKind prog w) h' is b := by refine el_xxxp k3 fun o its n q1 q2 => ?_; try clear k3; exact in_xxxp o its n (keep1 _ _ q1) q2
    have hn : is ∉ ks.take i := fun z => by
      have hi' : i < ks.length := by (first | lia | omega)
      rw [← List.take_append_drop i ks, List.drop_eq_getElem_cons hi'] at nd
      have e : ks[i] = is := by rw [List.getElem?_eq_getElem hi'] at k1; exact Option.some.inj k1
      exact (List.nodup_append.mp nd).2.2 _ z _ (.head _) e.symm
    show wpAny _ A.in1 (holding [Value.ref b] (setAdd a (.ref b)) >>= _) _ _ { s with heap := h' }
    refine wpAny_bind (wpAny_holding (set_add (s := { s with heap := h' }) S1 hk' hn hu (by rw [List.length_take]; (first | lia | omega)) fun h'' tk es' ep' t' S2 kp => ?_))
    rw [show ks.take i ++ [is] = ks.take (i + 1) from by rw [List.take_add_one, k1]; rfl] at S2
    refine wpAny_pure ⟨plainId_quiet F.plain_set_update_loop _, ih (i + 1) { s with heap := h'', toks := tk } es' ep' t' (by (first | lia | omega)) hlt (fun c o e => kp c o (fun z => by rw [z, na] at e; cases e) (keep1 c o e)) S2 ?_ fun h3 tk3 es3 ep3 t3 q1 q2 => fin h3 tk3 es3 ep3 t3 q1 q2⟩
    refine el_xp e1 fun oI q1 q2 => ?_; try clear e1
    exact in_xp oI (kp _ _ nIa q1) q2
theorem tb_fresh {led : Bool} : Tb (.fresh 0 0 led) 0 := ⟨rfl, rfl, ⟨3, rfl, Nat.le_refl _⟩, (by decide : 0 * 5 < 7 * 3)⟩
set_option maxHeartbeats 3200000 in
theorem set_of {l : Addr} {items : Array Value} {ks : List (List Int)} {Q : Value → Shared → Prop} (hh : A.handled = none) (hu : A.in1.in1.in1.units < cLine) (hl : s.heap.IsList l items) (hz : ks.length = items.size) (few : ks.length < 9000) (nd : ks.Nodup)
    (hk : ∀ (i : Nat) v, items[i]? = some v → ∃ is b, ks[i]? = some is ∧ v = .ref b ∧ IsTupleKey (intKind prog w) s.heap is b)
    (h : ∀ h' tk es ep t, SetAt prog w h' s.heap.objs.size ks es ep t → (∀ c o, s.heap.get? c = some o → h'.get? c = some o) → Q (.ref s.heap.objs.size) { s with heap := h', toks := tk }) :
    wpAny (model prog w) A (call (.type "set") [.ref l]) Q E s := by
  refine el_xx (PySem.F.called_set.mro) fun c tl hmro => ?_
  have hmade := PySem.F.called_set.made
  have hsub := PySem.F.called_set.sub
  refine wpAny_call (codeAny_of_tree ?_)
  show wpAny _ _ (callAny (.type "set") _) _ _ _
  refine wpAny_pure ⟨Code.quiet_builtin _ (by decide +kernel), codeAny_builtin PySem.F.entry_type_call ?_⟩
  rw [Around.under_plain (weight_type_call_type "set" [.ref l] []) rfl]
  have h1 := PySem.F.called_set.notType
  have h2 := PySem.F.called_set.canCreate
  have hct := PySem.F.typeCall_set_1 (.ref l)
  repeat (any_goals (first | assumption | wp_step))
  refine codeAny_mono (code_set_new_1 (.ref l) (E := E) (Q₁ := fun obj s₁ => ∃ led : Bool, obj = .ref s.heap.objs.size ∧ s₁ = { s with heap := s.heap.push { cls := .type "set", dict := none, data := .set #[] 0 (.fresh 0 0 led) } }) fun led => ⟨led, rfl, rfl⟩) fun r s₁ hr => ?_
  cases r with
  | error e => exact hr
  | ok fl =>
    cases fl with
    | ret obj =>
      refine el_xp hr fun led tq1 tqz => ?_; try clear hr; subst tq1; subst tqz
      have hS : (s.heap.push { cls := .type "set", dict := none, data := .set #[] 0 (.fresh 0 0 led) }).get? s.heap.objs.size = some { cls := .type "set", dict := none, data := .set #[] 0 (.fresh 0 0 led) } := Heap.get?_push_size _ rfl
      have hT : Shared.TypeIs { s with heap := s.heap.push { cls := .type "set", dict := none, data := .set #[] 0 (.fresh 0 0 led) } } (.ref s.heap.objs.size) "set" := ⟨_, hS, rfl⟩
      have hli := PySem.F.called_set.init.lookup
      have hbi := PySem.F.called_set.init.bind (.ref s.heap.objs.size)
      repeat (any_goals (first | assumption | wp_step))
      refine codeAny_mono (codeAny_call_builtin (R := wants (fun r s₂ => r = .none ∧ ∃ h' tk es ep t, s₂ = { s with heap := h', toks := tk } ∧ SetAt prog w h' s.heap.objs.size ks es ep t ∧ (∀ c o, s.heap.get? c = some o → h'.get? c = some o)) E) PySem.F.called_set.init.plain PySem.F.entry_set_init (check_set_init_1 hT ?_)) fun r₂ s₂ hr₂ => ?_
      · refine el_xppx (id hl) fun ol hol hcl nl hdl => ?_
        obtain ⟨ocls, odict, odata, oslots⟩ := ol
        simp only at hcl hdl
        subst hcl; subst hdl
        have hol' : (s.heap.push { cls := .type "set", dict := none, data := .set #[] 0 (.fresh 0 0 led) }).get? l = some { cls := .type "list", dict := odict, data := .seq items nl, slots := oslots } := Heap.get?_push_of_some _ hol
        have hsls := PySem.F.sub_list_set
        have hslf := PySem.F.sub_list_frozenset
        have hne : (Value.type "list" == Value.type "dict") = false := by decide
        have hl1 : (s.heap.push { cls := .type "set", dict := none, data := .set #[] 0 (.fresh 0 0 led) }).IsList l items := ⟨_, hol', rfl, nl, rfl⟩
        unfold Builtin.«set.__init__» noKeywords Builtin.Frozenset.updateFrom
        generalize hPI : pyIter = PI
        wp_walk
        subst hPI
        refine wpAny_pyIter_list hl1 ?_
        refine wpAny_bind (wpAny_runValue ?_)
        have hh3 : A.in1.in1.in1.handled = none := by simp [hh]
        have up : ∀ c o, s.heap.get? c = some o → ((s.heap.push { cls := .type "set", dict := none, data := .set #[] 0 (.fresh 0 0 led) }).push { cls := .type "list_iterator", data := .fields #[.ref l, .int 0 0] }).get? c = some o := fun c o e => Heap.get?_push_of_some _ (Heap.get?_push_of_some _ e)
        refine set_loop (h₀ := s.heap) (I := (s.heap.push { cls := .type "set", dict := none, data := .set #[] 0 (.fresh 0 0 led) }).objs.size) (ks := ks) (items := items) hh3 ?hu3 hl (Heap.get?_none_of_le (by rw [Heap.size_push]; exact Nat.le_succ _)) (Heap.get?_none_of_le (Nat.le_refl _)) (by rw [Heap.size_push]; exact Nat.succ_ne_self _) hz few nd hk
          items.size 0 _ #[] 0 (.fresh 0 0 led) (Nat.sub_zero _) (Nat.zero_le _) up ⟨Heap.get?_push_of_some _ hS, tb_fresh, rfl, fun e he => nomatch he⟩ ⟨_, Heap.get?_push_size _ rfl, rfl, rfl⟩ fun h' tk es ep t q1 q2 => ?_
        case hu3 => exact hu
        show wpAny _ _ _ _ _ _
        refine wpAny_pure ?_
        show wpAny _ _ (ret Value.none) _ _ _
        exact wpAny_pure ⟨rfl, h', tk, es, ep, t, rfl, q2, q1⟩
      · cases r₂ with
        | error e => exact hr₂
        | ok fl₂ =>
          cases fl₂ with
          | ret r =>
            obtain ⟨rfl, h', tk, es, ep, t, rfl, hS', hk'⟩ := hr₂
            repeat (any_goals (first | assumption | wp_step))
            exact h _ _ _ _ _ hS' hk'
          | _ => exact hr₂.elim
    | _ => exact hr.elim
end
end Mine
end

section
/-! the core's expressions against the text's -/
namespace Mine
open PySem PySem.W PyProof.Rows
set_option maxRecDepth 100000

noncomputable def fnAt (K : Frag) (f : Fid) : Option Addr :=
  if f.1 = "" then addrOf K f.2
  else match addrOf K f.1 with
    | some D => (match findIn K (.ref D) f.2 with | some (some (.ref a)) => some a | _ => none)
    | none => none
noncomputable def kdOf (sc : Scope) (n : String) : Option NameKind := sc.names.lookup (Str.ofString n)
noncomputable def okName (n : Str) : Bool := !(n == ("__debug__" : Str)) && !(n == ("__classdict__" : Str))
noncomputable def isGlob (sc : Scope) (x : String) (id : Str) : Bool := id == Str.ofString x && kdOf sc x == some .globalImplicit && okName id
noncomputable def notSlice (x : Expr) : Bool := x.ctorIdx != 26
noncomputable def notMark (x : Expr) : Bool := x.ctorIdx != 7
noncomputable def baseOk (x : Expr) : Bool := x.ctorIdx != 16
noncomputable def bfs : List String := ["len", "range", "min", "max", "list", "str", "int", "sorted", "all"]

noncomputable def opt {α : Type} (o : Option α) (k : α → Bool) : Bool := match o with | some t => k t | none => false
noncomputable def funcOf (o : Option Obj) : Option { t : Value × Option Addr × FuncData × Array (Option Value) // o = some ⟨t.1, t.2.1, .func t.2.2.1, t.2.2.2⟩ } := match o with
  | some ⟨t, d, .func fd, l⟩ => some ⟨(t, d, fd, l), rfl⟩
  | _ => none
noncomputable def isFn (K : Frag) (a : Addr) : Bool := opt (funcOf (K.lookup a)) fun t => t.1.1 == .type "function"
noncomputable def optN {α : Type} (o : Option α) (k : α → Bool) (d : Bool) : Bool := match o with | some t => k t | none => d
section
variable {α : Type} {o : Option α} {k : α → Bool} {a b d : Bool} {G : Prop}
theorem opt_elim (h : opt o k = true) (f : ∀ t, k t = true → G) : G := match o, h with | some t, h => f t h
theorem opt_at (h : opt o k = true) (f : ∀ t, o = some t → k t = true → G) : G := match o, h with | some t, h => f t rfl h
theorem optN_elim (h : optN o k d = true) (f : ∀ t, o = some t → k t = true → G) (g : o = none → d = true → G) : G := match o, h with | some t, h => f t rfl h | none, h => g rfl h
theorem and_elim (h : (a && b) = true) (f : a = true → b = true → G) : G := match a, b, h with | true, true, _ => f rfl rfl
end
noncomputable def uCst (x : Expr) : Option { t : Const × Nat × Pos // x = .Constant t.1 t.2.1 t.2.2 } := if h : x.ctorIdx = 19 then @Expr.Constant.elim (fun x => Option { t : Const × Nat × Pos // x = .Constant t.1 t.2.1 t.2.2 }) x h (fun a b c => some ⟨(a, b, c), rfl⟩) else none
noncomputable def uName (x : Expr) : Option { t : Str × Pos // x = .Name t.1 t.2 } := if h : x.ctorIdx = 23 then @Expr.Name.elim (fun x => Option { t : Str × Pos // x = .Name t.1 t.2 }) x h (fun a b => some ⟨(a, b), rfl⟩) else none
noncomputable def uBin (x : Expr) : Option { t : Expr × Operator × Expr × Pos // x = .BinOp t.1 t.2.1 t.2.2.1 t.2.2.2 } := if h : x.ctorIdx = 2 then @Expr.BinOp.elim (fun x => Option { t : Expr × Operator × Expr × Pos // x = .BinOp t.1 t.2.1 t.2.2.1 t.2.2.2 }) x h (fun a b c d => some ⟨(a, b, c, d), rfl⟩) else none
noncomputable def uUn (x : Expr) : Option { t : UnaryOp × Expr × Pos // x = .UnaryOp t.1 t.2.1 t.2.2 } := if h : x.ctorIdx = 3 then @Expr.UnaryOp.elim (fun x => Option { t : UnaryOp × Expr × Pos // x = .UnaryOp t.1 t.2.1 t.2.2 }) x h (fun a b c => some ⟨(a, b, c), rfl⟩) else none
noncomputable def uBop (x : Expr) : Option { t : BoolOp × List Expr × Pos // x = .BoolOp t.1 t.2.1 t.2.2 } := if h : x.ctorIdx = 0 then @Expr.BoolOp.elim (fun x => Option { t : BoolOp × List Expr × Pos // x = .BoolOp t.1 t.2.1 t.2.2 }) x h (fun a b c => some ⟨(a, b, c), rfl⟩) else none
noncomputable def uCmp (x : Expr) : Option { t : Expr × List CmpOp × List Expr × Pos // x = .Compare t.1 t.2.1 t.2.2.1 t.2.2.2 } := if h : x.ctorIdx = 15 then @Expr.Compare.elim (fun x => Option { t : Expr × List CmpOp × List Expr × Pos // x = .Compare t.1 t.2.1 t.2.2.1 t.2.2.2 }) x h (fun a b c d => some ⟨(a, b, c, d), rfl⟩) else none
noncomputable def uSub (x : Expr) : Option { t : Expr × Expr × Pos // x = .Subscript t.1 t.2.1 t.2.2 } := if h : x.ctorIdx = 21 then @Expr.Subscript.elim (fun x => Option { t : Expr × Expr × Pos // x = .Subscript t.1 t.2.1 t.2.2 }) x h (fun a b c => some ⟨(a, b, c), rfl⟩) else none
noncomputable def uSlc (x : Expr) : Option { t : Option Expr × Option Expr × Option Expr × Pos // x = .Slice t.1 t.2.1 t.2.2.1 t.2.2.2 } := if h : x.ctorIdx = 26 then @Expr.Slice.elim (fun x => Option { t : Option Expr × Option Expr × Option Expr × Pos // x = .Slice t.1 t.2.1 t.2.2.1 t.2.2.2 }) x h (fun a b c d => some ⟨(a, b, c, d), rfl⟩) else none
noncomputable def uAttr (x : Expr) : Option { t : Expr × Str × Pos // x = .Attribute t.1 t.2.1 t.2.2 } := if h : x.ctorIdx = 20 then @Expr.Attribute.elim (fun x => Option { t : Expr × Str × Pos // x = .Attribute t.1 t.2.1 t.2.2 }) x h (fun a b c => some ⟨(a, b, c), rfl⟩) else none
noncomputable def uCall (x : Expr) : Option { t : Expr × List Expr × List Keyword × Pos // x = .Call t.1 t.2.1 t.2.2.1 t.2.2.2 } := if h : x.ctorIdx = 16 then @Expr.Call.elim (fun x => Option { t : Expr × List Expr × List Keyword × Pos // x = .Call t.1 t.2.1 t.2.2.1 t.2.2.2 }) x h (fun a b c d => some ⟨(a, b, c, d), rfl⟩) else none
noncomputable def uList (x : Expr) : Option { t : List Expr × Pos // x = .List t.1 t.2 } := if h : x.ctorIdx = 24 then @Expr.List.elim (fun x => Option { t : List Expr × Pos // x = .List t.1 t.2 }) x h (fun a b => some ⟨(a, b), rfl⟩) else none
noncomputable def uTup (x : Expr) : Option { t : List Expr × Nat × Pos // x = .Tuple t.1 t.2.1 t.2.2 } := if h : x.ctorIdx = 25 then @Expr.Tuple.elim (fun x => Option { t : List Expr × Nat × Pos // x = .Tuple t.1 t.2.1 t.2.2 }) x h (fun a b c => some ⟨(a, b, c), rfl⟩) else none
noncomputable def uDict (x : Expr) : Option { t : List (Option Expr) × List Expr × Pos // x = .Dict t.1 t.2.1 t.2.2 } := if h : x.ctorIdx = 6 then @Expr.Dict.elim (fun x => Option { t : List (Option Expr) × List Expr × Pos // x = .Dict t.1 t.2.1 t.2.2 }) x h (fun a b c => some ⟨(a, b, c), rfl⟩) else none
noncomputable def uLc (x : Expr) : Option { t : Expr × List Comprehension × Scope × Pos // x = .ListComp t.1 t.2.1 t.2.2.1 t.2.2.2 } := if h : x.ctorIdx = 8 then @Expr.ListComp.elim (fun x => Option { t : Expr × List Comprehension × Scope × Pos // x = .ListComp t.1 t.2.1 t.2.2.1 t.2.2.2 }) x h (fun a b c d => some ⟨(a, b, c, d), rfl⟩) else none
noncomputable def kNone (c : Const) : Option { t : Unit // c = .none } := match c with | .none => some ⟨(), rfl⟩ | _ => none
noncomputable def kBool (c : Const) : Option { t : Bool // c = .bool t } := match c with | .bool a => some ⟨a, rfl⟩ | _ => none
noncomputable def kInt (c : Const) : Option { t : Int // c = .int t } := match c with | .int a => some ⟨a, rfl⟩ | _ => none
noncomputable def kStr (c : Const) : Option { t : Str // c = .str t } := match c with | .str a => some ⟨a, rfl⟩ | _ => none
noncomputable def one {α : Type} (l : List α) : Option { a : α // l = [a] } := match l with | [a] => some ⟨a, rfl⟩ | _ => none
noncomputable def two {α : Type} (l : List α) : Option { t : α × α // l = [t.1, t.2] } := match l with | [a, b] => some ⟨(a, b), rfl⟩ | _ => none
noncomputable def eNo (e : E) : Option { t : Unit // e = .none } := match e with | .none => some ⟨(), rfl⟩ | _ => none
noncomputable def eTr (e : E) : Option { t : Bool // e = .bool t } := match e with | .bool a => some ⟨a, rfl⟩ | _ => none

noncomputable def compOk (ns : List String) (sc0 sc : Scope) (y : String) : Bool :=
  sc.kind == .function && sc0.kind == .function && sc.names.lookup (Str.ofString y) == some .local && decide ((sc.names.map (·.1)).Nodup) && ns.all (fun n => Str.ofString n != ".0") &&
  sc.names.all fun p => p.2 != .cell && (p.2 != .local || p.1 == ".0" || p.1 == Str.ofString y) && (p.2 != .free || sc0.names.lookup p.1 == some .cell)
noncomputable def relab (sc0 sc : Scope) : Scope := { sc with names := sc.names.map fun (n, k) => if (k == .free && sc0.kind == .function && sc0.names.lookup n == some .cell) then (n, .cell) else (n, k) }
noncomputable def mkIn (K : Frag) (C : String) : Bool := match addrOf K C with
  | some D => makesIn K D && keepIn K (.ref D) && (match findIn K (.ref D) "__init__" with | some (some (.ref a)) => typeIn K (.ref a) == some (.type "function") | _ => false)
  | none => false
mutual
noncomputable def fitE (K : Frag) (P : Pg) (fields : List String) (ns : List String) (sc : Scope) : E → Expr → Bool
  | .none, x => opt (uCst x) fun t => opt (kNone t.1.1) fun _ => true
  | .bool b, x => opt (uCst x) fun t => opt (kBool t.1.1) fun c => c.1 == b
  | .int i, x => opt (uCst x) fun t => opt (kInt t.1.1) fun c => c.1 == i
  | .str s, x => opt (uCst x) fun t => opt (kStr t.1.1) fun c => c.1.cps.toList == cps s && decide ((cps s).length ≤ 10000)
  | .var i, x => opt (uName x) fun t => opt ns[i]? fun n => t.1.1 == Str.ofString n && (okName t.1.1 && (kdOf sc n == some .local || (kdOf sc n == some .cell || kdOf sc n == some .free)))
  | .glob y, x => opt (uName x) fun t => isGlob sc y t.1.1 && (P.glob y).isSome
  | .bin op l r, x => opt (uBin x) fun t => t.1.2.1 == op.op && (fitE K P fields ns sc l t.1.1 && fitE K P fields ns sc r t.1.2.2.1)
  | .neg e, x => opt (uUn x) fun t => t.1.1 == .USub && fitE K P fields ns sc e t.1.2.1
  | .not e, x => opt (uUn x) fun t => t.1.1 == .Not && fitE K P fields ns sc e t.1.2.1
  | .and es, x => opt (uBop x) fun t => t.1.1 == .And && (fitEs K P fields ns sc es t.1.2.1 && decide (2 ≤ es.length))
  | .or es, x => opt (uBop x) fun t => t.1.1 == .Or && (fitEs K P fields ns sc es t.1.2.1 && decide (2 ≤ es.length))
  | .cmp op l r, x => opt (uCmp x) fun t => opt (one t.1.2.1) fun o => opt (one t.1.2.2.1) fun r' => o.1 == op.op && (notMark r'.1 && (fitE K P fields ns sc l t.1.1 && fitE K P fields ns sc r r'.1))
  | .cmp2 l o1 m o2 r, x => opt (uCmp x) fun t => opt (two t.1.2.1) fun o => opt (two t.1.2.2.1) fun r' => o.1.1 == o1.op && (o.1.2 == o2.op && (notMark r'.1.2 && (fitE K P fields ns sc l t.1.1 && (fitE K P fields ns sc m r'.1.1 && fitE K P fields ns sc r r'.1.2))))
  | .sub o i, x => opt (uSub x) fun t => notSlice t.1.2.1 && (fitE K P fields ns sc o t.1.1 && fitE K P fields ns sc i t.1.2.1)
  | .slc o lo hi, x => opt (uSub x) fun t => opt (uSlc t.1.2.1) fun z => z.1.2.2.1.isNone && (fitE K P fields ns sc o t.1.1 && (optN z.1.1 (fun y => fitE K P fields ns sc lo y) (opt (eNo lo) fun _ => true) && optN z.1.2.1 (fun y => fitE K P fields ns sc hi y) (opt (eNo hi) fun _ => true)))
  | .attr o f, x => opt (uAttr x) fun t => t.1.2.1 == Str.ofString f && (fields.contains f && (baseOk t.1.1 && fitE K P fields ns sc o t.1.1))
  | .call f as, x => opt (uCall x) fun t => opt (uName t.1.1) fun z => isGlob sc f z.1.1 && ((P.fn ("", f)).isSome && ((nsIn K mainGlobals f).isSome && (t.1.2.1.all notStar && (t.1.2.2.1.isEmpty && fitEs K P fields ns sc as t.1.2.1))))
  | .make C as, x => opt (uCall x) fun t => opt (uName t.1.1) fun z => isGlob sc C z.1.1 && (C != "" && ((P.fn (C, "__init__")).isSome && (mkIn K C && (t.1.2.1.all notStar && (t.1.2.2.1.isEmpty && fitEs K P fields ns sc as t.1.2.1)))))
  | .meth o m as, x => opt (uCall x) fun t => opt (uAttr t.1.1) fun z => z.1.2.1 == Str.ofString m && (z.1.2.2.endLine == t.1.2.2.2.line && (baseOk z.1.1 && (t.1.2.1.all notStar && (decide (t.1.2.1.length < 20) && (t.1.2.2.1.isEmpty && (fitE K P fields ns sc o z.1.1 && fitEs K P fields ns sc as t.1.2.1))))))
  | .bi b as, x => opt (uCall x) fun t => opt (uName t.1.1) fun z => isGlob sc b z.1.1 && (bfs.contains b && (t.1.2.1.all notStar && (t.1.2.2.1.isEmpty && fitEs K P fields ns sc as t.1.2.1)))
  | .isa e ty, x => opt (uCall x) fun t => opt (uName t.1.1) fun z => opt (two t.1.2.1) fun w => opt (uName w.1.2) fun u => isGlob sc "isinstance" z.1.1 && (isGlob sc ty u.1.1 && (isaTs.contains ty && (notStar w.1.1 && (t.1.2.2.1.isEmpty && fitE K P fields ns sc e w.1.1))))
  | .list es, x => opt (uList x) fun t => t.1.1.all notStar && fitEs K P fields ns sc es t.1.1
  | .tup es, x => opt (uTup x) fun t => t.1.1.all notStar && fitEs K P fields ns sc es t.1.1
  | .dict, x => opt (uDict x) fun t => t.1.1.isEmpty && t.1.2.1.isEmpty
  | .comp elt t it cond, x => opt (uLc x) fun z => opt (one z.1.2.1) fun w => opt (uName w.1.target) fun n => opt ns[t]? fun y => n.1.1 == Str.ofString y && (compOk ns sc z.1.2.2.1 y && (decide ns.Nodup && (notMark w.1.iter && (w.1.is_async == 0 && (fitE K P fields ns sc it w.1.iter && (fitE K P fields ns (relab sc z.1.2.2.1) elt z.1.1 &&
      (match w.1.ifs with | [] => opt (eTr cond) fun b => b.1 | c' :: more => more.isEmpty && fitE K P fields ns (relab sc z.1.2.2.1) cond c')))))))
  | .lset e, x => opt (uCall x) fun t => opt (uName t.1.1) fun z => opt (one t.1.2.1) fun a => opt (uCall a.1) fun t' => opt (uName t'.1.1) fun z' => opt (one t'.1.2.1) fun b => isGlob sc "len" z.1.1 && (isGlob sc "set" z'.1.1 && (notStar b.1 && (t.1.2.2.1.isEmpty && (t'.1.2.2.1.isEmpty && fitE K P fields ns sc e b.1))))
noncomputable def fitEs (K : Frag) (P : Pg) (fields : List String) (ns : List String) (sc : Scope) : List E → List Expr → Bool
  | [], xs => xs.isEmpty
  | e :: r, xs => (match xs with | [] => false | y :: ys => fitE K P fields ns sc e y && fitEs K P fields ns sc r ys)
end

noncomputable def yInt (y : Value) : Option { t : Int × Tok // y = .int t.1 t.2 } := match y with | .int i t => some ⟨(i, t), rfl⟩ | _ => none
noncomputable def yStr (y : Value) : Option { t : Str × Tok // y = .str t.1 t.2 } := match y with | .str i t => some ⟨(i, t), rfl⟩ | _ => none
noncomputable def gvOk (v : V) (y : Value) : Bool := match v with
  | .int i => opt (yInt y) fun t => i == t.1.1
  | .str s => opt (yStr y) fun t => t.1.1.cps.toList == s && (decide (s.length ≤ 10000) && s.all (· < 1114112))
  | _ => false

structure Cx (prog : Program) (c : Cf) (K : Frag) (fields : List String) (P : Pg) (cl : CallT) (A : Around) (F : List Addr) : Prop where
  base : Base c K fields
  hh : A.handled = none
  room : A.units + 40 < cLine
  call : ∀ (f : Fid) (a : Addr) (vs : List V) (xs : List Value) (mu : Mu) (s : Shared) (H : Hp), fnAt K f = some a → (P.fn f).isSome = true → St c F mu H s.heap → VRs c.bs mu s.heap vs xs →
    Snd (model prog c.w) c F A mu s (call (.ref a) xs) (cl f vs H) (VRl c)
  code1 : ∀ (D : Addr) (cs : List Value) (f : Fid) (a : Addr) (vs : List V) (xs : List Value) (mu : Mu) (s : Shared) (H : Hp), fnAt K f = some a → (P.fn f).isSome = true → St c F mu H s.heap → VRs c.bs mu s.heap vs xs → cl f vs H ≠ .bad →
    codeAny (model prog c.w) (A.under (.builtin "type.__call__" ⟨.ref D :: cs, []⟩)) (.call (.ref a) ⟨xs, []⟩) (fun q s' => match q with | .ok (.ret v) => QV c F mu s (cl f vs H) (VRl c) v s' | .ok _ => False | .error _ => False) s
  made : ∀ C, C ≠ "" → (P.fn (C, "__init__")).isSome = true → c.cl false C = addrOf K C
  fns : ∀ f, (P.fn f).isSome = true → ∃ a, fnAt K f = some a ∧ isFn K a = true
  globs : ∀ x v, P.glob x = some v → ∃ y, nsIn K mainGlobals x = some (some y) ∧ gvOk v y = true

section
variable {prog : Program} {c : Cf} {K : Frag} {fields : List String} {P : Pg} {cl : CallT} {A : Around} {F : List Addr} {mu : Mu} {s : Shared} {H : Hp} {ns : List String} {env : Env} {g : Gm}

theorem isFn_keeps {a : Addr} (h : isFn K a = true) {M : Model} : ∀ h, K.In h → ∃ k, (k = Keeper.frame ∨ k = Keeper.machine ∨ k = Keeper.boundFrame) ∧ Looks M h (keeperOf (.ref a)) k := by
  intro hp X
  exact opt_elim (o := funcOf (K.lookup a)) h fun t _ => ⟨.frame, .inl rfl, (Looks.ld (part := none) (X _ _ t.2)).andThen .now⟩

theorem addr_ns {x : String} {a : Addr} (h : addrOf K x = some a) : nsIn K mainGlobals x = some (some (.ref a)) := by
  unfold addrOf at h
  split at h
  · rename_i b e; cases h; exact e
  · cases h

theorem kind_of {x : String} {id : Str} (h : isGlob env.scope x id = true) : id = Str.ofString x ∧ env.kindOf (Str.ofString x) = some .globalImplicit ∧ (Str.ofString x == ("__debug__" : Str)) = false := by
  unfold isGlob at h
  simp only [Bool.and_eq_true, beq_iff_eq, okName, Bool.not_eq_true'] at h
  refine el_pp h fun tq0 h3 _ => ?_; try clear h; obtain ⟨h1, h2⟩ := tq0
  subst h1
  exact ⟨rfl, h2, h3⟩

theorem gv_vr {v : V} {y : Value} (h : gvOk v y = true) {bs hp} : VR bs mu hp v y := by
  cases v with
  | int i => exact opt_elim (o := yInt y) h fun t h => Exists.intro t.1.2 (t.2.trans (by rw [eq_of_beq h]))
  | str st => exact opt_elim (o := yStr y) h fun t h => and_elim h fun h1 h => and_elim h fun h2 h3 => Exists.intro t.1.2 ⟨t.2.trans (by rw [← eq_of_beq h1]), Nat.le_trans (of_decide_eq_true h2) (by decide), fun z hz => of_decide_eq_true (List.all_eq_true.mp h3 z hz)⟩
  | _ => cases h

theorem base_eq {o : Expr} {f : Str} (h : baseOk o = true) : attributeBase o f env (eval o env) = eval o env := by
  cases o <;> first | rfl | cases h

theorem Snd.spl_cons {e : Expr} {rest : List Expr} {pos : Pos} {r : R V} {k : Hp → R (List V)} (hs : notStar e = true) (h1 : Snd (model prog c.w) c F A mu s (eval e env) r (VRl c))
    (h2 : ∀ v H' mu' s', r = .ok v H' → St c F mu' H' s'.heap → Go F [] mu s.heap mu' s'.heap → Snd (model prog c.w) c F A mu' s' (spliced (backTo pos (starEach rest env))) (k H') (VRsl c)) :
    Snd (model prog c.w) c F A mu s (spliced (backTo pos (starEach (e :: rest) env))) (r.bind fun v h => (k h).bind fun vs h => .ok (v :: vs) h) (VRsl c) := by
  intro hb
  have hr : r ≠ .bad := fun e => hb (by rw [e]; rfl)
  refine wpAny_items_cons (wpAny_mono (h1 hr) (fun x s1 q => ?_) fun e s1 q => q.elim) (starEach_cons hs)
  obtain ⟨v, H1, mu1, rfl, S1, G1, V1, eg1, eo1⟩ := q
  replace hb : ((k H1).bind fun vs h => R.ok (v :: vs) h) ≠ .bad := hb
  have hr1 : k H1 ≠ .bad := fun e => hb (by rw [e]; rfl)
  refine wpAny_mono (h2 v H1 mu1 s1 rfl S1 G1 hr1) (fun xs s2 q => ?_) fun e s2 q => ?_
  · obtain ⟨vs, H2, mu2, e2, S2, G2, V2, eg2, eo2⟩ := q
    refine ⟨v :: vs, H2, mu2, ?_, S2, G1.trans G2, ?_, eg2.trans eg1, eo2.trans eo1⟩
    · show ((k H1).bind fun vs h => R.ok (v :: vs) h) = _; rw [e2]; rfl
    · show VRs _ _ _ (v :: vs) (x :: xs)
      simp only [VRs]
      exact in_xxpp x xs rfl (V1.go S1 G2) V2
  · exact q.elim
end
end Mine
end

section
/-! the core's expressions answer as the text's -/
namespace Mine
open PySem PySem.W PyProof.Rows
set_option maxRecDepth 100000
section
variable {prog : Program} {c : Cf} {K : Frag} {fields : List String} {P : Pg} {cl : CallT} {A : Around} {F : List Addr}

noncomputable def tb (v : V) (h : Hp) : R V := match truth v with | some b => .ok (.bool b) h | .none => .bad

noncomputable abbrev EOk (prog : Program) (c : Cf) (P : Pg) (cl : CallT) (A : Around) (F : List Addr) (e : E) (x : Expr) (ns : List String) (env : Env) : Prop :=
  ∀ (g : Gm) (mu : Mu) (s : Shared) (H : Hp), St c F mu H s.heap → FrR c F ns env g mu s.heap → Snd (model prog c.w) c F A mu s (eval x env) (ev P cl g e H) (VRl c)
noncomputable abbrev TOk (prog : Program) (c : Cf) (P : Pg) (cl : CallT) (A : Around) (F : List Addr) (e : E) (x : Expr) (ns : List String) (env : Env) : Prop :=
  ∀ (g : Gm) (mu : Mu) (s : Shared) (H : Hp), St c F mu H s.heap → FrR c F ns env g mu s.heap → Snd (model prog c.w) c F A mu s (isTrue x env (eval x env)) ((ev P cl g e H).bind tb) (fun v (b : Bool) _ _ => v = .bool b)
noncomputable abbrev EsOk (prog : Program) (c : Cf) (P : Pg) (cl : CallT) (A : Around) (F : List Addr) (es : List E) (xs : List Expr) (ns : List String) (env : Env) : Prop :=
  ∀ (g : Gm) (mu : Mu) (s : Shared) (H : Hp) (p : Pos), xs.all notStar = true → St c F mu H s.heap → FrR c F ns env g mu s.heap → Snd (model prog c.w) c F A mu s (spliced (backTo p (starEach xs env))) (evs P cl g es H) (VRsl c)

variable {ns : List String} {env : Env} {e l r m o i lo hi : E} {x l' r' m' o' i' : Expr} {es : List E} {xs : List Expr} {pos : Pos}

theorem bin_ok {op : BO} (h1 : EOk prog c P cl A F l l' ns env) (h2 : EOk prog c P cl A F r r' ns env) : EOk prog c P cl A F (.bin op l r) (.BinOp l' op.op r' pos) ns env := by
  intro g mu s H S R
  rw [ev_bin]
  refine Snd.seq (h1 g mu s H S R) fun a x H1 mu1 s1 _ S1 G1 V1 => ?_
  refine Snd.seq (Snd.holding (h2 g mu1 s1 H1 S1 (R.go S G1))) fun b y H2 mu2 s2 _ S2 G2 V2 => ?_
  exact Snd.at fun hb => wpAny_operate' (binop_snd S2 (V1.go S1 G2) V2 hb)

theorem neg_ok (h1 : EOk prog c P cl A F e x ns env) : EOk prog c P cl A F (.neg e) (.UnaryOp .USub x pos) ns env := by
  intro g mu s H S R
  rw [ev_neg, arm_eval_UnaryOp]
  refine Snd.seq (h1 g mu s H S R) fun a y H1 mu1 s1 _ S1 G1 V1 => Snd.at (Snd.holding ?_)
  split
  · simp only [VR] at V1
    refine el_x V1 fun t tqz => ?_; try clear V1; subst tqz
    exact fun _ => PyProof.Rows.neg_int (QV.int S1)
  · exact fun h => absurd rfl h

theorem truth_some {v : V} {b : Bool} (h : truth v = some b) : v = .bool b := by cases v <;> simp_all [truth]

theorem not_ok (h1 : EOk prog c P cl A F e x ns env) : EOk prog c P cl A F (.not e) (.UnaryOp .Not x pos) ns env := by
  intro g mu s H S R
  rw [ev_not, arm_eval_UnaryOp]
  refine Snd.seq (h1 g mu s H S R) fun a y H1 mu1 s1 _ S1 G1 V1 => Snd.at (Snd.holding ?_)
  split
  · rename_i b hb
    have := truth_some hb
    subst this
    replace V1 : _ = _ := V1; subst V1
    exact fun _ => not_value (wpAny_truthy_bool (QV.same (t := s1.toks) S1 (by exact rfl)))
  · exact fun h => absurd rfl h

theorem notMark_false {op : CmpOp} {y : Expr} (h : notMark y = true) : behindInMarks op y = false := by cases y <;> first | rfl | exact (Bool.false_ne_true h).elim

theorem marks1 {op : CmpOp} {y : Expr} {t : Sem Value} (h : notMark y = true) : markedEach [op] [y] [t] = [t] := by
  simp only [markedEach, markedBehindIn, notMark_false h]
theorem marks2 {o1 o2 : CmpOp} {y z : Expr} {t u : Sem Value} (h : notMark z = true) : markedEach [o1, o2] [y, z] [t, u] = [t, u] := by
  simp only [markedEach, markedBehindIn, notMark_false h]

theorem cmp_ok {op : CO} (X : Cx prog c K fields P cl A F) (hm : notMark r' = true) (h1 : EOk prog c P cl A F l l' ns env) (h2 : EOk prog c P cl A F r r' ns env) : EOk prog c P cl A F (.cmp op l r) (.Compare l' [op.op] [r'] pos) ns env := by
  intro g mu s H S R
  rw [ev_cmp, arm_eval_Compare]
  refine Snd.seq (h1 g mu s H S R) fun a x H1 mu1 s1 _ S1 G1 V1 => ?_
  show Snd _ c F A mu1 s1 (compareChain pos x [op.op] (markedEach [op.op] [r'] [eval r' env])) _ _
  rw [marks1 hm]
  show Snd _ c F A mu1 s1 (do let rv ← holding [x] (eval r' env); standAt pos; operate [x, rv] (compareOp op.op x rv)) _ _
  refine Snd.seq (Snd.holding (h2 g mu1 s1 H1 S1 (R.go S G1))) fun b y H2 mu2 s2 _ S2 G2 V2 => ?_
  exact Snd.at fun hb => wpAny_operate' (cmpop_snd X.base S2 (V1.go S1 G2) V2 (by have := X.room; unfold deep; (first | lia | omega)) hb)

theorem onI_ok {a v : V} {k : Int → R V} {h' : Hp} (e : onI a k = .ok v h') : ∃ i, k i = .ok v h' := by
  cases a with
  | int i => exact in_x i e
  | _ => cases e
theorem okB_ok {t : Bool} {v : V} {h h' : Hp} (e : okB t h = R.ok v h') : (∃ t, v = .bool t) ∧ h' = h := by cases e; exact ⟨⟨t, rfl⟩, rfl⟩
theorem okO_ok {t : Option Bool} {v : V} {h h' : Hp} (e : okO t h = R.ok v h') : (∃ t, v = .bool t) ∧ h' = h := by
  cases t with
  | none => cases e
  | some t => exact okB_ok e
theorem onII_ok {a b v : V} {f : Int → Int → Bool} {h h' : Hp} (e : (onI a fun a => onI b fun b => okB (f a b) h) = .ok v h') : (∃ t, v = .bool t) ∧ h' = h :=
  let ⟨_, e⟩ := onI_ok e
  let ⟨_, e⟩ := onI_ok e
  okB_ok e
theorem cmpop_bool {op : CO} {a b v : V} {h h' : Hp} (e : cmpop op a b h = .ok v h') : (∃ t, v = .bool t) ∧ h' = h :=
  match op, e with
  | .eq, e => okO_ok e
  | .ne, e => okO_ok e
  | .lt, e => onII_ok e
  | .le, e => onII_ok e
  | .gt, e => onII_ok e
  | .ge, e => onII_ok e
  | .isin, e => okO_ok e
  | .notin, e => okO_ok e

theorem cmp2_ok {o1 o2 : CO} (X : Cx prog c K fields P cl A F) (hm : notMark r' = true) (h1 : EOk prog c P cl A F l l' ns env) (h2 : EOk prog c P cl A F m m' ns env) (h3 : EOk prog c P cl A F r r' ns env) :
    EOk prog c P cl A F (.cmp2 l o1 m o2 r) (.Compare l' [o1.op, o2.op] [m', r'] pos) ns env := by
  intro g mu s H S R
  rw [ev_cmp2, arm_eval_Compare]
  refine Snd.seq (h1 g mu s H S R) fun a x H1 mu1 s1 _ S1 G1 V1 => ?_
  show Snd _ c F A mu1 s1 (compareChain pos x [o1.op, o2.op] (markedEach [o1.op, o2.op] [m', r'] [eval m' env, eval r' env])) _ _
  rw [marks2 hm]
  show Snd _ c F A mu1 s1 (do
    let rv ← holding [x] (eval m' env)
    standAt pos
    let cv ← holding [x, rv] (compareOp o1.op x rv)
    release [x, rv] [cv]
    if ← holding [cv, rv] (truthy cv) then (do let rv' ← holding [rv] (eval r' env); standAt pos; operate [rv, rv'] (compareOp o2.op rv rv')) else pure cv) _ _
  have R1 := R.go S G1
  refine Snd.seq (Snd.holding (h2 g mu1 s1 H1 S1 R1)) fun b y H2 mu2 s2 _ S2 G2 V2 => Snd.at ?_
  refine Snd.seq (Snd.holding (cmpop_snd X.base S2 (V1.go S1 G2) V2 (by have := X.room; unfold deep; (first | lia | omega)))) fun d z H3 mu3 s3 e3 S3 G3 V3 => ?_
  obtain ⟨⟨t, rfl⟩, rfl⟩ := cmpop_bool e3
  subst V3
  intro hb
  refine wpAny_bind (wpAny_release (wpAny_bind (wpAny_holding (wpAny_truthy_bool ?_))))
  cases t with
  | false => exact wpAny_pure (QV.same (t := s3.toks) S3 (by exact rfl))
  | true =>
    refine Snd.seq (Snd.holding (h3 g mu3 s3 H3 S3 ((R1.go S1 G2).go S2 G3))) (fun b' y' H4 mu4 s4 _ S4 G4 V4 => ?_) hb
    exact Snd.at fun hb => wpAny_operate' (cmpop_snd X.base S4 ((V2.go S2 G3).go S3 G4) V4 (by have := X.room; unfold deep; (first | lia | omega)) hb)

theorem sub_ok (X : Cx prog c K fields P cl A F) (hs : notSlice i' = true) (h1 : EOk prog c P cl A F o o' ns env) (h2 : EOk prog c P cl A F i i' ns env) : EOk prog c P cl A F (.sub o i) (.Subscript o' i' pos) ns env := by
  intro g mu s H S R
  rw [ev_sub, arm_eval_Subscript]
  refine Snd.seq (h1 g mu s H S R) fun a x H1 mu1 s1 _ S1 G1 V1 => ?_
  refine Snd.seq (Snd.holding (h2 g mu1 s1 H1 S1 (R.go S G1))) fun b y H2 mu2 s2 _ S2 G2 V2 => Snd.at ?_
  exact sub_snd S2 (V1.go S1 G2) V2 (by have := X.room; unfold deep; (first | lia | omega)) hs

theorem attr_ok {f : String} (X : Cx prog c K fields P cl A F) (hf : fields.contains f = true) (hb : baseOk o' = true) (h1 : EOk prog c P cl A F o o' ns env) : EOk prog c P cl A F (.attr o f) (.Attribute o' (Str.ofString f) pos) ns env := by
  intro g mu s H S R
  rw [ev_attr, arm_eval_Attribute, base_eq hb]
  refine Snd.seq (h1 g mu s H S R) fun a x H1 mu1 s1 _ S1 G1 V1 => Snd.at ?_
  intro hb
  refine wpAny_bind (wpAny_holding (wpAny_mono (attr_snd X.base S1 V1 (by simpa using hf) hb) (fun y s2 q => ?_) fun _ _ q => q))
  exact wpAny_bind (wpAny_letTemporaryGo (wpAny_pure q))

theorem opt_ok {lo' : Option Expr} (h : (lo = .none ∧ lo' = none) ∨ ∃ y, lo' = some y ∧ EOk prog c P cl A F lo y ns env) :
    ∀ (g : Gm) (mu : Mu) (s : Shared) (H : Hp), St c F mu H s.heap → FrR c F ns env g mu s.heap → Snd (model prog c.w) c F A mu s (valueOrNone (evalOpt lo' env)) (ev P cl g lo H) (VRl c) := by
  intro g mu s H S R
  rcases h with ⟨rfl, rfl⟩ | ⟨y, rfl, h⟩
  · rw [ev_none]; exact Snd.ok S (by exact rfl)
  · exact h g mu s H S R

theorem slc_ok {lo' hi' : Option Expr} {q : Pos} (h1 : EOk prog c P cl A F o o' ns env) (h2 : (lo = .none ∧ lo' = none) ∨ ∃ y, lo' = some y ∧ EOk prog c P cl A F lo y ns env) (h3 : (hi = .none ∧ hi' = none) ∨ ∃ y, hi' = some y ∧ EOk prog c P cl A F hi y ns env) :
    EOk prog c P cl A F (.slc o lo hi) (.Subscript o' (.Slice lo' hi' none q) pos) ns env := by
  intro g mu s H S R
  rw [ev_slc, arm_eval_Subscript]
  refine Snd.seq (h1 g mu s H S R) fun a x H1 mu1 s1 _ S1 G1 V1 => ?_
  have R1 := R.go S G1
  intro hb
  refine wpAny_bind (wpAny_holding ?_)
  rw [arm_eval_Slice]
  have hr1 : ev P cl g lo H1 ≠ .bad := fun e => hb (by rw [e]; rfl)
  refine wpAny_bind (wpAny_mono (opt_ok h2 g mu1 s1 H1 S1 R1 hr1) (fun y s2 q => ?_) fun e s2 q => q.elim)
  obtain ⟨b, H2, mu2, e2, S2, G2, V2, eg2, eo2⟩ := q
  rw [e2] at hb ⊢
  replace hb : ((ev P cl g hi H2).bind fun c h => getSlice a b c h) ≠ .bad := hb
  have hr2 : ev P cl g hi H2 ≠ .bad := fun e => hb (by rw [e]; rfl)
  refine wpAny_bind (wpAny_holding (wpAny_mono (opt_ok h3 g mu2 s2 H2 S2 (R1.go S1 G2) hr2) (fun z s3 q => ?_) fun e s3 q => ?_))
  · obtain ⟨d, H3, mu3, e3, S3, G3, V3, eg3, eo3⟩ := q
    rw [e3] at hb
    replace hb : getSlice a b d H3 ≠ .bad := hb
    have fin : ((Mine.R.ok b H2).bind fun b h => (ev P cl g hi h).bind fun c h => getSlice a b c h) = getSlice a b d H3 := by show (ev P cl g hi H2).bind _ = _; rw [e3]; rfl
    rw [fin]
    refine wpAny_bind (wpAny_holding (wpAny_pure ?_))
    refine wpAny_mono (slc_core (value := o') (lo := lo') (hi := hi') (p := q) S3 ((V1.go S1 G2).go S2 G3) (V2.go S2 G3) V3 hb) (fun iv s4 k => ?_) fun _ _ k => k.elim
    exact wpAny_bind (wpAny_standAt (wpAny_mono k (fun _ _ k => (k.back G3 eg3 eo3).back G2 eg2 eo2) fun _ _ k => k.elim))
  · exact q.elim
end
end Mine
end

section
/-! lists of expressions; truths -/
namespace Mine
open PySem PySem.W PyProof.Rows
set_option maxRecDepth 100000
inductive Pw (Rl : E → Expr → Prop) : List E → List Expr → Prop
  | nil : Pw Rl [] []
  | cons {e x es xs} : Rl e x → Pw Rl es xs → Pw Rl (e :: es) (x :: xs)

section
variable {prog : Program} {c : Cf} {K : Frag} {fields : List String} {P : Pg} {cl : CallT} {A : Around} {F : List Addr}
variable {ns : List String} {env : Env} {e l r m o i lo hi : E} {x l' r' m' o' i' : Expr} {es : List E} {xs : List Expr} {pos : Pos}

noncomputable def BOk (prog : Program) (c : Cf) (P : Pg) (cl : CallT) (A : Around) (F : List Addr) (ns : List String) (env : Env) (e : E) (x : Expr) : Prop := EOk prog c P cl A F e x ns env ∧ TOk prog c P cl A F e x ns env

theorem evs_ok (h : Pw (BOk prog c P cl A F ns env) es xs) : EsOk prog c P cl A F es xs ns env := by
  intro g mu s H p hs S R
  induction h generalizing mu s H with
  | nil => rw [evs_nil]; exact Snd.ok S (by exact rfl)
  | cons a _ ih =>
    simp only [List.all_cons, Bool.and_eq_true] at hs
    rw [evs_cons]
    exact Snd.spl_cons hs.1 (a.1 g mu s H S R) fun v H' mu' s' _ S' G' => ih mu' s' H' hs.2 S' (R.go S G')

theorem and_ok (hl : 2 ≤ es.length) (h : Pw (BOk prog c P cl A F ns env) es xs) : EOk prog c P cl A F (.and es) (.BoolOp .And xs pos) ns env := by
  intro g mu s H S R
  rw [ev_and, arm_eval_BoolOp]
  have go : ∀ {es xs}, Pw (BOk prog c P cl A F ns env) es xs → es ≠ [] → ∀ mu s H, St c F mu H s.heap → FrR c F ns env g mu s.heap → Snd (model prog c.w) c F A mu s (boolOp pos .And (evalEach xs env)) (evAnd P cl g es H) (VRl c) := by
    intro es xs h
    induction h with
    | nil => intro h; exact absurd rfl h
    | @cons e x es xs a b ih =>
      intro _ mu s H S R
      cases b with
      | nil => rw [evAnd]; exact a.1 g mu s H S R
      | @cons e2 x2 es2 xs2 a2 b2 =>
        rw [evAnd]
        · show Snd _ c F A mu s (do
            let v ← eval x env
            standAt pos
            let t ← holding [v] (truthy v)
            match BoolOp.And, t with
            | .And, false | .Or, true => pure v
            | _, _ => boolOp pos .And (evalEach (x2 :: xs2) env)) _ _
          refine Snd.seq (a.1 g mu s H S R) fun v y H1 mu1 s1 _ S1 G1 V1 => Snd.at ?_
          split
          · rename_i ht
            have := truth_some ht; subst this
            replace V1 : _ = _ := V1; subst V1
            exact fun hb => wpAny_bind (wpAny_holding (wpAny_truthy_bool (ih (by simp) mu1 s1 H1 S1 (R.go S G1) hb)))
          · rename_i ht
            have := truth_some ht; subst this
            replace V1 : _ = _ := V1; subst V1
            exact fun hb => wpAny_bind (wpAny_holding (wpAny_truthy_bool (wpAny_pure (QV.same (t := s1.toks) S1 (by exact rfl)))))
          · exact fun h => absurd rfl h
        · simp
  exact go h (by intro q; rw [q] at hl; simp at hl) mu s H S R
theorem or_ok (hl : 2 ≤ es.length) (h : Pw (BOk prog c P cl A F ns env) es xs) : EOk prog c P cl A F (.or es) (.BoolOp .Or xs pos) ns env := by
  intro g mu s H S R
  rw [ev_or, arm_eval_BoolOp]
  have go : ∀ {es xs}, Pw (BOk prog c P cl A F ns env) es xs → es ≠ [] → ∀ mu s H, St c F mu H s.heap → FrR c F ns env g mu s.heap → Snd (model prog c.w) c F A mu s (boolOp pos .Or (evalEach xs env)) (evOr P cl g es H) (VRl c) := by
    intro es xs h
    induction h with
    | nil => intro h; exact absurd rfl h
    | @cons e x es xs a b ih =>
      intro _ mu s H S R
      cases b with
      | nil => rw [evOr]; exact a.1 g mu s H S R
      | @cons e2 x2 es2 xs2 a2 b2 =>
        rw [evOr]
        · show Snd _ c F A mu s (do
            let v ← eval x env
            standAt pos
            let t ← holding [v] (truthy v)
            match BoolOp.Or, t with
            | .And, false | .Or, true => pure v
            | _, _ => boolOp pos .Or (evalEach (x2 :: xs2) env)) _ _
          refine Snd.seq (a.1 g mu s H S R) fun v y H1 mu1 s1 _ S1 G1 V1 => Snd.at ?_
          split
          · rename_i ht
            have := truth_some ht; subst this
            replace V1 : _ = _ := V1; subst V1
            exact fun hb => wpAny_bind (wpAny_holding (wpAny_truthy_bool (wpAny_pure (QV.same (t := s1.toks) S1 (by exact rfl)))))
          · rename_i ht
            have := truth_some ht; subst this
            replace V1 : _ = _ := V1; subst V1
            exact fun hb => wpAny_bind (wpAny_holding (wpAny_truthy_bool (ih (by simp) mu1 s1 H1 S1 (R.go S G1) hb)))
          · exact fun h => absurd rfl h
        · simp
  exact go h (by intro q; rw [q] at hl; simp at hl) mu s H S R

theorem val_true (he : ∀ whole, isTrue x env whole = (do let v ← whole; standAt x.pos; holding [v] (truthy v))) (h : EOk prog c P cl A F e x ns env) : TOk prog c P cl A F e x ns env := by
  intro g mu s H S R
  rw [he]
  refine Snd.seq (h g mu s H S R) fun v y H1 mu1 s1 _ S1 G1 V1 => Snd.at (Snd.holding ?_)
  unfold tb
  split
  · rename_i b ht
    have := truth_some ht; subst this
    replace V1 : _ = _ := V1; subst V1
    exact fun _ => wpAny_truthy_bool (QV.same (t := s1.toks) S1 rfl)
  · exact fun h => absurd rfl h

theorem bind_assoc {α β γ : Type} (r : Mine.R α) (f : α → Hp → Mine.R β) (k : β → Hp → Mine.R γ) : (r.bind f).bind k = r.bind fun a h => (f a h).bind k := by cases r <;> rfl

theorem not_true (h : TOk prog c P cl A F e x ns env) : TOk prog c P cl A F (.not e) (.UnaryOp .Not x pos) ns env := by
  intro g mu s H S R
  rw [arm_isTrue_UnaryOp]
  have e1 : (ev P cl g (.not e) H).bind tb = ((ev P cl g e H).bind tb).bind fun v h => match v with | .bool b => .ok (.bool (!b)) h | _ => .bad := by
    rw [ev_not, bind_assoc, bind_assoc]
    congr 1
    funext a h
    unfold tb
    cases truth a <;> rfl
  rw [e1]
  refine Snd.seq (h g mu s H S R) fun v b H1 mu1 s1 _ S1 G1 V1 => ?_
  subst V1
  exact Snd.ok S1 rfl

theorem cmp_true {op : CO} (X : Cx prog c K fields P cl A F) (hm : notMark r' = true) (h1 : EOk prog c P cl A F l l' ns env) (h2 : EOk prog c P cl A F r r' ns env) : TOk prog c P cl A F (.cmp op l r) (.Compare l' [op.op] [r'] pos) ns env := by
  intro g mu s H S R
  rw [ev_cmp, arm_isTrue_Compare, bind_assoc]
  refine Snd.seq (h1 g mu s H S R) fun a x H1 mu1 s1 _ S1 G1 V1 => ?_
  show Snd _ c F A mu1 s1 (testChain pos x [op.op] (markedEach [op.op] [r'] [eval r' env])) _ _
  rw [marks1 hm, bind_assoc]
  show Snd _ c F A mu1 s1 (do let rv ← holding [x] (eval r' env); standAt pos; let cv ← operate [x, rv] (compareOp op.op x rv); holding [cv] (truthy cv)) _ _
  refine Snd.seq (Snd.holding (h2 g mu1 s1 H1 S1 (R.go S G1))) fun b y H2 mu2 s2 _ S2 G2 V2 => Snd.at ?_
  refine Snd.seq (t := operate [x, y] (compareOp op.op x y)) (fun hb => wpAny_operate' (cmpop_snd X.base S2 (V1.go S1 G2) V2 (by have := X.room; unfold deep; (first | lia | omega)) hb)) fun d z H3 mu3 s3 e3 S3 G3 V3 => Snd.holding ?_
  obtain ⟨⟨t, rfl⟩, rfl⟩ := cmpop_bool e3
  replace V3 : _ = _ := V3; subst V3
  exact fun _ => wpAny_truthy_bool (QV.same (t := s3.toks) S3 rfl)

theorem cmp2_true {o1 o2 : CO} (X : Cx prog c K fields P cl A F) (hm : notMark r' = true) (h1 : EOk prog c P cl A F l l' ns env) (h2 : EOk prog c P cl A F m m' ns env) (h3 : EOk prog c P cl A F r r' ns env) :
    TOk prog c P cl A F (.cmp2 l o1 m o2 r) (.Compare l' [o1.op, o2.op] [m', r'] pos) ns env := by
  intro g mu s H S R
  rw [ev_cmp2, arm_isTrue_Compare, bind_assoc]
  refine Snd.seq (h1 g mu s H S R) fun a x H1 mu1 s1 _ S1 G1 V1 => ?_
  show Snd _ c F A mu1 s1 (testChain pos x [o1.op, o2.op] (markedEach [o1.op, o2.op] [m', r'] [eval m' env, eval r' env])) _ _
  rw [marks2 hm, bind_assoc]
  show Snd _ c F A mu1 s1 (do
    let rv ← holding [x] (eval m' env)
    standAt pos
    let cv ← holding [x, rv] (compareOp o1.op x rv)
    release [x, rv] [cv]
    if ← holding [cv, rv] (truthy cv) then (do let rv' ← holding [rv] (eval r' env); standAt pos; let cv ← operate [rv, rv'] (compareOp o2.op rv rv'); holding [cv] (truthy cv)) else pure false) _ _
  have R1 := R.go S G1
  refine Snd.seq (Snd.holding (h2 g mu1 s1 H1 S1 R1)) fun b y H2 mu2 s2 _ S2 G2 V2 => Snd.at ?_
  rw [bind_assoc]
  refine Snd.seq (Snd.holding (cmpop_snd X.base S2 (V1.go S1 G2) V2 (by have := X.room; unfold deep; (first | lia | omega)))) fun d z H3 mu3 s3 e3 S3 G3 V3 => ?_
  obtain ⟨⟨t, rfl⟩, rfl⟩ := cmpop_bool e3
  subst V3
  intro hb
  refine wpAny_bind (wpAny_release (wpAny_bind (wpAny_holding (wpAny_truthy_bool ?_))))
  cases t with
  | false => exact wpAny_pure (QV.same (t := s3.toks) S3 rfl)
  | true =>
    have e4 : ((ev P cl g r H3).bind fun d h => cmpop o2 b d h).bind tb = (ev P cl g r H3).bind fun d h => (cmpop o2 b d h).bind tb := bind_assoc ..
    show wpAny _ A _ (QV c F mu3 s3 (((ev P cl g r H3).bind fun d h => cmpop o2 b d h).bind tb) _) NoE s3
    replace hb : (((ev P cl g r H3).bind fun d h => cmpop o2 b d h).bind tb) ≠ .bad := hb
    rw [e4] at hb ⊢
    refine Snd.seq (Snd.holding (h3 g mu3 s3 H3 S3 ((R1.go S1 G2).go S2 G3))) (fun b' y' H4 mu4 s4 _ S4 G4 V4 => Snd.at ?_) hb
    refine Snd.seq (t := operate [y, y'] (compareOp o2.op y y')) (fun hb => wpAny_operate' (cmpop_snd X.base S4 ((V2.go S2 G3).go S3 G4) V4 (by have := X.room; unfold deep; (first | lia | omega)) hb)) fun d z H5 mu5 s5 e5 S5 G5 V5 => Snd.holding ?_
    obtain ⟨⟨t, rfl⟩, rfl⟩ := cmpop_bool e5
    replace V5 : _ = _ := V5; subst V5
    exact fun _ => wpAny_truthy_bool (QV.same (t := s5.toks) S5 rfl)

theorem and_true (hl : 2 ≤ es.length) (h : Pw (BOk prog c P cl A F ns env) es xs) : TOk prog c P cl A F (.and es) (.BoolOp .And xs pos) ns env := by
  intro g mu s H S R
  rw [ev_and, arm_isTrue_BoolOp]
  have go : ∀ {es xs}, Pw (BOk prog c P cl A F ns env) es xs → es ≠ [] → ∀ mu s H, St c F mu H s.heap → FrR c F ns env g mu s.heap → Snd (model prog c.w) c F A mu s (PySem.allTrue .And xs env) ((evAnd P cl g es H).bind tb) (fun v (b : Bool) _ _ => v = .bool b) := by
    intro es xs h
    induction h with
    | nil => intro h; exact absurd rfl h
    | @cons e x es xs a b ih =>
      intro _ mu s H S R hb
      cases b with
      | nil =>
        rw [evAnd] at hb ⊢
        refine wpAny_allTrue_And_cons (wpAny_mono (a.2 g mu s H S R hb) (fun t s1 q => ?_) fun _ _ q => q)
        cases t with
        | true => exact wpAny_allTrue_And_nil q
        | false => exact q
      | @cons e2 x2 es2 xs2 a2 b2 =>
        have ev1 : evAnd P cl g (e :: e2 :: es2) H = (ev P cl g e H).bind fun v h => match truth v with | some true => evAnd P cl g (e2 :: es2) h | some false => .ok v h | .none => .bad := by
          rw [evAnd] <;> first | rfl | simp
        have ev2 : (evAnd P cl g (e :: e2 :: es2) H).bind tb = ((ev P cl g e H).bind tb).bind fun v h => match v with | .bool true => (evAnd P cl g (e2 :: es2) h).bind tb | .bool false => .ok (.bool false) h | _ => .bad := by
          rw [ev1, bind_assoc, bind_assoc]
          congr 1
          funext v h
          unfold tb
          cases ht : truth v with
          | none => rfl
          | some t =>
            have := truth_some ht; subst this
            cases t <;> rfl
        rw [ev2] at hb ⊢
        have hr : (ev P cl g e H).bind tb ≠ .bad := fun e => hb (by rw [e]; rfl)
        refine wpAny_allTrue_And_cons (wpAny_mono (a.2 g mu s H S R hr) (fun t s1 q => ?_) fun _ _ q => q.elim)
        obtain ⟨v, H1, mu1, e1, S1, G1, rfl, eg1, eo1⟩ := q
        rw [e1] at hb ⊢
        cases t with
        | true => exact wpAny_mono (ih (by simp) mu1 s1 H1 S1 (R.go S G1) hb) (fun _ _ q => q.back G1 eg1 eo1) fun _ _ q => q.elim
        | false => exact ⟨_, H1, mu1, rfl, S1, G1, rfl, eg1, eo1⟩
  exact go h (by intro q; rw [q] at hl; simp at hl) mu s H S R
theorem or_true (hl : 2 ≤ es.length) (h : Pw (BOk prog c P cl A F ns env) es xs) : TOk prog c P cl A F (.or es) (.BoolOp .Or xs pos) ns env := by
  intro g mu s H S R
  rw [ev_or, arm_isTrue_BoolOp]
  have go : ∀ {es xs}, Pw (BOk prog c P cl A F ns env) es xs → es ≠ [] → ∀ mu s H, St c F mu H s.heap → FrR c F ns env g mu s.heap → Snd (model prog c.w) c F A mu s (PySem.allTrue .Or xs env) ((evOr P cl g es H).bind tb) (fun v (b : Bool) _ _ => v = .bool b) := by
    intro es xs h
    induction h with
    | nil => intro h; exact absurd rfl h
    | @cons e x es xs a b ih =>
      intro _ mu s H S R hb
      cases b with
      | nil =>
        rw [evOr] at hb ⊢
        refine wpAny_allTrue_Or_cons (wpAny_mono (a.2 g mu s H S R hb) (fun t s1 q => ?_) fun _ _ q => q)
        cases t with
        | true => exact q
        | false => exact wpAny_allTrue_Or_nil q
      | @cons e2 x2 es2 xs2 a2 b2 =>
        have ev1 : evOr P cl g (e :: e2 :: es2) H = (ev P cl g e H).bind fun v h => match truth v with | some true => .ok v h | some false => evOr P cl g (e2 :: es2) h | .none => .bad := by
          rw [evOr] <;> first | rfl | simp
        have ev2 : (evOr P cl g (e :: e2 :: es2) H).bind tb = ((ev P cl g e H).bind tb).bind fun v h => match v with | .bool true => .ok (.bool true) h | .bool false => (evOr P cl g (e2 :: es2) h).bind tb | _ => .bad := by
          rw [ev1, bind_assoc, bind_assoc]
          congr 1
          funext v h
          unfold tb
          cases ht : truth v with
          | none => rfl
          | some t =>
            have := truth_some ht; subst this
            cases t <;> rfl
        rw [ev2] at hb ⊢
        have hr : (ev P cl g e H).bind tb ≠ .bad := fun e => hb (by rw [e]; rfl)
        refine wpAny_allTrue_Or_cons (wpAny_mono (a.2 g mu s H S R hr) (fun t s1 q => ?_) fun _ _ q => q.elim)
        obtain ⟨v, H1, mu1, e1, S1, G1, rfl, eg1, eo1⟩ := q
        rw [e1] at hb ⊢
        cases t with
        | true => exact ⟨_, H1, mu1, rfl, S1, G1, rfl, eg1, eo1⟩
        | false => exact wpAny_mono (ih (by simp) mu1 s1 H1 S1 (R.go S G1) hb) (fun _ _ q => q.back G1 eg1 eo1) fun _ _ q => q.elim
  exact go h (by intro q; rw [q] at hl; simp at hl) mu s H S R
end
end Mine
end

section
/-! calls, displays -/
namespace Mine
open PySem PySem.W PyProof.Rows
set_option maxRecDepth 100000
section
variable {prog : Program} {c : Cf} {K : Frag} {fields : List String} {P : Pg} {cl : CallT} {A : Around} {F : List Addr} {mu : Mu} {s : Shared} {H : Hp}
variable {ns : List String} {env : Env} {e l r m o i lo hi : E} {x l' r' m' o' i' : Expr} {es : List E} {xs : List Expr} {pos : Pos}

theorem call_ok {f : String} {id : Str} {q : Pos} (X : Cx prog c K fields P cl A F) (hg : isGlob env.scope f id = true) (hf : (P.fn ("", f)).isSome = true) (hs : xs.all notStar = true) (h : Pw (BOk prog c P cl A F ns env) es xs) :
    EOk prog c P cl A F (.call f es) (.Call (.Name id q) xs [] pos) ns env := by
  intro g mu s H S R hb
  refine el_pp (kind_of hg) fun tq0 hk hd => ?_; subst tq0
  refine el_xp (X.fns _ hf) fun a ha fa => ?_
  have ha' : addrOf K f = some a := by unfold fnAt at ha; rwa [if_pos rfl] at ha
  rw [ev_call] at hb ⊢
  refine wpAny_Call_NameR (name_text X.base S R hk hd (addr_ns ha') ?_)
  refine callWith_snd X.base hs (isFn_keeps fa) (evs_ok h g mu s H pos hs S R) (fun vs cs H' mu' s' _ S' G' V' => ?_) hb
  exact X.call _ a vs cs mu' s' H' ha hf S' V'

theorem bi_tab : ∀ b ∈ bfs, (b, bfv b) ∈ biTab := by decide
theorem bfv_keeps {b : String} (h : b ∈ bfs) {M : Model} : ∀ h, K.In h → ∃ k, (k = Keeper.frame ∨ k = Keeper.machine ∨ k = Keeper.boundFrame) ∧ Looks M h (keeperOf (bfv b)) k := by
  simp only [bfs, List.mem_cons, List.not_mem_nil, or_false] at h
  rcases h with rfl | rfl | rfl | rfl | rfl | rfl | rfl | rfl | rfl <;> first | exact keeps_builtin | exact keeps_type

theorem bi_ok {b : String} {id : Str} {q : Pos} (X : Cx prog c K fields P cl A F) (hg : isGlob env.scope b id = true) (hbf : bfs.contains b = true) (hs : xs.all notStar = true) (h : Pw (BOk prog c P cl A F ns env) es xs) :
    EOk prog c P cl A F (.bi b es) (.Call (.Name id q) xs [] pos) ns env := by
  intro g mu s H S R hb
  refine el_pp (kind_of hg) fun tq0 hk hd => ?_; subst tq0
  have hbf : b ∈ bfs := by simpa using hbf
  rw [ev_bi] at hb ⊢
  refine wpAny_Call_NameR (name_blt X.base S R hk hd (bi_tab b hbf) ?_)
  refine callWith_snd X.base hs (bfv_keeps hbf) (evs_ok h g mu s H pos hs S R) (fun vs cs H' mu' s' _ S' G' V' => ?_) hb
  exact bfn_snd X.hh S' V'

theorem isa_tab : ∀ t ∈ isaTs, (t, Value.type t) ∈ biTab := by decide

theorem isa_ok {t : String} {id t' : Str} {q q' : Pos} (X : Cx prog c K fields P cl A F) (hg : isGlob env.scope "isinstance" id = true) (ht : isGlob env.scope t t' = true) (hts : isaTs.contains t = true) (hs : notStar x = true)
    (h : EOk prog c P cl A F e x ns env) : EOk prog c P cl A F (.isa e t) (.Call (.Name id q) [x, .Name t' q'] [] pos) ns env := by
  intro g mu s H S R hb
  refine el_pp (kind_of hg) fun tq0 hk hd => ?_; subst tq0
  refine el_pp (kind_of ht) fun tq0 hk' hd' => ?_; subst tq0
  have hts : t ∈ isaTs := by simpa using hts
  have hp : [x, Expr.Name (Str.ofString t) q'].all notStar = true := by rw [List.all_cons, hs]; rfl
  rw [ev_isa] at hb ⊢
  have hr : ev P cl g e H ≠ .bad := fun e => hb (by rw [e]; rfl)
  refine wpAny_Call_NameR (name_blt (v := .builtin "isinstance") X.base S R hk hd (by decide) ?_)
  refine callWith_of (P := K.In) (by rw [starEach_plain hp]; rfl) keeps_builtin (evalArgs_all hp ?_)
  refine wpAny_items_cons (wpAny_mono (h g mu s H S R hr) (fun y s1 k => ?_) fun _ _ k => k.elim) (starEach_cons hs)
  obtain ⟨v, H1, mu1, e1, S1, G1, V1, eg1, eo1⟩ := k
  refine wpAny_items_cons (name_blt X.base S1 (R.go S G1) hk' hd' (isa_tab t hts) (wpAny_items_nil ?_)) (starEach_cons rfl)
  rw [e1] at hb ⊢
  exact ⟨X.base.in S1, wpAny_mono (isa_snd (P := P) X.base S1 V1 hts hb) (fun _ _ k => k.back G1 eg1 eo1) fun _ _ k => k.elim⟩

theorem tups_of : ∀ {l : List V}, l.all (fun v => (tupOf v).isSome) = true → ∃ ks : List (List Int), l = ks.map fun is => V.tup (is.map .int)
  | [], _ => ⟨[], rfl⟩
  | v :: l, h => by
    obtain ⟨a, b⟩ := Bool.and_eq_true_iff.mp h
    refine el_x (Option.isSome_iff_exists.mp a) fun tq0 _ => ?_; obtain ⟨is, e⟩ := tq0
    refine el_x (tups_of b) fun ks tqz => ?_; subst tqz
    exact in_x (is :: ks) (by rw [e]; rfl)
theorem tups_nd {ks : List (List Int)} (h : (ks.map fun is => V.tup (is.map .int)).Pairwise fun x y => keyEq x y = false) : ks.Nodup :=
  (List.pairwise_map.mp h).imp fun {a b} q z => by
    subst z
    have k : isKey (Key.v (.inr (.inl a))) = true := by unfold isKey; rw [keyOf_v]; rfl
    have e : keyEq (V.tup (a.map .int)) (V.tup (a.map .int)) = true := keyEq_refl k
    rw [e] at q; cases q
theorem lset_ok {id id' : Str} {q q' pos' : Pos} (X : Cx prog c K fields P cl A F) (hg : isGlob env.scope "len" id = true) (hg' : isGlob env.scope "set" id' = true) (hs : notStar x = true)
    (h : EOk prog c P cl A F e x ns env) : EOk prog c P cl A F (.lset e) (.Call (.Name id q) [.Call (.Name id' q') [x] [] pos'] [] pos) ns env := by
  intro g mu s H S R hb
  refine el_pp (kind_of hg) fun tq0 hk hd => ?_; subst tq0
  refine el_pp (kind_of hg') fun tq0 hk' hd' => ?_; subst tq0
  have hp : [x].all notStar = true := by rw [List.all_cons, hs]; rfl
  have hp' : [Expr.Call (.Name (Str.ofString "set") q') [x] [] pos'].all notStar = true := rfl
  rw [ev_lset] at hb ⊢
  have hr : ev P cl g e H ≠ .bad := fun e => hb (by rw [e]; rfl)
  refine wpAny_Call_NameR (name_blt (v := .builtin "len") X.base S R hk hd (by decide) ?_)
  refine callWith_of (P := K.In) (by rw [starEach_plain hp']; rfl) keeps_builtin (evalArgs_all hp' ?_)
  refine wpAny_items_cons ?_ (starEach_cons rfl)
  refine wpAny_Call_NameR (name_blt (v := .type "set") X.base S R hk' hd' (by decide) ?_)
  refine callWith_of (P := K.In) (by rw [starEach_plain hp]; rfl) keeps_type (evalArgs_all hp ?_)
  refine wpAny_items_cons (wpAny_mono (h g mu s H S R hr) (fun y s1 k => ?_) fun _ _ k => k.elim) (starEach_cons hs)
  obtain ⟨v, H1, mu1, e1, S1, G1, V1, eg1, eo1⟩ := k
  refine wpAny_items_nil ?_
  rw [e1] at hb ⊢
  have hb : (onL v H1 fun l => setLen l H1) ≠ .bad := hb
  show K.In s1.heap ∧ wpAny _ A (call (.type "set") [y]) (fun y' s' => wpAny _ _ _ _ _ s') _ s1
  refine ⟨X.base.in S1, ?_⟩
  cases v with
  | ref r =>
    have hb : (match H1[r]? with | some (.list l) => setLen l H1 | _ => .bad) ≠ .bad := hb
    cases ho : H1[r]? with
    | none => rw [ho] at hb; exact absurd rfl hb
    | some o =>
      rw [ho] at hb
      cases o with
      | list l =>
        have hb : setLen l H1 ≠ .bad := hb
        have er : ((Mine.R.ok (V.ref r) H1).bind fun a h => onL a h fun l => setLen l h) = setLen l H1 := by
          show (match H1[r]? with | some (.list l) => setLen l H1 | _ => .bad) = _; rw [ho]
        rw [er]
        unfold setLen at hb ⊢
        split at hb
        · rename_i hc
          rw [if_pos hc]
          refine el_pp hc fun c1 c2 c3 => ?_; try clear hc
          refine el_x (tups_of c1) fun ks tqz => ?_; subst tqz
          rw [List.length_map] at c2 ⊢
          obtain ⟨qq, n, items, rfl, h1, h2, h3, h4, h5⟩ := S1.listAt ho V1
          have room := X.room
          have sz := h4.size
          rw [List.length_map] at sz
          refine set_of (ks := ks) (items := items) X.hh (show A.units + 1 + 1 + 1 < cLine by (first | lia | omega)) ⟨_, h3, rfl, n, rfl⟩ sz.symm c2 (tups_nd c3) (fun i v hv => ?_) fun h' tk es' ep t SA keep => ?_
          · have hi : i < items.size := (Array.getElem?_eq_some_iff.mp hv).1
            have hi' : i < ks.length := by rw [← sz]; exact hi
            refine el_xp (h4.get (show (ks.map fun is => V.tup (is.map .int))[i]? = some (V.tup (ks[i].map .int)) by rw [List.getElem?_map, List.getElem?_eq_getElem hi']; rfl)) fun z ez rz => ?_
            rw [Array.getElem?_toList, hv] at ez
            cases ez
            refine el_xp (key_tuple (prog := prog) rz) fun a ea ka => ?_
            exact in_xxpp (ks[i]) a (List.getElem?_eq_getElem hi') ea ka
          · have S2 : St c F mu1 H1 h' := S1.grow keep
            refine wpAny_items_nil ⟨X.base.in (s := { s1 with heap := h', toks := tk }) S2, ?_⟩
            refine call_len_set (s := { s1 with heap := h', toks := tk }) SA.ob ⟨rfl, rfl, rfl⟩ rfl (SA.tb.fits (Nat.le_of_succ_le SA.tb.le)) (by rw [SA.sz]; (first | lia | omega)) ?_
            rw [SA.sz]
            exact ⟨_, H1, mu1, rfl, S2, G1.trans (.grow keep), int_vr, eg1, eo1⟩
        · exact absurd rfl hb
      | _ => exact absurd rfl hb
  | _ => exact absurd rfl hb
theorem list_ok (hs : xs.all notStar = true) (h : Pw (BOk prog c P cl A F ns env) es xs) : EOk prog c P cl A F (.list es) (.List xs pos) ns env := by
  intro g mu s H S R hb
  rw [ev_list] at hb ⊢
  have hr : evs P cl g es H ≠ .bad := fun e => hb (by rw [e]; rfl)
  refine wpAny_List (wpAny_mono (evs_ok h g mu s H pos hs S R hr) (fun ys s1 k => ?_) fun _ _ k => k.elim)
  obtain ⟨vs, H1, mu1, e1, S1, G1, V1, eg1, eo1⟩ := k
  rw [e1] at hb ⊢
  have hz : vs.length ≤ mostLen := by
    by_cases q : vs.length ≤ mostLen
    · exact q
    · exact absurd (show (if vs.length ≤ mostLen then alloc (.list vs) H1 else .bad) = .bad from if_neg q) hb
  have e2 : ((Mine.R.ok vs H1).bind fun vs h => if vs.length ≤ mostLen then alloc (.list vs) h else .bad) = alloc (.list vs) H1 := if_pos hz
  rw [e2]
  have hl : ys.length = vs.length := VRs.length V1
  exact ⟨by rw [hl, ← mostLen_eq]; exact hz, (QV.newList (cs := ys.toArray) S1 (by simpa using V1) hz 0).back G1 eg1 eo1⟩

theorem tup_ok {k : Nat} (hs : xs.all notStar = true) (h : Pw (BOk prog c P cl A F ns env) es xs) : EOk prog c P cl A F (.tup es) (.Tuple xs k pos) ns env := by
  intro g mu s H S R hb
  rw [ev_tup] at hb ⊢
  have hr : evs P cl g es H ≠ .bad := fun e => hb (by rw [e]; rfl)
  refine wpAny_Tuple (wpAny_mono (evs_ok h g mu s H pos hs S R hr) (fun ys s1 k => ?_) fun _ _ k => k.elim)
  obtain ⟨vs, H1, mu1, e1, S1, G1, V1, eg1, eo1⟩ := k
  rw [e1] at hb ⊢
  have hz : vs.length ≤ mostLen := by
    by_cases q : vs.length ≤ mostLen
    · exact q
    · exact absurd (show (if vs.length ≤ mostLen then Mine.R.ok (V.tup vs) H1 else .bad) = .bad from if_neg q) hb
  have e2 : ((Mine.R.ok vs H1).bind fun vs h => if vs.length ≤ mostLen then .ok (V.tup vs) h else .bad) = .ok (V.tup vs) H1 := if_pos hz
  rw [e2]
  have hl : ys.length = vs.length := VRs.length V1
  refine ⟨by rw [hl, ← mostLen_eq]; exact hz, (QV.here (s := s1) (s' := { s1 with heap := s1.heap.push { cls := .type "tuple", data := .seq ys.toArray } }) S1 (stays_push _ _) ?_ rfl rfl).back G1 eg1 eo1⟩
  show VR _ _ _ (.tup vs) _
  simp only [VR]
  exact in_xxxxppppp _ _ 0 ys.toArray rfl (Heap.get?_push_size _ rfl) rfl rfl (by
    have := V1.mono (h' := s1.heap.push { cls := .type "tuple", data := .seq ys.toArray }) (fun b o e _ => Heap.get?_push_of_some _ e) (fun _ _ e => e)
    simpa using this) hz

theorem dict_ok (X : Cx prog c K fields P cl A F) : EOk prog c P cl A F .dict (.Dict [] [] pos) ns env := by
  intro g mu s H S R _
  rw [ev_dict]
  refine wpAny_Dict_empty ?_
  refine QV.more (l := ⟨s.heap.objs.size, s.heap.objs.size⟩) S (stays_push _ _) (get_push_fresh _) (get_push_fresh _) ⟨⟨rfl, Nat.ne_of_gt (modules_low (X.base.lim.keeps S.stays))⟩, 0, #[], Heap.get?_push_size _ rfl, rfl, .nil, rfl, by simp⟩ ?_ rfl rfl
  show VR _ _ _ (.ref H.length) _
  simp only [VR]
  exact in_xp ⟨s.heap.objs.size, s.heap.objs.size⟩ (by rw [← S.len, List.getElem?_append_right (Nat.le_refl _), Nat.sub_self]; rfl) rfl

/-! methods -/
theorem methodCall_of {M : Model} {E : Value → Shared → Prop} {name : Str} {apos : Pos} {ov : Value} {Q : Value → Shared → Prop} (hs : xs.all notStar = true) (hl : xs.length < 20) (hline : apos.endLine = pos.line)
    (h : ∀ pl, wpAny M A (getMethod ov name pl) (fun f s' => wpAny M A (callWith pos f.1 f.2 (backTo pos (starEach xs env)) []) Q E s') E s) :
    wpAny M A (methodCall o' name apos pos env ov (xs.length + ([] : List Keyword).length) (backTo pos (starEach xs env)) (backToKw pos (keywordEach [] env))) Q E s := by
  have hall : ∀ {ys : List Expr}, ys.all notStar = true → (backTo pos (starEach ys env)).all (fun x => !x.1) = true := by
    intro ys
    induction ys with
    | nil => intro _; rfl
    | cons y ys ih =>
      intro h
      simp only [List.all_cons, Bool.and_eq_true] at h
      rw [starEach_cons h.1]
      show (!false && (backTo pos (starEach ys env)).all (fun x => !x.1)) = true
      rw [ih h.2]; rfl
  have hform : methodCallForm (xs.length + ([] : List Keyword).length) (backTo pos (starEach xs env)) (backToKw pos (keywordEach [] env)) = true := by
    unfold methodCallForm
    rw [hall hs]
    show (true && true && decide (xs.length + 0 + 0 < 30)) = true
    simp; (first | lia | omega)
  have hpos : methodCallPos true o' env apos pos = pure pos := by unfold methodCallPos; simp [hline]
  unfold methodCall
  rw [hform]
  refine wpAny_bind (wpAny_holding (wpAny_mono (h _) (fun f s' q => ?_) fun _ _ q => q))
  exact wpAny_bind (wpAny_of_eq hpos q)

theorem list_slot : ∀ m ∈ listMs, Slot "list" (Str.ofString m) ("list." ++ m) ∧ typeOf (.builtin ("list." ++ m)) = pure (.type "method_descriptor") := by
  intro m h
  simp only [listMs, List.mem_cons, List.not_mem_nil, or_false] at h
  rcases h with rfl | rfl
  · exact ⟨PySem.F.slot_list_append, PySem.F.type_list_append⟩
  · exact ⟨PySem.F.slot_list_pop, PySem.F.type_list_pop⟩

theorem t1 {n : Int} {t : Tok} {Q : Value → Shared → Prop} {E : Value → Shared → Prop} (pl : Sem Bool) (h : wpAny (model prog c.w) A (callWith pos (.builtin "int.bit_length") [.int n t] (backTo pos (starEach [] env)) []) Q E s) :
   wpAny (model prog c.w) A (getMethod (.int n t) (Str.ofString "bit_length") pl) (fun f s' => wpAny (model prog c.w) A (callWith pos f.1 f.2 (backTo pos (starEach [] env)) []) Q E s') E s := by
  exact getMethod_int_bit_length h
theorem t2 {n : Int} {t : Tok} {Q : Value → Shared → Prop} {E : Value → Shared → Prop} (B : Base c K fields) (S : St c F mu H s.heap) (h : wpAny (model prog c.w) A (call (.builtin "int.bit_length") [.int n t]) Q E s) : wpAny (model prog c.w) A (callWith pos (.builtin "int.bit_length") [.int n t] (backTo pos (starEach [] env)) []) Q E s := by
  have h0 : ([] : List Expr).all notStar = true := rfl
  refine callWith_of (P := K.In) (by rw [starEach_plain h0]; rfl) keeps_builtin ?_
  refine evalArgs_all h0 ?_
  refine wpAny_items_nil ⟨B.in S, ?_⟩
  exact h
theorem int_meth {n : Int} {t : Tok} {apos : Pos} {nm : Str} {Q : Value → Shared → Prop} {E : Value → Shared → Prop} (B : Base c K fields) (S : St c F mu H s.heap) (hline : apos.endLine = pos.line) (hx : xs = []) (hn : nm = Str.ofString "bit_length") (hs : xs.all notStar = true) (hl : xs.length < 20)
    (h : Q (.int (Builtin.Int.intBits n) s.toks) { s with toks := s.toks + 1 }) :
    wpAny (model prog c.w) A (methodCall o' nm apos pos env (.int n t) (xs.length + ([] : List Keyword).length) (backTo pos (starEach xs env)) (backToKw pos (keywordEach [] env))) Q E s := by
  refine methodCall_of hs hl hline fun pl => ?_
  subst hx hn
  exact t1 pl (t2 B S (call_int_bit_length h))

theorem meth_ok {nm : String} {apos : Pos} (X : Cx prog c K fields P cl A F) (hline : apos.endLine = pos.line) (hbo : baseOk o' = true) (hs : xs.all notStar = true) (hl : xs.length < 20) (h1 : EOk prog c P cl A F o o' ns env)
    (h : Pw (BOk prog c P cl A F ns env) es xs) : EOk prog c P cl A F (.meth o nm es) (.Call (.Attribute o' (Str.ofString nm) apos) xs [] pos) ns env := by
  intro g mu s H S R
  rw [ev_meth, arm_eval_Call, base_eq hbo]
  refine Snd.seq (h1 g mu s H S R) fun a x H1 mu1 s1 _ S1 G1 V1 => Snd.at ?_
  have R1 := R.go S G1
  split
  · rename_i n
    split
    · rename_i hm
      split
      · have hx : xs = [] := by cases h; rfl
        refine el_x V1 fun t tqz => ?_; try clear V1; subst tqz
        have hn : Str.ofString nm = Str.ofString "bit_length" := by rw [hm]
        exact fun _ => int_meth X.base S1 hline hx hn hs hl (by rw [← bits_eq]; exact QV.int S1)
      · exact fun h => absurd rfl h
    · exact fun h => absurd rfl h
  · rename_i rr
    split
    · rename_i C fs hi
      split
      · rename_i fd hfn hlk
        intro hb
        have hsome : (P.fn (C, nm)).isSome = true := by rw [hfn]; rfl
        refine el_xp (X.fns _ hsome) fun fa ha hf => ?_
        obtain ⟨q, D, n, ents, rfl, z1, z2, z3, z4, z5, z6, I⟩ := S1.instAt hi V1
        refine el_ppp (X.base.inst _ _ z3) fun hC y1 y2 y3 => ?_
        unfold clsOk at y2
        simp only [Bool.and_eq_true, beq_iff_eq, List.all_eq_true] at y2
        obtain ⟨⟨⟨⟨⟨⟨k1, k2⟩, k3⟩, k4⟩, k5⟩, k6⟩, k7⟩ := y2
        have hfi : findIn K (.ref D) (Str.ofString nm) = some (some (.ref fa)) := by
          unfold fnAt at ha
          rw [if_neg hC] at ha
          simp only [y1] at ha
          split at ha
          · rename_i b e; cases ha; exact e
          · cases ha
        have hty : typeIn K (.ref fa) = some (.type "function") := by
          show (K.lookup fa).map (·.cls) = _
          exact opt_elim (o := funcOf (K.lookup fa)) hf fun t h => by rw [t.2]; exact congrArg some (eq_of_beq h)
        have hsh : shadowIn (some ⟨.type "dict", none, .dict ents n, #[]⟩) (Str.ofString nm) = some false := by
          rcases look_fields (n := n) (f := nm) z6 with ⟨_, w⟩ | ⟨v', y, w, _⟩
          · unfold shadowIn; dsimp only; rw [w]; rfl
          · rw [hlk] at w; cases w
        refine methodCall_of hs hl hline fun pl => method_fn (X.base.in S1) I k1 k2 hfi hty hsh ?_
        refine callWith_snd X.base hs (isFn_keeps hf) (evs_ok h g mu1 s1 H1 pos hs S1 R1) (fun vs cs H' mu' s' _ S' G' V' => ?_) hb
        refine X.call _ fa _ _ mu' s' H' ha hsome S' ?_
        show VRs _ _ _ (.ref _ :: vs) (.ref q.a :: cs)
        simp only [VRs]
        exact in_xxpp _ _ rfl (VR.go S1 G' V1) V'
      · exact fun h => absurd rfl h
    · rename_i l hi
      split
      · rename_i hm
        intro hb
        have hm : nm ∈ listMs := by simpa using hm
        obtain ⟨sl, ty⟩ := list_slot nm hm
        obtain ⟨q, n, items, rfl, z1, z2, z3, z4, z5⟩ := S1.listAt hi V1
        refine methodCall_of hs hl hline fun pl => getMethod_list_of (items := items) sl ty ⟨_, z3, rfl, n, rfl⟩ ?_ ?_
        · exact in_xp _ z3 rfl
        · refine callWith_snd X.base hs keeps_builtin (evs_ok h g mu1 s1 H1 pos hs S1 R1) (fun vs cs H' mu' s' _ S' G' V' => ?_) hb
          split
          · rename_i ob ho
            exact objMeth_snd S' (VR.go S1 G' V1) ho V'
          · exact fun h => absurd rfl h
      · exact fun h => absurd rfl h
    · exact fun h => absurd rfl h
  · exact fun h => absurd rfl h
end
end Mine
end

section
/-! classes that are called -/
namespace Mine
open PySem PySem.W PyProof.Rows
set_option maxRecDepth 100000

noncomputable def dCls (d : Data) : Option { c : ClassData // d = .cls c } := if h : d.ctorIdx = 8 then @Data.cls.elim (fun d => Option { c : ClassData // d = .cls c }) d h (fun c => some ⟨c, rfl⟩) else none
noncomputable def dDict (d : Data) : Option { t : Array DictEntry × Nat // d = .dict t.1 t.2 } := if h : d.ctorIdx = 3 then @Data.dict.elim (fun d => Option { t : Array DictEntry × Nat // d = .dict t.1 t.2 }) d h (fun a n => some ⟨(a, n), rfl⟩) else none
noncomputable def vStr (v : Value) : Option { t : Str × Tok // v = .str t.1 t.2 } := if h : v.ctorIdx = 6 then @Value.str.elim (fun v => Option { t : Str × Tok // v = .str t.1 t.2 }) v h (fun a n => some ⟨(a, n), rfl⟩) else none
noncomputable def vBi (v : Value) : Option { t : String // v = .builtin t } := if h : v.ctorIdx = 9 then @Value.builtin.elim (fun v => Option { t : String // v = .builtin t }) v h (fun a => some ⟨a, rfl⟩) else none
noncomputable def slIn (l : List (Option Value)) : Option { t : Option Value × Option Value × Option Value × Option Value × Option Value × String // l = [t.1, t.2.1, t.2.2.1, t.2.2.2.1, some (.builtin t.2.2.2.2.2), t.2.2.2.2.1] } := match l with
  | [a, b, c, d, some v, e] => (vBi v).map fun i => ⟨(a, b, c, d, e, i.1), congrArg (fun v => [a, b, c, d, some v, e]) i.2⟩
  | _ => none
noncomputable def nsOk (K : Frag) (ns : Addr) : Bool := nsIn K ns "__eq__" == some none && (nsIn K ns "__ne__" == some none && (opt (K.lookup ns) fun p => opt (dDict p.data) fun es => es.1.1.toList.all fun e => (vStr e.key).isSome))
noncomputable def clOk (D : Addr) (c : ClassData) : Bool := c.mro == [.ref D, .type "object"] && !c.hasDel
noncomputable def eqClsIn (K : Frag) (D : Addr) : Bool := opt (K.lookup D) fun o => opt (dCls o.data) fun c => opt (slIn o.slots.toList) fun _ => (o.cls == .type "type" && clOk D c.1) && nsOk K c.1.ns

theorem nsIn_none {K : Frag} {ns : Addr} {p : Obj} {es : Array DictEntry} {n : Nat} (hn : K.lookup ns = some p) (hd : p.data = .dict es n) {x : String} (hx : nsIn K ns x = some none) : nsFind es x = none := by
  obtain ⟨_, _, _, _⟩ := p
  cases hd
  unfold nsIn at hx
  rw [hn] at hx
  dsimp only at hx
  unfold nsFind findBy
  rw [← Array.find?_toList]
  cases q : es.toList.find? (·.key.isStr x) with
  | none => rfl
  | some e => rw [q] at hx; cases hx
theorem cls_eq {o : Obj} {c : ClassData} {D : Addr} {k0 k1 k2 k3 k5 : Option Value} {i : String} (h1 : o.cls = .type "type") (h2 : o.data = .cls c) (h3 : c.mro = [.ref D, .type "object"]) (h4 : c.hasDel = false) (h5 : o.slots.toList = [k0, k1, k2, k3, some (.builtin i), k5]) :
    o = excClassObj c.name c.qualname D c.ns c.bases [.type "object"] c.hasDict c.slotNames c.subclasses c.abstract c.collection o.dict k0 k1 k2 k3 k5 i := by
  obtain ⟨t, dd, dt, ⟨sl⟩⟩ := o
  obtain ⟨name, bases, mro, ns, qual, hd, sn, sub, ab, col, del⟩ := c
  cases h1; cases h2; cases h3; cases h4; cases h5; rfl
theorem dict_ns {p : Obj} {es : Array DictEntry} {n : Nat} {h : Heap} {a : Addr} (hp : h.get? a = some p) (hd : p.data = .dict es n) (hk : es.toList.all (fun e => (vStr e.key).isSome) = true) : h.Ns a (nsFind es) :=
  ⟨p, es, n, hp, hd, fun e he => (Option.isSome_iff_exists.mp (List.all_eq_true.mp hk e (Array.mem_toList_iff.mpr he))).elim fun t _ => ⟨_, _, t.2⟩, fun _ => rfl⟩
theorem nsOk_of {K : Frag} {h : Heap} {ns : Addr} (X : K.In h) (e : nsOk K ns = true) : ∃ m, h.Ns ns m ∧ m "__eq__" = none ∧ m "__ne__" = none :=
  and_elim e fun e5 e => and_elim e fun e6 e => opt_at e fun p hn e => opt_elim e fun es e7 => ⟨_, dict_ns (X _ _ hn) es.2 e7, nsIn_none hn es.2 (eq_of_beq e5), nsIn_none hn es.2 (eq_of_beq e6)⟩
theorem eqCls_of {K : Frag} {h : Heap} {D : Addr} (X : K.In h) (e : eqClsIn K D = true) : EqCls h D :=
  opt_at e fun o ho e => opt_elim e fun c e => opt_elim e fun k e => and_elim e fun e1 e => and_elim e1 fun e1 e2 => and_elim e2 fun e2 e3 =>
    let ⟨m, q⟩ := nsOk_of X e
    ⟨_, _, _, _, _, _, _, _, _, _, _, _, _, _, _, _, m, (X _ _ ho).trans (congrArg some (cls_eq (eq_of_beq e1) c.2 (eq_of_beq e2) ((Bool.not_eq_true' _).mp e3) k.2)), q⟩

section
variable {prog : Program} {c : Cf} {K : Frag} {fields : List String} {P : Pg} {cl : CallT} {A : Around} {F : List Addr} {mu : Mu} {s : Shared} {H : Hp}
variable {ns : List String} {env : Env} {es : List E} {xs : List Expr} {pos : Pos}

theorem make_snd {C : String} {vs : List V} {cs : List Value} {D : Addr} (X : Cx prog c K fields P cl A F) (hC : C ≠ "") (hf : (P.fn (C, "__init__")).isSome = true) (hD : addrOf K C = some D) (hm : mkIn K C = true) (S : St c F mu H s.heap) (V : VRs c.bs mu s.heap vs cs) :
    Snd (model prog c.w) c F A mu s (call (.ref D) cs) ((cl (C, "__init__") (.ref H.length :: vs) (H ++ [.inst C []])).bind fun v h' => match v with | .none => .ok (.ref H.length) h' | _ => .bad) (VRl c) := by
  intro hb
  unfold mkIn at hm
  rw [hD] at hm
  simp only [Bool.and_eq_true] at hm
  obtain ⟨⟨m1, m2⟩, m3⟩ := hm
  split at m3
  · rename_i a ha
    have ht : typeIn K (.ref a) = some (.type "function") := by simpa using m3
    have KX := X.base.in S
    obtain ⟨h, g, d, t, os⟩ := s
    have hcl := (X.made C hC hf).trans hD
    have fa : fnAt K (C, "__init__") = some a := by
      unfold fnAt
      rw [if_neg hC, hD]
      dsimp only
      rw [ha]
    have k : h.StaysIn ((h.push emptyDict).push (instObj D h.objs.size)) := fun b o e => Heap.get?_push_of_some _ (Heap.get?_push_of_some _ e)
    obtain ⟨S1, G1⟩ := St.more (l := ⟨h.objs.size + 1, h.objs.size⟩) (o := .inst C []) S k (Heap.get?_none_of_le (by simp)) (Heap.get?_none_of_le (Nat.le_refl _)) (by
      simp only [OR]
      refine in_pxxxppp (by simp) D 0 (#[]) hcl (by heap_get) (by heap_get) ?_
      simp [FRs])
    have hat : (mu ++ [⟨h.objs.size + 1, h.objs.size⟩])[H.length]? = some (⟨h.objs.size + 1, h.objs.size⟩ : Loc) := by rw [← S.len]; simp
    have V1 : VRs c.bs (mu ++ [⟨h.objs.size + 1, h.objs.size⟩]) ((h.push emptyDict).push (instObj D h.objs.size)) (.ref H.length :: vs) (.ref (h.objs.size + 1) :: cs) := by
      simp only [VRs]
      exact in_xxpp _ _ rfl ⟨_, hat, rfl⟩ (V.go S G1)
    refine wpAny_call (make_core (makes_of KX m1) (looks_findIn KX ha) (fun self => bind_fn KX self ht) (.inl rfl) ?_)
    have hb1 : cl (C, "__init__") (.ref H.length :: vs) (H ++ [.inst C []]) ≠ .bad := fun q => hb (by rw [q]; rfl)
    refine codeAny_mono (X.code1 D cs _ a _ _ _ ⟨(h.push emptyDict).push (instObj D h.objs.size), g, d, t, os⟩ _ fa hf S1 V1 hb1) fun q s' z => ?_
    cases q with
    | error e => exact z.elim
    | ok f =>
      cases f with
      | ret v =>
        obtain ⟨v', H', mu', y1, y2, y3, y4, y5, y6⟩ := z
        rw [y1] at hb ⊢
        cases v' with
        | none =>
          refine ⟨y4, _, H', mu', rfl, y2, G1.trans y3, ?_, y5, y6⟩
          exact in_xp _ (y3.ext _ _ hat) rfl
        | _ => exact absurd rfl hb
      | _ => exact z.elim
  · cases m3

theorem make_ok {C : String} {id : Str} {q : Pos} (X : Cx prog c K fields P cl A F) (hg : isGlob env.scope C id = true) (hC : C ≠ "") (hf : (P.fn (C, "__init__")).isSome = true) (hm : mkIn K C = true) (hs : xs.all notStar = true) (h : Pw (BOk prog c P cl A F ns env) es xs) :
    EOk prog c P cl A F (.make C es) (.Call (.Name id q) xs [] pos) ns env := by
  intro g mu s H S R hb
  refine el_pp (kind_of hg) fun tq0 hk hd => ?_; subst tq0
  have hm' := hm
  unfold mkIn at hm'
  split at hm'
  · rename_i D hD
    simp only [Bool.and_eq_true] at hm'
    rw [ev_make] at hb ⊢
    refine wpAny_Call_NameR (name_text X.base S R hk hd (addr_ns hD) ?_)
    refine callWith_snd X.base hs (keeps_K hm'.1.2) (evs_ok h g mu s H pos hs S R) (fun vs cs H' mu' s' _ S' G' V' => ?_) hb
    refine el_x (Option.isSome_iff_exists.mp hf) fun dd hdd => ?_
    have := make_snd X hC hf hD hm S' V'
    rw [hdd]
    exact this
  · cases hm'
end
end Mine
end

section
/-! list comprehensions -/
namespace Mine
open PySem PySem.W PyProof.Rows
set_option maxRecDepth 100000

noncomputable def clo (env : Env) (names : List (Str × NameKind)) : List (Str × Addr) := (names.filterMap fun p => if p.2 == .free then (env.cells.lookup p.1).map fun a => (p.1, a) else none).reverse

theorem closure_of {env : Env} {sc : Scope} (h : ∀ p ∈ sc.names, p.2 = .free → (env.cells.lookup p.1).isSome = true) : closureFor sc env = pure (clo env sc.names) := by
  unfold closureFor
  have go : ∀ (l : List (Str × NameKind)) (acc : List (Str × Addr)), (∀ p ∈ l, p.2 = .free → (env.cells.lookup p.1).isSome = true) →
      (forIn l acc fun x r => (do
        if (x.2 == NameKind.free) = true then do
          let a ← cellOf env x.1
          pure (ForInStep.yield ((x.1, a) :: r))
        else pure (ForInStep.yield r) : Sem (ForInStep (List (Str × Addr))))) = (pure ((l.filterMap fun p => if p.2 == .free then (env.cells.lookup p.1).map fun a => (p.1, a) else none).reverse ++ acc) : Sem _) := by
    intro l
    induction l with
    | nil => intro acc _; rfl
    | cons p r ih =>
      intro acc hp
      rw [List.forIn_cons]
      by_cases q : (p.2 == NameKind.free) = true
      · refine el_x (Option.isSome_iff_exists.mp (hp p (.head _) (by simpa using q))) fun a ha => ?_
        simp only [q, if_true]
        unfold cellOf
        rw [ha]
        have := ih ((p.1, a) :: acc) fun p' h' => hp p' (.tail _ h')
        rw [List.filterMap_cons]
        simp only [q, if_true, ha, Option.map_some, List.reverse_cons, List.append_assoc, List.singleton_append]
        exact this
      · simp only [q]
        have := ih acc fun p' h' => hp p' (.tail _ h')
        rw [List.filterMap_cons]
        simp only [q]
        exact this
  have := go sc.names [] h
  simp only [List.append_nil] at this
  unfold clo
  rw [← this]
  refine Eq.trans (bind_pure _) ?_
  rfl

theorem lookup_in {α β : Type} [BEq α] [LawfulBEq α] : ∀ {l : List (α × β)} {a : α} {b : β}, (l.map (·.1)).Nodup → (a, b) ∈ l → l.lookup a = some b
  | p :: r, a, b, nd, h => by
    rw [List.map_cons, List.nodup_cons] at nd
    rw [List.lookup_cons]
    rcases List.mem_cons.mp h with q | q
    · rw [← q]; simp
    · have : (a == p.1) = false := by
        rw [beq_eq_false_iff_ne]
        intro e
        exact nd.1 (e ▸ List.mem_map.mpr ⟨_, q, rfl⟩)
      rw [this]
      exact lookup_in nd.2 q
theorem mem_lookup {α β : Type} [BEq α] [LawfulBEq α] : ∀ {l : List (α × β)} {a : α} {b : β}, l.lookup a = some b → (a, b) ∈ l
  | p :: r, a, b, h => by
    rw [List.lookup_cons] at h
    split at h
    · rename_i e
      cases h
      rw [beq_iff_eq] at e
      subst e
      exact .head _
    · exact .tail _ (mem_lookup h)

theorem clo_mem {env : Env} {names : List (Str × NameKind)} {n : Str} {a : Addr} : (n, a) ∈ clo env names ↔ (n, NameKind.free) ∈ names ∧ env.cells.lookup n = some a := by
  unfold clo
  rw [List.mem_reverse, List.mem_filterMap]
  constructor
  · rintro ⟨p, hp, e⟩
    split at e
    · rename_i q
      refine el_xp (Option.map_eq_some_iff.mp e) fun b hb z => ?_
      cases z
      obtain ⟨p1, p2⟩ := p
      have : p2 = .free := by simpa using q
      subst this
      exact ⟨hp, hb⟩
    · cases e
  · rintro ⟨h1, h2⟩
    exact in_xp _ h1 (by rw [if_pos (by simp)]; simp [h2])
theorem clo_nodup {env : Env} {names : List (Str × NameKind)} (nd : (names.map (·.1)).Nodup) : ((clo env names).map (·.1)).Nodup := by
  unfold clo
  rw [List.map_reverse]
  refine List.pairwise_reverse.mpr (List.Pairwise.imp (fun e => Ne.symm e) (?_ : List.Nodup _))
  induction names with
  | nil => simp
  | cons p r ih =>
    rw [List.map_cons, List.nodup_cons] at nd
    rw [List.filterMap_cons]
    split
    · exact ih nd.2
    · rename_i q e
      rw [List.map_cons, List.nodup_cons]
      refine ⟨fun hm => ?_, ih nd.2⟩
      refine el_xp (List.mem_map.mp hm) fun z hz ez => ?_
      refine el_xp (List.mem_filterMap.mp hz) fun w hw ew => ?_
      have k1 : q.1 = p.1 := by
        split at e
        · refine el_xp (Option.map_eq_some_iff.mp e) fun b hb z => ?_; rw [← z]
        · cases e
      have k2 : z.1 = w.1 := by
        split at ew
        · refine el_xp (Option.map_eq_some_iff.mp ew) fun b hb z => ?_; rw [← z]
        · cases ew
      exact nd.1 (List.mem_map.mpr ⟨w, hw, by rw [← k2, ez, k1]⟩)
theorem pair_one {l : List (Str × Addr)} (h : l.Pairwise fun x y => x.2 ≠ y.2) {n m : Str} {a : Addr} (h1 : (n, a) ∈ l) (h2 : (m, a) ∈ l) : n = m := by
  induction l with
  | nil => cases h1
  | cons p r ih =>
    rw [List.pairwise_cons] at h
    rcases List.mem_cons.mp h1 with q1 | q1 <;> rcases List.mem_cons.mp h2 with q2 | q2
    · rw [← q1] at q2; cases q2; rfl
    · exact absurd rfl (q1 ▸ h.1 _ q2)
    · exact absurd rfl (q2 ▸ h.1 _ q1)
    · exact ih h.2 q1 q2

theorem relab_mem {sc0 sc : Scope} {n : Str} {k : NameKind} (h : (relab sc0 sc).names.lookup n = some k) : ∃ k0, (n, k0) ∈ sc.names ∧ k = (if (k0 == .free && sc0.kind == .function && sc0.names.lookup n == some .cell) then .cell else k0) := by
  have m := mem_lookup h
  refine el_xp (List.mem_map.mp m) fun p hp e => ?_
  obtain ⟨p1, p2⟩ := p
  dsimp only at e
  split at e
  · rename_i q; cases e; exact in_xp p2 hp (by rw [if_pos q])
  · rename_i q; cases e; exact in_xp _ hp (by rw [if_neg q])

section
variable {c : Cf} {F : List Addr} {mu : Mu} {H : Hp} {ns : List String} {env : Env} {g : Gm} {h h' : Heap}

theorem inner_frr {sc : Scope} {y : String} {t : Nat} {C : Addr} {m : Str → Option Value} (S : St c F mu H h) (R : FrR c F ns env g mu h) (hk : compOk ns env.scope sc y = true) (ht : ns[t]? = some y) (nd : ns.Nodup) (nC : h.get? C = none) (hC : h'.Ns C m) (k : h.StaysIn h') :
    FrR c F ns (compEnvC sc (clo env sc.names) C env) (g.set t none) mu h' := by
  unfold compOk at hk
  simp only [Bool.and_eq_true, beq_iff_eq, decide_eq_true_eq, List.all_eq_true, bne_iff_ne, Bool.or_eq_true] at hk
  obtain ⟨⟨⟨⟨⟨k1, k2⟩, k3⟩, k4⟩, k5⟩, k6⟩ := hk
  have low : ∀ b o, h.get? b = some o → b ≠ C := fun b o e q => by rw [q, nC] at e; cases e
  have cellK : ∀ n : Str, (relab env.scope sc).names.lookup n = some .cell ∨ (relab env.scope sc).names.lookup n = some .free → (n, NameKind.free) ∈ sc.names ∧ env.kindOf n = some .cell := by
    intro n e
    rcases e with e | e
    · refine el_xp (relab_mem e) fun k0 hm e => ?_
      have q := k6 _ hm
      split at e
      · rename_i z
        simp only [Bool.and_eq_true, beq_iff_eq] at z
        rw [z.1.1] at hm
        exact ⟨hm, z.2⟩
      · exact absurd e.symm q.1.1
    · refine el_xp (relab_mem e) fun k0 hm e => ?_
      have q := k6 _ hm
      split at e
      · cases e
      · rename_i z
        subst e
        rcases q.2 with q | q
        · exact absurd rfl q
        · exact absurd (by simp [k2, q]) z
  have look : ∀ (n : Str) a, (n, NameKind.free) ∈ sc.names → env.cells.lookup n = some a → (clo env sc.names).lookup n = some a := fun n a h1 h2 => lookup_in (clo_nodup k4) (clo_mem.mpr ⟨h1, h2⟩)
  refine el_xxxp (id hC) fun oC esC epC eC rC => ?_
  refine ⟨k1, R.glob, R.blt, by rw [List.length_set]; exact R.len, ⟨m, hC, fun i n v e1 e2 e3 => ?_⟩, fun i n v e1 e2 e3 => ?_, fun q => ?_, fun n a hm => ?_, ?_, fun n e => ?_, ⟨oC, eC⟩, ?_⟩
  · refine el_xp (relab_mem e3) fun k0 hm e => ?_
    have q := k6 _ hm
    have hk0 : k0 = .local := by
      split at e
      · cases e
      · exact e.symm
    subst hk0
    rcases q.1.2 with (q | q) | q
    · exact absurd rfl q
    · exact absurd q (k5 n (List.mem_of_getElem? e1))
    · have hn : n = y := ofString_inj q
      subst hn
      refine el_y (List.getElem?_eq_some_iff.mp e1) fun i1 i2 => ?_
      refine el_y (List.getElem?_eq_some_iff.mp ht) fun t1 t2 => ?_
      have : i = t := (List.getElem_inj nd).mp (i2.trans t2.symm)
      subst this
      rw [List.getElem?_set] at e2
      split at e2
      · split at e2 <;> cases e2
      · exact absurd rfl (by assumption)
  · obtain ⟨hm, hc⟩ := cellK _ e3
    have hit : t ≠ i := by
      intro q; subst q
      rw [ht] at e1; cases e1
      have := lookup_in k4 hm
      rw [k3] at this; cases this
    rw [List.getElem?_set_ne hit] at e2
    refine el_xxpp (R.cel i n v e1 e2 (.inl hc)) fun a x h1 tq3 h4 => ?_; obtain ⟨o, h2, h3⟩ := tq3
    exact in_xxpp a x (look _ a hm h1) ⟨o, k _ _ h2, h3⟩ (h4.mono (fun b o e _ => k b o e) fun _ _ e => e)
  · refine el_xp (S.ownAt q) fun ob e _ => ?_; exact low _ _ e rfl
  · obtain ⟨hm1, hm2⟩ := clo_mem.mp hm
    refine el_ppppxxp (R.outs n a (mem_lookup hm2)) fun r1 r2 r3 r4 v o r5 r6 => ?_
    exact ⟨r1, r2, low _ _ r5, r4, v, o, k _ _ r5, r6⟩
  · have nn := clo_nodup (env := env) k4
    have : ∀ p ∈ clo env sc.names, ∀ q ∈ clo env sc.names, p.2 = q.2 → p = q := fun p hp q hq e => by
      obtain ⟨p1, p2⟩ := p
      obtain ⟨q1, q2⟩ := q
      dsimp only at e
      subst e
      have a1 := mem_lookup (clo_mem.mp hp).2
      have a2 := mem_lookup (clo_mem.mp hq).2
      rw [pair_one R.inj a1 a2]
    show (clo env sc.names).Pairwise _
    exact (List.pairwise_map.mp nn).imp_of_mem fun {p q} hp hq ne e => ne (by rw [this p hp q hq e])
  · obtain ⟨hm, hc⟩ := cellK n (.inl e)
    refine el_x (Option.isSome_iff_exists.mp (R.has n hc)) fun a ha => ?_
    show ((clo env sc.names).lookup n).isSome = true
    rw [look n a hm ha]; rfl
  · show c.bs.get? C = none
    cases e : c.bs.get? C with
    | none => rfl
    | some o => exact absurd rfl (low _ _ (S.stays _ _ e))
end

section
variable {prog : Program} {c : Cf} {F : List Addr} {A : Around} {mu : Mu} {s : Shared} {H : Hp} {ns : List String} {env : Env} {g : Gm} {h : Heap} {E : Value → Shared → Prop}

theorem It.self {I : Addr} {src : V} {k : Nat} {Q : Value → Shared → Prop} (x : It c I src k mu s.heap) (q : Q (.ref I) s) : wpAny (model prog c.w) A (pyIter (.ref I)) Q E s := by
  unfold It at x
  split at x
  · refine el_xp x fun l _ hi => ?_; try clear x; exact wpAny_pyIter_listiter hi q
  · refine el_ppxxp x fun _ _ ty t h1 hi => ?_; try clear x
    rcases h1 with rfl | rfl
    · exact wpAny_pyIter_striter_ascii hi q
    · exact wpAny_pyIter_striter_wide hi q
  · refine el_pp x fun _ _ hi => ?_; try clear x; exact wpAny_pyIter_rangeiter hi q
  · exact x.elim

theorem bind_local {M : Model} {i : Nat} {n : String} {v : V} {x : Value} {Q : Unit → Shared → Prop} (S : St c F mu H s.heap) (R : FrR c F ns env g mu s.heap) (nd : ns.Nodup) (e1 : ns[i]? = some n)
    (hk : env.kindOf (Str.ofString n) = some .local) (hv : VR c.bs mu s.heap v x)
    (hQ : ∀ h' tk, St c F mu H h' → (∀ b o, b ≠ env.locals → s.heap.get? b = some o → h'.get? b = some o) → FrR c F ns env (g.set i (some v)) mu h' → Q () { s with heap := h', toks := tk }) : wpAny M A (storeName env (Str.ofString n) x) Q E s := by
  have hp : (env.scope.kind == .class || (env.scope.kind == .module && env.locals != env.globals)) = false := by rw [R.kind]; rfl
  refine el_xp (R.loc) fun m h1 h2 => ?_
  refine wpAny_storeName_local hk h1 (fun h' e2 e3 => ?_) hp
  have k : ∀ b o, b ≠ env.locals → s.heap.get? b = some o → h'.get? b = some o := fun b o hb e => e3.extBut b o hb e
  have nf := ns_notFixed h1
  have fx : ∀ b o, s.heap.get? b = some o → Fixed o → h'.get? b = some o := fun b o e f => k b o (fun q => nf o (q ▸ e) f) e
  refine el_xxxpp (id e2) fun oL es ep q1 q2 q3 => ?_
  refine hQ h' _ (S.poke R.out R.new k (fun _ => ⟨oL, es, ep, q1, q2⟩) nf) k ?_
  refine ⟨R.kind, R.glob, R.blt, by rw [List.length_set]; exact R.len, ⟨_, e2, fun j n' v' f1 f2 f3 => ?_⟩, fun j n' v' f1 f2 f3 => ?_, R.out, fun n' a f1 => ?_, R.inj, R.has, ⟨oL, q1⟩, R.new⟩
  · by_cases hn : n' = n
    · subst hn
      rcases get_set _ f2 with ⟨_, w⟩ | ⟨w, _⟩
      · cases w; exact in_xp x (by simp) (hv.mono fx fun _ _ e => e)
      · exact absurd (nodup_ix nd e1 f1) w
    · rcases get_set _ f2 with ⟨w, _⟩ | ⟨w, f2⟩
      · subst w; rw [e1] at f1; cases f1; exact absurd rfl hn
      · refine el_xp (h2 j n' v' f1 f2 f3) fun y a b => ?_
        refine in_xp y ?_ (b.mono fx fun _ _ e => e)
        rw [if_neg (fun q => hn (ofString_inj q))]; exact a
  · rcases get_set _ f2 with ⟨w, _⟩ | ⟨w, f2⟩
    · subst w; rw [e1] at f1; cases f1; rw [hk] at f3; rcases f3 with f3 | f3 <;> cases f3
    · refine el_xxpp (R.cel j n' v' f1 f2 f3) fun a y b1 b2 b3 => ?_
      refine el_ppp (R.outs _ a (PySem.mem_of_lookup b1)) fun _ _ o3 _ => ?_
      exact in_xxpp a y b1 (b2.sameBut e3 o3) (b3.mono fx fun _ _ e => e)
  · refine el_ppppx (R.outs n' a f1) fun o1 o2 o3 o4 v' y => ?_
    exact in_ppppx o1 o2 o3 o4 v' (y.sameBut e3 o3)

theorem St.adopt (S : St c F mu H h) {D : Addr} {l : List V} {items : Array Value} (no : ¬ Own mu D) (nf : D ∉ F) (nb : c.bs.get? D = none) (pl : h.PlainList D items) (v : VRs c.bs mu h l items.toList) (hl : l.length ≤ mostLen) :
    St c F (mu ++ [⟨D, D⟩]) (H ++ [.list l]) h := by
  have ext : ∀ (i : Nat) m, mu[i]? = some m → (mu ++ [(⟨D, D⟩ : Loc)])[i]? = some m := fun i m e => by rw [List.getElem?_append_left (List.getElem?_eq_some_iff.mp e).1]; exact e
  have own : ∀ b, Own (mu ++ [⟨D, D⟩]) b → Own mu b ∨ b = D := fun b ⟨m, hm, hb⟩ => by
    rcases List.mem_append.mp hm with q | q
    · exact .inl ⟨m, q, hb⟩
    · rw [List.mem_singleton.mp q] at hb; exact .inr (hb.elim id id)
  have cases' : ∀ (i : Nat) m, (mu ++ [(⟨D, D⟩ : Loc)])[i]? = some m → mu[i]? = some m ∨ (i = mu.length ∧ m = ⟨D, D⟩) := fun i m e => by
    by_cases hi : i < mu.length
    · rw [List.getElem?_append_left hi] at e; exact .inl e
    · rw [List.getElem?_append_right (by (first | lia | omega))] at e
      have : i - mu.length = 0 := by
        have := (List.getElem?_eq_some_iff.mp e).1; simp at this; (first | lia | omega)
      rw [this] at e; simp at e; exact .inr ⟨by (first | lia | omega), e.symm⟩
  have ne : ∀ m, m ∈ mu → m.a ≠ D ∧ m.d ≠ D := fun m hm => ⟨fun q => no ⟨m, hm, .inl q.symm⟩, fun q => no ⟨m, hm, .inr q.symm⟩⟩
  refine ⟨S.mods, S.stays, by simp [S.len], fun i m p e1 e2 => ?_, fun i j m p e1 e2 hij => ?_, fun b y => ?_, fun b y => ?_, S.frs⟩
  · rcases cases' i m e1 with q | ⟨q, rfl⟩
    · rw [List.getElem?_append_left (by rw [← S.len]; exact (List.getElem?_eq_some_iff.mp q).1)] at e2
      exact (S.objs i m p q e2).mono (fun _ _ e _ => e) ext rfl rfl
    · rw [q, S.len, List.getElem?_append_right (Nat.le_refl _)] at e2
      simp at e2; subst e2
      refine el_x pl fun n e => ?_; try clear pl
      exact in_pxxpp rfl n items e (v.mono (fun _ _ e _ => e) ext) hl
  · rcases cases' i m e1 with q | ⟨q, rfl⟩ <;> rcases cases' j p e2 with r | ⟨r, rfl⟩
    · exact S.apart i j m p q r hij
    · have A := ne m (List.mem_of_getElem? q); exact ⟨A.1, A.1, A.2, A.2⟩
    · have A := ne p (List.mem_of_getElem? r); exact ⟨Ne.symm A.1, Ne.symm A.2, Ne.symm A.1, Ne.symm A.2⟩
    · exact absurd (q.trans r.symm) hij
  · rcases own b y with q | q
    · exact S.newB b q
    · rw [q]; exact nb
  · rcases own b y with q | q
    · exact S.notF b q
    · rw [q]; exact nf
end
end Mine
end

section
/-! for over enumerate -/
namespace Mine
open PySem PySem.W PyProof.Rows
set_option maxRecDepth 100000
section
variable {c : Cf} {F X : List Addr} {mu mu' : Mu} {H : Hp} {h h' : Heap}
theorem St.pokes (S : St c F mu H h) (ho : ∀ a ∈ X, ¬ Own mu a) (hb : ∀ a ∈ X, c.bs.get? a = none) (k : ∀ b o, b ∉ X → h.get? b = some o → h'.get? b = some o) (hf : ∀ a ∈ X, a ∉ F) (nf : ∀ a ∈ X, ∀ o, h.get? a = some o → ¬ Fixed o) :
    St c F mu H h' := by
  have fx : ∀ b o, h.get? b = some o → Fixed o → h'.get? b = some o := fun b o e f => k b o (fun q => nf b q o e f) e
  refine ⟨S.mods, fun b o e => k b o (fun q => by rw [hb b q] at e; cases e) (S.stays b o e), S.len, fun i l o e1 e2 => ?_, S.apart, S.newB, S.notF, fun b q => ?_⟩
  · have x := S.objs i l o e1 e2
    have O := own_of_get e1
    refine el_xp (x.notFixed l.a (.inl rfl)) fun oa ha _ => ?_
    refine el_xp (x.notFixed l.d (.inr rfl)) fun od hd _ => ?_
    exact x.mono fx (fun _ _ e => e) ((k _ _ (fun q => ho _ q O.1) ha).trans ha.symm) ((k _ _ (fun q => ho _ q O.2) hd).trans hd.symm)
  · refine el_pxxxp (S.frs b q) fun q1 o es ep e d => ?_
    exact in_pxxxp q1 o es ep (k b o (fun z => hf b z q) e) d
theorem Go.pokes (k : ∀ b o, b ∉ X → h.get? b = some o → h'.get? b = some o) (al : ∀ a ∈ X, ∃ o, h'.get? a = some o) : Go F X mu h mu h' :=
  ⟨fun _ _ e => e, fun b o e _ _ hx => k b o hx e, fun b o e _ hx => ⟨o.slots, k b o hx e⟩, fun _ x => .inl x, fun b o e => by
    by_cases q : b ∈ X
    · exact al b q
    · exact in_x o (k b o q e)⟩
end

section
variable {prog : Program} {c : Cf} {F : List Addr} {A : Around} {ns : List String} {env : Env} {mu : Mu} {s : Shared} {H : Hp} {g : Gm}

inductive ForEI (c : Cf) (F : List Addr) (ns : List String) (env : Env) (bd : Gm → Hp → RS) (x y rr0 : Nat) (rr : RS) (I J : Addr) (q : Loc) (mu : Mu) (s : Shared) (k : Nat) (s' : Shared) : Prop
  | mk (j : Nat) (g' : Gm) (H' : Hp) (mu' : Mu) (old : Value) (er : forEL bd x y (.ref rr0) k j g' H' = rr) (S : St c F mu' H' s'.heap) (R : FrR c F ns env g' mu' s'.heap) (he : IsEnum s'.heap I J (j : Nat) old) (hi : s'.heap.IsListIter J q.a j) (hm : mu'[rr0]? = some q) (IO : ¬ Own mu' I) (JO : ¬ Own mu' J) (G : Go F (I :: J :: ow env) mu s.heap mu' s'.heap) (eg : s'.gens = s.gens) (eo : s'.os = s.os)
theorem forE_sndS {ts : List Expr} {tn : Nat} {tp : Pos} {iter : Expr} {body : List Stmt} {pos : Pos} {x y : Nat} {r : Mine.R V} {bd : Gm → Hp → RS} {n : Nat} (hh : A.handled = none) (nd : ns.Nodup) (S : St c F mu H s.heap) (R : FrR c F ns env g mu s.heap)
    (hs : ∀ x, foldedSetIterable iter env x = pure x) (ht : Tgts ns env [x, y] ts)
    (h1 : r ≠ .bad → ∀ (Q : Value → Shared → Prop) (E : Value → Shared → Prop), (∀ v w s' H' mu', r = .ok v H' → St c F mu' H' s'.heap → Go F [] mu s.heap mu' s'.heap → VR c.bs mu' s'.heap v w → s'.gens = s.gens → s'.os = s.os → wpAny (model prog c.w) A (call (.type "enumerate") [w]) Q E s') → wpAny (model prog c.w) A (eval iter env) Q E s)
    (h2 : ∀ g' H' mu' s', St c F mu' H' s'.heap → FrR c F ns env g' mu' s'.heap → SndS (model prog c.w) c F A ns env mu' s' (execs body env) (bd g' H')) :
    SndS (model prog c.w) c F A ns env mu s (exec (.For (.Tuple ts tn tp) iter body [] pos) env) (r.bindS g fun src h => forEL bd x y src n 0 g h) := by
  intro hb
  have hr : r ≠ .bad := fun e => hb (by rw [e]; rfl)
  refine wpAny_For (h1 hr _ _ (fun src w s1 H1 mu1 er S1 G1 V1 eg1 eo1 => ?_)) hs
  subst er
  have R1 := R.go S G1
  replace hb : forEL bd x y src n 0 g H1 ≠ .bad := hb
  show wpAny (model prog c.w) A (call (.type "enumerate") [w]) (fun z s₁ => wpAny (model prog c.w) A (pyIter z) (fun it s₂ => codeAny _ _ _ (fun r s' => match r with | .ok f => QS c F ns env mu s (forEL bd x y src n 0 g H1) f s' | .error e => cameBackBy _ A env NoE e s') s₂) _ s₁) _ _
  generalize hrr : forEL bd x y src n 0 g H1 = rr at hb ⊢
  have n0 : nthL src H1 0 ≠ none := fun e => hb (by
    rw [← hrr]
    cases n with
    | zero => rfl
    | succ n => unfold forEL; rw [e])
  obtain ⟨rr0, l0, rfl, hr0⟩ : ∃ r l, src = .ref r ∧ H1[r]? = some (.list l) := by
    unfold nthL at n0
    split at n0
    · rename_i r
      split at n0
      · rename_i l e; exact in_xxp r l rfl e
      · exact absurd rfl n0
    · exact absurd rfl n0
  obtain ⟨q, n', items, rfl, hq1, hq2, hq3, hq4, hq5⟩ := S1.listAt hr0 V1
  refine call_enumerate_list (items := items) ⟨_, hq3, rfl, n', rfl⟩ fun hE he0 hi0 hz0 k0 => wpAny_pyIter_enum he0 ?_
  have fJ : s1.heap.get? s1.heap.objs.size = none := get_push_fresh _
  have fI : s1.heap.get? (s1.heap.objs.size + 1) = none := Heap.get?_none_of_le (by (first | lia | omega))
  have hIJ : s1.heap.objs.size + 1 ≠ s1.heap.objs.size := by (first | lia | omega)
  generalize s1.heap.objs.size + 1 = I at he0 fI hIJ ⊢
  generalize s1.heap.objs.size = J at he0 hi0 fJ hIJ ⊢
  have IF : I ∉ F := fun q => by refine el_pxxxp (S1.frs I q) fun _ o _ _ e _ => ?_; rw [fI] at e; cases e
  have JF : J ∉ F := fun q => by refine el_pxxxp (S1.frs J q) fun _ o _ _ e _ => ?_; rw [fJ] at e; cases e
  have new_ow : ∀ a, s1.heap.get? a = none → a ∉ ow env := fun a fa q => by
    rcases List.mem_cons.mp q with q | q
    · refine el_x (R1.cls) fun o e => ?_; rw [← q, fa] at e; cases e
    · refine el_xp (List.mem_map.mp q) fun tq0 hm tqz => ?_; obtain ⟨nm, a⟩ := tq0; subst tqz
      refine el_ppppxxp (R1.outs nm a hm) fun _ _ _ _ v o e _ => ?_
      rw [fa] at e; cases e
  have Iow := new_ow I fI
  have Jow := new_ow J fJ
  have IO1 : ¬ Own mu1 I := fun q => by refine el_xp (S1.ownAt q) fun ob e _ => ?_; rw [fI] at e; cases e
  have JO1 : ¬ Own mu1 J := fun q => by refine el_xp (S1.ownAt q) fun ob e _ => ?_; rw [fJ] at e; cases e
  have fI0 : s.heap.get? I = none := G1.gone fI
  have fJ0 : s.heap.get? J = none := G1.gone fJ
  have stE : s1.heap.StaysIn hE := k0
  have G01 : Go F (I :: J :: ow env) mu s.heap mu1 hE := (G1.wide0).trans (.grow stE)
  have drop2 : ∀ {mu2 h2 h3}, Go F (I :: J :: ow env) mu s.heap mu2 h2 → (∀ b o, b ≠ J → h2.get? b = some o → h3.get? b = some o) → Go F (ow env) mu s.heap mu2 h3 := fun G k => (G.drop fI0 fun b o _ e => e).drop fJ0 k
  refine codeAny_forLoop_any (ForEI c F ns env bd x y rr0 rr I J q mu s) ?_ n
    ⟨0, g, H1, mu1, .none, hrr, S1.grow stE, R1.go S1 (.grow stE), he0, hi0, hq1, IO1, JO1, G01, eg1, eo1⟩
  rintro k s2 ⟨j, g2, H2, mu2, old, er, S2, R2, he2, hi2, hm2, IO2, JO2, G2, eg2, eo2⟩
  have bsI : c.bs.get? I = none := by
    cases e : c.bs.get? I with
    | none => rfl
    | some o => have := S1.stays I o e; rw [fI] at this; cases this
  have bsJ : c.bs.get? J = none := by
    cases e : c.bs.get? J with
    | none => rfl
    | some o => have := S1.stays J o e; rw [fJ] at this; cases this
  have nfI : ∀ o, s2.heap.get? I = some o → ¬ Fixed o := fun o e => by
    rw [he2] at e; cases e
    rintro (⟨q, _⟩ | ⟨q, _⟩) <;> simp at q
  have nfJ : ∀ o, s2.heap.get? J = some o → ¬ Fixed o := fun o e => by
    refine el_xpp hi2 fun o' e' q1 q2 => ?_; try clear hi2
    rw [e] at e'; cases e'
    rintro (⟨q, _⟩ | ⟨q, _⟩) <;> rw [q1] at q <;> simp at q
  cases k with
  | zero => exact absurd er.symm hb
  | succ k =>
    unfold forEL at er
    cases hn : nthL (.ref rr0) H2 j with
    | none => rw [hn] at er; exact absurd er.symm hb
    | some ov =>
      rw [hn] at er
      obtain ⟨l2, hl2, hj2⟩ : ∃ l, H2[rr0]? = some (.list l) ∧ l[j]? = ov := by
        simp only [nthL] at hn
        split at hn
        · rename_i l e; exact in_xp l e (Option.some.inj hn)
        · cases hn
      refine el_pxxpp (S2.objs _ _ _ hm2 hl2) fun _ n2 items2 o3 o4 o5 => ?_
      have isl : s2.heap.IsList q.a items2 := ⟨_, o3, rfl, n2, rfl⟩
      cases ov with
      | none =>
        have er : RS.nx g2 H2 = rr := er
        subst er
        refine wpAny_pyNext_enum_end hh he2 hi2 isl (by rw [← Array.getElem?_toList]; exact o4.none hj2) fun h' k1 => wpAny_execs_nil ?_
        have S3 : St c F mu2 H2 h' := S2.poke JO2 bsJ (fun b o hb e => k1 b o hb e) (fun q => absurd q JF) nfJ
        exact QS.next S3 (R2.poked S2 JO2 JF Jow (fun b o hb e => k1 b o hb e) nfJ) (drop2 G2 fun b o hb e => k1 b o hb e) eg2 eo2
      | some v =>
        dsimp only at er
        refine el_xp (o4.get hj2) fun xv hxv vxv => ?_
        refine wpAny_pyNext_enum_item he2 hi2 isl (by rw [← Array.getElem?_toList]; exact hxv) hIJ fun h3 eo3 hi3 ht3 hz3 k3 => ?_
        refine wpAny_letOwnedTupleGo_enum eo3 fun h4 he4 sb4 => ?_
        have sb4 : Heap.SameBut I h3 h4 := sb4
        have aJ : J ≠ I := fun e => hIJ e.symm
        have Ilt := Heap.lt_size he2
        have Jlt : J < s2.heap.objs.size := by refine el_xp hi2 fun o e _ => ?_; try clear hi2; exact Heap.lt_size e
        have k4 : ∀ b o, b ∉ [I, J] → s2.heap.get? b = some o → h4.get? b = some o := fun b o hb e => by
          simp at hb
          rw [sb4.2 b hb.1]; exact k3 b o hb.1 hb.2 e
        have hi4 : h4.IsListIter J q.a (j + 1) := by
          refine el_xp hi3 fun o e r => ?_; try clear hi3
          exact in_xp o ((sb4.2 J aJ).trans e) r
        have ht4 : h4.get? s2.heap.objs.size = some { cls := .type "tuple", data := .seq #[.int j s2.toks, xv] } := (sb4.2 _ (fun e => Nat.lt_irrefl _ (e ▸ Ilt))).trans ht3
        have al4 : ∀ a ∈ [I, J], ∃ o, h4.get? a = some o := fun a ha => by
          simp at ha
          rcases ha with rfl | rfl
          · exact in_x _ he4
          · refine el_xp hi4 fun o e _ => ?_; try clear hi4; exact in_x o e
        have inX : ∀ {p : Addr → Prop}, p I → p J → ∀ a ∈ [I, J], p a := fun pi pj a ha => by
          simp at ha
          rcases ha with rfl | rfl
          · exact pi
          · exact pj
        have S4 : St c F mu2 H2 h4 := S2.pokes (inX IO2 JO2) (inX bsI bsJ) k4 (inX IF JF) (inX nfI nfJ)
        have Gp : Go F [I, J] mu2 s2.heap mu2 h4 := Go.pokes k4 al4
        have R4 := R2.goX S2 Gp (inX Iow Jow) (inX nfI nfJ)
        have V4 : VR c.bs mu2 h4 (.tup [.int j, v]) (.ref s2.heap.objs.size) := by
          simp only [VR]
          refine in_xxxxppppp _ _ 0 _ rfl ht4 rfl rfl ?_ (by simp [mostLen])
          simp only [VRs]
          exact ⟨_, _, rfl, ⟨_, rfl⟩, _, _, rfl, vxv.mono (S2.fixedX Gp (inX nfI nfJ)) fun _ _ e => e, rfl⟩
        have hbt : bindT [x, y] (.tup [.int j, v]) g2 H2 = some ((g2.set x (some (.int j))).set y (some v)) := rfl
        refine target_snd (s := { s2 with heap := h4, toks := s2.toks + 1 }) hh nd S4 R4 V4 (.inr ⟨ts, tn, tp, rfl, ht, by simp⟩) hbt fun h5 tk5 S5 G5 R5 => ?_
        have G45 : Go F (I :: J :: ow env) mu s.heap mu2 h5 := (G2.trans (Gp.wide fun b hb => by simp at hb; rcases hb with rfl | rfl <;> simp)).trans (G5.wide fun b hb => List.mem_cons_of_mem _ (List.mem_cons_of_mem _ hb))
        have he5 : IsEnum h5 I J ((j + 1 : Nat) : Int) xv := G5.keep I _ (by rw [he4]; rfl) IO2 IF Iow
        have hi5 : h5.IsListIter J q.a (j + 1) := by
          refine el_xp hi4 fun o e r => ?_; try clear hi4
          exact in_xp o (G5.keep J o e JO2 JF Jow) r
        have hr2 : bd ((g2.set x (some (.int j))).set y (some v)) H2 ≠ .bad := fun e => hb (by rw [← er, e])
        refine wpAny_mono (h2 _ H2 mu2 { s2 with heap := h5, toks := tk5 } S5 R5 hr2) (fun f s6 q6 => ?_) fun e s6 q6 => q6.elim
        obtain ⟨mu6, G6, eg6, eo6, q6⟩ := q6
        have G46 : Go F (I :: J :: ow env) mu s.heap mu6 s6.heap := G45.trans (G6.wide fun b hb => List.mem_cons_of_mem _ (List.mem_cons_of_mem _ hb))
        rcases q6 with ⟨g6, H6, e6, rfl, S6, R6⟩ | ⟨v6, H6, z, e6, rfl, S6, V6⟩
        · rw [e6] at er
          refine el_xp hi5 fun oJ eJ rJ => ?_; try clear hi5
          exact in_xp k (Nat.lt_succ_self _) ⟨j + 1, g6, H6, mu6, xv, er, S6, R6, G6.keep I _ he5 IO2 IF Iow, ⟨oJ, G6.keep J oJ eJ JO2 JF Jow, rJ⟩, G6.ext _ _ hm2, G6.notOwn IO2 he5, G6.notOwn JO2 eJ, G46, eg6.trans eg2, eo6.trans eo2⟩
        · rw [e6] at er
          exact ⟨mu6, drop2 G46 fun b o _ e => e, eg6.trans eg2, eo6.trans eo2, .inr ⟨v6, H6, z, er.symm, rfl, S6, V6⟩⟩
end
end Mine
end

section
/-! list comprehensions: the walk -/
namespace Mine
open PySem PySem.W PyProof.Rows
set_option maxRecDepth 100000
section
variable {prog : Program} {c : Cf} {P : Pg} {cl : CallT} {A : Around} {F : List Addr} {ns : List String} {env : Env}

theorem compL_step {cnd elt : V → Hp → Mine.R V} {src v : V} {k j : Nat} {acc l : List V} {H Hf : Hp} (h : compL cnd elt src (k + 1) j acc H = .ok l Hf) (hn : nth src H j = some (some v)) :
    (∃ H1, cnd v H = .ok (.bool false) H1 ∧ compL cnd elt src k (j + 1) acc H1 = .ok l Hf) ∨ ∃ H1 x H2, cnd v H = .ok (.bool true) H1 ∧ elt v H1 = .ok x H2 ∧ acc.length < mostLen ∧ compL cnd elt src k (j + 1) (acc ++ [x]) H2 = .ok l Hf := by
  rw [compL, hn] at h
  dsimp only at h
  cases e : cnd v H with
  | bad => rw [e] at h; cases h
  | ok w H1 =>
    rw [e] at h
    have h : (match truth w with | .none => Mine.R.bad | some false => compL cnd elt src k (j + 1) acc H1 | some true => (elt v H1).bind fun x h => if acc.length < mostLen then compL cnd elt src k (j + 1) (acc ++ [x]) h else .bad) = .ok l Hf := h
    cases w with
    | bool b =>
      cases b with
      | false => exact .inl ⟨H1, rfl, h⟩
      | true =>
        refine .inr ⟨H1, ?_⟩
        have h : ((elt v H1).bind fun x h => if acc.length < mostLen then compL cnd elt src k (j + 1) (acc ++ [x]) h else .bad) = .ok l Hf := h
        cases e2 : elt v H1 with
        | bad => rw [e2] at h; cases h
        | ok x H2 =>
          rw [e2] at h
          have h : (if acc.length < mostLen then compL cnd elt src k (j + 1) (acc ++ [x]) H2 else Mine.R.bad) = .ok l Hf := h
          split at h
          · rename_i q; exact in_xxppp x H2 rfl rfl q h
          · cases h
    | _ => cases h

inductive CompI (c : Cf) (F : List Addr) (ns : List String) (en : Env) (cnd el : V → Hp → Mine.R V) (src : V) (l : List V) (Hf : Hp) (g : Gm) (t : Nat) (I D C : Addr) (mu : Mu) (s : Shared) (k : Nat) (s' : Shared) : Prop
  | mk (j : Nat) (acc : List V) (H' : Hp) (mu' : Mu) (items : Array Value) (gl : Gm) (hc : compL cnd el src k j acc H' = .ok l Hf) (S : St c F mu' H' s'.heap) (R : FrR c F ns en gl mu' s'.heap) (hgl : ∀ v, gl.set t (some v) = g.set t (some v)) (it : It c I src j mu' s'.heap) (pl : s'.heap.PlainList D items)
      (v : VRs c.bs mu' s'.heap acc items.toList) (la : acc.length ≤ mostLen) (IO : ¬ Own mu' I) (DO : ¬ Own mu' D) (G : Go F [I, D, C] mu s.heap mu' s'.heap) (eg : s'.gens = s.gens) (eo : s'.os = s.os)
theorem comp_ok {elt it cond : E} {t : Nat} {elt' it' : Expr} {y : String} {py : Pos} {ifs : List Expr} {scope : Scope} {pos : Pos} (hh : A.handled = none) (nd : ns.Nodup) (hk : compOk ns env.scope scope y = true) (ht : ns[t]? = some y)
    (hs : ∀ x, foldedSetIterable it' env x = pure x) (h1 : EOk prog c P cl A F it it' ns env) (h2 : ∀ C, EOk prog c P cl A F elt elt' ns (compEnvC scope (clo env scope.names) C env))
    (h3 : (ifs = [] ∧ cond = .bool true) ∨ ∃ c', ifs = [c'] ∧ ∀ C, TOk prog c P cl A F cond c' ns (compEnvC scope (clo env scope.names) C env)) :
    EOk prog c P cl A F (.comp elt t it cond) (.ListComp elt' [⟨.Name (Str.ofString y) py, it', ifs, 0⟩] scope pos) ns env := by
  intro g mu s H S R hb
  have hk' := hk
  unfold compOk at hk'
  simp only [Bool.and_eq_true, beq_iff_eq, decide_eq_true_eq, List.all_eq_true, bne_iff_ne, Bool.or_eq_true] at hk'
  obtain ⟨⟨⟨⟨⟨k1, k2⟩, k3⟩, k4⟩, k5⟩, k6⟩ := hk'
  rw [ev_comp] at hb ⊢
  have hr : ev P cl g it H ≠ .bad := fun e => hb (by rw [e]; rfl)
  rw [eval_ListComp]
  refine wpAny_comprehension_free (use := none) (cl := clo env scope.names) (gs := []) rfl hs (closure_of fun p hp e => ?_) k1 (fun x hx e => ?_) (wpAny_mono (h1 g mu s H S R hr) (fun x s1 q => ?_) fun e s' q => q.elim)
  · have := k6 p hp
    rcases this.2 with q | q
    · exact absurd e q
    · exact R.has p.1 q
  · obtain ⟨x1, x2⟩ := x
    dsimp only at e
    subst e
    exact lookup_in k4 hx
  obtain ⟨src, H1, mu1, e1, S1, G1, V1, eg1, eo1⟩ := q
  rw [e1] at hb ⊢
  have R1 := R.go S G1
  generalize hcl : (fun v h => ev P cl (g.set t (some v)) cond h) = cnd at hb ⊢
  generalize hel : (fun v h => ev P cl (g.set t (some v)) elt h) = el at hb ⊢
  replace hb : ((compL cnd el src LF 0 [] H1).bind fun l h => alloc (.list l) h) ≠ .bad := hb
  obtain ⟨l, Hf, hl⟩ : ∃ l Hf, compL cnd el src LF 0 [] H1 = .ok l Hf := by
    cases e : compL cnd el src LF 0 [] H1 with
    | ok l Hf => exact ⟨l, Hf, rfl⟩
    | bad => rw [e] at hb; exact absurd rfl hb
  have er : ((Mine.R.ok src H1).bind fun src h => (compL cnd el src LF 0 [] h).bind fun l h => alloc (.list l) h) = .ok (.ref Hf.length) (Hf ++ [.list l]) := by
    show (compL cnd el src LF 0 [] H1).bind _ = _
    rw [hl]; rfl
  rw [er]
  have n0 : nth src H1 0 ≠ none := fun e => by
    have : LF = 99999 + 1 := rfl
    rw [this, compL, e] at hl
    cases hl
  refine pyIter_snd S1 V1 n0 fun o it0 => ?_
  refine wpAny_newObj_type (wpAny_newFunctionEnv (fun p hp => (k6 p hp).1.1) (by intro y hy; simp at hy) (fun h₁ hns₁ hsb₁ => ?_) k1)
  dsimp only at hns₁ hsb₁ ⊢
  have z1 : (s1.heap.push o).objs.size = s1.heap.objs.size + 1 := Heap.size_push ..
  have fresh : ∀ a, s1.heap.objs.size ≤ a → s1.heap.get? a = none := fun a ha => Heap.get?_none_of_le ha
  generalize hH2 : (s1.heap.push o).push { cls := .type "list", dict := none, data := .seq ([] : List Value).toArray } = H2 at hns₁ hsb₁ ⊢
  have z2 : H2.objs.size = s1.heap.objs.size + 2 := by rw [← hH2, Heap.size_push, z1]
  generalize hC : H2.objs.size = C at hns₁ hsb₁ z2 ⊢
  have oldI : ∀ b ob, (s1.heap.push o).get? b = some ob → h₁.get? b = some ob := fun b ob e => by
    have lb := Heap.lt_size e
    exact hsb₁.extBut b ob (fun q => Nat.lt_irrefl _ (Nat.lt_trans (Nat.lt_of_lt_of_eq lb z1) (Nat.lt_of_lt_of_eq (Nat.lt_succ_self _) (z2.symm.trans q.symm)))) (Heap.get?_push_of_some _ (hH2 ▸ Heap.get?_push_of_some _ e))
  have stay : s1.heap.StaysIn h₁ := fun b ob e => oldI b ob (Heap.get?_push_of_some _ e)
  have pl1 : h₁.PlainList (s1.heap.push o).objs.size #[] := ⟨_, hsb₁.extBut _ _ (fun q => Nat.lt_irrefl _ (Nat.lt_of_lt_of_eq (Nat.lt_succ_self _) (z2.symm.trans (q.symm.trans z1)))) (Heap.get?_push_of_some _ (hH2 ▸ Heap.get?_push_size _ rfl))⟩
  have it1 : It c s1.heap.objs.size src 0 mu1 h₁ := it0.mono (fun ob e => oldI _ ob e) (fun b ob e _ => oldI b ob e) fun _ _ e => e
  generalize hD : (s1.heap.push o).objs.size = D at pl1 ⊢
  generalize hIn : s1.heap.objs.size = I at it1 z1 z2 fresh ⊢
  have fI := fresh I (Nat.le_refl _)
  have fD := fresh D (by (first | lia | omega))
  have fC := fresh C (by (first | lia | omega))
  have nID : I ≠ D := by (first | lia | omega)
  have nIC : I ≠ C := by (first | lia | omega)
  have nDC : D ≠ C := by (first | lia | omega)
  have S2 : St c F mu1 H1 h₁ := S1.grow stay
  have R2 := inner_frr S1 R1 hk ht nd fC hns₁ stay
  have notF : ∀ a, s1.heap.get? a = none → a ∉ F := fun a fa q => by refine el_pxxxp (S1.frs a q) fun _ o _ _ e _ => ?_; rw [fa] at e; cases e
  have notO : ∀ a, s1.heap.get? a = none → ¬ Own mu1 a := fun a fa q => by refine el_xp (S1.ownAt q) fun ob e _ => ?_; rw [fa] at e; cases e
  have notB : ∀ a, s1.heap.get? a = none → c.bs.get? a = none := fun a fa => by
    cases e : c.bs.get? a with
    | none => rfl
    | some o => have := S1.stays a o e; rw [fa] at this; cases this
  have notC : ∀ a, s1.heap.get? a = none → a ≠ C → a ∉ ow (compEnvC scope (clo env scope.names) C env) := fun a fa ne q => by
    rcases List.mem_cons.mp q with q | q
    · exact ne q
    · refine el_xp (List.mem_map.mp q) fun tq0 hm tqz => ?_; obtain ⟨nm, a'⟩ := tq0; subst tqz
      refine el_ppppxxp (R1.outs nm a' (mem_lookup (clo_mem.mp hm).2)) fun _ _ _ _ v o e _ => ?_
      rw [fa] at e; cases e
  have G2 : Go F [I, D, C] mu s.heap mu1 h₁ := (G1.wide0).trans (.grow stay)
  have gone : ∀ b ∈ [I, D, C], s.heap.get? b = none := fun b hb => by
    simp at hb
    rcases hb with rfl | rfl | rfl
    · exact G1.gone fI
    · exact G1.gone fD
    · exact G1.gone fC
  have kl : (compEnvC scope (clo env scope.names) C env).kindOf (Str.ofString y) = some .local := lookup_relabel_local k3
  have loop : ∀ s₃ : Shared, s₃ = { s1 with heap := h₁, toks := s1.toks + ([] : List (Str × Value)).length } →
      codeAny (model prog c.w) A (.compLoop (.ListComp elt' [⟨.Name (Str.ofString y) py, it', ifs, 0⟩] scope pos) 0 (.ref I) (.ref D) (compEnvC scope (clo env scope.names) C env))
        (compPost (model prog c.w) A NoE none (QV c F mu s (Mine.R.ok (V.ref Hf.length) (Hf ++ [.list l])) (VRl c)) (.ref D) C) s₃ := by
    rintro s₃ rfl
    refine codeAny_compLoop_tests (CompI c F ns (compEnvC scope (clo env scope.names) C env) cnd el src l Hf g t I D C mu s) ?_ LF
      ⟨0, [], H1, mu1, #[], g.set t none, hl, S2, R2, fun v => by rw [List.set_set], it1, pl1, by simp [VRs], by simp, notO I fI, notO D fD, G2, eg1, eo1⟩ (by intro _; rfl)
    rintro k s2 ⟨j, acc, H2', mu2, items, gl, hc, S3, R3, hgl, it3, pl3, v3, la3, IO, DO, G3, eg3, eo3⟩
    have nfI : ∀ o, s2.heap.get? I = some o → ¬ Fixed o := fun o e => by
      refine el_xpp (it3.at) fun o' e' f _ => ?_
      rw [e] at e'; cases e'; exact f
    have nfD : ∀ h : Heap, ∀ its, h.PlainList D its → ∀ o, h.get? D = some o → ¬ Fixed o := fun h its ⟨n, e'⟩ o e => by
      rw [e] at e'; cases e'
      rintro (⟨q, _⟩ | ⟨q, _⟩) <;> simp at q
    cases k with
    | zero => rw [compL] at hc; cases hc
    | succ k =>
      cases hn : nth src H2' j with
      | none => rw [compL, hn] at hc; cases hc
      | some ov =>
        cases ov with
        | none =>
          rw [compL, hn] at hc
          have hc : Mine.R.ok acc H2' = .ok l Hf := hc
          cases hc
          refine pyNext_end hh S3 it3 hn fun h' tk k1' => ?_
          have S4 : St c F mu2 Hf h' := S3.poke IO (notB I fI) k1' (fun q => absurd q (notF I fI)) nfI
          have R4 := R3.poked S3 IO (notF I fI) (notC I fI nIC) k1' nfI
          refine el_xp (R4.loc) fun m4 n4 _ => ?_
          refine in_xp m4 n4 (fun h'' sb => ?_)
          have kC : ∀ b o, b ≠ C → h'.get? b = some o → h''.get? b = some o := fun b o hb e => sb.extBut b o hb e
          have nfC : ∀ o, h'.get? C = some o → ¬ Fixed o := ns_notFixed n4
          have S5 : St c F mu2 Hf h'' := S4.poke R4.out (notB C fC) kC (fun q => absurd q (notF C fC)) nfC
          refine el_x pl3 fun n0' e0 => ?_; try clear pl3
          have pl5 : h''.PlainList D items := ⟨n0', kC D _ nDC (k1' D _ (Ne.symm nID) e0)⟩
          have fx : ∀ b o, s2.heap.get? b = some o → Fixed o → h''.get? b = some o := fun b o e f => kC b o (fun q => by subst q; exact nfC o (k1' _ o (Ne.symm nIC) e) f) (k1' b o (fun q => by subst q; exact nfI o e f) e)
          have S6 := S5.adopt DO (notF D fD) (notB D fD) pl5 (v3.mono fx fun _ _ e => e) la3
          refine ⟨_, _, mu2 ++ [⟨D, D⟩], rfl, S6, ?_, ⟨⟨D, D⟩, by rw [← S5.len]; simp, rfl⟩, eg3, eo3⟩
          have Gz : Go F [I, D, C] mu s.heap mu2 h'' := ⟨G3.ext, fun b o e n f z => kC b o (fun q => z (by simp [q])) (k1' b o (fun q => z (by simp [q])) (G3.keep b o e n f z)), fun b o e f z => by
              refine el_x (G3.keepF b o e f z) fun sl e' => ?_
              exact ⟨sl, kC b _ (fun q => z (by simp [q])) (k1' b _ (fun q => z (by simp [q])) e')⟩, G3.fresh, fun b o e => by
              refine el_x (G3.alive b o e) fun o' e' => ?_
              by_cases q : b = I
              · rw [q, gone I (by simp)] at e; cases e
              · by_cases q2 : b = C
                · rw [q2, gone C (by simp)] at e; cases e
                · exact in_x o' (kC b o' q2 (k1' b o' q e'))⟩
          have Gn := Gz.narrow gone
          refine ⟨fun i m e => ?_, Gn.keep, Gn.keepF, fun b hb => ?_, Gn.alive⟩
          · rw [List.getElem?_append_left (List.getElem?_eq_some_iff.mp (Gn.ext i m e)).1]; exact Gn.ext i m e
          · refine el_xp hb fun m hm hb => ?_
            rcases List.mem_append.mp hm with q | q
            · exact Gn.fresh b ⟨m, q, hb⟩
            · rw [List.mem_singleton.mp q] at hb
              exact .inr (by rcases hb with hb | hb <;> (rw [hb]; exact gone D (by simp)))
        | some v =>
          refine pyNext_item hh S3 it3 hn fun x h3' tk V3 it4 k1' => ?_
          have S4 : St c F mu2 H2' h3' := S3.poke IO (notB I fI) k1' (fun q => absurd q (notF I fI)) nfI
          refine el_xp (it4.at) fun oI eI _ => ?_
          have Gp : Go F [I] mu2 s2.heap mu2 h3' := Go.poke (List.mem_singleton.mpr rfl) k1' ⟨oI, eI⟩
          have nx : ∀ b ∈ [I], ∀ o, s2.heap.get? b = some o → ¬ Fixed o := fun b hb o e => by rw [List.mem_singleton.mp hb] at e; exact nfI o e
          have R4 := R3.goX S3 Gp (fun b hb => by rw [List.mem_singleton.mp hb]; exact notC I fI nIC) nx
          have fx4 := S3.fixedX Gp nx
          refine wpAny_assign_Name (bind_local (s := { s2 with heap := h3', toks := tk }) S4 R4 nd ht kl (V3.mono fx4 fun _ _ e => e) fun h4 tk4 S5 kC R5 => ?_)
          rw [hgl v] at R5
          refine el_xp (R5.loc) fun m5 n5 _ => ?_
          refine el_xp (R4.loc) fun m4 n4 _ => ?_
          have nfC := ns_notFixed n4
          have fx5 : ∀ b o, h3'.get? b = some o → Fixed o → h4.get? b = some o := fun b o e f => kC b o (fun q => by subst q; exact nfC o e f) e
          have it5 : It c I src (j + 1) mu2 h4 := it4.mono (fun o e => kC I o nIC e) fx5 fun _ _ e => e
          refine el_x pl3 fun n0' e0 => ?_; try clear pl3
          have pl5 : h4.PlainList D items := ⟨n0', kC D _ nDC (k1' D _ (Ne.symm nID) e0)⟩
          have v5 : VRs c.bs mu2 h4 acc items.toList := (v3.mono fx4 fun _ _ e => e).mono fx5 fun _ _ e => e
          have GC : Go F [C] mu2 h3' mu2 h4 := Go.poke (List.mem_singleton.mpr rfl) kC (by refine el_xxxp n5 fun o _ _ e _ => ?_; try clear n5; exact in_x o e)
          have G5 : Go F [I, D, C] mu s.heap mu2 h4 := (G3.trans (Gp.wide fun b hb => by rw [List.mem_singleton.mp hb]; simp)).trans (GC.wide fun b hb => by rw [List.mem_singleton.mp hb]; simp)
          have tests : ∀ (Q : Bool → Shared → Prop) (E : Value → Shared → Prop) b H6, cnd v H2' = .ok (.bool b) H6 →
              (∀ s6 mu6, St c F mu6 H6 s6.heap → Go F [] mu2 h4 mu6 s6.heap → s6.gens = s2.gens → s6.os = s2.os → Q b s6) →
              wpAny (model prog c.w) A (forIn ifs true fun c r => if r = true then do let ok ← isTrue c (compEnvC scope (clo env scope.names) C env) (eval c (compEnvC scope (clo env scope.names) C env)); pure (ForInStep.yield ok) else pure (ForInStep.yield r)) Q E { s2 with heap := h4, toks := tk4 } := by
            intro Q E b H6 hc6 hq
            rw [← hcl] at hc6
            dsimp only at hc6
            rcases h3 with ⟨rfl, rfl⟩ | ⟨c', rfl, hT⟩
            · rw [ev_bool] at hc6
              cases hc6
              exact wpAny_tests_nil (hq _ mu2 S5 (Go.refl ..) rfl rfl)
            · refine wpAny_tests_one (wpAny_mono (hT C (g.set t (some v)) mu2 { s2 with heap := h4, toks := tk4 } H2' S5 R5 (by rw [hc6]; exact fun z => by cases z)) (fun b' s6 q => ?_) fun e s6 q => ?_)
              · obtain ⟨a, H', mu', z1, z2, z3, z4, z5, z6⟩ := q
                rw [hc6] at z1
                cases z1
                cases z4
                exact hq s6 mu' z2 z3 z5 z6
              · exact q.elim
          have keepAll : ∀ {mu6 h6}, Go F [] mu2 h4 mu6 h6 → It c I src (j + 1) mu6 h6 ∧ h6.PlainList D items ∧ VRs c.bs mu6 h6 acc items.toList ∧ ¬ Own mu6 I ∧ ¬ Own mu6 D ∧ Go F [I, D, C] mu s.heap mu6 h6 := fun {mu6 h6} G6 => by
            have e5 := pl5
            refine el_x e5 fun n5' e5 => ?_
            refine el_xp (it5.at) fun oI5 eI5 _ => ?_
            exact ⟨it5.mono (fun o e => G6.keep I o e IO (notF I fI) (fun q => nomatch q)) (S5.fixedX G6 fun b hb => nomatch hb) G6.ext, ⟨n5', G6.keep D _ e5 DO (notF D fD) (fun q => nomatch q)⟩, v5.go S5 G6, G6.notOwn IO eI5, G6.notOwn DO e5, G5.trans G6.wide0⟩
          rcases compL_step hc hn with ⟨H6, hc6, hr6⟩ | ⟨H6, x7, H7, hc6, he7, hlt, hr7⟩
          · refine tests _ _ false H6 hc6 fun s6 mu6 S6 G6 eg6 eo6 => ?_
            refine el_ppppp (keepAll G6) fun q1 q2 q3 q4 q5 q6 => ?_
            rw [if_neg (by simp)]
            exact in_xp k (Nat.lt_succ_self _) ⟨j + 1, acc, H6, mu6, items, g.set t (some v), hr6, S6, R5.go S5 G6, fun w => by rw [List.set_set], q1, q2, q3, la3, q4, q5, q6, eg6.trans eg3, eo6.trans eo3⟩
          · refine tests _ _ true H6 hc6 fun s6 mu6 S6 G6 eg6 eo6 => ?_
            rw [if_pos rfl]
            rw [← hel] at he7
            dsimp only at he7
            refine wpAny_mono (h2 C (g.set t (some v)) mu6 s6 H6 S6 (R5.go S5 G6) (by rw [he7]; exact fun z => by cases z)) (fun xv s7 q => ?_) fun e s7 q => ?_
            · obtain ⟨a, H', mu7, z1, S7, G7, V7, eg7, eo7⟩ := q
              rw [he7] at z1
              cases z1
              refine el_ppppp (keepAll (G6.trans G7)) fun q1 q2 q3 q4 q5 q6 => ?_
              have R7 := (R5.go S5 G6).go S6 G7
              have hz : items.size = acc.length := by have := q3.length; simpa using this
              refine wpAny_list_append_plain q2 (fun h8 pl8 sb8 => ?_) (by rw [hz, ← mostLen_eq]; exact Nat.le_of_lt hlt)
              have k8 : ∀ b o, b ≠ D → s7.heap.get? b = some o → h8.get? b = some o := fun b o hb e => sb8.extBut b o hb e
              have nf8 := nfD _ _ q2
              have S8 : St c F mu7 H7 h8 := S7.poke q5 (notB D fD) k8 (fun q => absurd q (notF D fD)) nf8
              have R8 := R7.poked S7 q5 (notF D fD) (notC D fD nDC) k8 nf8
              have fx8 : ∀ b o, s7.heap.get? b = some o → Fixed o → h8.get? b = some o := fun b o e f => k8 b o (fun q => by subst q; exact nf8 o e f) e
              have GD : Go F [D] mu7 s7.heap mu7 h8 := Go.poke (List.mem_singleton.mpr rfl) k8 (by refine el_x pl8 fun n e => ?_; try clear pl8; exact in_x _ e)
              refine in_xp k (Nat.lt_succ_self _) ⟨j + 1, acc ++ [x7], H7, mu7, items.push xv, g.set t (some v), hr7, S8, R8, fun w => by rw [List.set_set], q1.mono (fun o e => k8 I o nID e) fx8 fun _ _ e => e, pl8, ?_, by simp; (first | lia | omega), q4, q5, q6.trans (GD.wide fun b hb => by rw [List.mem_singleton.mp hb]; simp), (eg7.trans eg6).trans eg3, (eo7.trans eo6).trans eo3⟩
              rw [Array.toList_push]
              exact VRs.append (q3.mono fx8 fun _ _ e => e) (VRs.single (VR.mono fx8 (fun _ _ e => e) V7))
            · exact q.elim
  exact codeAny_compStart_list (loop _ rfl) (It.self it1 (loop _ rfl))
end
end Mine
end

section
/-! enumerate's call -/
namespace Mine
open PySem PySem.W PyProof.Rows
set_option maxRecDepth 100000
section
variable {prog : Program} {c : Cf} {K : Frag} {fields : List String} {P : Pg} {cl : CallT} {A : Around} {F : List Addr} {mu : Mu} {s : Shared} {H : Hp}
variable {ns : List String} {env : Env} {g : Gm} {pos : Pos}

theorem enum_iter {e : E} {x : Expr} {id : Str} {q : Pos} (X : Cx prog c K fields P cl A F) (hg : isGlob env.scope "enumerate" id = true) (hs : notStar x = true) (b : BOk prog c P cl A F ns env e x) (S : St c F mu H s.heap) (R : FrR c F ns env g mu s.heap) :
    ev P cl g e H ≠ .bad → ∀ (Q : Value → Shared → Prop) (E : Value → Shared → Prop), (∀ v w s' H' mu', ev P cl g e H = .ok v H' → St c F mu' H' s'.heap → Go F [] mu s.heap mu' s'.heap → VR c.bs mu' s'.heap v w → s'.gens = s.gens → s'.os = s.os → wpAny (model prog c.w) A (call (.type "enumerate") [w]) Q E s') → wpAny (model prog c.w) A (eval (.Call (.Name id q) [x] [] pos) env) Q E s := by
  intro hr Q E hQ
  refine el_pp (kind_of hg) fun tq0 hk hd => ?_; subst tq0
  have hp : [x].all notStar = true := by simp [hs]
  have ee : evs P cl g [e] H = (ev P cl g e H).bind fun v h => .ok [v] h := by
    rw [evs_cons]; rfl
  have hne : evs P cl g [e] H ≠ .bad := fun z => hr (by
    rw [ee] at z
    cases w : ev P cl g e H with
    | ok a h => rw [w] at z; cases z
    | bad => rfl)
  refine wpAny_Call_NameR (name_blt (v := .type "enumerate") X.base S R hk hd (by decide) ?_)
  refine callWith_of (P := K.In) (by rw [starEach_plain hp]; rfl) keeps_type (evalArgs_all hp (wpAny_mono (evs_ok (.cons b .nil) g mu s H pos hp S R hne) (fun cs s' z => ?_) fun e' s' z => ?_))
  · obtain ⟨vs, H', mu', e1, S', G', V', eg, eo⟩ := z
    rw [ee] at e1
    cases w : ev P cl g e H with
    | ok a h =>
      rw [w] at e1
      cases e1
      simp only [VRsl, VRs] at V'
      refine el_xxpp V' fun y r tq2 vy tqz => ?_; try clear V'; subst tq2; subst tqz
      exact ⟨X.base.in S', hQ a y s' _ mu' w S' G' vy eg eo⟩
    | bad => exact absurd w hr
  · exact z.elim
end
end Mine
end

section
/-! every expression -/
namespace Mine
open PySem PySem.W PyProof.Rows
set_option maxRecDepth 100000
section
variable {prog : Program} {c : Cf} {K : Frag} {fields : List String} {P : Pg} {cl : CallT} {A : Around} {F : List Addr} {ns : List String}

theorem noMark {e : Expr} {env : Env} (h : notMark e = true) (x : Value) : foldedSetIterable e env x = pure x := by cases e <;> first | rfl | exact (Bool.false_ne_true h).elim

theorem cps_ok {t : String} (h : (cps t).length ≤ 10000) : okStr (cps t) := ⟨Nat.le_trans h (by decide), fun z hz => by
  unfold cps at hz
  refine el_xp (List.mem_map.mp hz) fun ch _ tqz => ?_; subst tqz
  exact char_lt ch⟩
section
variable {mu : Mu} {s : Shared} {H : Hp} {g : Gm} {env : Env}
theorem var_ok {i : Nat} {n : String} {p : Pos} (S : St c F mu H s.heap) (R : FrR c F ns env g mu s.heap) (h1 : ns[i]? = some n) (h2 : okName (Str.ofString n) = true) (h3 : (kdOf env.scope n == some .local || (kdOf env.scope n == some .cell || kdOf env.scope n == some .free)) = true) :
    Snd (model prog c.w) c F A mu s (eval (.Name (Str.ofString n) p) env) (ev P cl g (.var i) H) (VRl c) := by
  have h3 : kdOf env.scope n = some .local ∨ kdOf env.scope n = some .cell ∨ kdOf env.scope n = some .free := ((Bool.or_eq_true ..).mp h3).imp eq_of_beq fun q => ((Bool.or_eq_true ..).mp q).imp eq_of_beq eq_of_beq
  rw [ev_var]
  split
  · rename_i v hv; exact and_elim h2 fun a b => snd_var S R h1 hv rfl h3 (Bool.not_eq_true' _ ▸ a) (Bool.not_eq_true' _ ▸ b)
  · exact fun h => absurd rfl h
theorem glob_ok {y : String} {id : Str} {p : Pos} (X : Cx prog c K fields P cl A F) (S : St c F mu H s.heap) (R : FrR c F ns env g mu s.heap) (h1 : isGlob env.scope y id = true) (h2 : (P.glob y).isSome = true) :
    Snd (model prog c.w) c F A mu s (eval (.Name id p) env) (ev P cl g (.glob y) H) (VRl c) := by
  refine el_pp (kind_of h1) fun tq0 hk hd => ?_; subst tq0
  refine el_x (Option.isSome_iff_exists.mp h2) fun v hv => ?_
  rw [ev_glob, hv]
  refine el_xp (X.globs _ _ hv) fun z hz gz => ?_
  exact fun _ => name_text X.base S R hk hd hz (QV.same (t := s.toks) S (gv_vr gz))
end
theorem comp_eta {w : Comprehension} {a b : Str} {p : Pos} (q : w.target = .Name a p) (e : a = b) (d : w.is_async = 0) : w = ⟨.Name b p, w.iter, w.ifs, 0⟩ := by
  obtain ⟨x, y, z, u⟩ := w
  cases q; cases e; cases d; rfl
theorem beq_to {α : Type} [BEq α] [LawfulBEq α] {a b : α} {G : α → Prop} (h : (a == b) = true) (f : G b) : G a := by rw [eq_of_beq h]; exact f
theorem emp_to {α : Type} {a : List α} {G : List α → Prop} (h : a.isEmpty = true) (f : G []) : G a := by rw [List.isEmpty_iff.mp h]; exact f
theorem non_to {α : Type} {a : Option α} {G : Option α → Prop} (h : a.isNone = true) (f : G none) : G a := by rw [Option.isNone_iff_eq_none.mp h]; exact f
theorem to_eq {α : Type} {a b : α} {G : α → Prop} (h : a = b) (f : G b) : G a := by rw [h]; exact f
mutual
theorem ev_ok (X : Cx prog c K fields P cl A F) : ∀ (e : E) (x : Expr) (env : Env), fitE K P fields ns env.scope e x = true → BOk prog c P cl A F ns env e x
  | .none, x, env, h => opt_elim (o := uCst x) h fun t h => opt_elim (o := kNone t.1.1) h fun k _ => to_eq t.2 (to_eq (G := fun z => BOk prog c P cl A F ns env .none (.Constant z _ _)) k.2
      (have : EOk prog c P cl A F .none (.Constant .none t.1.2.1 t.1.2.2) ns env := fun g mu s H S R => snd_none S
       ⟨this, val_true (fun _ => rfl) this⟩))
  | .bool b, x, env, h => opt_elim (o := uCst x) h fun t h => opt_elim (o := kBool t.1.1) h fun k h => to_eq t.2 (to_eq (G := fun z => BOk prog c P cl A F ns env (.bool b) (.Constant z _ _)) k.2 (beq_to (G := fun z => BOk prog c P cl A F ns env (.bool b) (.Constant (.bool z) _ _)) h
      (have : EOk prog c P cl A F (.bool b) (.Constant (.bool b) t.1.2.1 t.1.2.2) ns env := fun g mu s H S R => snd_bool S
       ⟨this, val_true (fun _ => rfl) this⟩)))
  | .int i, x, env, h => opt_elim (o := uCst x) h fun t h => opt_elim (o := kInt t.1.1) h fun k h => to_eq t.2 (to_eq (G := fun z => BOk prog c P cl A F ns env (.int i) (.Constant z _ _)) k.2 (beq_to (G := fun z => BOk prog c P cl A F ns env (.int i) (.Constant (.int z) _ _)) h
      (have : EOk prog c P cl A F (.int i) (.Constant (.int i) t.1.2.1 t.1.2.2) ns env := fun g mu s H S R => snd_int S
       ⟨this, val_true (fun _ => rfl) this⟩)))
  | .str v, x, env, h => opt_elim (o := uCst x) h fun t h => opt_elim (o := kStr t.1.1) h fun k h => and_elim h fun h1 h2 => to_eq t.2 (to_eq (G := fun z => BOk prog c P cl A F ns env (.str v) (.Constant z _ _)) k.2
      (have : EOk prog c P cl A F (.str v) (.Constant (.str k.1) t.1.2.1 t.1.2.2) ns env := fun g mu s H S R => snd_str S (eq_of_beq h1) (cps_ok (of_decide_eq_true h2))
       ⟨this, val_true (fun _ => rfl) this⟩))
  | .var i, x, env, h => opt_elim (o := uName x) h fun t h => opt_at h fun n hn h => and_elim h fun h0 h => and_elim h fun h1 h2 => to_eq t.2 (beq_to (G := fun z => BOk prog c P cl A F ns env (.var i) (.Name z _)) h0
      (have : EOk prog c P cl A F (.var i) (.Name (Str.ofString n) t.1.2) ns env := fun g mu s H S R => var_ok S R hn (eq_of_beq h0 ▸ h1) h2
       ⟨this, val_true (fun _ => rfl) this⟩))
  | .glob y, x, env, h => opt_elim (o := uName x) h fun t h => and_elim h fun h1 h2 => to_eq t.2
      (have : EOk prog c P cl A F (.glob y) (.Name t.1.1 t.1.2) ns env := fun g mu s H S R => glob_ok X S R h1 h2
       ⟨this, val_true (fun _ => rfl) this⟩)
  | .bin op l r, x, env, h => opt_elim (o := uBin x) h fun t h => and_elim h fun h0 h => and_elim h fun h1 h2 => to_eq t.2 (beq_to (G := fun z => BOk prog c P cl A F ns env (.bin op l r) (.BinOp _ z _ _)) h0
      (have := bin_ok (op := op) (pos := t.1.2.2.2) (ev_ok X l _ env h1).1 (ev_ok X r _ env h2).1
       ⟨this, val_true (fun _ => rfl) this⟩))
  | .neg e, x, env, h => opt_elim (o := uUn x) h fun t h => and_elim h fun h0 h1 => to_eq t.2 (beq_to (G := fun z => BOk prog c P cl A F ns env (.neg e) (.UnaryOp z _ _)) h0
      (have := neg_ok (pos := t.1.2.2) (ev_ok X e _ env h1).1
       ⟨this, val_true (fun _ => rfl) this⟩))
  | .not e, x, env, h => opt_elim (o := uUn x) h fun t h => and_elim h fun h0 h1 => to_eq t.2 (beq_to (G := fun z => BOk prog c P cl A F ns env (.not e) (.UnaryOp z _ _)) h0
      (have b := ev_ok X e _ env h1
       ⟨not_ok b.1, not_true b.2⟩))
  | .and es, x, env, h => opt_elim (o := uBop x) h fun t h => and_elim h fun h0 h => and_elim h fun h1 h2 => to_eq t.2 (beq_to (G := fun z => BOk prog c P cl A F ns env (.and es) (.BoolOp z _ _)) h0
      (have b := evs_pw X es _ env h1
       ⟨and_ok (of_decide_eq_true h2) b, and_true (of_decide_eq_true h2) b⟩))
  | .or es, x, env, h => opt_elim (o := uBop x) h fun t h => and_elim h fun h0 h => and_elim h fun h1 h2 => to_eq t.2 (beq_to (G := fun z => BOk prog c P cl A F ns env (.or es) (.BoolOp z _ _)) h0
      (have b := evs_pw X es _ env h1
       ⟨or_ok (of_decide_eq_true h2) b, or_true (of_decide_eq_true h2) b⟩))
  | .cmp op l r, x, env, h => opt_elim (o := uCmp x) h fun t h => opt_elim (o := one t.1.2.1) h fun o h => opt_elim (o := one t.1.2.2.1) h fun r' h => and_elim h fun h0 h => and_elim h fun h1 h => and_elim h fun h2 h3 =>
      to_eq t.2 (to_eq (G := fun z => BOk prog c P cl A F ns env (.cmp op l r) (.Compare _ z _ _)) o.2 (to_eq (G := fun z => BOk prog c P cl A F ns env (.cmp op l r) (.Compare _ _ z _)) r'.2 (beq_to (G := fun z => BOk prog c P cl A F ns env (.cmp op l r) (.Compare _ [z] _ _)) h0
      (have a := (ev_ok X l _ env h2).1
       have b := (ev_ok X r _ env h3).1
       ⟨cmp_ok X h1 a b, cmp_true X h1 a b⟩))))
  | .cmp2 l o1 m o2 r, x, env, h => opt_elim (o := uCmp x) h fun t h => opt_elim (o := two t.1.2.1) h fun o h => opt_elim (o := two t.1.2.2.1) h fun r' h => and_elim h fun h0 h => and_elim h fun h0' h => and_elim h fun h1 h => and_elim h fun h2 h => and_elim h fun h3 h4 =>
      to_eq t.2 (to_eq (G := fun z => BOk prog c P cl A F ns env (.cmp2 l o1 m o2 r) (.Compare _ z _ _)) o.2 (to_eq (G := fun z => BOk prog c P cl A F ns env (.cmp2 l o1 m o2 r) (.Compare _ _ z _)) r'.2 (beq_to (G := fun z => BOk prog c P cl A F ns env (.cmp2 l o1 m o2 r) (.Compare _ [z, _] _ _)) h0 (beq_to (G := fun z => BOk prog c P cl A F ns env (.cmp2 l o1 m o2 r) (.Compare _ [_, z] _ _)) h0'
      (have a := (ev_ok X l _ env h2).1
       have b := (ev_ok X m _ env h3).1
       have d := (ev_ok X r _ env h4).1
       ⟨cmp2_ok X h1 a b d, cmp2_true X h1 a b d⟩)))))
  | .sub o i, x, env, h => opt_elim (o := uSub x) h fun t h => and_elim h fun h0 h => and_elim h fun h1 h2 => to_eq t.2
      (have := sub_ok (pos := t.1.2.2) X h0 (ev_ok X o _ env h1).1 (ev_ok X i _ env h2).1
       ⟨this, val_true (fun _ => rfl) this⟩)
  | .slc o lo hi, x, env, h => opt_elim (o := uSub x) h fun t h => opt_elim (o := uSlc t.1.2.1) h fun z h => and_elim h fun h0 h => and_elim h fun h1 h => and_elim h fun h2 h3 => to_eq t.2 (to_eq (G := fun z => BOk prog c P cl A F ns env (.slc o lo hi) (.Subscript _ z _)) z.2 (non_to (G := fun z => BOk prog c P cl A F ns env (.slc o lo hi) (.Subscript _ (.Slice _ _ z _) _)) h0
      (have := slc_ok (pos := t.1.2.2) (q := z.1.2.2.2) (ev_ok X o _ env h1).1 (optN_elim h2 (fun y e h => .inr ⟨y, e, (ev_ok X lo y env h).1⟩) fun e h => opt_elim h fun u _ => .inl ⟨u.2, e⟩) (optN_elim h3 (fun y e h => .inr ⟨y, e, (ev_ok X hi y env h).1⟩) fun e h => opt_elim h fun u _ => .inl ⟨u.2, e⟩)
       ⟨this, val_true (fun _ => rfl) this⟩)))
  | .attr o f, x, env, h => opt_elim (o := uAttr x) h fun t h => and_elim h fun h0 h => and_elim h fun h1 h => and_elim h fun h2 h3 => to_eq t.2 (beq_to (G := fun z => BOk prog c P cl A F ns env (.attr o f) (.Attribute _ z _)) h0
      (have := attr_ok (pos := t.1.2.2) X h1 h2 (ev_ok X o _ env h3).1
       ⟨this, val_true (fun _ => rfl) this⟩))
  | .call f as, x, env, h => opt_elim (o := uCall x) h fun t h => opt_elim (o := uName t.1.1) h fun z h => and_elim h fun h0 h => and_elim h fun h1 h => and_elim h fun _ h => and_elim h fun h2 h => and_elim h fun h3 h4 => to_eq t.2 (to_eq (G := fun z => BOk prog c P cl A F ns env (.call f as) (.Call z _ _ _)) z.2 (emp_to (G := fun z => BOk prog c P cl A F ns env (.call f as) (.Call _ _ z _)) h3
      (have := call_ok (pos := t.1.2.2.2) (q := z.1.2) X h0 h1 h2 (evs_pw X as _ env h4)
       ⟨this, val_true (fun _ => rfl) this⟩)))
  | .make C as, x, env, h => opt_elim (o := uCall x) h fun t h => opt_elim (o := uName t.1.1) h fun z h => and_elim h fun h0 h => and_elim h fun h1 h => and_elim h fun h2 h => and_elim h fun h3 h => and_elim h fun h4 h => and_elim h fun h5 h6 => to_eq t.2 (to_eq (G := fun z => BOk prog c P cl A F ns env (.make C as) (.Call z _ _ _)) z.2 (emp_to (G := fun z => BOk prog c P cl A F ns env (.make C as) (.Call _ _ z _)) h5
      (have := make_ok (pos := t.1.2.2.2) (q := z.1.2) X h0 (bne_iff_ne.mp h1) h2 h3 h4 (evs_pw X as _ env h6)
       ⟨this, val_true (fun _ => rfl) this⟩)))
  | .meth o m as, x, env, h => opt_elim (o := uCall x) h fun t h => opt_elim (o := uAttr t.1.1) h fun z h => and_elim h fun h0 h => and_elim h fun h1 h => and_elim h fun h2 h => and_elim h fun h3 h => and_elim h fun h4 h => and_elim h fun h5 h => and_elim h fun h6 h7 => to_eq t.2 (to_eq (G := fun z => BOk prog c P cl A F ns env (.meth o m as) (.Call z _ _ _)) z.2 (emp_to (G := fun z => BOk prog c P cl A F ns env (.meth o m as) (.Call _ _ z _)) h5 (beq_to (G := fun z => BOk prog c P cl A F ns env (.meth o m as) (.Call (.Attribute _ z _) _ _ _)) h0
      (have := meth_ok (nm := m) (pos := t.1.2.2.2) X (eq_of_beq h1) h2 h3 (of_decide_eq_true h4) (ev_ok X o _ env h6).1 (evs_pw X as _ env h7)
       ⟨this, val_true (fun _ => rfl) this⟩))))
  | .bi b as, x, env, h => opt_elim (o := uCall x) h fun t h => opt_elim (o := uName t.1.1) h fun z h => and_elim h fun h0 h => and_elim h fun h1 h => and_elim h fun h2 h => and_elim h fun h3 h4 => to_eq t.2 (to_eq (G := fun z => BOk prog c P cl A F ns env (.bi b as) (.Call z _ _ _)) z.2 (emp_to (G := fun z => BOk prog c P cl A F ns env (.bi b as) (.Call _ _ z _)) h3
      (have := bi_ok (pos := t.1.2.2.2) (q := z.1.2) X h0 h1 h2 (evs_pw X as _ env h4)
       ⟨this, val_true (fun _ => rfl) this⟩)))
  | .isa e ty, x, env, h => opt_elim (o := uCall x) h fun t h => opt_elim (o := uName t.1.1) h fun z h => opt_elim (o := two t.1.2.1) h fun w h => opt_elim (o := uName w.1.2) h fun u h => and_elim h fun h0 h => and_elim h fun h1 h => and_elim h fun h2 h => and_elim h fun h3 h => and_elim h fun h4 h5 =>
      to_eq t.2 (to_eq (G := fun z => BOk prog c P cl A F ns env (.isa e ty) (.Call z _ _ _)) z.2 (to_eq (G := fun z => BOk prog c P cl A F ns env (.isa e ty) (.Call _ z _ _)) w.2 (to_eq (G := fun z => BOk prog c P cl A F ns env (.isa e ty) (.Call _ [_, z] _ _)) u.2 (emp_to (G := fun z => BOk prog c P cl A F ns env (.isa e ty) (.Call _ _ z _)) h4
      (have := isa_ok (pos := t.1.2.2.2) (q := z.1.2) (q' := u.1.2) X h0 h1 h2 h3 (ev_ok X e _ env h5).1
       ⟨this, val_true (fun _ => rfl) this⟩)))))
  | .list es, x, env, h => opt_elim (o := uList x) h fun t h => and_elim h fun h0 h1 => to_eq t.2
      (have := list_ok (pos := t.1.2) h0 (evs_pw X es _ env h1)
       ⟨this, val_true (fun _ => rfl) this⟩)
  | .tup es, x, env, h => opt_elim (o := uTup x) h fun t h => and_elim h fun h0 h1 => to_eq t.2
      (have := tup_ok (pos := t.1.2.2) (k := t.1.2.1) h0 (evs_pw X es _ env h1)
       ⟨this, val_true (fun _ => rfl) this⟩)
  | .dict, x, env, h => opt_elim (o := uDict x) h fun t h => and_elim h fun h0 h1 => to_eq t.2 (emp_to (G := fun z => BOk prog c P cl A F ns env .dict (.Dict z _ _)) h0 (emp_to (G := fun z => BOk prog c P cl A F ns env .dict (.Dict _ z _)) h1
      (have := dict_ok (ns := ns) (env := env) (pos := t.1.2.2) X
       ⟨this, val_true (fun _ => rfl) this⟩)))
  | .comp elt i it cond, x, env, h => opt_elim (o := uLc x) h fun t h => opt_elim (o := one t.1.2.1) h fun w h => opt_elim (o := uName w.1.target) h fun n h => opt_at h fun y hy h => and_elim h fun h0 h => and_elim h fun h1 h => and_elim h fun h2 h => and_elim h fun h3 h => and_elim h fun h4 h => and_elim h fun h5 h => and_elim h fun h6 h7 => by
    have : EOk prog c P cl A F (.comp elt i it cond) (.ListComp t.1.1 [⟨.Name (Str.ofString y) n.1.2, w.1.iter, w.1.ifs, 0⟩] t.1.2.2.1 t.1.2.2.2) ns env := comp_ok X.hh (of_decide_eq_true h2) h1 hy (noMark h3) (ev_ok X it _ env h5).1 (fun C => (ev_ok X elt _ (compEnvC t.1.2.2.1 (clo env t.1.2.2.1.names) C env) h6).1) (by
      revert h7
      cases w.1.ifs with
      | nil => exact fun h7 => opt_elim (o := eTr cond) h7 fun b hb => .inl ⟨rfl, by rw [b.2, hb]⟩
      | cons c' more => exact fun h7 => and_elim h7 fun h8 h9 => .inr ⟨c', by rw [List.isEmpty_iff.mp h8], fun C => (ev_ok X cond c' (compEnvC t.1.2.2.1 (clo env t.1.2.2.1.names) C env) h9).2⟩)
    rw [t.2, w.2, comp_eta n.2 (eq_of_beq h0) (eq_of_beq h4)]
    exact ⟨this, val_true (fun _ => rfl) this⟩
  | .lset e, x, env, h => opt_elim (o := uCall x) h fun t h => opt_elim (o := uName t.1.1) h fun z h => opt_elim (o := one t.1.2.1) h fun a h => opt_elim (o := uCall a.1) h fun t' h => opt_elim (o := uName t'.1.1) h fun z' h => opt_elim (o := one t'.1.2.1) h fun b h => and_elim h fun h0 h => and_elim h fun h1 h => and_elim h fun h2 h => and_elim h fun h3 h => and_elim h fun h4 h5 => by
    have e0 : a.1 = .Call (.Name z'.1.1 z'.1.2) [b.1] [] t'.1.2.2.2 := by have := t'.2; rw [z'.2, b.2, List.isEmpty_iff.mp h4] at this; exact this
    have e1 : x = .Call (.Name z.1.1 z.1.2) [.Call (.Name z'.1.1 z'.1.2) [b.1] [] t'.1.2.2.2] [] t.1.2.2.2 := by have := t.2; rw [z.2, a.2, e0, List.isEmpty_iff.mp h3] at this; exact this
    rw [e1]
    have := lset_ok (pos := t.1.2.2.2) (q := z.1.2) (q' := z'.1.2) (pos' := t'.1.2.2.2) X h0 h1 h2 (ev_ok X e _ env h5).1
    exact ⟨this, val_true (fun _ => rfl) this⟩
theorem evs_pw (X : Cx prog c K fields P cl A F) : ∀ (es : List E) (xs : List Expr) (env : Env), fitEs K P fields ns env.scope es xs = true → Pw (BOk prog c P cl A F ns env) es xs
  | [], [], env, h => .nil
  | [], y :: ys, env, h => absurd (show false = true from h) Bool.false_ne_true
  | e :: es, [], env, h => absurd (show false = true from h) Bool.false_ne_true
  | e :: es, y :: ys, env, h => and_elim h fun h1 h2 => .cons (ev_ok X e y env h1) (evs_pw X es ys env h2)
end
end
end Mine
end

section
/-! every statement -/
namespace Mine
open PySem PySem.W PyProof.Rows
set_option maxRecDepth 100000
set_option linter.unusedSimpArgs false

noncomputable def notComp (x : Expr) : Bool := x.ctorIdx != 8 && x.ctorIdx != 9 && x.ctorIdx != 10
noncomputable def notTup (x : Expr) : Bool := x.ctorIdx != 25
noncomputable def tgt (ns : List String) (sc : Scope) (x : Nat) (t : Expr) : Bool := opt (uName t) fun n => opt ns[x]? fun y => n.1.1 == Str.ofString y && (kdOf sc y == some .local || kdOf sc y == some .cell)
noncomputable def tgts (ns : List String) (sc : Scope) : List Nat → List Expr → Bool
  | [], ts => ts.isEmpty
  | x :: xs, ts => (match ts with | [] => false | t :: ts => tgt ns sc x t && tgts ns sc xs ts)
noncomputable def tgtAny (ns : List String) (sc : Scope) (xs : List Nat) (t : Expr) : Bool :=
  (opt (one xs) fun x => tgt ns sc x.1 t) || opt (uTup t) fun z => tgts ns sc xs z.1.1 && xs.length != 1

noncomputable def sExpr (x : Stmt) : Option { t : Expr × Pos // x = .Expr t.1 t.2 } := if h : x.ctorIdx = 24 then @Stmt.Expr.elim (fun x => Option { t : Expr × Pos // x = .Expr t.1 t.2 }) x h (fun a b => some ⟨(a, b), rfl⟩) else none
noncomputable def sAsg (x : Stmt) : Option { t : List Expr × Expr × Pos // x = .Assign t.1 t.2.1 t.2.2 } := if h : x.ctorIdx = 5 then @Stmt.Assign.elim (fun x => Option { t : List Expr × Expr × Pos // x = .Assign t.1 t.2.1 t.2.2 }) x h (fun a b c => some ⟨(a, b, c), rfl⟩) else none
noncomputable def sIf (x : Stmt) : Option { t : Expr × List Stmt × List Stmt × Pos // x = .If t.1 t.2.1 t.2.2.1 t.2.2.2 } := if h : x.ctorIdx = 12 then @Stmt.If.elim (fun x => Option { t : Expr × List Stmt × List Stmt × Pos // x = .If t.1 t.2.1 t.2.2.1 t.2.2.2 }) x h (fun a b c d => some ⟨(a, b, c, d), rfl⟩) else none
noncomputable def sWhile (x : Stmt) : Option { t : Expr × List Stmt × List Stmt × Pos // x = .While t.1 t.2.1 t.2.2.1 t.2.2.2 } := if h : x.ctorIdx = 11 then @Stmt.While.elim (fun x => Option { t : Expr × List Stmt × List Stmt × Pos // x = .While t.1 t.2.1 t.2.2.1 t.2.2.2 }) x h (fun a b c d => some ⟨(a, b, c, d), rfl⟩) else none
noncomputable def sFor (x : Stmt) : Option { t : Expr × Expr × List Stmt × List Stmt × Pos // x = .For t.1 t.2.1 t.2.2.1 t.2.2.2.1 t.2.2.2.2 } := if h : x.ctorIdx = 9 then @Stmt.For.elim (fun x => Option { t : Expr × Expr × List Stmt × List Stmt × Pos // x = .For t.1 t.2.1 t.2.2.1 t.2.2.2.1 t.2.2.2.2 }) x h (fun a b c d e => some ⟨(a, b, c, d, e), rfl⟩) else none
noncomputable def sRet (x : Stmt) : Option { t : Option Expr × Pos // x = .Return t.1 t.2 } := if h : x.ctorIdx = 3 then @Stmt.Return.elim (fun x => Option { t : Option Expr × Pos // x = .Return t.1 t.2 }) x h (fun a b => some ⟨(a, b), rfl⟩) else none
noncomputable def sPass (x : Stmt) : Option { t : Pos // x = .Pass t } := if h : x.ctorIdx = 25 then @Stmt.Pass.elim (fun x => Option { t : Pos // x = .Pass t }) x h (fun a => some ⟨a, rfl⟩) else none
noncomputable def oSome {α : Type} (o : Option α) : Option { t : α // o = some t } := match o with | some a => some ⟨a, rfl⟩ | none => none

noncomputable def nswp (sc : Scope) (x y : Expr) : Bool := opt (uLc x) fun z => opt (uName y) fun n =>
  !((if sc.kind.isAnnotationScope then .function else sc.kind) == ScopeKind.function && sc.names.lookup n.1.1 == some .local && n.1.2.line == z.1.2.2.2.line && !(z.1.2.2.1.names.any fun (m, k) => m == n.1.1 && (k == .local || k == .cell)))
mutual
noncomputable def fitS (K : Frag) (P : Pg) (fields : List String) (ns : List String) (sc : Scope) : S → Stmt → Bool
  | .expr e, x => opt (sExpr x) fun t => notComp t.1.1 && fitE K P fields ns sc e t.1.1
  | .asg i e, x => opt (sAsg x) fun t => opt (one t.1.1) fun y => (notComp t.1.2.1 || nswp sc t.1.2.1 y.1) && (tgt ns sc i y.1 && fitE K P fields ns sc e t.1.2.1)
  | .unp xs e, x => opt (sAsg x) fun t => opt (one t.1.1) fun y => opt (uTup y.1) fun z => notComp t.1.2.1 && (notTup t.1.2.1 && (tgts ns sc xs z.1.1 && (xs.length != 1 && fitE K P fields ns sc e t.1.2.1)))
  | .asgA o f e, x => opt (sAsg x) fun t => opt (one t.1.1) fun y => opt (uAttr y.1) fun z => notComp t.1.2.1 && (z.1.2.1 == Str.ofString f && (fields.contains f && (fitE K P fields ns sc o z.1.1 && fitE K P fields ns sc e t.1.2.1)))
  | .asgI o i e, x => opt (sAsg x) fun t => opt (one t.1.1) fun y => opt (uSub y.1) fun z => notComp t.1.2.1 && (fitE K P fields ns sc o z.1.1 && (fitE K P fields ns sc i z.1.2.1 && fitE K P fields ns sc e t.1.2.1))
  | .iff c t f, x => opt (sIf x) fun u => fitE K P fields ns sc c u.1.1 && (fitSs K P fields ns sc t u.1.2.1 && fitSs K P fields ns sc f u.1.2.2.1)
  | .whil c b, x => opt (sWhile x) fun u => fitE K P fields ns sc c u.1.1 && (fitSs K P fields ns sc b u.1.2.1 && u.1.2.2.1.isEmpty)
  | .forr xs it b, x => opt (sFor x) fun u => notMark u.1.2.1 && (tgtAny ns sc xs u.1.1 && (fitE K P fields ns sc it u.1.2.1 && (fitSs K P fields ns sc b u.1.2.2.1 && u.1.2.2.2.1.isEmpty)))
  | .forE i j it b, x => opt (sFor x) fun u => opt (uTup u.1.1) fun t => opt (uCall u.1.2.1) fun z => opt (uName z.1.1) fun n => opt (one z.1.2.1) fun y => tgts ns sc [i, j] t.1.1 && (isGlob sc "enumerate" n.1.1 && (notStar y.1 && (z.1.2.2.1.isEmpty && (fitE K P fields ns sc it y.1 && (fitSs K P fields ns sc b u.1.2.2.1 && u.1.2.2.2.1.isEmpty)))))
  | .ret e, x => opt (sRet x) fun t => opt (oSome t.1.1) fun y => fitE K P fields ns sc e y.1
  | .ret0, x => opt (sRet x) fun t => t.1.1.isNone
  | .raise _ _, _ => true
  | .pass, x => opt (sPass x) fun _ => true
noncomputable def fitSs (K : Frag) (P : Pg) (fields : List String) (ns : List String) (sc : Scope) : List S → List Stmt → Bool
  | [], xs => xs.isEmpty
  | s :: r, xs => (match xs with | [] => false | y :: ys => fitS K P fields ns sc s y && fitSs K P fields ns sc r ys)
end

section
variable {prog : Program} {c : Cf} {K : Frag} {fields : List String} {P : Pg} {cl : CallT} {A : Around} {F : List Addr} {ns : List String} {env : Env}

theorem tgt_of {x : Nat} {t : Expr} (h : tgt ns env.scope x t = true) : Tgt ns env x t :=
  opt_elim (o := uName t) h fun n h => opt_at h fun y hy h => and_elim h fun h1 h2 => ⟨y, n.1.2, n.2.trans (congrArg (fun z => Expr.Name z n.1.2) (eq_of_beq h1)), hy, (Bool.or_eq_true_iff.mp h2).imp eq_of_beq eq_of_beq⟩
theorem tgts_of : ∀ {xs : List Nat} {ts : List Expr}, tgts ns env.scope xs ts = true → Tgts ns env xs ts
  | [], [], _ => .nil
  | [], _ :: _, h => nomatch h
  | _ :: _, [], h => nomatch h
  | _ :: _, _ :: _, h => and_elim h fun h1 h2 => .cons (tgt_of h1) (tgts_of h2)
theorem tgtAny_of {xs : List Nat} {t : Expr} (h : tgtAny ns env.scope xs t = true) : (∃ k, xs = [k] ∧ Tgt ns env k t) ∨ (∃ ts n p, t = .Tuple ts n p ∧ Tgts ns env xs ts ∧ xs.length ≠ 1) :=
  (Bool.or_eq_true_iff.mp h).elim (fun h => opt_elim (o := one xs) h fun x h => .inl ⟨x.1, x.2, tgt_of h⟩) fun h => opt_elim (o := uTup t) h fun z h => and_elim h fun h1 h2 => .inr ⟨z.1.1, z.1.2.1, z.1.2.2, z.2, tgts_of h1, bne_iff_ne.mp h2⟩
theorem noSwap {e : Expr} {t : Option Expr} {n : Nat} (h : notComp e = true) : swapsWith e t n env = pure false := by cases e <;> first | rfl | exact (Bool.false_ne_true h).elim
theorem noStores {ts : List Expr} {k : Nat} {p : Pos} {e : Expr} (h : notTup e = true) : swappedStores [.Tuple ts k p] e env = pure none := by cases e <;> first | rfl | exact (Bool.false_ne_true h).elim

theorem tb_cond {r : Mine.R V} {g : Gm} {k1 k2 : Hp → RS} : (r.bindS g fun v h => match truth v with | some true => k1 h | some false => k2 h | .none => .bad) = (r.bind tb).bindS g fun v h => match truth v with | some true => k1 h | some false => k2 h | .none => .bad := by
  cases r with
  | ok v h => simp only [Mine.R.bindS, Mine.R.bind, tb]; cases hv : truth v <;> simp [truth]
  | bad => rfl
theorem while_tb {cnd : Gm → Hp → Mine.R V} {bd : Gm → Hp → RS} : ∀ (n : Nat) (g : Gm) (h : Hp), whileL cnd bd n g h = whileL (fun g h => (cnd g h).bind tb) bd n g h
  | 0, _, _ => rfl
  | n + 1, g, h => by
    unfold whileL
    cases cnd g h with
    | ok v h' =>
      simp only [Mine.R.bindS, Mine.R.bind, tb]
      cases hv : truth v with
      | none => rfl
      | some b =>
        cases b with
        | false => rfl
        | true =>
          simp only [truth]
          cases bd g h' <;> first | rfl | exact while_tb n _ _
    | bad => rfl

noncomputable abbrev SOk (prog : Program) (c : Cf) (P : Pg) (cl : CallT) (A : Around) (F : List Addr) (ns : List String) (env : Env) (st : S) (x : Stmt) : Prop :=
  ∀ (g : Gm) (mu : Mu) (s : Shared) (H : Hp), St c F mu H s.heap → FrR c F ns env g mu s.heap → SndS (model prog c.w) c F A ns env mu s (exec x env) (ex P cl st g H)
noncomputable abbrev SsOk (prog : Program) (c : Cf) (P : Pg) (cl : CallT) (A : Around) (F : List Addr) (ns : List String) (env : Env) (st : List S) (x : List Stmt) : Prop :=
  ∀ (g : Gm) (mu : Mu) (s : Shared) (H : Hp), St c F mu H s.heap → FrR c F ns env g mu s.heap → SndS (model prog c.w) c F A ns env mu s (execs x env) (exs P cl st g H)

theorem assign_list {elts : List Expr} {x1 : Nat} {pos : Pos} {l : Addr} {items : Array Value} {s : Shared} {E : Value → Shared → Prop} {Q : Unit → Shared → Prop} (hh : A.handled = none) (hl : s.heap.IsList l items)
    (hn : (assignEach elts env).length = items.size) (hstar : (assignEach elts env).findIdx? (·.1) = none)
    (h : ∀ h', Heap.ExtBut s.heap.objs.size s.heap h' → wpAny (model prog c.w) A (assignInOrder ((assignEach elts env).map (·.2)) items.toList) Q E { s with heap := h' }) :
    wpAny (model prog c.w) A (assign (.Tuple elts x1 pos) env (.ref l)) Q E s := by
  rw [arm_assign_Tuple]
  refine wpAny_bind (wpAny_standAt ?_)
  unfold unpack
  rw [hn, hstar]
  exact wpAny_bind (wpAny_holding (kun_itemsOf hh hl h))
theorem bindU_tup {xs : List Nat} {l : List V} {g : Gm} {H : Hp} (hl : xs.length ≠ 1) : bindT xs (.tup l) g H = bindAll xs l g := by
  match xs, hl with
  | [], _ => rfl
  | [_], h => exact absurd rfl h
  | _ :: _ :: _, _ => rfl
theorem bindU_snd {xs : List Nat} {ts : List Expr} {n : Nat} {p : Pos} {v : V} {x : Value} {g g' : Gm} {mu : Mu} {s : Shared} {H : Hp} {E : Value → Shared → Prop} {Q : Unit → Shared → Prop} (hh : A.handled = none) (nd : ns.Nodup) (S : St c F mu H s.heap) (R : FrR c F ns env g mu s.heap) (V0 : VR c.bs mu s.heap v x)
    (h : Tgts ns env xs ts) (hl : xs.length ≠ 1) (e : bindU xs v g H = some g')
    (hQ : ∀ h' tk, St c F mu H h' → Go F (ow env) mu s.heap mu h' → FrR c F ns env g' mu h' → Q () { s with heap := h', toks := tk }) : wpAny (model prog c.w) A (assign (.Tuple ts n p) env x) Q E s := by
  cases v with
  | tup l => exact target_snd hh nd S R V0 (.inr ⟨ts, n, p, rfl, h, hl⟩) ((bindU_tup hl).trans e) hQ
  | ref r =>
    have e : (match H[r]? with | some (.list l) => bindAll xs l g | _ => none) = some g' := e
    cases ho : H[r]? with
    | none => rw [ho] at e; cases e
    | some o =>
      rw [ho] at e
      cases o with
      | list l =>
        have eb : bindAll xs l g = some g' := e
        obtain ⟨q, n', items, rfl, h1, h2, h3, q4, h5⟩ := S.listAt ho V0
        have hlen : xs.length = l.length := bindAll_len eb
        refine assign_list hh (items := items) ⟨_, h3, rfl, n', rfl⟩ (by rw [h.each, List.length_map, ← h.len, hlen, q4.size]) ?_ fun h' e1 => ?_
        · rw [h.each]
          clear hQ hlen q4
          induction ts with
          | nil => rfl
          | cons t ts ih => simp
        · have k : s.heap.StaysIn h' := fun b o e => e1 b o (fun q => Nat.lt_irrefl _ (q ▸ Heap.lt_size e)) e
          have : (assignEach ts env).map (·.2) = ts.map fun t => assign t env := by rw [h.each]; simp
          rw [this]
          have G : Go F (ow env) mu s.heap mu h' := .grow k
          exact assigns_snd (s := { s with heap := h' }) nd h (S.grow k) (R.go S (.grow k)) (q4.mono (fun b o e _ => k b o e) fun _ _ e => e) eb fun h'' tk S' G' R' => hQ h'' tk S' (G.trans G') R'
      | _ => cases e
  | _ => cases e
theorem unp_sndS {xs : List Nat} {ts : List Expr} {k : Nat} {q pos : Pos} {e : Expr} {r : Mine.R V} {g : Gm} {mu : Mu} {s : Shared} {H : Hp} (hh : A.handled = none) (nd : ns.Nodup) (S : St c F mu H s.heap) (R : FrR c F ns env g mu s.heap) (hc : notComp e = true) (ht : notTup e = true)
    (h1 : Tgts ns env xs ts) (hl : xs.length ≠ 1) (h : Snd (model prog c.w) c F A mu s (eval e env) r (VRl c)) :
    SndS (model prog c.w) c F A ns env mu s (exec (.Assign [.Tuple ts k q] e pos) env) (r.bindS g fun v h => match bindU xs v g h with | some g => .nx g h | .none => .bad) := by
  intro hb
  have hr : r ≠ .bad := fun e => hb (by rw [e]; rfl)
  refine Assign_Tuple (wpAny_mono (h hr) (fun x s1 z => ?_) fun e s' z => z.elim) (by show swapsWith e (some (Expr.Tuple ts k q)) pos.line env = pure false; exact noSwap hc) (noStores ht)
  obtain ⟨v, H1, mu1, rfl, S1, G1, V1, eg, eo⟩ := z
  cases hbt : bindU xs v g H1 with
  | none => exact absurd (show (match bindU xs v g H1 with | some g => RS.nx g H1 | .none => .bad) = .bad by rw [hbt]) hb
  | some g' =>
    have e2 : ((Mine.R.ok v H1).bindS g fun v h => match bindU xs v g h with | some g => RS.nx g h | .none => .bad) = .nx g' H1 := by
      show (match bindU xs v g H1 with | some g => RS.nx g H1 | .none => .bad) = _
      rw [hbt]
    rw [e2]
    exact bindU_snd hh nd S1 (R.go S G1) V1 h1 hl hbt fun h' tk S2 G2 R2 => QS.next S2 R2 (G1.wide0.trans G2) eg eo

theorem nswp_of {x : Expr} {id : Str} {p : Pos} {k : Nat} (h : nswp env.scope x (.Name id p) = true) : swapsWith x (some (.Name id p)) k env = pure false :=
  opt_elim (o := uLc x) h fun z h => opt_elim (o := uName (.Name id p)) h fun m h => by
    obtain ⟨en, ep⟩ := Expr.Name.inj m.2
    rw [← en, ← ep] at h
    rw [z.2]
    exact congrArg pure ((Bool.not_eq_true' _).mp h)
mutual
theorem ex_ok (X : Cx prog c K fields P cl A F) (nd : ns.Nodup) : ∀ (st : S) (x : Stmt), fitS K P fields ns env.scope st x = true → SOk prog c P cl A F ns env st x
  | .expr e, x, h => opt_elim (o := sExpr x) h fun t h => and_elim h fun h1 h2 => to_eq (G := SOk prog c P cl A F ns env (.expr e)) t.2 fun g mu s H S R =>
      expr_sndS S R (by unfold interactive; rw [R.kind]; rfl) (noSwap h1) ((ev_ok X e _ env h2).1 g mu s H S R)
  | .asg i e, x, h => opt_elim (o := sAsg x) h fun t h => opt_elim (o := one t.1.1) h fun y h => and_elim h fun h1 h => and_elim h fun h2 h3 => to_eq (G := SOk prog c P cl A F ns env (.asg i e)) t.2 (to_eq (G := fun z => SOk prog c P cl A F ns env (.asg i e) (.Assign z _ _)) y.2
      (let ⟨n, p, ey, e1, hk⟩ := tgt_of h2
       to_eq (G := fun z => SOk prog c P cl A F ns env (.asg i e) (.Assign [z] _ _)) ey fun g mu s H S R => asg_sndS S R nd e1 hk ((Bool.or_eq_true_iff.mp h1).elim noSwap fun h1 => nswp_of (ey ▸ h1)) ((ev_ok X e _ env h3).1 g mu s H S R)))
  | .unp xs e, x, h => opt_elim (o := sAsg x) h fun t h => opt_elim (o := one t.1.1) h fun y h => opt_elim (o := uTup y.1) h fun z h => and_elim h fun h1 h => and_elim h fun h2 h => and_elim h fun h3 h => and_elim h fun h4 h5 =>
      to_eq (G := SOk prog c P cl A F ns env (.unp xs e)) t.2 (to_eq (G := fun z => SOk prog c P cl A F ns env (.unp xs e) (.Assign z _ _)) y.2 (to_eq (G := fun z => SOk prog c P cl A F ns env (.unp xs e) (.Assign [z] _ _)) z.2 fun g mu s H S R =>
      unp_sndS X.hh nd S R h1 h2 (tgts_of h3) (bne_iff_ne.mp h4) ((ev_ok X e _ env h5).1 g mu s H S R)))
  | .asgA o f e, x, h => opt_elim (o := sAsg x) h fun t h => opt_elim (o := one t.1.1) h fun y h => opt_elim (o := uAttr y.1) h fun z h => and_elim h fun h1 h => and_elim h fun h2 h => and_elim h fun h3 h => and_elim h fun h4 h5 =>
      to_eq (G := SOk prog c P cl A F ns env (.asgA o f e)) t.2 (to_eq (G := fun z => SOk prog c P cl A F ns env (.asgA o f e) (.Assign z _ _)) y.2 (to_eq (G := fun z => SOk prog c P cl A F ns env (.asgA o f e) (.Assign [z] _ _)) z.2 (beq_to (G := fun z => SOk prog c P cl A F ns env (.asgA o f e) (.Assign [.Attribute _ z _] _ _)) h2 fun g mu s H S R =>
      asgA_sndS S R (noSwap h1) ((ev_ok X e _ env h5).1 g mu s H S R) (fun v y H' mu' s' _ S' R' V' => (ev_ok X o _ env h4).1 g mu' s' H' S' R') fun v y a z H' mu' s' S' V1 V2 => setAttr_snd X.base S' V2 V1 (by simpa using h3))))
  | .asgI o i e, x, h => opt_elim (o := sAsg x) h fun t h => opt_elim (o := one t.1.1) h fun y h => opt_elim (o := uSub y.1) h fun z h => and_elim h fun h1 h => and_elim h fun h2 h => and_elim h fun h3 h4 =>
      to_eq (G := SOk prog c P cl A F ns env (.asgI o i e)) t.2 (to_eq (G := fun z => SOk prog c P cl A F ns env (.asgI o i e) (.Assign z _ _)) y.2 (to_eq (G := fun z => SOk prog c P cl A F ns env (.asgI o i e) (.Assign [z] _ _)) z.2 fun g mu s H S R =>
      asgI_sndS S R (noSwap h1) ((ev_ok X e _ env h4).1 g mu s H S R) (fun v y H' mu' s' _ S' R' V' => (ev_ok X o _ env h2).1 g mu' s' H' S' R') (fun v y a z H' mu' s' S' R' V1 V2 => (ev_ok X i _ env h3).1 g mu' s' H' S' R')
      fun v y a z b w H' mu' s' S' V1 V2 V3 => setItem_snd S' V2 V3 V1 (by have := X.room; unfold deep; (first | lia | omega))))
  | .iff cnd t f, x, h => opt_elim (o := sIf x) h fun u h => and_elim h fun h1 h => and_elim h fun h2 h3 => to_eq (G := SOk prog c P cl A F ns env (.iff cnd t f)) u.2 fun g mu s H S R => by
      rw [show ex P cl (.iff cnd t f) g H = ((ev P cl g cnd H).bind tb).bindS g (fun v h => match truth v with | some true => exs P cl t g h | some false => exs P cl f g h | .none => .bad) from tb_cond]
      exact if_sndS S R ((ev_ok X cnd _ env h1).2 g mu s H S R) (fun H' mu' s' S' R' _ => exs_ok X nd t _ h2 g mu' s' H' S' R') fun H' mu' s' S' R' _ => exs_ok X nd f _ h3 g mu' s' H' S' R'
  | .whil cnd b, x, h => opt_elim (o := sWhile x) h fun u h => and_elim h fun h1 h => and_elim h fun h2 h3 => to_eq (G := SOk prog c P cl A F ns env (.whil cnd b)) u.2 (emp_to (G := fun z => SOk prog c P cl A F ns env (.whil cnd b) (.While _ _ z _)) h3 fun g mu s H S R => by
      rw [show ex P cl (.whil cnd b) g H = _ from while_tb _ _ _]
      exact while_sndS S R (fun g' H' mu' s' S' R' => (ev_ok X cnd _ env h1).2 g' mu' s' H' S' R') fun g' H' mu' s' S' R' => exs_ok X nd b _ h2 g' mu' s' H' S' R')
  | .forr xs it b, x, h => opt_elim (o := sFor x) h fun u h => and_elim h fun h1 h => and_elim h fun h2 h => and_elim h fun h3 h => and_elim h fun h4 h5 => to_eq (G := SOk prog c P cl A F ns env (.forr xs it b)) u.2 (emp_to (G := fun z => SOk prog c P cl A F ns env (.forr xs it b) (.For _ _ _ z _)) h5 fun g mu s H S R =>
      for_sndS X.hh nd S R (noMark h1) (tgtAny_of h2) ((ev_ok X it _ env h3).1 g mu s H S R) fun g' H' mu' s' S' R' => exs_ok X nd b _ h4 g' mu' s' H' S' R')
  | .forE i j it b, x, h => opt_elim (o := sFor x) h fun u h => opt_elim (o := uTup u.1.1) h fun t h => opt_elim (o := uCall u.1.2.1) h fun z h => opt_elim (o := uName z.1.1) h fun n h => opt_elim (o := one z.1.2.1) h fun y h => and_elim h fun h1 h => and_elim h fun h2 h => and_elim h fun h3 h => and_elim h fun h4 h => and_elim h fun h5 h => and_elim h fun h6 h7 =>
      to_eq (G := SOk prog c P cl A F ns env (.forE i j it b)) u.2 (emp_to (G := fun z => SOk prog c P cl A F ns env (.forE i j it b) (.For _ _ _ z _)) h7 (to_eq (G := fun z => SOk prog c P cl A F ns env (.forE i j it b) (.For z _ _ _ _)) t.2 (to_eq (G := fun z => SOk prog c P cl A F ns env (.forE i j it b) (.For _ z _ _ _)) z.2
      (to_eq (G := fun z => SOk prog c P cl A F ns env (.forE i j it b) (.For _ (.Call z _ _ _) _ _ _)) n.2 (to_eq (G := fun z => SOk prog c P cl A F ns env (.forE i j it b) (.For _ (.Call _ z _ _) _ _ _)) y.2 (emp_to (G := fun z => SOk prog c P cl A F ns env (.forE i j it b) (.For _ (.Call _ _ z _) _ _ _)) h4 fun g mu s H S R =>
      forE_sndS X.hh nd S R (noMark rfl) (tgts_of h1) (enum_iter X h2 h3 (ev_ok X it _ env h5) S R) fun g' H' mu' s' S' R' => exs_ok X nd b _ h6 g' mu' s' H' S' R'))))))
  | .ret e, x, h => opt_elim (o := sRet x) h fun t h => opt_elim (o := oSome t.1.1) h fun y h => to_eq (G := SOk prog c P cl A F ns env (.ret e)) t.2 (to_eq (G := fun z => SOk prog c P cl A F ns env (.ret e) (.Return z _)) y.2 fun g mu s H S R => ret_sndS S R ((ev_ok X e _ env h).1 g mu s H S R))
  | .ret0, x, h => opt_elim (o := sRet x) h fun t h => to_eq (G := SOk prog c P cl A F ns env .ret0) t.2 (non_to (G := fun z => SOk prog c P cl A F ns env .ret0 (.Return z _)) h fun g mu s H S R => ret0_sndS S)
  | .raise C m, x, h => fun g mu s H S R hb => absurd rfl hb
  | .pass, x, h => opt_elim (o := sPass x) h fun t _ => to_eq (G := SOk prog c P cl A F ns env .pass) t.2 fun g mu s H S R => pass_sndS S R
theorem exs_ok (X : Cx prog c K fields P cl A F) (nd : ns.Nodup) : ∀ (sts : List S) (xs : List Stmt), fitSs K P fields ns env.scope sts xs = true → SsOk prog c P cl A F ns env sts xs
  | [], y :: ys, h => absurd (show false = true from h) Bool.false_ne_true
  | st :: sts, [], h => absurd (show false = true from h) Bool.false_ne_true
  | [], [], h => fun g mu s H S R _ => wpAny_execs_nil (QS.next S R (Go.refl ..) rfl rfl)
  | st :: sts, y :: ys, h => and_elim h fun h1 h2 => fun g mu s H S R => SndS.cons (ex_ok X nd st y h1 g mu s H S R) fun g' H' mu' s' _ S' R' _ => exs_ok X nd sts ys h2 g' mu' s' H' S' R'
end
end
end Mine
end

section
/-! the whole program -/
namespace Mine
open PySem PySem.W PyProof.Rows
set_option maxRecDepth 100000

noncomputable def okKind (sc : Scope) (p : Arg) : Bool := sc.names.lookup p.arg == some .local || sc.names.lookup p.arg == some .cell

noncomputable def plainArgs (p : Arguments) : Option { ps : List Arg // p = ⟨[], ps, none, [], [], none, []⟩ } := match p with
  | ⟨[], ps, none, [], [], none, []⟩ => some ⟨ps, rfl⟩
  | _ => none
noncomputable def stmtsOf (b : FuncBody) : Option { l : List Stmt // b = .stmts l } := match b with
  | .stmts l => some ⟨l, rfl⟩
  | _ => none
noncomputable def ckFd (K : Frag) (P : Pg) (fields : List String) (d : FD) (fd : FuncData) : Bool := opt (plainArgs fd.params) fun ps => opt (stmtsOf fd.body) fun body =>
    codeIn K fd.code fd.qualname && (fd.closure.isEmpty && (fd.defaults == .none && (fd.globals == mainGlobals && (fd.builtins == builtinsNs && (!fd.scope.isCoroutine && (!fd.scope.isGenerator && (fd.scope.kind == .function
      && (decide d.names.Nodup && ((d.names.take ps.1.length).map Str.ofString == ps.1.map (·.arg) && (decide (d.arity = ps.1.length) && (decide (ps.1.length ≤ d.names.length) && (ps.1.all (okKind fd.scope) && (decide ((fd.scope.names.map (·.1)).Nodup)
      && fitSs K P fields d.names fd.scope d.body body.1)))))))))))))
noncomputable def ckFn (K : Frag) (P : Pg) (fields : List String) (f : Fid) (d : FD) : Bool := opt (fnAt K f) fun a => opt (funcOf (K.lookup a)) fun t => t.1.1 == .type "function" && ckFd K P fields d t.1.2.2.1
noncomputable def ckGl (K : Frag) (x : String) (v : V) : Bool :=
  match nsIn K mainGlobals x with
  | some (some y) => gvOk v y
  | _ => false
noncomputable def ckAll (K : Frag) (P : Pg) (fields : List String) : Bool := (P.fns.all fun p => ckFn K P fields p.1 p.2) && P.globs.all fun p => ckGl K p.1 p.2

theorem lookup_mem {α β : Type} [BEq α] [LawfulBEq α] : ∀ {l : List (α × β)} {a : α} {b : β}, l.lookup a = some b → (a, b) ∈ l
  | [], _, _, h => by simp at h
  | (k, v) :: r, a, b, h => by
    rw [List.lookup_cons] at h
    split at h
    · rename_i e; rw [beq_iff_eq.mp e]; cases h; exact .head _
    · exact .tail _ (lookup_mem h)

structure Room (n : Nat) (A : Around) : Prop where
  depth : A.depth + 2 * n + 2 < recursionLimit
  units : A.units + 10 * n + 60 < cLine

theorem made_around (A : Around) (D : Addr) (cs : List Value) : (A.under (.builtin "type.__call__" ⟨.ref D :: cs, []⟩)).handled = A.handled ∧ (A.under (.builtin "type.__call__" ⟨.ref D :: cs, []⟩)).depth = A.depth + 1 ∧
    (A.under (.builtin "type.__call__" ⟨.ref D :: cs, []⟩)).frames = A.frames ∧ (A.under (.builtin "type.__call__" ⟨.ref D :: cs, []⟩)).units ≤ A.units + 1 := by
  refine ⟨rfl, rfl, ?_, ?_⟩
  · show pushEnvs [] A.frames = A.frames
    cases A.frames <;> rfl
  · exact Nat.le_refl _

section
variable {prog : Program} {c : Cf} {K : Frag} {fields : List String} {P : Pg}

theorem fn_mem {f : Fid} {d : FD} (h : P.fn f = some d) : (f, d) ∈ P.fns := lookup_mem h

theorem fn_code {n : Nat} {A : Around} {F : List Addr} {f : Fid} {a : Addr} {vs : List V} {xs : List Value} {mu : Mu} {s : Shared} {H : Hp} (B : Base c K fields) (ck1 : ∀ p ∈ P.fns, ckFn K P fields p.1 p.2 = true)
    (ih : ∀ (A : Around) (F : List Addr), A.handled = none → FrA A F → Room n A → Cx prog c K fields P (run P n) A F) (hh : A.handled = none) (FA : FrA A F) (Rd : A.depth + 2 * n + 3 < recursionLimit) (Ru : A.units + 10 * n + 63 < cLine)
    (ha : fnAt K f = some a) (hs : (P.fn f).isSome = true) (S : St c F mu H s.heap) (V : VRs c.bs mu s.heap vs xs) :
    run P (n + 1) f vs H ≠ .bad → codeAny (model prog c.w) A (.call (.ref a) ⟨xs, []⟩) (fun q s' => match q with | .ok (.ret v) => QV c F mu s (run P (n + 1) f vs H) (VRl c) v s' | .ok _ => False | .error _ => False) s := by
  refine el_x (Option.isSome_iff_exists.mp hs) fun d hd => ?_
  refine opt_at (ck1 _ (fn_mem hd)) fun a' ha' k => ?_
  cases ha.symm.trans ha'
  refine opt_elim (o := funcOf (K.lookup a)) k fun t k => and_elim k fun _ k => opt_elim (o := plainArgs t.1.2.2.1.params) k fun ps k => opt_elim (o := stmtsOf t.1.2.2.1.body) k fun body k => ?_
  refine and_elim k fun k1 k => and_elim k fun k2 k => and_elim k fun k3 k => and_elim k fun k4 k => and_elim k fun k5 k => and_elim k fun k6 k => and_elim k fun k7 k => and_elim k fun k8 k => and_elim k fun k9 k => and_elim k fun k10 k => and_elim k fun k11 k => and_elim k fun k12 k => and_elim k fun k13 k => and_elim k fun k14 k15 => ?_
  have k11 := of_decide_eq_true k11
  have er : run P (n + 1) f vs H = if vs.length = d.arity then (exs P (run P n) d.body (vs.map some ++ List.replicate (d.names.length - d.arity) none) H).back else .bad := by
    rw [run, hd]
  rw [er]
  split
  · rename_i hl
    rw [k11] at hl ⊢
    refine fun hb => call_core S V FA (by (first | lia | omega)) B.lim (B.KX _ _ t.2) rfl (codeRec_of B.KX k1) body.2 ps.2 (eq_of_beq k3) (List.isEmpty_iff.mp k2) (eq_of_beq k4) (eq_of_beq k5) ((Bool.not_eq_true' _).mp k6) ((Bool.not_eq_true' _).mp k7) (eq_of_beq k8) (of_decide_eq_true k9) (eq_of_beq k10) hl (of_decide_eq_true k12) (fun p hp => ?_) (of_decide_eq_true k14) (fun env s1 eS eF Fr1 S1 R1 => ?_) hb
    · exact (Bool.or_eq_true_iff.mp (List.all_eq_true.mp k13 p hp)).imp eq_of_beq eq_of_beq
    · have X := ih (A.deeper env) (env.locals :: F) hh Fr1.frA ⟨by show A.depth + 1 + 2 * n + 2 < _; (first | lia | omega), by show A.units + 3 + 10 * n + 60 < _; (first | lia | omega)⟩
      rw [← eS] at k15
      exact exs_ok X (of_decide_eq_true k9) d.body body.1 k15 _ mu s1 H S1 R1
  · exact fun h => absurd rfl h

theorem run_ok (B : Base c K fields) (ck : ckAll K P fields = true) (made : ∀ C, C ≠ "" → (P.fn (C, "__init__")).isSome = true → c.cl false C = addrOf K C) : ∀ (n : Nat) (A : Around) (F : List Addr), A.handled = none → FrA A F → Room n A → Cx prog c K fields P (run P n) A F := by
  unfold ckAll at ck
  simp only [Bool.and_eq_true, List.all_eq_true] at ck
  obtain ⟨ck1, ck2⟩ := ck
  have fns : ∀ f, (P.fn f).isSome = true → ∃ a, fnAt K f = some a ∧ isFn K a = true := fun f h => by
    refine el_x (Option.isSome_iff_exists.mp h) fun d hd => ?_
    exact opt_at (ck1 _ (fn_mem hd)) fun a ha k => opt_at k fun t e k => and_elim k fun k _ => ⟨a, ha, by unfold isFn; rw [e]; exact k⟩
  have globs : ∀ x v, P.glob x = some v → ∃ y, nsIn K mainGlobals x = some (some y) ∧ gvOk v y = true := fun x v h => by
    have k := ck2 _ (lookup_mem h)
    unfold ckGl at k
    split at k
    · rename_i y e; exact in_xp y e k
    · cases k
  intro n
  induction n with
  | zero => exact fun A F hh _ R => ⟨B, hh, by have := R.units; (first | lia | omega), fun f a vs xs mu s H _ _ _ _ => fun h => absurd rfl h, fun D cs f a vs xs mu s H _ _ _ _ h => absurd rfl h, made, fns, globs⟩
  | succ n ih =>
    intro A F hh FA R
    refine ⟨B, hh, by have := R.units; (first | lia | omega), fun f a vs xs mu s H ha hs S V => fun hb => wpAny_call (fn_code B ck1 ih hh FA (by have := R.depth; (first | lia | omega)) (by have := R.units; (first | lia | omega)) ha hs S V hb), fun D cs f a vs xs mu s H ha hs S V hb => ?_, made, fns, globs⟩
    refine el_ppp (made_around A D cs) fun m1 m2 m3 m4 => ?_
    exact fn_code B ck1 ih (m1.trans hh) (by refine el_xp FA fun l h1 h2 => ?_; try clear FA; exact in_xp l (m3.trans h1) h2) (by have := R.depth; (first | lia | omega)) (by have := R.units; (first | lia | omega)) ha hs S V hb

theorem St.zero : St c [] [] [] c.bs where
  mods := trivial
  stays := fun _ _ e => e
  len := rfl
  objs := fun i l o e => by simp at e
  apart := fun i j l m e => by simp at e
  newB := fun b h => by refine el_xp h fun l h _ => ?_; cases h
  notF := fun b h => by refine el_xp h fun l h _ => ?_; cases h
  frs := fun b h => by cases h

theorem top_ok (B : Base c K fields) (ck : ckAll K P fields = true) (made : ∀ C, C ≠ "" → (P.fn (C, "__init__")).isSome = true → c.cl false C = addrOf K C) {n : Nat} {f : Fid} {a : Addr} {vs : List V} {xs : List Value} {s : Shared} {v : V} {H : Hp} (hn : n < 200) (es : s.heap = c.bs)
    (ha : fnAt K f = some a) (hs : (P.fn f).isSome = true) (V : VRs c.bs [] s.heap vs xs) (er : run P (n + 1) f vs [] = .ok v H) {Q : Result → Shared → Prop}
    (hQ : ∀ x s' mu, VR c.bs mu s'.heap v x → (∀ b o, s.heap.get? b = some o → s'.heap.get? b = some o) → s'.gens = s.gens → s'.os = s.os → Q (.ok (.ret x)) s') :
    codeAny (model prog c.w) callerA (.call (.ref a) ⟨xs, []⟩) Q s := by
  have ck1 : ∀ p ∈ P.fns, ckFn K P fields p.1 p.2 = true := by
    unfold ckAll at ck
    simp only [Bool.and_eq_true, List.all_eq_true] at ck
    exact ck.1
  have S : St c [] [] [] s.heap := by rw [es]; exact St.zero
  refine codeAny_mono (fn_code B ck1 (run_ok B ck made n) rfl ⟨[], rfl, fun e h => by cases h⟩ (by show 1 + claimMargin + 2 * n + 3 < recursionLimit; unfold claimMargin recursionLimit; (first | lia | omega)) (by show 4 + 10 * n + 63 < cLine; unfold cLine; (first | lia | omega)) ha hs S V (by rw [er]; exact fun h => by cases h)) fun q s' h => ?_
  rw [er] at h
  cases q with
  | error e => exact h.elim
  | ok f =>
    cases f with
    | ret x =>
      obtain ⟨v', H', mu', z1, z2, z3, z4, z5, z6⟩ := h
      cases z1
      exact hQ x s' mu' z4 (fun b o e => z3.keep b o e (fun h => by refine el_xp h fun l h _ => ?_; cases h) (fun h => by cases h) (fun h => by cases h)) z5 z6
    | _ => exact h.elim
end
end Mine
end

section
/-! the law's call -/
namespace Mine
open PySem PySem.W PyProof.Rows
set_option maxRecDepth 100000

theorem ns_val {K : Frag} {h : Heap} {a : Addr} {m : Str → Option Value} {x : Str} {v : Option Value} (KX : K.In h) (N : h.Ns a m) (e : nsIn K a x = some v) : m x = v := by
  unfold nsIn at e
  split at e
  · rename_i c d es n sl ho
    have h1 := KX _ _ ho
    refine el_xxxppp N fun o es' ep h2 h3 h4 h5 => ?_; try clear N
    rw [h1] at h2; cases h2
    cases h3
    rw [← h5 x]
    unfold nsFind findBy
    rw [← Array.find?_toList]
    split at e
    · rename_i en he; cases e; rw [he]; rfl
    · rename_i he
      rw [he]
      split at e
      · cases e
      · cases e; rfl
  · cases e

theorem boots : ∀ p ∈ biTab, bootBuiltins p.1 = some p.2 ∧ Str.ofString p.1 ≠ ("__name__" : Str) := by
  intro p hp
  simp only [biTab, List.mem_cons, List.not_mem_nil, or_false] at hp
  rcases hp with rfl | rfl | rfl | rfl | rfl | rfl | rfl | rfl | rfl | rfl | rfl | rfl | rfl | rfl | rfl <;> exact ⟨by kernel_rfl, by decide +kernel⟩

noncomputable def clsAll (K : Frag) (P : Pg) (fields : List String) : Bool := P.fns.all fun p => p.1.2 != "__init__" || p.1.1 == "" || (match addrOf K p.1.1 with | some D => clsOk K fields D && eqClsIn K D | none => false)
noncomputable def clMap (K : Frag) (P : Pg) (b : Bool) (C : String) : Option Addr := if !b && C != "" && (P.fn (C, "__init__")).isSome then addrOf K C else none

theorem law_top {prog p : Program} {w : World} {s₁ : Shared} {loose : List Str} {mean : ExcName → Option Value} {mg mb : Str → Option Value} {K : Frag} {P : Pg} {fields : List String} {fa a : Addr} {vs : List Value} {ns : List Int} {Q : Result → Shared → Prop}
    (KX : K.In s₁.heap) (T : Top p loose mean mg mb s₁.heap) (hmg : mg (Str.ofString "law") = some (.ref fa)) (hfn : (addrOf K "law").isSome = true) (free : (biTab.all fun p => nsIn K mainGlobals p.1 == some none) = true) (ck : ckAll K P fields = true)
    (ckc : clsAll K P fields = true)
    (hl : s₁.heap.IsList a vs.toArray) (hI : IntsAre vs ns) (hlen : ns.length ≤ 63) (hs : (P.fn ("", "law")).isSome = true) (law : ∃ H, run P 60 ("", "law") [.fz (ns.map .int)] [] = .ok (.bool true) H)
    (hQ : ∀ s', (∀ b o, s₁.heap.get? b = some o → s'.heap.get? b = some o) → s'.gens = s₁.gens → s'.os = s₁.os → Q (.ok (.ret (.bool true))) s') :
    codeAny (model prog w) callerA (.call (.ref fa) ⟨[.ref a], []⟩) Q s₁ := by
  refine el_x law fun H hr => ?_; try clear law
  let c : Cf := ⟨w, clMap K P, s₁.heap⟩
  have inst : ∀ C D, c.cl false C = some D → C ≠ "" ∧ addrOf K C = some D ∧ clsOk K fields D = true ∧ EqCls c.bs D := fun C D h => by
    have h : clMap K P false C = some D := h
    unfold clMap at h
    split at h
    · rename_i hc
      simp only [Bool.and_eq_true, bne_iff_ne, Bool.not_false, true_and] at hc
      obtain ⟨hc, hf⟩ := hc
      refine el_x (Option.isSome_iff_exists.mp hf) fun d hd => ?_
      unfold clsAll at ckc
      have k := List.all_eq_true.mp ckc _ (fn_mem hd)
      simp only [bne_self_eq_false, Bool.false_or, Bool.or_eq_true, beq_iff_eq, hc, false_or] at k
      rw [h] at k
      simp only [Bool.and_eq_true] at k
      exact ⟨hc, h, k.1, eqCls_of KX k.2⟩
    · cases h
  have B : Base c K fields := ⟨KX, T.nolimit, ⟨mb, T.b, fun p hp => by rw [T.builtins _ (boots p hp).2]; exact (boots p hp).1⟩, inst, free⟩
  refine el_x (Option.isSome_iff_exists.mp hfn) fun fa' hfa => ?_
  have e := ns_val KX T.g (addr_ns hfa)
  have : fa' = fa := by rw [hmg] at e; cases e; rfl
  subst this
  refine el_xppx hl fun o ho hc n hd => ?_; try clear hl
  have V : VRs c.bs [] s₁.heap [.fz (ns.map .int)] [.ref a] := by
    refine VRs.single ?_
    simp only [VR]
    refine in_xxxxppppp a o n vs.toArray rfl ho hc hd (by simpa using IntsAre.vrs hI) ?_
    have : 63 ≤ mostLen := by decide
    simp; (first | lia | omega)
  refine top_ok (c := c) B ck (fun C h1 h2 => by show clMap K P false C = _; unfold clMap; rw [if_pos (by simp [h1, h2])]) (n := 59) (by decide) rfl (f := ("", "law")) (by unfold fnAt; rw [if_pos rfl]; exact hfa) hs V hr fun x s' mu hv k hg ho => ?_
  simp only [VR] at hv
  subst hv
  exact hQ s' k hg ho

theorem good_true {c : ClaimW} {cl : Str → Option Addr} {mean : ExcName → Option Value} {args : List WData} {s₁ s' : Shared} (k : ∀ b o, s₁.heap.get? b = some o → s'.heap.get? b = some o) (hg : s'.gens = s₁.gens) (hg₁ : s₁.gens = #[]) (ho : s'.os = s₁.os)
    (hn : ∀ cls, c.raises args cls = false) (hp : c.post args (.bool true) args = true) : GoodW c cl mean args s₁ (.ok (.ret (.bool true))) s' :=
  ⟨.inl ⟨.bool true, .bool true, [], rfl, hn, .bool true, hp, unshared_nil⟩, k, ho, hg.trans hg₁⟩
end Mine
end

section
/-! the head: the top's run, looked at once -/
namespace Mine
open PySem PySem.W PyProof.Rows
set_option maxRecDepth 100000

noncomputable def frg (h : Heap) (n : Nat) : Frag := (List.range n).filterMap fun a => (h.get? a).map fun o => (a, o)
theorem frg_in (h : Heap) (n : Nat) : (frg h n).In h := by
  intro a o e
  have m := lookup_mem e
  unfold frg at m
  rw [List.mem_filterMap] at m
  refine el_xp m fun b _ hb => ?_; try clear m
  refine el_xp (Option.map_eq_some_iff.mp hb) fun x h1 h2 => ?_
  injection h2 with h3 h4
  rw [← h3, ← h4]; exact h1
noncomputable def topOk (P : Pg) (fields : List String) (K : Frag) : Bool := (addrOf K "law").isSome && (biTab.all fun p => nsIn K mainGlobals p.1 == some none) && ckAll K P fields && clsAll K P fields
noncomputable def topP (i n : Nat) (P : Pg) (fields : List String) (K : Frag) : Bool := ((P.fns.drop i).take n).all fun p => ckFn K P fields p.1 p.2
noncomputable def topL (i : Nat) (P : Pg) (fields : List String) (K : Frag) : Bool := (P.fns.drop i).all fun p => ckFn K P fields p.1 p.2
noncomputable def topZ (P : Pg) (fields : List String) (K : Frag) : Bool := ((addrOf K "law").isSome && (biTab.all fun p => nsIn K mainGlobals p.1 == some none)) && ((P.globs.all fun p => ckGl K p.1 p.2) && clsAll K P fields)
theorem topL_of {i n : Nat} {P : Pg} {fields : List String} {K : Frag} (a : topP i n P fields K = true) (b : topL (i + n) P fields K = true) : topL i P fields K = true := by
  unfold topL at *
  rw [← List.take_append_drop n (P.fns.drop i), List.all_append, List.drop_drop]
  exact Bool.and_eq_true_iff.mpr ⟨a, b⟩
theorem topOk_eq {P : Pg} {fields : List String} {K : Frag} (a : topL 0 P fields K = true) (c : topZ P fields K = true) : topOk P fields K = true := by
  have d := Bool.and_eq_true_iff.mp c
  have e := Bool.and_eq_true_iff.mp d.2
  exact Bool.and_eq_true_iff.mpr ⟨Bool.and_eq_true_iff.mpr ⟨d.1, Bool.and_eq_true_iff.mpr ⟨a, e.1⟩⟩, e.2⟩
theorem seen_of {σ : Type} {o : Option σ} {f g : σ → Bool} {k : σ → Bool} (w : ∀ s, f s = true → g s = true → k s = true) (a : o.map f = some true) (b : o.map g = some true) : o.map k = some true := by
  cases o with
  | none => cases a
  | some s => exact congrArg some (w s (Option.some.inj a) (Option.some.inj b))
theorem left_of {σ α : Type} {o : Option σ} {f : σ → α} {v : α} {g : σ → Bool} (h : o.map f = some v) (a : o.map g = some true) : o.map (fun s => (f s, g s)) = some (v, true) := by
  cases o with
  | none => cases h
  | some s =>
    show some (f s, g s) = _
    rw [Option.some.inj a, Option.some.inj h]
noncomputable def hook (P : Pg) (fields : List String) (n : Nat) : Hook :=
  ⟨Bool, fun s => topOk P fields (frg s.heap n), fun _ => true, fun _ h => ∃ K : Frag, K.In h ∧ topOk P fields K = true, fun _ s e => ⟨_, frg_in s.heap n, e⟩, fun _ _ _ ⟨K, a, b⟩ k => ⟨K, fun x o e => k x o (a x o e), b⟩⟩
end Mine
end

section
/-! reckoning in the core: one rule a form -/
namespace Mine
noncomputable def Ev (P : Pg) (cl : CallT) (g : Gm) (h : Hp) (e : E) (v : V) (h' : Hp) : Prop := ev P cl g e h = .ok v h'
noncomputable def Es (P : Pg) (cl : CallT) (g : Gm) (h : Hp) (es : List E) (vs : List V) (h' : Hp) : Prop := evs P cl g es h = .ok vs h'
noncomputable def X (P : Pg) (cl : CallT) (ss : List S) (g : Gm) (h : Hp) (R : RS → Prop) : Prop := R (exs P cl ss g h)
noncomputable def orI (J : Gm → Hp → Prop) (R : RS → Prop) : RS → Prop
  | .nx g h => J g h
  | .ret v h => R (.ret v h)
  | .bad => False
section
variable {P : Pg} {cl : CallT} {g g' : Gm} {h h' h'' h3 h4 : Hp} {e e1 e2 e3 o : E} {es : List E} {v v1 v2 v3 : V} {vs : List V} {r : Nat} {a b : Int} {R : RS → Prop} {ss t f : List S}

theorem Ev.var {i : Nat} (q : g[i]? = some (some v)) : Ev P cl g h (.var i) v h := by unfold Ev; rw [ev_var, q]
theorem Ev.int {i : Int} : Ev P cl g h (.int i) (.int i) h := rfl
theorem Ev.str {t : String} : Ev P cl g h (.str t) (.str (cps t)) h := rfl
theorem Ev.none : Ev P cl g h .none .none h := rfl
theorem Ev.bool {b : Bool} : Ev P cl g h (.bool b) (.bool b) h := rfl
theorem Ev.glob {x : String} (q : P.glob x = some v) : Ev P cl g h (.glob x) v h := by unfold Ev; rw [ev_glob, q]
theorem Ev.neg (x : Ev P cl g h e (.int a) h') : Ev P cl g h (.neg e) (.int (-a)) h' := by unfold Ev at *; rw [ev_neg, x]; rfl
theorem Ev.two {op : BO} (x : Ev P cl g h e1 v1 h') (y : Ev P cl g h' e2 v2 h'') (z : binop op v1 v2 h'' = .ok v h3) : Ev P cl g h (.bin op e1 e2) v h3 := by
  unfold Ev at *; rw [ev_bin, x]; show (ev P cl g e2 h').bind _ = _; rw [y]; exact z
theorem Ev.cmp {op : CO} (x : Ev P cl g h e1 v1 h') (y : Ev P cl g h' e2 v2 h'') (z : cmpop op v1 v2 h'' = .ok v h3) : Ev P cl g h (.cmp op e1 e2) v h3 := by
  unfold Ev at *; rw [ev_cmp, x]; show (ev P cl g e2 h').bind _ = _; rw [y]; exact z
theorem Ev.cmp2 {o1 o2 : CO} (x : Ev P cl g h e1 v1 h') (y : Ev P cl g h' e2 v2 h'') (z : cmpop o1 v1 v2 h'' = .ok (.bool true) h'') (x3 : Ev P cl g h'' e3 v3 h3) (u : cmpop o2 v2 v3 h3 = .ok v h3) : Ev P cl g h (.cmp2 e1 o1 e2 o2 e3) v h3 := by
  unfold Ev at *; rw [ev_cmp2, x]; show (ev P cl g e2 h').bind _ = _; rw [y]; show (cmpop o1 v1 v2 h'').bind _ = _; rw [z]; show (ev P cl g e3 h'').bind _ = _; rw [x3]; exact u
theorem Ev.not {b : Bool} (x : Ev P cl g h e (.bool b) h') : Ev P cl g h (.not e) (.bool (!b)) h' := by unfold Ev at *; rw [ev_not, x]; rfl
theorem Ev.andT (x : Ev P cl g h e (.bool true) h') (y : Ev P cl g h' (.and (e1 :: es)) v h'') : Ev P cl g h (.and (e :: e1 :: es)) v h'' := by
  unfold Ev at *; rw [ev_and, evAnd, x]; rw [ev_and] at y; exact y; intro q; cases q
theorem Ev.andF (x : Ev P cl g h e (.bool false) h') : Ev P cl g h (.and (e :: e1 :: es)) (.bool false) h' := by
  unfold Ev at *; rw [ev_and, evAnd, x]; rfl; intro q; cases q
theorem Ev.andL (x : Ev P cl g h e v h') : Ev P cl g h (.and [e]) v h' := by unfold Ev at *; rw [ev_and, evAnd]; exact x
theorem Ev.orF (x : Ev P cl g h e (.bool false) h') (y : Ev P cl g h' (.or (e1 :: es)) v h'') : Ev P cl g h (.or (e :: e1 :: es)) v h'' := by
  unfold Ev at *; rw [ev_or, evOr, x]; rw [ev_or] at y; exact y; intro q; cases q
theorem Ev.orL (x : Ev P cl g h e v h') : Ev P cl g h (.or [e]) v h' := by unfold Ev at *; rw [ev_or, evOr]; exact x
theorem Ev.attr {f C : String} {fs : List (String × V)} (x : Ev P cl g h o (.ref r) h') (y : h'[r]? = some (.inst C fs)) (z : fs.lookup f = some v) : Ev P cl g h (.attr o f) v h' := by
  unfold Ev at *; rw [ev_attr, x]; show (match h'[r]? with | some (.inst _ fs) => (match fs.lookup f with | some v => R.ok v h' | .none => .bad) | _ => .bad) = _; rw [y]; dsimp only; rw [z]
theorem Ev.item (x : Ev P cl g h o v1 h') (y : Ev P cl g h' e v2 h'') (z : getItem v1 v2 h'' = .ok v h'') : Ev P cl g h (.sub o e) v h'' := by
  unfold Ev at *; rw [ev_sub, x]; show (ev P cl g e h').bind _ = _; rw [y]; exact z
theorem Ev.slc (x : Ev P cl g h o v1 h') (y : Ev P cl g h' e1 v2 h'') (y2 : Ev P cl g h'' e2 v3 h3) (z : getSlice v1 v2 v3 h3 = .ok v h4) : Ev P cl g h (.slc o e1 e2) v h4 := by
  unfold Ev at *; rw [ev_slc, x]; show (ev P cl g e1 h').bind _ = _; rw [y]; show (ev P cl g e2 h'').bind _ = _; rw [y2]; exact z
theorem Ev.bi {b : String} (x : Es P cl g h es vs h') (z : bfn b vs h' = .ok v h'') : Ev P cl g h (.bi b es) v h'' := by
  unfold Ev Es at *; rw [ev_bi, x]; exact z
theorem Ev.isa {t : String} (x : Ev P cl g h e v1 h') (z : isa P t v1 h' = .ok v h') : Ev P cl g h (.isa e t) v h' := by
  unfold Ev at *; rw [ev_isa, x]; exact z
theorem Ev.call {f : String} (x : Es P cl g h es vs h') (z : cl ("", f) vs h' = .ok v h'') : Ev P cl g h (.call f es) v h'' := by
  unfold Ev Es at *; rw [ev_call, x]; exact z
theorem Ev.make {C : String} {d : FD} (x : Es P cl g h es vs h') (y : P.fn (C, "__init__") = some d) (z : cl (C, "__init__") (.ref h'.length :: vs) (h' ++ [.inst C []]) = .ok .none h'') : Ev P cl g h (.make C es) (.ref h'.length) h'' := by
  unfold Ev Es at *; rw [ev_make, x]
  show (match P.fn (C, "__init__") with | some _ => _ | .none => _) = _
  rw [y]; show (cl (C, "__init__") (.ref h'.length :: vs) (h' ++ [.inst C []])).bind _ = _; rw [z]; rfl
theorem Ev.list (x : Es P cl g h es vs h') (z : vs.length ≤ mostLen) : Ev P cl g h (.list es) (.ref h'.length) (h' ++ [.list vs]) := by
  unfold Ev Es at *; rw [ev_list, x]; show (if _ then _ else _) = _; rw [if_pos z]; rfl
theorem Ev.tup (x : Es P cl g h es vs h') (z : vs.length ≤ mostLen) : Ev P cl g h (.tup es) (.tup vs) h' := by
  unfold Ev Es at *; rw [ev_tup, x]; show (if _ then _ else _) = _; rw [if_pos z]
theorem Ev.dict : Ev P cl g h .dict (.ref h.length) (h ++ [.dict []]) := rfl
theorem Ev.meth {m C : String} {fs : List (String × V)} {d : FD} (x : Ev P cl g h o (.ref r) h') (y : h'[r]? = some (.inst C fs)) (z : P.fn (C, m) = some d) (nl : fs.lookup m = .none) (w : Es P cl g h' es vs h'') (u : cl (C, m) (.ref r :: vs) h'' = .ok v h3) : Ev P cl g h (.meth o m es) v h3 := by
  unfold Ev Es at *; rw [ev_meth, x]
  show (match h'[r]? with | some (.inst C fs) => (match P.fn (C, m), fs.lookup m with | some _, .none => (evs P cl g es h').bind fun vs h => cl (C, m) (.ref r :: vs) h | _, _ => .bad) | some (.list _) => _ | _ => _) = _
  rw [y]; dsimp only; rw [z, nl]; dsimp only; rw [w]; exact u
theorem Ev.lmeth {m : String} {l : List V} {ob : Ob} (hm : listMs.contains m = true) (x : Ev P cl g h o (.ref r) h') (y : h'[r]? = some (.list l)) (w : Es P cl g h' es vs h'') (y2 : h''[r]? = some ob) (u : objMeth m r ob vs h'' = .ok v h3) : Ev P cl g h (.meth o m es) v h3 := by
  unfold Ev Es at *; rw [ev_meth, x]
  show (match h'[r]? with | some (.inst C fs) => _ | some (.list _) => (if listMs.contains m = true then _ else _) | _ => _) = _
  rw [y]; dsimp only; rw [if_pos hm, w]
  show (match h''[r]? with | some o => objMeth m r o vs h'' | .none => _) = _
  rw [y2]; exact u
theorem Es.nil : Es P cl g h [] [] h := rfl
theorem Es.cons (x : Ev P cl g h e v h') (y : Es P cl g h' es vs h'') : Es P cl g h (e :: es) (v :: vs) h'' := by
  unfold Ev Es at *; rw [evs_cons, x]; show (evs P cl g es h').bind _ = _; rw [y]; rfl
theorem Es.one (x : Ev P cl g h e v h') : Es P cl g h [e] [v] h' := .cons x .nil

theorem X.nil (x : R (.nx g h)) : X P cl [] g h R := x
theorem X.mono {R' : RS → Prop} (x : X P cl ss g h R) (y : ∀ q, R q → R' q) : X P cl ss g h R' := y _ x
theorem X.ret (x : Ev P cl g h e v h') (y : R (.ret v h')) : X P cl (.ret e :: ss) g h R := by unfold X Ev at *; rw [exs_cons, ex_ret, x]; exact y
theorem X.ret0 (y : R (.ret .none h)) : X P cl (.ret0 :: ss) g h R := by unfold X at *; rw [exs_cons, ex_ret0]; exact y
theorem X.expr (x : Ev P cl g h e v h') (y : X P cl ss g h' R) : X P cl (.expr e :: ss) g h R := by unfold X Ev at *; rw [exs_cons, ex_expr, x]; exact y
theorem X.asg {i : Nat} (x : Ev P cl g h e v h') (y : X P cl ss (g.set i (some v)) h' R) : X P cl (.asg i e :: ss) g h R := by unfold X Ev at *; rw [exs_cons, ex_asg, x]; exact y
theorem X.unp {xs : List Nat} (x : Ev P cl g h e v h') (z : bindU xs v g h' = some g') (y : X P cl ss g' h' R) : X P cl (.unp xs e :: ss) g h R := by
  unfold X Ev at *; rw [exs_cons, ex_unp, x]; show R (match (match bindU xs v g h' with | some g => RS.nx g h' | .none => RS.bad) with | .nx g h => exs P cl ss g h | o => o); rw [z]; exact y
theorem X.asgA {f : String} (x : Ev P cl g h e v h') (y : Ev P cl g h' o v1 h'') (z : setAttr v1 f v h'' = .ok v2 h3) (k : X P cl ss g h3 R) : X P cl (.asgA o f e :: ss) g h R := by
  unfold X Ev at *; rw [exs_cons, ex_asgA, x]; show R (match ((ev P cl g o h').bindS g _ : RS) with | .nx g h => exs P cl ss g h | o => o); rw [y]; show R (match ((setAttr v1 f v h'').bindS g _ : RS) with | .nx g h => exs P cl ss g h | o => o); rw [z]; exact k
theorem X.asgI (x : Ev P cl g h e v h') (y : Ev P cl g h' o v1 h'') (y2 : Ev P cl g h'' e2 v2 h3) (z : setItem v1 v2 v h3 = .ok v3 h4) (k : X P cl ss g h4 R) : X P cl (.asgI o e2 e :: ss) g h R := by
  unfold X Ev at *; rw [exs_cons, ex_asgI, x]; show R (match ((ev P cl g o h').bindS g _ : RS) with | .nx g h => exs P cl ss g h | o => o); rw [y]; show R (match ((ev P cl g e2 h'').bindS g _ : RS) with | .nx g h => exs P cl ss g h | o => o); rw [y2]; show R (match ((setItem v1 v2 v h3).bindS g _ : RS) with | .nx g h => exs P cl ss g h | o => o); rw [z]; exact k
theorem exs_app : exs P cl (t ++ ss) g h = match exs P cl t g h with | .nx g h => exs P cl ss g h | o => o := by
  induction t generalizing g h with
  | nil => rfl
  | cons s t ih =>
    show exs P cl (s :: (t ++ ss)) g h = _
    rw [exs_cons, exs_cons]
    cases ex P cl s g h with
    | nx g h => exact ih
    | ret => rfl
    | bad => rfl
theorem X.ifT (x : Ev P cl g h e (.bool true) h') (y : X P cl (t ++ ss) g h' R) : X P cl (.iff e t f :: ss) g h R := by
  unfold X Ev at *; rw [exs_cons, ex_iff, x]; rw [exs_app] at y; exact y
theorem X.ifF (x : Ev P cl g h e (.bool false) h') (y : X P cl (f ++ ss) g h' R) : X P cl (.iff e t f :: ss) g h R := by
  unfold X Ev at *; rw [exs_cons, ex_iff, x]; rw [exs_app] at y; exact y
theorem X.if {b : Bool} (x : Ev P cl g h e (.bool b) h') (y : b = true → X P cl (t ++ ss) g h' R) (z : b = false → X P cl (f ++ ss) g h' R) : X P cl (.iff e t f :: ss) g h R := by
  cases b with
  | true => exact .ifT x (y rfl)
  | false => exact .ifF x (z rfl)

theorem X.whil {c : E} {bd : List S} (I : Nat → Gm → Hp → Prop) {m : Nat} (i : I m g h) (hm : m < LF)
    (step : ∀ m g h, I m g h → (∃ h1, Ev P cl g h c (.bool true) h1 ∧ X P cl bd g h1 (orI (fun g' h' => ∃ m', m' < m ∧ I m' g' h') R)) ∨ (∃ h1, Ev P cl g h c (.bool false) h1 ∧ X P cl ss g h1 R)) : X P cl (.whil c bd :: ss) g h R := by
  unfold X
  rw [exs_cons, ex_whil]
  suffices ∀ n m g h, m < n → I m g h → R (match whileL (fun g h => ev P cl g c h) (fun g h => exs P cl bd g h) n g h with | .nx g h => exs P cl ss g h | o => o) from this LF m g h hm i
  intro n
  induction n with
  | zero => intro m g h hm; exact absurd hm (Nat.not_lt_zero _)
  | succ n ih =>
    intro m g h hm i
    rw [whileL]
    rcases step m g h i with ⟨h1, x, y⟩ | ⟨h1, x, y⟩
    · unfold Ev at x
      rw [x]
      unfold X at y
      show R (match (match exs P cl bd g h1 with | .nx g h => whileL _ _ n g h | r => r) with | .nx g h => exs P cl ss g h | o => o)
      revert y
      cases exs P cl bd g h1 with
      | nx g2 h2 => rintro ⟨m', hm', i'⟩; exact ih m' g2 h2 (Nat.lt_of_lt_of_le hm' (Nat.le_of_lt_succ hm)) i'
      | ret => exact id
      | bad => exact False.elim
    · unfold Ev at x
      rw [x]; exact y

theorem X.forr {xs : List Nat} {src : V} {bd : List S} (I : Nat → Gm → Hp → Prop) (N : Nat) (hN : N < LF) (x : Ev P cl g h e src h') (i : I 0 g h')
    (step : ∀ k g h, I k g h → (nth src h k = some none ∧ X P cl ss g h R) ∨ (∃ v g1, nth src h k = some (some v) ∧ k < N ∧ bindT xs v g h = some g1 ∧ X P cl bd g1 h (orI (I (k + 1)) R))) : X P cl (.forr xs e bd :: ss) g h R := by
  unfold X Ev at *
  rw [exs_cons, ex_forr, x]
  suffices ∀ n k g h, N - k < n → k ≤ N → I k g h → R (match forL (fun g h => exs P cl bd g h) xs src n k g h with | .nx g h => exs P cl ss g h | o => o) from this LF 0 g h' hN (Nat.zero_le _) i
  intro n
  induction n with
  | zero => intro k g h hk; exact absurd hk (Nat.not_lt_zero _)
  | succ n ih =>
    intro k g h hk hk2 i
    rw [forL]
    rcases step k g h i with ⟨a, b⟩ | ⟨v, g1, a, b, c, d⟩
    · rw [a]; exact b
    · rw [a]; dsimp only; rw [c]; dsimp only
      revert d
      cases exs P cl bd g1 h with
      | nx g2 h2 => exact fun i' => ih (k + 1) g2 h2 (by (first | lia | omega)) b i'
      | ret => exact id
      | bad => exact False.elim
end
end Mine
end

section
/-! the law's world: what lies in the core's heap, as plain data -/
namespace Mine
noncomputable abbrev Row := List Nat
noncomputable def iv (n : Nat) : V := .int n
noncomputable def ents (T : List V) : List (V × V) := T.zipIdx.map fun p => (p.1, V.int p.2)

theorem gs_self (h : Hp) (i : Nat) (o : Ob) {x : Ob} (e : h[i]? = some x) : (h.set i o)[i]? = some o := List.getElem?_set_self (List.getElem?_eq_some_iff.mp e).1
theorem gs_ne {h : Hp} {i j : Nat} (o : Ob) (e : i ≠ j) : (h.set i o)[j]? = h[j]? := List.getElem?_set_ne e
theorem ga {h : Hp} {i : Nat} {o : Ob} (x : Hp) (e : h[i]? = some o) : (h ++ x)[i]? = some o := by rw [List.getElem?_append_left (List.getElem?_eq_some_iff.mp e).1]; exact e
theorem gl {h : Hp} {i : Nat} {o : Ob} (e : h[i]? = some o) : i < h.length := (List.getElem?_eq_some_iff.mp e).1
theorem gn (h : Hp) (o : Ob) : (h ++ [o])[h.length]? = some o := by rw [List.getElem?_append_right (Nat.le_refl _), Nat.sub_self]; rfl

set_option genInjectivity true in
inductive Ro where
  | a (i : Nat) | d (i : Nat) | t (i : Nat)
  | b (j : Nat) | l (j : Nat) | v (j : Nat) | s (j k : Nat)
  | x (n : Nat)

structure Rp (h : Hp) (A : Ro → Nat) (C : Ro → Option Ob) : Prop where
  get : ∀ {r o}, C r = some o → h[A r]? = some o
  inj : ∀ {r s o p}, C r = some o → C s = some p → A r = A s → r = s
section
variable {h : Hp} {A A' : Ro → Nat} {C C' : Ro → Option Ob} {r : Ro} {o o' : Ob}
theorem Rp.set (x : Rp h A C) (e : C r = some o) (e' : C' r = some o') (k : ∀ s, s ≠ r → C' s = C s) : Rp (h.set (A r) o') A C' := by
  have inj : ∀ {s p}, C' s = some p → s = r ∨ C s = some p := fun {s p} q => Classical.byCases (p := s = r) .inl fun n => .inr ((k s n).symm.trans q)
  have iss : ∀ {s p}, C' s = some p → ∃ q, C s = some q := fun q => (inj q).elim (fun z => ⟨o, z ▸ e⟩) fun z => ⟨_, z⟩
  refine ⟨fun {s p} q => ?_, fun {s t p p'} q q' z => ?_⟩
  · rcases inj q with z | z
    · subst z; cases e'.symm.trans q; exact gs_self h _ _ (x.get e)
    · refine Classical.byCases (p := A r = A s) (fun y => ?_) fun y => (gs_ne _ y).trans (x.get z)
      cases x.inj e z y; cases e'.symm.trans q; exact gs_self h _ _ (x.get e)
  · refine el_x (iss q) fun _ a => ?_; refine el_x (iss q') fun _ b => ?_; exact x.inj a b z
theorem Rp.app (x : Rp h A C) (g : Hp) : Rp (h ++ g) A C := ⟨fun q => ga g (x.get q), x.inj⟩
theorem Rp.new (x : Rp h A C) {p : Nat} (e : h[p]? = some o') (n : ∀ s q, C s = some q → A s ≠ p) (ea : A' r = p) (ka : ∀ s, s ≠ r → A' s = A s) (e' : C' r = some o') (k : ∀ s, s ≠ r → C' s = C s) : Rp h A' C' := by
  refine ⟨fun {s q} z => ?_, fun {s t q q'} y y' z => ?_⟩
  · refine Classical.byCases (p := s = r) (fun y => ?_) fun y => ?_
    · subst y; cases e'.symm.trans z; rw [ea]; exact e
    · rw [ka s y]; exact x.get ((k s y).symm.trans z)
  · refine Classical.byCases (p := s = r) (fun u => ?_) fun u => Classical.byCases (p := t = r) (fun w => ?_) fun w => ?_
    · refine Classical.byCases (p := t = r) (fun w => u.trans w.symm) fun w => ?_
      subst u; rw [ea, ka t w] at z
      exact absurd z.symm (n t q' ((k t w).symm.trans y'))
    · subst w; rw [ea, ka s u] at z
      exact absurd z (n s q ((k s u).symm.trans y))
    · rw [ka s u, ka t w] at z
      exact x.inj ((k s u).symm.trans y) ((k t w).symm.trans y') z
theorem Rp.lt (x : Rp h A C) (e : C r = some o) : A r < h.length := gl (x.get e)
theorem Rp.new1 (x : Rp h A C) (o : Ob) (ea : A' r = h.length) (ka : ∀ s, s ≠ r → A' s = A s) (e' : C' r = some o) (k : ∀ s, s ≠ r → C' s = C s) : Rp (h ++ [o]) A' C' :=
  (x.app [o]).new (gn h o) (fun _ _ e => Nat.ne_of_lt (x.lt e)) ea ka e' k
end

structure Bkd where
  lg : Nat
  rows : List Row
  ns : List (List Nat)
structure Wd where
  ad : Ro → Nat
  T : Nat → Option (List V)
  bk : Nat → Option Bkd
  xs : Nat → Option Ob
noncomputable def cont (w : Wd) : Ro → Option Ob
  | .a i => (w.T i).map fun _ => .inst "Ledger" [("numbers", .ref (w.ad (.d i))), ("things", .ref (w.ad (.t i)))]
  | .d i => (w.T i).map fun T => .dict (ents T)
  | .t i => (w.T i).map .list
  | .b j => (w.bk j).map fun b => .inst "Book" [("ledger", .ref (w.ad (.a b.lg))), ("lines", .ref (w.ad (.l j))), ("levels", .ref (w.ad (.v j)))]
  | .l j => (w.bk j).map fun b => .list (b.rows.map .str)
  | .v j => (w.bk j).map fun b => .list ((List.range b.ns.length).map fun k => .ref (w.ad (.s j k)))
  | .s j k => (w.bk j).bind fun b => b.ns[k]?.map fun n => .list (n.map iv)
  | .x n => w.xs n
noncomputable abbrev Wh (h : Hp) (w : Wd) : Prop := Rp h w.ad (cont w)

noncomputable def upd {α : Type} (f : Nat → α) (i : Nat) (x : α) : Nat → α := fun k => if k = i then x else f k
theorem upd_self {α : Type} {f : Nat → α} {i : Nat} {x : α} : upd f i x i = x := if_pos rfl
theorem upd_ne {α : Type} {f : Nat → α} {i k : Nat} {x : α} (n : k ≠ i) : upd f i x k = f k := if_neg n

section
variable {h : Hp} {w : Wd} {i j k n : Nat} {T : List V} {b : Bkd}
theorem Rp.led (W : Wh h w) (e : w.T i = some T) : h[w.ad (.a i)]? = some (.inst "Ledger" [("numbers", .ref (w.ad (.d i))), ("things", .ref (w.ad (.t i)))]) := W.get (congrArg (Option.map _) e)
theorem Rp.dic (W : Wh h w) (e : w.T i = some T) : h[w.ad (.d i)]? = some (.dict (ents T)) := W.get (congrArg (Option.map _) e)
theorem Rp.thi (W : Wh h w) (e : w.T i = some T) : h[w.ad (.t i)]? = some (.list T) := W.get (congrArg (Option.map _) e)
theorem Rp.bok (W : Wh h w) (e : w.bk j = some b) : h[w.ad (.b j)]? = some (.inst "Book" [("ledger", .ref (w.ad (.a b.lg))), ("lines", .ref (w.ad (.l j))), ("levels", .ref (w.ad (.v j)))]) := W.get (congrArg (Option.map _) e)
theorem Rp.lin (W : Wh h w) (e : w.bk j = some b) : h[w.ad (.l j)]? = some (.list (b.rows.map .str)) := W.get (congrArg (Option.map _) e)
theorem Rp.lvs (W : Wh h w) (e : w.bk j = some b) : h[w.ad (.v j)]? = some (.list ((List.range b.ns.length).map fun k => .ref (w.ad (.s j k)))) := W.get (congrArg (Option.map _) e)
theorem lvl_cont {m : List Nat} (e : w.bk j = some b) (q : b.ns[k]? = some m) : cont w (.s j k) = some (.list (m.map iv)) := (congrArg (Option.bind · _) e).trans (congrArg (Option.map _) q)
theorem Rp.lvl (W : Wh h w) {m : List Nat} (e : w.bk j = some b) (q : b.ns[k]? = some m) : h[w.ad (.s j k)]? = some (.list (m.map iv)) := W.get (lvl_cont e q)
theorem Rp.oth (W : Wh h w) {o : Ob} (e : w.xs n = some o) : h[w.ad (.x n)]? = some o := W.get (r := .x n) e

noncomputable def Wd.setT (w : Wd) (i : Nat) (T : List V) : Wd := { w with T := upd w.T i (some T) }
noncomputable def Wd.setB (w : Wd) (j : Nat) (b : Bkd) : Wd := { w with bk := upd w.bk j (some b) }
noncomputable def Wd.setX (w : Wd) (n : Nat) (o : Ob) : Wd := { w with xs := upd w.xs n (some o) }
noncomputable def contD (w : Wd) (i : Nat) (o : Ob) : Ro → Option Ob
  | .d k => if k = i then some o else cont w (.d k)
  | s => cont w s
theorem Rp.setT (W : Wh h w) (e : w.T i = some T) (x : V) : Wh ((h.set (w.ad (.d i)) (.dict (ents (T ++ [x])))).set (w.ad (.t i)) (.list (T ++ [x]))) (w.setT i (T ++ [x])) := by
  have W1 : Rp (h.set (w.ad (.d i)) (.dict (ents (T ++ [x])))) w.ad (contD w i (.dict (ents (T ++ [x])))) := by
    refine Rp.set W (congrArg (Option.map _) e) (if_pos rfl) fun s n => ?_
    cases s with
    | d k => exact if_neg fun q => n (congrArg Ro.d q)
    | _ => rfl
  refine Rp.set W1 (r := .t i) (o := .list T) (congrArg (Option.map _) e) (congrArg (Option.map _) upd_self) fun s n => ?_
  have lm : ∀ {β : Type} (f : List V → β) (k : Nat), k ≠ i → ((upd w.T i (some (T ++ [x]))) k).map f = (w.T k).map f := fun f k n => congrArg (Option.map f) (upd_ne n)
  cases s with
  | a k =>
    show Option.map _ (upd w.T i (some (T ++ [x])) k) = Option.map _ (w.T k)
    refine Classical.byCases (p := k = i) (fun q => ?_) (fun q => lm _ k q)
    subst q; rw [upd_self, e]; rfl
  | d k =>
    show Option.map _ (upd w.T i (some (T ++ [x])) k) = ite (k = i) _ (Option.map _ (w.T k))
    refine Classical.byCases (p := k = i) (fun q => ?_) (fun q => (lm _ k q).trans (if_neg q).symm)
    subst q; rw [upd_self, if_pos rfl]; rfl
  | t k =>
    show Option.map _ (upd w.T i (some (T ++ [x])) k) = Option.map _ (w.T k)
    exact lm _ k fun q => n (congrArg Ro.t q)
  | _ => rfl
theorem Rp.setL (W : Wh h w) (e : w.bk j = some b) (rows : List Row) : Wh (h.set (w.ad (.l j)) (.list (rows.map .str))) (w.setB j { b with rows := rows }) := by
  refine Rp.set W (r := .l j) (congrArg (Option.map _) e) (congrArg (Option.map _) upd_self) fun s n => ?_
  have lm : ∀ {β : Type} (f : Bkd → β) (k : Nat), (k = j → f { b with rows := rows } = f b) → (upd w.bk j (some { b with rows := rows }) k).map f = (w.bk k).map f := fun f k q => by
    refine Classical.byCases (p := k = j) (fun z => ?_) fun z => congrArg (Option.map f) (upd_ne z)
    subst z; rw [upd_self, e]; exact congrArg some (q rfl)
  cases s with
  | b k => exact lm _ k fun _ => rfl
  | l k => exact lm _ k fun q => absurd (congrArg Ro.l q) n
  | v k => exact lm _ k fun q => by subst q; rfl
  | s k m =>
    refine Classical.byCases (p := k = j) (fun z => ?_) fun z => congrArg (Option.bind · _) (upd_ne z)
    subst z; show Option.bind (upd w.bk k _ k) _ = Option.bind (w.bk k) _; rw [upd_self, e]; rfl
  | _ => rfl
theorem Rp.setV (W : Wh h w) (e : w.bk j = some b) {m : List Nat} (q : b.ns[k]? = some m) (m' : List Nat) : Wh (h.set (w.ad (.s j k)) (.list (m'.map iv))) (w.setB j { b with ns := b.ns.set k m' }) := by
  have hk : (b.ns.set k m')[k]? = some m' := List.getElem?_set_self (List.getElem?_eq_some_iff.mp q).1
  refine Rp.set W (r := .s j k) (lvl_cont e q) (lvl_cont (w := w.setB j { b with ns := b.ns.set k m' }) upd_self hk) fun s n => ?_
  have lm : ∀ {β : Type} (f : Bkd → β) (i : Nat), (i = j → f { b with ns := b.ns.set k m' } = f b) → (upd w.bk j (some { b with ns := b.ns.set k m' }) i).map f = (w.bk i).map f := fun f i q => by
    refine Classical.byCases (p := i = j) (fun z => ?_) fun z => congrArg (Option.map f) (upd_ne z)
    subst z; rw [upd_self, e]; exact congrArg some (q rfl)
  cases s with
  | b i => exact lm _ i fun _ => rfl
  | l i => exact lm _ i fun _ => rfl
  | v i => exact lm _ i fun q => by subst q; show Ob.list (List.map _ (List.range (b.ns.set k m').length)) = _; rw [List.length_set]
  | s i m =>
    refine Classical.byCases (p := i = j) (fun z => ?_) fun z => congrArg (Option.bind · _) (upd_ne z)
    subst z; show Option.bind (upd w.bk i _ i) _ = Option.bind (w.bk i) _; rw [upd_self, e]
    exact congrArg (Option.map _) (List.getElem?_set_ne fun z => n (by rw [z]))
  | _ => rfl
theorem Rp.setX (W : Wh h w) {o : Ob} (e : w.xs n = some o) (o' : Ob) : Wh (h.set (w.ad (.x n)) o') (w.setX n o') := by
  refine Rp.set W (r := .x n) e upd_self fun s m => ?_
  cases s with
  | x k => exact upd_ne fun q => m (congrArg Ro.x q)
  | _ => rfl
end
end Mine
end

section
/-! the ledger -/
namespace Mine
section
variable {P : Pg} {cl : CallT} {g : Gm} {h h' h'' : Hp} {r i n : Nat} {l : List V} {v x y : V} {a b : Int}
theorem len_list (e : h[r]? = some (.list l)) : bfn "len" [.ref r] h = .ok (.int l.length) h := by
  show (match h[r]? with | some (.list l) => R.ok (V.int l.length) h | _ => .bad) = _; rw [e]
theorem idx_nat (q : i < n) : idx (i : Int) n = some i := by unfold idx; rw [if_pos (Int.natCast_nonneg i), Int.toNat_natCast, if_pos q]
theorem itemL (e : h[r]? = some (.list l)) (q : l[i]? = some x) : getItem (.ref r) (.int (i : Int)) h = .ok x h := by
  show (match h[r]?, V.int (i : Int) with | some (.list l), .int k => (match idx k l.length with | some j => (match l[j]? with | some v => R.ok v h | .none => .bad) | .none => .bad) | some (.dict es), k => _ | _, _ => _) = _
  rw [e]; dsimp only; rw [idx_nat (List.getElem?_eq_some_iff.mp q).1]; dsimp only; rw [q]
theorem setL (e : h[r]? = some (.list l)) (q : i < l.length) : setItem (.ref r) (.int (i : Int)) x h = .ok .none (h.set r (.list (l.set i x))) := by
  show (match h[r]?, V.int (i : Int) with | some (.list l), .int k => (if 0 ≤ k ∧ k.toNat < l.length then R.ok V.none (h.set r (.list (l.set k.toNat x))) else .bad) | some (.dict es), k => _ | _, _ => _) = _
  rw [e]; dsimp only; rw [Int.toNat_natCast, if_pos ⟨Int.natCast_nonneg i, q⟩]
theorem appL (q : l.length < mostLen) : objMeth "append" r (.list l) [x] h = .ok .none (h.set r (.list (l ++ [x]))) := if_pos q
theorem c_lt (q : a < b) : cmpop .lt (.int a) (.int b) h = .ok (.bool true) h := congrArg (okB · h) (decide_eq_true q)
theorem c_lt' (q : ¬ a < b) : cmpop .lt (.int a) (.int b) h = .ok (.bool false) h := congrArg (okB · h) (decide_eq_false q)
theorem c_le (q : a ≤ b) : cmpop .le (.int a) (.int b) h = .ok (.bool true) h := congrArg (okB · h) (decide_eq_true q)
theorem c_gt (q : a > b) : cmpop .gt (.int a) (.int b) h = .ok (.bool true) h := congrArg (okB · h) (decide_eq_true q)
theorem c_gt' (q : ¬ a > b) : cmpop .gt (.int a) (.int b) h = .ok (.bool false) h := congrArg (okB · h) (decide_eq_false q)
theorem c_ge (q : a ≥ b) : cmpop .ge (.int a) (.int b) h = .ok (.bool true) h := congrArg (okB · h) (decide_eq_true q)
theorem c_ge' (q : ¬ a ≥ b) : cmpop .ge (.int a) (.int b) h = .ok (.bool false) h := congrArg (okB · h) (decide_eq_false q)
theorem c_eqI : cmpop .eq (.int a) (.int b) h = .ok (.bool (a == b)) h := rfl
theorem c_eq (q : a = b) : cmpop .eq (.int a) (.int b) h = .ok (.bool true) h := congrArg (okB · h) (beq_iff_eq.mpr q)
theorem c_eq' (q : a ≠ b) : cmpop .eq (.int a) (.int b) h = .ok (.bool false) h := congrArg (okB · h) (beq_eq_false_iff_ne.mpr q)
theorem c_neI : cmpop .ne (.int a) (.int b) h = .ok (.bool (!(a == b))) h := rfl
theorem Ev.comp {elt it cond : E} {t : Nat} {src : V} (x : Ev P cl g h it src h') (c : compL (fun v h => ev P cl (g.set t (some v)) cond h) (fun v h => ev P cl (g.set t (some v)) elt h) src LF 0 [] h' = .ok l h'') : Ev P cl g h (.comp elt t it cond) (.ref h''.length) (h'' ++ [.list l]) := by
  unfold Ev at *; rw [ev_comp, x]; show ((compL _ _ src LF 0 [] h').bind _) = _; rw [c]; rfl
theorem compL_inv {cond elt : V → Hp → R V} {src : V} (I : Nat → List V → Hp → Prop) (N : Nat) (hN : N < LF) (Q : List V → Hp → Prop) (i0 : I 0 [] h)
    (step : ∀ k acc h, I k acc h → (nth src h k = some none ∧ Q acc h) ∨ (∃ v h1, nth src h k = some (some v) ∧ k < N ∧ acc.length < mostLen ∧ ((cond v h = .ok (.bool true) h1 ∧ ∃ x h2, elt v h1 = .ok x h2 ∧ I (k + 1) (acc ++ [x]) h2) ∨ (cond v h = .ok (.bool false) h1 ∧ I (k + 1) acc h1)))) :
    ∃ l h', compL cond elt src LF 0 [] h = .ok l h' ∧ Q l h' := by
  suffices ∀ n k acc h, N - k < n → k ≤ N → I k acc h → ∃ l h', compL cond elt src n k acc h = .ok l h' ∧ Q l h' from this LF 0 [] h hN (Nat.zero_le _) i0
  intro n
  induction n with
  | zero => intro k acc h hk; exact absurd hk (Nat.not_lt_zero _)
  | succ n ih =>
    intro k acc h hk hk2 i
    rw [compL]
    rcases step k acc h i with ⟨a, b⟩ | ⟨v, h1, a, b, c, ⟨d, x, h2, e, f⟩ | ⟨d, e⟩⟩
    · rw [a]; exact in_xxp _ _ rfl b
    · rw [a]; dsimp only; rw [d]; show ∃ l h', ((elt v h1).bind _) = _ ∧ _; rw [e]; show ∃ l h', ite _ _ _ = _ ∧ _; rw [if_pos c]
      exact ih (k + 1) _ h2 (by (first | lia | omega)) b f
    · rw [a]; dsimp only; rw [d]
      exact ih (k + 1) _ h1 (by (first | lia | omega)) b e

theorem go {d : FD} {f : Fid} {vs : List V} {Q : R V → Prop} (hd : P.fn f = some d) (hl : vs.length = d.arity) (x : X P (run P n) d.body (vs.map some ++ List.replicate (d.names.length - d.arity) .none) h (fun q => Q q.back)) : Q (run P (n + 1) f vs h) := by
  rw [run, hd]; dsimp only; rw [if_pos hl]; exact x
end

structure HasL (P : Pg) : Prop where
  whole : P.fn ("", "is_whole") = some f_is_whole
  isrow : P.fn ("", "is_row") = some f_is_row
  need : P.fn ("", "need_row") = some f_need_row
  init : P.fn ("Ledger", "__init__") = some f_Ledger_init
  number : P.fn ("Ledger", "number_of") = some f_Ledger_number_of
  needsum : P.fn ("Ledger", "need_sum") = some f_Ledger_need_sum
  ofrow : P.fn ("Ledger", "of_row") = some f_Ledger_of_row
  ofpair : P.fn ("Ledger", "of_pair") = some f_Ledger_of_pair
  signs : P.glob "SIGNS" = some (.str (cps "abcdefghijklmnopqrstuvwxyz0123456789 "))
  most : P.glob "MOST_SIGNS" = some (.int 40)

theorem dGet_ents {x : V} (hx : isKey x = true) : ∀ (T : List V) (k : Nat), (∃ i : Nat, T[i]? = some x ∧ dGet ((T.zipIdx k).map fun p => (p.1, V.int p.2)) x = some (.int (k + i : Nat))) ∨ (x ∉ T ∧ dGet ((T.zipIdx k).map fun p => (p.1, V.int p.2)) x = none)
  | [], k => .inr ⟨List.not_mem_nil, rfl⟩
  | y :: r, k => by
    show (∃ i : Nat, (y :: r)[i]? = some x ∧ (if keyEq y x then some (V.int k) else dGet ((r.zipIdx (k + 1)).map fun p => (p.1, V.int p.2)) x) = some (.int (k + i : Nat))) ∨ (_ ∧ (if keyEq y x then some (V.int k) else dGet ((r.zipIdx (k + 1)).map fun p => (p.1, V.int p.2)) x) = none)
    by_cases e : keyEq y x = true
    · rw [if_pos e]
      exact .inl ⟨0, congrArg some (keyEq_eq e), rfl⟩
    · rw [if_neg e]
      rcases dGet_ents hx r (k + 1) with ⟨i, a, b⟩ | ⟨a, b⟩
      · exact .inl ⟨i + 1, a, by rw [b, Nat.add_assoc, Nat.add_comm 1]⟩
      · exact .inr ⟨fun q => (List.mem_cons.mp q).elim (fun q => e (q ▸ keyEq_refl hx)) a, b⟩
theorem dSet_end {x y : V} : ∀ es : List (V × V), dGet es x = none → dSet es x y = es ++ [(x, y)]
  | [], _ => rfl
  | (k, v) :: r, h => by
    have h : (if keyEq k x then some v else dGet r x) = none := h
    by_cases e : keyEq k x = true
    · rw [if_pos e] at h; cases h
    · rw [if_neg e] at h
      show (if keyEq k x then (k, y) :: r else (k, v) :: dSet r x y) = _
      rw [if_neg e, dSet_end r h]; rfl
theorem dGet_end {x y : V} (kx : isKey x = true) : ∀ es : List (V × V), dGet es x = none → dGet (es ++ [(x, y)]) x = some y
  | [], _ => if_pos (keyEq_refl kx)
  | (k, v) :: r, h => by
    have h : (if keyEq k x then some v else dGet r x) = none := h
    by_cases e : keyEq k x = true
    · rw [if_pos e] at h; cases h
    · rw [if_neg e] at h
      show (if keyEq k x then some v else dGet (r ++ [(x, y)]) x) = _
      rw [if_neg e, dGet_end kx r h]
theorem ents_end (T : List V) (x : V) : ents (T ++ [x]) = ents T ++ [(x, .int T.length)] := by
  unfold ents; rw [List.zipIdx_append, List.map_append, Nat.zero_add]; rfl

noncomputable def Uni (T : List V) : Prop := ∀ (i j : Nat) (x : V), T[i]? = some x → T[j]? = some x → i = j
theorem Uni.app {T : List V} {x : V} (u : Uni T) (n : x ∉ T) : Uni (T ++ [x]) := by
  have at_ : ∀ {i : Nat} {y : V}, (T ++ [x])[i]? = some y → T[i]? = some y ∨ (i = T.length ∧ y = x) := fun {i y} e => by
    rcases Nat.lt_or_ge i T.length with q | q
    · rw [List.getElem?_append_left q] at e; exact .inl e
    · rw [List.getElem?_append_right q] at e
      match hq : i - T.length, e with
      | 0, e => cases e; exact .inr ⟨by (first | lia | omega), rfl⟩
  intro i j y hi hj
  rcases at_ hi with a | ⟨a, a'⟩ <;> rcases at_ hj with b | ⟨b, b'⟩
  · exact u i j y a b
  · exact absurd (b' ▸ List.mem_of_getElem? a) n
  · exact absurd (a' ▸ List.mem_of_getElem? b) n
  · exact a.trans b.symm

noncomputable def SIGNS : List Nat := cps "abcdefghijklmnopqrstuvwxyz0123456789 "
noncomputable def rowOk (s : List Nat) : Prop := s.length ≤ 40 ∧ ∀ c ∈ s, SIGNS.contains c = true
theorem bools_true : ∀ n : Nat, bools? (List.replicate n (V.bool true)) = some (List.replicate n true)
  | 0 => rfl
  | n + 1 => by rw [List.replicate_succ]; show (bools? _).map _ = _; rw [bools_true n]; rfl

structure Asked (h' : Hp) (w : Wd) (i : Nat) (T T' : List V) (x : V) (m : Nat) : Prop where
  W : Wh h' (w.setT i T')
  pre : T <+: T'
  hit : T'[m]? = some x
  len : T'.length ≤ T.length + 1
  uni : Uni T'

section
variable {P : Pg} {h : Hp} {n i : Nat} {T : List V} {w : Wd}
theorem setT_same (e : w.T i = some T) : w.setT i T = w := by
  have : upd w.T i (some T) = w.T := funext fun k => (Classical.em (k = i)).elim (fun q => by rw [q, upd_self, e]) upd_ne
  unfold Wd.setT; rw [this]

theorem number_of (p : HasL P) (W : Wh h w) (e : w.T i = some T) (hT : T.length < 1000000) (u : Uni T) {x : V} (hx : isKey x = true) :
    ∃ T' m h', run P (n + 1) ("Ledger", "number_of") [.ref (w.ad (.a i)), x] h = .ok (.int (m : Nat)) h' ∧ Asked h' w i T T' x m := by
  have nin : ∀ {b : Bool} {h : Hp} {T : List V}, h[w.ad (.d i)]? = some (.dict (ents T)) → (dGet (ents T) x).isSome = b → cmpop .notin x (.ref (w.ad (.d i))) h = .ok (.bool (!b)) h := fun {b h T} q z => by
    show okO ((match h[w.ad (.d i)]? with | some (.list _) => _ | some (.dict es) => (if isKey x then some (dGet es x).isSome else none) | _ => _).map (!·)) h = _
    rw [q]; dsimp only; rw [if_pos hx, z]; rfl
  have get : ∀ {v : V} {h : Hp} {T : List V}, h[w.ad (.d i)]? = some (.dict (ents T)) → dGet (ents T) x = some v → getItem (.ref (w.ad (.d i))) x h = .ok v h := fun {v h T} q z => by
    show (match h[w.ad (.d i)]?, x with | some (.list l), .int k => _ | some (.dict es), k => (if isKey k then (match dGet es k with | some v => R.ok v h | .none => .bad) else .bad) | _, _ => _) = _
    rw [q]; dsimp only; rw [if_pos hx, z]
  rcases dGet_ents hx T 0 with ⟨m, e1, e2⟩ | ⟨e1, e2⟩
  · rw [Nat.zero_add] at e2
    refine in_xxxp T m h ?_ ⟨by rw [setT_same e]; exact W, List.prefix_refl _, e1, Nat.le_succ _, u⟩
    exact go (Q := (· = _)) p.number rfl (.ifF (.cmp (.var rfl) (.attr (.var rfl) (W.led e) rfl) (nin (W.dic e) (congrArg Option.isSome e2))) (.ret (.item (.attr (.var rfl) (W.led e) rfl) (.var rfl) (get (W.dic e) e2)) rfl))
  · have W' := W.setT e x
    have le : (ents T).length < mostLen := by unfold ents; rw [List.length_map, List.length_zipIdx]; unfold mostLen; (first | lia | omega)
    have nd : w.ad (.a i) ≠ w.ad (.d i) := fun q => nomatch W.inj (r := .a i) (s := .d i) (congrArg (Option.map _) e) (congrArg (Option.map _) e) q
    have nt : w.ad (.d i) ≠ w.ad (.t i) := fun q => nomatch W.inj (r := .d i) (s := .t i) (congrArg (Option.map _) e) (congrArg (Option.map _) e) q
    have st : setItem (.ref (w.ad (.d i))) x (.int T.length) h = .ok .none (h.set (w.ad (.d i)) (.dict (ents (T ++ [x])))) := by
      show (match h[w.ad (.d i)]?, x with | some (.list l), .int k => _ | some (.dict es), k => (if isKey k ∧ es.length < mostLen then R.ok V.none (h.set (w.ad (.d i)) (.dict (dSet es k (.int T.length)))) else .bad) | _, _ => _) = _
      rw [W.dic e]; dsimp only; rw [if_pos ⟨hx, le⟩, dSet_end (ents T) e2, ents_end]
    have o1 : ∀ o, (h.set (w.ad (.d i)) o)[w.ad (.a i)]? = _ := fun o => (gs_ne o nd.symm).trans (W.led e)
    have o2 : ∀ o, (h.set (w.ad (.d i)) o)[w.ad (.t i)]? = _ := fun o => (gs_ne o nt).trans (W.thi e)
    refine in_xxxp (T ++ [x]) T.length _ ?_ ⟨W', List.prefix_append .., ?_, by rw [List.length_append]; exact Nat.le_refl _, u.app e1⟩
    · exact go (Q := (· = _)) p.number rfl (.ifT (.cmp (.var rfl) (.attr (.var rfl) (W.led e) rfl) (nin (W.dic e) (congrArg Option.isSome e2)))
        (.asgI (.bi (.one (.attr (.var rfl) (W.led e) rfl)) (len_list (W.thi e))) (.attr (.var rfl) (W.led e) rfl) (.var rfl) st
          (.expr (.lmeth rfl (.attr (.var rfl) (o1 _) rfl) (o2 _) (.one (.var rfl)) (o2 _) (appL (by unfold mostLen; (first | lia | omega))))
            (.ret (.item (.attr (.var rfl) (W'.led upd_self) rfl) (.var rfl) (get (W'.dic upd_self) (by rw [ents_end]; exact dGet_end hx _ e2))) rfl))))
    · rw [List.getElem?_append_right (Nat.le_refl _), Nat.sub_self]; rfl

theorem ite_self_true {p : Prop} [Decidable p] : (if p then true else id true) = true := by split <;> rfl
theorem le9 {n : Nat} (q : n.ble 9 = true) : n ≤ mostLen := Nat.le_trans (Nat.le_of_ble_eq_true q) (by decide)
theorem comp_true {elt : V → Hp → R V} {src : V} {N : Nat} (hN : N < 90000) (f : ∀ k, k < N → ∃ v, nth src h k = some (some v) ∧ elt v h = .ok (.bool true) h) (e : nth src h N = some none) : compL (fun _ h => .ok (.bool true) h) elt src LF 0 [] h = .ok (List.replicate N (.bool true)) h := by
  obtain ⟨l, h', c, rfl, rfl⟩ := compL_inv (h := h) (src := src) (cond := fun _ h => .ok (.bool true) h) (elt := elt) (fun k acc h' => k ≤ N ∧ acc = List.replicate k (V.bool true) ∧ h' = h) N (Nat.lt_trans hN (by decide)) (fun l h' => l = List.replicate N (V.bool true) ∧ h' = h) ⟨Nat.zero_le _, rfl, rfl⟩ (by
    rintro k acc h1 ⟨hk, rfl, rfl⟩
    rcases Nat.lt_or_ge k N with q | q
    · refine el_xp (f k q) fun v f1 f2 => ?_
      exact .inr ⟨v, h1, f1, q, by rw [List.length_replicate]; unfold mostLen; (first | lia | omega), .inl ⟨rfl, .bool true, h1, f2, q, List.replicate_succ'.symm, rfl⟩⟩
    · obtain rfl := Nat.le_antisymm hk q
      exact .inl ⟨e, rfl, rfl⟩)
  exact c
theorem all_rep {N : Nat} : bfn "all" [.ref h.length] (h ++ [.list (List.replicate N (V.bool true))]) = .ok (.bool true) (h ++ [.list (List.replicate N (V.bool true))]) := by
  show (match (h ++ [Ob.list (List.replicate N (V.bool true))])[h.length]? with | some (.list l) => okO ((bools? l).map fun (bs : List Bool) => bs.all id) _ | _ => _) = _
  rw [gn]; dsimp only; rw [bools_true]
  show R.ok (V.bool ((List.replicate N true).all id)) _ = _
  rw [List.all_replicate]
  exact congrArg (fun b => R.ok (V.bool b) _) ite_self_true
theorem is_row (p : HasL P) {s : List Nat} (hs : rowOk s) : ∃ o, run P (n + 1) ("", "is_row") [.str s] h = .ok (.bool true) (h ++ [o]) := by
  have lt := hs.1
  have c := comp_true (h := h) (src := .str s) (elt := fun v h => ev P (run P n) (List.set [some (.str s), none] 1 (some v)) (.cmp .isin (.var 1) (.glob "SIGNS")) h) (N := s.length) (by (first | lia | omega))
    (fun k q => ⟨.str [s[k]], by show some (Option.map _ s[k]?) = _; rw [List.getElem?_eq_getElem q]; rfl, Ev.cmp (.var rfl) (.glob p.signs) (congrArg (fun b => R.ok (V.bool b) h) (hs.2 _ (List.getElem_mem q)))⟩)
    (by show some (Option.map _ s[s.length]?) = _; rw [List.getElem?_eq_none (Nat.le_refl _)]; rfl)
  exact in_x _ (go (Q := (· = _)) p.isrow rfl (.ret (.andT (.isa (.var rfl) rfl) (.andT (.cmp (.bi (.one (.var rfl)) rfl) (.glob p.most) (c_le (by (first | lia | omega)))) (.andL (.bi (.one (.comp (.var rfl) c)) all_rep)))) rfl))
theorem need_row (p : HasL P) {s : List Nat} (hs : rowOk s) : ∃ o, run P (n + 2) ("", "need_row") [.str s] h = .ok .none (h ++ [o]) :=
  let ⟨o, e⟩ := is_row (n := n) (h := h) p hs
  ⟨o, go (Q := (· = _)) p.need rfl (.ifF (.not (.call (.one (.var rfl)) e)) (.nil rfl))⟩
theorem is_whole (p : HasL P) {a : Int} : run P (n + 1) ("", "is_whole") [.int a] h = .ok (.bool true) h :=
  go (Q := (· = _)) p.whole rfl (.ret (.andT (.isa (.var rfl) rfl) (.andL (.not (.isa (.var rfl) rfl)))) rfl)
theorem need_sum (p : HasL P) (W : Wh h w) (e : w.T i = some T) {m : Nat} (hm : m < T.length) : run P (n + 2) ("Ledger", "need_sum") [.ref (w.ad (.a i)), .int (m : Nat)] h = .ok .none h :=
  go (Q := (· = _)) p.needsum rfl (.ifF (.orF (.not (.call (.one (.var rfl)) (is_whole p))) (.orL (.not (.cmp2 .int (.var rfl) (c_le (Int.natCast_nonneg m)) (.bi (.one (.attr (.var rfl) (W.led e) rfl)) (len_list (W.thi e))) (c_lt (Int.ofNat_lt.mpr hm)))))) (.nil rfl))
theorem of_row (p : HasL P) (W : Wh h w) (e : w.T i = some T) (hT : T.length < 1000000) (u : Uni T) {s : List Nat} (hs : rowOk s) :
    ∃ T' m h', run P (n + 3) ("Ledger", "of_row") [.ref (w.ad (.a i)), .str s] h = .ok (.int (m : Nat)) h' ∧ Asked h' w i T T' (.str s) m :=
  by
  refine el_x (need_row (n := n) (h := h) p hs) fun o e1 => ?_
  have W1 := W.app [o]
  refine el_xxxp (number_of (n := n + 1) p W1 e hT u (x := .str s) rfl) fun T' m h' e2 A => ?_
  exact in_xxxp T' m h' (go (Q := (· = _)) p.ofrow rfl (.expr (.call (.one (.var rfl)) e1) (.ret (.meth (.var rfl) (W1.led e) p.number rfl (.one (.var rfl)) e2) rfl))) A
theorem of_pair (p : HasL P) (W : Wh h w) (e : w.T i = some T) (hT : T.length < 1000000) (u : Uni T) {a b : Nat} (ha : a < T.length) (hb : b < T.length) :
    ∃ T' m h', run P (n + 3) ("Ledger", "of_pair") [.ref (w.ad (.a i)), .int (a : Nat), .int (b : Nat)] h = .ok (.int (m : Nat)) h' ∧ Asked h' w i T T' (.tup [iv a, iv b]) m :=
  by
  refine el_xxxp (number_of (n := n + 1) p W e hT u (x := .tup [iv a, iv b]) rfl) fun T' m h' e2 A => ?_
  exact in_xxxp T' m h' (go (Q := (· = _)) p.ofpair rfl (.expr (.meth (.var rfl) (W.led e) p.needsum rfl (.one (.var rfl)) (need_sum p W e ha)) (.expr (.meth (.var rfl) (W.led e) p.needsum rfl (.one (.var rfl)) (need_sum p W e hb))
    (.ret (.meth (.var rfl) (W.led e) p.number rfl (.one (.tup (.cons (.var rfl) (.one (.var rfl))) (le9 (n := 2) rfl))) e2) rfl)))) A
end
end Mine
end

section
/-! books: what their numbers stand for; deeds at a world -/
namespace Mine
structure HasB (P : Pg) : Prop extends HasL P where
  binit : P.fn ("Book", "__init__") = some f_Book_init
  place : P.fn ("Book", "need_place") = some f_Book_need_place
  half : P.fn ("Book", "half_sum") = some f_Book_half_sum
  put : P.fn ("Book", "put") = some f_Book_put
  add : P.fn ("Book", "add") = some f_Book_add
  cut : P.fn ("Book", "cut") = some f_Book_cut
  room : P.fn ("Book", "room") = some f_Book_room
  rowsMost : P.glob "MOST_ROWS" = some (.int 1024)

noncomputable def Den (T : List V) : Nat → Nat → List Row → Prop
  | 0, n, rs => ∃ r, rs = [r] ∧ T[n]? = some (.str r)
  | k + 1, n, rs => ∃ a b : Nat, T[n]? = some (.tup [iv a, iv b]) ∧ Den T k a (rs.take (2 ^ k)) ∧ Den T k b (rs.drop (2 ^ k))
theorem pre_get {T T' : List V} (p : T <+: T') {n : Nat} {x : V} (h : T[n]? = some x) : T'[n]? = some x := by
  refine el_x p fun r tqz => ?_; try clear p; subst tqz
  rw [List.getElem?_append_left (List.getElem?_eq_some_iff.mp h).1]; exact h
theorem Den.mono {T T' : List V} (p : T <+: T') : ∀ {k n : Nat} {rs : List Row}, Den T k n rs → Den T' k n rs
  | 0, _, _, z0 => by
    refine el_xp z0 fun r e x => ?_; try clear z0
    exact in_xp r e (pre_get p x)
  | _ + 1, _, _, z0 => by
    refine el_xxpp z0 fun a b x y z => ?_; try clear z0
    exact in_xxpp a b (pre_get p x) (y.mono p) (z.mono p)
theorem Den.lt {T : List V} : ∀ {k n : Nat} {rs : List Row}, Den T k n rs → n < T.length
  | 0, _, _, z0 => by
    refine el_xp z0 fun _ _ x => ?_; try clear z0
    exact (List.getElem?_eq_some_iff.mp x).1
  | _ + 1, _, _, z0 => by
    refine el_xxpp z0 fun _ _ x _ _ => ?_; try clear z0
    exact (List.getElem?_eq_some_iff.mp x).1
theorem iv_inj {a b c d : Nat} (h : V.tup [iv a, iv b] = V.tup [iv c, iv d]) : a = c ∧ b = d := by
  injection h with h; injection h with h1 h2; injection h2 with h2; injection h1 with h1; injection h2 with h2
  exact ⟨Int.ofNat.inj h1, Int.ofNat.inj h2⟩
theorem Den.one {T : List V} : ∀ {k n : Nat} {rs ss : List Row}, Den T k n rs → Den T k n ss → rs = ss
  | 0, _, _, _, z0, z1 => by
    refine el_xp z0 fun _ e x => ?_; try clear z0
    refine el_xp z1 fun _ f y => ?_; try clear z1
    cases x.symm.trans y
    exact e.trans f.symm
  | k + 1, _, rs, ss, z0, z1 => by
    refine el_xxpp z0 fun _ _ x d1 d2 => ?_; try clear z0
    refine el_xxpp z1 fun _ _ y d3 d4 => ?_; try clear z1
    obtain ⟨y1, y2⟩ := iv_inj (Option.some.inj (x.symm.trans y))
    subst y1 y2
    rw [← List.take_append_drop (2 ^ k) rs, d1.one d3, d2.one d4, List.take_append_drop]
theorem Den.same {T : List V} (o : Uni T) : ∀ {k n m : Nat} {rs : List Row}, Den T k n rs → Den T k m rs → n = m
  | 0, _, _, _, z0, z1 => by
    refine el_xp z0 fun _ e x => ?_; try clear z0
    refine el_xp z1 fun _ f y => ?_; try clear z1
    cases e.symm.trans f
    exact o _ _ _ x y
  | _ + 1, _, _, _, z0, z1 => by
    refine el_xxpp z0 fun _ _ x d1 d2 => ?_; try clear z0
    refine el_xxpp z1 fun _ _ y d3 d4 => ?_; try clear z1
    cases d1.same o d3
    cases d2.same o d4
    exact o _ _ _ x y
theorem Den.iff {T : List V} (o : Uni T) {k n m : Nat} {rs ss : List Row} (a : Den T k n rs) (b : Den T k m ss) : n = m ↔ rs = ss :=
  ⟨fun e => by subst e; exact a.one b, fun e => by subst e; exact a.same o b⟩

noncomputable def blk (rows : List Row) (k i : Nat) : List Row := (rows.drop (i * 2 ^ k)).take (2 ^ k)
theorem blk_zero {rows : List Row} {i : Nat} {r : Row} (h : rows[i]? = some r) : blk rows 0 i = [r] := by
  refine el_y (List.getElem?_eq_some_iff.mp h) fun l e => ?_
  unfold blk
  rw [Nat.pow_zero, Nat.mul_one, List.drop_eq_getElem_cons l, e]; rfl
theorem two_mul_pow (i k : Nat) : i * 2 ^ (k + 1) = 2 * i * 2 ^ k := by rw [Nat.pow_succ, Nat.mul_comm (2 ^ k) 2, ← Nat.mul_assoc, Nat.mul_comm i 2]
theorem pow_two_add (k : Nat) : 2 ^ (k + 1) = 2 ^ k + 2 ^ k := by rw [Nat.pow_succ, Nat.mul_two]
theorem blk_take (rows : List Row) (k i : Nat) : (blk rows (k + 1) i).take (2 ^ k) = blk rows k (2 * i) := by
  unfold blk
  rw [List.take_take, two_mul_pow, pow_two_add, Nat.min_eq_left (Nat.le_add_right _ _)]
theorem blk_drop (rows : List Row) (k i : Nat) : (blk rows (k + 1) i).drop (2 ^ k) = blk rows k (2 * i + 1) := by
  unfold blk
  rw [List.drop_take, List.drop_drop, two_mul_pow, pow_two_add, Nat.add_sub_cancel, Nat.succ_mul (2 * i)]
theorem Den.pair {T : List V} {rows : List Row} {k i n a b : Nat} (x : T[n]? = some (.tup [iv a, iv b])) (y : Den T k a (blk rows k (2 * i))) (z : Den T k b (blk rows k (2 * i + 1))) : Den T (k + 1) n (blk rows (k + 1) i) :=
  ⟨a, b, x, by rw [blk_take]; exact y, by rw [blk_drop]; exact z⟩
theorem blk_ext {rows rows' : List Row} {k i : Nat} (h : ∀ m, m / 2 ^ k = i → rows'[m]? = rows[m]?) : blk rows' k i = blk rows k i := by
  unfold blk
  apply List.ext_getElem?
  intro m
  rw [List.getElem?_take, List.getElem?_take]
  split
  next hm =>
    rw [List.getElem?_drop, List.getElem?_drop]
    exact h _ (by rw [Nat.mul_comm, Nat.mul_add_div (Nat.pow_pos (by decide)), Nat.div_eq_of_lt hm, Nat.add_zero])
  next => rfl
theorem blk_set {rows : List Row} {i k j : Nat} {r : Row} (h : j ≠ i / 2 ^ k) : blk (rows.set i r) k j = blk rows k j :=
  blk_ext fun _ q => List.getElem?_set_ne fun e => h (by rw [e]; exact q.symm)
theorem half_lt {m n k : Nat} (h : m < n / 2 ^ (k + 1)) : 2 * m + 1 < n / 2 ^ k := by
  rw [Nat.pow_succ, ← Nat.div_div_eq_div_mul] at h; (first | lia | omega)
theorem div_next (i k : Nat) : i / 2 ^ k / 2 = i / 2 ^ (k + 1) := by rw [Nat.pow_succ, Nat.div_div_eq_div_mul]
theorem blk_app {rows : List Row} {r : Row} {k i : Nat} (h : i < rows.length / 2 ^ k) : blk (rows ++ [r]) k i = blk rows k i :=
  blk_ext fun _ q => List.getElem?_append_left (Nat.lt_of_not_le fun z => Nat.not_lt.mpr (Nat.div_le_div_right (c := 2 ^ k) z) (q ▸ h))

structure Lvd (T : List V) (b : Bkd) (len : Nat → Nat) (ok : Nat → Nat → Prop) : Prop where
  len : ∀ {k m}, b.ns[k]? = some m → m.length = len k
  den : ∀ {k m i x}, b.ns[k]? = some m → m[i]? = some x → ok k i → Den T k x (blk b.rows k i)
structure GoodB (T : List V) (b : Bkd) : Prop extends Lvd T b (fun k => b.rows.length / 2 ^ k) (fun _ _ => True) where
  top : b.rows.length < 2 ^ b.ns.length
  pos : 0 < b.ns.length
  tall : b.ns.length ≤ 11
  few : b.rows.length ≤ 1024
  good : ∀ r ∈ b.rows, rowOk r
structure Good (w : Wd) : Prop where
  uni : ∀ {i T}, w.T i = some T → Uni T
  bks : ∀ {j b}, w.bk j = some b → ∃ T, w.T b.lg = some T ∧ GoodB T b
theorem Lvd.mono {T T' : List V} {b : Bkd} {len : Nat → Nat} {ok : Nat → Nat → Prop} (L : Lvd T b len ok) (p : T <+: T') : Lvd T' b len ok := ⟨L.len, fun a b c => (L.den a b c).mono p⟩
theorem GoodB.mono {T T' : List V} {b : Bkd} (B : GoodB T b) (p : T <+: T') : GoodB T' b := ⟨B.toLvd.mono p, B.top, B.pos, B.tall, B.few, B.good⟩
theorem Lvd.upd {T : List V} {b : Bkd} {rows : List Row} {len len' : Nat → Nat} {ok ok' : Nat → Nat → Prop} (L : Lvd T b len ok) {k : Nat} {m : List Nat} (hl : m.length = len' k)
    (hd : ∀ {i x}, m[i]? = some x → ok' k i → Den T k x (blk rows k i)) (ho : ∀ j, j ≠ k → len' j = len j ∧ ∀ i, i < len j → ok' j i → ok j i ∧ blk rows j i = blk b.rows j i) :
    Lvd T { b with rows := rows, ns := b.ns.set k m } len' ok' := by
  have cs : ∀ {j n}, (b.ns.set k m)[j]? = some n → (j = k ∧ n = m) ∨ (j ≠ k ∧ b.ns[j]? = some n) := fun {j n} e =>
    (Classical.em (k = j)).elim (fun q => by
      subst q
      rw [List.getElem?_set_self (by have := (List.getElem?_eq_some_iff.mp e).1; rwa [List.length_set] at this)] at e
      exact .inl ⟨rfl, (Option.some.inj e).symm⟩) fun q => by rw [List.getElem?_set_ne q] at e; exact .inr ⟨Ne.symm q, e⟩
  refine ⟨fun {j n} e => ?_, fun {j n i x} e1 e2 e3 => ?_⟩
  · rcases cs e with ⟨rfl, rfl⟩ | ⟨q, e⟩
    · exact hl
    · exact (L.len e).trans (ho j q).1.symm
  · rcases cs e1 with ⟨rfl, rfl⟩ | ⟨q, e⟩
    · exact hd e2 e3
    · obtain ⟨o1, o2⟩ := (ho j q).2 i (by rw [← L.len e]; exact (List.getElem?_eq_some_iff.mp e2).1) e3
      show Den T j x (blk rows j i)
      rw [o2]; exact L.den e e2 o1

structure Frm (w : Wd) (lg j : Nat) (w' : Wd) : Prop where
  ad : ∀ r, (∀ k, r ≠ .s j k) → w'.ad r = w.ad r
  T : ∀ i, i ≠ lg → w'.T i = w.T i
  bk : ∀ k, k ≠ j → w'.bk k = w.bk k
  xs : w'.xs = w.xs
theorem Frm.refl (w : Wd) (lg j : Nat) : Frm w lg j w := ⟨fun _ _ => rfl, fun _ _ => rfl, fun _ _ => rfl, rfl⟩
theorem Frm.setT {w w' : Wd} {lg j : Nat} (f : Frm w lg j w') (T : List V) : Frm w lg j (w'.setT lg T) := ⟨f.ad, fun i n => (upd_ne n).trans (f.T i n), f.bk, f.xs⟩
theorem Frm.setB {w w' : Wd} {lg j : Nat} (f : Frm w lg j w') (b : Bkd) : Frm w lg j (w'.setB j b) := ⟨f.ad, f.T, fun i n => (upd_ne n).trans (f.bk i n), f.xs⟩
theorem Frm.trans {w w1 w2 : Wd} {lg j : Nat} (f : Frm w lg j w1) (g : Frm w1 lg j w2) : Frm w lg j w2 := ⟨fun r q => (g.ad r q).trans (f.ad r q), fun i n => (g.T i n).trans (f.T i n), fun i n => (g.bk i n).trans (f.bk i n), g.xs.trans f.xs⟩

structure Done (w : Wd) (j : Nat) (b : Bkd) (T : List V) (rows : List Row) (h' : Hp) (w' : Wd) : Prop where
  W : Wh h' w'
  G : Good w'
  fr : Frm w b.lg j w'
  bk : ∃ b', w'.bk j = some b' ∧ b'.rows = rows ∧ b'.lg = b.lg
  few : ∃ T', w'.T b.lg = some T' ∧ T'.length ≤ T.length + 20
theorem Good.step {w w' : Wd} {j : Nat} {b b' : Bkd} {T T' : List V} (G : Good w) (f : Frm w b.lg j w') (eT : w.T b.lg = some T) (e' : w'.bk j = some b') (el : b'.lg = b.lg) (eT' : w'.T b.lg = some T') (p : T <+: T') (u : Uni T') (B : GoodB T' b') : Good w' := by
  refine ⟨fun {i S} q => ?_, fun {k c} q => ?_⟩
  · rcases Classical.em (i = b.lg) with z | z
    · subst z; cases eT'.symm.trans q; exact u
    · exact G.uni ((f.T i z).symm.trans q)
  · rcases Classical.em (k = j) with z | z
    · subst z; cases e'.symm.trans q; exact in_xp T' (el ▸ eT') B
    · refine el_xp (G.bks ((f.bk k z).symm.trans q)) fun S s1 s2 => ?_
      rcases Classical.em (c.lg = b.lg) with y | y
      · rw [y] at s1 ⊢; cases eT.symm.trans s1; exact in_xp T' eT' (s2.mono p)
      · exact in_xp S ((f.T _ y).trans s1) s2

section
variable {P : Pg} {h : Hp} {n i j k : Nat} {T : List V} {w : Wd} {b : Bkd} {a : Int}
theorem itemA {r : Nat} {l : List V} {x : V} (e : h[r]? = some (.list l)) (ha : a = (i : Int)) (q : l[i]? = some x) : getItem (.ref r) (.int a) h = .ok x h := by subst ha; exact itemL e q
theorem rng_at {f : Nat → V} (hk : k < n) : ((List.range n).map f)[k]? = some (f k) := by rw [List.getElem?_map, List.getElem?_range hk]; rfl
theorem iv_at {m : List Nat} {x : Nat} (q : m[i]? = some x) : (m.map iv)[i]? = some (iv x) := by rw [List.getElem?_map, q]; rfl
theorem Rp.lvi (W : Wh h w) (e : w.bk j = some b) (hk : k < b.ns.length) (ha : a = (k : Int)) : getItem (.ref (w.ad (.v j))) (.int a) h = .ok (.ref (w.ad (.s j k))) h := itemA (W.lvs e) ha (rng_at hk)
theorem lt_ns {m : List Nat} (q : b.ns[k]? = some m) : k < b.ns.length := (List.getElem?_eq_some_iff.mp q).1
theorem bits_small (q : a.natAbs < 2 ^ 64) : bitsOf a ≤ mostBits := by
  unfold bitsOf
  split
  · exact Nat.zero_le _
  · next z => exact Nat.le_trans (Nat.succ_le_of_lt ((Nat.log2_lt z).mpr q)) (by decide)
theorem b_mul {b : Int} (q : bitsOf a ≤ mostBits) (q' : bitsOf b ≤ mostBits) : binop .mul (.int a) (.int b) h = .ok (.int (a * b)) h := if_pos ⟨q, q'⟩
theorem b_two (q : i < 1000000) : binop .mul (.int 2) (.int (i : Int)) h = .ok (.int (2 * (i : Int))) h := b_mul (by decide) (bits_small (by (first | lia | omega)))
theorem b_half : binop .fdiv (.int (i : Int)) (.int 2) h = .ok (.int ((i / 2 : Nat) : Int)) h := by
  show R.ok (V.int ((i : Int).fdiv 2)) h = _
  rw [Int.fdiv_eq_ediv_of_nonneg _ (by decide)]; rfl
theorem succ_sub (k : Nat) : ((k + 1 : Nat) : Int) - 1 = (k : Int) := by (first | lia | omega)

theorem need_place (p : HasB P) (W : Wh h w) (e : w.bk j = some b) (hi : i < b.rows.length) : run P (n + 2) ("Book", "need_place") [.ref (w.ad (.b j)), .int (i : Nat)] h = .ok .none h :=
  go (Q := (· = _)) p.place rfl (.ifF (.orF (.not (.call (.one (.var rfl)) (is_whole p.toHasL))) (.orL (.not (.cmp2 .int (.var rfl) (c_le (Int.natCast_nonneg i)) (.bi (.one (.attr (.var rfl) (W.bok e) rfl)) (len_list (W.lin e))) (c_lt (Int.ofNat_lt.mpr (by rw [List.length_map]; exact hi))))))) (.nil rfl))
theorem half_sum (p : HasB P) (W : Wh h w) (e : w.bk j = some b) (eT : w.T b.lg = some T) (hT : T.length < 1000000) (u : Uni T) {q x y : Nat} {m : List Nat} (hm : b.ns[k]? = some m) (hq : q < 1000000) (hx : m[2 * q]? = some x) (hy : m[2 * q + 1]? = some y) (lx : x < T.length) (ly : y < T.length) :
    ∃ T' c h', run P (n + 4) ("Book", "half_sum") [.ref (w.ad (.b j)), .int (k + 1 : Nat), .int (q : Nat)] h = .ok (.int (c : Nat)) h' ∧ Asked h' w b.lg T T' (.tup [iv x, iv y]) c :=
  by
  refine el_xxxp (of_pair (n := n) p.toHasL W eT hT u lx ly) fun T' c h' e1 A => ?_
  exact in_xxxp T' c h' (go (Q := (· = _)) p.half rfl (.asg (.item (.attr (.var rfl) (W.bok e) rfl) (.two (.var rfl) .int rfl) (W.lvi e (lt_ns hm) (succ_sub k)))
    (.ret (.meth (.attr (.var rfl) (W.bok e) rfl) (W.led eT) p.ofpair rfl (.cons (.item (.var rfl) (.two .int (.var rfl) (b_two hq)) (itemA (W.lvl e hm) rfl (iv_at hx))) (.one (.item (.var rfl) (.two (.two .int (.var rfl) (b_two hq)) .int rfl) (itemA (W.lvl e hm) rfl (iv_at hy))))) e1) rfl))) A
end
end Mine
end

section
/-! a row is put -/
namespace Mine
section
variable {P : Pg} {h : Hp} {n i j k : Nat} {T : List V} {w : Wd} {b : Bkd} {r : Row}
theorem setRow {a : Nat} {rows : List Row} (e : h[a]? = some (.list (rows.map .str))) (q : i < rows.length) : setItem (.ref a) (.int (i : Int)) (.str r) h = .ok .none (h.set a (.list ((rows.set i r).map .str))) :=
  (setL e (by rw [List.length_map]; exact q)).trans (by rw [← List.map_set])
theorem setNum {a x : Nat} {m : List Nat} (e : h[a]? = some (.list (m.map iv))) (q : i < m.length) : setItem (.ref a) (.int (i : Int)) (.int (x : Nat)) h = .ok .none (h.set a (.list ((m.set i x).map iv))) :=
  (setL e (by rw [List.length_map]; exact q)).trans (by rw [List.map_set]; rfl)
theorem ns_some (hk : k < b.ns.length) : ∃ m, b.ns[k]? = some m := ⟨b.ns[k], List.getElem?_eq_getElem hk⟩
theorem at_some {m : List Nat} (hk : k < m.length) : ∃ x, m[k]? = some x := ⟨m[k], List.getElem?_eq_getElem hk⟩
theorem set_at {m : List Nat} {x y c : Nat} (e : (m.set i x)[c]? = some y) : (c = i ∧ y = x) ∨ (c ≠ i ∧ m[c]? = some y) :=
  (Classical.em (i = c)).elim (fun q => by
    subst q
    rw [List.getElem?_set_self (by have := (List.getElem?_eq_some_iff.mp e).1; rwa [List.length_set] at this)] at e
    exact .inl ⟨rfl, (Option.some.inj e).symm⟩) fun q => by rw [List.getElem?_set_ne q] at e; exact .inr ⟨Ne.symm q, e⟩

structure Putting (w : Wd) (j : Nat) (b : Bkd) (T : List V) (i : Nat) (r : Row) (m : Nat) (h' : Hp) (w' : Wd) (b' : Bkd) (T' : List V) : Prop where
  W : Wh h' w'
  fr : Frm w b.lg j w'
  ad : w'.ad = w.ad
  bk : w'.bk j = some b'
  eT : w'.T b.lg = some T'
  pre : T <+: T'
  uni : Uni T'
  len : T'.length ≤ T.length + m
  lg : b'.lg = b.lg
  rows : b'.rows = b.rows.set i r
  nl : b'.ns.length = b.ns.length
  lv : Lvd T' b' (fun k => b.rows.length / 2 ^ k) (fun k x => k < m ∨ x ≠ i / 2 ^ k)

theorem Putting.next {w' : Wd} {b' : Bkd} {T' T2 : List V} {h' h2 : Hp} {m c : Nat} {v : V} {l : List Nat} (p : Putting w j b T i r m h' w' b' T') (A : Asked h2 w' b.lg T' T2 v c) (hl : b'.ns[m]? = some l) (d : Den T2 m c (blk b'.rows m (i / 2 ^ m))) :
    Putting w j b T i r (m + 1) (h2.set (w'.ad (.s j m)) (.list ((l.set (i / 2 ^ m) c).map iv))) ((w'.setT b.lg T2).setB j { b' with ns := b'.ns.set m (l.set (i / 2 ^ m) c) }) { b' with ns := b'.ns.set m (l.set (i / 2 ^ m) c) } T2 := by
  refine ⟨A.W.setV p.bk hl _, (p.fr.setT T2).setB _, p.ad, upd_self, upd_self, p.pre.trans A.pre, A.uni, ?_, p.lg, p.rows, by rw [← p.nl]; exact List.length_set, ?_⟩
  · have := p.len; have := A.len; (first | lia | omega)
  · refine (p.lv.mono A.pre).upd (rows := b'.rows) (k := m) (by rw [List.length_set]; exact p.lv.len hl) (fun {x y} e _ => ?_) fun k' hk => ⟨rfl, fun x _ o => ⟨o.imp (fun q => by (first | lia | omega)) id, rfl⟩⟩
    rcases set_at e with ⟨rfl, rfl⟩ | ⟨q, e⟩
    · exact d
    · exact (p.lv.den hl e (.inr q)).mono A.pre

theorem put (p : HasB P) (W : Wh h w) (G : Good w) (e : w.bk j = some b) (eT : w.T b.lg = some T) (hT : T.length < 900000) (hi : i < b.rows.length) (hr : rowOk r) :
    ∃ m h' w', run P (n + 5) ("Book", "put") [.ref (w.ad (.b j)), .int (i : Nat), .str r] h = .ok (.int (m : Nat)) h' ∧ Done w j b T (b.rows.set i r) h' w' := by
  refine Classical.byContradiction fun no => ?_
  refine el_xp (G.bks e) fun T0 eT0 B => ?_
  cases eT.symm.trans eT0
  refine el_x (need_row (n := n + 2) (h := h) p.toHasL hr) fun o e1 => ?_
  have W1 : Wh (h ++ [o]) w := W.app [o]
  have W2 := W1.setL e (b.rows.set i r)
  refine el_xxxp (of_row (n := n + 1) p.toHasL W2 eT (by (first | lia | omega)) (G.uni eT) hr) fun T1 c h3 e3 A => ?_
  refine el_x (ns_some B.pos) fun l0 hl0 => ?_
  have ll0 : l0.length = b.rows.length := (B.len hl0).trans (by rw [Nat.pow_zero, Nat.div_one])
  have p0 : Putting w j b T i r 0 (List.set (h ++ [o]) (w.ad (.l j)) (.list ((b.rows.set i r).map .str))) (w.setB j { b with rows := b.rows.set i r }) { b with rows := b.rows.set i r } T :=
    ⟨W2, (Frm.refl ..).setB _, rfl, upd_self, eT, List.prefix_refl _, G.uni eT, Nat.le_refl _, rfl, rfl, rfl, B.len, fun {k m x y} a b q => by
      rcases q with q | q
      · exact absurd q (Nat.not_lt_zero _)
      · show Den T k y (blk (_ : List Row) k x); rw [blk_set q]; exact B.den a b trivial⟩
  have p1 := p0.next (m := 0) A hl0 ⟨r, blk_zero (by rw [Nat.pow_zero, Nat.div_one]; exact List.getElem?_set_self hi), A.hit⟩
  rw [show i / 2 ^ 0 = i by rw [Nat.pow_zero, Nat.div_one]] at p1
  refine no (go (Q := fun q => ∃ m h' w', q = .ok (.int (m : Nat)) h' ∧ Done w j b T (b.rows.set i r) h' w') p.put rfl (.expr (.meth (.var rfl) (W.bok e) p.place rfl (.one (.var rfl)) (need_place p W e hi)) (.expr (.call (.one (.var rfl)) e1)
    (.asgI (.var rfl) (.attr (.var rfl) (W1.bok e) rfl) (.var rfl) (setRow (W1.lin e) hi)
    (.asgI (.meth (.attr (.var rfl) (W2.bok upd_self) rfl) (W2.led eT) p.ofrow rfl (.one (.var rfl)) e3) (.item (.attr (.var rfl) (A.W.bok upd_self) rfl) .int (A.W.lvi (k := 0) upd_self B.pos rfl)) (.var rfl) (setNum (A.W.lvl upd_self hl0) (by rw [ll0]; exact hi))
    (.asg .int (.asg (.two (.var rfl) .int b_half) (.whil (fun f g h' => ∃ m w' b' T', f + m = 11 ∧ m + 1 ≤ b.ns.length ∧ g = [some (.ref (w.ad (.b j))), some (.int (i : Nat)), some (.str r), some (.int (m + 1 : Nat)), some (.int (i / 2 ^ (m + 1) : Nat))] ∧ Putting w j b T i r (m + 1) h' w' b' T')
      (m := 11) ⟨0, _, _, _, rfl, B.pos, by rw [Nat.zero_add, Nat.pow_one]; rfl, p1⟩ (by decide) ?_))))))))
  refine fun f g h' I => Classical.byContradiction fun no => ?_
  refine el_xxxxppp I fun k w' b' T' hf mn eg q => ?_; try clear I
  subst eg
  have tall := B.tall
  have nd := q.W.bok q.bk
  rw [q.ad] at nd
  have lv := q.W.lvs q.bk
  rw [q.ad] at lv
  have ln : bfn "len" [.ref (w.ad (.v j))] h' = .ok (.int (b.ns.length : Nat)) h' := (len_list lv).trans (by rw [List.length_map, List.length_range, q.nl])
  -- the end
  have fin : (∀ x k', k + 1 ≤ k' → k' < b.ns.length → x < b.rows.length / 2 ^ k' → x ≠ i / 2 ^ k') → ∃ m' h1 w1, R.ok (V.int (k + 1 : Nat)) h' = R.ok (V.int (m' : Nat)) h1 ∧ Done w j b T (b.rows.set i r) h1 w1 := fun z => by
    have rl : b'.rows.length = b.rows.length := by rw [q.rows, List.length_set]
    have lv' : Lvd T' b' (fun k => b'.rows.length / 2 ^ k) (fun _ _ => True) := ⟨fun a => by rw [rl]; exact q.lv.len a, fun {k' l x y} a c _ => q.lv.den a c ((Nat.lt_or_ge k' (k + 1)).imp id fun y => z x k' y (by rw [← q.nl]; exact lt_ns a) (by have := (List.getElem?_eq_some_iff.mp c).1; rwa [q.lv.len a] at this))⟩
    have B' : GoodB T' b' := ⟨lv', by rw [rl, q.nl]; exact B.top, by rw [q.nl]; exact B.pos, by rw [q.nl]; exact B.tall, by rw [rl]; exact B.few, fun x hx => by
      rw [q.rows] at hx
      rcases List.mem_or_eq_of_mem_set hx with hx | hx
      · exact B.good x hx
      · subst hx; exact hr⟩
    exact in_xxxp (k + 1) h' w' rfl ⟨q.W, G.step q.fr eT q.bk q.lg q.eT q.pre q.uni B', q.fr, ⟨b', q.bk, q.rows, q.lg⟩, T', q.eT, by have := q.len; (first | lia | omega)⟩
  rcases Nat.lt_or_ge (k + 1) b.ns.length with c1 | c1
  · refine el_x (ns_some (b := b') (k := k + 1) (by rw [q.nl]; exact c1)) fun l hl => ?_
    have ll := q.lv.len hl
    have lm := q.W.lvl q.bk hl
    have li := q.W.lvi q.bk (lt_ns hl) rfl
    rw [q.ad] at lm li
    have c0 := c_lt (h := h') (Int.ofNat_lt.mpr c1)
    have lt2 : i / 2 ^ (k + 1) ≤ i := Nat.div_le_self _ _
    have few := B.few
    rcases Nat.lt_or_ge (i / 2 ^ (k + 1)) l.length with c2 | c2
    · refine el_x (ns_some (b := b') (k := k) (by rw [q.nl]; (first | lia | omega))) fun l' hl' => ?_
      have ll' := q.lv.len hl'
      have hc := half_lt (ll ▸ c2)
      refine el_x (at_some (m := l') (k := 2 * (i / 2 ^ (k + 1))) (by (first | lia | omega))) fun x hx => ?_
      refine el_x (at_some (m := l') (k := 2 * (i / 2 ^ (k + 1)) + 1) (by (first | lia | omega))) fun y hy => ?_
      have dx := q.lv.den hl' hx (.inl (Nat.lt_succ_self k))
      have dy := q.lv.den hl' hy (.inl (Nat.lt_succ_self k))
      refine el_xxxp (half_sum (n := n) p q.W q.bk (by rw [q.lg]; exact q.eT) (by have := q.len; (first | lia | omega)) q.uni hl' (by (first | lia | omega)) hx hy dx.lt dy.lt) fun T2 c h2 e4 A2 => ?_
      rw [q.lg] at A2
      rw [q.ad] at e4
      have q2 := q.next A2 hl (Den.pair A2.hit (dx.mono A2.pre) (dy.mono A2.pre))
      have W2 := A2.W
      have nd2 := W2.bok (w := w'.setT b.lg T2) q.bk
      have li2 := W2.lvi (w := w'.setT b.lg T2) q.bk (lt_ns hl) rfl
      have lm2 := W2.lvl (w := w'.setT b.lg T2) q.bk hl
      have ad2 : (w'.setT b.lg T2).ad = w.ad := q.ad
      rw [ad2] at nd2 li2 lm2
      rw [q.ad] at q2
      exact no (.inl ⟨_, .andT (.cmp (.var rfl) (.bi (.one (.attr (.var rfl) nd rfl)) ln) c0) (.andL (.cmp (.var rfl) (.bi (.one (.item (.attr (.var rfl) nd rfl) (.var rfl) li)) (len_list lm)) (c_lt (Int.ofNat_lt.mpr (by rw [List.length_map]; exact c2))))), .asgI (.meth (.var rfl) nd p.half rfl (.cons (.var rfl) (.one (.var rfl))) e4) (.item (.attr (.var rfl) nd2 rfl) (.var rfl) li2) (.var rfl) (setNum lm2 c2)
        (.asg (.two (.var rfl) .int rfl) (.asg (.two (.var rfl) .int b_half) (.nil ⟨f - 1, by (first | lia | omega), k + 1, _, _, _, by (first | lia | omega), c1, by rw [div_next]; rfl, q2⟩)))⟩)
    · refine no (.inr ⟨_, .andT (.cmp (.var rfl) (.bi (.one (.attr (.var rfl) nd rfl)) ln) c0) (.andL (.cmp (.var rfl) (.bi (.one (.item (.attr (.var rfl) nd rfl) (.var rfl) li)) (len_list lm)) (c_lt' (fun z => Nat.not_lt.mpr c2 (by have := Int.ofNat_lt.mp z; rwa [List.length_map] at this))))), .ret (.var rfl) (fin fun x k' mk _ xl xe => ?_)⟩)
      rw [ll] at c2
      obtain ⟨d, rfl⟩ : ∃ d, k' = k + 1 + d := ⟨k' - (k + 1), by (first | lia | omega)⟩
      rw [xe, Nat.pow_add, ← Nat.div_div_eq_div_mul, ← Nat.div_div_eq_div_mul] at xl
      exact absurd (Nat.div_le_div_right (c := 2 ^ d) c2) (Nat.not_le.mpr xl)
  · exact no (.inr ⟨_, .andF (.cmp (.var rfl) (.bi (.one (.attr (.var rfl) nd rfl)) ln) (c_lt' (fun z => Nat.not_lt.mpr c1 (Int.ofNat_lt.mp z)))), .ret (.var rfl) (fin fun _ k' a c => absurd c (by (first | lia | omega)))⟩)
end
end Mine
end

section
/-! a row is added -/
namespace Mine
section
variable {P : Pg} {h : Hp} {n i j k : Nat} {T : List V} {w : Wd} {b : Bkd} {r : Row}

noncomputable def adS (ad : Ro → Nat) (j k p : Nat) : Ro → Nat
  | .s i m => if i = j ∧ m = k then p else ad (.s i m)
  | r => ad r
theorem adS_self {ad : Ro → Nat} {p : Nat} : adS ad j k p (.s j k) = p := if_pos ⟨rfl, rfl⟩
theorem adS_ne {ad : Ro → Nat} {p : Nat} : ∀ {s : Ro}, s ≠ .s j k → adS ad j k p s = ad s
  | .s i m, q => if_neg fun z => q (by rw [z.1, z.2])
  | .a _, _ => rfl
  | .d _, _ => rfl
  | .t _, _ => rfl
  | .b _, _ => rfl
  | .l _, _ => rfl
  | .v _, _ => rfl
  | .x _, _ => rfl
noncomputable def contS (w : Wd) (j k : Nat) (o : Ob) : Ro → Option Ob
  | .s i m => if i = j ∧ m = k then some o else cont w (.s i m)
  | r => cont w r
noncomputable def Wd.newV (w : Wd) (j : Nat) (b : Bkd) (p : Nat) : Wd := { w with ad := adS w.ad j b.ns.length p, bk := upd w.bk j (some { b with ns := b.ns ++ [[]] }) }
theorem Rp.newV (W : Wh h w) (e : w.bk j = some b) : Wh (List.set (h ++ [.list []]) (w.ad (.v j)) (.list (((List.range b.ns.length).map fun k => .ref (w.ad (.s j k))) ++ [.ref h.length]))) (w.newV j b h.length) := by
  have no : ∀ s q, (cont w s = some q) → s ≠ .s j b.ns.length := fun s q z y => by
    subst y
    have : Option.bind (w.bk j) _ = some q := z
    rw [e] at this
    have : Option.map _ (b.ns[b.ns.length]?) = some q := this
    rw [List.getElem?_eq_none (Nat.le_refl _)] at this; cases this
  have W1 : Rp (h ++ [.list []]) (adS w.ad j b.ns.length h.length) (contS w j b.ns.length (.list [])) :=
    Rp.new1 W (.list []) adS_self (fun s q => adS_ne q) (if_pos ⟨rfl, rfl⟩) fun s q => by
      cases s with
      | s i m => exact if_neg fun z => q (by rw [z.1, z.2])
      | _ => rfl
  refine Rp.set W1 (r := .v j) (congrArg (Option.map _) e) ?_ fun s q => ?_
  · show Option.map _ (upd w.bk j _ j) = _
    rw [upd_self]
    show some (Ob.list ((List.range (b.ns ++ [[]]).length).map fun k => V.ref (adS w.ad j b.ns.length h.length (.s j k)))) = _
    rw [List.length_append, List.length_singleton, List.range_succ, List.map_append]
    refine congrArg (fun l => some (Ob.list l)) (congr (congrArg _ (List.map_congr_left fun k hk => ?_)) ?_)
    · rw [adS_ne fun z => ?_]
      injection z with _ z; exact Nat.ne_of_lt (List.mem_range.mp hk) z
    · show [V.ref _] = _; rw [adS_self]
  · have lm : ∀ {β : Type} (f : Bkd → β) (k : Nat), (k = j → f { b with ns := b.ns ++ [[]] } = f b) → (upd w.bk j (some { b with ns := b.ns ++ [[]] }) k).map f = (w.bk k).map f := fun f k q => by
      refine Classical.byCases (p := k = j) (fun z => ?_) fun z => congrArg (Option.map f) (upd_ne z)
      subst z; rw [upd_self, e]; exact congrArg some (q rfl)
    cases s with
    | b k => exact lm _ k fun _ => rfl
    | l k => exact lm _ k fun _ => rfl
    | v k =>
      have nk : k ≠ j := fun z => q (congrArg Ro.v z)
      show Option.map _ (upd w.bk j _ k) = Option.map _ (w.bk k)
      rw [upd_ne nk]
      cases w.bk k with
      | none => rfl
      | some c =>
        refine congrArg (fun l => some (Ob.list l)) (List.map_congr_left fun m _ => congrArg V.ref ?_)
        show adS w.ad j b.ns.length h.length (.s k m) = w.ad (.s k m)
        exact adS_ne fun z => by injection z with z; exact nk z
    | s i m =>
      show Option.bind (upd w.bk j _ i) _ = ite (i = j ∧ m = b.ns.length) _ (Option.bind (w.bk i) _)
      rcases Classical.em (i = j) with z | z
      · subst z
        rw [upd_self, e]
        show Option.map _ ((b.ns ++ [[]])[m]?) = ite _ _ (Option.map _ (b.ns[m]?))
        rcases Classical.em (m = b.ns.length) with y | y
        · subst y; rw [if_pos ⟨rfl, rfl⟩, List.getElem?_append_right (Nat.le_refl _), Nat.sub_self]; rfl
        · rw [if_neg fun z => y z.2]
          refine congrArg _ ?_
          rcases Nat.lt_or_ge m b.ns.length with u | u
          · exact List.getElem?_append_left u
          · rw [List.getElem?_eq_none u, List.getElem?_eq_none (by rw [List.length_append, List.length_singleton]; (first | lia | omega))]
      · rw [upd_ne z, if_neg fun y => z y.1]
    | _ => rfl

theorem even_up {R k c : Nat} (d : 2 ^ k ∣ R + 1) (e : (R + 1) / 2 ^ k = 2 * c) : R + 1 = 2 ^ (k + 1) * c := by
  rw [← Nat.mul_div_cancel' d, e, Nat.pow_succ, Nat.mul_assoc]
theorem up_div {R k c : Nat} (e : R + 1 = 2 ^ k * c) : (R + 1) / 2 ^ k = c ∧ R / 2 ^ k + 1 = c := by
  have p : 0 < 2 ^ k := Nat.pow_pos (by decide)
  have c0 : 0 < c := Nat.pos_of_ne_zero fun z => by rw [z] at e; cases e
  refine ⟨by rw [e, Nat.mul_div_cancel_left _ p], ?_⟩
  obtain ⟨d, rfl⟩ : ∃ d, c = d + 1 := ⟨c - 1, by (first | lia | omega)⟩
  refine congrArg (· + 1) (Nat.div_eq_of_lt_le ?_ ?_)
  · rw [Nat.mul_comm, ]; rw [Nat.mul_succ] at e; (first | lia | omega)
  · rw [Nat.mul_comm]; exact Nat.lt_of_succ_le (Nat.le_of_eq e)
theorem odd_stay {R k j : Nat} (d : 2 ^ k ∣ R + 1) (o : (R + 1) / 2 ^ k % 2 = 1) (q : k < j) : R / 2 ^ j = (R + 1) / 2 ^ j := by
  obtain ⟨i, rfl⟩ : ∃ i, j = k + (1 + i) := ⟨j - k - 1, by (first | lia | omega)⟩
  refine el_x d fun c hc => ?_; try clear d
  obtain ⟨u1, u2⟩ := up_div hc
  rw [Nat.pow_add, Nat.pow_add, Nat.pow_one, ← Nat.div_div_eq_div_mul, ← Nat.div_div_eq_div_mul, ← Nat.div_div_eq_div_mul, ← Nat.div_div_eq_div_mul]
  exact congrArg (· / 2 ^ i) (by (first | lia | omega))

structure Adding (w : Wd) (j : Nat) (b : Bkd) (T : List V) (r : Row) (m : Nat) (h' : Hp) (w' : Wd) (b' : Bkd) (T' : List V) : Prop where
  W : Wh h' w'
  fr : Frm w b.lg j w'
  bk : w'.bk j = some b'
  eT : w'.T b.lg = some T'
  pre : T <+: T'
  uni : Uni T'
  len : T'.length ≤ T.length + m
  lg : b'.lg = b.lg
  rows : b'.rows = b.rows ++ [r]
  tall : b'.ns.length ≤ 11
  top : b.rows.length < 2 ^ b'.ns.length
  lv : Lvd T' b' (fun k => if k < m then (b.rows.length + 1) / 2 ^ k else b.rows.length / 2 ^ k) (fun _ _ => True)

theorem Adding.next {w' : Wd} {b' : Bkd} {T' T2 : List V} {h' h2 : Hp} {m c : Nat} {v : V} {l : List Nat} (p : Adding w j b T r m h' w' b' T') (A : Asked h2 w' b.lg T' T2 v c) (hl : b'.ns[m]? = some l) (up : b.rows.length / 2 ^ m + 1 = (b.rows.length + 1) / 2 ^ m) (d : Den T2 m c (blk b'.rows m (b.rows.length / 2 ^ m))) :
    Adding w j b T r (m + 1) (h2.set (w'.ad (.s j m)) (.list ((l ++ [c]).map iv))) ((w'.setT b.lg T2).setB j { b' with ns := b'.ns.set m (l ++ [c]) }) { b' with ns := b'.ns.set m (l ++ [c]) } T2 := by
  have ll : l.length = b.rows.length / 2 ^ m := (p.lv.len hl).trans (if_neg (Nat.lt_irrefl _))
  refine ⟨A.W.setV p.bk hl _, (p.fr.setT T2).setB _, upd_self, upd_self, p.pre.trans A.pre, A.uni, ?_, p.lg, p.rows, by show List.length (List.set _ _ _) ≤ 11; rw [List.length_set]; exact p.tall, by show _ < 2 ^ List.length (List.set _ _ _); rw [List.length_set]; exact p.top, ?_⟩
  · have := p.len; have := A.len; (first | lia | omega)
  · refine (p.lv.mono A.pre).upd (rows := b'.rows) (k := m) (by rw [List.length_append, List.length_singleton, ll, if_pos (Nat.lt_succ_self m)]; exact up) (fun {x y} e _ => ?_) fun k' hk => ⟨?_, fun x _ o => ⟨trivial, rfl⟩⟩
    · rcases Nat.lt_or_ge x l.length with z | z
      · rw [List.getElem?_append_left z] at e; exact (p.lv.den hl e trivial).mono A.pre
      · have : x = l.length := by have := (List.getElem?_eq_some_iff.mp e).1; rw [List.length_append, List.length_singleton] at this; (first | lia | omega)
        subst this
        rw [List.getElem?_append_right (Nat.le_refl _), Nat.sub_self] at e
        cases e; rw [ll]; exact d
    · rcases Nat.lt_or_ge k' m with z | z
      · rw [if_pos z, if_pos (Nat.lt_succ_of_lt z)]
      · rw [if_neg (Nat.not_lt.mpr z), if_neg (by (first | lia | omega))]

theorem Adding.grow {w' : Wd} {b' : Bkd} {T' : List V} {h' : Hp} {m : Nat} (p : Adding w j b T r m h' w' b' T') (e : m = b'.ns.length) (t : m < 11) :
    Adding w j b T r m (List.set (h' ++ [.list []]) (w'.ad (.v j)) (.list (((List.range b'.ns.length).map fun k => .ref (w'.ad (.s j k))) ++ [.ref h'.length]))) (w'.newV j b' h'.length) { b' with ns := b'.ns ++ [[]] } T' := by
  have ln : (b'.ns ++ [[]]).length = b'.ns.length + 1 := by rw [List.length_append]; rfl
  have cs : ∀ {k l}, (b'.ns ++ [[]])[k]? = some l → b'.ns[k]? = some l ∨ (k = b'.ns.length ∧ l = []) := fun {k l} z => by
    rcases Nat.lt_or_ge k b'.ns.length with y | y
    · rw [List.getElem?_append_left y] at z; exact .inl z
    · have : k = b'.ns.length := by have := (List.getElem?_eq_some_iff.mp z).1; (first | lia | omega)
      subst this
      rw [List.getElem?_append_right (Nat.le_refl _), Nat.sub_self] at z
      cases z; exact .inr ⟨rfl, rfl⟩
  refine ⟨p.W.newV p.bk, ⟨fun s q => (adS_ne (q _)).trans (p.fr.ad s q), p.fr.T, fun i n => (upd_ne n).trans (p.fr.bk i n), p.fr.xs⟩, upd_self, p.eT, p.pre, p.uni, p.len, p.lg, p.rows, by rw [ln]; (first | lia | omega), ?_, fun z => ?_, fun {k l x y} z1 z2 _ => ?_⟩
  · rw [ln, Nat.pow_succ]; have := p.top; (first | lia | omega)
  · rcases cs z with z | ⟨z1, z2⟩
    · exact p.lv.len z
    · subst z1 z2; rw [if_neg (by (first | lia | omega)), Nat.div_eq_of_lt p.top]; rfl
  · rcases cs z1 with z | ⟨_, z⟩
    · exact p.lv.den z z2 trivial
    · subst z; cases z2
theorem even_int {a : Nat} : binop .mod (.int (a : Int)) (.int 2) h = .ok (.int ((a % 2 : Nat) : Int)) h := by
  show R.ok (V.int ((a : Int).fmod 2)) h = _
  rw [Int.fmod_eq_emod_of_nonneg _ (by decide)]; rfl

theorem add (p : HasB P) (W : Wh h w) (G : Good w) (e : w.bk j = some b) (eT : w.T b.lg = some T) (hT : T.length < 900000) (hn : b.rows.length < 1024) (hr : rowOk r) :
    ∃ m h' w', run P (n + 5) ("Book", "add") [.ref (w.ad (.b j)), .str r] h = .ok (.int (m : Nat)) h' ∧ Done w j b T (b.rows ++ [r]) h' w' := by
  refine Classical.byContradiction fun no => ?_
  refine el_xp (G.bks e) fun T0 eT0 B => ?_
  cases eT.symm.trans eT0
  refine el_x (need_row (n := n + 2) (h := h) p.toHasL hr) fun o e1 => ?_
  have W1 : Wh (h ++ [o]) w := W.app [o]
  have W2 := W1.setL e (b.rows ++ [r])
  refine el_xxxp (of_row (n := n + 1) p.toHasL W2 eT (by (first | lia | omega)) (G.uni eT) hr) fun T1 c h3 e3 A => ?_
  refine el_x (ns_some B.pos) fun l0 hl0 => ?_
  have ll0 : l0.length = b.rows.length := (B.len hl0).trans (by rw [Nat.pow_zero, Nat.div_one])
  have p0 : Adding w j b T r 0 (List.set (h ++ [o]) (w.ad (.l j)) (.list ((b.rows ++ [r]).map .str))) (w.setB j { b with rows := b.rows ++ [r] }) { b with rows := b.rows ++ [r] } T :=
    ⟨W2, (Frm.refl ..).setB _, upd_self, eT, List.prefix_refl _, G.uni eT, Nat.le_refl _, rfl, rfl, B.tall, B.top, fun a => (B.len a).trans (if_neg (Nat.not_lt_zero _)).symm, fun {k m x y} a b _ => by
      show Den T k y (blk (_ : List Row) k x); rw [blk_app (by rw [← B.len a]; exact (List.getElem?_eq_some_iff.mp b).1)]; exact B.den a b trivial⟩
  have p1 := p0.next (m := 0) A hl0 (by rw [Nat.pow_zero, Nat.div_one, Nat.div_one]) ⟨r, blk_zero (by rw [Nat.pow_zero, Nat.div_one, List.getElem?_append_right (Nat.le_refl _), Nat.sub_self]; rfl), A.hit⟩
  have ap : ∀ {a : Nat} {h : Hp}, objMeth "append" a (.list (b.rows.map .str)) [.str r] h = .ok .none (h.set a (.list ((b.rows ++ [r]).map .str))) := by
    intro a h; rw [List.map_append]; exact appL (by rw [List.length_map]; exact Nat.lt_trans hn (by decide))
  have an : ∀ {a c : Nat} {l : List Nat} {h : Hp}, l.length ≤ 1024 → objMeth "append" a (.list (l.map iv)) [.int (c : Nat)] h = .ok .none (h.set a (.list ((l ++ [c]).map iv))) := by
    intro a c l h q; rw [List.map_append]; exact appL (by rw [List.length_map]; exact Nat.lt_of_le_of_lt q (by decide))
  refine no (go (Q := fun q => ∃ m h' w', q = .ok (.int (m : Nat)) h' ∧ Done w j b T (b.rows ++ [r]) h' w') p.add rfl (.expr (.call (.one (.var rfl)) e1)
    (.ifF (.cmp (.bi (.one (.attr (.var rfl) (W1.bok e) rfl)) (len_list (W1.lin e))) (.glob p.rowsMost) (c_ge' (by rw [List.length_map]; (first | lia | omega))))
    (.expr (.lmeth rfl (.attr (.var rfl) (W1.bok e) rfl) (W1.lin e) (.one (.var rfl)) (W1.lin e) ap)
    (.expr (.lmeth rfl (.item (.attr (.var rfl) (W2.bok upd_self) rfl) .int (W2.lvi (k := 0) upd_self B.pos rfl)) (W2.lvl upd_self hl0) (.one (.meth (.attr (.var rfl) (W2.bok upd_self) rfl) (W2.led eT) p.ofrow rfl (.one (.var rfl)) e3)) (A.W.lvl upd_self hl0) (an (by rw [ll0]; (first | lia | omega))))
    (.asg .int (.whil (fun f g h' => ∃ m w' b' T', f + m = 11 ∧ m < b'.ns.length ∧ 2 ^ m ∣ b.rows.length + 1 ∧ g = [some (.ref (w.ad (.b j))), some (.str r), some (.int (m + 1 : Nat))] ∧ Adding w j b T r (m + 1) h' w' b' T')
      (m := 11) ⟨0, _, _, _, rfl, by show 0 < List.length (List.set _ _ _); rw [List.length_set]; exact B.pos, Nat.one_dvd _, rfl, p1⟩ (by decide) ?_)))))))
  refine fun f g h' I => Classical.byContradiction fun no => ?_
  obtain ⟨m, w', b', T', hf, mn, dv, eg, q⟩ := I
  subst eg
  have adb : w'.ad (.b j) = w.ad (.b j) := q.fr.ad _ (fun _ => nofun)
  have nd := q.W.bok q.bk
  rw [adb] at nd
  refine el_x (ns_some (b := b') mn) fun l hl => ?_
  have ll : l.length = (b.rows.length + 1) / 2 ^ m := (q.lv.len hl).trans (if_pos (Nat.lt_succ_self m))
  have li := q.W.lvi q.bk mn (succ_sub m)
  have ln := len_list (q.W.lvl q.bk hl)
  rw [List.length_map] at ln
  have cd : Ev P (run P (n + 4)) [some (.ref (w.ad (.b j))), some (.str r), some (.int (m + 1 : Nat))] h' (.bin .mod (.bi "len" [.sub (.attr (.var 0) "levels") (.bin .sub (.var 2) (.int 1))]) (.int 2)) (.int (l.length % 2 : Nat)) h' :=
    .two (.bi (.one (.item (.attr (.var rfl) nd rfl) (.two (.var rfl) .int rfl) li)) ln) .int even_int
  rcases Nat.mod_two_eq_zero_or_one l.length with ev | od
  · obtain ⟨c, hc⟩ : ∃ c, l.length = 2 * c := ⟨l.length / 2, by (first | lia | omega)⟩
    have d1 := even_up dv (ll ▸ hc)
    obtain ⟨u1, u2⟩ := up_div d1
    have m10 : m + 1 < 11 := by
      apply Classical.byContradiction
      intro z
      have := Nat.le_of_dvd (Nat.succ_pos _) ⟨c, d1⟩
      have := Nat.le_trans (Nat.pow_le_pow_right (n := 2) (by decide) (show 11 ≤ m + 1 by (first | lia | omega))) this
      (first | lia | omega)
    refine no (.inl ⟨h', .cmp cd .int (c_eq (by rw [ev]; rfl)), ?_⟩)
    -- a level more, if need be
    have turn : ∀ (h2 : Hp) (w2 : Wd) (b2 : Bkd), Adding w j b T r (m + 1) h2 w2 b2 T' → m + 1 < b2.ns.length → X P (run P (n + 4)) [.expr (.meth (.sub (.attr (.var 0) "levels") (.var 2)) "append" [.meth (.var 0) "half_sum" [.var 2, .bi "len" [.sub (.attr (.var 0) "levels") (.var 2)]]]), .asg 2 (.bin .add (.var 2) (.int 1))] [some (.ref (w.ad (.b j))), some (.str r), some (.int (m + 1 : Nat))] h2
        (orI (fun g' h' => ∃ f', f' < f ∧ ∃ m w' b' T', f' + m = 11 ∧ m < b'.ns.length ∧ 2 ^ m ∣ b.rows.length + 1 ∧ g' = [some (.ref (w.ad (.b j))), some (.str r), some (.int (m + 1 : Nat))] ∧ Adding w j b T r (m + 1) h' w' b' T') (fun q => ∃ m h' w', q.back = .ok (.int (m : Nat)) h' ∧ Done w j b T (b.rows ++ [r]) h' w')) := by
      refine fun h2 w2 b2 q lt => Classical.byContradiction fun no => ?_
      have adb : w2.ad (.b j) = w.ad (.b j) := q.fr.ad _ (fun _ => nofun)
      have nd := q.W.bok q.bk
      rw [adb] at nd
      refine el_x (ns_some (b := b2) (k := m) (Nat.lt_of_succ_lt lt)) fun l hl => ?_
      have ll : l.length = (b.rows.length + 1) / 2 ^ m := (q.lv.len hl).trans (if_pos (Nat.lt_succ_self m))
      refine el_x (ns_some lt) fun l' hl' => ?_
      have ll' : l'.length = b.rows.length / 2 ^ (m + 1) := (q.lv.len hl').trans (if_neg (Nat.lt_irrefl _))
      have lt2 : b.rows.length / 2 ^ (m + 1) ≤ b.rows.length := Nat.div_le_self _ _
      refine el_x (at_some (m := l) (k := 2 * (b.rows.length / 2 ^ (m + 1))) (by (first | lia | omega))) fun x hx => ?_
      refine el_x (at_some (m := l) (k := 2 * (b.rows.length / 2 ^ (m + 1)) + 1) (by (first | lia | omega))) fun y hy => ?_
      have dx := q.lv.den hl hx trivial
      have dy := q.lv.den hl hy trivial
      refine el_xxxp (half_sum (n := n) p q.W q.bk (by rw [q.lg]; exact q.eT) (by have := q.len; have := q.tall; (first | lia | omega)) q.uni hl (by (first | lia | omega)) hx hy dx.lt dy.lt) fun T2 c2 h3 e4 A2 => ?_
      rw [q.lg] at A2
      rw [adb] at e4
      have q2 := q.next A2 hl' (u2.trans u1.symm) (Den.pair A2.hit (dx.mono A2.pre) (dy.mono A2.pre))
      have li := q.W.lvi q.bk lt rfl
      have ln := len_list (q.W.lvl q.bk hl')
      rw [List.length_map, ll'] at ln
      exact no (.expr (.lmeth rfl (.item (.attr (.var rfl) nd rfl) (.var rfl) li) (q.W.lvl q.bk hl') (.one (.meth (.var rfl) nd p.half rfl (.cons (.var rfl) (.one (.bi (.one (.item (.attr (.var rfl) nd rfl) (.var rfl) li)) ln))) e4)) (A2.W.lvl (w := w2.setT b.lg T2) q.bk hl') (an (by rw [ll']; (first | lia | omega))))
        (.asg (.two (.var rfl) .int rfl) (.nil ⟨f - 1, by (first | lia | omega), m + 1, _, _, _, by (first | lia | omega), by show m + 1 < List.length (List.set _ _ _); rw [List.length_set]; exact lt, ⟨c, d1⟩, rfl, q2⟩)))
    have lv := len_list (q.W.lvs q.bk)
    rw [List.length_map, List.length_range] at lv
    rcases Nat.lt_or_ge (m + 1) b'.ns.length with z | z
    · exact .ifF (.cmp (.var rfl) (.bi (.one (.attr (.var rfl) nd rfl)) lv) (c_eq' (by (first | lia | omega)))) (turn h' w' b' q z)
    · have ez : m + 1 = b'.ns.length := by (first | lia | omega)
      have q2 := q.grow ez m10
      exact .ifT (.cmp (.var rfl) (.bi (.one (.attr (.var rfl) nd rfl)) lv) (c_eq (by (first | lia | omega)))) (.expr (.lmeth rfl (.attr (.var rfl) nd rfl) (q.W.lvs q.bk) (.one (.list .nil (le9 rfl))) ((q.W.app _).lvs q.bk) (appL (by rw [List.length_map, List.length_range]; exact Nat.lt_of_le_of_lt q.tall (by decide)))) (turn _ _ _ q2 (by show _ < (b'.ns ++ [[]]).length; rw [List.length_append, ← ez]; exact Nat.lt_succ_self _)))
  · refine no (.inr ⟨h', .cmp cd .int (c_eq' (by rw [od]; decide)), .ret (.var rfl) ⟨m + 1, h', w', rfl, q.W, ?_, q.fr, ⟨b', q.bk, q.rows, q.lg⟩, T', q.eT, by have := q.len; have := q.tall; (first | lia | omega)⟩⟩)
    have rl : b'.rows.length = b.rows.length + 1 := by rw [q.rows, List.length_append]; rfl
    refine G.step q.fr eT q.bk q.lg q.eT q.pre q.uni ⟨⟨fun {k m'} a => ?_, q.lv.den⟩, ?_, Nat.lt_of_le_of_lt (Nat.zero_le _) mn, q.tall, by (first | lia | omega), fun x hx => ?_⟩
    · rw [rl, q.lv.len a]
      rcases Nat.lt_or_ge k (m + 1) with z | z
      · rw [if_pos z]
      · rw [if_neg (by (first | lia | omega))]; exact odd_stay dv (ll ▸ od) z
    · rw [rl]
      refine Nat.lt_of_le_of_ne q.top fun z => ?_
      obtain ⟨d, hd⟩ : ∃ d, b'.ns.length = m + 1 + d := ⟨b'.ns.length - (m + 1), by (first | lia | omega)⟩
      rw [ll, z, hd, Nat.add_assoc, Nat.pow_add, Nat.mul_div_cancel_left _ (Nat.pow_pos (by decide)), Nat.add_comm 1 d, Nat.pow_succ] at od
      (first | lia | omega)
    · rw [q.rows] at hx
      rcases List.mem_append.mp hx with hx | hx
      · exact B.good x hx
      · cases List.mem_singleton.mp hx; exact hr
end
end Mine
end

section
/-! a row is cut; what a book tells -/
namespace Mine
theorem X.forE {P : Pg} {cl : CallT} {g : Gm} {h h' : Hp} {e : E} {R : RS → Prop} {ss bd : List S} {x y : Nat} {src : V} (I : Nat → Gm → Hp → Prop) (N : Nat) (hN : N < LF) (q : Ev P cl g h e src h') (i : I 0 g h')
    (step : ∀ k g h, I k g h → (nthL src h k = some none ∧ X P cl ss g h R) ∨ (∃ v, nthL src h k = some (some v) ∧ k < N ∧ X P cl bd ((g.set x (some (.int k))).set y (some v)) h (orI (I (k + 1)) R))) : X P cl (.forE x y e bd :: ss) g h R := by
  unfold X Ev at *
  rw [exs_cons, ex_forE, q]
  suffices ∀ n k g h, N - k < n → k ≤ N → I k g h → R (match forEL (fun g h => exs P cl bd g h) x y src n k g h with | .nx g h => exs P cl ss g h | o => o) from this LF 0 g h' hN (Nat.zero_le _) i
  intro n
  induction n with
  | zero => intro k g h hk; exact absurd hk (Nat.not_lt_zero _)
  | succ n ih =>
    intro k g h hk hk2 i
    rw [forEL]
    rcases step k g h i with ⟨a, b⟩ | ⟨v, a, b, d⟩
    · rw [a]; exact b
    · rw [a]; dsimp only
      revert d
      cases exs P cl bd ((g.set x (some (.int k))).set y (some v)) h with
      | nx g2 h2 => exact fun i' => ih (k + 1) g2 h2 (by (first | lia | omega)) b i'
      | ret => exact id
      | bad => exact False.elim
section
variable {P : Pg} {h : Hp} {n i j k : Nat} {T : List V} {w : Wd} {b : Bkd} {r : Row} {cl : CallT} {g : Gm} {R : RS → Prop} {ss bd : List S}
theorem rng1 {n : Int} (q : n.natAbs < 1000000000000) : bfn "range" [.int n] h = .ok (.rng 0 n 1) h := show ite _ _ _ = _ from if_pos q
theorem X.range {e : E} {x : Nat} {a : Int} (I : Nat → Gm → Hp → Prop) (N : Nat) (ha : a = (N : Int)) (hN : N < LF) (q : Ev P cl g h e (.int a) h') (i : I 0 g h')
    (step : ∀ k g h, I k g h → k < N → X P cl bd (g.set x (some (.int (k : Nat)))) h (orI (I (k + 1)) R)) (fin : ∀ g h, I N g h → X P cl ss g h R) : X P cl (.forr [x] (.bi "range" [e]) bd :: ss) g h R := by
  subst ha
  refine .forr (fun k g h => k ≤ N ∧ I k g h) N hN (src := .rng 0 N 1) (.bi (.one q) (rng1 (by have : LF = 100000 := rfl; (first | lia | omega)))) ⟨Nat.zero_le _, i⟩ fun k g h z => ?_
  have nt : nth (.rng 0 N 1) h k = some (if (0 : Int) + k < N then some (.int (0 + k)) else none) := rfl
  rcases Nat.lt_or_ge k N with y | y
  · refine .inr ⟨.int (k : Nat), _, by rw [nt, if_pos (by (first | lia | omega)), Int.zero_add], y, rfl, (step k g h z.2 y).mono fun q s => ?_⟩
    cases q with
    | nx => exact ⟨y, s⟩
    | _ => exact s
  · obtain rfl : k = N := Nat.le_antisymm z.1 y
    exact .inl ⟨by rw [nt, if_neg (by (first | lia | omega))], fin g h z.2⟩
theorem ref_len {r : Nat} {l : List V} {m : Nat} (e : h[r]? = some (.list l)) (q : l.length = m) : bfn "len" [.ref r] h = .ok (.int (m : Nat)) h := by subst q; exact len_list e
theorem Rp.llin (W : Wh h w) (e : w.bk j = some b) : bfn "len" [.ref (w.ad (.l j))] h = .ok (.int (b.rows.length : Nat)) h := ref_len (W.lin e) (List.length_map _)
theorem room (p : HasB P) (W : Wh h w) (e : w.bk j = some b) (hk : k < 1000) : run P (n + 1) ("Book", "room") [.ref (w.ad (.b j)), .int (k : Nat)] h = .ok (.int (b.rows.length / 2 ^ k : Nat)) h :=
  go (Q := (· = _)) p.room rfl (.asg (.bi (.one (.attr (.var rfl) (W.bok e) rfl)) (W.llin e))
    (.range (fun m g h' => h' = h ∧ ∃ t, g = [some (.ref (w.ad (.b j))), some (.int (k : Nat)), some (.int (b.rows.length / 2 ^ m : Nat)), t]) k rfl (Nat.lt_trans hk (by decide)) (.var rfl) ⟨rfl, none, by rw [Nat.pow_zero, Nat.div_one]; rfl⟩
      (fun m g h' z _ => by refine el_px z fun tq0 t tqz => ?_; try clear z; subst tq0; subst tqz; exact .asg (.two (.var rfl) .int b_half) (.nil ⟨rfl, _, by rw [div_next]; rfl⟩))
      (fun g h' z => by refine el_px z fun tq0 t tqz => ?_; try clear z; subst tq0; subst tqz; exact .ret (.var rfl) rfl)))
theorem dropLast_get {α : Type} {l : List α} {x : α} (e : l.dropLast[i]? = some x) : l[i]? = some x ∧ i < l.length - 1 := by
  have := (List.getElem?_eq_some_iff.mp e).1
  rw [List.length_dropLast] at this
  rw [List.getElem?_dropLast, if_pos this] at e
  exact ⟨e, this⟩
theorem popL {a : Nat} {l : List V} {x : V} (q : l.getLast? = some x) : objMeth "pop" a (.list l) [] h = .ok x (h.set a (.list l.dropLast)) := by
  show (match l.getLast? with | some v => R.ok v (h.set a (.list l.dropLast)) | .none => .bad) = _; rw [q]
theorem last_some {α : Type} {l : List α} (q : 0 < l.length) : ∃ x, l.getLast? = some x := ⟨l.getLast (List.ne_nil_of_length_pos q), List.getLast?_eq_some_getLast _⟩

theorem mapO_all {α β γ : Type} {f : α → Option β} {s : γ → α} {g : γ → β} : ∀ {l : List γ}, (∀ x ∈ l, f (s x) = some (g x)) → mapO f (l.map s) = some (l.map g)
  | [], _ => rfl
  | x :: r, h => by
    show (match f (s x), mapO f (r.map s) with | some b, some s => some (b :: s) | _, _ => none) = _
    rw [h x (List.mem_cons_self ..), mapO_all fun y q => h y (List.mem_cons_of_mem _ q)]; rfl
theorem data_list {r m : Nat} {l : List V} {d : List D} (e : h[r]? = some (.list l)) (q : mapO (data m h) l = some d) : data (m + 1) h (.ref r) = some (.list d) := by
  show (match h[r]? with | some (.list l) => (mapO (data m h) l).map D.list | _ => none) = _; rw [e]; dsimp only; rw [q]; rfl
theorem data_rows {r m : Nat} {rows : List Row} (e : h[r]? = some (.list (rows.map .str))) : data (m + 2) h (.ref r) = some (.list (rows.map .str)) := data_list e (mapO_all fun _ _ => rfl)
theorem eqvs_rows : ∀ {a b : List Row}, D.eqvs (a.map .str) (b.map .str) = decide (a = b)
  | [], [] => rfl
  | [], _ :: _ => (decide_eq_false nofun).symm
  | _ :: _, [] => (decide_eq_false nofun).symm
  | x :: a, y :: b => by
    show (x == y && D.eqvs (a.map .str) (b.map .str)) = _
    rw [eqvs_rows]
    rcases Classical.em (x = y) with z | z
    · subst z; rw [beq_self_eq_true, Bool.true_and]; exact decide_eq_decide.mpr ⟨fun q => by rw [q], fun q => (List.cons.inj q).2⟩
    · rw [beq_eq_false_iff_ne.mpr z, decide_eq_false fun q => z (List.cons.inj q).1]; rfl
theorem veq_lists {i j : Nat} {l l' : List V} {x y : D} (a : h[i]? = some (.list l)) (b : h[j]? = some (.list l')) (da : data deep h (.ref i) = some x) (db : data deep h (.ref j) = some y) : veq h (.ref i) (.ref j) = some (D.eqv x y) := by
  show (match h[i]?, h[j]? with | some (.inst _ _), some (.inst _ _) => _ | _, _ => (match data deep h (.ref i), data deep h (.ref j) with | some x, some y => some (D.eqv x y) | _, _ => none)) = _
  rw [a, b]; dsimp only; rw [da, db]
theorem veq_rows {i j : Nat} {rows rows' : List Row} (a : h[i]? = some (.list (rows.map .str))) (b : h[j]? = some (.list (rows'.map .str))) : veq h (.ref i) (.ref j) = some (decide (rows = rows')) :=
  (veq_lists a b (data_rows (m := 6) a) (data_rows (m := 6) b)).trans (congrArg some eqvs_rows)
structure Cutting (w : Wd) (j : Nat) (b : Bkd) (T : List V) (m : Nat) (h' : Hp) (w' : Wd) (b' : Bkd) : Prop where
  W : Wh h' w'
  fr : Frm w b.lg j w'
  ad : w'.ad = w.ad
  bk : w'.bk j = some b'
  eT : w'.T b.lg = some T
  lg : b'.lg = b.lg
  rows : b'.rows = b.rows.dropLast
  nl : b'.ns.length = b.ns.length
  lv : Lvd T b' (fun k => if k < m then (b.rows.length - 1) / 2 ^ k else b.rows.length / 2 ^ k) (fun k i => i < (b.rows.length - 1) / 2 ^ k)
theorem div_pred {R k : Nat} (q : ¬ R / 2 ^ k > (R - 1) / 2 ^ k) : R / 2 ^ k = (R - 1) / 2 ^ k := Nat.le_antisymm (Nat.not_lt.mp q) (Nat.div_le_div_right (Nat.sub_le _ _))
theorem div_pred1 {R k : Nat} (q : R / 2 ^ k > (R - 1) / 2 ^ k) : R / 2 ^ k - 1 = (R - 1) / 2 ^ k := by
  have : R / 2 ^ k ≤ (R - 1) / 2 ^ k + 1 := by
    rw [← Nat.add_div_right _ (Nat.pow_pos (n := k) (show 0 < 2 by decide))]
    exact Nat.div_le_div_right (by have := Nat.pow_pos (n := k) (show 0 < 2 by decide); (first | lia | omega))
  generalize R / 2 ^ k = A at *; generalize (R - 1) / 2 ^ k = B at *; (first | lia | omega)

theorem book_cut (p : HasB P) (W : Wh h w) (G : Good w) (e : w.bk j = some b) (eT : w.T b.lg = some T) (hn : 0 < b.rows.length) :
    ∃ m h' w', run P (n + 5) ("Book", "cut") [.ref (w.ad (.b j))] h = .ok (.int (m : Nat)) h' ∧ Done w j b T b.rows.dropLast h' w' := by
  refine el_xp (G.bks e) fun T0 eT0 B => ?_
  cases eT.symm.trans eT0
  have W1 : Wh (h ++ [.list []]) w := W.app [.list []]
  have W2 := W1.setL e b.rows.dropLast
  refine el_x (last_some (l := b.rows.map V.str) (by rw [List.length_map]; exact hn)) fun x hx => ?_
  have pl : objMeth "pop" (w.ad (.l j)) (.list (b.rows.map .str)) [] (h ++ [.list []]) = .ok x (List.set (h ++ [.list []]) (w.ad (.l j)) (.list (b.rows.dropLast.map .str))) := by
    rw [List.map_dropLast]; exact popL hx
  have ne : cmpop .eq (.ref (w.ad (.l j))) (.ref h.length) (h ++ [.list []]) = .ok (.bool false) (h ++ [.list []]) := by
    show okO (veq _ _ _) _ = _
    rw [veq_rows (rows' := []) (W1.lin e) (gn h _), decide_eq_false fun z => by rw [z] at hn; exact absurd hn (Nat.lt_irrefl 0)]; rfl
  have p0 : Cutting w j b T 0 (List.set (h ++ [.list []]) (w.ad (.l j)) (.list (b.rows.dropLast.map .str))) (w.setB j { b with rows := b.rows.dropLast }) { b with rows := b.rows.dropLast } :=
    ⟨W2, (Frm.refl ..).setB _, rfl, upd_self, eT, rfl, rfl, rfl, fun a => (B.len a).trans (if_neg (Nat.not_lt_zero _)).symm, fun {k m x y} a c q => by
      show Den T k y (blk (_ : List Row) k x)
      rw [blk_ext (rows' := b.rows.dropLast) (rows := b.rows) fun z hz => by rw [List.getElem?_dropLast, if_pos (Nat.lt_of_not_le fun u => Nat.not_lt.mpr (Nat.div_le_div_right (c := 2 ^ k) u) (hz ▸ q))]]
      exact B.den a c trivial⟩
  have tall := B.tall
  refine go (Q := fun q => ∃ m h' w', q = .ok (.int (m : Nat)) h' ∧ Done w j b T b.rows.dropLast h' w') p.cut rfl (.ifF (.cmp (.attr (.var rfl) (W.bok e) rfl) (.list .nil (le9 rfl)) ne)
    (.expr (.lmeth rfl (.attr (.var rfl) (W1.bok e) rfl) (W1.lin e) .nil (W1.lin e) pl)
    (.asg .int (.forE (fun m g h' => ∃ c w' b' t3 t4, m ≤ b.ns.length ∧ g = [some (.ref (w.ad (.b j))), some (.int (c : Nat)), t3, t4] ∧ Cutting w j b T m h' w' b')
      b.ns.length (Nat.lt_of_le_of_lt tall (by decide)) (.attr (.var rfl) (W2.bok upd_self) rfl) ⟨0, _, _, none, none, Nat.zero_le _, rfl, p0⟩ ?_))))
  rintro m g h' ⟨c, w', b', t3, t4, mn, rfl, q⟩
  have nt : nthL (.ref (w.ad (.v j))) h' m = some (((List.range b'.ns.length).map fun k => V.ref (w'.ad (.s j k)))[m]?) := by
    have := q.W.lvs q.bk
    rw [q.ad] at this
    show (match h'[w.ad (.v j)]? with | some (.list l) => some l[m]? | _ => none) = _; rw [this, q.ad]
  rcases Nat.lt_or_ge m b.ns.length with lt | ge
  · refine .inr ⟨.ref (w'.ad (.s j m)), nt.trans (congrArg some (rng_at (by rw [q.nl]; exact lt))), lt, ?_⟩
    refine el_x (ns_some (b := b') (k := m) (by rw [q.nl]; exact lt)) fun l hl => ?_
    have ll : l.length = b.rows.length / 2 ^ m := (q.lv.len hl).trans (if_neg (Nat.lt_irrefl _))
    have lm := q.W.lvl q.bk hl
    have rm := room (n := n + 3) p q.W q.bk (k := m) (by (first | lia | omega))
    have nd := q.W.bok q.bk
    have rl : b'.rows.length = b.rows.length - 1 := by rw [q.rows, List.length_dropLast]
    rw [q.ad, rl] at rm
    rw [q.ad] at nd
    have ln := ref_len lm (m := b.rows.length / 2 ^ m) (by rw [List.length_map]; exact ll)
    rcases Classical.em (b.rows.length / 2 ^ m > (b.rows.length - 1) / 2 ^ m) with z | z
    · refine el_x (last_some (l := l.map iv) (by rw [List.length_map, ll]; exact Nat.lt_of_le_of_lt (Nat.zero_le _) z)) fun y hy => ?_
      refine .ifT (.cmp (.bi (.one (.var rfl)) ln) (.meth (.var rfl) nd p.room rfl (.one (.var rfl)) rm) (c_gt (Int.ofNat_lt.mpr z))) (.expr (.lmeth rfl (.var rfl) lm .nil lm (popL hy)) (.asg (.two (.var rfl) .int rfl) (.nil ⟨c + 1, w'.setB j { b' with ns := b'.ns.set m l.dropLast }, { b' with ns := b'.ns.set m l.dropLast }, _, _, lt, rfl, ?_⟩)))
      rw [← List.map_dropLast]
      refine ⟨q.W.setV q.bk hl _, q.fr.setB _, q.ad, upd_self, q.eT, q.lg, q.rows, List.length_set.trans q.nl, ?_⟩
      refine q.lv.upd (rows := b'.rows) (k := m) (by rw [List.length_dropLast, ll, if_pos (Nat.lt_succ_self m)]; exact div_pred1 z) (fun {x y} a d => q.lv.den hl (dropLast_get a).1 d) fun k' hk => ⟨?_, fun x _ o => ⟨o, rfl⟩⟩
      rcases Nat.lt_or_ge k' m with u | u
      · rw [if_pos u, if_pos (Nat.lt_succ_of_lt u)]
      · rw [if_neg (Nat.not_lt.mpr u), if_neg (by (first | lia | omega))]
    · refine .ifF (.cmp (.bi (.one (.var rfl)) ln) (.meth (.var rfl) nd p.room rfl (.one (.var rfl)) rm) (c_gt' fun y => z (Int.ofNat_lt.mp y))) (.nil ⟨c, w', b', _, _, lt, rfl, q.W, q.fr, q.ad, q.bk, q.eT, q.lg, q.rows, q.nl, fun {k l'} a => (q.lv.len a).trans ?_, q.lv.den⟩)
      rcases Nat.lt_or_ge k m with u | u
      · rw [if_pos u, if_pos (Nat.lt_succ_of_lt u)]
      · rcases Nat.lt_or_ge m k with v | v
        · rw [if_neg (Nat.not_lt.mpr u), if_neg (by (first | lia | omega))]
        · obtain rfl := Nat.le_antisymm u v
          rw [if_neg (Nat.lt_irrefl _), if_pos (Nat.lt_succ_self _)]; exact div_pred z
  · obtain rfl := Nat.le_antisymm mn ge
    refine .inl ⟨nt.trans (congrArg some (List.getElem?_eq_none (by rw [List.length_map, List.length_range, q.nl]; exact Nat.le_refl _))), .ret (.var rfl) ⟨c, h', w', rfl, q.W, ?_, q.fr, ⟨b', q.bk, q.rows, q.lg⟩, T, q.eT, Nat.le_add_right _ _⟩⟩
    have rl : b'.rows.length = b.rows.length - 1 := by rw [q.rows, List.length_dropLast]
    have ln : ∀ {k m}, b'.ns[k]? = some m → m.length = b'.rows.length / 2 ^ k := fun {k m} a => (q.lv.len a).trans (by rw [if_pos (q.nl ▸ lt_ns a), rl])
    exact G.step q.fr eT q.bk q.lg q.eT (List.prefix_refl _) (G.uni eT) ⟨⟨ln, fun {k m x y} a c _ => q.lv.den a c (by rw [← rl, ← ln a]; exact (List.getElem?_eq_some_iff.mp c).1)⟩, by rw [rl, q.nl]; exact Nat.lt_of_le_of_lt (Nat.sub_le _ _) B.top, by rw [q.nl]; exact B.pos, by rw [q.nl]; exact tall, by have := B.few; (first | lia | omega), fun x hx => B.good x ((List.dropLast_prefix b.rows).subset (q.rows ▸ hx))⟩
end
end Mine
end

section
/-! ledgers and books are made -/
namespace Mine
open Classical in
noncomputable def upR {α : Type} (f : Ro → α) (r : Ro) (x : α) : Ro → α := fun s => if s = r then x else f s
theorem upR_self {α : Type} {f : Ro → α} {r : Ro} {x : α} : upR f r x r = x := if_pos rfl
theorem upR_ne {α : Type} {f : Ro → α} {r s : Ro} {x : α} (n : s ≠ r) : upR f r x s = f s := if_neg n
section
variable {P : Pg} {h : Hp} {n i j k m lg : Nat} {T : List V} {w : Wd} {b : Bkd} {r : Row} {cl : CallT} {g : Gm} {R : RS → Prop} {ss bd : List S}
theorem Rp.newU {A : Ro → Nat} {C : Ro → Option Ob} {r : Ro} {o : Ob} {p : Nat} (x : Rp h A C) (e : h[p]? = some o) (q : ∀ s c, C s = some c → A s ≠ p) : Rp h (upR A r p) (upR C r (some o)) :=
  x.new e q upR_self (fun _ => upR_ne) upR_self (fun _ => upR_ne)
theorem Rp.as {A : Ro → Nat} {C C' : Ro → Option Ob} (x : Rp h A C) (q : ∀ s, C' s = C s) : Rp h A C' := ⟨fun {s _} z => x.get ((q s).symm.trans z), fun {s t _ _} z y => x.inj ((q s).symm.trans z) ((q t).symm.trans y)⟩
theorem set_mid {o o' : Ob} {x : Hp} : List.set (h ++ o :: x) h.length o' = h ++ o' :: x := by rw [List.set_append_right _ _ (Nat.le_refl _), Nat.sub_self]; rfl
theorem get_mid {o : Ob} {x : Hp} : (h ++ o :: x)[h.length]? = some o := by rw [List.getElem?_append_right (Nat.le_refl _), Nat.sub_self]; rfl
theorem setAt {f C : String} {v : V} {fs : List (String × V)} {x : Hp} (q : fs.length < 100) : setAttr (.ref h.length) f v (h ++ .inst C fs :: x) = .ok .none (h ++ .inst C (setF fs f v) :: x) := by
  show (match (h ++ Ob.inst C fs :: x)[h.length]? with | some (.inst C' fs') => (if fs'.length < 100 then R.ok V.none (List.set (h ++ Ob.inst C fs :: x) h.length (.inst C' (setF fs' f v))) else .bad) | _ => .bad) = _
  rw [get_mid]; dsimp only; rw [if_pos q, set_mid]

theorem led_init (p : HasL P) : run P (n + 1) ("Ledger", "__init__") [.ref h.length] (h ++ [.inst "Ledger" []]) = .ok .none (h ++ .inst "Ledger" [("numbers", .ref (h.length + 1)), ("things", .ref (h.length + 2))] :: [.dict [], .list []]) := by
  have e1 : Ev P (run P n) [some (.ref h.length)] (h ++ [.inst "Ledger" []]) .dict (.ref (h.length + 1)) (h ++ .inst "Ledger" [] :: [.dict []]) := by
    have := Ev.dict (P := P) (cl := run P n) (g := [some (.ref h.length)]) (h := h ++ [.inst "Ledger" []])
    rwa [List.length_append, List.append_assoc] at this
  have e2 : Ev P (run P n) [some (.ref h.length)] (h ++ .inst "Ledger" [("numbers", .ref (h.length + 1))] :: [.dict []]) (.list []) (.ref (h.length + 2)) (h ++ .inst "Ledger" [("numbers", .ref (h.length + 1))] :: [.dict [], .list []]) := by
    have := Ev.list (P := P) (cl := run P n) (g := [some (.ref h.length)]) (h := h ++ .inst "Ledger" [("numbers", .ref (h.length + 1))] :: [.dict []]) .nil (le9 (n := 0) rfl)
    rwa [List.length_append, List.append_assoc] at this
  exact go (Q := (· = _)) p.init rfl (.asgA e1 (.var rfl) (setAt (show 0 < 100 by decide)) (.asgA e2 (.var rfl) (setAt (show 1 < 100 by decide)) (.nil rfl)))

noncomputable def Wd.newT (w : Wd) (i p : Nat) : Wd := { w with T := upd w.T i (some []), ad := upR (upR (upR w.ad (.a i) p) (.d i) (p + 1)) (.t i) (p + 2) }
theorem Rp.newT (W : Wh h w) (nb : ∀ j, w.bk j = none) : Wh (h ++ .inst "Ledger" [("numbers", .ref (h.length + 1)), ("things", .ref (h.length + 2))] :: [.dict [], .list []]) (w.newT i h.length) := by
  have lt : ∀ {s c}, cont w s = some c → w.ad s < h.length := fun z => Rp.lt W z
  have W3 := (((Rp.app W (.inst "Ledger" [("numbers", .ref (h.length + 1)), ("things", .ref (h.length + 2))] :: [.dict [], .list []])).newU (r := .a i) get_mid fun s c z => Nat.ne_of_lt (lt z)).newU (r := .d i) (p := h.length + 1) (o := .dict []) (by rw [List.getElem?_append_right (Nat.le_add_right _ 1), Nat.add_sub_cancel_left]; rfl) fun s c z => by
    rcases Classical.em (s = .a i) with y | y
    · rw [y, upR_self]; exact Nat.ne_of_lt (Nat.lt_succ_self _)
    · rw [upR_ne y] at z ⊢; have := lt z; (first | lia | omega)).newU (r := .t i) (p := h.length + 2) (o := .list []) (by rw [List.getElem?_append_right (Nat.le_add_right _ _), Nat.add_sub_cancel_left]; rfl) fun s c z => by
    rcases Classical.em (s = .d i) with y | y
    · rw [y, upR_self]; (first | lia | omega)
    · rw [upR_ne y] at z ⊢
      rcases Classical.em (s = .a i) with u | u
      · rw [u, upR_self]; (first | lia | omega)
      · rw [upR_ne u] at z ⊢; have := lt z; (first | lia | omega)
  have ea : (w.newT i h.length).ad (.d i) = h.length + 1 := (upR_ne (s := .d i) (r := .t i) nofun).trans upR_self
  have et : (w.newT i h.length).ad (.t i) = h.length + 2 := upR_self
  refine W3.as fun s => ?_
  have lm : ∀ {β : Type} (f : List V → β) (k : Nat), k ≠ i → ((upd w.T i (some [])) k).map f = (w.T k).map f := fun f k n => congrArg (Option.map f) (upd_ne n)
  cases s with
  | a k =>
    rw [upR_ne (s := .a k) (r := .t i) nofun, upR_ne (s := .a k) (r := .d i) nofun]
    rcases Classical.em (k = i) with z | z
    · subst z; rw [upR_self]; show Option.map _ (upd w.T k (some []) k) = _; rw [upd_self, ← ea, ← et]; rfl
    · rw [upR_ne (s := .a k) (r := .a i) fun y => z (Ro.a.inj y)]
      show Option.map _ (upd w.T i (some []) k) = Option.map _ (w.T k)
      rw [upd_ne z]
      refine congrArg (Option.map · (w.T k)) (funext fun _ => ?_)
      have e1 : (w.newT i h.length).ad (.d k) = w.ad (.d k) := (upR_ne (s := .d k) (r := .t i) nofun).trans ((upR_ne (s := .d k) (r := .d i) fun y => z (Ro.d.inj y)).trans (upR_ne (s := .d k) (r := .a i) nofun))
      have e2 : (w.newT i h.length).ad (.t k) = w.ad (.t k) := (upR_ne (s := .t k) (r := .t i) fun y => z (Ro.t.inj y)).trans ((upR_ne (s := .t k) (r := .d i) nofun).trans (upR_ne (s := .t k) (r := .a i) nofun))
      rw [e1, e2]
  | d k =>
    rw [upR_ne (s := .d k) (r := .t i) nofun]
    rcases Classical.em (k = i) with z | z
    · subst z; rw [upR_self]; exact congrArg (Option.map _) upd_self
    · rw [upR_ne (s := .d k) (r := .d i) fun y => z (Ro.d.inj y), upR_ne (s := .d k) (r := .a i) nofun]; exact lm _ k z
  | t k =>
    rcases Classical.em (k = i) with z | z
    · subst z; rw [upR_self]; exact congrArg (Option.map _) upd_self
    · rw [upR_ne (s := .t k) (r := .t i) fun y => z (Ro.t.inj y), upR_ne (s := .t k) (r := .d i) nofun, upR_ne (s := .t k) (r := .a i) nofun]; exact lm _ k z
  | x k => rw [upR_ne (s := .x k) (r := .t i) nofun, upR_ne (s := .x k) (r := .d i) nofun, upR_ne (s := .x k) (r := .a i) nofun]; rfl
  | b k => rw [upR_ne (s := .b k) (r := .t i) nofun, upR_ne (s := .b k) (r := .d i) nofun, upR_ne (s := .b k) (r := .a i) nofun]; show Option.map _ (w.bk k) = Option.map _ (w.bk k); rw [nb]; rfl
  | l k => rw [upR_ne (s := .l k) (r := .t i) nofun, upR_ne (s := .l k) (r := .d i) nofun, upR_ne (s := .l k) (r := .a i) nofun]; rfl
  | v k => rw [upR_ne (s := .v k) (r := .t i) nofun, upR_ne (s := .v k) (r := .d i) nofun, upR_ne (s := .v k) (r := .a i) nofun]; show Option.map _ (w.bk k) = Option.map _ (w.bk k); rw [nb]; rfl
  | s k m => rw [upR_ne (s := .s k m) (r := .t i) nofun, upR_ne (s := .s k m) (r := .d i) nofun, upR_ne (s := .s k m) (r := .a i) nofun]; rfl

noncomputable def Wd.newX (w : Wd) (m : Nat) (o : Ob) (p : Nat) : Wd := { w with xs := upd w.xs m (some o), ad := upR w.ad (.x m) p }
theorem cont_newX {o : Ob} {p : Nat} (s : Ro) : cont (w.newX m o p) s = upR (cont w) (.x m) (some o) s := by
  cases s with
  | x k =>
    rcases Classical.em (k = m) with z | z
    · subst z; rw [upR_self]; exact upd_self
    · rw [upR_ne (s := .x k) (r := .x m) fun y => z (Ro.x.inj y)]; exact upd_ne z
  | a k => rw [upR_ne (s := .a k) (r := .x m) nofun]; show Option.map _ _ = Option.map _ _; rw [show (w.newX m o p).ad (.d k) = w.ad (.d k) from upR_ne nofun, show (w.newX m o p).ad (.t k) = w.ad (.t k) from upR_ne nofun]; rfl
  | b k =>
    rw [upR_ne (s := .b k) (r := .x m) nofun]; show Option.map _ (w.bk k) = Option.map _ (w.bk k)
    refine congrArg (Option.map · (w.bk k)) (funext fun b => ?_)
    rw [show (w.newX m o p).ad (.a b.lg) = w.ad (.a b.lg) from upR_ne nofun, show (w.newX m o p).ad (.l k) = w.ad (.l k) from upR_ne nofun, show (w.newX m o p).ad (.v k) = w.ad (.v k) from upR_ne nofun]
  | v k =>
    rw [upR_ne (s := .v k) (r := .x m) nofun]; show Option.map _ (w.bk k) = Option.map _ (w.bk k)
    refine congrArg (Option.map · (w.bk k)) (funext fun b => congrArg Ob.list (congrArg (List.map · _) (funext fun j => congrArg V.ref (upR_ne nofun))))
  | d k => rw [upR_ne (s := .d k) (r := .x m) nofun]; rfl
  | t k => rw [upR_ne (s := .t k) (r := .x m) nofun]; rfl
  | l k => rw [upR_ne (s := .l k) (r := .x m) nofun]; rfl
  | s k j => rw [upR_ne (s := .s k j) (r := .x m) nofun]; rfl
noncomputable def Fr (w : Wd) (p : Nat) : Prop := ∀ s c, cont w s = some c → w.ad s ≠ p
theorem Rp.fr (W : Wh h w) {p : Nat} (l : h.length ≤ p) : Fr w p := fun _ _ z => Nat.ne_of_lt (Nat.lt_of_lt_of_le (Rp.lt W z) l)
theorem Rp.regN (W : Wh h w) {o : Ob} {p : Nat} (e : h[p]? = some o) (q : Fr w p) : Wh h (w.newX m o p) := (Rp.newU (r := .x m) W e q).as cont_newX
theorem Rp.newX (W : Wh h w) (o : Ob) : Wh (h ++ [o]) (w.newX m o h.length) := Rp.regN (W.app [o]) (gn h o) (W.fr (Nat.le_refl _))

noncomputable def Wd.newB (w : Wd) (j lg p q : Nat) : Wd := { w with bk := upd w.bk j (some ⟨lg, [], [[]]⟩), ad := upR (upR (upR (upR w.ad (.b j) p) (.l j) q) (.s j 0) (q + 1)) (.v j) (q + 2) }
theorem Rp.newN {A : Ro → Nat} {C : Ro → Option Ob} {r : Ro} {o : Ob} {p N : Nat} (x : Rp h A C ∧ ∀ s c, C s = some c → A s < N) (e : h[p]? = some o) (q : N ≤ p) : Rp h (upR A r p) (upR C r (some o)) ∧ ∀ s c, upR C r (some o) s = some c → upR A r p s < p + 1 :=
  ⟨x.1.newU e fun s c z => Nat.ne_of_lt (Nat.lt_of_lt_of_le (x.2 s c z) q), fun s c z => (Classical.em (s = r)).elim (fun y => by rw [y, upR_self]; exact Nat.lt_succ_self _) fun y => by rw [upR_ne y] at z ⊢; exact Nat.lt_succ_of_lt (Nat.lt_of_lt_of_le (x.2 s c z) q)⟩
noncomputable def bookIn (a p : Nat) : Ob := .inst "Book" [("ledger", .ref a), ("lines", .ref p), ("levels", .ref (p + 2))]
theorem newB_ad {p q : Nat} {s : Ro} (a : s ≠ .b j) (b : s ≠ .l j) (c : s ≠ .s j 0) (d : s ≠ .v j) : (w.newB j lg p q).ad s = w.ad s := (upR_ne d).trans ((upR_ne c).trans ((upR_ne b).trans (upR_ne a)))
theorem newB_b {p q : Nat} : (w.newB j lg p q).ad (.b j) = p := (upR_ne (s := .b j) (r := .v j) nofun).trans ((upR_ne (s := .b j) (r := .s j 0) nofun).trans ((upR_ne (s := .b j) (r := .l j) nofun).trans upR_self))
theorem Rp.newB (W : Wh h w) (nb : w.bk j = none) (x : Hp) : Wh ((h ++ bookIn (w.ad (.a lg)) (h.length + (x.length + 1)) :: x) ++ [.list [], .list [], .list [.ref (h.length + (x.length + 1) + 1)]]) (w.newB j lg h.length (h.length + (x.length + 1))) := by
  have ln : (h ++ bookIn (w.ad (.a lg)) (h.length + (x.length + 1)) :: x).length = h.length + (x.length + 1) := List.length_append
  have at_ : ∀ (i : Nat) (o : Ob), ([.list [], .list [], .list [.ref (h.length + (x.length + 1) + 1)]] : Hp)[i]? = some o → ((h ++ bookIn (w.ad (.a lg)) (h.length + (x.length + 1)) :: x) ++ [.list [], .list [], .list [.ref (h.length + (x.length + 1) + 1)]])[h.length + (x.length + 1) + i]? = some o := fun i o z => by
    rw [List.getElem?_append_right (by rw [ln]; exact Nat.le_add_right _ _), ln, Nat.add_sub_cancel_left]; exact z
  have W0 : Rp ((h ++ bookIn (w.ad (.a lg)) (h.length + (x.length + 1)) :: x) ++ [.list [], .list [], .list [.ref (h.length + (x.length + 1) + 1)]]) w.ad (cont w) ∧ ∀ s c, cont w s = some c → w.ad s < h.length := ⟨(Rp.app W _).app _, fun s c z => Rp.lt W z⟩
  have W4 := (Rp.newN (r := .v j) (Rp.newN (r := .s j 0) (Rp.newN (r := .l j) (Rp.newN (r := .b j) W0 (ga _ get_mid) (Nat.le_refl _)) (at_ 0 _ rfl) (by (first | lia | omega))) (at_ 1 _ rfl) (Nat.le_refl _)) (at_ 2 _ rfl) (Nat.le_refl _)).1
  have el : (w.newB j lg h.length (h.length + (x.length + 1))).ad (.l j) = h.length + (x.length + 1) := (upR_ne (s := .l j) (r := .v j) nofun).trans ((upR_ne (s := .l j) (r := .s j 0) nofun).trans upR_self)
  have ev : (w.newB j lg h.length (h.length + (x.length + 1))).ad (.v j) = h.length + (x.length + 1) + 2 := upR_self
  have es : (w.newB j lg h.length (h.length + (x.length + 1))).ad (.s j 0) = h.length + (x.length + 1) + 1 := (upR_ne (s := .s j 0) (r := .v j) nofun).trans upR_self
  have old : ∀ s, s ≠ .b j → s ≠ .l j → s ≠ .s j 0 → s ≠ .v j → (w.newB j lg h.length (h.length + (x.length + 1))).ad s = w.ad s := fun s a b c d => newB_ad a b c d
  refine W4.as fun s => ?_
  rcases Classical.em (s = .v j) with a | a
  · subst a; rw [upR_self]; show Option.map _ (upd w.bk j _ j) = _; rw [upd_self]
    show some (Ob.list [V.ref ((w.newB j lg h.length (h.length + (x.length + 1))).ad (.s j 0))]) = _; rw [es]
  rw [upR_ne a]
  rcases Classical.em (s = .s j 0) with b | b
  · subst b; rw [upR_self]; show Option.bind (upd w.bk j _ j) _ = _; rw [upd_self]; rfl
  rw [upR_ne b]
  rcases Classical.em (s = .l j) with c | c
  · subst c; rw [upR_self]; show Option.map _ (upd w.bk j _ j) = _; rw [upd_self]; rfl
  rw [upR_ne c]
  rcases Classical.em (s = .b j) with d | d
  · subst d; rw [upR_self]; show Option.map _ (upd w.bk j _ j) = _; rw [upd_self]
    show some (Ob.inst "Book" [("ledger", V.ref ((w.newB j lg h.length (h.length + (x.length + 1))).ad (.a lg))), ("lines", V.ref ((w.newB j lg h.length (h.length + (x.length + 1))).ad (.l j))), ("levels", V.ref ((w.newB j lg h.length (h.length + (x.length + 1))).ad (.v j)))]) = _
    rw [el, ev, old (.a lg) nofun nofun nofun nofun]; rfl
  rw [upR_ne d]
  cases s with
  | x k => rfl
  | a k => show Option.map _ _ = Option.map _ _; rw [old (.d k) nofun nofun nofun nofun, old (.t k) nofun nofun nofun nofun]; rfl
  | d k => rfl
  | t k => rfl
  | b k =>
    have nk : k ≠ j := fun z => d (congrArg Ro.b z)
    show Option.map _ (upd w.bk j _ k) = Option.map _ (w.bk k); rw [upd_ne nk]
    refine congrArg (Option.map · (w.bk k)) (funext fun b => ?_)
    rw [old (.a b.lg) nofun nofun nofun nofun, old (.l k) nofun (fun z => nk (Ro.l.inj z)) nofun nofun, old (.v k) nofun nofun nofun fun z => nk (Ro.v.inj z)]
  | l k => exact congrArg (Option.map _) (upd_ne fun z => c (congrArg Ro.l z))
  | v k =>
    have nk : k ≠ j := fun z => a (congrArg Ro.v z)
    show Option.map _ (upd w.bk j _ k) = Option.map _ (w.bk k); rw [upd_ne nk]
    refine congrArg (Option.map · (w.bk k)) (funext fun b => congrArg Ob.list (congrArg (List.map · _) (funext fun i => congrArg V.ref (old (.s k i) nofun nofun (fun z => nk (Ro.s.inj z).1) nofun))))
  | s k m =>
    show Option.bind (upd w.bk j _ k) _ = Option.bind (w.bk k) _
    rcases Classical.em (k = j) with z | z
    · subst z; rw [upd_self, nb]
      show Option.map _ ([[]] : List (List Nat))[m]? = none
      match m, b with
      | 0, b => exact absurd rfl b
      | m + 1, _ => rfl
    · rw [upd_ne z]

structure Made (w : Wd) (j lg : Nat) (T : List V) (rows : List Row) (h' : Hp) (w' : Wd) : Prop where
  W : Wh h' w'
  G : Good w'
  ad : ∀ r, r ≠ .b j → r ≠ .l j → r ≠ .v j → (∀ k, r ≠ .s j k) → w'.ad r = w.ad r
  tt : ∀ i, i ≠ lg → w'.T i = w.T i
  oth : ∀ k, k ≠ j → w'.bk k = w.bk k
  xs : w'.xs = w.xs
  bk : ∃ b', w'.bk j = some b' ∧ b'.rows = rows ∧ b'.lg = lg
  few : ∃ T', w'.T lg = some T' ∧ T'.length ≤ T.length + 20 * rows.length

theorem nth_rows {a : Nat} {l : List V} (e : h[a]? = some (.list l)) : nth (.ref a) h k = some l[k]? := by
  show (match h[a]? with | some (.list l) => some l[k]? | _ => none) = _; rw [e]
theorem take_succ_at {α : Type} {l : List α} {x : α} (e : l[k]? = some x) : l.take (k + 1) = l.take k ++ [x] := by
  rw [List.take_add_one, e]; rfl

inductive InitI (g0 : Gm) (w : Wd) (j lg : Nat) (T : List V) (rows : List Row) (k : Nat) (g : Gm) (h' : Hp) : Prop
  | mk {w' : Wd} {b' : Bkd} {T' : List V} {t : Option V} (kl : k ≤ rows.length) (eg : g = g0 ++ [t]) (W : Wh h' w') (G : Good w') (fr : Frm w lg j w') (eb : w'.bk j = some b') (er : b'.rows = rows.take k) (el : b'.lg = lg) (eT : w'.T lg = some T') (few : T'.length ≤ T.length + 20 * k)
theorem book_init (p : HasB P) (W : Wh h w) (G : Good w) (nb : w.bk j = none) (eT : w.T lg = some T) {rows : List Row} (hx : w.xs m = some (.list (rows.map .str))) (hn : rows.length ≤ 1024) (hr : ∀ r ∈ rows, rowOk r) (hT : T.length + 20 * rows.length < 900000) :
    ∃ h' w', run P (n + 6) ("Book", "__init__") [.ref h.length, .ref (w.ad (.a lg)), .ref (w.ad (.x m))] (h ++ [.inst "Book" []]) = .ok .none h' ∧ w'.ad (.b j) = h.length ∧ Made w j lg T rows h' w' := by
  have at_ : ∀ {k}, rows.length ≤ k → (rows.map V.str)[k]? = none := fun q => List.getElem?_eq_none (by rw [List.length_map]; exact q)
  have at2 : ∀ {k} (q : k < rows.length), (rows.map V.str)[k]? = some (.str rows[k]) := fun {k} q => by rw [List.getElem?_map, List.getElem?_eq_getElem q]; rfl
  have lt : rows.length < LF := Nat.lt_of_le_of_lt hn (by decide)
  have first : ∀ {x : Hp}, (h ++ Ob.inst "Book" [] :: x)[w.ad (.x m)]? = some (.list (rows.map .str)) := ga _ (W.oth hx)
  refine go (Q := fun q => ∃ h' w', q = .ok .none h' ∧ w'.ad (.b j) = h.length ∧ Made w j lg T rows h' w') (vs := [.ref h.length, .ref (w.ad (.a lg)), .ref (w.ad (.x m))]) (h := h ++ [.inst "Book" []]) p.binit rfl
    (.forr (fun k g h' => k ≤ rows.length ∧ ∃ x t, g = [some (.ref h.length), some (.ref (w.ad (.a lg))), some (.ref (w.ad (.x m))), t] ∧ h' = h ++ .inst "Book" [] :: x) rows.length lt (.var rfl) ⟨Nat.zero_le _, [], none, rfl, rfl⟩ fun k g h' z => Classical.byContradiction fun no => ?_)
  refine el_pxxp z fun kl x t eg eh => ?_; try clear z
  subst eg; subst eh
  rcases Nat.lt_or_ge k rows.length with q | q
  · refine el_x (need_row (n := n + 3) (h := h ++ .inst "Book" [] :: x) p.toHasL (hr _ (List.getElem_mem q))) fun o e1 => ?_
    exact no (.inr ⟨_, _, (nth_rows first).trans (congrArg some (at2 q)), q, rfl, .expr (.call (.one (.var rfl)) e1) (.nil ⟨q, x ++ [o], _, rfl, List.append_assoc _ _ _⟩)⟩)
  refine no (.inl ⟨(nth_rows first).trans (congrArg some (at_ q)), ?_⟩)
  have W1 := Rp.newB (lg := lg) W nb x
  have e3 : ∀ fs, Ev P (run P (n + 5)) [some (.ref h.length), some (.ref (w.ad (.a lg))), some (.ref (w.ad (.x m))), t] (h ++ .inst "Book" fs :: x) (.list []) (.ref (h.length + (x.length + 1))) (h ++ .inst "Book" fs :: (x ++ [.list []])) := fun fs => by
    have := Ev.list (P := P) (cl := run P (n + 5)) (g := [some (.ref h.length), some (.ref (w.ad (.a lg))), some (.ref (w.ad (.x m))), t]) (h := h ++ .inst "Book" fs :: x) .nil (le9 (n := 0) rfl)
    rwa [List.length_append, List.append_assoc] at this
  have e4 : ∀ fs, Ev P (run P (n + 5)) [some (.ref h.length), some (.ref (w.ad (.a lg))), some (.ref (w.ad (.x m))), t] (h ++ .inst "Book" fs :: (x ++ [.list []])) (.list [.list []]) (.ref (h.length + (x.length + 1) + 2)) (h ++ .inst "Book" fs :: (x ++ [.list [], .list [], .list [.ref (h.length + (x.length + 1) + 1)]])) := fun fs => by
    have := Ev.list (P := P) (cl := run P (n + 5)) (g := [some (.ref h.length), some (.ref (w.ad (.a lg))), some (.ref (w.ad (.x m))), t]) (h := h ++ .inst "Book" fs :: (x ++ [.list []])) (.one (.list .nil (le9 (n := 0) rfl))) (le9 (n := 1) rfl)
    have l1 : (h ++ Ob.inst "Book" fs :: (x ++ [Ob.list []])).length = h.length + (x.length + 1) + 1 := by rw [List.length_append, List.length_cons, List.length_append]; rfl
    rw [List.length_append, l1, List.append_assoc, List.append_assoc] at this
    show Ev _ _ _ _ _ _ (h ++ (.inst "Book" fs :: (x ++ ([.list []] ++ ([.list []] ++ [.list [.ref (h.length + (x.length + 1) + 1)]])))))
    rw [← List.append_assoc x]; exact this
  refine .ifF (.cmp (.bi (.one (.var rfl)) (len_list first)) (.glob p.rowsMost) (c_gt' (by rw [List.length_map]; (first | lia | omega)))) (.asgA (.var rfl) (.var rfl) (setAt (show 0 < 100 by decide)) (.asgA (e3 _) (.var rfl) (setAt (show 1 < 100 by decide)) (.asgA (e4 _) (.var rfl) (setAt (show 2 < 100 by decide)) ?_)))
  have hh : h ++ Ob.inst "Book" (setF (setF (setF [] "ledger" (V.ref (w.ad (Ro.a lg)))) "lines" (V.ref (List.length h + (List.length x + 1)))) "levels" (V.ref (List.length h + (List.length x + 1) + 2))) :: (x ++ [.list [], .list [], .list [.ref (h.length + (x.length + 1) + 1)]]) = (h ++ bookIn (w.ad (.a lg)) (h.length + (x.length + 1)) :: x) ++ [.list [], .list [], .list [.ref (h.length + (x.length + 1) + 1)]] := by rw [List.append_assoc]; rfl
  rw [hh]
  have B0 : GoodB T ⟨lg, [], [[]]⟩ := ⟨⟨fun {k l} z => (match k, z with | 0, z => (by cases z; exact (Nat.zero_div _).symm)), fun {k l i y} z u _ => (match k, z with | 0, z => (by cases z; cases u))⟩, show 0 < 2 by decide, show 0 < 1 by decide, show 1 ≤ 11 by decide, show 0 ≤ 1024 by decide, nofun⟩
  have G1 : Good (w.newB j lg h.length (h.length + (x.length + 1))) := ⟨G.uni, fun {k b} z => (Classical.em (k = j)).elim (fun y => by subst y; cases upd_self.symm.trans z; exact in_xp T eT B0) fun y => G.bks ((upd_ne y).symm.trans z)⟩
  refine .forr (InitI [some (.ref h.length), some (.ref (w.ad (.a lg))), some (.ref (w.ad (.x m)))] (w.newB j lg h.length (h.length + (x.length + 1))) j lg T rows) rows.length lt (.var rfl)
    ⟨Nat.zero_le _, rfl, W1, G1, Frm.refl .., upd_self, rfl, rfl, eT, Nat.le_refl _⟩ fun k g h' z => Classical.byContradiction fun no => ?_
  · obtain ⟨kl, eg, W', G', fr, eb, er, el, eT', few⟩ := z
    rename_i w' b' T' t
    subst eg
    have adx : w'.ad (.x m) = w.ad (.x m) := (fr.ad (.x m) (fun _ => nofun)).trans (newB_ad nofun nofun nofun nofun)
    have adb : w'.ad (.b j) = h.length := (fr.ad (.b j) (fun _ => nofun)).trans newB_b
    have ox := W'.oth (n := m) (by rw [fr.xs]; exact hx)
    rw [adx] at ox
    rcases Nat.lt_or_ge k rows.length with q | q
    · have lb : b'.rows.length < 1024 := by rw [er, List.length_take]; (first | lia | omega)
      refine el_xxxp (add (n := n) p W' G' eb (by rw [el]; exact eT') (by (first | lia | omega)) lb (hr _ (List.getElem_mem q))) fun c h2 w2 e5 D => ?_
      refine el_xpp (D.bk) fun b2 g1 g2 g3 => ?_
      refine el_xp (D.few) fun T2 f1 f2 => ?_
      have fr2 := D.fr
      rw [el] at f1 fr2
      have ob := W'.bok eb
      rw [adb] at ob e5
      exact no (.inr ⟨_, _, (nth_rows ox).trans (congrArg some (at2 q)), q, rfl, .expr (.meth (.var rfl) ob p.add rfl (.one (.var rfl)) e5) (.nil ⟨q, rfl, D.W, D.G, fr.trans fr2, g1, by rw [g2, er, take_succ_at (List.getElem?_eq_getElem q)], g3.trans el, f1, by (first | lia | omega)⟩)⟩)
    · obtain rfl := Nat.le_antisymm kl q
      exact no (.inl ⟨(nth_rows ox).trans (congrArg some (at_ (Nat.le_refl _))), .nil ⟨h', w', rfl, adb, W', G', fun r a b c d => (fr.ad r d).trans (newB_ad a b (d 0) c), fr.T, fun k z => (fr.bk k z).trans (upd_ne z), fr.xs, ⟨b', eb, by rw [er, List.take_length], el⟩, T', eT', few⟩⟩)
end
end Mine
end

section
/-! the law's draws: texts, rows -/
namespace Mine
structure HasG (P : Pg) : Prop where
  cellat : P.fn ("", "_law_cell_at") = some f_law_cell_at
  mix : P.fn ("", "_law_mix") = some f_law_mix
  text : P.fn ("", "_law_text") = some f_law_text
  near : P.fn ("", "_law_near") = some f_law_near
  rows : P.fn ("", "_law_rows") = some f_law_rows
noncomputable def mixv (x k : Int) : Int :=
  let m := (x * 48271 + k * 69621 + 11).fmod 1000003
  (m * m + 7 * m + k).fmod 999983
theorem fm (x : Int) {b : Int} (hb : 0 < b) : 0 ≤ x.fmod b ∧ x.fmod b < b := ⟨Int.fmod_nonneg_of_pos _ hb, Int.fmod_lt_of_pos _ hb⟩
theorem mix_lt (x k : Int) : 0 ≤ mixv x k ∧ mixv x k < 999983 := fm _ (by decide)
theorem fd {x : Int} {b : Int} (hx : 0 ≤ x) (hb : 0 < b) : 0 ≤ x.fdiv b ∧ x.fdiv b ≤ x := by
  rw [Int.fdiv_eq_ediv_of_nonneg _ (Int.le_of_lt hb)]
  exact ⟨Int.ediv_nonneg hx (Int.le_of_lt hb), Int.ediv_le_self _ hx⟩
section
variable {P : Pg} {h : Hp} {n : Nat} {cl : CallT} {g : Gm}
theorem small {a : Int} {N : Nat} (q : 0 ≤ a ∧ a < N) (z : N.ble (2 ^ 64) = true) : bitsOf a ≤ mostBits := bits_small (by have := Nat.le_of_ble_eq_true z; (first | lia | omega))
theorem run_mix (G : HasG P) {x k : Int} (hx : bitsOf x ≤ mostBits) (hk : bitsOf k ≤ mostBits) : run P (n + 1) ("", "_law_mix") [.int x, .int k] h = .ok (.int (mixv x k)) h :=
  have b4 := small (N := 1000003) (fm (x * 48271 + k * 69621 + 11) (b := 1000003) (by decide)) rfl
  go (Q := (· = _)) G.mix rfl (.asg (.two (.two (.two (.two (.var rfl) .int (b_mul hx (by decide))) (.two (.var rfl) .int (b_mul hk (by decide))) rfl) .int rfl) .int rfl)
    (.ret (.two (.two (.two (.two (.var rfl) (.var rfl) (b_mul b4 b4)) (.two .int (.var rfl) (b_mul (by decide) b4)) rfl) (.var rfl) rfl) .int rfl) rfl))
theorem itemF {l : List V} {k : Nat} {x : V} (q : l[k]? = some x) : getItem (.fz l) (.int (k : Int)) h = .ok x h := by
  show (match idx (k : Int) l.length with | some j => (match l[j]? with | some v => R.ok v h | .none => .bad) | .none => .bad) = _
  rw [idx_nat (List.getElem?_eq_some_iff.mp q).1]; dsimp only; rw [q]
theorem itemS {l : List Nat} {k x : Nat} (q : l[k]? = some x) : getItem (.str l) (.int (k : Int)) h = .ok (.str [x]) h := by
  show (match idx (k : Int) l.length with | some j => (match l[j]? with | some c => R.ok (V.str [c]) h | .none => .bad) | .none => .bad) = _
  rw [idx_nat (List.getElem?_eq_some_iff.mp q).1]; dsimp only; rw [q]
theorem cell (G : HasG P) {ns : List Int} {k : Nat} : run P (n + 1) ("", "_law_cell_at") [.fz (ns.map .int), .int (k : Nat)] h = .ok (.int (ns.getD k 0)) h := by
  have el : bfn "len" [.fz (ns.map .int)] h = .ok (.int (ns.length : Nat)) h := by show R.ok (V.int (ns.map V.int).length) h = _; rw [List.length_map]
  rcases Nat.lt_or_ge k ns.length with l | l
  · have e2 : (ns.map V.int)[k]? = some (.int (ns.getD k 0)) := by rw [List.getElem?_map, List.getD_eq_getElem?_getD, List.getElem?_eq_getElem l]; rfl
    exact go (Q := (· = _)) G.cellat rfl (.ifT (.cmp (.var rfl) (.bi (.one (.var rfl)) el) (c_lt (Int.ofNat_lt.mpr l))) (.ret (.item (.var rfl) (.var rfl) (itemF e2)) rfl))
  · rw [List.getD_eq_getElem?_getD, List.getElem?_eq_none l]
    exact go (Q := (· = _)) G.cellat rfl (.ifF (.cmp (.var rfl) (.bi (.one (.var rfl)) el) (c_lt' fun z => Nat.not_lt.mpr l (Int.ofNat_lt.mp z))) (.ret .int rfl))
theorem Ev.pick {es : List E} {vs : List V} {e : E} {i : Int} (x : Es P cl g h es vs h) (hl : vs.length ≤ mostLen) (y : Ev P cl g (h ++ [.list vs]) e (.int i) (h ++ [.list vs])) (q : 0 ≤ i ∧ i < vs.length) : ∃ v, v ∈ vs ∧ Ev P cl g h (.sub (.list es) e) v (h ++ [.list vs]) := by
  refine el_x (Int.eq_ofNat_of_zero_le q.1) fun k tqz => ?_; subst tqz
  have hk : k < vs.length := Int.ofNat_lt.mp q.2
  exact in_xp (vs[k]) (List.getElem_mem hk) (.item (.list x hl) y (itemL (gn h _) (List.getElem?_eq_getElem hk)))
theorem digs : ∀ k, k < 40 → (digitsOf k).length ≤ 2 ∧ ((digitsOf k).all fun c => SIGNS.contains c) = true := by decide +kernel
theorem row_dig {k : Nat} (hk : k < 40) : rowOk (digitsOf k) := ⟨Nat.le_trans (digs k hk).1 (by decide), List.all_eq_true.mp (digs k hk).2⟩
theorem row_app {s t : Row} (h1 : rowOk s) (h2 : rowOk t) (hl : s.length + t.length ≤ 40) : rowOk (s ++ t) :=
  ⟨by rw [List.length_append]; exact hl, fun c hc => (List.mem_append.mp hc).elim (h1.2 c) (h2.2 c)⟩
theorem row_nil : rowOk [] := ⟨Nat.zero_le _, nofun⟩
theorem row_one {c : Nat} (h : SIGNS.contains c = true) : rowOk [c] := ⟨show 1 ≤ 40 by decide, fun x hx => by cases List.mem_singleton.mp hx; exact h⟩
theorem row_sub {s t : Row} (h : rowOk s) (hl : t.length ≤ s.length) (hs : ∀ c ∈ t, c ∈ s) : rowOk t := ⟨Nat.le_trans hl h.1, fun c hc => h.2 c (hs c hc)⟩
theorem signs_len : SIGNS.length = 37 := by decide +kernel
theorem signs_at {k : Nat} (hk : k < SIGNS.length) : SIGNS.contains SIGNS[k] = true := List.contains_iff_mem.mpr (List.getElem_mem hk)
theorem sign_at {i : Int} (q : 0 ≤ i ∧ i < 37) : ∃ c, SIGNS.contains c = true ∧ getItem (.str SIGNS) (.int i) h = .ok (.str [c]) h := by
  refine el_x (Int.eq_ofNat_of_zero_le q.1) fun k tqz => ?_; subst tqz
  have hk : k < SIGNS.length := by rw [signs_len]; exact Int.ofNat_lt.mp q.2
  exact in_xp (SIGNS[k]) (signs_at hk) (itemS (List.getElem?_eq_getElem hk))
theorem catS {a b : List Nat} (q : a.length + b.length ≤ 1000) : binop .add (.str a) (.str b) h = .ok (.str (a ++ b)) h := if_pos (Nat.le_trans q (by decide))
theorem strD {i : Int} : bfn "str" [.int i] h = if 0 ≤ i ∧ i < 1000000000 then .ok (.str (digitsOf i.toNat)) h else .bad := rfl
theorem strI {k : Nat} (q : k < 1000) : bfn "str" [.int (k : Nat)] h = .ok (.str (digitsOf k)) h := by
  rw [strD, if_pos ⟨Int.natCast_nonneg k, by (first | lia | omega)⟩, Int.toNat_natCast]

theorem text (G : HasG P) {c : Int} (hc : 0 ≤ c ∧ c < 1000000) : ∃ s x, run P (n + 2) ("", "_law_text") [.int c] h = .ok (.str s) (h ++ x) ∧ rowOk s := by
  have bc := small (N := 1000000) hc rfl
  have m9 := fm c (b := 9) (by decide)
  refine el_x (Int.eq_ofNat_of_zero_le m9.1) fun m0 e0 => ?_
  -- the loop
  have loop : ∀ (m : Nat) (x : Hp), m ≤ 40 → X P (run P (n + 1)) [.asg 3 (.str ""), .forr [4] (.bi "range" [.var 2]) [.asg 3 (.bin .add (.var 3) (.sub (.var 1) (.bin .mod (.bin .fdiv (.call "_law_mix" [.var 0, .var 4]) (.int 7)) (.int 37))))], .ret (.var 3)]
      [some (.int c), some (.str SIGNS), some (.int m), none, none] (h ++ x) (fun q => ∃ s x, q.back = .ok (.str s) (h ++ x) ∧ rowOk s) := fun m x hm =>
    .asg .str (.range (fun k g h' => h' = h ++ x ∧ ∃ s t, g = [some (.int c), some (.str SIGNS), some (.int m), some (.str s), t] ∧ rowOk s ∧ s.length = k) m rfl (Nat.lt_of_le_of_lt hm (by decide)) (.var rfl) ⟨rfl, [], none, rfl, row_nil, rfl⟩
      (fun k g h' z lt => by
        refine el_pxxpp z fun tq0 s t tq3 ok ln => ?_; try clear z; subst tq0; subst tq3
        refine el_xp (sign_at (h := h ++ x) (fm ((mixv c k).fdiv 7) (b := 37) (by decide))) fun y hy ey => ?_
        exact .asg (.two (.var rfl) (.item (.var rfl) (.two (.two (.call (.cons (.var rfl) (.one (.var rfl))) (run_mix G bc (bits_small (by (first | lia | omega))))) .int rfl) .int rfl) ey) (catS (b := [y]) (by rw [List.length_singleton]; (first | lia | omega)))) (.nil ⟨rfl, s ++ [y], _, rfl, row_app ok (row_one hy) (by rw [List.length_singleton]; (first | lia | omega)), by rw [List.length_append, ln]; rfl⟩))
      (fun g h' z => by refine el_pxxpp z fun tq0 s t tq3 ok ln => ?_; try clear z; subst tq0; subst tq3; exact .ret (.var rfl) ⟨s, x, rfl, ok⟩))
  refine go (Q := fun q => ∃ s x, q = .ok (.str s) (h ++ x) ∧ rowOk s) (vs := [.int c]) G.text rfl (.asg .str (.asg (.two (.var rfl) .int rfl) (.if (.cmp (.two (.two (.var rfl) .int rfl) .int rfl) .int c_eqI) (fun _ => ?_) fun _ => .if (.cmp (.two (.two (.var rfl) .int rfl) .int rfl) .int c_eqI) (fun _ => ?_) fun _ => ?_)))
  · refine el_x (Int.eq_ofNat_of_zero_le (fm (c.fdiv 54) (b := 40) (by decide)).1) fun X eX => ?_
    refine el_x (Int.eq_ofNat_of_zero_le (fm (c.fdiv 4320) (b := 40) (by decide)).1) fun Y eY => ?_
    have lX : X < 40 := Int.ofNat_lt.mp (eX ▸ (fm (c.fdiv 54) (b := 40) (by decide)).2)
    have lY : Y < 40 := Int.ofNat_lt.mp (eY ▸ (fm (c.fdiv 4320) (b := 40) (by decide)).2)
    have dX := (digs X lX).1
    have dY := (digs Y lY).1
    refine el_xp (Ev.pick (P := P) (cl := run P (n + 1)) (g := [some (.int c), some (.str SIGNS), some (.int (c.fmod 9)), none, none]) (h := h) (e := .bin .mod (.bin .fdiv (.var 0) (.int 2160)) (.int 2)) (.cons (.str (t := " ")) (.one (.str (t := "")))) (le9 (n := 2) rfl) (.two (.two (.var rfl) .int rfl) .int rfl) (fm (c.fdiv 2160) (b := 2) (by decide))) fun v hv ev => ?_
    have : ∃ s, v = .str s ∧ rowOk s ∧ s.length ≤ 1 := by
      rcases List.mem_cons.mp hv with q | q
      · exact in_xpp _ q (row_one (c := 32) (by decide +kernel)) (by decide)
      · exact in_xpp _ (List.mem_singleton.mp q) row_nil (by decide)
    refine el_xpp this fun s tq1 os ls => ?_; try clear this; subst tq1
    refine .ret (.two (.two (.bi (.one (.two (.two (.var rfl) .int rfl) .int rfl)) (eX ▸ strI (by (first | lia | omega)))) ev (catS (by (first | lia | omega)))) (.bi (.one (.two (.two (.var rfl) .int rfl) .int rfl)) (eY ▸ strI (by (first | lia | omega)))) (catS (by rw [List.length_append]; (first | lia | omega)))) ⟨_, _, rfl, row_app (row_app (row_dig lX) os (by (first | lia | omega))) (row_dig lY) (by rw [List.length_append]; (first | lia | omega))⟩
  · refine el_xp (Ev.pick (P := P) (cl := run P (n + 1)) (g := [some (.int c), some (.str SIGNS), some (.int (c.fmod 9)), none, none]) (h := h) (e := .bin .mod (.bin .fdiv (.var 0) (.int 54)) (.int 4)) (.cons (.int (i := 40)) (.cons (.int (i := 39)) (.cons (.int (i := 0)) (.one (.int (i := 1)))))) (le9 (n := 4) rfl) (.two (.two (.var rfl) .int rfl) .int rfl) (fm (c.fdiv 54) (b := 4) (by decide))) fun v hv ev => ?_
    have : ∃ m : Nat, v = .int m ∧ m ≤ 40 := by
      rcases List.mem_cons.mp hv with q | q
      · exact in_xp 40 q (by decide)
      rcases List.mem_cons.mp q with q | q
      · exact in_xp 39 q (by decide)
      rcases List.mem_cons.mp q with q | q
      · exact in_xp 0 q (by decide)
      · exact in_xp 1 (List.mem_singleton.mp q) (by decide)
    refine el_xp this fun m tq1 hm => ?_; try clear this; subst tq1
    exact .asg ev (loop m _ hm)
  · have := loop m0 [] (by have := m9.2; (first | lia | omega))
    rw [← e0, List.append_nil] at this
    exact this
end
end Mine
end

section
/-! a text near another, rows, a twin -/
namespace Mine
section
variable {P : Pg} {h : Hp} {n : Nat} {cl : CallT} {g : Gm}
theorem clamp_min {a n : Nat} : clamp (a : Int) n = min a n := by unfold clamp; rw [if_neg (Int.not_lt.mpr (Int.natCast_nonneg a))]; (first | lia | omega)
theorem clamp_nat {A m : Nat} (hA : A ≤ m) : clamp (A : Int) m = A := clamp_min.trans (Nat.min_eq_left hA)
theorem sl_to {A : Nat} {s : List Nat} (hA : A ≤ s.length) : getSlice (.str s) .none (.int (A : Int)) h = .ok (.str (s.take A)) h := by
  show R.ok (V.str (Mine.cut s 0 (clamp (A : Int) s.length))) h = _
  rw [clamp_nat hA]; rfl
theorem sl_from {A : Nat} {s : List Nat} (hA : A ≤ s.length) : getSlice (.str s) (.int (A : Int)) .none h = .ok (.str (s.drop A)) h := by
  show R.ok (V.str (Mine.cut s (clamp (A : Int) s.length) s.length)) h = _
  rw [clamp_nat hA, Mine.cut, List.take_of_length_le (Nat.le_of_eq List.length_drop)]
theorem c_neS {a b : List Nat} : cmpop .ne (.str a) (.str b) h = .ok (.bool (!(a == b))) h := rfl
theorem row_take {s : Row} (A : Nat) (h : rowOk s) : rowOk (s.take A) := row_sub h (by rw [List.length_take]; exact Nat.min_le_right _ _) fun _ => List.mem_of_mem_take
theorem row_drop {s : Row} (A : Nat) (h : rowOk s) : rowOk (s.drop A) := row_sub h (by rw [List.length_drop]; exact Nat.sub_le _ _) fun _ => List.mem_of_mem_drop
theorem row_mid {s : Row} {A B x : Nat} (h : rowOk s) (hx : SIGNS.contains x = true) (hA : A ≤ s.length) (hl : A + 1 + (s.length - B) ≤ 40) : rowOk (s.take A ++ [x] ++ s.drop B) :=
  have l1 : (s.take A).length = A := by rw [List.length_take, Nat.min_eq_left hA]
  row_app (row_app (row_take A h) (row_one hx) (by rw [l1]; exact Nat.le_trans (Nat.le_add_right _ _) hl)) (row_drop B h) (by rw [List.length_append, l1, List.length_drop]; exact hl)

theorem near (G : HasG P) {s : Row} (hs : rowOk s) {c : Int} : ∃ t, run P (n + 1) ("", "_law_near") [.str s, .int c] h = .ok (.str t) h ∧ rowOk t := by
  refine el_xp (sign_at (h := h) (fm (c.fdiv 41) (b := 37) (by decide))) fun x hx ex => ?_
  have x1 := fm c (b := 1 + (s.length : Int)) (by (first | lia | omega))
  refine el_x (Int.eq_ofNat_of_zero_le x1.1) fun A eA => ?_
  have lA : A ≤ s.length := by rw [eA] at x1; (first | lia | omega)
  have ls := hs.1
  have lt : (s.take A).length = A := by rw [List.length_take, Nat.min_eq_left lA]
  have e1 : binop .mod (.int c) (.int (1 + (s.length : Int))) h = .ok (.int (A : Nat)) h := by
    show (if 1 + (s.length : Int) = 0 then R.bad else R.ok (V.int (c.fmod (1 + (s.length : Int)))) h) = _
    rw [if_neg (by (first | lia | omega)), eA]
  have el : bfn "len" [.str s] h = .ok (.int (s.length : Nat)) h := rfl
  have last : X P (run P n) [.iff (.cmp .lt (.bi "len" [.var 0]) (.int 40)) [.ret (.bin .add (.bin .add (.slc (.var 0) .none (.var 2)) (.var 3)) (.slc (.var 0) (.var 2) .none))] [], .ret (.slc (.var 0) (.int 1) .none)]
      [some (.str s), some (.int c), some (.int (A : Nat)), some (.str [x])] h (fun q => ∃ t, q.back = .ok (.str t) h ∧ rowOk t) := by
    rcases Nat.lt_or_ge s.length 40 with z | z
    · exact .ifT (.cmp (.bi (.one (.var rfl)) el) .int (c_lt (by (first | lia | omega)))) (.ret (.two (.two (.slc (.var rfl) .none (.var rfl) (sl_to lA)) (.var rfl) (catS (b := [x]) (by rw [lt, List.length_singleton]; (first | lia | omega)))) (.slc (.var rfl) (.var rfl) .none (sl_from lA)) (catS (by rw [List.length_append, lt, List.length_drop, List.length_singleton]; (first | lia | omega)))) ⟨_, rfl, row_mid hs hx lA (by (first | lia | omega))⟩)
    · exact .ifF (.cmp (.bi (.one (.var rfl)) el) .int (c_lt' (by (first | lia | omega)))) (.ret (.slc (.var rfl) .int .none (sl_from (A := 1) (by (first | lia | omega)))) ⟨_, rfl, row_drop 1 hs⟩)
  refine go (Q := fun q => ∃ t, q = .ok (.str t) h ∧ rowOk t) (vs := [.str s, .int c]) G.near rfl (.asg (.two (.var rfl) (.two .int (.bi (.one (.var rfl)) el) rfl) e1) (.asg (.item .str (.two (.two (.var rfl) .int rfl) .int rfl) ex) ?_))
  rcases Nat.lt_or_ge A s.length with z | z
  · refine .if (b := !([s[A]] == [x])) (.andT (.cmp (.var rfl) (.bi (.one (.var rfl)) el) (c_lt (Int.ofNat_lt.mpr z))) (.andL (.cmp (.item (.var rfl) (.var rfl) (itemS (List.getElem?_eq_getElem z))) (.var rfl) c_neS))) (fun _ => ?_) fun _ => last
    exact .ret (.two (.two (.slc (.var rfl) .none (.var rfl) (sl_to lA)) (.var rfl) (catS (b := [x]) (by rw [lt, List.length_singleton]; (first | lia | omega)))) (.slc (.var rfl) (.two (.var rfl) .int rfl) .none (sl_from (A := A + 1) z)) (catS (by rw [List.length_append, lt, List.length_drop, List.length_singleton]; (first | lia | omega)))) ⟨_, rfl, row_mid hs hx lA (by (first | lia | omega))⟩
  · exact .ifF (.andF (.cmp (.var rfl) (.bi (.one (.var rfl)) el) (c_lt' fun y => Nat.not_lt.mpr z (Int.ofNat_lt.mp y)))) last

structure New (h : Hp) (r : Nat) (rows : List Row) (h' : Hp) (N : Nat) : Prop where
  ext : ∃ x, h' = h ++ x
  lo : h.length ≤ r
  get : h'[r]? = some (.list (rows.map .str))
  ok : ∀ s ∈ rows, rowOk s
  few : rows.length ≤ N
theorem mem_snoc {rows : List Row} {s : Row} (a : ∀ r ∈ rows, rowOk r) (b : rowOk s) : ∀ r ∈ rows ++ [s], rowOk r := fun r hr => (List.mem_append.mp hr).elim (a r) fun q => by cases List.mem_singleton.mp q; exact b
theorem appRow {a : Nat} {rows : List Row} {s : Row} (q : rows.length < 10000) : objMeth "append" a (.list (rows.map .str)) [.str s] h = .ok .none (h.set a (.list ((rows ++ [s]).map .str))) := by
  rw [List.map_append]; exact appL (by rw [List.length_map]; exact Nat.lt_trans q (by decide))

theorem rows_of (G : HasG P) {c m : Int} (hm : bitsOf m ≤ mostBits) : ∃ r rows h', run P (n + 3) ("", "_law_rows") [.int c, .int m] h = .ok (.ref r) h' ∧ New h r rows h' 900 := by
  have m21 := fm c (b := 21) (by decide)
  refine el_x (Int.eq_ofNat_of_zero_le m21.1) fun m0 e0 => ?_
  have m5 := fm m (b := 5) (by decide)
  have loop : ∀ (q : Nat) (x : Hp), q ≤ 900 → X P (run P (n + 2)) [.asg 3 (.bin .add (.int 1) (.bin .mod (.var 1) (.int 5))), .asg 4 (.list []),
      .forr [5] (.bi "range" [.var 2]) [.expr (.meth (.var 4) "append" [.call "_law_text" [.bin .mod (.bin .fdiv (.call "_law_mix" [.var 1, .var 5]) (.int 3)) (.sub (.list [.var 3, .int 99991]) (.bin .fdiv (.bin .mod (.var 5) (.int 3)) (.int 2)))]])], .ret (.var 4)]
      [some (.int c), some (.int m), some (.int q), none, none, none] (h ++ x) (fun q => ∃ r rows h', q.back = .ok (.ref r) h' ∧ New h r rows h' 900) := fun q x hq => by
    refine .asg (.two .int (.two (.var rfl) .int rfl) rfl) (.asg (.list .nil (le9 rfl)) (.range (fun k g h' => ∃ rows y t, g = [some (.int c), some (.int m), some (.int q), some (.int (1 + m.fmod 5)), some (.ref (h ++ x).length), t] ∧ h' = (h ++ x) ++ .list (rows.map .str) :: y ∧ rows.length = k ∧ ∀ s ∈ rows, rowOk s) q rfl (Nat.lt_of_le_of_lt hq (by decide)) (.var rfl) ⟨[], [], none, rfl, rfl, rfl, nofun⟩ (fun k g h' z lt => ?_) fun g h' z => ?_))
    · refine el_xxxppp z fun rows y t tq3 tq4 ln ok => ?_; try clear z; subst tq3; subst tq4
      have lst : ∀ z, (((h ++ x) ++ Ob.list (rows.map .str) :: y) ++ z)[(h ++ x).length]? = some (.list (rows.map .str)) := fun z => ga z get_mid
      obtain ⟨v, hv, ev⟩ := Ev.pick (P := P) (cl := run P (n + 2)) (g := [some (.int c), some (.int m), some (.int q), some (.int (1 + m.fmod 5)), some (.ref (h ++ x).length), some (.int (k : Nat))]) (h := (h ++ x) ++ Ob.list (rows.map .str) :: y) (e := .bin .fdiv (.bin .mod (.var 5) (.int 3)) (.int 2)) (es := [.var 3, .int 99991]) (vs := [.int (1 + m.fmod 5), .int 99991]) (.cons (.var rfl) (.one .int)) (le9 (n := 2) rfl) (.two (.two (.var rfl) .int rfl) .int rfl) (by
        have a := fm (k : Int) (b := 3) (by decide)
        have b := fd a.1 (b := 2) (by decide)
        refine ⟨b.1, ?_⟩
        rw [Int.fdiv_eq_ediv_of_nonneg _ (by decide)]; show _ < (2 : Int); (first | lia | omega))
      have : ∃ d : Int, v = .int d ∧ 0 < d ∧ d < 1000000 := by
        rcases List.mem_cons.mp hv with z | z
        · exact in_xpp _ z (by (first | lia | omega)) (by (first | lia | omega))
        · exact in_xpp _ (List.mem_singleton.mp z) (by decide) (by decide)
      refine el_xpp this fun d tq1 d0 d1 => ?_; try clear this; subst tq1
      have em : binop .mod (.int ((mixv m k).fdiv 3)) (.int d) (((h ++ x) ++ Ob.list (rows.map .str) :: y) ++ [.list [.int (1 + m.fmod 5), .int 99991]]) = .ok (.int (((mixv m k).fdiv 3).fmod d)) _ := if_neg (by (first | lia | omega))
      have b := fm ((mixv m k).fdiv 3) d0
      refine el_xxp (text (n := n) (h := ((h ++ x) ++ Ob.list (rows.map .str) :: y) ++ [.list [.int (1 + m.fmod 5), .int 99991]]) G (c := ((mixv m k).fdiv 3).fmod d) ⟨b.1, by (first | lia | omega)⟩) fun s z et os => ?_
      have l2 : ((((h ++ x) ++ Ob.list (rows.map .str) :: y) ++ [.list [.int (1 + m.fmod 5), .int 99991]]) ++ z)[(h ++ x).length]? = some (.list (rows.map .str)) := by rw [List.append_assoc]; exact lst _
      refine .expr (.lmeth rfl (.var rfl) get_mid (.one (.call (.one (.two (.two (.call (.cons (.var rfl) (.one (.var rfl))) (run_mix G hm (bits_small (by (first | lia | omega))))) .int rfl) ev em)) et)) l2 (appRow (by (first | lia | omega)))) (.nil ⟨rows ++ [s], y ++ ([.list [.int (1 + m.fmod 5), .int 99991]] ++ z), _, rfl, ?_, by rw [List.length_append, ln]; rfl, mem_snoc ok os⟩)
      rw [List.append_assoc, List.append_assoc (h ++ x), List.cons_append, set_mid]
    · refine el_xxxppp z fun rows y t tq3 tq4 ln ok => ?_; try clear z; subst tq3; subst tq4
      exact .ret (.var rfl) ⟨_, rows, _, rfl, ⟨_, List.append_assoc _ _ _⟩, by rw [List.length_append]; exact Nat.le_add_right _ _, get_mid, ok, by (first | lia | omega)⟩
  refine go (Q := fun q => ∃ r rows h', q = .ok (.ref r) h' ∧ New h r rows h' 900) (vs := [.int c, .int m]) G.rows rfl (.asg (.two (.var rfl) .int rfl) (.if (.cmp (.two (.two (.var rfl) .int rfl) .int rfl) .int c_eqI) (fun _ => ?_) fun _ => ?_))
  · refine el_xp (Ev.pick (P := P) (cl := run P (n + 2)) (g := [some (.int c), some (.int m), some (.int (c.fmod 21)), none, none, none]) (h := h) (e := .bin .mod (.bin .fdiv (.var 0) (.int 168)) (.int 12)) (es := [.int 16, .int 17, .int 31, .int 32, .int 33, .int 64, .int 63, .int 100, .int 128, .int 200, .int 600, .int 900]) (vs := [16, 17, 31, 32, 33, 64, 63, 100, 128, 200, 600, 900].map V.int) rfl (by decide) (.two (.two (.var rfl) .int rfl) .int rfl) (fm (c.fdiv 168) (b := 12) (by decide))) fun v hv ev => ?_
    refine el_xp (List.mem_map.mp hv) fun i hi tqz => ?_; subst tqz
    have : ∀ i ∈ ([16, 17, 31, 32, 33, 64, 63, 100, 128, 200, 600, 900] : List Int), 0 ≤ i ∧ i ≤ 900 := by decide
    obtain ⟨i0, i1⟩ := this i hi
    refine el_x (Int.eq_ofNat_of_zero_le i0) fun q tqz => ?_; subst tqz
    exact .asg ev (loop q _ (Int.ofNat_le.mp i1))
  · have := loop m0 [] (by have := m21.2; (first | lia | omega))
    rw [← e0, List.append_nil] at this
    exact this
end
end Mine
end

section
/-! a twin of rows -/
namespace Mine
section
variable {P : Pg} {h h' : Hp} {n : Nat} {cl : CallT} {g : Gm} {R : RS → Prop} {ss bd : List S}
theorem listD {r : Nat} {l : List V} (e : h[r]? = some (.list l)) : bfn "list" [.ref r] h = .ok (.ref h.length) (h ++ [.list l]) := by
  show (match h[r]? with | some (.list l) => alloc (.list l) h | _ => .bad) = _; rw [e]; rfl
theorem modN {c : Int} {m : Nat} (hm : 0 < m) : ∃ A : Nat, A < m ∧ binop .mod (.int c) (.int (m : Int)) h = .ok (.int (A : Nat)) h := by
  have x1 := fm c (b := (m : Int)) (by (first | lia | omega))
  refine el_x (Int.eq_ofNat_of_zero_le x1.1) fun A eA => ?_
  refine in_xp A (by rw [eA] at x1; (first | lia | omega)) ?_
  show (if (m : Int) = 0 then R.bad else R.ok (V.int (c.fmod m)) h) = _
  rw [if_neg (by (first | lia | omega)), eA]
theorem sl_rows {A r : Nat} {rows : List Row} (e : h[r]? = some (.list (rows.map .str))) {v : V} (hv : bound v rows.length rows.length = some A) : getSlice (.ref r) .none v h = .ok (.ref h.length) (h ++ [.list ((rows.take A).map .str)]) := by
  show (match h[r]? with | some (.list l) => (match bound .none l.length 0, bound v l.length l.length with | some a, some b => alloc (.list (Mine.cut l a b)) h | _, _ => .bad) | _ => .bad) = _
  rw [e]; dsimp only; rw [List.length_map, hv]
  show R.ok (V.ref h.length) (h ++ [.list (((rows.map V.str).drop 0).take (A - 0))]) = _
  rw [List.drop_zero, ← List.map_take]; rfl
theorem add_rows {a b : Nat} {x y : List Row} (ea : h[a]? = some (.list (x.map .str))) (eb : h[b]? = some (.list (y.map .str))) (q : x.length + y.length ≤ 10000) : binop .add (.ref a) (.ref b) h = .ok (.ref h.length) (h ++ [.list ((x ++ y).map .str)]) := by
  show (match h[a]? with | some (.list x) => onL (.ref b) h fun y => (if x.length + y.length ≤ mostLen then alloc (.list (x ++ y)) h else .bad) | _ => .bad) = _
  rw [ea]
  show (match h[b]? with | some (.list y) => (if (x.map V.str).length + y.length ≤ mostLen then alloc (.list (x.map V.str ++ y)) h else .bad) | _ => .bad) = _
  rw [eb]; dsimp only; rw [List.length_map, List.length_map, if_pos (Nat.le_trans q (by decide)), List.map_append]; rfl
theorem New.next {r r' : Nat} {rows rows' : List Row} {h1 h2 : Hp} {N N' : Nat} (a : New h r rows h1 N) (e : ∃ x, h2 = h1 ++ x) (l : h1.length ≤ r') (gt : h2[r']? = some (.list (rows'.map .str))) (ok : ∀ s ∈ rows', rowOk s) (few : rows'.length ≤ N') : New h r' rows' h2 N' := by
  refine el_x (a.ext) fun x tqz => ?_; subst tqz
  refine el_x e fun y tqz => ?_; try clear e; subst tqz
  exact ⟨⟨x ++ y, List.append_assoc _ _ _⟩, Nat.le_trans (by rw [List.length_append]; exact Nat.le_add_right _ _) l, gt, ok, few⟩
theorem twin (G : HasG P) (ht : P.fn ("", "_law_twin") = some f_law_twin) {r : Nat} {rows : List Row} {c : Int} (hc : bitsOf c ≤ mostBits) (hr : h[r]? = some (.list (rows.map .str))) (ok : ∀ s ∈ rows, rowOk s) (hn : rows.length ≤ 900) :
    ∃ r' rows' h', run P (n + 3) ("", "_law_twin") [.ref r, .int c] h = .ok (.ref r') h' ∧ New h r' rows' h' 910 := by
  have mx : ∀ {h : Hp} {k : Int}, 0 ≤ k ∧ k < (1000 : Nat) → run P (n + 2) ("", "_law_mix") [.int c, .int k] h = .ok (.int (mixv c k)) h := fun q => run_mix G hc (small q rfl)
  -- what comes behind the changes
  have tail : ∀ (r1 : Nat) (rows1 : List Row) (h1 : Hp) (t3 t4 : Option V), New h r1 rows1 h1 900 → X P (run P (n + 2)) (f_law_twin.body.drop 2) [some (.ref r), some (.int c), some (.ref r1), t3, t4, none] h1 (fun q => ∃ r' rows' h', q.back = .ok (.ref r') h' ∧ New h r' rows' h' 910) := fun r1 rows1 h1 t3 t4 N1 => by
    have f1 := N1.few
    refine .asg (.two (.two (.var rfl) .int rfl) .int rfl) ?_
    have fin : ∀ (r2 : Nat) (rows2 : List Row) (h2 : Hp) (t3 t5 : Option V), New h r2 rows2 h2 910 → X P (run P (n + 2)) [.ret (.var 2)] [some (.ref r), some (.int c), some (.ref r2), t3, t4, t5] h2 (fun q => ∃ r' rows' h', q.back = .ok (.ref r') h' ∧ New h r' rows' h' 910) := fun r2 rows2 h2 t3 t5 N2 => .ret (.var rfl) ⟨r2, rows2, h2, rfl, N2⟩
    have w3 : ∀ (r2 : Nat) (rows2 : List Row) (h2 : Hp) (t3 : Option V), New h r2 rows2 h2 910 → X P (run P (n + 2)) (f_law_twin.body.drop 5) [some (.ref r), some (.int c), some (.ref r2), t3, t4, some (.int ((c.fdiv 5).fmod 6))] h2 (fun q => ∃ r' rows' h', q.back = .ok (.ref r') h' ∧ New h r' rows' h' 910) := fun r2 rows2 h2 t3 N2 => by
      refine .if (.cmp (.var rfl) .int c_eqI) (fun _ => ?_) fun _ => fin _ _ _ _ _ N2
      have bd : bound (.int (-1)) rows2.length rows2.length = some (rows2.length - 1) := by
        show some (clamp (-1) rows2.length) = _
        unfold clamp; rw [if_pos (by decide)]; exact congrArg some (by (first | lia | omega))
      exact .asg (.slc (.var rfl) .none (.neg .int) (sl_rows N2.get bd)) (fin _ _ _ _ _ (N2.next ⟨_, rfl⟩ (Nat.le_refl _) (gn _ _) (fun s hs => N2.ok s (List.mem_of_mem_take hs)) (Nat.le_trans (by rw [List.length_take]; exact Nat.min_le_right _ _) N2.few)))
    have w2 : ∀ (r2 : Nat) (rows2 : List Row) (h2 : Hp), New h r2 rows2 h2 900 → X P (run P (n + 2)) (f_law_twin.body.drop 4) [some (.ref r), some (.int c), some (.ref r2), t3, t4, some (.int ((c.fdiv 5).fmod 6))] h2 (fun q => ∃ r' rows' h', q.back = .ok (.ref r') h' ∧ New h r' rows' h' 910) := fun r2 rows2 h2 N2 => by
      have f2 := N2.few
      refine .if (.cmp (.var rfl) .int c_eqI) (fun _ => ?_) fun _ => w3 _ _ _ _ ⟨N2.ext, N2.lo, N2.get, N2.ok, by (first | lia | omega)⟩
      have m9 := fm (mixv c 51) (b := 9) (by decide)
      refine el_x (Int.eq_ofNat_of_zero_le m9.1) fun m em => ?_
      have m8 : m < 9 := by rw [em] at m9; (first | lia | omega)
      obtain ⟨l, h3, e3, ls, y, rfl, rfl, ln, ol⟩ := compL_inv (h := h2) (src := .rng 0 (1 + (mixv c 51).fmod 9) 1) (cond := fun v h => ev P (run P (n + 2)) (List.set [some (.ref r), some (.int c), some (.ref r2), t3, t4, some (.int ((c.fdiv 5).fmod 6))] 3 (some v)) (.bool true) h)
          (elt := fun v h => ev P (run P (n + 2)) (List.set [some (.ref r), some (.int c), some (.ref r2), t3, t4, some (.int ((c.fdiv 5).fmod 6))] 3 (some v)) (.call "_law_text" [.call "_law_mix" [.var 1, .bin .add (.int 40) (.var 3)]]) h)
          (fun k acc h' => k ≤ m + 1 ∧ ∃ (ls : List Row) (y : Hp), acc = ls.map V.str ∧ h' = h2 ++ y ∧ ls.length = k ∧ ∀ s ∈ ls, rowOk s) (m + 1) (Nat.lt_of_lt_of_le (Nat.succ_lt_succ m8) (by decide)) (fun l h' => ∃ (ls : List Row) (y : Hp), l = ls.map V.str ∧ h' = h2 ++ y ∧ ls.length = m + 1 ∧ ∀ s ∈ ls, rowOk s) ⟨Nat.zero_le _, [], [], rfl, (List.append_nil _).symm, rfl, nofun⟩ (by
        rintro k acc h4 ⟨kl, ls, y, rfl, rfl, ln, ol⟩
        have nt : nth (.rng 0 (1 + (mixv c 51).fmod 9) 1) (h2 ++ y) k = some (if (0 : Int) + k < 1 + (mixv c 51).fmod 9 then some (.int (0 + k)) else none) := rfl
        rcases Nat.lt_or_ge k (m + 1) with lt | ge
        · have b := mix_lt c (40 + k)
          refine el_xxp (text (n := n) (h := h2 ++ y) G (c := mixv c (40 + k)) ⟨b.1, by (first | lia | omega)⟩) fun s z et os => ?_
          refine .inr ⟨.int (k : Nat), h2 ++ y, by rw [nt, if_pos (by (first | lia | omega)), Int.zero_add], lt, by rw [List.length_map, ln]; exact Nat.lt_of_lt_of_le (Nat.lt_of_lt_of_le lt (by (first | lia | omega))) (show 10 ≤ mostLen by decide), .inl ⟨rfl, .str s, (h2 ++ y) ++ z, ?_, lt, ls ++ [s], y ++ z, by rw [List.map_append]; rfl, List.append_assoc _ _ _, by rw [List.length_append, ln]; rfl, mem_snoc ol os⟩⟩
          exact Ev.call (.one (.call (.cons (.var rfl) (.one (.two .int (.var rfl) rfl))) (mx ⟨by (first | lia | omega), by (first | lia | omega)⟩))) et
        · obtain rfl := Nat.le_antisymm kl ge
          exact .inl ⟨by rw [nt, if_neg (by (first | lia | omega))], ls, y, rfl, rfl, ln, ol⟩)
      have ad := add_rows (h := h2 ++ y ++ [.list (ls.map .str)]) (a := r2) (b := (h2 ++ y).length) (ga _ (ga _ N2.get)) (gn _ _) (by (first | lia | omega))
      exact .asg (.two (.var rfl) (.comp (.bi (.one (.two .int (.two (.call (.cons (.var rfl) (.one .int)) (mx ⟨by decide, by decide⟩)) .int rfl) rfl)) (rng1 (by (first | lia | omega)))) e3) ad) (w3 _ _ _ _ (N2.next ⟨y ++ ([.list (ls.map .str)] ++ [.list ((rows2 ++ ls).map .str)]), by rw [List.append_assoc, List.append_assoc]⟩ (by rw [List.append_assoc, List.length_append]; exact Nat.le_add_right _ _) (gn _ _) (fun s hs => (List.mem_append.mp hs).elim (N2.ok s) (ol s)) (by rw [List.length_append]; (first | lia | omega))))
    refine .if (.cmp (.var rfl) .int c_eqI) (fun _ => ?_) fun _ => w2 _ _ _ N1
    refine el_xp (modN (h := h1) (c := mixv c 50) (m := 1 + rows1.length) (by (first | lia | omega))) fun A lA eA => ?_
    have ln : bfn "len" [.ref r1] h1 = .ok (.int (rows1.length : Nat)) h1 := ref_len N1.get (List.length_map _)
    have eq : (1 : Int) + (rows1.length : Nat) = ((1 + rows1.length : Nat) : Int) := by (first | lia | omega)
    exact .asg (.slc (.var rfl) .none (.two (.call (.cons (.var rfl) (.one .int)) (mx ⟨by decide, by decide⟩)) (.two .int (.bi (.one (.var rfl)) ln) rfl) (eq ▸ eA)) (sl_rows (v := .int (A : Nat)) N1.get (congrArg some (clamp_nat (Nat.le_of_lt_succ (Nat.lt_of_lt_of_eq lA (Nat.add_comm _ _))))))) (w2 _ _ _ (N1.next ⟨_, rfl⟩ (Nat.le_refl _) (gn _ _) (fun s hs => N1.ok s (List.mem_of_mem_take hs)) (Nat.le_trans (by rw [List.length_take]; exact Nat.min_le_right _ _) N1.few)))
  -- the changes
  refine el_xp (Ev.pick (P := P) (cl := run P (n + 2)) (g := [some (.ref r), some (.int c), some (.ref h.length), none, none, none]) (h := h ++ [.list (rows.map .str)]) (e := .bin .mod (.var 1) (.int 5)) (es := [.int 0, .int 1, .int 1, .int 2, .int 5]) (vs := [0, 1, 1, 2, 5].map V.int) rfl (by decide) (.two (.var rfl) .int rfl) (fm c (b := 5) (by decide))) fun v hv ev => ?_
  refine el_xp (List.mem_map.mp hv) fun i hi tqz => ?_; subst tqz
  have : ∀ i ∈ ([0, 1, 1, 2, 5] : List Int), 0 ≤ i ∧ i ≤ 5 := by decide
  obtain ⟨i0, i1⟩ := this i hi
  refine el_x (Int.eq_ofNat_of_zero_le i0) fun q tqz => ?_; subst tqz
  have q5 : q ≤ 5 := Int.ofNat_le.mp i1
  refine go (Q := fun q => ∃ r' rows' h', q = .ok (.ref r') h' ∧ New h r' rows' h' 910) (vs := [.ref r, .int c]) ht rfl (.asg (.bi (.one (.var rfl)) (listD hr)) (.range (fun k g h' => ∃ (rows1 : List Row) (y : Hp) (t3 t4 : Option V), g = [some (.ref r), some (.int c), some (.ref h.length), t3, t4, none] ∧ h' = h ++ .list (rows1.map .str) :: y ∧ rows1.length = rows.length ∧ ∀ s ∈ rows1, rowOk s) q rfl (Nat.lt_of_le_of_lt q5 (by decide)) ev
    ⟨rows, _, none, none, rfl, List.append_assoc _ _ _, rfl, ok⟩ (fun k g h' z lt => ?_) fun g h' z => ?_))
  · refine el_xxxxppp z fun rows1 y t3 t4 tq4 tq5 ln ok1 => ?_; try clear z; subst tq4; subst tq5
    have ll : ∀ {z}, bfn "len" [.ref h.length] (h ++ .list (rows1.map .str) :: z) = .ok (.int (rows1.length : Nat)) (h ++ .list (rows1.map .str) :: z) := fun {z} => ref_len get_mid (List.length_map _)
    rcases Nat.eq_zero_or_pos rows1.length with z0 | z0
    · exact .ifF (.cmp (.bi (.one (.var rfl)) ll) .int (c_gt' (by (first | lia | omega)))) (.nil ⟨rows1, y, _, t4, rfl, rfl, ln, ok1⟩)
    refine el_xp (modN (h := h ++ .list (rows1.map .str) :: y) (c := mixv c (70 + k)) z0) fun A lA eA => ?_
    have put : ∀ (B : Nat) (z : Hp), B < rows1.length → X P (run P (n + 2)) [.asgI (.var 2) (.var 4) (.call "_law_near" [.sub (.var 2) (.var 4), .call "_law_mix" [.var 1, .bin .add (.int 60) (.var 3)]])] [some (.ref r), some (.int c), some (.ref h.length), some (.int (k : Nat)), some (.int (B : Nat)), none] (h ++ .list (rows1.map .str) :: z)
        (orI (fun g h' => ∃ (rows1 : List Row) (y : Hp) (t3 t4 : Option V), g = [some (.ref r), some (.int c), some (.ref h.length), t3, t4, none] ∧ h' = h ++ .list (rows1.map .str) :: y ∧ rows1.length = rows.length ∧ ∀ s ∈ rows1, rowOk s) (fun q => ∃ r' rows' h', q.back = .ok (.ref r') h' ∧ New h r' rows' h' 910)) := fun B z lB => by
      refine el_xp (near (n := n + 1) (h := h ++ .list (rows1.map .str) :: z) G (ok1 _ (List.getElem_mem lB)) (c := mixv c (60 + k))) fun t e1 ot => ?_
      have at_ : (rows1.map V.str)[B]? = some (.str rows1[B]) := by rw [List.getElem?_map, List.getElem?_eq_getElem lB]; rfl
      refine .asgI (.call (.cons (.item (.var rfl) (.var rfl) (itemL get_mid at_)) (.one (.call (.cons (.var rfl) (.one (.two .int (.var rfl) rfl))) (mx ⟨by (first | lia | omega), by (first | lia | omega)⟩)))) e1) (.var rfl) (.var rfl) (setRow get_mid lB) (.nil ⟨rows1.set B t, z, _, _, rfl, set_mid, by rw [List.length_set]; exact ln, fun s hs => ?_⟩)
      rcases List.mem_or_eq_of_mem_set hs with hs | hs
      · exact ok1 s hs
      · subst hs; exact ot
    refine .ifT (.cmp (.bi (.one (.var rfl)) ll) .int (c_gt (by (first | lia | omega)))) (.asg (.two (.call (.cons (.var rfl) (.one (.two .int (.var rfl) rfl))) (mx ⟨by (first | lia | omega), by (first | lia | omega)⟩)) (.bi (.one (.var rfl)) ll) eA) (.if (.cmp (.two (.call (.cons (.var rfl) (.one (.two .int (.var rfl) rfl))) (mx ⟨by (first | lia | omega), by (first | lia | omega)⟩)) .int rfl) .int c_eqI) (fun _ => ?_) fun _ => put A y lA))
    obtain ⟨v, hv, ev⟩ := Ev.pick (P := P) (cl := run P (n + 2)) (g := [some (.ref r), some (.int c), some (.ref h.length), some (.int (k : Nat)), some (.int (A : Nat)), none]) (h := h ++ .list (rows1.map .str) :: y) (e := .bin .mod (.call "_law_mix" [.var 1, .bin .add (.int 80) (.var 3)]) (.int 3)) (es := [.int 0, .bin .sub (.bi "len" [.var 2]) (.int 1), .bin .fdiv (.bi "len" [.var 2]) (.int 2)]) (vs := [.int (0 : Nat), .int (rows1.length - 1), .int (rows1.length / 2 : Nat)])
      (.cons .int (.cons (.two (.bi (.one (.var rfl)) ll) .int rfl) (.one (.two (.bi (.one (.var rfl)) ll) .int b_half)))) (le9 (n := 3) rfl) (.two (.call (.cons (.var rfl) (.one (.two .int (.var rfl) rfl))) (mx ⟨by (first | lia | omega), by (first | lia | omega)⟩)) .int rfl) (fm (mixv c (80 + k)) (b := 3) (by decide))
    have : ∃ B : Nat, v = .int (B : Nat) ∧ B < rows1.length := by
      rcases List.mem_cons.mp hv with z | z
      · exact in_xp 0 z z0
      rcases List.mem_cons.mp z with z | z
      · exact in_xp (rows1.length - 1) (z.trans (congrArg V.int (by (first | lia | omega)))) (by (first | lia | omega))
      · exact in_xp (rows1.length / 2) (List.mem_singleton.mp z) (by (first | lia | omega))
    refine el_xp this fun B tq1 lB => ?_; try clear this; subst tq1
    refine .asg ev ?_
    rw [List.append_assoc]
    exact put B _ lB
  · refine el_xxxxppp z fun rows1 y t3 t4 tq4 tq5 ln ok1 => ?_; try clear z; subst tq4; subst tq5
    exact tail h.length rows1 _ t3 t4 ⟨⟨_, rfl⟩, Nat.le_refl _, get_mid, ok1, by (first | lia | omega)⟩
end
end Mine
end

section
/-! a change to a book, and to the list of its rows that the law keeps -/
namespace Mine
structure Chd (w : Wd) (j k : Nat) (b : Bkd) (T : List V) (h' : Hp) (w' : Wd) (rows : List Row) : Prop where
  W : Wh h' w'
  G : Good w'
  ad : ∀ r, (∀ k, r ≠ .s j k) → w'.ad r = w.ad r
  tt : ∀ i, i ≠ b.lg → w'.T i = w.T i
  oth : ∀ i, i ≠ j → w'.bk i = w.bk i
  xs : w'.xs = upd w.xs k (some (.list (rows.map .str)))
  bk : ∃ b', w'.bk j = some b' ∧ b'.rows = rows ∧ b'.lg = b.lg
  few : ∃ T', w'.T b.lg = some T' ∧ T'.length ≤ T.length + 20
theorem Good.setX {w : Wd} {k : Nat} {o : Ob} (G : Good w) : Good (w.setX k o) := ⟨G.uni, G.bks⟩
theorem Done.kept {w w' : Wd} {j k : Nat} {b : Bkd} {T : List V} {rows : List Row} {h' : Hp} {o : Ob} (D : Done w j b T rows h' w') (hk : w.xs k = some o) : Chd w j k b T (h'.set (w.ad (.x k)) (.list (rows.map .str))) (w'.setX k (.list (rows.map .str))) rows := by
  have ea : w'.ad (.x k) = w.ad (.x k) := D.fr.ad _ (fun _ => nofun)
  have ex : w'.xs k = some o := by rw [D.fr.xs]; exact hk
  have W := D.W.setX ex (.list (rows.map .str))
  rw [ea] at W
  exact ⟨W, D.G.setX, D.fr.ad, D.fr.T, D.fr.bk, by show upd w'.xs k _ = _; rw [D.fr.xs], D.bk, D.few⟩
section
variable {P : Pg} {h : Hp} {n i j k k' : Nat} {T : List V} {w : Wd} {b : Bkd} {r : Row} {rows2 : List Row} {c : Int}
theorem rowAt {rows : List Row} (q : i < rows.length) : (rows.map V.str)[i]? = some (.str rows[i]) := by rw [List.getElem?_map, List.getElem?_eq_getElem q]; rfl
theorem change (p : HasB P) (Gn : HasG P) {z : String} (hf : P.fn ("", "_law_change") = some ⟨4, ["_law_book", "_law_rows_here", "_law_others", "_law_cell", "_law_kind", "_law_text_here", z], f_law_change_2.body⟩) (W : Wh h w) (G : Good w) (e : w.bk j = some b) (eT : w.T b.lg = some T) (hT : T.length < 900000) (hk : w.xs k = some (.list (b.rows.map .str))) (hk' : w.xs k' = some (.list (rows2.map .str))) (ok2 : ∀ s ∈ rows2, rowOk s) (hn : b.rows.length < 1024) (hc : bitsOf c ≤ mostBits) :
    ∃ h' w' rows, run P (n + 6) ("", "_law_change") [.ref (w.ad (.b j)), .ref (w.ad (.x k)), .ref (w.ad (.x k')), .int c] h = .ok .none h' ∧ Chd w j k b T h' w' rows ∧ rows.length ≤ b.rows.length + 1 := by
  refine el_xp (G.bks e) fun T0 _ B => ?_
  have mx : ∀ {h : Hp} {k : Int}, 0 ≤ k ∧ k < (1000 : Nat) → run P (n + 5) ("", "_law_mix") [.int c, .int k] h = .ok (.int (mixv c k)) h := fun q => run_mix Gn hc (small q rfl)
  let g0 (x y z : Option V) : Gm := [some (.ref (w.ad (.b j))), some (.ref (w.ad (.x k))), some (.ref (w.ad (.x k'))), some (.int c), x, y, z]
  refine el_xp (Ev.pick (P := P) (cl := run P (n + 5)) (g := g0 (some (.int (c.fmod 6))) none none) (h := h) (e := .bin .mod (.bin .fdiv (.var 3) (.int 6)) (.int 2)) (es := [.int 9, .int 99991]) (vs := [9, 99991].map V.int) rfl (by decide) (.two (.two (.var rfl) .int rfl) .int rfl) (fm (c.fdiv 6) (b := 2) (by decide))) fun v hv ev => ?_
  refine el_xp (List.mem_map.mp hv) fun d hd tqz => ?_; subst tqz
  have : ∀ i ∈ ([9, 99991] : List Int), 0 < i ∧ i < 1000000 := by decide
  obtain ⟨d0, d1⟩ := this d hd
  have em : binop .mod (.int (mixv c 1)) (.int d) (h ++ [.list ([9, 99991].map V.int)]) = .ok (.int ((mixv c 1).fmod d)) _ := if_neg (by (first | lia | omega))
  have b1 := fm (mixv c 1) d0
  refine el_xxp (text (n := n + 3) (h := h ++ [.list ([9, 99991].map V.int)]) Gn (c := (mixv c 1).fmod d) ⟨b1.1, by (first | lia | omega)⟩) fun s x et os => ?_
  have W1 : Wh (h ++ [.list ([9, 99991].map V.int)] ++ x) w := (W.app _).app x
  generalize h ++ [.list ([9, 99991].map V.int)] ++ x = h1 at et W1
  have kx := W1.oth hk
  have kx' := W1.oth hk'
  have ll : bfn "len" [.ref (w.ad (.x k))] h1 = .ok (.int (b.rows.length : Nat)) h1 := ref_len kx (List.length_map _)
  have ll' : bfn "len" [.ref (w.ad (.x k'))] h1 = .ok (.int (rows2.length : Nat)) h1 := ref_len kx' (List.length_map _)
  -- the three deeds
  have add1 : ∀ t, rowOk t → ∀ z, X P (run P (n + 5)) [.expr (.meth (.var 0) "add" [.var 5]), .expr (.meth (.var 1) "append" [.var 5])] (g0 (some (.int (c.fmod 6))) (some (.str t)) z) h1 (fun q => ∃ h' w' rows, q.back = .ok .none h' ∧ Chd w j k b T h' w' rows ∧ rows.length ≤ b.rows.length + 1) := fun t ot z => by
    refine el_xxxp (add (n := n) p W1 G e eT hT hn ot) fun m h2 w2 e2 D => ?_
    have C := D.kept hk
    have ox := D.W.oth (n := k) (by rw [D.fr.xs]; exact hk)
    rw [D.fr.ad (.x k) (fun _ => nofun)] at ox
    exact .expr (.meth (.var rfl) (W1.bok e) p.add rfl (.one (.var rfl)) e2) (.expr (.lmeth rfl (.var rfl) ox (.one (.var rfl)) ox (appRow (by (first | lia | omega)))) (.nil ⟨_, _, _, rfl, C, by rw [List.length_append]; exact Nat.le_refl _⟩))
  have put1 : ∀ t, rowOk t → ∀ A : Nat, A < b.rows.length → X P (run P (n + 5)) [.expr (.meth (.var 0) "put" [.var 6, .var 5]), .asgI (.var 1) (.var 6) (.var 5)] (g0 (some (.int (c.fmod 6))) (some (.str t)) (some (.int (A : Nat)))) h1 (fun q => ∃ h' w' rows, q.back = .ok .none h' ∧ Chd w j k b T h' w' rows ∧ rows.length ≤ b.rows.length + 1) := fun t ot A lA => by
    refine el_xxxp (put (n := n) p W1 G e eT hT lA ot) fun m h2 w2 e2 D => ?_
    have C := D.kept hk
    have ox := D.W.oth (n := k) (by rw [D.fr.xs]; exact hk)
    rw [D.fr.ad (.x k) (fun _ => nofun)] at ox
    exact .expr (.meth (.var rfl) (W1.bok e) p.put rfl (.cons (.var rfl) (.one (.var rfl))) e2) (.asgI (.var rfl) (.var rfl) (.var rfl) (setRow ox lA) (.nil ⟨_, _, _, rfl, C, by rw [List.length_set]; exact Nat.le_succ _⟩))
  have cut1 : 0 < b.rows.length → ∀ y z, X P (run P (n + 5)) [.expr (.meth (.var 0) "cut" []), .expr (.meth (.var 1) "pop" [])] (g0 (some (.int (c.fmod 6))) y z) h1 (fun q => ∃ h' w' rows, q.back = .ok .none h' ∧ Chd w j k b T h' w' rows ∧ rows.length ≤ b.rows.length + 1) := fun z0 y z => by
    refine el_xxxp (book_cut (n := n) p W1 G e eT z0) fun m h2 w2 e2 D => ?_
    have C := D.kept hk
    have ox := D.W.oth (n := k) (by rw [D.fr.xs]; exact hk)
    rw [D.fr.ad (.x k) (fun _ => nofun)] at ox
    refine el_x (last_some (l := b.rows.map V.str) (by rw [List.length_map]; exact z0)) fun l hl => ?_
    rw [List.map_dropLast] at C
    exact .expr (.meth (.var rfl) (W1.bok e) p.cut rfl .nil e2) (.expr (.lmeth rfl (.var rfl) ox .nil ox (popL hl)) (.nil ⟨_, _, _, rfl, C, by rw [List.length_dropLast]; (first | lia | omega)⟩))
  refine go (Q := fun q => ∃ h' w' rows, q = .ok .none h' ∧ Chd w j k b T h' w' rows ∧ rows.length ≤ b.rows.length + 1) (vs := [.ref (w.ad (.b j)), .ref (w.ad (.x k)), .ref (w.ad (.x k')), .int c]) hf rfl (.asg (.two (.var rfl) .int rfl) (.asg (.call (.one (.two (.call (.cons (.var rfl) (.one .int)) (mx ⟨by decide, by decide⟩)) ev em)) et) ?_))
  have rest : X P (run P (n + 5)) [.iff (.and [.cmp .eq (.var 4) (.int 4), .cmp .gt (.bi "len" [.var 1]) (.int 0)]) [.expr (.meth (.var 0) "cut" []), .expr (.meth (.var 1) "pop" [])] [.iff (.and [.cmp .lt (.bi "len" [.var 1]) (.bi "len" [.var 2]), .cmp .gt (.bin .mod (.bin .fdiv (.var 3) (.int 6)) (.int 3)) (.int 0)]) [.asg 5 (.sub (.var 2) (.bi "len" [.var 1]))] [], .expr (.meth (.var 0) "add" [.var 5]), .expr (.meth (.var 1) "append" [.var 5])]]
      (g0 (some (.int (c.fmod 6))) (some (.str s)) none) h1 (fun q => ∃ h' w' rows, q.back = .ok .none h' ∧ Chd w j k b T h' w' rows ∧ rows.length ≤ b.rows.length + 1) := by
    have els : X P (run P (n + 5)) [.iff (.and [.cmp .lt (.bi "len" [.var 1]) (.bi "len" [.var 2]), .cmp .gt (.bin .mod (.bin .fdiv (.var 3) (.int 6)) (.int 3)) (.int 0)]) [.asg 5 (.sub (.var 2) (.bi "len" [.var 1]))] [], .expr (.meth (.var 0) "add" [.var 5]), .expr (.meth (.var 1) "append" [.var 5])]
        (g0 (some (.int (c.fmod 6))) (some (.str s)) none) h1 (fun q => ∃ h' w' rows, q.back = .ok .none h' ∧ Chd w j k b T h' w' rows ∧ rows.length ≤ b.rows.length + 1) := by
      rcases Nat.lt_or_ge b.rows.length rows2.length with z | z
      · exact .if (.andT (.cmp (.bi (.one (.var rfl)) ll) (.bi (.one (.var rfl)) ll') (c_lt (Int.ofNat_lt.mpr z))) (.andL (.cmp (.two (.two (.var rfl) .int rfl) .int rfl) .int rfl))) (fun _ => .asg (.item (.var rfl) (.bi (.one (.var rfl)) ll) (itemL kx' (rowAt z))) (add1 _ (ok2 _ (List.getElem_mem z)) _)) fun _ => add1 s os _
      · exact .ifF (.andF (.cmp (.bi (.one (.var rfl)) ll) (.bi (.one (.var rfl)) ll') (c_lt' fun y => Nat.not_lt.mpr z (Int.ofNat_lt.mp y)))) (add1 s os _)
    rcases Nat.eq_zero_or_pos b.rows.length with z0 | z0
    · rcases Classical.em (c.fmod 6 = 4) with y | y
      · exact .ifF (.andT (.cmp (.var rfl) .int (c_eq y)) (.andL (.cmp (.bi (.one (.var rfl)) ll) .int (c_gt' (by (first | lia | omega)))))) els
      · exact .ifF (.andF (.cmp (.var rfl) .int (c_eq' y))) els
    · rcases Classical.em (c.fmod 6 = 4) with y | y
      · exact .ifT (.andT (.cmp (.var rfl) .int (c_eq y)) (.andL (.cmp (.bi (.one (.var rfl)) ll) .int (c_gt (by (first | lia | omega)))))) (cut1 z0 _ _)
      · exact .ifF (.andF (.cmp (.var rfl) .int (c_eq' y))) els
  rcases Classical.em (c.fmod 6 < 4) with y | y
  · rcases Nat.eq_zero_or_pos b.rows.length with z0 | z0
    · exact .ifF (.andT (.cmp (.var rfl) .int (c_lt y)) (.andL (.cmp (.bi (.one (.var rfl)) ll) .int (c_gt' (by (first | lia | omega)))))) rest
    · refine el_xp (modN (h := h1) (c := mixv c 2) z0) fun A lA eA => ?_
      have nr : ∀ t, rowOk t → X P (run P (n + 5)) [.iff (.cmp .eq (.var 4) (.int 1)) [.asg 5 (.call "_law_near" [.sub (.var 1) (.var 6), .call "_law_mix" [.var 3, .int 3]])] [], .expr (.meth (.var 0) "put" [.var 6, .var 5]), .asgI (.var 1) (.var 6) (.var 5)]
          (g0 (some (.int (c.fmod 6))) (some (.str t)) (some (.int (A : Nat)))) h1 (fun q => ∃ h' w' rows, q.back = .ok .none h' ∧ Chd w j k b T h' w' rows ∧ rows.length ≤ b.rows.length + 1) := fun t ot => by
        refine el_xp (near (n := n + 4) (h := h1) Gn (B.good _ (List.getElem_mem lA)) (c := mixv c 3)) fun t' e1 ot' => ?_
        exact .if (.cmp (.var rfl) .int c_eqI) (fun _ => .asg (.call (.cons (.item (.var rfl) (.var rfl) (itemL kx (rowAt lA))) (.one (.call (.cons (.var rfl) (.one .int)) (mx ⟨by decide, by decide⟩)))) e1) (put1 t' ot' A lA)) fun _ => put1 t ot A lA
      refine .ifT (.andT (.cmp (.var rfl) .int (c_lt y)) (.andL (.cmp (.bi (.one (.var rfl)) ll) .int (c_gt (by (first | lia | omega)))))) (.asg (.two (.call (.cons (.var rfl) (.one .int)) (mx ⟨by decide, by decide⟩)) (.bi (.one (.var rfl)) ll) eA) ?_)
      rcases Classical.em (c.fmod 6 = 0) with u | u
      · rcases Nat.lt_or_ge A rows2.length with z | z
        · exact .ifT (.andT (.cmp (.var rfl) .int (c_eq u)) (.andL (.cmp (.var rfl) (.bi (.one (.var rfl)) ll') (c_lt (Int.ofNat_lt.mpr z))))) (.asg (.item (.var rfl) (.var rfl) (itemL kx' (rowAt z))) (nr _ (ok2 _ (List.getElem_mem z))))
        · exact .ifF (.andT (.cmp (.var rfl) .int (c_eq u)) (.andL (.cmp (.var rfl) (.bi (.one (.var rfl)) ll') (c_lt' fun y => Nat.not_lt.mpr z (Int.ofNat_lt.mp y))))) (nr s os)
      · exact .ifF (.andF (.cmp (.var rfl) .int (c_eq' u))) (nr s os)
  · exact .ifF (.andF (.cmp (.var rfl) .int (c_lt' y))) rest
end
end Mine
end

section
/-! two books of one ledger, and the lists of their rows that the law keeps -/
namespace Mine
structure HasW (P : Pg) : Prop extends HasB P, HasG P where
  twin : P.fn ("", "_law_twin") = some f_law_twin
  change : ∃ z, P.fn ("", "_law_change") = some ⟨4, ["_law_book", "_law_rows_here", "_law_others", "_law_cell", "_law_kind", "_law_text_here", z], f_law_change_2.body⟩
  books : P.fn ("", "_law_books") = some f_law_books
  lroom : P.fn ("", "_law_room") = some f_law_room
theorem bits_le {i : Int} {k : Nat} (h : i.natAbs < 2 ^ k) : bitsOf i ≤ k := by
  unfold bitsOf
  split
  · exact Nat.zero_le _
  · next z => exact Nat.succ_le_of_lt ((Nat.log2_lt z).mpr h)
theorem le_bits (i : Int) : i.natAbs < 2 ^ bitsOf i := by
  unfold bitsOf
  split
  · next z => rw [z]; exact Nat.one_pos
  · exact Nat.lt_log2_self
theorem bits_half {c : Int} (h : bitsOf c ≤ mostBits) : bitsOf (c.fdiv 2) ≤ mostBits :=
  Nat.le_trans (bits_le (Nat.lt_of_le_of_lt (by rw [Int.fdiv_eq_ediv_of_nonneg _ (by decide)]; (first | lia | omega)) (le_bits c))) h
structure Wld (h : Hp) (w : Wd) (rw : Nat → List Row) (N M : Nat) : Prop where
  W : Wh h w
  G : Good w
  bk : ∀ j, j < 2 → ∃ b, w.bk j = some b ∧ b.rows = rw j ∧ b.lg = 0
  xs : ∀ j, j < 2 → w.xs j = some (.list ((rw j).map .str))
  bs : w.xs 4 = some (.list [.ref (w.ad (.b 0)), .ref (w.ad (.b 1))])
  ks : w.xs 5 = some (.list [.ref (w.ad (.x 0)), .ref (w.ad (.x 1))])
  tt : ∃ T, w.T 0 = some T ∧ T.length ≤ N
  few : ∀ j, j < 2 → (rw j).length ≤ M
section
variable {P : Pg} {h h' : Hp} {n i j k : Nat} {T : List V} {w : Wd} {b : Bkd} {r : Nat} {rw : Nat → List Row} {N M : Nat} {c : Int}
theorem Rp.regX (W : Wh h w) (m : Nat) {o : Ob} (x : ∃ x, h' = h ++ x) (e : h'[r]? = some o) (l : h.length ≤ r) : Wh h' (w.newX m o r) :=
  let ⟨x, f⟩ := x
  Rp.regN (f ▸ W.app x) e (W.fr l)
theorem Good.newX {m : Nat} {o : Ob} (G : Good w) : Good (w.newX m o r) := ⟨G.uni, G.bks⟩
theorem newX_x {m : Nat} {o : Ob} : (w.newX m o r).ad (.x m) = r := upR_self
theorem newX_xs {m : Nat} {o : Ob} : (w.newX m o r).xs m = some o := upd_self
theorem newX_ne {m k : Nat} {o : Ob} (q : k ≠ m) : (w.newX m o r).xs k = w.xs k := upd_ne q
theorem newX_ad {m : Nat} {o : Ob} {s : Ro} (q : s ≠ .x m) : (w.newX m o r).ad s = w.ad s := upR_ne q

theorem Wld.reg (L : Wld h w rw N M) {m : Nat} {o : Ob} (hm : 6 ≤ m) (x : ∃ x, h' = h ++ x) (e : h'[r]? = some o) (l : h.length ≤ r) : Wld h' (w.newX m o r) rw N M :=
  ⟨Rp.regX L.W m x e l, L.G.newX, L.bk, fun j q => (newX_ne (by (first | lia | omega))).trans (L.xs j q), by rw [newX_ne (by (first | lia | omega)), newX_ad (s := .b 0) nofun, newX_ad (s := .b 1) nofun]; exact L.bs, by rw [newX_ne (by (first | lia | omega)), newX_ad (s := .x 0) (fun z => by have := Ro.x.inj z; (first | lia | omega)), newX_ad (s := .x 1) (fun z => by have := Ro.x.inj z; (first | lia | omega))]; exact L.ks, L.tt, L.few⟩
theorem Chd.wld {T : List V} {rows : List Row} (L : Wld h w rw N M) (hj : j < 2) (C : Chd w j j b T h' w' rows) (e0 : b.lg = 0) (hT : T.length ≤ N) (hl : rows.length ≤ M + 1) : Wld h' w' (upd rw j rows) (N + 20) (M + 1) := by
  refine ⟨C.W, C.G, fun i q => ?_, fun i q => ?_, ?_, ?_, ?_, fun i q => ?_⟩
  · rcases Classical.em (i = j) with z | z
    · subst z; refine el_xpp (C.bk) fun b' b1 b2 b3 => ?_; exact in_xpp b' b1 (by rw [upd_self]; exact b2) (b3.trans e0)
    · refine el_xpp (L.bk i q) fun b' b1 b2 b3 => ?_; exact in_xpp b' ((C.oth i z).trans b1) (by rw [upd_ne z]; exact b2) b3
  · rw [C.xs]
    rcases Classical.em (i = j) with z | z
    · subst z; rw [upd_self, upd_self]
    · rw [upd_ne z, upd_ne z]; exact L.xs i q
  · rw [C.xs, upd_ne (by (first | lia | omega)), C.ad (.b 0) fun _ => nofun, C.ad (.b 1) fun _ => nofun]; exact L.bs
  · rw [C.xs, upd_ne (by (first | lia | omega)), C.ad (.x 0) fun _ => nofun, C.ad (.x 1) fun _ => nofun]; exact L.ks
  · refine el_xp (C.few) fun T' t1 t2 => ?_; rw [e0] at t1; exact in_xp T' t1 (by (first | lia | omega))
  · rcases Classical.em (i = j) with z | z
    · subst z; rw [upd_self]; exact hl
    · rw [upd_ne z]; exact Nat.le_succ_of_le (L.few i q)
theorem Wld.bsAt (L : Wld h w rw N M) (hj : j < 2) : getItem (.ref (w.ad (.x 4))) (.int (j : Nat)) h = .ok (.ref (w.ad (.b j))) h :=
  itemL (L.W.oth L.bs) (match j, hj with | 0, _ => rfl | 1, _ => rfl)
theorem Wld.ksAt (L : Wld h w rw N M) (hj : j < 2) : getItem (.ref (w.ad (.x 5))) (.int (j : Nat)) h = .ok (.ref (w.ad (.x j))) h :=
  itemL (L.W.oth L.ks) (match j, hj with | 0, _ => rfl | 1, _ => rfl)

theorem law_room (hr : P.fn ("", "_law_room") = some f_law_room) {l : List V} (hl : l.length ≤ 63) {a b : V} : run P (n + 1) ("", "_law_room") [.fz l, a, b] h = .ok a h :=
  go (Q := (· = _)) hr rfl (.ifF (.cmp (.bi (.one (.var rfl)) (show bfn "len" [.fz l] h = .ok (.int (l.length : Nat)) h from rfl)) .int (c_gt' (by (first | lia | omega)))) (.ret (.var rfl) rfl))

theorem make_book (p : HasB P) {g : Gm} {x y : Nat} {rows : List Row} {q : Nat} {m : Nat} (W : Wh h w) (G : Good w) (nb : w.bk j = none) (eT : w.T 0 = some T) (ga : g[x]? = some (some (.ref (w.ad (.a 0))))) (gy : g[y]? = some (some (.ref q))) (hq : h[q]? = some (.list (rows.map .str))) (hn : rows.length ≤ 1024) (hr : ∀ r ∈ rows, rowOk r) (hT : T.length + 20 * rows.length < 900000) :
    ∃ h' w', Ev P (run P (n + 6)) g h (.make "Book" [.var x, .bi "list" [.var y]]) (.ref (w'.ad (.b j))) h' ∧ Made (w.newX m (.list (rows.map .str)) h.length) j 0 T rows h' w' := by
  have W1 : Wh (h ++ [.list (rows.map .str)]) (w.newX m (.list (rows.map .str)) h.length) := W.newX _
  refine el_xxpp (book_init (n := n) p W1 G.newX nb eT newX_xs hn hr hT) fun h2 w2 e2 ea M => ?_
  rw [newX_ad (s := .a 0) nofun, newX_x] at e2
  refine in_xxp h2 w2 ?_ M
  rw [ea]
  exact .make (.cons (.var ga) (.one (.bi (.one (.var gy)) (listD hq)))) p.binit e2

theorem newT_a {p : Nat} : (w.newT i p).ad (.a i) = p := (upR_ne (s := .a i) (r := .t i) nofun).trans ((upR_ne (s := .a i) (r := .d i) nofun).trans upR_self)
theorem led_make (p : HasL P) {g : Gm} (W : Wh h w) (nb : ∀ j, w.bk j = none) : ∃ h', Ev P (run P (n + 1)) g h (.make "Ledger" []) (.ref ((w.newT 0 h.length).ad (.a 0))) h' ∧ Wh h' (w.newT 0 h.length) :=
  ⟨_, by rw [newT_a]; exact .make .nil p.init (led_init p), W.newT nb⟩
noncomputable def w0 : Wd := ⟨fun _ => 0, fun _ => none, fun _ => none, fun _ => none⟩
theorem w0_none (r : Ro) : cont w0 r = none := by cases r <;> rfl
theorem Wh.none (h : Hp) : Wh h w0 := ⟨fun {r _} e => absurd ((w0_none r).symm.trans e) nofun, fun {r _ _ _} e => absurd ((w0_none r).symm.trans e) nofun⟩
theorem xne {a b : Nat} (q : a ≠ b) : Ro.x a ≠ Ro.x b := fun z => q (Ro.x.inj z)
theorem bne {a b : Nat} (q : a ≠ b) : Ro.b a ≠ Ro.b b := fun z => q (Ro.b.inj z)
theorem good0 : Good (w0.newT 0 k) := ⟨fun {i T} e => (Classical.em (i = 0)).elim (fun z => by
    subst z
    have e : upd w0.T 0 (some []) 0 = some T := e
    rw [upd_self] at e; cases e; exact fun _ _ _ q => nomatch q) (fun z => by
    have e : upd w0.T 0 (some []) i = some T := e
    rw [upd_ne z] at e; cases e), fun e => nomatch e⟩
noncomputable def twoR (x y : List Row) : Nat → List Row := fun j => if j = 0 then x else y

theorem min_gap (n : Nat) : min 11 n - min 3 n ≤ 8 := by
  rcases Nat.le_total 11 n with q | q
  · rw [Nat.min_eq_left q, Nat.min_eq_left (Nat.le_trans (by decide) q)]
    decide
  · rw [Nat.min_eq_right q]
    rcases Nat.le_total 3 n with z | z
    · rw [Nat.min_eq_left z]; exact Nat.sub_le_of_le_add q
    · rw [Nat.min_eq_right z, Nat.sub_self]; decide
theorem sl_script {ns : List Int} : ∃ l : List Int, (∀ i ∈ l, i ∈ ns) ∧ l.length ≤ 8 ∧ getSlice (.fz (ns.map .int)) (.int 3) (.int (3 + 8)) h = .ok (.ref h.length) (h ++ [.list (l.map .int)]) := by
  refine in_xpp (Mine.cut ns (min 3 ns.length) (min 11 ns.length)) (fun i hi => List.mem_of_mem_drop (List.mem_of_mem_take hi)) ?_ ?_
  · unfold Mine.cut; rw [List.length_take]; exact Nat.le_trans (Nat.min_le_left _ _) (min_gap _)
  · show alloc (.list (Mine.cut (ns.map V.int) (clamp ((3 : Nat) : Int) (ns.map V.int).length) (clamp ((11 : Nat) : Int) (ns.map V.int).length))) h = _
    rw [List.length_map, clamp_min, clamp_min]; unfold Mine.cut; rw [← List.map_drop, ← List.map_take]; rfl
theorem Wld.mono {N' M' : Nat} (L : Wld h w rw N M) (a : N ≤ N') (b : M ≤ M') : Wld h w rw N' M' := ⟨L.W, L.G, L.bk, L.xs, L.bs, L.ks, let ⟨T, x, y⟩ := L.tt; ⟨T, x, Nat.le_trans y a⟩, fun j q => Nat.le_trans (L.few j q) b⟩
theorem Wld.good (L : Wld h w rw N M) (hj : j < 2) : ∀ s ∈ rw j, rowOk s := by
  refine el_xpp (L.bk j hj) fun b b1 b2 _ => ?_
  refine el_xp (L.G.bks b1) fun T _ B => ?_
  rw [← b2]; exact B.good
theorem bit_of {c : Int} : ∃ j : Nat, j < 2 ∧ ∀ {h : Hp}, binop .mod (.int c) (.int 2) h = .ok (.int (j : Nat)) h := by
  refine el_x (Int.eq_ofNat_of_zero_le (fm c (b := 2) (by decide)).1) fun j ej => ?_
  exact in_xp j (Int.ofNat_lt.mp (ej ▸ (fm c (b := 2) (by decide)).2)) (fun {h} => ej ▸ (show R.ok (V.int (c.fmod 2)) h = _ from rfl))

theorem two_books (p : HasW P) {g : Gm} {A B : List Row} {r2 r3 : Nat} (W : Wh h w) (G : Good w) (nb : ∀ j, w.bk j = none) (eT : w.T 0 = some []) (g1 : g[1]? = some (some (.ref (w.ad (.a 0))))) (g2 : g[2]? = some (some (.ref r2))) (g3 : g[3]? = some (some (.ref r3))) (x0 : w.xs 0 = some (.list (A.map .str))) (x1 : w.xs 1 = some (.list (B.map .str))) (a0 : w.ad (.x 0) = r2) (a1 : w.ad (.x 1) = r3)
    (oA : ∀ s ∈ A, rowOk s) (oB : ∀ s ∈ B, rowOk s) (lA : A.length ≤ 910) (lB : B.length ≤ 910) :
    ∃ h' w', Ev P (run P (n + 7)) g h (.list [.make "Book" [.var 1, .bi "list" [.var 2]], .make "Book" [.var 1, .bi "list" [.var 3]]]) (.ref (w'.ad (.x 4))) h' ∧ Wh h' w' ∧ Good w' ∧ (∀ j, j < 2 → ∃ b, w'.bk j = some b ∧ b.rows = twoR A B j ∧ b.lg = 0) ∧ (∀ j, j < 2 → w'.xs j = some (.list ((twoR A B j).map .str))) ∧ w'.ad (.x 0) = r2 ∧ w'.ad (.x 1) = r3 ∧
      w'.xs 4 = some (.list [.ref (w'.ad (.b 0)), .ref (w'.ad (.b 1))]) ∧ ∃ T, w'.T 0 = some T ∧ T.length ≤ 40000 := by
  have q2 := W.oth x0
  rw [a0] at q2
  refine el_xxp (make_book (n := n + 1) (j := 0) (m := 2) p.toHasB W G (nb 0) eT g1 g2 q2 (by (first | lia | omega)) oA (by show 0 + _ < _; (first | lia | omega))) fun h4 w4 e4 M4 => ?_
  refine el_xp (M4.few) fun T4 t4 f4 => ?_
  have ad4 : ∀ r, r ≠ .x 2 → r ≠ .b 0 → r ≠ .l 0 → r ≠ .v 0 → (∀ k, r ≠ .s 0 k) → w4.ad r = w.ad r := fun r a b c d e => (M4.ad r b c d e).trans (newX_ad a)
  have y1 : w4.xs 1 = some (.list (B.map .str)) := by rw [M4.xs, newX_ne (by decide)]; exact x1
  have q3 := M4.W.oth y1
  rw [ad4 (.x 1) (xne (by decide)) nofun nofun nofun fun _ => nofun, a1] at q3
  have f4 : T4.length ≤ 20 * A.length := Nat.le_trans f4 (Nat.le_of_eq (Nat.zero_add _))
  refine el_xxp (make_book (n := n + 1) (j := 1) (m := 3) p.toHasB M4.W M4.G ((M4.oth 1 (by decide)).trans (nb 1)) t4 (by rw [ad4 (.a 0) nofun nofun nofun nofun fun _ => nofun]; exact g1) g3 q3 (by (first | lia | omega)) oB (by (first | lia | omega))) fun h5 w5 e5 M5 => ?_
  refine el_xp (M5.few) fun T5 t5 f5 => ?_
  have ad5 : ∀ r, r ≠ .x 3 → r ≠ .b 1 → r ≠ .l 1 → r ≠ .v 1 → (∀ k, r ≠ .s 1 k) → w5.ad r = w4.ad r := fun r a b c d e => (M5.ad r b c d e).trans (newX_ad a)
  have ab : w5.ad (.b 0) = w4.ad (.b 0) := ad5 (.b 0) nofun (bne (by decide)) nofun nofun fun _ => nofun
  have z : ∀ k, k ≠ 2 → k ≠ 3 → w5.xs k = w.xs k := fun k a b => by rw [M5.xs, newX_ne b, M4.xs, newX_ne a]
  refine ⟨_, w5.newX 4 (.list [.ref (w4.ad (.b 0)), .ref (w5.ad (.b 1))]) h5.length, ?_, M5.W.newX _, M5.G.newX, fun j hj => ?_, fun j hj => ?_, ?_, ?_, ?_, T5, t5, by (first | lia | omega)⟩
  · rw [newX_x]; exact .list (.cons e4 (.one e5)) (le9 (n := 2) rfl)
  · match j, hj with
    | 0, _ => refine el_xpp (M4.bk) fun b b1 b2 b3 => ?_; exact in_xpp b ((M5.oth 0 (by decide)).trans b1) b2 b3
    | 1, _ => refine el_xpp (M5.bk) fun b b1 b2 b3 => ?_; exact in_xpp b b1 b2 b3
  · match j, hj with
    | 0, _ => rw [newX_ne (by decide), z 0 (by decide) (by decide)]; exact x0
    | 1, _ => rw [newX_ne (by decide), z 1 (by decide) (by decide)]; exact x1
  · rw [newX_ad (s := .x 0) (xne (by decide)), ad5 (.x 0) (xne (by decide)) nofun nofun nofun fun _ => nofun, ad4 (.x 0) (xne (by decide)) nofun nofun nofun fun _ => nofun, a0]
  · rw [newX_ad (s := .x 1) (xne (by decide)), ad5 (.x 1) (xne (by decide)) nofun nofun nofun fun _ => nofun, ad4 (.x 1) (xne (by decide)) nofun nofun nofun fun _ => nofun, a1]
  · rw [newX_xs, newX_ad (s := .b 0) nofun, newX_ad (s := .b 1) nofun, ab]

theorem books (p : HasW P) {ns : List Int} (hl : ns.length ≤ 63) (hb : ∀ i ∈ ns, bitsOf i ≤ mostBits) :
    ∃ h' w rw, run P (n + 8) ("", "_law_books") [.fz (ns.map .int)] h = .ok (.tup [.ref (w.ad (.x 4)), .ref (w.ad (.x 5))]) h' ∧ Wld h' w rw 100000 1000 := by
  have bd : ∀ k, bitsOf (ns.getD k 0) ≤ mostBits := fun k => by
    rw [List.getD_eq_getElem?_getD]
    rcases Nat.lt_or_ge k ns.length with q | q
    · rw [List.getElem?_eq_getElem q]; exact hb _ (List.getElem_mem q)
    · rw [List.getElem?_eq_none q]; exact Nat.zero_le _
  have ce : ∀ {h : Hp} {k : Nat}, run P (n + 7) ("", "_law_cell_at") [.fz (ns.map .int), .int (k : Nat)] h = .ok (.int (ns.getD k 0)) h := cell p.toHasG
  refine el_xp (led_make (n := n + 6) p.toHasL (g := [some (.fz (ns.map .int)), none, none, none, none, none, none, none]) (Wh.none h) (fun _ => rfl)) fun h1 e1 W1 => ?_
  have G1 : Good (w0.newT 0 h.length) := good0
  have T1 : (w0.newT 0 h.length).T 0 = some [] := (show upd w0.T 0 (some []) 0 = some [] from upd_self)
  have B1 : ∀ j, (w0.newT 0 h.length).bk j = none := fun _ => rfl
  refine el_xxxp (rows_of (n := n + 4) (h := h1) p.toHasG (c := ns.getD 0 0) (bd 1)) fun r2 A h2 e2 N2 => ?_
  have W2 := W1.regX 0 N2.ext N2.get N2.lo
  refine el_xxxp (twin (n := n + 4) p.toHasG p.twin (bd 2) N2.get N2.ok N2.few) fun r3 B h3 e3 N3 => ?_
  generalize w0.newT 0 h.length = w1 at e1 W1 G1 W2 T1 B1
  have rest : ∀ (r3 : Nat) (B : List Row) (h3 : Hp), New h2 r3 B h3 910 → X P (run P (n + 7)) (f_law_books.body.drop 4) [some (.fz (ns.map .int)), some (.ref (w1.ad (.a 0))), some (.ref r2), some (.ref r3), none, none, none, none] h3 (fun q => ∃ h' w rw, q.back = .ok (.tup [.ref (w.ad (.x 4)), .ref (w.ad (.x 5))]) h' ∧ Wld h' w rw 100000 1000) := fun r3 B h3 N3 => by
    have W3 := W2.regX 1 N3.ext N3.get N3.lo
    have f2 := N2.few
    obtain ⟨h4, w4, e4, W4, G4, b4, x4, c0, c1, s4, T4, t4, f4⟩ := two_books (n := n) p (g := [some (.fz (ns.map .int)), some (.ref (w1.ad (.a 0))), some (.ref r2), some (.ref r3), none, none, none, none]) W3 (G1.newX.newX) B1 T1 (by rw [newX_ad (s := .a 0) nofun, newX_ad (s := .a 0) nofun]; rfl) rfl rfl ((newX_ne (by decide)).trans newX_xs) newX_xs ((newX_ad (xne (by decide))).trans newX_x) newX_x N2.ok N3.ok (by (first | lia | omega)) N3.few
    have L5 : Wld (h4 ++ [.list [.ref r2, .ref r3]]) (w4.newX 5 (.list [.ref r2, .ref r3]) h4.length) (twoR A B) 40000 910 :=
      ⟨W4.newX _, G4.newX, b4, fun j q => (newX_ne (by (first | lia | omega))).trans (x4 j q), by rw [newX_ne (by decide), newX_ad (s := .b 0) nofun, newX_ad (s := .b 1) nofun]; exact s4, by rw [newX_xs, newX_ad (s := .x 0) (xne (by decide)), newX_ad (s := .x 1) (xne (by decide)), c0, c1], ⟨T4, t4, f4⟩, fun j q => match j, q with
        | 0, _ => Nat.le_trans f2 (by decide)
        | 1, _ => N3.few⟩
    have a5 : (w4.newX 5 (.list [.ref r2, .ref r3]) h4.length).ad (.x 4) = w4.ad (.x 4) := newX_ad (xne (by decide))
    have a5' : (w4.newX 5 (.list [.ref r2, .ref r3]) h4.length).ad (.x 5) = h4.length := newX_x
    refine .asg e4 (.asg (.list (.cons (.var rfl) (.one (.var rfl))) (le9 (n := 2) rfl)) ?_)
    generalize w4.newX 5 (.list [.ref r2, .ref r3]) h4.length = w5 at L5 a5 a5'
    rw [← a5, ← a5']
    clear a5 a5' W4 x4 s4
    generalize h4 ++ [.list [.ref r2, .ref r3]] = h5 at L5
    refine el_xpp (sl_script (h := h5) (ns := ns)) fun l l1 l8 esl => ?_
    have L6 := L5.reg (m := 6) (by decide) ⟨_, rfl⟩ (gn h5 (.list (l.map .int))) (Nat.le_refl _)
    refine .forr (fun k g h' => k ≤ l.length ∧ ∃ w rw t6 t7, g = [some (.fz (ns.map .int)), some (.ref (w1.ad (.a 0))), some (.ref r2), some (.ref r3), some (.ref (w5.ad (.x 4))), some (.ref (w5.ad (.x 5))), t6, t7] ∧ Wld h' w rw (40000 + 20 * k) (910 + k) ∧ w.xs 6 = some (.list (l.map .int)) ∧ w.ad (.x 6) = h5.length ∧ w.ad (.x 4) = w5.ad (.x 4) ∧ w.ad (.x 5) = w5.ad (.x 5)) l.length (Nat.lt_of_le_of_lt l8 (by decide))
      (.slc (.var rfl) .int (.two .int (.call (.cons (.var rfl) (.cons .int (.one .int))) (law_room p.lroom (by rw [List.length_map]; exact hl))) rfl) esl) ⟨Nat.zero_le _, _, _, none, none, rfl, L6, newX_xs, newX_x, newX_ad (xne (by decide)), newX_ad (xne (by decide))⟩ fun k g h' z => ?_
    obtain ⟨kl, w, rw', t6, t7, rfl, L, x6, a6, a4, a5⟩ := z
    have o6 := L.W.oth x6
    rw [a6] at o6
    rcases Nat.lt_or_ge k l.length with q | q
    · have hc : (l.map V.int)[k]? = some (.int l[k]) := by rw [List.getElem?_map, List.getElem?_eq_getElem q]; rfl
      refine .inr ⟨.int l[k], _, (nth_rows o6).trans (congrArg some hc), q, rfl, ?_⟩
      refine el_xp (bit_of (c := l[k])) fun j hj ej => ?_
      refine el_xpp (L.bk j hj) fun b b1 b2 b3 => ?_
      refine el_xp (L.tt) fun T t1 t2 => ?_
      have fj := L.few j hj
      have i1 := L.bsAt hj
      have i2 := L.ksAt hj
      have i3 := L.ksAt (j := 1 - j) (by (first | lia | omega))
      rw [a4] at i1
      rw [a5] at i2 i3
      refine el_x (p.change) fun zc hch => ?_
      refine el_xxxpp (change (n := n + 1) (k := j) (k' := 1 - j) p.toHasB p.toHasG hch L.W L.G b1 (by rw [b3]; exact t1) (by (first | lia | omega)) (by rw [b2]; exact L.xs j hj) (L.xs (1 - j) (by (first | lia | omega))) (L.good (by (first | lia | omega))) (by rw [b2]; (first | lia | omega)) (bits_half (hb _ (l1 _ (List.getElem_mem q))))) fun h2' w2' rows e6 C cl => ?_
      rw [b2] at cl
      have L2 := C.wld L hj b3 t2 (by (first | lia | omega))
      have sj : (1 : Int) - (j : Nat) = ((1 - j : Nat) : Int) := by (first | lia | omega)
      exact .asg (.two (.var rfl) .int ej) (.expr (.call (.cons (.item (.var rfl) (.var rfl) i1) (.cons (.item (.var rfl) (.var rfl) i2) (.cons (.item (.var rfl) (.two .int (.var rfl) rfl) (sj ▸ i3)) (.one (.two (.var rfl) .int rfl))))) e6)
        (.nil ⟨q, w2', _, _, _, rfl, L2.mono (by (first | lia | omega)) (by (first | lia | omega)), by rw [C.xs, upd_ne (by (first | lia | omega))]; exact x6, (C.ad (.x 6) fun _ => nofun).trans a6, (C.ad (.x 4) fun _ => nofun).trans a4, (C.ad (.x 5) fun _ => nofun).trans a5⟩))
    · refine .inl ⟨(nth_rows o6).trans (congrArg some (List.getElem?_eq_none (by rw [List.length_map]; exact q))), .ret (.tup (.cons (.var rfl) (.one (.var rfl))) (le9 (n := 2) rfl)) ⟨h', w, rw', by rw [a4, a5]; rfl, L.mono (by (first | lia | omega)) (by (first | lia | omega))⟩⟩
  have cs : ∀ (k : Nat) (hk : k < 3) {g : Gm} {h : Hp}, g[0]? = some (some (.fz (ns.map .int))) → Ev P (run P (n + 7)) g h (.call "_law_cell_at" [.var 0, .int (k : Nat)]) (.int (ns.getD k 0)) h := fun k _ {g h} q => .call (.cons (.var q) (.one .int)) ce
  refine go (Q := fun q => ∃ (h' : Hp) (w : Wd) (rw : Nat → List Row), q = .ok (.tup [.ref (w.ad (.x 4)), .ref (w.ad (.x 5))]) h' ∧ Wld h' w rw 100000 1000) (vs := [.fz (ns.map .int)]) p.books rfl (.asg e1 (.asg (.call (.cons (cs 0 (by decide) rfl) (.one (cs 1 (by decide) rfl))) e2) (.asg (.call (.cons (.var rfl) (.one (cs 2 (by decide) rfl))) e3) (.if (.cmp (.two (.two (cs 1 (by decide) rfl) .int rfl) .int rfl) .int c_eqI) (fun _ => ?_) fun _ => rest r3 B h3 N3))))
  refine el_xxxp (rows_of (n := n + 4) (h := h3) p.toHasG (c := ns.getD 2 0) (bd 1)) fun r4 B4 h4 e4 N4 => ?_
  exact .asg (.call (.cons (cs 2 (by decide) rfl) (.one (cs 1 (by decide) rfl))) e4) (rest r4 B4 h4 (N3.next N4.ext N4.lo N4.get N4.ok (Nat.le_trans N4.few (by decide))))
end
end Mine
end

section
/-! a count's parts -/
namespace Mine
structure HasN (P : Pg) : Prop where
  size : P.fn ("", "size_of") = some f_size_of
  digits : P.fn ("", "digits") = some f_digits
  parted : P.fn ("", "parted") = some f_parted
theorem lt_bits (n : Nat) : n < 2 ^ bitsOf (n : Int) := le_bits (n : Int)
theorem bits_next {n : Nat} (h : 0 < n) : bitsOf (n : Int) = bitsOf ((n / 2 : Nat) : Int) + 1 := by
  unfold bitsOf
  rw [Int.natAbs_natCast, Int.natAbs_natCast, if_neg (Nat.ne_of_gt h)]
  split
  · next z => obtain rfl : n = 1 := by (first | lia | omega)
              decide
  · rw [Nat.log2_def n, if_pos (by (first | lia | omega))]
theorem bits_few {m : Nat} (h : m ≤ 1024) : bitsOf (m : Int) ≤ 11 := bits_le (Nat.lt_of_le_of_lt h (by decide))

noncomputable def pts (c : Nat) : Nat → List (Nat × Nat)
  | 0 => []
  | h + 1 => (if c / 2 ^ h % 2 = 1 then [(h, 2 * (c / 2 ^ (h + 1)))] else []) ++ pts c h
noncomputable def base (c h : Nat) : Nat := c / 2 ^ h * 2 ^ h
theorem base_two (c k : Nat) : base c k = base c (k + 1) + c / 2 ^ k % 2 * 2 ^ k := by
  unfold base
  rw [two_mul_pow, ← Nat.add_mul, ← div_next, Nat.div_add_mod]
theorem base_le (c h : Nat) : base c h ≤ c := Nat.div_mul_le_self _ _
theorem base_over (c k : Nat) : base c (k + 1) / 2 ^ k = 2 * (c / 2 ^ (k + 1)) := by
  unfold base; rw [two_mul_pow, Nat.mul_div_cancel _ (Nat.pow_pos (by decide))]
theorem base_fit (c k : Nat) : base c (k + 1) + 2 ^ k ≤ c ↔ c / 2 ^ k % 2 = 1 := by
  have e := base_two c k
  have p : 0 < 2 ^ k := Nat.pow_pos (by decide)
  have d := Nat.div_add_mod c (2 ^ k)
  have m := Nat.mod_lt c p
  have b := base_le c k
  rw [Nat.mul_comm] at d
  have d : base c k + c % 2 ^ k = c := d
  rcases Nat.mod_two_eq_zero_or_one (c / 2 ^ k) with z | z
  · rw [z, Nat.zero_mul] at e; exact ⟨fun q => by (first | lia | omega), fun q => by (first | lia | omega)⟩
  · rw [z, Nat.one_mul] at e; exact ⟨fun _ => z, fun _ => by (first | lia | omega)⟩
theorem pts_yes {c k : Nat} {f P : List (Nat × Nat)} (q : f ++ pts c (k + 1) = P) (z : c / 2 ^ k % 2 = 1) : (f ++ [(k, 2 * (c / 2 ^ (k + 1)))]) ++ pts c k = P ∧ base c (k + 1) + 2 ^ k = base c k := by
  unfold pts at q; rw [if_pos z] at q
  exact ⟨by rw [List.append_assoc]; exact q, by rw [base_two c k, z, Nat.one_mul]⟩
theorem pts_no {c k : Nat} {f P : List (Nat × Nat)} (q : f ++ pts c (k + 1) = P) (z : ¬ c / 2 ^ k % 2 = 1) : f ++ pts c k = P ∧ base c (k + 1) = base c k := by
  unfold pts at q; rw [if_neg z] at q
  exact ⟨q, by rw [base_two c k, show c / 2 ^ k % 2 = 0 by (first | lia | omega), Nat.zero_mul]; rfl⟩
theorem pts_len (c : Nat) : ∀ h, (pts c h).length ≤ h
  | 0 => Nat.le_refl _
  | k + 1 => by
    have := pts_len c k
    unfold pts; rw [List.length_append]; split
    · rw [List.length_singleton]; (first | lia | omega)
    · rw [List.length_nil]; (first | lia | omega)
noncomputable def tl (p : Nat × Nat) : V := .tup [.int p.1, .int p.2]
section
variable {P : Pg} {h : Hp} {n k c : Nat} {cl : CallT} {g : Gm}
theorem pow_lt (hk : k < 60) : 2 ^ k < 2 ^ 60 := Nat.pow_lt_pow_right (by decide) hk
theorem run_sizeG {f : Fid} {x y z : String} (hd : P.fn f = some ⟨1, [x, y, z], f_size_of.body⟩) (hk : k < 60) : run P (n + 1) f [.int (k : Nat)] h = .ok (.int (2 ^ k : Nat)) h :=
  go (Q := (· = _)) hd rfl (.asg .int (.range (fun m g h' => h' = h ∧ m ≤ k ∧ ∃ t, g = [some (.int (k : Nat)), some (.int (2 ^ m : Nat)), t]) k rfl (Nat.lt_trans hk (by decide)) (.var rfl) ⟨rfl, Nat.zero_le _, none, rfl⟩
    (fun m g h' z lt => by
      refine el_ppx z fun tq0 _ t tqz => ?_; try clear z; subst tq0; subst tqz
      have e : ((2 ^ m : Nat) : Int) * 2 = ((2 ^ (m + 1) : Nat) : Int) := by rw [Nat.pow_succ]; (first | lia | omega)
      exact .asg (.two (.var rfl) .int (b_mul (bits_small (by rw [Int.natAbs_natCast]; exact Nat.lt_trans (pow_lt (Nat.lt_trans lt hk)) (by decide))) (by decide))) (.nil ⟨rfl, lt, _, by rw [e]; rfl⟩))
    (fun g h' z => by refine el_ppx z fun tq0 _ t tqz => ?_; try clear z; subst tq0; subst tqz; exact .ret (.var rfl) rfl)))
theorem Ev.bits {o : E} {a : Int} {h' : Hp} (x : Ev P cl g h o (.int a) h') : Ev P cl g h (.meth o "bit_length" []) (.int (bitsOf a)) h' := by unfold Ev at *; rw [ev_meth, x]; rfl
theorem run_digits (p : HasN P) {c : Int} : run P (n + 1) ("", "digits") [.int c] h = .ok (.int (bitsOf c)) h := go (Q := (· = _)) p.digits rfl (.ret (.bits (.var rfl)) rfl)
theorem fdiv_pow {a : Nat} (hk : k < 30) : binop .fdiv (.int (a : Nat)) (.int (2 ^ k : Nat)) h = .ok (.int (a / 2 ^ k : Nat)) h := by
  have p : (2 : Nat) ^ k > 0 := Nat.pow_pos (by decide)
  have l : (2 : Nat) ^ k < 2 ^ 30 := Nat.pow_lt_pow_right (by decide) hk
  show (if ((2 ^ k : Nat) : Int) = 0 ∨ 1073741824 ≤ ((2 ^ k : Nat) : Int).natAbs then R.bad else R.ok (V.int ((a : Int).fdiv ((2 ^ k : Nat) : Int))) h) = _
  rw [if_neg (by rw [Int.natAbs_natCast]; (first | lia | omega)), Int.fdiv_eq_ediv_of_nonneg _ (Int.natCast_nonneg _)]; rfl
theorem law_digits (hd : P.fn ("", "_law_digits") = some f_law_digits) (hc : bitsOf (c : Int) < 1000) : run P (n + 1) ("", "_law_digits") [.int (c : Nat)] h = .ok (.int (bitsOf (c : Int) : Nat)) h := by
  refine go (Q := (· = _)) hd rfl (.asg .int (.whil (fun m g h' => h' = h ∧ ∃ j x : Nat, g = [some (.int (x : Nat)), some (.int (j : Nat))] ∧ m = bitsOf (x : Int) ∧ bitsOf (c : Int) = j + m) (m := bitsOf (c : Int)) ⟨rfl, 0, c, rfl, rfl, (Nat.zero_add _).symm⟩ (Nat.lt_trans hc (by decide)) fun m g h' z => ?_))
  · refine el_pxxpp z fun tq0 j x tq3 hm hj => ?_; try clear z; subst tq0; subst tq3
    rcases Nat.eq_zero_or_pos x with q | q
    · subst q
      refine .inr ⟨_, .cmp (.var rfl) .int (c_gt' (by decide)), .ret (.var rfl) ?_⟩
      rw [hj, hm]; rfl
    · exact .inl ⟨_, .cmp (.var rfl) .int (c_gt (by (first | lia | omega))), .asg (.two (.var rfl) .int b_half) (.asg (.two (.var rfl) .int rfl) (.nil ⟨bitsOf ((x / 2 : Nat) : Int), by rw [hm, bits_next q]; exact Nat.lt_succ_self _, rfl, j + 1, x / 2, rfl, rfl, by rw [hj, hm, bits_next q]; (first | lia | omega)⟩))⟩
theorem appT {a : Nat} {l : List (Nat × Nat)} {q : Nat × Nat} (z : l.length < 10000) : objMeth "append" a (.list (l.map tl)) [.tup [.int q.1, .int q.2]] h = .ok .none (h.set a (.list ((l ++ [q]).map tl))) := by
  rw [List.map_append]; exact appL (by rw [List.length_map]; exact Nat.lt_trans z (by decide))

theorem parted (p : HasN P) (h1 : bitsOf (c : Int) ≤ 20) : run P (n + 2) ("", "parted") [.int (c : Nat)] h = .ok (.ref h.length) (h ++ [.list ((pts c (bitsOf (c : Int))).map tl)]) := by
  refine go (Q := (· = _)) (vs := [.int (c : Nat)]) p.parted rfl (.asg (.list .nil (le9 rfl)) (.asg .int (.range (fun k g h' => k ≤ bitsOf (c : Int) ∧ ∃ f t3 t4 t5, g = [some (.int (c : Nat)), some (.ref h.length), some (.int (base c (bitsOf (c : Int) - k) : Nat)), t3, t4, t5] ∧ h' = h ++ [.list (f.map tl)] ∧ f.length ≤ k ∧ f ++ pts c (bitsOf (c : Int) - k) = pts c (bitsOf (c : Int))) (bitsOf (c : Int)) rfl (Nat.lt_of_le_of_lt h1 (by decide)) (.call (.one (.var rfl)) (run_digits p))
    ⟨Nat.zero_le _, [], none, none, none, by rw [Nat.sub_zero, base, Nat.div_eq_of_lt (lt_bits c), Nat.zero_mul]; rfl, rfl, Nat.le_refl _, rfl⟩ (fun k g h' z lt => ?_) fun g h' z => ?_)))
  · obtain ⟨kl, f, t3, t4, t5, rfl, rfl, fl, hf⟩ := z
    obtain ⟨m, hm⟩ : ∃ m, bitsOf (c : Int) - k = m + 1 := ⟨bitsOf (c : Int) - k - 1, by (first | lia | omega)⟩
    have hm' : bitsOf (c : Int) - (k + 1) = m := by (first | lia | omega)
    rw [hm] at hf ⊢
    have ex : (bitsOf (c : Int) : Int) - 1 - (k : Nat) = (m : Nat) := by (first | lia | omega)
    have sz := run_sizeG (n := n) (h := h ++ [.list (f.map tl)]) p.size (k := m) (by (first | lia | omega))
    refine .asg (.two (.two (.call (.one (.var rfl)) (run_digits p)) .int rfl) (.var rfl) rfl) ?_
    rw [ex]
    refine .asg (.call (.one (.var rfl)) sz) ?_
    have bl := base_le c (m + 1)
    rcases Classical.em (c / 2 ^ m % 2 = 1) with z | z
    · obtain ⟨y1, y2⟩ := pts_yes hf z
      have ft := (base_fit c m).mpr z
      refine .ifT (.cmp (.two (.var rfl) (.var rfl) rfl) (.var rfl) (c_ge (by (first | lia | omega)))) (.expr (.lmeth rfl (.var rfl) (gn _ _) (.one (.tup (.cons (.var rfl) (.one (.two (.var rfl) (.var rfl) (fdiv_pow (by (first | lia | omega)))))) (le9 (n := 2) rfl))) (gn _ _) (appT (q := (m, base c (m + 1) / 2 ^ m)) (by (first | lia | omega)))) (.asg (.two (.var rfl) (.var rfl) rfl) (.nil ⟨lt, f ++ [(m, base c (m + 1) / 2 ^ m)], some (.int (k : Nat)), some (.int (m : Nat)), some (.int (2 ^ m : Nat)), ?_, ?_, by rw [List.length_append]; exact Nat.succ_le_succ fl, by rw [base_over, hm']; exact y1⟩)))
      · rw [hm', ← y2]; rfl
      · rw [List.set_append_right _ _ (Nat.le_refl _), Nat.sub_self]; rfl
    · obtain ⟨y1, y2⟩ := pts_no hf z
      have ft : ¬ base c (m + 1) + 2 ^ m ≤ c := fun q => z ((base_fit c m).mp q)
      exact .ifF (.cmp (.two (.var rfl) (.var rfl) rfl) (.var rfl) (c_ge' (by (first | lia | omega)))) (.nil ⟨lt, f, some (.int (k : Nat)), some (.int (m : Nat)), some (.int (2 ^ m : Nat)), by rw [hm', ← y2]; rfl, rfl, Nat.le_succ_of_le fl, by rw [hm']; exact y1⟩)
  · obtain ⟨_, f, t3, t4, t5, rfl, rfl, fl, hf⟩ := z
    rw [Nat.sub_self] at hf
    refine .ret (.var rfl) ?_
    rw [← hf, pts, List.append_nil]; rfl
end
end Mine
end

section
/-! two books are looked at -/
namespace Mine
structure HasK (P : Pg) : Prop extends HasW P, HasN P where
  sumof : P.fn ("Book", "sum_of") = some f_Book_sum_of_2
  count : P.fn ("Book", "count") = some f_Book_count
  kinit : P.fn ("Looker", "__init__") = some f_Looker_init
  alike : P.fn ("Looker", "is_alike") = some f_Looker_is_alike
noncomputable abbrev Look := Nat × Nat × Bool
noncomputable def lk (p : Look) : V := .tup [.int p.1, .int p.2.1, .bool p.2.2]
noncomputable def eqB (a b : List Row) (k i : Nat) : Bool := decide (blk a k i = blk b k i)
noncomputable def desc (a b : List Row) : Nat → Nat → List Look × Nat
  | 0, i => ([], i)
  | k + 1, i => ((k, 2 * i, eqB a b k (2 * i)) :: (desc a b k (2 * i + (eqB a b k (2 * i)).toNat)).1, (desc a b k (2 * i + (eqB a b k (2 * i)).toNat)).2)
noncomputable def walkF (a b : List Row) : List (Nat × Nat) → List Look × Option Nat
  | [] => ([], none)
  | (k, i) :: r => if eqB a b k i then ((k, i, true) :: (walkF a b r).1, (walkF a b r).2) else ((k, i, false) :: (desc a b k i).1, some (desc a b k i).2)
noncomputable def lessR (a b : List Row) : Nat := min a.length b.length
noncomputable def partsR (a b : List Row) : List (Nat × Nat) := pts (lessR a b) (bitsOf (lessR a b : Int))
noncomputable def seenR (a b : List Row) : List Look := (walkF a b (partsR a b)).1
noncomputable def foundR (a b : List Row) : V := match (walkF a b (partsR a b)).2 with
  | some p => .int p
  | none => if a.length = b.length then .none else .int (lessR a b)
theorem pts_in {c k i : Nat} : ∀ {m : Nat}, (k, i) ∈ pts c m → i < c / 2 ^ k ∧ k < m
  | 0, q => nomatch q
  | m + 1, q => by
    unfold pts at q
    rcases List.mem_append.mp q with q | q
    · split at q
      · cases List.mem_singleton.mp q
        refine ⟨?_, Nat.lt_succ_self _⟩
        rw [← div_next]; (first | lia | omega)
      · cases q
    · have := pts_in q; exact ⟨this.1, Nat.lt_succ_of_lt this.2⟩
theorem parts_in {a b : List Row} {k i : Nat} (ha : a.length ≤ 1024) (q : (k, i) ∈ partsR a b) : i < a.length / 2 ^ k ∧ i < b.length / 2 ^ k ∧ k < 11 := by
  obtain ⟨z1, z2⟩ := pts_in q
  have l : lessR a b ≤ 1024 := Nat.le_trans (Nat.min_le_left _ _) ha
  exact ⟨Nat.lt_of_lt_of_le z1 (Nat.div_le_div_right (Nat.min_le_left _ _)), Nat.lt_of_lt_of_le z1 (Nat.div_le_div_right (Nat.min_le_right _ _)), Nat.lt_of_lt_of_le z2 (bits_few l)⟩
theorem walk_go {a b : List Row} : ∀ {l : List (Nat × Nat)} (j : Nat), (∀ q ∈ l.take j, eqB a b q.1 q.2 = true) → walkF a b l = ((l.take j).map (fun q => (q.1, q.2, true)) ++ (walkF a b (l.drop j)).1, (walkF a b (l.drop j)).2)
  | l, 0, _ => rfl
  | [], _ + 1, _ => rfl
  | (k, i) :: r, j + 1, h => by
    have ih := walk_go (l := r) j fun q hq => h q (List.mem_cons_of_mem _ hq)
    rw [walkF, if_pos (h (k, i) (List.mem_cons_self ..)), ih]; rfl
theorem walk_hit {a b : List Row} {l : List (Nat × Nat)} {j k i : Nat} (al : ∀ q ∈ l.take j, eqB a b q.1 q.2 = true) (hq : l[j]? = some (k, i)) (no : eqB a b k i = false) :
    walkF a b l = ((l.take j).map (fun q => (q.1, q.2, true)) ++ (k, i, false) :: (desc a b k i).1, some (desc a b k i).2) := by
  refine el_y (List.getElem?_eq_some_iff.mp hq) fun l1 l2 => ?_
  rw [walk_go j al, List.drop_eq_getElem_cons l1, l2, walkF, if_neg (by rw [no]; decide)]
theorem walk_end {a b : List Row} {l : List (Nat × Nat)} (al : ∀ q ∈ l, eqB a b q.1 q.2 = true) : walkF a b l = (l.map (fun q => (q.1, q.2, true)), none) := by
  have := walk_go (a := a) (b := b) (l := l) l.length (by rw [List.take_length]; exact al)
  rw [this, List.take_length, List.drop_length]; rw [walkF, List.append_nil]
theorem all_next {a b : List Row} {l : List (Nat × Nat)} {j k i : Nat} (al : ∀ q ∈ l.take j, eqB a b q.1 q.2 = true) (hq : l[j]? = some (k, i)) (yes : eqB a b k i = true) : ∀ q ∈ l.take (j + 1), eqB a b q.1 q.2 = true := by
  rw [take_succ_at hq]
  intro q hq'
  rcases List.mem_append.mp hq' with q1 | q1
  · exact al q q1
  · cases List.mem_singleton.mp q1; exact yes
theorem foundR_hit {a b : List Row} {p : Nat} (e : (walkF a b (partsR a b)).2 = some p) : foundR a b = .int p := by unfold foundR; rw [e]
theorem foundR_end {a b : List Row} (e : (walkF a b (partsR a b)).2 = none) : foundR a b = if a.length = b.length then .none else .int (lessR a b) := by unfold foundR; rw [e]

section
variable {P : Pg} {h : Hp} {n i j j' k lg : Nat} {T : List V} {w : Wd} {b b' : Bkd}
theorem sum_blk (B : GoodB T b) (hi : i < b.rows.length / 2 ^ k) : ∃ l x, b.ns[k]? = some l ∧ l[i]? = some x ∧ Den T k x (blk b.rows k i) := by
  have hk : k < b.ns.length := Nat.lt_of_not_le fun q => by
    rw [Nat.div_eq_of_lt (Nat.lt_of_lt_of_le B.top (Nat.pow_le_pow_right (by decide) q))] at hi
    exact Nat.not_lt_zero _ hi
  refine el_x (ns_some hk) fun l hl => ?_
  refine el_x (at_some (m := l) (k := i) (by rw [B.len hl]; exact hi)) fun x hx => ?_
  exact in_xxpp l x hl hx (B.den hl hx trivial)
theorem sum_of (p : HasL P) (hs : P.fn ("Book", "sum_of") = some f_Book_sum_of_2) (W : Wh h w) (e : w.bk j = some b) {l : List Nat} {x : Nat} (hl : b.ns[k]? = some l) (hx : l[i]? = some x) : run P (n + 2) ("Book", "sum_of") [.ref (w.ad (.b j)), .int (k : Nat), .int (i : Nat)] h = .ok (.int (x : Nat)) h := by
  have w1 : ∀ {a : Int}, run P (n + 1) ("", "is_whole") [.int a] h = .ok (.bool true) h := is_whole p
  have at_ : ∀ {g : Gm}, g[0]? = some (some (.ref (w.ad (.b j)))) → Ev P (run P (n + 1)) g h (.attr (.var 0) "levels") (.ref (w.ad (.v j))) h := fun q => .attr (.var q) (W.bok e) rfl
  exact go (Q := (· = _)) hs rfl (.ifF (.orF (.not (.call (.one (.var rfl)) w1)) (.orF (.not (.call (.one (.var rfl)) w1)) (.orL (.not (.cmp2 .int (.var rfl) (c_le (Int.natCast_nonneg k)) (.bi (.one (at_ rfl)) (ref_len (W.lvs e) (by rw [List.length_map, List.length_range]))) (c_lt (Int.ofNat_lt.mpr (lt_ns hl))))))))
    (.ifF (.not (.cmp2 .int (.var rfl) (c_le (Int.natCast_nonneg i)) (.bi (.one (.item (at_ rfl) (.var rfl) (W.lvi e (lt_ns hl) rfl))) (ref_len (W.lvl e hl) (List.length_map _))) (c_lt (Int.ofNat_lt.mpr (List.getElem?_eq_some_iff.mp hx).1))))
    (.ret (.item (.item (at_ rfl) (.var rfl) (W.lvi e (lt_ns hl) rfl)) (.var rfl) (itemL (W.lvl e hl) (iv_at hx))) rfl)))
theorem count (p : HasK P) (W : Wh h w) (e : w.bk j = some b) : run P (n + 1) ("Book", "count") [.ref (w.ad (.b j))] h = .ok (.int (b.rows.length : Nat)) h :=
  go (Q := (· = _)) p.count rfl (.ret (.bi (.one (.attr (.var rfl) (W.bok e) rfl)) (W.llin e)) rfl)

structure Pair (w : Wd) (j j' : Nat) (b b' : Bkd) : Prop where
  one : w.bk j = some b
  two : w.bk j' = some b'
  lg : b.lg = b'.lg
noncomputable def lkO (h : Hp) (a a' : Nat) : Ob := .inst "Looker" [("one", .ref a), ("other", .ref a'), ("looks", .ref (h.length + 1)), ("places", .ref (h.length + 2))]
noncomputable def lkH (h : Hp) (a a' : Nat) (ls : List Look) (y : Hp) : Hp := h ++ lkO h a a' :: .list (ls.map lk) :: y
variable {a a' : Nat} {ls : List Look} {y : Hp}
theorem lk_obj : (lkH h a a' ls y)[h.length]? = some (lkO h a a') := get_mid
theorem lk_list : (lkH h a a' ls y)[h.length + 1]? = some (.list (ls.map lk)) := by
  unfold lkH; rw [List.getElem?_append_right (Nat.le_succ _)]; show (_ :: _ :: _)[h.length + 1 - h.length]? = _; rw [Nat.add_sub_cancel_left]; rfl
theorem lk_set {l : List Look} : (lkH h a a' ls y).set (h.length + 1) (.list (l.map lk)) = lkH h a a' l y := by
  unfold lkH; rw [List.set_append_right _ _ (Nat.le_succ _)]; show h ++ (_ :: _ :: _).set (h.length + 1 - h.length) _ = _; rw [Nat.add_sub_cancel_left]; rfl
theorem appK {r : Nat} {q : Look} (z : ls.length < 10000) : objMeth "append" r (.list (ls.map lk)) [lk q] h = .ok .none (h.set r (.list ((ls ++ [q]).map lk))) := by
  rw [List.map_append]; exact appL (by rw [List.length_map]; exact Nat.lt_trans z (by decide))

theorem is_alike (p : HasK P) (W : Wh h w) (G : Good w) (K : Pair w j j' b b') (hls : ls.length < 10000) (h1 : i < b.rows.length / 2 ^ k) (h2 : i < b'.rows.length / 2 ^ k) :
    run P (n + 3) ("Looker", "is_alike") [.ref h.length, .int (k : Nat), .int (i : Nat)] (lkH h (w.ad (.b j)) (w.ad (.b j')) ls y) = .ok (.bool (eqB b.rows b'.rows k i)) (lkH h (w.ad (.b j)) (w.ad (.b j')) (ls ++ [(k, i, eqB b.rows b'.rows k i)]) y) := by
  refine el_xp (G.bks K.one) fun T t1 B => ?_
  refine el_xp (G.bks K.two) fun T' t2 B' => ?_
  rw [K.lg] at t1
  cases t1.symm.trans t2
  refine el_xxpp (sum_blk B h1) fun l x l1 x1 d1 => ?_
  refine el_xxpp (sum_blk B' h2) fun l' x' l2 x2 d2 => ?_
  have W' : Wh (lkH h (w.ad (.b j)) (w.ad (.b j')) ls y) w := W.app _
  have q := d1.iff (G.uni t1) d2
  have ec : ((x : Int) == (x' : Int)) = eqB b.rows b'.rows k i := by
    unfold eqB
    rcases Classical.em (x = x') with z | z
    · rw [decide_eq_true (q.mp z), z, beq_self_eq_true]
    · rw [decide_eq_false fun u => z (q.mpr u), beq_eq_false_iff_ne]; (first | lia | omega)
  have s1 := sum_of (n := n) p.toHasL p.sumof W' K.one l1 x1
  have s2 := sum_of (n := n) p.toHasL p.sumof W' K.two l2 x2
  have ap := appK (h := lkH h (w.ad (.b j)) (w.ad (.b j')) ls y) (r := h.length + 1) (q := (k, i, eqB b.rows b'.rows k i)) hls
  rw [lk_set] at ap
  exact go (Q := (· = _)) p.alike rfl (.asg (.cmp (.meth (.attr (.var rfl) lk_obj rfl) (W'.bok K.one) p.sumof rfl (.cons (.var rfl) (.one (.var rfl))) s1) (.meth (.attr (.var rfl) lk_obj rfl) (W'.bok K.two) p.sumof rfl (.cons (.var rfl) (.one (.var rfl))) s2) (c_eqI.trans (by rw [ec])))
    (.expr (.lmeth rfl (.attr (.var rfl) lk_obj rfl) lk_list (.one (.tup (.cons (.var rfl) (.cons (.var rfl) (.one (.var rfl)))) (le9 (n := 3) rfl))) lk_list ap) (.ret (.var rfl) rfl)))

theorem first_in (p : HasK P) (hf : P.fn ("Looker", "first_in") = some f_Looker_first_in) (W : Wh h w) (G : Good w) (K : Pair w j j' b b') (hls : ls.length < 5000) (hk : k < 11) (h1 : i < b.rows.length / 2 ^ k) (h2 : i < b'.rows.length / 2 ^ k) :
    run P (n + 4) ("Looker", "first_in") [.ref h.length, .int (k : Nat), .int (i : Nat)] (lkH h (w.ad (.b j)) (w.ad (.b j')) ls y) = .ok (.int ((desc b.rows b'.rows k i).2 : Nat)) (lkH h (w.ad (.b j)) (w.ad (.b j')) (ls ++ (desc b.rows b'.rows k i).1) y) := by
  refine el_xp (G.bks K.one) fun _ _ B => ?_
  have few := B.few
  refine go (Q := (· = _)) hf rfl (.whil (fun m g h' => ∃ i' dn, g = [some (.ref h.length), some (.int (m : Nat)), some (.int (i' : Nat))] ∧ h' = lkH h (w.ad (.b j)) (w.ad (.b j')) (ls ++ dn) y ∧ dn.length + m = k ∧ dn ++ (desc b.rows b'.rows m i').1 = (desc b.rows b'.rows k i).1 ∧ (desc b.rows b'.rows m i').2 = (desc b.rows b'.rows k i).2 ∧ i' < b.rows.length / 2 ^ m ∧ i' < b'.rows.length / 2 ^ m) (m := k) ⟨i, [], rfl, by rw [List.append_nil], Nat.zero_add _, rfl, rfl, h1, h2⟩ (Nat.lt_trans hk (by decide)) fun m g h' z => ?_)
  obtain ⟨i', dn, rfl, rfl, ld, d1, d2, b1, b2⟩ := z
  cases m with
  | zero =>
    refine .inr ⟨_, .cmp (.var rfl) .int (c_gt' (by decide)), .ret (.var rfl) ?_⟩
    rw [← d1, ← d2, desc, List.append_nil]; rfl
  | succ m =>
    have lim : b.rows.length / 2 ^ (m + 1) ≤ b.rows.length := Nat.div_le_self _ _
    have c1 := half_lt b1
    have c2 := half_lt b2
    have al := is_alike (n := n) (y := y) (ls := ls ++ dn) (k := m) (i := 2 * i') p W G K (by rw [List.length_append]; (first | lia | omega)) (by (first | lia | omega)) (by (first | lia | omega))
    rw [List.append_assoc] at al
    rw [desc] at d1 d2
    refine .inl ⟨_, .cmp (.var rfl) .int (c_gt (by (first | lia | omega))), .asg (.two (.var rfl) .int rfl) (.asg (.two .int (.var rfl) (b_two (by (first | lia | omega)))) ?_)⟩
    rw [succ_sub]
    refine .if (.meth (.var rfl) lk_obj p.alike rfl (.cons (.var rfl) (.one (.var rfl))) al) (fun q => .asg (.two (.var rfl) .int rfl) (.nil ⟨m, Nat.lt_succ_self m, 2 * i' + 1, dn ++ [(m, 2 * i', eqB b.rows b'.rows m (2 * i'))], rfl, rfl, by rw [List.length_append, List.length_singleton]; (first | lia | omega), ?_, ?_, by (first | lia | omega), by (first | lia | omega)⟩)) fun q => .nil ⟨m, Nat.lt_succ_self m, 2 * i', dn ++ [(m, 2 * i', eqB b.rows b'.rows m (2 * i'))], rfl, rfl, by rw [List.length_append, List.length_singleton]; (first | lia | omega), ?_, ?_, by (first | lia | omega), by (first | lia | omega)⟩
    all_goals rw [q] at d1 d2
    · rw [List.append_assoc, q]; exact d1
    · exact d2
    · rw [List.append_assoc, q]; exact d1
    · exact d2
end
end Mine
end

section
/-! the first place: as the text finds it, as the law does -/
namespace Mine
structure Seen (h : Hp) (L : Nat) (ls : List Look) (h' : Hp) : Prop where
  ext : ∃ x, h' = h ++ x
  lo : h.length ≤ L
  get : h'[L]? = some (.list (ls.map lk))
section
variable {P : Pg} {h : Hp} {n i j j' k lg : Nat} {T : List V} {w : Wd} {b b' : Bkd} {cl : CallT} {g : Gm}
theorem Ev.list0 {o : Ob} {x : Hp} : Ev P cl g (h ++ o :: x) (.list []) (.ref (h.length + (x.length + 1))) (h ++ o :: (x ++ [.list []])) := by
  have := Ev.list (P := P) (cl := cl) (g := g) (h := h ++ o :: x) .nil (le9 (n := 0) rfl)
  rwa [List.length_append, List.append_assoc] at this
theorem look_init (p : HasK P) (W : Wh h w) (K : Pair w j j' b b') (G : Good w) : run P (n + 1) ("Looker", "__init__") [.ref h.length, .ref (w.ad (.b j)), .ref (w.ad (.b j'))] (h ++ [.inst "Looker" []]) = .ok .none (lkH h (w.ad (.b j)) (w.ad (.b j')) [] [.list []]) := by
  refine el_xp (G.bks K.one) fun T t1 _ => ?_
  have W' : Wh (h ++ [.inst "Looker" []]) w := W.app _
  have o1 := W'.bok K.one
  have o2 := W'.bok K.two
  rw [← K.lg] at o2
  have ne : cmpop .ne (.ref (w.ad (.a b.lg))) (.ref (w.ad (.a b.lg))) (h ++ [.inst "Looker" []]) = .ok (.bool false) (h ++ [.inst "Looker" []]) := by
    show okO (Option.map (!·) (match (h ++ [Ob.inst "Looker" []])[w.ad (.a b.lg)]?, (h ++ [Ob.inst "Looker" []])[w.ad (.a b.lg)]? with | some (.inst _ _), some (.inst _ _) => some (w.ad (.a b.lg) == w.ad (.a b.lg)) | _, _ => _)) _ = _
    rw [W'.led t1]; dsimp only; rw [beq_self_eq_true]; rfl
  exact go (Q := (· = _)) (vs := [.ref h.length, .ref (w.ad (.b j)), .ref (w.ad (.b j'))]) (h := h ++ [.inst "Looker" []]) p.kinit rfl (.ifF (.cmp (.attr (.var rfl) o1 rfl) (.attr (.var rfl) o2 rfl) ne) (.asgA (.var rfl) (.var rfl) (setAt (C := "Looker") (fs := []) (x := []) (show 0 < 100 by decide)) (.asgA (.var rfl) (.var rfl) (setAt (show 1 < 100 by decide)) (.asgA .list0 (.var rfl) (setAt (show 2 < 100 by decide)) (.asgA .list0 (.var rfl) (setAt (show 3 < 100 by decide)) (.nil rfl))))))

theorem minD {x y : Nat} : bfn "min" [.int (x : Nat), .int (y : Nat)] h = .ok (.int (min x y : Nat)) h := by
  show R.ok (V.int (if (y : Int) < x then y else x)) h = _
  refine congrArg (fun z => R.ok (V.int z) h) ?_
  split <;> (first | lia | omega)
theorem first_unlike (p : HasK P) (hf : P.fn ("Looker", "first_in") = some f_Looker_first_in) (hu : P.fn ("", "first_unlike") = some f_first_unlike) (W : Wh h w) (G : Good w) (K : Pair w j j' b b') :
    ∃ L h', run P (n + 5) ("", "first_unlike") [.ref (w.ad (.b j)), .ref (w.ad (.b j'))] h = .ok (.tup [foundR b.rows b'.rows, .ref L]) h' ∧ Seen h L (seenR b.rows b'.rows) h' := by
  refine el_xp (G.bks K.one) fun _ _ B => ?_
  have few := B.few
  let lh (ls : List Look) (y : Hp) : Hp := lkH h (w.ad (.b j)) (w.ad (.b j')) ls (.list [] :: y)
  have Wy : ∀ ls y, Wh (lh ls y) w := fun _ _ => W.app _
  have seen : ∀ {ls : List Look} {y : Hp}, ls = seenR b.rows b'.rows → Seen h (h.length + 1) (seenR b.rows b'.rows) (lh ls y) := fun {ls y} e => by subst e; exact ⟨⟨_, rfl⟩, Nat.le_succ _, lk_list⟩
  have lm : lessR b.rows b'.rows ≤ 1024 := Nat.le_trans (Nat.min_le_left _ _) few
  have b11 := bits_few lm
  have pt := parted (n := n + 2) (h := lh [] []) p.toHasN (c := lessR b.rows b'.rows) (by (first | lia | omega))
  have mk := look_init (n := n + 3) p W K G
  have pl : (partsR b.rows b'.rows).length ≤ 11 := Nat.le_trans (pts_len _ _) b11
  refine go (Q := fun q => ∃ L h', q = .ok (.tup [foundR b.rows b'.rows, .ref L]) h' ∧ Seen h L (seenR b.rows b'.rows) h') (vs := [.ref (w.ad (.b j)), .ref (w.ad (.b j'))]) hu rfl (.asg (.make (.cons (.var rfl) (.one (.var rfl))) p.kinit mk)
    (.asg (.bi (.cons (.meth (.var rfl) ((Wy [] []).bok K.one) p.count rfl .nil (count (n := n + 3) p (Wy [] []) K.one)) (.one (.meth (.var rfl) ((Wy [] []).bok K.two) p.count rfl .nil (count (n := n + 3) p (Wy [] []) K.two)))) minD)
    (.forr (fun m g h' => m ≤ (partsR b.rows b'.rows).length ∧ ∃ t4 t5, g = [some (.ref (w.ad (.b j))), some (.ref (w.ad (.b j'))), some (.ref h.length), some (.int (lessR b.rows b'.rows : Nat)), t4, t5, none] ∧ h' = lh (((partsR b.rows b'.rows).take m).map fun q => (q.1, q.2, true)) [.list ((partsR b.rows b'.rows).map tl)] ∧ ∀ q ∈ (partsR b.rows b'.rows).take m, eqB b.rows b'.rows q.1 q.2 = true)
      (partsR b.rows b'.rows).length (Nat.lt_of_le_of_lt pl (by decide)) (src := .ref (lh [] []).length) (.call (.one (.var rfl)) pt) ⟨Nat.zero_le _, none, none, rfl, List.append_assoc _ _ _, nofun⟩ fun m g h' z => ?_)))
  refine el_pxxpp z fun ml t4 t5 tq3 tq4 al => ?_; try clear z; subst tq3; subst tq4
  have src : ∀ ls, (lh ls [.list ((partsR b.rows b'.rows).map tl)])[(lh [] []).length]? = some (.list ((partsR b.rows b'.rows).map tl)) := fun ls => by
    show (h ++ (_ :: _ :: _ :: _))[(h ++ [_, _, _]).length]? = _
    rw [List.length_append, List.getElem?_append_right (Nat.le_add_right _ _), Nat.add_sub_cancel_left]; rfl
  rcases Nat.lt_or_ge m (partsR b.rows b'.rows).length with lt | ge
  · have hq : (partsR b.rows b'.rows)[m]? = some (partsR b.rows b'.rows)[m] := List.getElem?_eq_getElem lt
    obtain ⟨⟨k, i⟩, hki⟩ : ∃ q, (partsR b.rows b'.rows)[m] = q := ⟨_, rfl⟩
    rw [hki] at hq
    refine el_pp (parts_in few (List.mem_of_getElem? hq)) fun b1 b2 b3 => ?_
    have ll : (((partsR b.rows b'.rows).take m).map fun q => ((q.1, q.2, true) : Look)).length ≤ 11 := by rw [List.length_map, List.length_take]; (first | lia | omega)
    have ia := is_alike (n := n + 1) (y := [.list [], .list ((partsR b.rows b'.rows).map tl)]) p W G K (ls := ((partsR b.rows b'.rows).take m).map fun q => (q.1, q.2, true)) (by (first | lia | omega)) b1 b2
    refine .inr ⟨.tup [.int (k : Nat), .int (i : Nat)], _, (nth_rows (src _)).trans (by rw [List.getElem?_map, hq]; rfl), lt, rfl, ?_⟩
    refine .if (.not (.meth (.var rfl) lk_obj p.alike rfl (.cons (.var rfl) (.one (.var rfl))) ia)) (fun q => ?_) fun q => ?_
    · have no : eqB b.rows b'.rows k i = false := by revert q; cases eqB b.rows b'.rows k i <;> simp
      have wh := walk_hit al hq no
      have fi := first_in (n := n) (y := [.list [], .list ((partsR b.rows b'.rows).map tl)]) p hf W G K (ls := ((partsR b.rows b'.rows).take m).map (fun q => (q.1, q.2, true)) ++ [(k, i, eqB b.rows b'.rows k i)]) (by rw [List.length_append, List.length_singleton]; (first | lia | omega)) b3 b1 b2
      refine .asg (.meth (.var rfl) lk_obj hf rfl (.cons (.var rfl) (.one (.var rfl))) fi) (.ret (.tup (.cons (.var rfl) (.one (.attr (.var rfl) lk_obj rfl))) (le9 (n := 2) rfl)) ⟨h.length + 1, _, by rw [foundR_hit (by rw [wh])]; rfl, seen ?_⟩)
      rw [no, List.append_assoc]; unfold seenR; rw [wh]; rfl
    · have yes : eqB b.rows b'.rows k i = true := by revert q; cases eqB b.rows b'.rows k i <;> simp
      exact .nil ⟨lt, _, _, rfl, by rw [take_succ_at hq, List.map_append, yes]; rfl, all_next al hq yes⟩
  · obtain rfl := Nat.le_antisymm ml ge
    rw [List.take_length] at al ⊢
    have we := walk_end al
    have se : (partsR b.rows b'.rows).map (fun q => ((q.1, q.2, true) : Look)) = seenR b.rows b'.rows := by unfold seenR; rw [we]
    have fe := foundR_end (congrArg Prod.snd we)
    have Wz := Wy ((partsR b.rows b'.rows).map fun q => (q.1, q.2, true)) [.list ((partsR b.rows b'.rows).map tl)]
    refine .inl ⟨(nth_rows (src _)).trans (congrArg some (List.getElem?_eq_none (by rw [List.length_map]; exact Nat.le_refl _))), ?_⟩
    rcases Classical.em (b.rows.length = b'.rows.length) with z | z
    · rw [if_pos z] at fe
      exact .ifF (.cmp (.meth (.var rfl) (Wz.bok K.one) p.count rfl .nil (count (n := n + 3) p Wz K.one)) (.meth (.var rfl) (Wz.bok K.two) p.count rfl .nil (count (n := n + 3) p Wz K.two)) (c_neI.trans (by rw [z, beq_self_eq_true]; rfl))) (.ret (.tup (.cons .none (.one (.attr (.var rfl) lk_obj rfl))) (le9 (n := 2) rfl)) ⟨h.length + 1, _, by rw [fe]; rfl, seen se⟩)
    · rw [if_neg z] at fe
      exact .ifT (.cmp (.meth (.var rfl) (Wz.bok K.one) p.count rfl .nil (count (n := n + 3) p Wz K.one)) (.meth (.var rfl) (Wz.bok K.two) p.count rfl .nil (count (n := n + 3) p Wz K.two)) (c_neI.trans (by rw [show ((b.rows.length : Int) == (b'.rows.length : Int)) = false from beq_eq_false_iff_ne.mpr (by (first | lia | omega))]; rfl))) (.ret (.tup (.cons (.var rfl) (.one (.attr (.var rfl) lk_obj rfl))) (le9 (n := 2) rfl)) ⟨h.length + 1, _, by rw [fe]; rfl, seen se⟩)
end
end Mine
end

section
/-! all places: as the text finds them, as the law does -/
namespace Mine
noncomputable abbrev LP := List Look × List Nat
noncomputable def LP.cat (x y : LP) : LP := (x.1 ++ y.1, x.2 ++ y.2)
noncomputable def LP.sz (x : LP) : Nat := x.1.length + x.2.length
noncomputable def hd (k i : Nat) (b : Bool) : LP := ([(k, i, b)], [])
theorem cat_assoc (x y z : LP) : (x.cat y).cat z = x.cat (y.cat z) := by unfold LP.cat; rw [List.append_assoc, List.append_assoc]
theorem cat_nil (x : LP) : x.cat ([], []) = x := by unfold LP.cat; rw [List.append_nil, List.append_nil]
theorem sz_cat (x y : LP) : (x.cat y).sz = x.sz + y.sz := by unfold LP.cat LP.sz; rw [List.length_append, List.length_append]; (first | lia | omega)
noncomputable def allA (a b : List Row) : Nat → Nat → LP
  | 0, i => ([], [i])
  | k + 1, i => if eqB a b k (2 * i) then (hd k (2 * i) true).cat (allA a b k (2 * i + 1))
      else (hd k (2 * i) false).cat ((allA a b k (2 * i)).cat (if eqB a b k (2 * i + 1) then hd k (2 * i + 1) true else (hd k (2 * i + 1) false).cat (allA a b k (2 * i + 1))))
noncomputable def oneA (a b : List Row) (k i : Nat) : LP := if eqB a b k i then hd k i true else (hd k i false).cat (allA a b k i)
theorem allA_T {a b : List Row} {k i : Nat} (q : eqB a b k (2 * i) = true) : allA a b (k + 1) i = (hd k (2 * i) true).cat (allA a b k (2 * i + 1)) := if_pos q
theorem allA_F {a b : List Row} {k i : Nat} (q : eqB a b k (2 * i) = false) : allA a b (k + 1) i = (hd k (2 * i) false).cat ((allA a b k (2 * i)).cat (oneA a b k (2 * i + 1))) := if_neg (by rw [q]; exact Bool.false_ne_true)
theorem oneA_T {a b : List Row} {k i : Nat} (q : eqB a b k i = true) : oneA a b k i = hd k i true := if_pos q
theorem oneA_F {a b : List Row} {k i : Nat} (q : eqB a b k i = false) : oneA a b k i = (hd k i false).cat (allA a b k i) := if_neg (by rw [q]; exact Bool.false_ne_true)
noncomputable def walkA (a b : List Row) : List (Nat × Nat) → LP
  | [] => ([], [])
  | p :: r => (oneA a b p.1 p.2).cat (walkA a b r)
noncomputable def allR (a b : List Row) : LP := walkA a b (partsR a b)
theorem walkA_app (a b : List Row) : ∀ l m, walkA a b (l ++ m) = (walkA a b l).cat (walkA a b m)
  | [], _ => rfl
  | p :: r, m => by rw [List.cons_append, walkA, walkA_app a b r m, walkA, cat_assoc]
theorem walkA_at {a b : List Row} {l : List (Nat × Nat)} {j k i : Nat} (q : l[j]? = some (k, i)) : walkA a b (l.take (j + 1)) = (walkA a b (l.take j)).cat (oneA a b k i) := by
  rw [take_succ_at q, walkA_app]; exact congrArg _ (cat_nil _)
theorem allA_few (a b : List Row) : ∀ k i, (allA a b k i).sz + 2 ≤ 3 * 2 ^ k
  | 0, _ => Nat.le_refl 3
  | k + 1, i => by
    have h1 := allA_few a b k (2 * i)
    have h2 := allA_few a b k (2 * i + 1)
    rw [Nat.pow_succ]
    generalize 2 ^ k = p at h1 h2
    unfold allA
    split
    · rw [sz_cat]; show 1 + _ + 2 ≤ _; (first | lia | omega)
    · rw [sz_cat, sz_cat]
      split
      · show 1 + (_ + 1) + 2 ≤ _; (first | lia | omega)
      · rw [sz_cat]; show 1 + (_ + (1 + _)) + 2 ≤ _; (first | lia | omega)
theorem oneA_few (a b : List Row) (k i : Nat) : (oneA a b k i).sz ≤ 3 * 2 ^ k := by
  have h := allA_few a b k i
  unfold oneA
  split
  · show 1 ≤ _; (first | lia | omega)
  · rw [sz_cat]; show 1 + _ ≤ _; (first | lia | omega)
theorem walkA_few (a b : List Row) (c : Nat) : ∀ m, (walkA a b (pts c m)).sz ≤ 3 * 2 ^ m
  | 0 => Nat.zero_le _
  | m + 1 => by
    have ih := walkA_few a b c m
    unfold pts
    rw [walkA_app, sz_cat]
    have hp := Nat.pow_succ 2 m
    split
    · have h := oneA_few a b m (2 * (c / 2 ^ (m + 1)))
      have e : (walkA a b [(m, 2 * (c / 2 ^ (m + 1)))]).sz = (oneA a b m (2 * (c / 2 ^ (m + 1)))).sz := congrArg LP.sz (cat_nil _)
      (first | lia | omega)
    · show 0 + 0 + _ ≤ _; (first | lia | omega)
theorem parts_few {a b : List Row} (ha : a.length ≤ 1024) (j : Nat) : (walkA a b ((partsR a b).take j)).sz ≤ 6144 := by
  have h1 := walkA_few a b (lessR a b) (bitsOf (lessR a b : Int))
  have h2 : 2 ^ bitsOf (lessR a b : Int) ≤ 2 ^ 11 := Nat.pow_le_pow_right (by decide) (bits_few (Nat.le_trans (Nat.min_le_left a.length b.length) ha))
  have h3 : (walkA a b ((partsR a b).take j ++ (partsR a b).drop j)).sz ≤ 6144 := by rw [List.take_append_drop]; exact Nat.le_trans h1 (by (first | lia | omega))
  rw [walkA_app, sz_cat] at h3; (first | lia | omega)
theorem allR_few {a b : List Row} (ha : a.length ≤ 1024) : (allR a b).sz ≤ 6144 := by
  have := parts_few (b := b) ha (partsR a b).length
  rwa [List.take_length] at this

section
variable {P : Pg} {h : Hp} {n i j j' k : Nat} {w : Wd} {b b' : Bkd} {a a' : Nat} {x : LP} {y : Hp}
theorem b_pred : binop .sub (.int (k + 1 : Nat)) (.int 1) h = .ok (.int (k : Nat)) h := congrArg (fun z => R.ok (V.int z) h) (succ_sub k)
noncomputable def stA (h : Hp) (a a' : Nat) (x : LP) (y : Hp) : Hp := lkH h a a' x.1 (.list (x.2.map iv) :: y)
theorem stA_pl : (stA h a a' x y)[h.length + 2]? = some (.list (x.2.map iv)) := by
  unfold stA lkH; rw [List.getElem?_append_right (Nat.le_add_right _ _)]; show (_ :: _ :: _)[h.length + 2 - h.length]? = _; rw [Nat.add_sub_cancel_left]; rfl
theorem appI {r : Nat} {l : List Nat} {i : Nat} (z : l.length < 10000) : objMeth "append" r (.list (l.map iv)) [.int (i : Nat)] h = .ok .none (h.set r (.list ((l ++ [i]).map iv))) := by
  rw [List.map_append]; exact appL (by rw [List.length_map]; exact Nat.lt_trans z (by decide))
theorem stA_set : (stA h a a' x y).set (h.length + 2) (.list ((x.2 ++ [i]).map iv)) = stA h a a' (x.cat ([], [i])) y := by
  unfold stA lkH LP.cat; rw [List.set_append_right _ _ (Nat.le_add_right _ _)]; show h ++ (_ :: _ :: _).set (h.length + 2 - h.length) _ = _; rw [Nat.add_sub_cancel_left, List.append_nil]; rfl

theorem alike_st (p : HasK P) (W : Wh h w) (G : Good w) (K : Pair w j j' b b') (hs : x.sz ≤ 9900) (h1 : i < b.rows.length / 2 ^ k) (h2 : i < b'.rows.length / 2 ^ k) :
    run P (n + 3) ("Looker", "is_alike") [.ref h.length, .int (k : Nat), .int (i : Nat)] (stA h (w.ad (.b j)) (w.ad (.b j')) x y) = .ok (.bool (eqB b.rows b'.rows k i)) (stA h (w.ad (.b j)) (w.ad (.b j')) (x.cat (hd k i (eqB b.rows b'.rows k i))) y) := by
  have := is_alike (n := n) (y := .list (x.2.map iv) :: y) (ls := x.1) p W G K (by unfold LP.sz at hs; (first | lia | omega)) h1 h2
  rw [stA, this]
  show R.ok _ _ = R.ok _ (lkH h _ _ (x.1 ++ [(k, i, eqB b.rows b'.rows k i)]) (.list ((x.2 ++ []).map iv) :: y))
  rw [List.append_nil]
theorem all_in (p : HasK P) (hf : P.fn ("Looker", "all_in") = some f_Looker_all_in) (W : Wh h w) (G : Good w) (K : Pair w j j' b b') : ∀ (k i : Nat) (x : LP), x.sz + 3 * 2 ^ k ≤ 9900 → i < b.rows.length / 2 ^ k → i < b'.rows.length / 2 ^ k →
    run P (n + k + 4) ("Looker", "all_in") [.ref h.length, .int (k : Nat), .int (i : Nat)] (stA h (w.ad (.b j)) (w.ad (.b j')) x y) = .ok .none (stA h (w.ad (.b j)) (w.ad (.b j')) (x.cat (allA b.rows b'.rows k i)) y)
  | 0, i, x, hs, _, _ => by
    have z : x.2.length < 10000 := by unfold LP.sz at hs; (first | lia | omega)
    have ap := appI (h := stA h (w.ad (.b j)) (w.ad (.b j')) x y) (r := h.length + 2) (l := x.2) (i := i) z
    rw [stA_set] at ap
    exact go (Q := (· = _)) hf rfl (.ifT (.cmp (.var rfl) .int (c_eq rfl)) (.expr (.lmeth rfl (.attr (.var rfl) lk_obj rfl) stA_pl (.one (.var rfl)) stA_pl ap) (.ret0 rfl)))
  | k + 1, i, x, hs, h1, h2 => by
    refine el_xp (G.bks K.one) fun _ _ B => ?_
    have few := B.few
    have lim : b.rows.length / 2 ^ (k + 1) ≤ b.rows.length := Nat.div_le_self _ _
    have c1 := half_lt h1
    have c2 := half_lt h2
    have f1 := allA_few b.rows b'.rows k (2 * i)
    have al : ∀ (m : Nat) (x : LP), m ≤ 2 * i + 1 → x.sz ≤ 9900 → run P (n + k + 4) ("Looker", "is_alike") [.ref h.length, .int (k : Nat), .int (m : Nat)] (stA h (w.ad (.b j)) (w.ad (.b j')) x y) = .ok (.bool (eqB b.rows b'.rows k m)) (stA h (w.ad (.b j)) (w.ad (.b j')) (x.cat (hd k m (eqB b.rows b'.rows k m))) y) := fun m x hm hs => alike_st (n := n + k + 1) p W G K hs (by (first | lia | omega)) (by (first | lia | omega))
    have e1 : ∀ {h' : Hp}, Es P (run P (n + k + 4)) [some (.ref h.length), some (.int (k + 1 : Nat)), some (.int (i : Nat))] h' [.bin .sub (.var 1) (.int 1), .bin .mul (.int 2) (.var 2)] [.int (k : Nat), .int (2 * i : Nat)] h' := .cons (.two (.var rfl) .int b_pred) (.one (.two .int (.var rfl) (b_two (by (first | lia | omega)))))
    have e2 : ∀ {h' : Hp}, Es P (run P (n + k + 4)) [some (.ref h.length), some (.int (k + 1 : Nat)), some (.int (i : Nat))] h' [.bin .sub (.var 1) (.int 1), .bin .add (.bin .mul (.int 2) (.var 2)) (.int 1)] [.int (k : Nat), .int (2 * i + 1 : Nat)] h' := .cons (.two (.var rfl) .int b_pred) (.one (.two (.two .int (.var rfl) (b_two (by (first | lia | omega)))) .int rfl))
    have a1 := al (2 * i) x (by (first | lia | omega)) (by (first | lia | omega))
    have s1 := sz_cat x (hd k (2 * i) (eqB b.rows b'.rows k (2 * i)))
    have s2 := sz_cat (x.cat (hd k (2 * i) (eqB b.rows b'.rows k (2 * i)))) (allA b.rows b'.rows k (2 * i))
    have s3 := sz_cat ((x.cat (hd k (2 * i) (eqB b.rows b'.rows k (2 * i)))).cat (allA b.rows b'.rows k (2 * i))) (hd k (2 * i + 1) (eqB b.rows b'.rows k (2 * i + 1)))
    have s0 : ∀ {m b}, (hd k m b).sz = 1 := rfl
    rw [s0] at s1 s3
    rw [Nat.pow_succ] at hs
    have r1 := all_in p hf W G K k (2 * i + 1) (x.cat (hd k (2 * i) (eqB b.rows b'.rows k (2 * i)))) (by (first | lia | omega)) (by (first | lia | omega)) (by (first | lia | omega))
    have r2 := all_in p hf W G K k (2 * i) (x.cat (hd k (2 * i) (eqB b.rows b'.rows k (2 * i)))) (by (first | lia | omega)) (by (first | lia | omega)) (by (first | lia | omega))
    have a3 := al (2 * i + 1) ((x.cat (hd k (2 * i) (eqB b.rows b'.rows k (2 * i)))).cat (allA b.rows b'.rows k (2 * i))) (by (first | lia | omega)) (by (first | lia | omega))
    have r3 := all_in p hf W G K k (2 * i + 1) (((x.cat (hd k (2 * i) (eqB b.rows b'.rows k (2 * i)))).cat (allA b.rows b'.rows k (2 * i))).cat (hd k (2 * i + 1) (eqB b.rows b'.rows k (2 * i + 1)))) (by (first | lia | omega)) (by (first | lia | omega)) (by (first | lia | omega))
    refine go (Q := (· = _)) hf rfl (.ifF (.cmp (.var rfl) .int (c_eq' (by (first | lia | omega)))) (.if (.meth (.var rfl) lk_obj p.alike rfl e1 a1) (fun q => ?_) fun q => ?_))
    · rw [q] at r1
      rw [allA_T q, q, ← cat_assoc]
      exact .expr (.meth (.var rfl) lk_obj hf rfl e2 r1) (.ret0 rfl)
    · refine .expr (.meth (.var rfl) lk_obj hf rfl e1 r2) (.if (.not (.meth (.var rfl) lk_obj p.alike rfl e2 a3)) (fun z => .expr (.meth (.var rfl) lk_obj hf rfl e2 r3) (.nil ?_)) fun z => .nil ?_)
      · rw [Bool.not_eq_true'] at z
        rw [allA_F q, oneA_F z, q, z, cat_assoc, cat_assoc, cat_assoc]; rfl
      · rw [Bool.not_eq_false'] at z
        rw [allA_F q, oneA_T z, q, z, cat_assoc, cat_assoc]; rfl
end
end Mine
end

section
/-! all_unlike, and the law's own walk -/
namespace Mine
structure SeenA (h : Hp) (p l : Nat) (X : LP) (h' : Hp) : Prop where
  ext : ∃ x, h' = h ++ x
  lp : h.length ≤ p
  ll : h.length ≤ l
  ne : p ≠ l
  pl : h'[p]? = some (.list (X.2.map iv))
  lk : h'[l]? = some (.list (X.1.map lk))
section
variable {P : Pg} {h : Hp} {n i j j' k x y : Nat} {w : Wd} {b b' : Bkd} {X : LP} {z : Hp} {A B : List Row}
theorem fuel (q : k < 11) : n + (10 - k) + k + 4 = n + 14 := by (first | lia | omega)
theorem all_unlike (p : HasK P) (hf : P.fn ("Looker", "all_in") = some f_Looker_all_in) (hu : P.fn ("", "all_unlike") = some f_all_unlike) (W : Wh h w) (G : Good w) (K : Pair w j j' b b') :
    ∃ q l h', run P (n + 15) ("", "all_unlike") [.ref (w.ad (.b j)), .ref (w.ad (.b j'))] h = .ok (.tup [.ref q, .ref l]) h' ∧ SeenA h q l (allR b.rows b'.rows) h' := by
  refine el_xp (G.bks K.one) fun _ _ B => ?_
  have few := B.few
  let lh (X : LP) (y : Hp) : Hp := stA h (w.ad (.b j)) (w.ad (.b j')) X y
  have Wy : ∀ X y, Wh (lh X y) w := fun _ _ => W.app _
  have lm : lessR b.rows b'.rows ≤ 1024 := Nat.le_trans (Nat.min_le_left _ _) few
  have b11 := bits_few lm
  have pt := parted (n := n + 12) (h := lh ([], []) []) p.toHasN (c := lessR b.rows b'.rows) (by (first | lia | omega))
  have mk := look_init (n := n + 13) p W K G
  have pl : (partsR b.rows b'.rows).length ≤ 11 := Nat.le_trans (pts_len _ _) b11
  refine go (Q := fun q => ∃ r l h', q = .ok (.tup [.ref r, .ref l]) h' ∧ SeenA h r l (allR b.rows b'.rows) h') (vs := [.ref (w.ad (.b j)), .ref (w.ad (.b j'))]) hu rfl (.asg (.make (.cons (.var rfl) (.one (.var rfl))) p.kinit mk)
    (.forr (fun m g h' => m ≤ (partsR b.rows b'.rows).length ∧ ∃ t4 t5, g = [some (.ref (w.ad (.b j))), some (.ref (w.ad (.b j'))), some (.ref h.length), t4, t5] ∧ h' = lh (walkA b.rows b'.rows ((partsR b.rows b'.rows).take m)) [.list ((partsR b.rows b'.rows).map tl)])
      (partsR b.rows b'.rows).length (Nat.lt_of_le_of_lt pl (by decide)) (src := .ref (lh ([], []) []).length) (.call (.one (.bi (.cons (.meth (.var rfl) ((Wy ([], []) []).bok K.one) p.count rfl .nil (count (n := n + 13) p (Wy ([], []) []) K.one)) (.one (.meth (.var rfl) ((Wy ([], []) []).bok K.two) p.count rfl .nil (count (n := n + 13) p (Wy ([], []) []) K.two)))) minD)) pt) ⟨Nat.zero_le _, none, none, rfl, List.append_assoc _ _ _⟩ fun m g h' z => Classical.byContradiction fun no => ?_))
  refine el_pxxp z fun ml t4 t5 eg eh => ?_; try clear z
  subst eg; subst eh
  have src : ∀ X, (lh X [.list ((partsR b.rows b'.rows).map tl)])[(lh ([], []) []).length]? = some (.list ((partsR b.rows b'.rows).map tl)) := fun X => by
    show (h ++ (_ :: _ :: _ :: _))[(h ++ [_, _, _]).length]? = _
    rw [List.length_append, List.getElem?_append_right (Nat.le_add_right _ _), Nat.add_sub_cancel_left]; rfl
  rcases Nat.lt_or_ge m (partsR b.rows b'.rows).length with lt | ge
  · have hq : (partsR b.rows b'.rows)[m]? = some (partsR b.rows b'.rows)[m] := List.getElem?_eq_getElem lt
    obtain ⟨⟨k, i⟩, hki⟩ : ∃ q, (partsR b.rows b'.rows)[m] = q := ⟨_, rfl⟩
    rw [hki] at hq
    refine el_pp (parts_in few (List.mem_of_getElem? hq)) fun b1 b2 b3 => ?_
    have ws := parts_few (a := b.rows) (b := b'.rows) few m
    have hk : 2 ^ k ≤ 2 ^ 10 := Nat.pow_le_pow_right (by decide) (Nat.le_of_lt_succ b3)
    have ia := alike_st (n := n + 11) (y := [.list ((partsR b.rows b'.rows).map tl)]) (x := walkA b.rows b'.rows ((partsR b.rows b'.rows).take m)) p W G K (by (first | lia | omega)) b1 b2
    have fi := all_in (n := n + (10 - k)) (y := [.list ((partsR b.rows b'.rows).map tl)]) p hf W G K k i ((walkA b.rows b'.rows ((partsR b.rows b'.rows).take m)).cat (hd k i (eqB b.rows b'.rows k i))) (by rw [sz_cat]; show _ + 1 + _ ≤ _; (first | lia | omega)) b1 b2
    rw [fuel b3] at fi
    have wa := walkA_at (a := b.rows) (b := b'.rows) hq
    refine no (.inr ⟨.tup [.int (k : Nat), .int (i : Nat)], _, (nth_rows (src _)).trans (by rw [List.getElem?_map, hq]; rfl), lt, rfl, ?_⟩)
    refine .if (.not (.meth (.var rfl) lk_obj p.alike rfl (.cons (.var rfl) (.one (.var rfl))) ia)) (fun q => .expr (.meth (.var rfl) lk_obj hf rfl (.cons (.var rfl) (.one (.var rfl))) fi) (.nil ⟨lt, _, _, rfl, ?_⟩)) fun q => .nil ⟨lt, _, _, rfl, ?_⟩
    · rw [Bool.not_eq_true'] at q
      rw [wa, oneA_F q, q, cat_assoc]
    · rw [Bool.not_eq_false'] at q
      rw [wa, oneA_T q, q]
  · obtain rfl := Nat.le_antisymm ml ge
    rw [List.take_length] at no
    exact no (.inl ⟨(nth_rows (src _)).trans (congrArg some (List.getElem?_eq_none (by rw [List.length_map]; exact Nat.le_refl _))), .ret (.tup (.cons (.attr (.var rfl) lk_obj rfl) (.one (.attr (.var rfl) lk_obj rfl))) (le9 (n := 2) rfl)) ⟨h.length + 2, h.length + 1, _, rfl, ⟨_, rfl⟩, Nat.le_add_right _ _, Nat.le_add_right _ _, by (first | lia | omega), stA_pl, lk_list⟩⟩)

end
end Mine
end

section
/-! law 09: where rows differ -/
namespace Mine
noncomputable def dif (a b : List Row) (s n : Nat) : List Nat := (List.range' s n).filter fun p => decide (a[p]? ≠ b[p]?)
section
variable {a b : List Row} {k i s m n c : Nat}
theorem dif_app : dif a b s (m + n) = dif a b s m ++ dif a b (s + m) n := by
  unfold dif; rw [← List.filter_append, List.range'_append_1]
theorem blk_at {rows : List Row} {p : Nat} (l : i * 2 ^ k ≤ p) (u : p < i * 2 ^ k + 2 ^ k) : (blk rows k i)[p - i * 2 ^ k]? = rows[p]? := by
  unfold blk
  rw [List.getElem?_take_of_lt (by (first | lia | omega)), List.getElem?_drop, Nat.add_sub_cancel' l]
theorem dif_eq (q : eqB a b k i = true) : dif a b (i * 2 ^ k) (2 ^ k) = [] := by
  refine List.filter_eq_nil_iff.mpr fun p hp => ?_
  obtain ⟨l, u⟩ := List.mem_range'_1.mp hp
  rw [decide_eq_true_iff]
  exact fun z => z (by rw [← blk_at l u, ← blk_at (rows := b) l u, of_decide_eq_true q])
theorem dif_zero (q : eqB a b 0 i = false) : dif a b (i * 2 ^ 0) (2 ^ 0) = [i] := by
  rw [Nat.pow_zero, Nat.mul_one]
  refine List.filter_eq_self.mpr fun p hp => ?_
  cases List.mem_singleton.mp hp
  refine decide_eq_true fun z => of_decide_eq_false q (blk_ext fun m hm => ?_)
  rw [Nat.pow_zero, Nat.div_one] at hm
  rw [hm]; exact z
theorem blk_halves {rows : List Row} : blk rows (k + 1) i = blk rows k (2 * i) ++ blk rows k (2 * i + 1) := by rw [← blk_take, ← blk_drop, List.take_append_drop]
theorem dif_halves : dif a b (i * 2 ^ (k + 1)) (2 ^ (k + 1)) = dif a b (2 * i * 2 ^ k) (2 ^ k) ++ dif a b ((2 * i + 1) * 2 ^ k) (2 ^ k) := by
  have e1 : i * 2 ^ (k + 1) = 2 * i * 2 ^ k := by rw [Nat.pow_succ, Nat.mul_comm 2 i, Nat.mul_assoc, Nat.mul_comm 2]
  have e2 : 2 ^ (k + 1) = 2 ^ k + 2 ^ k := by rw [Nat.pow_succ, Nat.mul_two]
  have e3 : 2 * i * 2 ^ k + 2 ^ k = (2 * i + 1) * 2 ^ k := by rw [Nat.add_mul, Nat.one_mul]
  rw [e1, e2, dif_app, e3]
theorem oneA_of (h : eqB a b k i = false → (allA a b k i).2 = dif a b (i * 2 ^ k) (2 ^ k)) : (oneA a b k i).2 = dif a b (i * 2 ^ k) (2 ^ k) := by
  cases e : eqB a b k i with
  | true => rw [oneA_T e, dif_eq e]; rfl
  | false => rw [oneA_F e, ← h e]; rfl
theorem allA_dif : ∀ k i, eqB a b k i = false → (allA a b k i).2 = dif a b (i * 2 ^ k) (2 ^ k)
  | 0, i, q => (dif_zero q).symm
  | k + 1, i, q => by
    rw [dif_halves]
    cases e : eqB a b k (2 * i) with
    | true =>
      have r : eqB a b k (2 * i + 1) = false := decide_eq_false fun z => of_decide_eq_false q (by rw [blk_halves, blk_halves, of_decide_eq_true e, z])
      rw [allA_T e, dif_eq e, ← allA_dif k _ r]; rfl
    | false =>
      rw [allA_F e, ← allA_dif k _ e, ← oneA_of (allA_dif k (2 * i + 1))]; rfl
theorem walkA_dif : ∀ m, (walkA a b (pts c m)).2 = dif a b (base c m) (c - base c m)
  | 0 => by
    have : base c 0 = c := by unfold base; rw [Nat.pow_zero, Nat.div_one, Nat.mul_one]
    rw [this, Nat.sub_self]; rfl
  | m + 1 => by
    have bt := base_two c m
    have bl : base c m ≤ c := Nat.div_mul_le_self ..
    rw [pts, walkA_app]
    show (walkA a b _).2 ++ (walkA a b (pts c m)).2 = _
    rw [walkA_dif m]
    rcases Nat.mod_two_eq_zero_or_one (c / 2 ^ m) with z | z
    · rw [z, Nat.zero_mul, Nat.add_zero] at bt
      rw [if_neg (by rw [z]; decide), bt]; rfl
    · rw [z, Nat.one_mul] at bt
      have e1 : c - base c (m + 1) = 2 ^ m + (c - base c m) := by
        generalize base c m = u at bt bl ⊢
        generalize base c (m + 1) = v at bt ⊢
        generalize 2 ^ m = t at bt ⊢
        (first | lia | omega)
      have e2 : 2 * (c / 2 ^ (m + 1)) * 2 ^ m = base c (m + 1) := by unfold base; rw [Nat.pow_succ, Nat.mul_comm 2 (c / _), Nat.mul_assoc, Nat.mul_comm 2]
      have w1 : (walkA a b [(m, 2 * (c / 2 ^ (m + 1)))]).2 = dif a b (base c (m + 1)) (2 ^ m) := by
        have := oneA_of (k := m) (allA_dif (a := a) (b := b) m (2 * (c / 2 ^ (m + 1))))
        rw [e2] at this
        show (oneA a b m (2 * (c / 2 ^ (m + 1)))).2 ++ [] = _
        rw [List.append_nil, this]
      rw [if_pos z, w1, e1, dif_app, bt]
theorem allR_dif : (allR a b).2 = dif a b 0 (lessR a b) := by
  have h := walkA_dif (a := a) (b := b) (c := lessR a b) (bitsOf (lessR a b : Int))
  have z : base (lessR a b) (bitsOf (lessR a b : Int)) = 0 := by
    unfold base
    rw [Nat.div_eq_of_lt (by have := le_bits (lessR a b : Int); rwa [Int.natAbs_natCast] at this), Nat.zero_mul]
  rw [z, Nat.sub_zero] at h
  exact h
end
end Mine
end

section
/-! law 08: what the looks say -/
namespace Mine
section
variable {a b : List Row} {k i s m n c p : Nat}
theorem allA_cnt : ∀ k i, 1 ≤ (allA a b k i).2.length ∧ (allA a b k i).1.length ≤ 2 * k * (allA a b k i).2.length
  | 0, i => ⟨Nat.le_refl _, Nat.zero_le _⟩
  | k + 1, i => by
    obtain ⟨l1, l2⟩ := allA_cnt k (2 * i)
    obtain ⟨r1, r2⟩ := allA_cnt k (2 * i + 1)
    have ex : ∀ x : Nat, 2 * (k + 1) * x = 2 * k * x + 2 * x := fun x => by rw [Nat.mul_add, Nat.add_mul]
    cases e : eqB a b k (2 * i) with
    | true =>
      rw [allA_T e]
      show 1 ≤ (allA a b k (2 * i + 1)).2.length ∧ (allA a b k (2 * i + 1)).1.length + 1 ≤ 2 * (k + 1) * (allA a b k (2 * i + 1)).2.length
      rw [ex]; (first | lia | omega)
    | false =>
      rw [allA_F e]
      show 1 ≤ ((allA a b k (2 * i)).2 ++ (oneA a b k (2 * i + 1)).2).length ∧ ((allA a b k (2 * i)).1 ++ (oneA a b k (2 * i + 1)).1).length + 1 ≤ 2 * (k + 1) * ((allA a b k (2 * i)).2 ++ (oneA a b k (2 * i + 1)).2).length
      rw [List.length_append, List.length_append, ex, Nat.mul_add]
      cases e' : eqB a b k (2 * i + 1) with
      | true => rw [oneA_T e']; show 1 ≤ _ + 0 ∧ _ + 1 + 1 ≤ _ + _ * 0 + 2 * (_ + 0); (first | lia | omega)
      | false =>
        rw [oneA_F e']
        show 1 ≤ _ + (allA a b k (2 * i + 1)).2.length ∧ _ + ((allA a b k (2 * i + 1)).1.length + 1) + 1 ≤ _ + 2 * k * (allA a b k (2 * i + 1)).2.length + 2 * (_ + (allA a b k (2 * i + 1)).2.length)
        (first | lia | omega)
theorem oneA_cnt : (oneA a b k i).1.length ≤ 1 + 2 * k * (oneA a b k i).2.length := by
  cases e : eqB a b k i with
  | true => rw [oneA_T e]; exact Nat.le_add_right 1 _
  | false =>
    have := (allA_cnt (a := a) (b := b) k i).2
    rw [oneA_F e]; show (allA a b k i).1.length + 1 ≤ 1 + 2 * k * (allA a b k i).2.length; (first | lia | omega)
theorem walkA_cnt {K : Nat} : ∀ {l : List (Nat × Nat)}, (∀ q ∈ l, q.1 ≤ K) → (walkA a b l).1.length ≤ l.length + 2 * K * (walkA a b l).2.length
  | [], _ => Nat.zero_le _
  | q :: r, h => by
    have h1 := walkA_cnt (l := r) fun q hq => h q (.tail _ hq)
    have h2 := oneA_cnt (a := a) (b := b) (k := q.1) (i := q.2)
    have h3 : 2 * q.1 * (oneA a b q.1 q.2).2.length ≤ 2 * K * (oneA a b q.1 q.2).2.length := Nat.mul_le_mul_right _ (Nat.mul_le_mul_left _ (h q (.head _)))
    rw [walkA]
    show ((oneA a b q.1 q.2).1 ++ (walkA a b r).1).length ≤ r.length + 1 + 2 * K * ((oneA a b q.1 q.2).2 ++ (walkA a b r).2).length
    rw [List.length_append, List.length_append, Nat.mul_add]
    (first | lia | omega)
theorem allR_cnt : (allR a b).1.length ≤ bitsOf (lessR a b : Int) + 2 * (allR a b).2.length * (bitsOf (lessR a b : Int) - 1) := by
  have h1 := walkA_cnt (a := a) (b := b) (l := partsR a b) (K := bitsOf (lessR a b : Int) - 1) fun q hq => by
    have := (pts_in (show (q.1, q.2) ∈ _ from hq)).2; (first | lia | omega)
  have h2 := pts_len (lessR a b) (bitsOf (lessR a b : Int))
  refine Nat.le_trans h1 ?_
  rw [Nat.mul_right_comm]
  exact Nat.add_le_add_right h2 _
structure Lie (a b : List Row) (lo hi K : Nat) (x : Look) : Prop where
  below : x.1 < K
  lo : lo ≤ x.2.1 * 2 ^ x.1
  hi : x.2.1 * 2 ^ x.1 + 2 ^ x.1 ≤ hi
  says : x.2.2 = eqB a b x.1 x.2.1
theorem Lie.wide {lo hi lo' hi' K K' : Nat} {x : Look} (h : Lie a b lo hi K x) (h1 : K ≤ K') (h2 : lo' ≤ lo) (h3 : hi ≤ hi') : Lie a b lo' hi' K' x := ⟨Nat.lt_of_lt_of_le h.below h1, Nat.le_trans h2 h.lo, Nat.le_trans h.hi h3, h.says⟩
theorem half_lo : i * 2 ^ (k + 1) = 2 * i * 2 ^ k := by rw [Nat.pow_succ, Nat.mul_comm 2 i, Nat.mul_assoc, Nat.mul_comm 2]
theorem half_hi : (2 * i + 1) * 2 ^ k = 2 * i * 2 ^ k + 2 ^ k := by rw [Nat.add_mul, Nat.one_mul]
theorem half_up : (2 * i + 1) * 2 ^ k + 2 ^ k = i * 2 ^ (k + 1) + 2 ^ (k + 1) := by rw [half_lo, half_hi, Nat.pow_succ]; (first | lia | omega)
theorem lie_hd {B : Bool} {lo hi : Nat} (e : eqB a b k i = B) (h1 : lo ≤ i * 2 ^ k) (h2 : i * 2 ^ k + 2 ^ k ≤ hi) : ∀ x ∈ (hd k i B).1, Lie a b lo hi (k + 1) x := fun x hx => by
  cases List.mem_singleton.mp hx; exact ⟨Nat.lt_succ_self _, h1, h2, e.symm⟩
theorem allA_lie : ∀ k i, ∀ x ∈ (allA a b k i).1, Lie a b (i * 2 ^ k) (i * 2 ^ k + 2 ^ k) k x
  | 0, _, x, hx => absurd hx List.not_mem_nil
  | k + 1, i, x, hx => by
    have el := half_lo (i := i) (k := k)
    have eh := half_hi (i := i) (k := k)
    have eu := half_up (i := i) (k := k)
    have hp : 0 < 2 ^ k := Nat.pow_pos (by decide)
    have L : ∀ x ∈ (allA a b k (2 * i)).1, Lie a b (i * 2 ^ (k + 1)) (i * 2 ^ (k + 1) + 2 ^ (k + 1)) (k + 1) x := fun x hx => (allA_lie k _ x hx).wide (Nat.le_succ _) (by (first | lia | omega)) (by (first | lia | omega))
    have R : ∀ x ∈ (allA a b k (2 * i + 1)).1, Lie a b (i * 2 ^ (k + 1)) (i * 2 ^ (k + 1) + 2 ^ (k + 1)) (k + 1) x := fun x hx => (allA_lie k _ x hx).wide (Nat.le_succ _) (by (first | lia | omega)) (by (first | lia | omega))
    cases e : eqB a b k (2 * i) with
    | true =>
      rw [allA_T e] at hx
      rcases List.mem_append.mp hx with q | q
      · exact lie_hd e (by (first | lia | omega)) (by (first | lia | omega)) x q
      · exact R x q
    | false =>
      rw [allA_F e] at hx
      rcases List.mem_append.mp hx with q | q
      · exact lie_hd e (by (first | lia | omega)) (by (first | lia | omega)) x q
      rcases List.mem_append.mp q with q | q
      · exact L x q
      · cases e' : eqB a b k (2 * i + 1) with
        | true => rw [oneA_T e'] at q; exact lie_hd e' (by (first | lia | omega)) (by (first | lia | omega)) x q
        | false =>
          rw [oneA_F e'] at q
          rcases List.mem_append.mp q with q | q
          · exact lie_hd e' (by (first | lia | omega)) (by (first | lia | omega)) x q
          · exact R x q
theorem oneA_lie (x : Look) (hx : x ∈ (oneA a b k i).1) : Lie a b (i * 2 ^ k) (i * 2 ^ k + 2 ^ k) (k + 1) x := by
  cases e : eqB a b k i with
  | true => rw [oneA_T e] at hx; exact lie_hd e (Nat.le_refl _) (Nat.le_refl _) x hx
  | false =>
    rw [oneA_F e] at hx
    rcases List.mem_append.mp hx with q | q
    · exact lie_hd e (Nat.le_refl _) (Nat.le_refl _) x q
    · exact (allA_lie k i x q).wide (Nat.le_succ _) (Nat.le_refl _) (Nat.le_refl _)
noncomputable def key (x : Look) : Nat × Nat := (x.1, x.2.1)
theorem apart_ne {x y : Look} {u v w z K K' : Nat} (h : Lie a b u v K x) (h' : Lie a b w z K' y) (q : v ≤ w) : key x ≠ key y := fun e => by
  have e1 : x.1 = y.1 := (Prod.mk.inj e).1
  have e2 : x.2.1 = y.2.1 := (Prod.mk.inj e).2
  have a1 := h.hi
  have a2 := h'.lo
  rw [e1, e2] at a1
  have := Nat.pow_pos (n := y.1) (show 0 < 2 by decide)
  (first | lia | omega)
theorem below_ne {x y : Look} {u v K : Nat} (h : Lie a b u v K x) (q : K ≤ y.1) : key x ≠ key y := fun e => by
  have e1 : x.1 = y.1 := (Prod.mk.inj e).1
  have := h.below
  (first | lia | omega)
theorem nd_app {l r : List Look} (hl : (l.map key).Nodup) (hr : (r.map key).Nodup) (h : ∀ x ∈ l, ∀ y ∈ r, key x ≠ key y) : ((l ++ r).map key).Nodup := by
  rw [List.map_append]
  refine List.nodup_append.mpr ⟨hl, hr, fun x hx y hy => ?_⟩
  refine el_xp (List.mem_map.mp hx) fun u hu tqz => ?_; subst tqz
  refine el_xp (List.mem_map.mp hy) fun w hw tqz => ?_; subst tqz
  exact h u hu w hw
theorem nd_hd {B : Bool} {r : List Look} (hr : (r.map key).Nodup) (h : ∀ y ∈ r, key (k, i, B) ≠ key y) : (((hd k i B).1 ++ r).map key).Nodup :=
  nd_app (List.nodup_cons.mpr ⟨List.not_mem_nil, List.nodup_nil⟩) hr fun x hx y hy => by cases List.mem_singleton.mp hx; exact h y hy
theorem oneA_nd (h : ((allA a b k i).1.map key).Nodup) : ((oneA a b k i).1.map key).Nodup := by
  cases e : eqB a b k i with
  | true => rw [oneA_T e]; exact List.nodup_cons.mpr ⟨List.not_mem_nil, List.nodup_nil⟩
  | false => rw [oneA_F e]; exact nd_hd h fun y hy => (below_ne (allA_lie k i y hy) (Nat.le_refl k)).symm
theorem allA_nd : ∀ k i, ((allA a b k i).1.map key).Nodup
  | 0, _ => List.nodup_nil
  | k + 1, i => by
    have eh := half_hi (i := i) (k := k)
    cases e : eqB a b k (2 * i) with
    | true => rw [allA_T e]; exact nd_hd (allA_nd k _) fun y hy => (below_ne (allA_lie k _ y hy) (Nat.le_refl k)).symm
    | false =>
      rw [allA_F e]
      have lh : Lie a b (2 * i * 2 ^ k) (2 * i * 2 ^ k + 2 ^ k) (k + 1) (k, 2 * i, false) := ⟨Nat.lt_succ_self _, Nat.le_refl _, Nat.le_refl _, e.symm⟩
      refine nd_hd (nd_app (allA_nd k _) (oneA_nd (allA_nd k _)) fun x hx y hy => apart_ne (allA_lie k _ x hx) (oneA_lie y hy) (by (first | lia | omega))) fun y hy => ?_
      rcases List.mem_append.mp hy with q | q
      · exact (below_ne (allA_lie k _ y q) (Nat.le_refl k)).symm
      · exact apart_ne lh (oneA_lie y q) (by (first | lia | omega))
theorem part_lo : 2 * (c / 2 ^ (m + 1)) * 2 ^ m = base c (m + 1) := by unfold base; rw [Nat.pow_succ, Nat.mul_comm 2 (c / _), Nat.mul_assoc, Nat.mul_comm 2]
theorem walkA_lie (K : Nat) : ∀ m, m ≤ K → ∀ x ∈ (walkA a b (pts c m)).1, Lie a b (base c m) c K x
  | 0, _, x, hx => absurd hx List.not_mem_nil
  | m + 1, hm, x, hx => by
    have bt := base_two c m
    have bl : base c m ≤ c := Nat.div_mul_le_self ..
    rw [pts, walkA_app] at hx
    rcases List.mem_append.mp hx with q | q
    · split at q
      · rename_i z
        have q : x ∈ (oneA a b m (2 * (c / 2 ^ (m + 1)))).1 := by rw [show walkA a b [(m, 2 * (c / 2 ^ (m + 1)))] = _ from cat_nil _] at q; exact q
        have := oneA_lie x q
        rw [part_lo] at this
        rw [z, Nat.one_mul] at bt
        exact this.wide hm (Nat.le_refl _) (by (first | lia | omega))
      · cases q
    · exact (walkA_lie K m (Nat.le_of_succ_le hm) x q).wide (Nat.le_refl _) (by (first | lia | omega)) (Nat.le_refl _)
theorem walkA_nd : ∀ m, ((walkA a b (pts c m)).1.map key).Nodup
  | 0 => List.nodup_nil
  | m + 1 => by
    have bt := base_two c m
    rw [pts, walkA_app]
    split
    · rename_i z
      rw [z, Nat.one_mul] at bt
      have e : walkA a b [(m, 2 * (c / 2 ^ (m + 1)))] = oneA a b m (2 * (c / 2 ^ (m + 1))) := cat_nil _
      rw [e]
      refine nd_app (oneA_nd (allA_nd _ _)) (walkA_nd m) fun x hx y hy => ?_
      have h1 := oneA_lie x hx
      rw [part_lo] at h1
      exact apart_ne h1 (walkA_lie m m (Nat.le_refl _) y hy) (by (first | lia | omega))
    · exact walkA_nd m
theorem allR_nd : ((allR a b).1.map key).Nodup := walkA_nd _
theorem allR_lie (x : Look) (hx : x ∈ (allR a b).1) : Lie a b 0 (lessR a b) (bitsOf (lessR a b : Int)) x := (walkA_lie _ _ (Nat.le_refl _) x hx).wide (Nat.le_refl _) (Nat.zero_le _) (Nat.le_refl _)
noncomputable def sam (a b : List Row) (s n : Nat) : List Nat := (List.range' s n).filter fun p => decide (a[p]? = b[p]?)
noncomputable def covs (l : List Look) : List Nat := (l.filter fun x => x.2.2).flatMap fun x => List.range' (x.2.1 * 2 ^ x.1) (2 ^ x.1)
theorem covs_app (l r : List Look) : covs (l ++ r) = covs l ++ covs r := by unfold covs; rw [List.filter_append, List.flatMap_append]
theorem covs_T : covs (hd k i true).1 = List.range' (i * 2 ^ k) (2 ^ k) := List.append_nil _
theorem sam_app : sam a b s (m + n) = sam a b s m ++ sam a b (s + m) n := by unfold sam; rw [← List.filter_append, List.range'_append_1]
theorem sam_eq (q : eqB a b k i = true) : sam a b (i * 2 ^ k) (2 ^ k) = List.range' (i * 2 ^ k) (2 ^ k) := by
  refine List.filter_eq_self.mpr fun p hp => ?_
  obtain ⟨l, u⟩ := List.mem_range'_1.mp hp
  exact decide_eq_true (by rw [← blk_at l u, ← blk_at (rows := b) l u, of_decide_eq_true q])
theorem sam_zero (q : eqB a b 0 i = false) : sam a b (i * 2 ^ 0) (2 ^ 0) = [] := by
  rw [Nat.pow_zero, Nat.mul_one]
  refine List.filter_eq_nil_iff.mpr fun p hp => ?_
  cases List.mem_singleton.mp hp
  rw [decide_eq_true_iff]
  refine fun z => of_decide_eq_false q (blk_ext fun m hm => ?_)
  rw [Nat.pow_zero, Nat.div_one] at hm
  rw [hm]; exact z
theorem sam_halves : sam a b (i * 2 ^ (k + 1)) (2 ^ (k + 1)) = sam a b (2 * i * 2 ^ k) (2 ^ k) ++ sam a b ((2 * i + 1) * 2 ^ k) (2 ^ k) := by
  rw [half_lo, Nat.pow_succ, Nat.mul_two, sam_app, half_hi]
theorem oneA_sam (h : eqB a b k i = false → covs (allA a b k i).1 = sam a b (i * 2 ^ k) (2 ^ k)) : covs (oneA a b k i).1 = sam a b (i * 2 ^ k) (2 ^ k) := by
  cases e : eqB a b k i with
  | true => rw [oneA_T e, sam_eq e]; exact covs_T
  | false => rw [oneA_F e, ← h e]; exact covs_app _ _
theorem allA_sam : ∀ k i, eqB a b k i = false → covs (allA a b k i).1 = sam a b (i * 2 ^ k) (2 ^ k)
  | 0, i, q => (sam_zero q).symm
  | k + 1, i, q => by
    rw [sam_halves]
    cases e : eqB a b k (2 * i) with
    | true =>
      have r : eqB a b k (2 * i + 1) = false := decide_eq_false fun z => of_decide_eq_false q (by rw [blk_halves, blk_halves, of_decide_eq_true e, z])
      rw [allA_T e, sam_eq e, ← allA_sam k _ r]; exact (covs_app _ _).trans (congrArg (· ++ _) covs_T)
    | false =>
      rw [allA_F e, ← allA_sam k _ e, ← oneA_sam (allA_sam k (2 * i + 1))]; exact (covs_app _ _).trans (covs_app _ _)
theorem walkA_sam : ∀ m, covs (walkA a b (pts c m)).1 = sam a b (base c m) (c - base c m)
  | 0 => by
    have : base c 0 = c := by unfold base; rw [Nat.pow_zero, Nat.div_one, Nat.mul_one]
    rw [this, Nat.sub_self]; rfl
  | m + 1 => by
    have bt := base_two c m
    have bl : base c m ≤ c := Nat.div_mul_le_self ..
    rw [pts, walkA_app]
    refine (covs_app _ _).trans ?_
    rw [walkA_sam m]
    rcases Nat.mod_two_eq_zero_or_one (c / 2 ^ m) with z | z
    · rw [z, Nat.zero_mul, Nat.add_zero] at bt
      rw [if_neg (by rw [z]; decide), bt]; rfl
    · rw [z, Nat.one_mul] at bt
      have e1 : c - base c (m + 1) = 2 ^ m + (c - base c m) := by
        generalize base c m = u at bt bl ⊢
        generalize base c (m + 1) = v at bt ⊢
        generalize 2 ^ m = t at bt ⊢
        (first | lia | omega)
      have w1 := oneA_sam (k := m) (allA_sam (a := a) (b := b) m (2 * (c / 2 ^ (m + 1))))
      rw [part_lo] at w1
      have e : walkA a b [(m, 2 * (c / 2 ^ (m + 1)))] = oneA a b m (2 * (c / 2 ^ (m + 1))) := cat_nil _
      rw [if_pos z, e, w1, e1, sam_app, bt]
theorem base_top : base c (bitsOf (c : Int)) = 0 := by
  unfold base
  rw [Nat.div_eq_of_lt (by have := le_bits (c : Int); rwa [Int.natAbs_natCast] at this), Nat.zero_mul]
theorem allR_sam : covs (allR a b).1 = sam a b 0 (lessR a b) := by
  have h := walkA_sam (a := a) (b := b) (c := lessR a b) (bitsOf (lessR a b : Int))
  rw [base_top, Nat.sub_zero] at h
  exact h
theorem desc_head : ∀ k i, (allA a b k i).2.head? = some (desc a b k i).2
  | 0, _ => rfl
  | k + 1, i => by
    cases e : eqB a b k (2 * i) with
    | true =>
      have h := desc_head k (2 * i + 1)
      rw [allA_T e]
      show (allA a b k (2 * i + 1)).2.head? = some (desc a b k (2 * i + (eqB a b k (2 * i)).toNat)).2
      rw [e]; exact h
    | false =>
      have h := desc_head k (2 * i)
      rw [allA_F e]
      show ((allA a b k (2 * i)).2 ++ (oneA a b k (2 * i + 1)).2).head? = some (desc a b k (2 * i + (eqB a b k (2 * i)).toNat)).2
      rw [e, List.head?_append, h]; rfl
theorem walk_head : ∀ l, (walkA a b l).2.head? = (walkF a b l).2
  | [] => rfl
  | q :: r => by
    have h := walk_head r
    rw [walkA, walkF]
    cases e : eqB a b q.1 q.2 with
    | true => rw [oneA_T e]; exact h
    | false =>
      rw [oneA_F e]
      show ((allA a b q.1 q.2).2 ++ (walkA a b r).2).head? = some (desc a b q.1 q.2).2
      rw [List.head?_append, desc_head]; rfl
theorem found_dif : foundR a b = match (dif a b 0 (lessR a b)).head? with | some p => .int (p : Nat) | none => if a.length = b.length then .none else .int (lessR a b : Nat) := by
  unfold foundR
  rw [← allR_dif, ← walk_head]; rfl
end
end Mine
end

section
/-! law 08: rules -/
namespace Mine
section
variable {P : Pg} {cl : CallT} {g g' : Gm} {h h' h1 : Hp} {n i j k r q N m c : Nat} {e : E} {l : List V} {v : V} {ss bd : List S} {R : RS → Prop}
theorem bind_list {xs : List Nat} (e : h[r]? = some (.list l)) : bindU xs (.ref r) g h = bindAll xs l g := by
  show (match h[r]? with | some (.list l) => bindAll xs l g | _ => none) = _; rw [e]
theorem Ev.lset (x : Ev P cl g h e (.ref r) h') (a : h'[r]? = some (.list l)) (k : l.all (fun v => (tupOf v).isSome) = true) (f : l.length < 9000) (d : l.Pairwise fun x y => keyEq x y = false) : Ev P cl g h (.lset e) (.int (l.length : Nat)) h' := by
  unfold Ev at *
  rw [ev_lset, x]
  show (match h'[r]? with | some (.list l) => setLen l h' | _ => .bad) = _
  rw [a]; exact if_pos ⟨k, f, d⟩
theorem maxD : bfn "max" [.int 0, .int ((m : Int) - 1)] h = .ok (.int ((m - 1 : Nat) : Int)) h := by
  show R.ok (V.int (if (m : Int) - 1 > 0 then (m : Int) - 1 else 0)) h = _
  refine congrArg (fun z => R.ok (V.int z) h) ?_
  split <;> (first | lia | omega)
theorem mulN (a b : Nat) (ha : a < 2 ^ 60) (hb : b < 2 ^ 60) : binop .mul (.int (a : Nat)) (.int (b : Nat)) h = .ok (.int ((a * b : Nat) : Int)) h :=
  (b_mul (Nat.le_trans (bits_le (k := 60) (by rwa [Int.natAbs_natCast])) (by decide)) (Nat.le_trans (bits_le (k := 60) (by rwa [Int.natAbs_natCast])) (by decide))).trans (congrArg (fun z => R.ok (V.int z) h) (Int.natCast_mul a b).symm)
theorem comp_filt {cond elt : V → Hp → Mine.R V} {f : Nat → Bool} (hN : N < 90000) (hc : ∀ k, k < N → cond (.int (k : Nat)) h = .ok (.bool (f k)) h) (he : ∀ k, k < N → elt (.int (k : Nat)) h = .ok (.int (k : Nat)) h) :
    compL cond elt (.rng 0 (N : Nat) 1) LF 0 [] h = .ok (((List.range N).filter f).map iv) h := by
  have len : ∀ k, (((List.range k).filter f).map iv).length ≤ k := fun k => by rw [List.length_map]; exact Nat.le_trans (List.length_filter_le _ _) (Nat.le_of_eq List.length_range)
  obtain ⟨l2, h2, c, e2, e3⟩ := compL_inv (h := h) (src := .rng 0 (N : Nat) 1) (cond := cond) (elt := elt)
    (fun k acc h' => k ≤ N ∧ acc = ((List.range k).filter f).map iv ∧ h' = h) N (by have : LF = 100000 := rfl; (first | lia | omega)) (fun l2 h' => l2 = ((List.range N).filter f).map iv ∧ h' = h) ⟨Nat.zero_le _, rfl, rfl⟩ (fun k acc h2 I => by
    refine el_pp I fun hk ea eh => ?_; try clear I
    subst ea; subst eh
    rcases Nat.lt_or_ge k N with z | z
    · have nt : nth (.rng 0 (N : Nat) 1) h2 k = some (some (.int (k : Nat))) := by
        show some (if (0 : Int) + k < (N : Nat) then some (V.int (0 + k)) else none) = _
        rw [if_pos (by (first | lia | omega)), Int.zero_add]
      have up : ∀ b, f k = b → ((List.range (k + 1)).filter f).map iv = ((List.range k).filter f).map iv ++ if b then [iv k] else [] := fun b hb => by
        rw [List.range_succ, List.filter_append, List.map_append, List.filter_cons, hb]; cases b <;> rfl
      refine .inr ⟨.int (k : Nat), h2, nt, z, by have := len k; have : mostLen = 2 ^ 24 := (by decide); (first | lia | omega), ?_⟩
      have ck := hc k z
      cases hq : f k with
      | true => rw [hq] at ck; exact .inl ⟨ck, _, h2, he k z, z, (up true hq).symm, rfl⟩
      | false => rw [hq] at ck; exact .inr ⟨ck, z, ((up false hq).trans (List.append_nil _)).symm, rfl⟩
    · obtain rfl := Nat.le_antisymm hk z
      refine .inl ⟨?_, rfl, rfl⟩
      show some (if (0 : Int) + k < (k : Nat) then some (V.int (0 + k)) else none) = _
      rw [if_neg (by (first | lia | omega))])
  subst e2; subst e3; exact c
theorem data_ivs {l : List Nat} (e : h[r]? = some (.list (l.map iv))) : data deep h (.ref r) = some (.list (l.map fun i => .int (i : Nat))) := data_list (m := 7) e (mapO_all fun _ _ => rfl)
theorem eqv_ivs : ∀ l : List Nat, D.eqvs (l.map fun i => .int (i : Nat)) (l.map fun i => .int (i : Nat)) = true
  | [] => rfl
  | p :: r => by show (((p : Int) == p) && D.eqvs (r.map _) (r.map _)) = true; rw [beq_self_eq_true, eqv_ivs r]; rfl
theorem ne_ivs {l : List Nat} (a : h[r]? = some (.list (l.map iv))) (b : h[q]? = some (.list (l.map iv))) : cmpop .ne (.ref r) (.ref q) h = .ok (.bool false) h := by
  show okO (Option.map _ (veq _ _ _)) _ = _
  rw [(veq_lists a b (data_ivs a) (data_ivs b)).trans (congrArg some (eqv_ivs l))]; rfl
theorem ne_nil {l : List Nat} (a : h[r]? = some (.list (l.map iv))) (b : h[q]? = some (.list [])) : cmpop .ne (.ref r) (.ref q) h = .ok (.bool (!l.isEmpty)) h := by
  show okO (Option.map _ (veq _ _ _)) _ = _
  rw [veq_lists a b (data_ivs a) (data_ivs (l := []) b)]
  cases l <;> rfl
theorem in_ivs {l : List Nat} {p : Nat} (a : h[r]? = some (.list (l.map iv))) : cmpop .notin (.int (p : Nat)) (.ref r) h = .ok (.bool (!decide (p ∈ l))) h := by
  have e : vin h (.int (p : Nat)) (.ref r) = some ((l.map fun i => D.int (i : Nat)).any fun y => D.eqv y (.int (p : Nat))) := by
    show (match h[r]? with | some (.list _) => (match data deep h (.ref r), data deep h (.int (p : Nat)) with | some (.list ds), some d => some (ds.any fun y => D.eqv y d) | _, _ => .none) | some (.dict _) => _ | _ => _) = _
    rw [a]; dsimp only; rw [data_ivs a]; rfl
  have f : ((l.map fun i => D.int (i : Nat)).any fun y => D.eqv y (.int (p : Nat))) = decide (p ∈ l) := by
    rw [List.any_map, Bool.eq_iff_iff, List.any_eq_true, decide_eq_true_iff]
    constructor
    · rintro ⟨x, hx, q⟩
      have q : ((x : Int) == (p : Int)) = true := q
      cases Int.ofNat.inj (eq_of_beq q); exact hx
    · exact fun hp => ⟨p, hp, beq_self_eq_true (p : Int)⟩
  show okO (Option.map _ (vin _ _ _)) _ = _
  rw [e, f]; rfl
theorem X.rangeLH {e1 e2 : E} {x lo hi : Nat} (I : Nat → Gm → Hp → Prop) (hl : lo < 90000) (hN : hi < 90000) (q1 : Ev P cl g h e1 (.int (lo : Nat)) h1) (q2 : Ev P cl g h1 e2 (.int (hi : Nat)) h') (i : I 0 g h')
    (step : ∀ k g h, I k g h → k < hi - lo → X P cl bd (g.set x (some (.int ((lo + k : Nat) : Int)))) h (orI (I (k + 1)) R)) (fin : ∀ g h, I (hi - lo) g h → X P cl ss g h R) : X P cl (.forr [x] (.bi "range" [e1, e2]) bd :: ss) g h R := by
  have rg : bfn "range" [.int (lo : Nat), .int (hi : Nat)] h' = .ok (.rng (lo : Nat) (hi : Nat) 1) h' := by
    show (if ((lo : Nat) : Int).natAbs < 1000000000000 ∧ ((hi : Nat) : Int).natAbs < 1000000000000 then Mine.R.ok (V.rng (lo : Nat) (hi : Nat) 1) h' else .bad) = _
    exact if_pos ⟨by (first | lia | omega), by (first | lia | omega)⟩
  refine .forr (fun k g h => k ≤ hi - lo ∧ I k g h) (hi - lo) (by have : LF = 100000 := rfl; (first | lia | omega)) (src := .rng (lo : Nat) (hi : Nat) 1) (.bi (.cons q1 (.one q2)) rg) ⟨Nat.zero_le _, i⟩ fun k g h z => ?_
  obtain ⟨hk, z⟩ := z
  rcases Nat.lt_or_ge k (hi - lo) with q | q
  · refine .inr ⟨.int ((lo + k : Nat) : Int), _, ?_, q, rfl, (step k g h z q).mono fun r y => ?_⟩
    · show some (if ((lo : Nat) : Int) + k < (hi : Nat) then some (V.int ((lo : Nat) + k)) else none) = _
      rw [if_pos (by (first | lia | omega))]; exact congrArg (fun z => some (some (V.int z))) (by (first | lia | omega))
    · cases r <;> first | exact ⟨q, y⟩ | exact y
  · obtain rfl := Nat.le_antisymm hk q
    refine .inl ⟨?_, fin g h z⟩
    show some (if ((lo : Nat) : Int) + ((hi - lo : Nat) : Int) < (hi : Nat) then some (V.int ((lo : Nat) + ((hi - lo : Nat) : Int))) else none) = _
    rw [if_neg (by (first | lia | omega))]
theorem comp_items {vs ws : List V} {elt : V → Hp → Mine.R V} (a : h[r]? = some (.list vs)) (hl : vs.length < 90000) (le : ws.length = vs.length) (q : ∀ (k : Nat) v x, vs[k]? = some v → ws[k]? = some x → elt v h = .ok x h) : compL (fun _ h => .ok (.bool true) h) elt (.ref r) LF 0 [] h = .ok ws h := by
  obtain ⟨l2, h2, c, e2, e3⟩ := compL_inv (h := h) (src := .ref r) (cond := fun _ h => .ok (.bool true) h) (elt := elt)
    (fun k acc h' => k ≤ vs.length ∧ acc = ws.take k ∧ h' = h) vs.length (Nat.lt_trans hl (by decide)) (fun l2 h' => l2 = ws ∧ h' = h) ⟨Nat.zero_le _, rfl, rfl⟩ (fun k acc h2 I => by
    refine el_pp I fun hk ea eh => ?_; try clear I
    subst ea; subst eh
    rcases Nat.lt_or_ge k vs.length with z | z
    · have z' : k < ws.length := le ▸ z
      exact .inr ⟨vs[k], h2, (nth_rows a).trans (by rw [List.getElem?_eq_getElem z]), z, by rw [List.length_take]; have : mostLen = 2 ^ 24 := (by decide); (first | lia | omega), .inl ⟨rfl, ws[k], h2, q k _ _ (List.getElem?_eq_getElem z) (List.getElem?_eq_getElem z'), z, (take_succ_at (List.getElem?_eq_getElem z')).symm, rfl⟩⟩
    · obtain rfl := Nat.le_antisymm hk z
      exact .inl ⟨(nth_rows a).trans (congrArg some (List.getElem?_eq_none (Nat.le_refl _))), by rw [← le, List.take_length], rfl⟩)
  subst e2; subst e3; exact c
end
end Mine
end

section
/-! law 08: the law's own parts -/
namespace Mine
structure Has8 (P : Pg) : Prop extends HasK P where
  first : P.fn ("Looker", "first_in") = some f_Looker_first_in
  funlike : P.fn ("", "first_unlike") = some f_first_unlike
  allin : P.fn ("Looker", "all_in") = some f_Looker_all_in
  unlike : P.fn ("", "all_unlike") = some f_all_unlike
  ldigits : P.fn ("", "_law_digits") = some f_law_digits
  lsize : P.fn ("", "_law_size") = some f_law_size
  ltrue : P.fn ("", "_law_true") = some f_law_true
  law : P.fn ("", "law") = some f_law_8
section
variable {P : Pg} {cl : CallT} {g g' : Gm} {h h' h1 : Hp} {n i j k r q N m c xa xb xl d : Nat} {A B : List Row} {L : List Look} {ss bd : List S} {R : RS → Prop} {v : V}
theorem slc_blk {rows : List Row} (e : h[r]? = some (.list (rows.map .str))) (q : i * 2 ^ k + 2 ^ k ≤ rows.length) : getSlice (.ref r) (.int ((i * 2 ^ k : Nat) : Int)) (.int ((i * 2 ^ k + 2 ^ k : Nat) : Int)) h = .ok (.ref h.length) (h ++ [.list ((blk rows k i).map .str)]) := by
  show (match h[r]? with | some (.list l) => (match bound (.int ((i * 2 ^ k : Nat) : Int)) l.length 0, bound (.int ((i * 2 ^ k + 2 ^ k : Nat) : Int)) l.length l.length with | some a, some b => alloc (.list (Mine.cut l a b)) h | _, _ => .bad) | _ => .bad) = _
  rw [e]
  show alloc (.list (Mine.cut (rows.map V.str) (clamp ((i * 2 ^ k : Nat) : Int) (rows.map V.str).length) (clamp ((i * 2 ^ k + 2 ^ k : Nat) : Int) (rows.map V.str).length))) h = _
  rw [List.length_map, clamp_nat (Nat.le_trans (Nat.le_add_right _ _) q), clamp_nat q]
  unfold Mine.cut blk
  rw [Nat.add_sub_cancel_left, List.map_take, List.map_drop]; rfl
theorem lsz (p : Has8 P) (hk : k < 60) : run P (n + 1) ("", "_law_size") [.int (k : Nat)] h = .ok (.int (2 ^ k : Nat)) h := run_sizeG p.lsize hk
theorem pow_small (hk : k < 12) : 2 ^ k < 2 ^ 60 := Nat.pow_lt_pow_right (by decide) (by (first | lia | omega))
theorem law_true (p : Has8 P) (ea : h[xa]? = some (.list (A.map .str))) (eb : h[xb]? = some (.list (B.map .str))) (el : h[xl]? = some (.list (L.map lk))) (hL : ∀ x ∈ L, Lie A B 0 (lessR A B) 12 x) (few : L.length < 90000) (lA : lessR A B ≤ 1024) :
    ∃ z, run P (n + 2) ("", "_law_true") [.ref xa, .ref xb, .ref xl] h = .ok (.bool true) (h ++ z) := by
  refine go (Q := fun q => ∃ z, q = .ok (.bool true) (h ++ z)) (vs := [.ref xa, .ref xb, .ref xl]) p.ltrue rfl (.forr (fun k g h' => k ≤ L.length ∧ ∃ z t3 t4 t5 t6 t7 t8, g = [some (.ref xa), some (.ref xb), some (.ref xl), t3, t4, t5, t6, t7, t8] ∧ h' = h ++ z) L.length (by have : LF = 100000 := rfl; (first | lia | omega)) (.var rfl) ⟨Nat.zero_le _, [], none, none, none, none, none, none, rfl, (List.append_nil _).symm⟩ fun k g h' I => ?_)
  obtain ⟨hk, z, t3, t4, t5, t6, t7, t8, eg, eh⟩ := I
  subst eg; subst eh
  have at_ : ∀ {z : Hp}, (h ++ z)[xl]? = some (.list (L.map lk)) := ga _ el
  rcases Nat.lt_or_ge k L.length with lt | ge
  · have hx := hL _ (List.getElem_mem lt)
    generalize ex : L[k] = x at hx
    obtain ⟨K, i, al⟩ := x
    obtain ⟨x1, x2, x3, x4⟩ := hx
    dsimp only at x1 x2 x3 x4
    have lx : (L.map lk)[k]? = some (.tup [.int (K : Nat), .int (i : Nat), .bool al]) := by rw [List.getElem?_map, List.getElem?_eq_getElem lt, ex]; rfl
    have hl1 : lessR A B ≤ A.length := Nat.min_le_left _ _
    have hl2 : lessR A B ≤ B.length := Nat.min_le_right _ _
    have hp := Nat.pow_pos (n := K) (show 0 < 2 by decide)
    have hi : i ≤ i * 2 ^ K := Nat.le_mul_of_pos_right _ hp
    have ml := mulN (h := h ++ z) i (2 ^ K) (by (first | lia | omega)) (pow_small x1)
    have s1 := slc_blk (i := i) (k := K) (ga z ea) (by (first | lia | omega))
    have s2 := slc_blk (i := i) (k := K) (h := h ++ z ++ [.list ((blk A K i).map .str)]) (ga _ (ga z eb)) (by (first | lia | omega))
    have e1 : cmpop .eq (.ref (h ++ z).length) (.ref (h ++ z ++ [Ob.list ((blk A K i).map .str)]).length) (h ++ z ++ [.list ((blk A K i).map .str)] ++ [.list ((blk B K i).map .str)]) = .ok (.bool al) (h ++ z ++ [.list ((blk A K i).map .str)] ++ [.list ((blk B K i).map .str)]) := by
      show okO (veq _ _ _) _ = _
      rw [veq_rows (ga _ (gn _ _)) (gn _ _), x4]; rfl
    have ad : ∀ {h : Hp}, binop .add (.int ((i * 2 ^ K : Nat) : Int)) (.int ((2 ^ K : Nat) : Int)) h = .ok (.int ((i * 2 ^ K + 2 ^ K : Nat) : Int)) h := fun {h} => congrArg (fun z => Mine.R.ok (V.int z) h) (Int.natCast_add _ _).symm
    refine .inr ⟨_, _, (nth_rows at_).trans (congrArg some lx), lt, rfl, .asg (.call (.one (.var rfl)) (lsz p (by (first | lia | omega)))) (.asg (.two (.var rfl) (.var rfl) ml) (.ifF (.cmp (.two (.var rfl) (.var rfl) ad) (.bi (.cons (.bi (.one (.var rfl)) (ref_len (ga z ea) (List.length_map _))) (.one (.bi (.one (.var rfl)) (ref_len (ga z eb) (List.length_map _))))) minD) (c_gt' ?_))
      (.asg (.slc (.var rfl) (.var rfl) (.two (.var rfl) (.var rfl) ad) s1) (.ifF (.cmp (.var rfl) (.cmp (.var rfl) (.slc (.var rfl) (.var rfl) (.two (.var rfl) (.var rfl) ad) s2) e1) (by cases al <;> rfl)) (.nil ⟨lt, z ++ [.list ((blk A K i).map .str)] ++ [.list ((blk B K i).map .str)], _, _, _, _, _, _, rfl, ?_⟩)))))⟩
    · exact Int.not_lt.mpr (Int.ofNat_le.mpr x3)
    · rw [List.append_assoc, List.append_assoc, List.append_assoc]
  · exact .inl ⟨(nth_rows at_).trans (congrArg some (List.getElem?_eq_none (by rw [List.length_map]; exact ge))), .ret .bool ⟨z, rfl⟩⟩
noncomputable def pr (x : Look) : V := .tup [.int (x.1 : Nat), .int (x.2.1 : Nat)]
theorem pr_ne {x y : Look} (q : key x ≠ key y) : keyEq (pr x) (pr y) = false := by
  cases e : keyEq (pr x) (pr y) with
  | false => rfl
  | true =>
    have e := keyEq_eq e
    injection e with e; injection e with e1 e2; injection e2 with e2 e3; injection e1 with e1; injection e2 with e2
    exact absurd (show key x = key y from by unfold key; rw [Int.ofNat.inj e1, Int.ofNat.inj e2]) q
theorem set_looks (el : h[xl]? = some (.list (L.map lk))) (nd : (L.map key).Nodup) (few : L.length < 9000) {g : Gm} (gl : g.length = 18) (g8 : g[8]? = some (some (.ref xl))) :
    Ev P cl g h (.lset (.comp (.slc (.var 17) .none (.int 2)) 17 (.var 8) (.bool true))) (.int (L.length : Nat)) (h ++ [.list (L.map pr)]) := by
  have cp := comp_items (h := h) (vs := L.map lk) (ws := L.map pr) (elt := fun v h => ev P cl (g.set 17 (some v)) (.slc (.var 17) .none (.int 2)) h) el (by rw [List.length_map]; (first | lia | omega)) (by rw [List.length_map, List.length_map]) fun k v x a b => by
    rw [List.getElem?_map] at a b
    cases e : L[k]? with
    | none => rw [e] at a; cases a
    | some y =>
      rw [e] at a b; cases a; cases b
      exact Ev.slc (.var (List.getElem?_set_self (by (first | lia | omega)))) .none .int rfl
  have ec : Ev P cl g h (.comp (.slc (.var 17) .none (.int 2)) 17 (.var 8) (.bool true)) (.ref h.length) (h ++ [.list (L.map pr)]) := .comp (.var g8) cp
  have := Ev.lset ec (gn h _) (List.all_eq_true.mpr fun x hx => by refine el_xp (List.mem_map.mp hx) fun y _ tqz => ?_; subst tqz; rfl) (by rw [List.length_map]; (first | lia | omega)) (List.pairwise_map.mpr ((List.pairwise_map.mp nd).imp fun q => pr_ne q))
  rw [List.length_map] at this
  exact this
noncomputable def cvd (l : List Nat) : List (V × V) := l.map fun p => (.int (p : Nat), .bool true)
theorem cvd_no {p : Nat} : ∀ {l : List Nat}, p ∉ l → dGet (cvd l) (.int (p : Nat)) = none
  | [], _ => rfl
  | x :: l, q => by
    have e : keyEq (.int (x : Nat)) (.int (p : Nat)) = false := by
      cases e : keyEq (.int (x : Nat)) (.int (p : Nat)) with
      | false => rfl
      | true => have e := keyEq_eq e; injection e with e; exact absurd (Int.ofNat.inj e) fun z => q (z ▸ .head _)
    show (if keyEq (.int (x : Nat)) (.int (p : Nat)) then some (V.bool true) else dGet (cvd l) (.int (p : Nat))) = none
    rw [e, if_neg Bool.false_ne_true]; exact cvd_no fun z => q (.tail _ z)
theorem cvd_set {l : List Nat} {p : Nat} (q : p ∉ l) (few : l.length < 100000) : setItem (.ref h.length) (.int (p : Nat)) (.bool true) (h ++ [.dict (cvd l)]) = .ok .none (h ++ [.dict (cvd (l ++ [p]))]) := by
  show (match (h ++ [Ob.dict (cvd l)])[h.length]?, V.int (p : Nat) with | some (.list l), .int k => _ | some (.dict es), k => (if isKey k ∧ es.length < mostLen then Mine.R.ok V.none ((h ++ [Ob.dict (cvd l)]).set h.length (.dict (dSet es k (.bool true)))) else .bad) | _, _ => _) = _
  rw [gn]
  show (if isKey (.int (p : Nat)) = true ∧ (cvd l).length < mostLen then Mine.R.ok V.none ((h ++ [Ob.dict (cvd l)]).set h.length (.dict (dSet (cvd l) (.int (p : Nat)) (.bool true)))) else .bad) = _
  rw [if_pos ⟨rfl, by unfold cvd; rw [List.length_map]; exact Nat.lt_trans few (by decide)⟩, dSet_end _ (cvd_no q), List.set_append_right _ _ (Nat.le_refl _), Nat.sub_self]
  unfold cvd; rw [List.map_append]; rfl
theorem covs_take (hk : k < L.length) : covs (L.take (k + 1)) = covs (L.take k) ++ covs [L[k]] := by rw [take_succ_at (List.getElem?_eq_getElem hk), covs_app]
theorem cover (p : Has8 P) {a0 a1 a2 a3 a4 a5 a6 a7 a9 : Option V} (el : h[xl]? = some (.list (L.map lk))) (hL : ∀ x ∈ L, Lie A B 0 (lessR A B) 12 x) (few : L.length < 90000) (lA : lessR A B ≤ 1024) (nd : (covs L).Nodup) (cf : (covs L).length < 90000)
    (fin : ∀ t11 t12 t13 t14 t15, X P (run P (n + 1)) ss [a0, a1, a2, a3, a4, a5, a6, a7, some (.ref xl), a9, some (.ref h.length), t11, t12, t13, t14, t15, none, none] (h ++ [.dict (cvd (covs L))]) R) :
    X P (run P (n + 1)) (.forr [11, 12, 13] (.var 8) [.iff (.var 13) [.asg 14 (.call "_law_size" [.var 11]), .forr [15] (.bi "range" [.bin .mul (.var 12) (.var 14), .bin .add (.bin .mul (.var 12) (.var 14)) (.var 14)]) [.asgI (.var 10) (.var 15) (.bool true)]] []] :: ss) [a0, a1, a2, a3, a4, a5, a6, a7, some (.ref xl), a9, some (.ref h.length), none, none, none, none, none, none, none] (h ++ [.dict []]) R := by
  refine .forr (fun k g h' => k ≤ L.length ∧ ∃ t11 t12 t13 t14 t15, g = [a0, a1, a2, a3, a4, a5, a6, a7, some (.ref xl), a9, some (.ref h.length), t11, t12, t13, t14, t15, none, none] ∧ h' = h ++ [.dict (cvd (covs (L.take k)))]) L.length (by have : LF = 100000 := rfl; (first | lia | omega)) (.var rfl) ⟨Nat.zero_le _, none, none, none, none, none, rfl, rfl⟩ fun k g h' I => ?_
  obtain ⟨hk, t11, t12, t13, t14, t15, eg, eh⟩ := I
  subst eg; subst eh
  have at_ : ∀ {z : Hp}, (h ++ z)[xl]? = some (.list (L.map lk)) := ga _ el
  rcases Nat.lt_or_ge k L.length with lt | ge
  · have hx := hL _ (List.getElem_mem lt)
    have ct := covs_take lt
    have pre : covs L = covs (L.take k) ++ (covs [L[k]] ++ covs (L.drop (k + 1))) := by
      rw [← List.append_assoc, ← ct, ← covs_app, List.take_append_drop]
    generalize ex : L[k] = x at hx ct pre
    obtain ⟨K, i, al⟩ := x
    obtain ⟨x1, x2, x3, x4⟩ := hx
    dsimp only at x1 x2 x3 x4
    have lx : (L.map lk)[k]? = some (.tup [.int (K : Nat), .int (i : Nat), .bool al]) := by rw [List.getElem?_map, List.getElem?_eq_getElem lt, ex]; rfl
    refine .inr ⟨_, _, (nth_rows at_).trans (congrArg some lx), lt, rfl, ?_⟩
    cases al with
    | false => exact .ifF (.var rfl) (.nil ⟨lt, _, _, _, _, _, rfl, by rw [ct]; exact congrArg (fun z => h ++ [Ob.dict (cvd z)]) (List.append_nil _).symm⟩)
    | true =>
      have hp := Nat.pow_pos (n := K) (show 0 < 2 by decide)
      have hi : i ≤ i * 2 ^ K := Nat.le_mul_of_pos_right _ hp
      have cx : covs [((K, i, true) : Look)] = List.range' (i * 2 ^ K) (2 ^ K) := covs_T
      rw [cx] at ct pre
      have ml : ∀ {h : Hp}, binop .mul (.int (i : Nat)) (.int ((2 ^ K : Nat) : Int)) h = .ok (.int ((i * 2 ^ K : Nat) : Int)) h := fun {h} => mulN i (2 ^ K) (by (first | lia | omega)) (pow_small x1)
      have ad : ∀ {h : Hp}, binop .add (.int ((i * 2 ^ K : Nat) : Int)) (.int ((2 ^ K : Nat) : Int)) h = .ok (.int ((i * 2 ^ K + 2 ^ K : Nat) : Int)) h := fun {h} => congrArg (fun z => Mine.R.ok (V.int z) h) (Int.natCast_add _ _).symm
      refine .ifT (.var rfl) (.asg (.call (.one (.var rfl)) (lsz p (by (first | lia | omega)))) (.rangeLH (lo := i * 2 ^ K) (hi := i * 2 ^ K + 2 ^ K) (fun j g h' => ∃ t15, g = [a0, a1, a2, a3, a4, a5, a6, a7, some (.ref xl), a9, some (.ref h.length), some (.int (K : Nat)), some (.int (i : Nat)), some (.bool true), some (.int (2 ^ K : Nat)), t15, none, none] ∧ h' = h ++ [.dict (cvd (covs (L.take k) ++ List.range' (i * 2 ^ K) j))])
        (by (first | lia | omega)) (by (first | lia | omega)) (.two (.var rfl) (.var rfl) ml) (.two (.two (.var rfl) (.var rfl) ml) (.var rfl) ad) ⟨_, rfl, by rw [List.range'_zero, List.append_nil]⟩ (fun j g h' I hj => ?_) fun g h' I => ?_))
      · refine el_xp I fun t15 tq1 tqz => ?_; try clear I; subst tq1; subst tqz
        have sp : List.range' (i * 2 ^ K) (2 ^ K) = List.range' (i * 2 ^ K) j ++ (i * 2 ^ K + j) :: List.range' (i * 2 ^ K + j + 1) (2 ^ K - (j + 1)) := by
          have e : 2 ^ K = j + ((2 ^ K - (j + 1)) + 1) := by (first | lia | omega)
          rw [show List.range' (i * 2 ^ K) (2 ^ K) = List.range' (i * 2 ^ K) (j + ((2 ^ K - (j + 1)) + 1)) from congrArg (fun y => List.range' (i * 2 ^ K) y) e, ← List.range'_append_1, List.range'_succ]
        rw [sp] at pre
        have ns : (i * 2 ^ K + j) ∉ covs (L.take k) ++ List.range' (i * 2 ^ K) j := fun z => by
          rw [pre, List.append_assoc, ← List.append_assoc] at nd
          exact (List.nodup_append.mp nd).2.2 _ z _ (.head _) rfl
        have fw : (covs (L.take k) ++ List.range' (i * 2 ^ K) j).length < 100000 := by
          rw [pre, List.append_assoc, ← List.append_assoc, List.length_append] at cf; (first | lia | omega)
        exact .asgI .bool (.var rfl) (.var rfl) (cvd_set ns fw) (.nil ⟨_, rfl, by rw [List.append_assoc, List.range'_1_concat]⟩)
      · refine el_xp I fun t15 tq1 tqz => ?_; try clear I; subst tq1; subst tqz
        rw [Nat.add_sub_cancel_left, ← ct]
        exact .nil ⟨lt, _, _, _, _, _, rfl, rfl⟩
  · obtain rfl := Nat.le_antisymm hk ge
    rw [List.take_length]
    exact .inl ⟨(nth_rows at_).trans (congrArg some (List.getElem?_eq_none (by rw [List.length_map]; exact ge))), fin _ _ _ _ _⟩
end
end Mine
end

section
/-! law 08 -/
namespace Mine
section
variable {P : Pg} {cl : CallT} {g g' : Gm} {h h' h1 : Hp} {n i j k r q N m c xa xb xl d : Nat} {A B : List Row} {L : List Look} {v : V}
theorem rowStr {rows : List Row} (q : i < rows.length) : (rows.map V.str)[i]? = some (.str rows[i]) := by rw [List.getElem?_map, List.getElem?_eq_getElem q]; rfl
theorem dif_range : dif A B 0 N = (List.range N).filter fun p => decide (A[p]? ≠ B[p]?) := by unfold dif; rw [List.range_eq_range']
theorem sam_range : sam A B 0 N = (List.range N).filter fun p => !decide (p ∈ dif A B 0 N) := by
  unfold sam
  rw [List.range_eq_range']
  refine List.filter_congr fun p hp => ?_
  have e : p ∈ dif A B 0 N ↔ A[p]? ≠ B[p]? := by
    unfold dif; rw [List.mem_filter, decide_eq_true_iff]; exact ⟨And.right, fun z => ⟨hp, z⟩⟩
  by_cases q : A[p]? = B[p]?
  · rw [decide_eq_true q, decide_eq_false fun z => e.mp z q]; rfl
  · rw [decide_eq_false q, decide_eq_true (e.mpr q)]; rfl
theorem sam_asc : (sam A B 0 N).Pairwise (· < ·) := List.Pairwise.filter _ (by rw [← List.range_eq_range']; exact List.pairwise_lt_range)
theorem ints_ivs (l : List Nat) : l.map iv = (l.map fun i => ((i : Nat) : Int)).map V.int := by rw [List.map_map]; rfl
theorem sortD {l : List Nat} (a : h[d]? = some (.dict (cvd l))) (q : l.Pairwise (· < ·)) : bfn "sorted" [.ref d] h = .ok (.ref h.length) (h ++ [.list (l.map iv)]) := by
  have k : keysAt (.ref d) h = some (l.map iv) := by
    show (match h[d]? with | some (.dict es) => some (List.map Prod.fst es) | _ => none) = _
    rw [a]; show some (List.map Prod.fst (cvd l)) = _; unfold cvd; rw [List.map_map]; rfl
  show bSorted h (.ref d) = _
  unfold bSorted
  rw [k]; dsimp only
  rw [ints_ivs, intsOf_map]; dsimp only
  rw [if_pos]
  · rfl
  · rw [List.pairwise_map]
    exact q.imp fun q => Int.ofNat_le.mpr (Nat.le_of_lt q)
theorem tail8 (p : Has8 P) {w : Wd} {b b' : Bkd} {bo du xa xb : Nat} {g0 g2 g7 g8 g9 g10 g11 g12 g13 g14 g15 : Option V} (W : Wh h w) (G : Good w) (K : Pair w 0 1 b b') (eb : h[bo]? = some (.list [.ref (w.ad (.b 0)), .ref (w.ad (.b 1))])) (ed : h[du]? = some (.list ((dif b.rows b'.rows 0 (lessR b.rows b'.rows)).map iv)))
    (ea : h[xa]? = some (.list (b.rows.map .str))) (ex : h[xb]? = some (.list (b'.rows.map .str))) :
    X P (run P (n + 16)) (f_law_8.body.drop 11) [g0, some (.ref bo), g2, some (.ref xa), some (.ref xb), some (.int (lessR b.rows b'.rows : Nat)), some (.ref du), g7, g8, g9, g10, g11, g12, g13, g14, g15, none, none] h (fun q => ∃ H, q.back = .ok (.bool true) H) := by
  refine el_xxp (first_unlike (n := n + 11) p.toHasK p.first p.funlike W G K) fun l h1 e1 S => ?_
  refine el_x (S.ext) fun x ex1 => ?_
  have fd := found_dif (a := b.rows) (b := b'.rows)
  have it : getItem (.tup [foundR b.rows b'.rows, .ref l]) (.int 0) h1 = .ok (foundR b.rows b'.rows) h1 := rfl
  have d1 : h1[du]? = some (.list ((dif b.rows b'.rows 0 (lessR b.rows b'.rows)).map iv)) := by rw [ex1]; exact ga _ ed
  have a1 : h1[xa]? = some (.list (b.rows.map .str)) := by rw [ex1]; exact ga _ ea
  have b1 : h1[xb]? = some (.list (b'.rows.map .str)) := by rw [ex1]; exact ga _ ex
  refine .asg (.item (.call (.cons (.item (.var rfl) .int (itemL (i := 0) eb rfl)) (.one (.item (.var rfl) .int (itemL (i := 1) eb rfl)))) e1) .int it) ?_
  have nn := ne_nil (ga [.list []] d1) (gn h1 (.list []))
  cases hd : dif b.rows b'.rows 0 (lessR b.rows b'.rows) with
  | nil =>
    rw [hd] at fd nn
    have fd : foundR b.rows b'.rows = if b.rows.length = b'.rows.length then .none else .int (lessR b.rows b'.rows : Nat) := fd
    refine .ifF (.cmp (.var rfl) (.list .nil (le9 (n := 0) rfl)) nn) ?_
    have lA := ref_len (m := b.rows.length) (ga [.list [.int (lessR b.rows b'.rows : Nat), .none]] (ga [.list []] a1)) (List.length_map _)
    have lB := ref_len (m := b'.rows.length) (ga [.list [.int (lessR b.rows b'.rows : Nat), .none]] (ga [.list []] b1)) (List.length_map _)
    by_cases q : b.rows.length = b'.rows.length
    · rw [if_pos q] at fd
      exact .ret (.cmp (.var rfl) (.item (.list (.cons (.var rfl) (.one .none)) (le9 (n := 2) rfl)) (.bi (.one (.cmp (.bi (.one (.var rfl)) lA) (.bi (.one (.var rfl)) lB) (c_eq (Int.ofNat_inj.mpr q)))) rfl) (itemL (i := 1) (gn _ _) rfl)) (by rw [fd]; rfl)) ⟨_, rfl⟩
    · rw [if_neg q] at fd
      exact .ret (.cmp (.var rfl) (.item (.list (.cons (.var rfl) (.one .none)) (le9 (n := 2) rfl)) (.bi (.one (.cmp (.bi (.one (.var rfl)) lA) (.bi (.one (.var rfl)) lB) (c_eq' fun z => q (Int.ofNat_inj.mp z)))) rfl) (itemL (i := 0) (gn _ _) rfl)) (by rw [fd]; exact c_eq rfl)) ⟨_, rfl⟩
  | cons y r =>
    rw [hd] at fd nn d1
    have fd : foundR b.rows b'.rows = .int (y : Nat) := fd
    exact .ifT (.cmp (.var rfl) (.list .nil (le9 (n := 0) rfl)) nn) (.ret (.cmp (.var rfl) (.item (.var rfl) .int (itemL (i := 0) (ga _ d1) rfl)) (by rw [fd]; exact c_eq rfl)) ⟨_, rfl⟩)
theorem law8 (p : Has8 P) {ns : List Int} (hl : ns.length ≤ 63) (hb : ∀ i ∈ ns, bitsOf i ≤ 1048576) : ∃ H, run P (n + 17) ("", "law") [.fz (ns.map .int)] h = .ok (.bool true) H := by
  refine Classical.byContradiction fun no => ?_
  refine el_xxxp (books (n := n + 8) (h := h) p.toHasW hl fun i hi => Nat.le_trans (hb i hi) (by decide)) fun h1 w rr e1 Wl => ?_
  refine el_xpp (Wl.bk 0 (by decide)) fun b b1 b2 b3 => ?_
  refine el_xpp (Wl.bk 1 (by decide)) fun b' b1' b2' b3' => ?_
  have lA := Wl.few 0 (by decide)
  have lB := Wl.few 1 (by decide)
  have oA := Wl.W.oth (Wl.xs 0 (by decide))
  have oB := Wl.W.oth (Wl.xs 1 (by decide))
  have oK := Wl.W.oth Wl.ks
  have oS := Wl.W.oth Wl.bs
  rw [← b2] at lA oA
  rw [← b2'] at lB oB
  have W1 := Wl.W
  have G := Wl.G
  have K : Pair w 0 1 b b' := ⟨b1, b1', b3.trans b3'.symm⟩
  generalize w.ad (.x 0) = xa at oA oK
  generalize w.ad (.x 1) = xb at oB oK
  generalize w.ad (.x 4) = bo at e1 oS
  generalize w.ad (.x 5) = ko at e1 oK
  clear Wl
  have less : lessR b.rows b'.rows ≤ 1000 := Nat.le_trans (Nat.min_le_left _ _) lA
  have lAl : lessR b.rows b'.rows ≤ b.rows.length := Nat.min_le_left _ _
  have lBl : lessR b.rows b'.rows ≤ b'.rows.length := Nat.min_le_right _ _
  have lenA := ref_len (m := b.rows.length) oA (List.length_map _)
  have lenB := ref_len (m := b'.rows.length) oB (List.length_map _)
  have mn : bfn "min" [.int (b.rows.length : Nat), .int (b'.rows.length : Nat)] h1 = .ok (.int (lessR b.rows b'.rows : Nat)) h1 := minD
  -- the places that are due
  have cpd := comp_filt (h := h1) (N := lessR b.rows b'.rows) (f := fun p => decide (b.rows[p]? ≠ b'.rows[p]?))
    (cond := fun v h => ev P (run P (n + 16)) (List.set [some (.fz (ns.map .int)), some (.ref bo), some (.ref ko), some (.ref xa), some (.ref xb), some (.int (lessR b.rows b'.rows : Nat)), none, none, none, none, none, none, none, none, none, none, none, none] 15 (some v)) (.cmp .ne (.sub (.var 3) (.var 15)) (.sub (.var 4) (.var 15))) h)
    (elt := fun v h => ev P (run P (n + 16)) (List.set [some (.fz (ns.map .int)), some (.ref bo), some (.ref ko), some (.ref xa), some (.ref xb), some (.int (lessR b.rows b'.rows : Nat)), none, none, none, none, none, none, none, none, none, none, none, none] 15 (some v)) (.var 15) h)
    (by (first | lia | omega)) (fun k hk => by
      have k1 : k < b.rows.length := Nat.lt_of_lt_of_le hk lAl
      have k2 : k < b'.rows.length := Nat.lt_of_lt_of_le hk lBl
      have e : (!(b.rows[k] == b'.rows[k])) = decide (b.rows[k]? ≠ b'.rows[k]?) := by
        rw [List.getElem?_eq_getElem k1, List.getElem?_eq_getElem k2, Bool.eq_iff_iff]; simp
      refine (Ev.cmp (.item (.var rfl) (.var rfl) (itemL oA (rowStr k1))) (.item (.var rfl) (.var rfl) (itemL oB (rowStr k2))) c_neS : ev P _ _ _ h1 = _).trans ?_
      rw [e]) fun k hk => Ev.var rfl
  rw [← dif_range] at cpd
  have W2 : Wh (h1 ++ [.list ((dif b.rows b'.rows 0 (lessR b.rows b'.rows)).map iv)]) w := W1.app _
  refine el_xxxp (all_unlike (n := n + 1) p.toHasK p.allin p.unlike W2 G K) fun q l h3 e3 Se => ?_
  refine el_x (Se.ext) fun x ex => ?_
  have W3 : Wh h3 w := by rw [ex]; exact W2.app x
  have A3 : h3[xa]? = some (.list (b.rows.map .str)) := by rw [ex]; exact ga _ (ga _ oA)
  have B3 : h3[xb]? = some (.list (b'.rows.map .str)) := by rw [ex]; exact ga _ (ga _ oB)
  have S3 : h3[bo]? = some (.list [.ref (w.ad (.b 0)), .ref (w.ad (.b 1))]) := by rw [ex]; exact ga _ (ga _ oS)
  have D3 : h3[h1.length]? = some (.list ((dif b.rows b'.rows 0 (lessR b.rows b'.rows)).map iv)) := by rw [ex]; exact ga _ (gn _ _)
  have ed : Ev P (run P (n + 16)) [some (.fz (ns.map .int)), some (.ref bo), some (.ref ko), some (.ref xa), some (.ref xb), some (.int (lessR b.rows b'.rows : Nat)), none, none, none, none, none, none, none, none, none, none, none, none] h1 (.comp (.var 15) 15 (.bi "range" [.var 5]) (.cmp .ne (.sub (.var 3) (.var 15)) (.sub (.var 4) (.var 15)))) (.ref h1.length) (h1 ++ [.list ((dif b.rows b'.rows 0 (lessR b.rows b'.rows)).map iv)]) := .comp (.bi (.one (.var rfl)) (rng1 (by (first | lia | omega)))) cpd
  have oS2 : (h1 ++ [Ob.list ((dif b.rows b'.rows 0 (lessR b.rows b'.rows)).map iv)])[bo]? = some (.list [.ref (w.ad (.b 0)), .ref (w.ad (.b 1))]) := ga _ oS
  have pl := Se.pl
  have sl := Se.lk
  have fw := allR_few (a := b.rows) (b := b'.rows) (by (first | lia | omega))
  have cn := allR_cnt (a := b.rows) (b := b'.rows)
  rw [allR_dif] at pl cn
  have f1 : (allR b.rows b'.rows).1.length ≤ 6144 := Nat.le_trans (Nat.le_add_right _ _) fw
  have f2 : (dif b.rows b'.rows 0 (lessR b.rows b'.rows)).length ≤ 1000 := Nat.le_trans (List.length_filter_le _ _) (by rw [List.length_range']; exact less)
  have bt : bitsOf (lessR b.rows b'.rows : Int) ≤ 11 := bits_few (by (first | lia | omega))
  have lie : ∀ x ∈ (allR b.rows b'.rows).1, Lie b.rows b'.rows 0 (lessR b.rows b'.rows) 12 x := fun x hx => (allR_lie x hx).wide (by (first | lia | omega)) (Nat.le_refl _) (Nat.le_refl _)
  have sm := allR_sam (a := b.rows) (b := b'.rows)
  have nd := allR_nd (a := b.rows) (b := b'.rows)
  generalize (allR b.rows b'.rows).1 = Lk at sl cn f1 lie sm nd
  have dg := law_digits (n := n + 15) (h := h3) (c := lessR b.rows b'.rows) p.ldigits (by (first | lia | omega))
  generalize bitsOf (lessR b.rows b'.rows : Int) = mm at dg cn bt
  generalize hdl : (dif b.rows b'.rows 0 (lessR b.rows b'.rows)).length = dl at cn f2
  have ld : bfn "len" [.ref h1.length] h3 = .ok (.int (dl : Nat)) h3 := ref_len D3 (by rw [List.length_map, hdl])
  have ll : bfn "len" [.ref l] h3 = .ok (.int (Lk.length : Nat)) h3 := ref_len sl (List.length_map _)
  have m1 := mulN (h := h3) 2 dl (by decide) (by (first | lia | omega))
  have m2 := mulN (h := h3) (2 * dl) (mm - 1) (by (first | lia | omega)) (by (first | lia | omega))
  have ad : binop .add (.int (mm : Nat)) (.int ((2 * dl * (mm - 1) : Nat) : Int)) h3 = .ok (.int ((mm + 2 * dl * (mm - 1) : Nat) : Int)) h3 := congrArg (fun z => R.ok (V.int z) h3) (Int.natCast_add _ _).symm
  have gt : cmpop .gt (.int (Lk.length : Nat)) (.int ((mm + 2 * dl * (mm - 1) : Nat) : Int)) h3 = .ok (.bool false) h3 := c_gt' (Int.not_lt.mpr (Int.ofNat_le.mpr cn))
  have ne1 := ne_ivs pl D3
  -- the looks are true, and each but once
  refine el_x (law_true (n := n + 14) p A3 B3 sl lie (by (first | lia | omega)) (by (first | lia | omega))) fun z e4 => ?_
  have W4 : Wh (h3 ++ z) w := W3.app z
  have A4 := ga z A3
  have B4 := ga z B3
  have S4 := ga z S3
  have D4 := ga z D3
  have sl4 := ga z sl
  generalize h3 ++ z = h4 at e4 W4 A4 B4 S4 D4 sl4
  have e5 := fun (g : Gm) gl g8 => set_looks (P := P) (cl := run P (n + 16)) (g := g) sl4 nd (by (first | lia | omega)) gl g8
  have W5 : Wh (h4 ++ [.list (Lk.map pr)]) w := W4.app _
  have A5 := ga [.list (Lk.map pr)] A4
  have B5 := ga [.list (Lk.map pr)] B4
  have S5 := ga [.list (Lk.map pr)] S4
  have D5 := ga [.list (Lk.map pr)] D4
  have sl5 := ga [.list (Lk.map pr)] sl4
  generalize h4 ++ [.list (Lk.map pr)] = h5 at e5 W5 A5 B5 S5 D5 sl5
  have l5 : bfn "len" [.ref l] h5 = .ok (.int (Lk.length : Nat)) h5 := ref_len sl5 (List.length_map _)
  have asc := sam_asc (A := b.rows) (B := b'.rows) (N := lessR b.rows b'.rows)
  have ndc : (covs Lk).Nodup := by rw [sm]; exact asc.imp fun q => Nat.ne_of_lt q
  have cf : (covs Lk).length < 90000 := by rw [sm]; exact Nat.lt_of_le_of_lt (List.length_filter_le _ _) (by rw [List.length_range']; (first | lia | omega))
  -- what is covered
  have srt := sortD (h := h5 ++ [.dict (cvd (covs Lk))]) (l := covs Lk) (gn _ _) (by rw [sm]; exact asc)
  have W8 : Wh (h5 ++ [.dict (cvd (covs Lk))] ++ [.list ((covs Lk).map iv)]) w := (W5.app _).app _
  have A8 := ga [.list ((covs Lk).map iv)] (ga [.dict (cvd (covs Lk))] A5)
  have B8 := ga [.list ((covs Lk).map iv)] (ga [.dict (cvd (covs Lk))] B5)
  have S8 := ga [.list ((covs Lk).map iv)] (ga [.dict (cvd (covs Lk))] S5)
  have D8 := ga [.list ((covs Lk).map iv)] (ga [.dict (cvd (covs Lk))] D5)
  have C8 := gn (h5 ++ [.dict (cvd (covs Lk))]) (.list ((covs Lk).map iv))
  have h7 : ∀ {g : Gm}, g[10]? = some (some (.ref h5.length)) → Ev P (run P (n + 16)) g (h5 ++ [.dict (cvd (covs Lk))]) (.bi "sorted" [.var 10]) (.ref (h5 ++ [Ob.dict (cvd (covs Lk))]).length) (h5 ++ [.dict (cvd (covs Lk))] ++ [.list ((covs Lk).map iv)]) := fun q => .bi (.one (.var q)) srt
  generalize (h5 ++ [Ob.dict (cvd (covs Lk))]).length = cv at C8 h7
  generalize h5 ++ [.dict (cvd (covs Lk))] ++ [.list ((covs Lk).map iv)] = h8 at W8 A8 B8 S8 D8 C8 h7
  have cpn : ∀ t11 t12 t13 t14 t15, Ev P (run P (n + 16)) [some (.fz (ns.map .int)), some (.ref bo), some (.ref ko), some (.ref xa), some (.ref xb), some (.int (lessR b.rows b'.rows : Nat)), some (.ref h1.length), some (.ref q), some (.ref l), some (.int (mm : Nat)), some (.ref h5.length), t11, t12, t13, t14, t15, none, none] h8 (.comp (.var 15) 15 (.bi "range" [.var 5]) (.cmp .notin (.var 15) (.var 6))) (.ref h8.length) (h8 ++ [.list ((sam b.rows b'.rows 0 (lessR b.rows b'.rows)).map iv)]) := fun t11 t12 t13 t14 t15 => by
    rw [sam_range]
    exact .comp (.bi (.one (.var rfl)) (rng1 (by (first | lia | omega)))) (comp_filt (by (first | lia | omega)) (fun k hk => Ev.cmp (.var rfl) (.var rfl) (in_ivs D8)) fun k hk => Ev.var rfl)
  have ne8 : cmpop .ne (.ref cv) (.ref h8.length) (h8 ++ [.list ((sam b.rows b'.rows 0 (lessR b.rows b'.rows)).map iv)]) = .ok (.bool false) (h8 ++ [.list ((sam b.rows b'.rows 0 (lessR b.rows b'.rows)).map iv)]) := ne_ivs (l := sam b.rows b'.rows 0 (lessR b.rows b'.rows)) (by rw [← sm]; exact ga _ C8) (gn _ _)
  exact no (go (Q := fun q => ∃ H, q = .ok (.bool true) H) (vs := [.fz (ns.map .int)]) p.law rfl (.unp (.call (.one (.var rfl)) e1) rfl (.unp (.var rfl) ((bind_list oK).trans rfl)
    (.asg (.bi (.cons (.bi (.one (.var rfl)) lenA) (.one (.bi (.one (.var rfl)) lenB))) mn) (.asg ed
    (.unp (.call (.cons (.item (.var rfl) .int (itemL (i := 0) oS2 rfl)) (.one (.item (.var rfl) .int (itemL (i := 1) oS2 rfl)))) e3) rfl
    (.asg (.call (.one (.var rfl)) dg)
    (.ifF (.orF (.cmp (.var rfl) (.var rfl) ne1) (.orL (.cmp (.bi (.one (.var rfl)) ll) (.two (.var rfl) (.two (.two .int (.bi (.one (.var rfl)) ld) m1) (.bi (.cons .int (.one (.two (.var rfl) .int rfl))) maxD) m2) ad) gt)))
    (.ifF (.orF (.not (.call (.cons (.var rfl) (.cons (.var rfl) (.one (.var rfl)))) e4)) (.orL (.cmp (e5 _ rfl rfl) (.bi (.one (.var rfl)) l5) (c_neI.trans (by rw [beq_self_eq_true]; rfl)))))
    (.asg .dict (cover (n := n + 15) p sl5 lie (by (first | lia | omega)) (by (first | lia | omega)) ndc cf fun t11 t12 t13 t14 t15 =>
      .ifF (.cmp (h7 rfl) (cpn t11 t12 t13 t14 t15) ne8) (tail8 p (W8.app _) G K (ga _ S8) (ga _ D8) (ga _ A8) (ga _ B8)))))))))))))
end
end Mine
end

open PySem PySem.W PyProof.Rows
set_option Elab.async false
set_option maxRecDepth 100000
set_option maxHeartbeats 0
namespace Mine
noncomputable def q0 : Program := { PySem.Challenge.pw_uf040018_08 with main := { PySem.Challenge.pw_uf040018_08.main with body := PySem.Challenge.pw_uf040018_08.main.body.drop 41 } }
noncomputable def loose0 : List Str := [Str.ofString "size_of", Str.ofString "digits", Str.ofString "parted", Str.ofString "TwinError", Str.ofString "NoRow", Str.ofString "NoSum", Str.ofString "NoPlace", Str.ofString "NoBlock", Str.ofString "Full", Str.ofString "Strange", Str.ofString "Looker", Str.ofString "first_unlike", Str.ofString "all_unlike", Str.ofString "MOST_SIGNS", Str.ofString "SIGNS", Str.ofString "is_whole", Str.ofString "is_row", Str.ofString "need_row", Str.ofString "Ledger", Str.ofString "MOST_ROWS", Str.ofString "Book", Str.ofString "_law_cell_at", Str.ofString "_law_whole", Str.ofString "_law_mix", Str.ofString "_law_text", Str.ofString "_law_near", Str.ofString "_law_rows", Str.ofString "_law_twin", Str.ofString "_law_books", Str.ofString "_law_change", Str.ofString "_law_digits", Str.ofString "_law_size", Str.ofString "_law_parted", Str.ofString "_law_room", Str.ofString "_law_true"]
noncomputable def fl0 : List String := ["numbers", "things", "ledger", "lines", "levels", "one", "other", "looks", "places"]
theorem left1 (w : World) : (openEnds treeTable PySem.Challenge.pw_uf040018_08 w 40000).map (openSeen q0 loose0 (importedModules PySem.Challenge.pw_uf040018_08.main.body) (fun s => xlAt q0 [] s && recOk [] s) true) = some (openGood q0 loose0) := by
  unfold openEnds fencedOpening topFrom
  rw [PySem.W.Fast.te14082659384304107361, PySem.W.Fast.te10274390034422433532, PySem.W.Fast.te14289696077712309145, PySem.W.Fast.te4187177175401517315, PySem.W.Fast.te14364793385576792824]
  kernel_rfl
theorem left2 (w : World) : (openEnds treeTable PySem.Challenge.pw_uf040018_08 w 40000).map (fun s => topZ P08 fl0 (frg s.heap 451)) = some true := by
  unfold openEnds fencedOpening topFrom
  rw [PySem.W.Fast.te14082659384304107361, PySem.W.Fast.te10274390034422433532, PySem.W.Fast.te14289696077712309145, PySem.W.Fast.te14364793385576792824]
  kernel_rfl
theorem left3 (w : World) : (openEnds treeTable PySem.Challenge.pw_uf040018_08 w 40000).map (fun s => topP 0 11 P08 fl0 (frg s.heap 451)) = some true := by
  unfold openEnds fencedOpening topFrom
  rw [PySem.W.Fast.te14082659384304107361, PySem.W.Fast.te10274390034422433532, PySem.W.Fast.te14289696077712309145, PySem.W.Fast.te14364793385576792824]
  kernel_rfl
theorem left4 (w : World) : (openEnds treeTable PySem.Challenge.pw_uf040018_08 w 40000).map (fun s => topP 11 11 P08 fl0 (frg s.heap 451)) = some true := by
  unfold openEnds fencedOpening topFrom
  rw [PySem.W.Fast.te14082659384304107361, PySem.W.Fast.te10274390034422433532, PySem.W.Fast.te14289696077712309145, PySem.W.Fast.te14364793385576792824]
  kernel_rfl
theorem left5 (w : World) : (openEnds treeTable PySem.Challenge.pw_uf040018_08 w 40000).map (fun s => topP 22 11 P08 fl0 (frg s.heap 451)) = some true := by
  unfold openEnds fencedOpening topFrom
  rw [PySem.W.Fast.te14082659384304107361, PySem.W.Fast.te10274390034422433532, PySem.W.Fast.te14289696077712309145, PySem.W.Fast.te14364793385576792824]
  kernel_rfl
theorem left6 (w : World) : (openEnds treeTable PySem.Challenge.pw_uf040018_08 w 40000).map (fun s => topL 33 P08 fl0 (frg s.heap 451)) = some true := by
  unfold openEnds fencedOpening topFrom
  rw [PySem.W.Fast.te14082659384304107361, PySem.W.Fast.te10274390034422433532, PySem.W.Fast.te14289696077712309145, PySem.W.Fast.te14364793385576792824]
  kernel_rfl
theorem left0 : LeftO PySem.Challenge.pw_uf040018_08 q0 loose0 (fun s => xlAt q0 [] s && recOk [] s) (hook P08 fl0 451).obs (hook P08 fl0 451).val 40000 := fun w => left_of (left1 w) (seen_of (fun _ a c => topOk_eq a c) (seen_of (fun _ => topL_of) (left3 w) (seen_of (fun _ => topL_of) (left4 w) (seen_of (fun _ => topL_of) (left5 w) (left6 w)))) (left2 w))
theorem has8 : Has8 P08 where
  whole := rfl
  isrow := rfl
  need := rfl
  init := rfl
  number := rfl
  needsum := rfl
  ofrow := rfl
  ofpair := rfl
  signs := rfl
  most := rfl
  binit := rfl
  place := rfl
  half := rfl
  put := rfl
  add := rfl
  cut := rfl
  room := rfl
  rowsMost := rfl
  cellat := rfl
  mix := rfl
  text := rfl
  near := rfl
  rows := rfl
  twin := rfl
  change := ⟨_, rfl⟩
  books := rfl
  lroom := rfl
  size := rfl
  digits := rfl
  parted := rfl
  sumof := rfl
  count := rfl
  kinit := rfl
  alike := rfl
  first := rfl
  funlike := rfl
  allin := rfl
  unlike := rfl
  ldigits := rfl
  lsize := rfl
  ltrue := rfl
  law := rfl
theorem said0 : PySem.Challenge.rw_uf040018_08.wellSaid = true := by
  rw [PySem.W.Fast.te9446332074065402090]
  kernel_rfl
end Mine
end
open PySem PySem.W PyProof.Rows
set_option Elab.async false
set_option maxRecDepth 100000
set_option maxHeartbeats 0

theorem PySem.Challenge.cw_uf040018_08_holds : PySem.Challenge.rw_uf040018_08.Holds := by
  w_on
  refine holds_law Mine.said0 fun said => ?_
  refine holds_open (q := Mine.q0) (loose := Mine.loose0) (Xt := fun s => xlAt Mine.q0 [] s && recOk [] s) (XP := XL Mine.q0 []) (Yf := (Mine.hook Mine.P08 Mine.fl0 451).obs) (Ya := (Mine.hook Mine.P08 Mine.fl0 451).val) (YP := (Mine.hook Mine.P08 Mine.fl0 451).says) (N := 40000) Mine.left0 (Mine.hook Mine.P08 Mine.fl0 451).of (Mine.hook Mine.P08 Mine.fl0 451).keeps (fun s e => xl_of s (Bool.and_eq_true_iff.mp e).1) XL.keeps (by rfl) (by rfl) (by rfl) (fun s e => recFacts_of (Bool.and_eq_true_iff.mp e).2) (by rfl) (by assumption) (by decide +kernel) ⟨rfl, rfl, rfl, rfl, rfl, by decide +kernel⟩ ?hw ?hc
  case hw => w_witness2
  intro w s₀ s₁ mg mb G Y fa o pm cd doc dV kV ho hd hcd hD hmg hg args vals as hpre hlay hrd hwl hlo
  obtain ⟨K, KX, hk⟩ := Y
  clear hcd hd hD
  refine Ground.open G ?_
  intro T B D TE TW
  wrow_args hpre hlay hrd hwl hlo
  refine enter_call ?_
  refine codeAny_mono ?_ (fun _ _ g => GoodW.toG g)
  rename_i hlay _ _ _ _ _ _ _ hL _ _ _ hI _ hc _
  simp only [Mine.topOk, Bool.and_eq_true] at hk
  refine Mine.law_top (P := Mine.P08) (fields := Mine.fl0) KX T hmg hk.1.1.1 hk.1.1.2 hk.1.2 hk.2 hL hI (by (first | lia | omega)) rfl (Mine.law8 (n := 43) Mine.has8 (by (first | lia | omega)) fun i hi => by rw [Mine.bits_eq]; exact PyData.bits_item_of_ints hlay hi) fun s' k1 k2 k3 => ?_
  exact Mine.good_true k1 k2 hg k3 (raisesW_false (by wrow_none_raised)) (by wrow_post)
