import PyProof.Rows.All
import PyProof.Rows.Frame
import PyProof.RaisesMany
import PyProof.Rows.Tup
import PyProof.Claim2
import PyProof.Dict
import PyProof.RangeIter
import PyProof.Cells
import PyProof.PureInt
import PyProof.Rules3
import PyProof.Rules2
import PyProof.Rows.IntRules
import PyProof.Rows.RuleB_mul
import PyProof.Rows.RuleB_floordiv
import PyProof.Rows.RuleB_mod
import PyProof.Rows.RuleB_pow
import PyProof.Rows.StrRules
import PyProof.ListOps
import PyProof.FitsBits
import PyProof.StrBlock2
import PyProof.P3In
import PyProof.NeData
import PyProof.DictRoadsH
import PyProof.DictRoads
import PyProof.Rows.StrTemp
import PyProof.Rows.TupSub
import PyProof.ListIndexNeg
import PyProof.SliceMore
import PyProof.SliceStr2
import PyProof.StrLaws
import OpenK.KWalk
import OpenK.KCls
import KE.KIsAll
import PyProof.InstEq
import PyProof.StrLawsIn
import PyProof.WalkInts
import PyProof.CallStr
import PyProof.Conv_int_bool
import PyProof.ListRange
import PyProof.ListCopy
import PyProof.ForRange
import PyProof.ConsumeWalk
import PyProof.Rows.SortWalk
import PyProof.StrWalks
import PyProof.TupleIter
import PyProof.Rows.TupAssign
import PyProof.AssignAttr
import PyProof.ForAny
import PyProof.WalksPairs
import PyProof.EnumFor
import OpenK.KCall
import PyProof.LetGo
import PyProof.Rows.RuleM_int
import PyProof.Rows.SeqMore
import PyProof.Rows.DictMade
import Wide.Ends
import Wide.All
import OpenK.AllK
import Wide.FinOn
import PySem.Challenge.RW_uf040018_01

section
/-! A small core of Python: syntax without places, and a reckoning of it. -/
set_option genSizeOf false
set_option genSizeOfSpec false
namespace Mine

inductive V where
  | none
  | bool (b : Bool)
  | int (i : Int)
  | str (s : List Nat)
  | ref (i : Nat)
  | tup (l : List V)
  | rng (a b c : Int)
  | fz (l : List V)
  deriving Inhabited

inductive Ob where
  | list (l : List V)
  | dict (es : List (V × V))
  | inst (C : String) (fs : List (String × V))
  | exc (C : String)
  deriving Inhabited

noncomputable abbrev Hp := List Ob
noncomputable abbrev Gm := List (Option V)

inductive R (α : Type) where
  | ok (a : α) (h : Hp)
  | exc (x : Nat) (h : Hp)
  | bad
  deriving Inhabited

noncomputable def R.bind {α β : Type} : R α → (α → Hp → R β) → R β
  | .ok a h, f => f a h
  | .exc x h, _ => .exc x h
  | .bad, _ => .bad

inductive RS where
  | nx (g : Gm) (h : Hp)
  | ret (v : V) (h : Hp)
  | exc (x : Nat) (g : Gm) (h : Hp)
  | bad
  deriving Inhabited

noncomputable def R.bindS {α : Type} (g : Gm) : R α → (α → Hp → RS) → RS
  | .ok a h, f => f a h
  | .exc x h, _ => .exc x g h
  | .bad, _ => .bad

inductive BO where | add | sub | mul | fdiv | mod | pow deriving DecidableEq
inductive CO where | eq | ne | lt | le | gt | ge | isin | notin | is | isnot deriving DecidableEq

inductive E where
  | none
  | bool (b : Bool)
  | int (i : Int)
  | str (s : String)
  | var (i : Nat)
  | glob (x : String)
  | bin (op : BO) (l r : E)
  | neg (e : E)
  | not (e : E)
  | and (es : List E)
  | or (es : List E)
  | cmp (op : CO) (l r : E)
  | cmp2 (l : E) (o1 : CO) (m : E) (o2 : CO) (r : E)
  | sub (o i : E)
  | slc (o lo hi : E)
  | attr (o : E) (f : String)
  | call (f : String) (args : List E)
  | make (C : String) (args : List E)
  | meth (o : E) (m : String) (args : List E)
  | bi (b : String) (args : List E)
  | isa (e : E) (t : String)
  | list (es : List E)
  | tup (es : List E)
  | dict
  | comp (elt : E) (t : Nat) (it : E) (cond : E)
  deriving Inhabited

inductive S where
  | expr (e : E)
  | asg (x : Nat) (e : E)
  | unp (xs : List Nat) (e : E)
  | asgA (o : E) (f : String) (e : E)
  | asgI (o i e : E)
  | iff (c : E) (t f : List S)
  | whil (c : E) (b : List S)
  | forr (xs : List Nat) (it : E) (b : List S)
  | forE (x y : Nat) (it : E) (b : List S)
  | ret (e : E)
  | ret0
  | raise (C : String) (msg : String)
  | tri (b : List S) (hs : List (String × Option Nat × List S))
  | pass
  deriving Inhabited

structure FD where
  arity : Nat
  names : List String
  body : List S
  deriving Inhabited

/-- a def of the text: ("", f); a method: (class, name) -/
noncomputable abbrev Fid := String × String

structure Pg where
  fns : List (Fid × FD)
  /-- the classes above a class, itself first -/
  ups : List (String × List String)
  globs : List (String × V)
  /-- may a raise be come upon? -/
  exc : Bool
noncomputable def Pg.fn (P : Pg) (f : Fid) : Option FD := P.fns.lookup f
noncomputable def Pg.up (P : Pg) (C : String) : List String := (P.ups.lookup C).getD []
noncomputable def Pg.glob (P : Pg) (x : String) : Option V := P.globs.lookup x

noncomputable def cps (s : String) : List Nat := s.toList.map Char.toNat

noncomputable def mostLen : Nat := 16777216
noncomputable def mostBits : Nat := 1048576

noncomputable def bitsOf (i : Int) : Nat := if i.natAbs = 0 then 0 else i.natAbs.log2 + 1

/-- the data that a value bears: what == asks -/
inductive D where
  | none
  | bool (b : Bool)
  | int (i : Int)
  | str (s : List Nat)
  | list (l : List D)
  | tup (l : List D)
  deriving Inhabited

noncomputable def mapO {α β : Type} (f : α → Option β) : List α → Option (List β)
  | [] => some []
  | a :: r => match f a, mapO f r with
    | some b, some s => some (b :: s)
    | _, _ => .none

noncomputable def data : Nat → Hp → V → Option D
  | 0, _, _ => .none
  | _ + 1, _, .none => some .none
  | _ + 1, _, .bool b => some (.bool b)
  | _ + 1, _, .int i => some (.int i)
  | _ + 1, _, .str s => some (.str s)
  | n + 1, h, .tup l => (mapO (data n h) l).map .tup
  | n + 1, h, .ref r => match h[r]? with
    | some (.list l) => (mapO (data n h) l).map .list
    | _ => .none
  | _ + 1, _, .rng _ _ _ => .none
  | _ + 1, _, .fz _ => .none

mutual
noncomputable def D.eqv : D → D → Bool
  | .none, .none => true
  | .bool a, .bool b => a == b
  | .int a, .int b => a == b
  | .bool a, .int b => (if a then 1 else 0) == b
  | .int a, .bool b => a == (if b then 1 else 0)
  | .str a, .str b => a == b
  | .list a, .list b => D.eqvs a b
  | .tup a, .tup b => D.eqvs a b
  | _, _ => false
noncomputable def D.eqvs : List D → List D → Bool
  | [], [] => true
  | a :: r, b :: s => D.eqv a b && D.eqvs r s
  | _, _ => false
end

noncomputable def deep : Nat := 8

/-- == -/
noncomputable def veq (h : Hp) (a b : V) : Option Bool :=
  match a, b with
  | .ref i, .ref j => match h[i]?, h[j]? with
    | some (.inst _ _), some (.inst _ _) => some (i == j)
    | _, _ => match data deep h a, data deep h b with
      | some x, some y => some (D.eqv x y)
      | _, _ => .none
  | _, _ => match data deep h a, data deep h b with
    | some x, some y => some (D.eqv x y)
    | _, _ => .none

/-- a dict's keys: strs, ints, tuples of ints -/
noncomputable def isInt : V → Bool
  | .int _ => true
  | _ => false
noncomputable def isKey : V → Bool
  | .str _ => true
  | .int _ => true
  | .tup l => l.all isInt
  | _ => false
noncomputable def intsEq : List V → List V → Bool
  | [], [] => true
  | .int a :: r, .int b :: s => a == b && intsEq r s
  | _, _ => false
noncomputable def keyEq : V → V → Bool
  | .str a, .str b => a == b
  | .int a, .int b => a == b
  | .tup a, .tup b => intsEq a b
  | _, _ => false
noncomputable def dGet : List (V × V) → V → Option V
  | [], _ => .none
  | (k, v) :: r, x => if keyEq k x then some v else dGet r x
noncomputable def dSet : List (V × V) → V → V → List (V × V)
  | [], x, y => [(x, y)]
  | (k, v) :: r, x, y => if keyEq k x then (k, y) :: r else (k, v) :: dSet r x y

noncomputable def alloc (o : Ob) (h : Hp) : R V := .ok (.ref h.length) (h ++ [o])

noncomputable def binop (op : BO) (a b : V) (h : Hp) : R V :=
  match op, a, b with
  | .add, .int a, .int b => .ok (.int (a + b)) h
  | .sub, .int a, .int b => .ok (.int (a - b)) h
  | .mul, .int a, .int b => if bitsOf a ≤ mostBits ∧ bitsOf b ≤ mostBits then .ok (.int (a * b)) h else .bad
  | .fdiv, .int a, .int b => if b = 0 ∨ 1073741824 ≤ b.natAbs then .bad else .ok (.int (a.fdiv b)) h
  | .mod, .int a, .int b => if b = 0 then .bad else .ok (.int (a.fmod b)) h
  | .pow, .int a, .int b => if 0 ≤ b ∧ b ≤ 100 ∧ a.natAbs < 1000 then .ok (.int (a ^ b.toNat)) h else .bad
  | .add, .str a, .str b => if a.length + b.length ≤ mostLen then .ok (.str (a ++ b)) h else .bad
  | .mul, .str a, .int b => if 0 ≤ b ∧ b ≤ 100 ∧ a.length ≤ 100 then .ok (.str ((List.replicate b.toNat a).flatten)) h else .bad
  | .add, .ref a, .ref b => match h[a]?, h[b]? with
    | some (.list x), some (.list y) => if x.length + y.length ≤ mostLen then alloc (.list (x ++ y)) h else .bad
    | _, _ => .bad
  | _, _, _ => .bad

noncomputable def okB (b : Bool) (h : Hp) : R V := .ok (.bool b) h
noncomputable def okO (b : Option Bool) (h : Hp) : R V := match b with | some b => .ok (.bool b) h | .none => .bad

noncomputable def vin (h : Hp) (a b : V) : Option Bool :=
  match b with
  | .ref r => match h[r]? with
    | some (.list _) => match data deep h b, data deep h a with
      | some (.list ds), some d => some (ds.any fun y => D.eqv y d)
      | _, _ => .none
    | some (.dict es) => if isKey a then some (dGet es a).isSome else .none
    | _ => .none
  | .str s => match a with
    | .str [c] => some (s.contains c)
    | _ => .none
  | _ => .none

noncomputable def cmpop (op : CO) (a b : V) (h : Hp) : R V :=
  match op with
  | .eq => okO (veq h a b) h
  | .ne => okO ((veq h a b).map (!·)) h
  | .lt => match a, b with | .int a, .int b => okB (decide (a < b)) h | _, _ => .bad
  | .le => match a, b with | .int a, .int b => okB (decide (a ≤ b)) h | _, _ => .bad
  | .gt => match a, b with | .int a, .int b => okB (decide (a > b)) h | _, _ => .bad
  | .ge => match a, b with | .int a, .int b => okB (decide (a ≥ b)) h | _, _ => .bad
  | .isin => okO (vin h a b) h
  | .notin => okO ((vin h a b).map (!·)) h
  | .is => match b with | .none => okB (match a with | .none => true | _ => false) h | _ => .bad
  | .isnot => match b with | .none => okB (match a with | .none => false | _ => true) h | _ => .bad

/-- truth of a value: bools alone, as the programs ask -/
noncomputable def truth : V → Option Bool
  | .bool b => some b
  | _ => .none

noncomputable def idx (i : Int) (n : Nat) : Option Nat :=
  if 0 ≤ i then (if i.toNat < n then some i.toNat else .none)
  else if (-i).toNat ≤ n then some (n - (-i).toNat) else .none

noncomputable def getItem (o i : V) (h : Hp) : R V :=
  match o, i with
  | .ref r, _ => match h[r]?, i with
    | some (.list l), .int k => match idx k l.length with
      | some j => match l[j]? with | some v => .ok v h | .none => .bad
      | .none => .bad
    | some (.dict es), k => if isKey k then (match dGet es k with | some v => .ok v h | .none => .bad) else .bad
    | _, _ => .bad
  | .tup l, .int k => match idx k l.length with
    | some j => match l[j]? with | some v => .ok v h | .none => .bad
    | .none => .bad
  | .fz l, .int k => match idx k l.length with
    | some j => match l[j]? with | some v => .ok v h | .none => .bad
    | .none => .bad
  | .str s, .int k => match idx k s.length with
    | some j => match s[j]? with | some c => .ok (.str [c]) h | .none => .bad
    | .none => .bad
  | _, _ => .bad

/-- a slice's end: from 0, clamped -/
noncomputable def clamp (i : Int) (n : Nat) : Nat := if i < 0 then (i + n).toNat else min i.toNat n
noncomputable def cut {α : Type} (l : List α) (lo hi : Nat) : List α := (l.drop lo).take (hi - lo)
noncomputable def bound (v : V) (n : Nat) (d : Nat) : Option Nat :=
  match v with
  | .none => some d
  | .int i => some (clamp i n)
  | _ => .none

noncomputable def getSlice (o lo hi : V) (h : Hp) : R V :=
  match o with
  | .ref r => match h[r]? with
    | some (.list l) => match bound lo l.length 0, bound hi l.length l.length with
      | some a, some b => alloc (.list (cut l a b)) h
      | _, _ => .bad
    | _ => .bad
  | .str s => match bound lo s.length 0, bound hi s.length s.length with
    | some a, some b => .ok (.str (cut s a b)) h
    | _, _ => .bad
  | .fz l => match bound lo l.length 0, bound hi l.length l.length with
    | some a, some b => alloc (.list (cut l a b)) h
    | _, _ => .bad
  | _ => .bad

noncomputable def setItem (o i v : V) (h : Hp) : R V :=
  match o with
  | .ref r => match h[r]?, i with
    | some (.list l), .int k => if 0 ≤ k ∧ k.toNat < l.length then .ok .none (h.set r (.list (l.set k.toNat v))) else .bad
    | some (.dict es), k => if isKey k ∧ es.length < mostLen then .ok .none (h.set r (.dict (dSet es k v))) else .bad
    | _, _ => .bad
  | _ => .bad

noncomputable def getAttr (o : V) (f : String) (h : Hp) : R V :=
  match o with
  | .ref r => match h[r]? with
    | some (.inst _ fs) => match fs.lookup f with | some v => .ok v h | .none => .bad
    | _ => .bad
  | _ => .bad
noncomputable def setF : List (String × V) → String → V → List (String × V)
  | [], f, v => [(f, v)]
  | (g, w) :: r, f, v => if g = f then (g, v) :: r else (g, w) :: setF r f v
noncomputable def setAttr (o : V) (f : String) (v : V) (h : Hp) : R V :=
  match o with
  | .ref r => match h[r]? with
    | some (.inst C fs) => if fs.length < 100 then .ok .none (h.set r (.inst C (setF fs f v))) else .bad
    | _ => .bad
  | _ => .bad

/-- the k-th item of what is walked: none: not walked here; some none: the end -/
noncomputable def nth (v : V) (h : Hp) (k : Nat) : Option (Option V) :=
  match v with
  | .ref r => match h[r]? with
    | some (.list l) => some l[k]?
    | _ => .none
  | .tup l => some l[k]?
  | .str s => some (s[k]?.map fun c => .str [c])
  | .rng a b c => if c = 1 then some (if a + k < b then some (.int (a + k)) else .none)
      else if c = -1 then some (if b < a - k then some (.int (a - k)) else .none) else .none
  | _ => .none

noncomputable def bfn (b : String) (as : List V) (h : Hp) : R V :=
  match b, as with
  | "len", [.ref r] => match h[r]? with
    | some (.list l) => .ok (.int l.length) h
    | _ => .bad
  | "len", [.tup l] => .ok (.int l.length) h
  | "len", [.fz l] => .ok (.int l.length) h
  | "len", [.str s] => .ok (.int s.length) h
  | "range", [.int n] => if n.natAbs < 1000000000000 then .ok (.rng 0 n 1) h else .bad
  | "range", [.int a, .int b] => if a.natAbs < 1000000000000 ∧ b.natAbs < 1000000000000 then .ok (.rng a b 1) h else .bad
  | "range", [.int a, .int b, .int c] => if c = -1 ∧ a.natAbs < 1000000000000 ∧ b.natAbs < 1000000000000 then .ok (.rng a b c) h else .bad
  | "max", [.int a, .int b] => .ok (.int (if b > a then b else a)) h
  | _, _ => .bad

/-- the builtin types that isinstance is asked for -/
noncomputable def isaTs : List String := ["int", "bool", "str", "list", "tuple"]
noncomputable def isa (P : Pg) (t : String) (v : V) (h : Hp) : R V :=
  match v with
  | .none => okB false h
  | .bool _ => okB (t == "bool" || t == "int") h
  | .int _ => okB (t == "int") h
  | .str _ => okB (t == "str") h
  | .tup _ => okB (t == "tuple") h
  | .rng _ _ _ => .bad
  | .fz _ => .bad
  | .ref r => match h[r]? with
    | some (.list _) => okB (t == "list") h
    | some (.dict _) => okB (t == "dict") h
    | some (.exc C) => if isaTs.contains t then .bad else okB ((P.up C).contains t) h
    | _ => .bad

noncomputable def listMs : List String := ["append", "pop", "clear"]
noncomputable def objMeth (m : String) (r : Nat) (o : Ob) (as : List V) (h : Hp) : R V :=
  match o, m, as with
  | .list l, "append", [v] => if l.length < mostLen then .ok .none (h.set r (.list (l ++ [v]))) else .bad
  | .list l, "pop", [] => match l.getLast? with
    | some v => .ok v (h.set r (.list l.dropLast))
    | .none => .bad
  | .list _, "clear", [] => .ok .none (h.set r (.list []))
  | _, _, _ => .bad

noncomputable def CallT := Fid → List V → Hp → R V

noncomputable def LF : Nat := 100000

/-- the turns of a comprehension -/
noncomputable def compL (cond elt : V → Hp → R V) (src : V) : Nat → Nat → List V → Hp → R (List V)
  | 0, _, _, _ => .bad
  | n + 1, k, acc, h => match nth src h k with
    | .none => .bad
    | some .none => .ok acc h
    | some (some v) => (cond v h).bind fun c h => match truth c with
      | .none => .bad
      | some false => compL cond elt src n (k + 1) acc h
      | some true => (elt v h).bind fun x h => if acc.length < mostLen then compL cond elt src n (k + 1) (acc ++ [x]) h else .bad

mutual
noncomputable def ev (P : Pg) (cl : CallT) (g : Gm) : E → Hp → R V
  | .none, h => .ok .none h
  | .bool b, h => .ok (.bool b) h
  | .int i, h => .ok (.int i) h
  | .str s, h => .ok (.str (cps s)) h
  | .var i, h => match g[i]? with
    | some (some v) => .ok v h
    | _ => .bad
  | .glob x, h => match P.glob x with
    | some v => .ok v h
    | .none => .bad
  | .bin op l r, h => (ev P cl g l h).bind fun a h => (ev P cl g r h).bind fun b h => binop op a b h
  | .neg e, h => (ev P cl g e h).bind fun a h => match a with
    | .int i => .ok (.int (-i)) h
    | _ => .bad
  | .not e, h => (ev P cl g e h).bind fun a h => match truth a with
    | some b => .ok (.bool (!b)) h
    | .none => .bad
  | .and es, h => evAnd P cl g es h
  | .or es, h => evOr P cl g es h
  | .cmp op l r, h => (ev P cl g l h).bind fun a h => (ev P cl g r h).bind fun b h => cmpop op a b h
  | .cmp2 l o1 m o2 r, h => (ev P cl g l h).bind fun a h => (ev P cl g m h).bind fun b h => (cmpop o1 a b h).bind fun c h => match truth c with
    | some true => (ev P cl g r h).bind fun d h => cmpop o2 b d h
    | some false => .ok c h
    | .none => .bad
  | .sub o i, h => (ev P cl g o h).bind fun a h => (ev P cl g i h).bind fun b h => getItem a b h
  | .slc o lo hi, h => (ev P cl g o h).bind fun a h => (ev P cl g lo h).bind fun b h => (ev P cl g hi h).bind fun c h => getSlice a b c h
  | .attr o f, h => (ev P cl g o h).bind fun a h => getAttr a f h
  | .call f as, h => (evs P cl g as h).bind fun vs h => cl ("", f) vs h
  | .make C as, h => (evs P cl g as h).bind fun vs h => match P.fn (C, "__init__") with
    | some _ => (cl (C, "__init__") (.ref h.length :: vs) (h ++ [.inst C []])).bind fun v h' => match v with
      | .none => .ok (.ref h.length) h'
      | _ => .bad
    | .none => .bad
  | .meth o m as, h => (ev P cl g o h).bind fun a h => match a with
    | .int i => if m = "bit_length" then (match as with | [] => .ok (.int (bitsOf i)) h | _ => .bad) else .bad
    | .ref r => match h[r]? with
      | some (.inst C fs) => match P.fn (C, m), fs.lookup m with
        | some _, .none => (evs P cl g as h).bind fun vs h => cl (C, m) (.ref r :: vs) h
        | _, _ => .bad
      | some (.list _) => if listMs.contains m then (evs P cl g as h).bind fun vs h => match h[r]? with
          | some o => objMeth m r o vs h
          | .none => .bad
        else .bad
      | _ => .bad
    | _ => .bad
  | .bi b as, h => (evs P cl g as h).bind fun vs h => bfn b vs h
  | .isa e t, h => (ev P cl g e h).bind fun a h => isa P t a h
  | .list es, h => (evs P cl g es h).bind fun vs h => if vs.length ≤ mostLen then alloc (.list vs) h else .bad
  | .tup es, h => (evs P cl g es h).bind fun vs h => if vs.length ≤ mostLen then .ok (.tup vs) h else .bad
  | .dict, h => alloc (.dict []) h
  | .comp elt t it cond, h => (ev P cl g it h).bind fun src h =>
      (compL (fun v h => ev P cl (g.set t (some v)) cond h) (fun v h => ev P cl (g.set t (some v)) elt h) src LF 0 [] h).bind fun l h => alloc (.list l) h
noncomputable def evs (P : Pg) (cl : CallT) (g : Gm) : List E → Hp → R (List V)
  | [], h => .ok [] h
  | e :: r, h => (ev P cl g e h).bind fun v h => (evs P cl g r h).bind fun vs h => .ok (v :: vs) h
noncomputable def evAnd (P : Pg) (cl : CallT) (g : Gm) : List E → Hp → R V
  | [], _ => .bad
  | [e], h => ev P cl g e h
  | e :: r, h => (ev P cl g e h).bind fun v h => match truth v with
    | some true => evAnd P cl g r h
    | some false => .ok v h
    | .none => .bad
noncomputable def evOr (P : Pg) (cl : CallT) (g : Gm) : List E → Hp → R V
  | [], _ => .bad
  | [e], h => ev P cl g e h
  | e :: r, h => (ev P cl g e h).bind fun v h => match truth v with
    | some true => .ok v h
    | some false => evOr P cl g r h
    | .none => .bad
end

noncomputable def bindAll : List Nat → List V → Gm → Option Gm
  | [], [], g => some g
  | x :: xs, v :: vs, g => bindAll xs vs (g.set x (some v))
  | _, _, _ => .none

noncomputable def bindT (xs : List Nat) (v : V) (g : Gm) (_ : Hp) : Option Gm :=
  match xs with
  | [x] => some (g.set x (some v))
  | _ => match v with
    | .tup l => bindAll xs l g
    | _ => .none

noncomputable def forL (body : Gm → Hp → RS) (xs : List Nat) (src : V) : Nat → Nat → Gm → Hp → RS
  | 0, _, _, _ => .bad
  | n + 1, k, g, h => match nth src h k with
    | .none => .bad
    | some .none => .nx g h
    | some (some v) => match bindT xs v g h with
      | .none => .bad
      | some g => match body g h with
        | .nx g h => forL body xs src n (k + 1) g h
        | r => r

noncomputable def forEL (body : Gm → Hp → RS) (x y : Nat) (src : V) : Nat → Nat → Gm → Hp → RS
  | 0, _, _, _ => .bad
  | n + 1, k, g, h => match nth src h k with
    | .none => .bad
    | some .none => .nx g h
    | some (some v) => match body ((g.set x (some (.int k))).set y (some v)) h with
        | .nx g h => forEL body x y src n (k + 1) g h
        | r => r

noncomputable def whileL (c : Gm → Hp → R V) (body : Gm → Hp → RS) : Nat → Gm → Hp → RS
  | 0, _, _ => .bad
  | n + 1, g, h => (c g h).bindS g fun v h => match truth v with
    | .none => .bad
    | some false => .nx g h
    | some true => match body g h with
      | .nx g h => whileL c body n g h
      | r => r

mutual
noncomputable def ex (P : Pg) (cl : CallT) : S → Gm → Hp → RS
  | .expr e, g, h => (ev P cl g e h).bindS g fun _ h => .nx g h
  | .asg x e, g, h => (ev P cl g e h).bindS g fun v h => .nx (g.set x (some v)) h
  | .unp xs e, g, h => (ev P cl g e h).bindS g fun v h => match bindT xs v g h with
    | some g => .nx g h
    | .none => .bad
  | .asgA o f e, g, h => (ev P cl g e h).bindS g fun v h => (ev P cl g o h).bindS g fun a h => (setAttr a f v h).bindS g fun _ h => .nx g h
  | .asgI o i e, g, h => (ev P cl g e h).bindS g fun v h => (ev P cl g o h).bindS g fun a h => (ev P cl g i h).bindS g fun b h => (setItem a b v h).bindS g fun _ h => .nx g h
  | .iff c t f, g, h => (ev P cl g c h).bindS g fun v h => match truth v with
    | some true => exs P cl t g h
    | some false => exs P cl f g h
    | .none => .bad
  | .whil c b, g, h => whileL (fun g h => ev P cl g c h) (fun g h => exs P cl b g h) LF g h
  | .forr xs it b, g, h => (ev P cl g it h).bindS g fun src h => forL (fun g h => exs P cl b g h) xs src LF 0 g h
  | .forE x y it b, g, h => (ev P cl g it h).bindS g fun src h => forEL (fun g h => exs P cl b g h) x y src LF 0 g h
  | .ret e, g, h => (ev P cl g e h).bindS g fun v h => .ret v h
  | .ret0, _, h => .ret .none h
  | .raise C _, g, h => if P.exc then .exc h.length g (h ++ [.exc C]) else .bad
  | .tri b hs, g, h => match exs P cl b g h with
    | .exc x g h => match h[x]? with
      | some (.exc C) => exH P cl C x hs g h
      | _ => .bad
    | r => r
  | .pass, g, h => .nx g h
noncomputable def exH (P : Pg) (cl : CallT) (C : String) (x : Nat) : List (String × Option Nat × List S) → Gm → Hp → RS
  | [], g, h => .exc x g h
  | (D, as, b) :: r, g, h => if (P.up C).contains D then
      (match as with
        | .none => (match exs P cl b g h with | .exc _ _ _ => .bad | r => r)
        | some k => (match exs P cl b (g.set k (some (.ref x))) h with | .exc _ _ _ => .bad | .nx g h => .nx (g.set k .none) h | r => r))
    else exH P cl C x r g h
noncomputable def exs (P : Pg) (cl : CallT) : List S → Gm → Hp → RS
  | [], g, h => .nx g h
  | s :: r, g, h => match ex P cl s g h with
    | .nx g h => exs P cl r g h
    | o => o
end

noncomputable def RS.back : RS → R V
  | .nx _ h => .ok .none h
  | .ret v h => .ok v h
  | .exc x _ h => .exc x h
  | .bad => .bad

noncomputable def run (P : Pg) : Nat → CallT
  | 0, _, _, _ => .bad
  | n + 1, f, vs, h => match P.fn f with
    | some d => if vs.length = d.arity then (exs P (run P n) d.body (vs.map some ++ List.replicate (d.names.length - d.arity) .none) h).back else .bad
    | .none => .bad

end Mine
end

namespace Mine
noncomputable def f_size_of : FD :=
  { arity := 1, names := ["height", "size", "turn"], body := [
    .asg 1 (.int 1),
    .forr [2] (.bi "range" [.var 0]) [.asg 1 (.bin .mul (.var 1) (.int 2))],
    .ret (.var 1)] }
noncomputable def f_digits : FD :=
  { arity := 1, names := ["count"], body := [
    .ret (.meth (.var 0) "bit_length" [])] }
noncomputable def f_parted : FD :=
  { arity := 1, names := ["count", "found", "place", "turn", "height", "size"], body := [
    .asg 1 (.list []),
    .asg 2 (.int 0),
    .forr [3] (.bi "range" [.call "digits" [.var 0]]) [.asg 4 (.bin .sub (.bin .sub (.call "digits" [.var 0]) (.int 1)) (.var 3)), .asg 5 (.call "size_of" [.var 4]), .iff (.cmp .ge (.bin .sub (.var 0) (.var 2)) (.var 5)) [.expr (.meth (.var 1) "append" [.tup [.var 4, .bin .fdiv (.var 2) (.var 5)]]), .asg 2 (.bin .add (.var 2) (.var 5))] []],
    .ret (.var 1)] }
noncomputable def f_law_cell_at : FD :=
  { arity := 2, names := ["_law_script", "_law_k"], body := [
    .iff (.cmp .lt (.var 1) (.bi "len" [.var 0])) [.ret (.sub (.var 0) (.var 1))] [],
    .ret (.int 0)] }
noncomputable def f_law_whole : FD :=
  { arity := 1, names := ["_law_found"], body := [
    .ret (.and [.isa (.var 0) "int", .not (.isa (.var 0) "bool")])] }
noncomputable def f_law_digits : FD :=
  { arity := 1, names := ["_law_count", "_law_found"], body := [
    .asg 1 (.int 0),
    .whil (.cmp .gt (.var 0) (.int 0)) [.asg 0 (.bin .fdiv (.var 0) (.int 2)), .asg 1 (.bin .add (.var 1) (.int 1))],
    .ret (.var 1)] }
noncomputable def f_law_size : FD :=
  { arity := 1, names := ["_law_height", "_law_size_here", "_law_turn"], body := [
    .asg 1 (.int 1),
    .forr [2] (.bi "range" [.var 0]) [.asg 1 (.bin .mul (.var 1) (.int 2))],
    .ret (.var 1)] }
noncomputable def f_law_parted : FD :=
  { arity := 1, names := ["_law_count", "_law_found", "_law_place", "_law_height"], body := [
    .asg 1 (.list []),
    .asg 2 (.int 0),
    .forr [3] (.bi "range" [.call "_law_digits" [.var 0], .neg (.int 1), .neg (.int 1)]) [.iff (.cmp .le (.bin .add (.var 2) (.call "_law_size" [.var 3])) (.var 0)) [.expr (.meth (.var 1) "append" [.tup [.var 3, .bin .fdiv (.var 2) (.call "_law_size" [.var 3])]]), .asg 2 (.bin .add (.var 2) (.call "_law_size" [.var 3]))] []],
    .ret (.var 1)] }
noncomputable def f_law : FD :=
  { arity := 1, names := ["_law_script", "_law_cell", "_law_count", "_law_many", "_law_found", "_law_place", "_law_last", "_law_part"], body := [
    .asg 1 (.call "_law_cell_at" [.var 0, .int 0]),
    .asg 2 (.bin .mod (.bin .fdiv (.var 1) (.int 3)) (.int 71)),
    .iff (.cmp .eq (.bin .mod (.var 1) (.int 3)) (.int 1)) [.asg 2 (.bin .mod (.bin .fdiv (.var 1) (.int 3)) (.bin .add (.bin .pow (.int 10) (.int 6)) (.int 1)))] [],
    .iff (.cmp .eq (.bin .mod (.var 1) (.int 3)) (.int 2)) [.asg 2 (.bi "max" [.int 0, .bin .add (.bin .sub (.call "_law_size" [.bin .mod (.bin .fdiv (.var 1) (.int 3)) (.int 20)]) (.int 1)) (.bin .mod (.bin .fdiv (.var 1) (.int 60)) (.int 3))])] [],
    .asg 3 (.call "digits" [.var 2]),
    .asg 4 (.call "parted" [.var 2]),
    .iff (.or [.not (.call "_law_whole" [.var 3]), .cmp .ne (.var 3) (.call "_law_digits" [.var 2]), .not (.isa (.var 4) "list")]) [.ret (.bool false)] [],
    .asg 5 (.int 0),
    .asg 6 (.var 3),
    .forr [7] (.var 4) [.iff (.or [.not (.isa (.var 7) "tuple"), .cmp .ne (.bi "len" [.var 7]) (.int 2), .not (.call "_law_whole" [.sub (.var 7) (.int 0)]), .not (.call "_law_whole" [.sub (.var 7) (.int 1)])]) [.ret (.bool false)] [], .iff (.or [.not (.cmp2 (.int 0) .le (.sub (.var 7) (.int 0)) .lt (.var 6)), .cmp .ne (.bin .mul (.sub (.var 7) (.int 1)) (.call "_law_size" [.sub (.var 7) (.int 0)])) (.var 5)]) [.ret (.bool false)] [], .asg 5 (.bin .add (.var 5) (.call "_law_size" [.sub (.var 7) (.int 0)])), .asg 6 (.sub (.var 7) (.int 0))],
    .expr (.meth (.var 4) "append" [.tup [.int 0, .int 0]]),
    .ret (.and [.cmp .eq (.var 5) (.var 2), .cmp .eq (.call "parted" [.var 2]) (.call "_law_parted" [.var 2])])] }
noncomputable def P01 : Pg where
  fns := [
    (("", "size_of"), f_size_of),
    (("", "digits"), f_digits),
    (("", "parted"), f_parted),
    (("", "_law_cell_at"), f_law_cell_at),
    (("", "_law_whole"), f_law_whole),
    (("", "_law_digits"), f_law_digits),
    (("", "_law_size"), f_law_size),
    (("", "_law_parted"), f_law_parted),
    (("", "law"), f_law)]
  ups := []
  globs := []
  exc := false

end Mine

section
/-! The core's values and objects, and the machine's: how they meet. -/
namespace Mine
open PySem PyProof.Rows

/-- where an object of the core lies: its address, and (an object's) its dict's -/
structure Loc where
  a : Addr
  d : Addr

noncomputable abbrev Mu := List Loc

noncomputable def RngAt (h : Heap) (r : Addr) (a b c : Int) : Prop := Builtin.Range.small a b c = true ∧ ∃ t u v, h.get? r = some { cls := .type "range", data := .fields #[.int a t, .int b u, .int c v] }

/-- the signs are signs -/
noncomputable def okStr (s : List Nat) : Prop := s.length ≤ mostLen ∧ ∀ x ∈ s, x < 1114112

mutual
noncomputable def VR (bs : Heap) (mu : Mu) (h : Heap) : V → Value → Prop
  | .none, c => c = .none
  | .bool b, c => c = .bool b
  | .int i, c => ∃ t, c = .int i t
  | .str s, c => ∃ t, c = .str ⟨s.toArray⟩ t ∧ okStr s
  | .ref i, c => ∃ l, mu[i]? = some l ∧ c = .ref l.a
  | .tup l, c => ∃ a o n vs, c = .ref a ∧ h.get? a = some o ∧ o.cls = .type "tuple" ∧ o.data = .seq vs n ∧ VRs bs mu h l vs.toList ∧ l.length ≤ mostLen
  | .rng x y z, c => ∃ r, c = .ref r ∧ RngAt h r x y z
  | .fz l, c => ∃ a o n vs, c = .ref a ∧ bs.get? a = some o ∧ o.cls = .type "list" ∧ o.data = .seq vs n ∧ VRs bs mu h l vs.toList ∧ l.length ≤ mostLen
noncomputable def VRs (bs : Heap) (mu : Mu) (h : Heap) : List V → List Value → Prop
  | [], cs => cs = []
  | v :: l, cs => ∃ c r, cs = c :: r ∧ VR bs mu h v c ∧ VRs bs mu h l r
end

/-- what never turns: tuples, ranges -/
noncomputable def Fixed (o : Obj) : Prop := (o.cls = .type "tuple" ∧ ∃ vs n, o.data = .seq vs n) ∨ (o.cls = .type "range" ∧ ∃ vs, o.data = .fields vs)

mutual
theorem VR.mono {bs : Heap} {mu mu' : Mu} {h h' : Heap} (k : ∀ b o, h.get? b = some o → Fixed o → h'.get? b = some o) (e : ∀ (i : Nat) l, mu[i]? = some l → mu'[i]? = some l) :
    ∀ {v : V} {c : Value}, VR bs mu h v c → VR bs mu' h' v c
  | .none, _, x => by simpa only [VR] using x
  | .bool _, _, x => by simpa only [VR] using x
  | .int _, _, x => by simpa only [VR] using x
  | .str _, _, x => by simpa only [VR] using x
  | .ref i, _, x => by
    simp only [VR] at x ⊢
    obtain ⟨l, h1, h2⟩ := x
    exact ⟨l, e _ _ h1, h2⟩
  | .tup l, _, x => by
    simp only [VR] at x ⊢
    obtain ⟨a, o, n, vs, h1, h2, h3, h4, h5, h6⟩ := x
    exact ⟨a, o, n, vs, h1, k _ _ h2 (.inl ⟨h3, _, _, h4⟩), h3, h4, VRs.mono k e h5, h6⟩
  | .rng _ _ _, _, x => by
    simp only [VR] at x ⊢
    obtain ⟨r, h1, h0, t, u, v, h2⟩ := x
    exact ⟨r, h1, h0, t, u, v, k _ _ h2 (.inr ⟨rfl, _, rfl⟩)⟩
  | .fz l, _, x => by
    simp only [VR] at x ⊢
    obtain ⟨a, o, n, vs, h1, h2, h3, h4, h5, h6⟩ := x
    exact ⟨a, o, n, vs, h1, h2, h3, h4, VRs.mono k e h5, h6⟩
theorem VRs.mono {bs : Heap} {mu mu' : Mu} {h h' : Heap} (k : ∀ b o, h.get? b = some o → Fixed o → h'.get? b = some o) (e : ∀ (i : Nat) l, mu[i]? = some l → mu'[i]? = some l) :
    ∀ {l : List V} {cs : List Value}, VRs bs mu h l cs → VRs bs mu' h' l cs
  | [], _, x => by simpa only [VRs] using x
  | _ :: _, _, x => by
    simp only [VRs] at x ⊢
    obtain ⟨c, r, h1, h2, h3⟩ := x
    exact ⟨c, r, h1, VR.mono k e h2, VRs.mono k e h3⟩
end

theorem VRs.length {bs : Heap} {mu : Mu} {h : Heap} : ∀ {l : List V} {cs : List Value}, VRs bs mu h l cs → cs.length = l.length
  | [], _, x => by simp only [VRs] at x; rw [x]; rfl
  | _ :: l, _, x => by
    simp only [VRs] at x
    obtain ⟨c, r, h1, _, h3⟩ := x
    rw [h1, List.length_cons, List.length_cons, VRs.length h3]
theorem VRs.get {bs : Heap} {mu : Mu} {h : Heap} : ∀ {l : List V} {cs : List Value} {j : Nat} {v : V}, VRs bs mu h l cs → l[j]? = some v → ∃ c, cs[j]? = some c ∧ VR bs mu h v c
  | [], _, _, _, _, e => by simp at e
  | _ :: l, _, 0, _, x, e => by
    simp only [VRs] at x
    obtain ⟨c, r, h1, h2, h3⟩ := x
    simp only [List.getElem?_cons_zero, Option.some.injEq] at e
    subst e
    exact ⟨c, by rw [h1]; rfl, h2⟩
  | _ :: l, _, j + 1, _, x, e => by
    simp only [VRs] at x
    obtain ⟨c, r, h1, h2, h3⟩ := x
    simp only [List.getElem?_cons_succ] at e
    obtain ⟨c', a, b⟩ := VRs.get h3 e
    exact ⟨c', by rw [h1]; simpa using a, b⟩
theorem VRs.none {bs : Heap} {mu : Mu} {h : Heap} {l : List V} {cs : List Value} {j : Nat} (x : VRs bs mu h l cs) (e : l[j]? = none) : cs[j]? = none := by
  rw [List.getElem?_eq_none_iff] at e ⊢; rw [x.length]; exact e
theorem VRs.append {bs : Heap} {mu : Mu} {h : Heap} : ∀ {l m : List V} {cs ds : List Value}, VRs bs mu h l cs → VRs bs mu h m ds → VRs bs mu h (l ++ m) (cs ++ ds)
  | [], _, _, _, x, y => by simp only [VRs] at x; rw [x]; exact y
  | _ :: l, _, _, _, x, y => by
    simp only [VRs] at x
    obtain ⟨c, r, h1, h2, h3⟩ := x
    rw [h1]
    show VRs _ _ _ (_ :: (l ++ _)) (c :: (r ++ _))
    simp only [VRs]
    exact ⟨c, _, rfl, h2, VRs.append h3 y⟩
theorem VRs.single {bs : Heap} {mu : Mu} {h : Heap} {v : V} {c : Value} (x : VR bs mu h v c) : VRs bs mu h [v] [c] := by simp only [VRs]; exact ⟨c, [], rfl, x, rfl⟩
theorem VRs.take {bs : Heap} {mu : Mu} {h : Heap} : ∀ {l : List V} {cs : List Value} (n : Nat), VRs bs mu h l cs → VRs bs mu h (l.take n) (cs.take n)
  | [], _, _, x => by simp only [VRs] at x; rw [x]; simp [VRs]
  | _ :: l, _, 0, _ => by simp [VRs]
  | _ :: l, _, n + 1, x => by
    simp only [VRs] at x
    obtain ⟨c, r, h1, h2, h3⟩ := x
    rw [h1, List.take_succ_cons, List.take_succ_cons]
    simp only [VRs]
    exact ⟨c, _, rfl, h2, VRs.take n h3⟩
noncomputable def intHash : V → Int
  | .int i => hashInt i
  | _ => 0
/-- the hash of a dict's key -/
noncomputable def khash (w : World) : V → Int
  | .str s => PyData.keyHash w.params ⟨s.toArray⟩
  | .int i => hashInt i
  | .tup l => reduceHash (Builtin.Tuple.tupleHashOf (l.map intHash))
  | _ => 0

noncomputable def DRs (w : World) (bs : Heap) (mu : Mu) (h : Heap) : List (V × V) → List DictEntry → Prop
  | [], es => es = []
  | (k, v) :: r, es => ∃ e t, es = e :: t ∧ e.hash = khash w k ∧ VR bs mu h k e.key ∧ VR bs mu h v e.val ∧ DRs w bs mu h r t

noncomputable def FRs (w : World) (bs : Heap) (mu : Mu) (h : Heap) : List (String × V) → List DictEntry → Prop
  | [], es => es = []
  | (f, v) :: r, es => ∃ tk c t, es = ⟨PyData.keyHash w.params f, .str (Str.ofString f) tk, c⟩ :: t ∧ VR bs mu h v c ∧ FRs w bs mu h r t

/-- the static part: the text's classes, by name -/
noncomputable abbrev Cls := Bool → String → Option Addr

noncomputable def OR (w : World) (cl : Cls) (bs : Heap) (mu : Mu) (h : Heap) (l : Loc) : Ob → Prop
  | .list vs => l.d = l.a ∧ ∃ n items, h.get? l.a = some { cls := .type "list", data := .seq items n } ∧ VRs bs mu h vs items.toList ∧ vs.length ≤ mostLen
  | .dict es => (l.d = l.a ∧ l.a ≠ sysModules) ∧ ∃ n ents, h.get? l.a = some ⟨.type "dict", none, .dict ents n, #[]⟩ ∧ es.all (fun x => isKey x.1) = true ∧ (es.Pairwise fun x y => keyEq x.1 y.1 = false) ∧ DRs w bs mu h es ents.toList ∧ es.length ≤ mostLen
  | .inst C fs => l.d ≠ l.a ∧ ∃ A n ents, cl false C = some A ∧ h.get? l.a = some ⟨.ref A, some l.d, .plain, #[]⟩ ∧ h.get? l.d = some ⟨.type "dict", none, .dict ents n, #[]⟩ ∧ FRs w bs mu h fs ents.toList
  | .exc C => l.d = l.a ∧ ∃ A o vs, cl true C = some A ∧ h.get? l.a = some o ∧ o.cls = .ref A ∧ o.data = .fields vs ∧ vs.size = 6 ∧ vs[2]? = some .none

/-- what stays: the world, the classes, the heap at the start -/
structure Cf where
  w : World
  cl : Cls
  bs : Heap

noncomputable def Own (mu : Mu) (b : Addr) : Prop := ∃ l ∈ mu, b = l.a ∨ b = l.d

structure St (c : Cf) (F : List Addr) (mu : Mu) (H : Hp) (h : Heap) : Prop where
  mods : True
  stays : c.bs.StaysIn h
  len : mu.length = H.length
  objs : ∀ (i : Nat) l o, mu[i]? = some l → H[i]? = some o → OR c.w c.cl c.bs mu h l o
  apart : ∀ (i j : Nat) l m, mu[i]? = some l → mu[j]? = some m → i ≠ j → l.a ≠ m.a ∧ l.a ≠ m.d ∧ l.d ≠ m.a ∧ l.d ≠ m.d
  newB : ∀ b, Own mu b → c.bs.get? b = none
  notF : ∀ b, Own mu b → b ∉ F
  frs : ∀ b ∈ F, c.bs.get? b = none ∧ ∃ o es ep, h.get? b = some o ∧ o.data = .dict es ep

/-- F: the frames on the stack; X: what may turn besides -/
structure Go (F X : List Addr) (mu : Mu) (h : Heap) (mu' : Mu) (h' : Heap) : Prop where
  ext : ∀ (i : Nat) l, mu[i]? = some l → mu'[i]? = some l
  keep : ∀ b o, h.get? b = some o → ¬ Own mu b → b ∉ F → b ∉ X → h'.get? b = some o
  keepF : ∀ b o, h.get? b = some o → b ∈ F → b ∉ X → ∃ sl, h'.get? b = some { o with slots := sl }
  fresh : ∀ b, Own mu' b → Own mu b ∨ h.get? b = none
  alive : ∀ b o, h.get? b = some o → ∃ o', h'.get? b = some o'

theorem Go.refl (F X : List Addr) (mu : Mu) (h : Heap) : Go F X mu h mu h := ⟨fun _ _ e => e, fun _ _ e _ _ _ => e, fun _ o e _ _ => ⟨o.slots, e⟩, fun _ x => .inl x, fun _ o e => ⟨o, e⟩⟩
theorem Go.gone {F X : List Addr} {mu mu' : Mu} {h h' : Heap} (x : Go F X mu h mu' h') {b : Addr} (e : h'.get? b = none) : h.get? b = none := by
  cases q : h.get? b with
  | none => rfl
  | some o => obtain ⟨o', r⟩ := x.alive b o q; rw [e] at r; cases r
theorem Go.trans {F X : List Addr} {mu mu1 mu2 : Mu} {h h1 h2 : Heap} (x : Go F X mu h mu1 h1) (y : Go F X mu1 h1 mu2 h2) : Go F X mu h mu2 h2 where
  ext := fun i l e => y.ext i l (x.ext i l e)
  keep := fun b o e n f k => y.keep b o (x.keep b o e n f k) (fun z => (x.fresh b z).elim n fun q => by rw [e] at q; cases q) f k
  keepF := fun b o e f k => by
    obtain ⟨sl, e1⟩ := x.keepF b o e f k
    obtain ⟨sl', e2⟩ := y.keepF b _ e1 f k
    exact ⟨sl', e2⟩
  fresh := fun b z => (y.fresh b z).elim (x.fresh b) fun q => .inr (x.gone q)
  alive := fun b o e => let ⟨o', e'⟩ := x.alive b o e; y.alive b o' e'
theorem Go.grow {F X : List Addr} {mu : Mu} {h h' : Heap} (k : h.StaysIn h') : Go F X mu h mu h' :=
  ⟨fun _ _ e => e, fun b o e _ _ _ => k b o e, fun b o e _ _ => ⟨o.slots, k b o e⟩, fun _ x => .inl x, fun b o e => ⟨o, k b o e⟩⟩
theorem Go.wide {F X Y : List Addr} {mu mu' : Mu} {h h' : Heap} (x : Go F X mu h mu' h') (k : ∀ b ∈ X, b ∈ Y) : Go F Y mu h mu' h' :=
  ⟨x.ext, fun b o e n f z => x.keep b o e n f fun q => z (k b q), fun b o e f z => x.keepF b o e f fun q => z (k b q), x.fresh, x.alive⟩
theorem Go.wide0 {F Y : List Addr} {mu mu' : Mu} {h h' : Heap} (x : Go F [] mu h mu' h') : Go F Y mu h mu' h' := x.wide fun _ q => nomatch q
theorem own_of_get {mu : Mu} {i : Nat} {l : Loc} (e : mu[i]? = some l) : Own mu l.a ∧ Own mu l.d := ⟨⟨l, List.mem_of_getElem? e, .inl rfl⟩, ⟨l, List.mem_of_getElem? e, .inr rfl⟩⟩

theorem OR.notFixed {w : World} {cl : Cls} {bs : Heap} {mu : Mu} {h : Heap} {l : Loc} : ∀ {o : Ob}, OR w cl bs mu h l o → ∀ b, b = l.a ∨ b = l.d → ∃ ob, h.get? b = some ob ∧ ¬ Fixed ob
  | .list _, x, b, hb => by
    obtain ⟨e, n, it, h1, _⟩ := x
    have : b = l.a := by rcases hb with q | q <;> simp [q, e]
    subst this
    refine ⟨_, h1, ?_⟩
    rintro (⟨q, _⟩ | ⟨q, _⟩) <;> exact absurd q (by simp)
  | .dict _, x, b, hb => by
    obtain ⟨⟨e, _⟩, n, en, h1, _⟩ := x
    have : b = l.a := by rcases hb with q | q <;> simp [q, e]
    subst this
    refine ⟨_, h1, ?_⟩
    rintro (⟨q, _⟩ | ⟨q, _⟩) <;> exact absurd q (by simp)
  | .inst _ _, x, b, hb => by
    obtain ⟨e, A, n, en, _, h1, h2, _⟩ := x
    rcases hb with q | q
    · subst q
      refine ⟨_, h1, ?_⟩
      rintro (⟨q, _⟩ | ⟨q, _⟩) <;> exact absurd q (by simp)
    · subst q
      refine ⟨_, h2, ?_⟩
      rintro (⟨q, _⟩ | ⟨q, _⟩) <;> exact absurd q (by simp)
  | .exc _, x, b, hb => by
    obtain ⟨e, A, o, vs, _, h1, h2, h3, _⟩ := x
    have : b = l.a := by rcases hb with q | q <;> simp [q, e]
    subst this
    refine ⟨o, h1, ?_⟩
    rintro (⟨q, _⟩ | ⟨q, _⟩) <;> rw [h2] at q <;> exact absurd q (by simp)

theorem St.obj {c : Cf} {F : List Addr} {mu : Mu} {H : Hp} {h : Heap} (S : St c F mu H h) {i : Nat} {l : Loc} (e : mu[i]? = some l) : ∃ o, H[i]? = some o ∧ OR c.w c.cl c.bs mu h l o := by
  have : i < H.length := by rw [← S.len]; exact (List.getElem?_eq_some_iff.mp e).1
  exact ⟨_, List.getElem?_eq_getElem this, S.objs i l _ e (List.getElem?_eq_getElem this)⟩
theorem St.ownAt {c : Cf} {F : List Addr} {mu : Mu} {H : Hp} {h : Heap} (S : St c F mu H h) {b : Addr} (z : Own mu b) : ∃ ob, h.get? b = some ob ∧ ¬ Fixed ob := by
  obtain ⟨l, hl, hb⟩ := z
  obtain ⟨i, e⟩ := List.mem_iff_getElem?.mp hl
  obtain ⟨o, _, x⟩ := S.obj e
  exact x.notFixed b hb

theorem St.fixed {c : Cf} {F : List Addr} {mu mu' : Mu} {H : Hp} {h h' : Heap} (S : St c F mu H h) (g : Go F [] mu h mu' h') (b : Addr) (o : Obj) (e : h.get? b = some o) (f : Fixed o) : h'.get? b = some o := by
  refine g.keep b o e (fun z => ?_) (fun z => ?_) (fun z => nomatch z)
  · obtain ⟨ob, h1, h2⟩ := S.ownAt z
    rw [e] at h1; cases h1; exact h2 f
  · obtain ⟨_, o', es, ep, h1, h2⟩ := S.frs b z
    rw [e] at h1; cases h1
    rcases f with ⟨_, vs, n, q⟩ | ⟨_, vs, q⟩ <;> rw [h2] at q <;> cases q
theorem VR.go {c : Cf} {F : List Addr} {mu mu' : Mu} {H : Hp} {h h' : Heap} (S : St c F mu H h) (g : Go F [] mu h mu' h') {v : V} {x : Value} (r : VR c.bs mu h v x) : VR c.bs mu' h' v x := r.mono (S.fixed g) g.ext
theorem DRs.mono {w : World} {bs : Heap} {mu mu' : Mu} {h h' : Heap} (k : ∀ b o, h.get? b = some o → Fixed o → h'.get? b = some o) (e : ∀ (i : Nat) l, mu[i]? = some l → mu'[i]? = some l) :
    ∀ {es : List (V × V)} {ds : List DictEntry}, DRs w bs mu h es ds → DRs w bs mu' h' es ds
  | [], _, x => x
  | (_, _) :: _, _, ⟨d, t, h1, h2, h3, h4, h5⟩ => ⟨d, t, h1, h2, h3.mono k e, h4.mono k e, DRs.mono k e h5⟩
theorem FRs.mono {w : World} {bs : Heap} {mu mu' : Mu} {h h' : Heap} (k : ∀ b o, h.get? b = some o → Fixed o → h'.get? b = some o) (e : ∀ (i : Nat) l, mu[i]? = some l → mu'[i]? = some l) :
    ∀ {es : List (String × V)} {ds : List DictEntry}, FRs w bs mu h es ds → FRs w bs mu' h' es ds
  | [], _, x => x
  | (_, _) :: _, _, ⟨tk, d, t, h1, h2, h3⟩ => ⟨tk, d, t, h1, h2.mono k e, FRs.mono k e h3⟩
theorem OR.mono {w : World} {cl : Cls} {bs : Heap} {mu mu' : Mu} {h h' : Heap} {l : Loc} (k : ∀ b o, h.get? b = some o → Fixed o → h'.get? b = some o) (e : ∀ (i : Nat) l, mu[i]? = some l → mu'[i]? = some l)
    (ka : h'.get? l.a = h.get? l.a) (kd : h'.get? l.d = h.get? l.d) : ∀ {o : Ob}, OR w cl bs mu h l o → OR w cl bs mu' h' l o
  | .list _, ⟨q, n, it, h1, h4, h5⟩ => ⟨q, n, it, ka.trans h1, h4.mono k e, h5⟩
  | .dict _, ⟨q, n, en, h1, h2, h2', h3, h4⟩ => ⟨q, n, en, ka.trans h1, h2, h2', h3.mono k e, h4⟩
  | .inst _ _, ⟨q, A, n, en, h0, h1, h2, h3⟩ => ⟨q, A, n, en, h0, ka.trans h1, kd.trans h2, h3.mono k e⟩
  | .exc _, ⟨q, A, o, vs, h0, h1, h2, h3⟩ => ⟨q, A, o, vs, h0, ka.trans h1, h2, h3⟩

section
variable {c : Cf} {F : List Addr} {mu : Mu} {H : Hp} {h h' : Heap}

/-- new things beside -/
theorem St.grow (S : St c F mu H h) (k : h.StaysIn h') : St c F mu H h' where
  mods := S.mods
  stays := fun b o e => k b o (S.stays b o e)
  len := S.len
  objs := fun i l o e1 e2 => by
    have x := S.objs i l o e1 e2
    obtain ⟨oa, ha, _⟩ := x.notFixed l.a (.inl rfl)
    obtain ⟨od, hd, _⟩ := x.notFixed l.d (.inr rfl)
    exact x.mono (fun b o e _ => k b o e) (fun _ _ e => e) ((k _ _ ha).trans ha.symm) ((k _ _ hd).trans hd.symm)
  apart := S.apart
  newB := S.newB
  notF := S.notF
  frs := fun b hb => let ⟨q, o, es, ep, e, d⟩ := S.frs b hb; ⟨q, o, es, ep, k _ _ e, d⟩

/-- one object turns -/
theorem St.turn (S : St c F mu H h) {i : Nat} {l : Loc} {o : Ob} (e : mu[i]? = some l) (k : ∀ b, b ≠ l.a → b ≠ l.d → h'.get? b = h.get? b) (x : OR c.w c.cl c.bs mu h' l o) :
    St c F mu (H.set i o) h' ∧ Go F [] mu h mu h' := by
  have O := own_of_get e
  have keep : ∀ b o, h.get? b = some o → ¬ Own mu b → h'.get? b = some o := fun b o q n => (k b (fun y => n (y ▸ O.1)) fun y => n (y ▸ O.2)).trans q
  have keepF : ∀ b ∈ F, h'.get? b = h.get? b := fun b f => k b (fun y => S.notF _ (y ▸ O.1) f) fun y => S.notF _ (y ▸ O.2) f
  have fx : ∀ b o, h.get? b = some o → Fixed o → h'.get? b = some o := fun b o q f => keep b o q fun y => by
    obtain ⟨ob, h1, h2⟩ := S.ownAt y
    rw [q] at h1; cases h1; exact h2 f
  refine ⟨⟨S.mods, fun b o q => keep b o (S.stays b o q) fun y => ?_, by rw [List.length_set]; exact S.len, fun j m p e1 e2 => ?_, S.apart, S.newB, S.notF, fun b hb => ?_⟩,
    ⟨fun _ _ e => e, fun b o q n _ _ => keep b o q n, fun b o q f _ => ⟨o.slots, (keepF b f).trans q⟩, fun _ y => .inl y, fun b o q => ?_⟩⟩
  · have := S.newB b y; rw [q] at this; cases this
  · by_cases hj : i = j
    · subst hj
      rw [e] at e1; cases e1
      have hi : i < H.length := by rw [← S.len]; exact (List.getElem?_eq_some_iff.mp e).1
      rw [List.getElem?_set_self hi] at e2; cases e2
      exact x
    · rw [List.getElem?_set_ne hj] at e2
      obtain ⟨a1, a2, a3, a4⟩ := S.apart i j l m e e1 hj
      exact (S.objs j m p e1 e2).mono fx (fun _ _ e => e) (k _ (Ne.symm a1) (Ne.symm a3)) (k _ (Ne.symm a2) (Ne.symm a4))
  · obtain ⟨q, o, es, ep, e, d⟩ := S.frs b hb
    exact ⟨q, o, es, ep, (keepF b hb).trans e, d⟩
  · by_cases n : b = l.a ∨ b = l.d
    · obtain ⟨ob, h1, _⟩ := x.notFixed b n; exact ⟨ob, h1⟩
    · exact ⟨o, (k b (fun y => n (.inl y)) fun y => n (.inr y)).trans q⟩

/-- a new object -/
theorem St.more (S : St c F mu H h) {l : Loc} {o : Ob} (k : h.StaysIn h') (na : h.get? l.a = none) (nd : h.get? l.d = none) (x : OR c.w c.cl c.bs (mu ++ [l]) h' l o) :
    St c F (mu ++ [l]) (H ++ [o]) h' ∧ Go F [] mu h (mu ++ [l]) h' := by
  have S' := S.grow k
  have ext : ∀ (i : Nat) m, mu[i]? = some m → (mu ++ [l])[i]? = some m := fun i m e => by rw [List.getElem?_append_left (List.getElem?_eq_some_iff.mp e).1]; exact e
  have own : ∀ b, Own (mu ++ [l]) b → Own mu b ∨ b = l.a ∨ b = l.d := fun b ⟨m, hm, hb⟩ => by
    rcases List.mem_append.mp hm with q | q
    · exact .inl ⟨m, q, hb⟩
    · rw [List.mem_singleton.mp q] at hb; exact .inr hb
  have new : ∀ b, b = l.a ∨ b = l.d → h.get? b = none := fun b hb => by rcases hb with q | q <;> rw [q] <;> assumption
  have cases : ∀ (i : Nat) m, (mu ++ [l])[i]? = some m → mu[i]? = some m ∨ (i = mu.length ∧ m = l) := fun i m e => by
    by_cases hi : i < mu.length
    · rw [List.getElem?_append_left hi] at e; exact .inl e
    · rw [List.getElem?_append_right (by omega)] at e
      have : i - mu.length = 0 := by
        have := (List.getElem?_eq_some_iff.mp e).1; simp at this; omega
      rw [this] at e; simp at e; exact .inr ⟨by omega, e.symm⟩
  have oldNe : ∀ m, m ∈ mu → ∀ b, b = l.a ∨ b = l.d → m.a ≠ b ∧ m.d ≠ b := fun m hm b hb => by
    constructor <;> intro q
    · obtain ⟨ob, h1, _⟩ := S.ownAt ⟨m, hm, .inl rfl⟩
      rw [q, new b hb] at h1; cases h1
    · obtain ⟨ob, h1, _⟩ := S.ownAt ⟨m, hm, .inr rfl⟩
      rw [q, new b hb] at h1; cases h1
  refine ⟨⟨S.mods, S'.stays, by simp [S.len], fun i m p e1 e2 => ?_, fun i j m p e1 e2 hij => ?_, fun b y => ?_, fun b y => ?_, S'.frs⟩, ⟨ext, fun b o e _ _ _ => k b o e, fun b o e _ _ => ⟨o.slots, k b o e⟩, fun b y => ?_, fun b o e => ⟨o, k b o e⟩⟩⟩
  · rcases cases i m e1 with q | ⟨q, rfl⟩
    · rw [List.getElem?_append_left (by rw [← S.len]; exact (List.getElem?_eq_some_iff.mp q).1)] at e2
      exact (S'.objs i m p q e2).mono (fun _ _ e _ => e) ext rfl rfl
    · rw [q, S.len, List.getElem?_append_right (Nat.le_refl _)] at e2
      simp at e2; subst e2; exact x
  · rcases cases i m e1 with q | ⟨q, rfl⟩ <;> rcases cases j p e2 with r | ⟨r, rfl⟩
    · exact S.apart i j m p q r hij
    · have A := oldNe m (List.mem_of_getElem? q) _ (.inl rfl); have B := oldNe m (List.mem_of_getElem? q) _ (.inr rfl)
      exact ⟨A.1, B.1, A.2, B.2⟩
    · have A := oldNe p (List.mem_of_getElem? r) _ (.inl rfl); have B := oldNe p (List.mem_of_getElem? r) _ (.inr rfl)
      exact ⟨Ne.symm A.1, Ne.symm A.2, Ne.symm B.1, Ne.symm B.2⟩
    · exact absurd (q.trans r.symm) hij
  · rcases own b y with q | q
    · exact S.newB b q
    · cases e : c.bs.get? b with
      | none => rfl
      | some o => have := S.stays b o e; rw [new b q] at this; cases this
  · rcases own b y with q | q
    · exact S.notF b q
    · intro f
      obtain ⟨_, o, es, ep, e, _⟩ := S.frs b f
      rw [new b q] at e; cases e
  · rcases own b y with q | q
    · exact .inl q
    · exact .inr (new b q)
end

end Mine
end

section
/-! Soundness: the frame, what a step gives, how steps are put together. -/
namespace Mine
open PySem PyProof.Rows

noncomputable def Fly (F : List Addr) (mu' : Mu) (h₀ h' : Heap) (l : Loc) (L : Addr) : Prop :=
  ∃ oe vs, h'.get? l.a = some oe ∧ oe.data = .fields vs ∧ (vs[1]? = some .none ∨ ∃ T oT ts m, vs[1]? = some (.ref T) ∧ h₀.get? T = none ∧ ¬ Own mu' T ∧ T ∉ F ∧
    h'.get? T = some oT ∧ oT.cls = .type "traceback" ∧ oT.data = .fields ts ∧ ts[3]? = some m ∧ (m = .none ∨ m = rawInt L))

/-- the ends of a step that began at mu, s: a value, or an exception in flight -/
noncomputable def QV {α β : Type} (c : Cf) (F : List Addr) (mu : Mu) (s : Shared) (r : R α) (Rl : α → β → Mu → Heap → Prop) (b : β) (s' : Shared) : Prop :=
  ∃ a H' mu', r = .ok a H' ∧ St c F mu' H' s'.heap ∧ Go F [] mu s.heap mu' s'.heap ∧ Rl a b mu' s'.heap ∧ s'.gens = s.gens ∧ s'.os = s.os
noncomputable def QE {α : Type} (c : Cf) (F : List Addr) (L : Addr) (mu : Mu) (s : Shared) (r : R α) (e : Value) (s' : Shared) : Prop :=
  ∃ x H' mu' l C, r = .exc x H' ∧ St c F mu' H' s'.heap ∧ Go F [] mu s.heap mu' s'.heap ∧ mu'[x]? = some l ∧ H'[x]? = some (.exc C) ∧ e = .ref l.a ∧ Fly F mu' s.heap s'.heap l L ∧ s'.gens = s.gens ∧ s'.os = s.os

noncomputable def Snd {α β : Type} (M : Model) (c : Cf) (F : List Addr) (L : Addr) (A : Around) (mu : Mu) (s : Shared) (t : Sem β) (r : R α) (Rl : α → β → Mu → Heap → Prop) : Prop :=
  r ≠ .bad → wpAny M A t (QV c F mu s r Rl) (QE c F L mu s r) s

noncomputable abbrev VRl (c : Cf) : V → Value → Mu → Heap → Prop := fun v x mu h => VR c.bs mu h v x
noncomputable abbrev VRsl (c : Cf) : List V → List Value → Mu → Heap → Prop := fun v x mu h => VRs c.bs mu h v x

section
variable {α β γ δ : Type} {M : Model} {c : Cf} {F : List Addr} {L : Addr} {A : Around} {mu : Mu} {s : Shared} {H : Hp}

theorem Fly.back {mu' mu1 : Mu} {h₀ h₁ h' : Heap} {l : Loc} {X : List Addr} (g : Go F X mu1 h₀ mu' h₁) (x : Fly F mu h₁ h' l L) : Fly F mu h₀ h' l L := by
  obtain ⟨oe, vs, h1, h2, h3⟩ := x
  refine ⟨oe, vs, h1, h2, h3.imp id ?_⟩
  rintro ⟨T, oT, ts, m, a1, a2, a3⟩
  exact ⟨T, oT, ts, m, a1, g.gone a2, a3⟩

theorem QV.back {r : R α} {Rl : α → β → Mu → Heap → Prop} {mu1 : Mu} {s1 : Shared} {b : β} {s' : Shared} (x : QV c F mu1 s1 r Rl b s') (g : Go F [] mu s.heap mu1 s1.heap) (eg : s1.gens = s.gens) (eo : s1.os = s.os) : QV c F mu s r Rl b s' := by
  obtain ⟨a, H', mu', e, S, G, R, h1, h2⟩ := x
  exact ⟨a, H', mu', e, S, g.trans G, R, h1.trans eg, h2.trans eo⟩
theorem QE.back {r : R α} {mu1 : Mu} {s1 : Shared} {b : Value} {s' : Shared} (x : QE c F L mu1 s1 r b s') (g : Go F [] mu s.heap mu1 s1.heap) (eg : s1.gens = s.gens) (eo : s1.os = s.os) : QE c F L mu s r b s' := by
  obtain ⟨a, H', mu', l, C, e, S, G, R, k, h0, f, h1, h2⟩ := x
  exact ⟨a, H', mu', l, C, e, S, g.trans G, R, k, h0, f.back g, h1.trans eg, h2.trans eo⟩
theorem QE.as {r : R α} {r' : R β} (h : ∀ x H, r = .exc x H → r' = .exc x H) {b : Value} {s' : Shared} (x : QE c F L mu s r b s') : QE c F L mu s r' b s' := by
  obtain ⟨a, H', mu', l, C, e, S, G, R, k, h0, f, h1, h2⟩ := x
  exact ⟨a, H', mu', l, C, h _ _ e, S, G, R, k, h0, f, h1, h2⟩

theorem Snd.seq {t : Sem β} {f : β → Sem δ} {r : R α} {k : α → Hp → R γ} {Rl : α → β → Mu → Heap → Prop} {Rl' : γ → δ → Mu → Heap → Prop}
    (h1 : Snd M c F L A mu s t r Rl)
    (h2 : ∀ a b H' mu' s', r = .ok a H' → St c F mu' H' s'.heap → Go F [] mu s.heap mu' s'.heap → Rl a b mu' s'.heap → Snd M c F L A mu' s' (f b) (k a H') Rl') :
    Snd M c F L A mu s (t >>= f) (r.bind k) Rl' := by
  intro hb
  have hr : r ≠ .bad := fun e => hb (by rw [e]; rfl)
  refine wpAny_bind (wpAny_mono (h1 hr) (fun b s' x => ?_) fun e s' x => ?_)
  · obtain ⟨a, H', mu', e, S, G, R, eg, eo⟩ := x
    subst e
    exact wpAny_mono (h2 a b H' mu' s' rfl S G R hb) (fun _ _ y => y.back G eg eo) fun _ _ y => y.back G eg eo
  · exact x.as fun x H e => by rw [e]; rfl

theorem Snd.ok {a : α} {b : β} {Rl : α → β → Mu → Heap → Prop} (S : St c F mu H s.heap) (h : Rl a b mu s.heap) : Snd M c F L A mu s (pure b) (.ok a H) Rl :=
  fun _ => wpAny_pure ⟨a, H, mu, rfl, S, .refl .., h, rfl, rfl⟩
theorem Snd.holding {vs : List Value} {t : Sem β} {r : R α} {Rl : α → β → Mu → Heap → Prop} (h : Snd M c F L A mu s t r Rl) : Snd M c F L A mu s (holding vs t) r Rl := fun hb => wpAny_holding (h hb)
theorem Snd.at {p : Pos} {t : Sem β} {r : R α} {Rl : α → β → Mu → Heap → Prop} (h : Snd M c F L A mu s t r Rl) : Snd M c F L A mu s (do standAt p; t) r Rl := fun hb => wpAny_bind (wpAny_standAt (h hb))
/-- a step that ends where it began, but for the store of tokens and new things -/
theorem QV.here {a : α} {b : β} {Rl : α → β → Mu → Heap → Prop} {s' : Shared} (S : St c F mu H s.heap) (k : s.heap.StaysIn s'.heap) (h : Rl a b mu s'.heap) (hg : s'.gens = s.gens) (ho : s'.os = s.os) :
    QV c F mu s (.ok a H) Rl b s' := ⟨a, H, mu, rfl, S.grow k, .grow k, h, hg, ho⟩
theorem QV.same {a : α} {b : β} {Rl : α → β → Mu → Heap → Prop} {t : Nat} (S : St c F mu H s.heap) (h : Rl a b mu s.heap) : QV c F mu s (.ok a H) Rl b { s with toks := t } :=
  ⟨a, H, mu, rfl, S, .refl .., h, rfl, rfl⟩
theorem QV.turn {a : α} {b : β} {Rl : α → β → Mu → Heap → Prop} {i : Nat} {l : Loc} {o : Ob} {s' : Shared} (S : St c F mu H s.heap) (e : mu[i]? = some l) (k : ∀ b, b ≠ l.a → b ≠ l.d → s'.heap.get? b = s.heap.get? b)
    (x : OR c.w c.cl c.bs mu s'.heap l o) (h : Rl a b mu s'.heap) (hg : s'.gens = s.gens) (ho : s'.os = s.os) :
    QV c F mu s (.ok a (H.set i o)) Rl b s' := have T := S.turn e k x; ⟨a, _, mu, rfl, T.1, T.2, h, hg, ho⟩
theorem QV.more {a : α} {b : β} {Rl : α → β → Mu → Heap → Prop} {l : Loc} {o : Ob} {s' : Shared} (S : St c F mu H s.heap) (k : s.heap.StaysIn s'.heap)
    (na : s.heap.get? l.a = none) (nd : s.heap.get? l.d = none) (x : OR c.w c.cl c.bs (mu ++ [l]) s'.heap l o) (h : Rl a b (mu ++ [l]) s'.heap) (hg : s'.gens = s.gens) (ho : s'.os = s.os) :
    QV c F mu s (.ok a (H ++ [o])) Rl b s' := have T := S.more k na nd x; ⟨a, _, _, rfl, T.1, T.2, h, hg, ho⟩
end

theorem get_push_fresh (h : Heap) : h.get? h.objs.size = none := by
  cases e : h.get? h.objs.size with
  | none => rfl
  | some o => exact absurd (Heap.lt_size e) (Nat.lt_irrefl _)
theorem stays_push (h : Heap) (o : Obj) : h.StaysIn (h.push o) := fun _ _ e => Heap.get?_push_of_some o e
/-- the frame: its names, their places -/
structure FrR (c : Cf) (F : List Addr) (ns : List String) (env : Env) (g : Gm) (mu : Mu) (h : Heap) : Prop where
  kind : env.scope.kind = .function
  glob : env.globals = mainGlobals
  blt : env.builtins = builtinsNs
  len : g.length = ns.length
  loc : ∃ m, h.Ns env.locals m ∧ ∀ (i : Nat) (n : String) (v : V), ns[i]? = some n → g[i]? = some (some v) → env.kindOf n = some .local → ∃ x, m n = some x ∧ VR c.bs mu h v x
  cel : ∀ (i : Nat) (n : String) (v : V), ns[i]? = some n → g[i]? = some (some v) → env.kindOf n = some .cell ∨ env.kindOf n = some .free → ∃ a x, env.cells.lookup (n : Str) = some a ∧ h.IsCell a (some x) ∧ VR c.bs mu h v x
  out : ¬ Own mu env.locals
  outs : ∀ (n : Str) a, (n, a) ∈ env.cells → ¬ Own mu a ∧ a ∉ F ∧ a ≠ env.locals ∧ c.bs.get? a = none ∧ ∃ v, h.IsCell a v
  inj : env.cells.Pairwise fun x y => x.2 ≠ y.2
  has : ∀ n : Str, env.kindOf n = some .cell → (env.cells.lookup n).isSome = true
  cls : ∃ o, h.get? env.locals = some o
  new : c.bs.get? env.locals = none

theorem Ns.slots {h h' : Heap} {a : Addr} {m : Str → Option Value} (x : h.Ns a m) (k : ∀ o, h.get? a = some o → ∃ sl, h'.get? a = some { o with slots := sl }) : h'.Ns a m := by
  obtain ⟨o, es, ep, h1, h2, h3⟩ := x
  obtain ⟨sl, h1'⟩ := k o h1
  exact ⟨_, es, ep, h1', h2, h3⟩

theorem FrR.go {c : Cf} {F : List Addr} {ns : List String} {env : Env} {g : Gm} {mu mu' : Mu} {h h' : Heap} {H : Hp} (S : St c F mu H h) (G : Go F [] mu h mu' h') (x : FrR c F ns env g mu h) : FrR c F ns env g mu' h' := by
  have notNew : ∀ a o, h.get? a = some o → ¬ Own mu a → ¬ Own mu' a := fun a o e n z => (G.fresh a z).elim n fun q => by rw [e] at q; cases q
  have kc : ∀ a v, ¬ Own mu a → a ∉ F → h.IsCell a v → h'.IsCell a v := fun a v n f ⟨o, e, d⟩ => ⟨o, G.keep a o e n f (fun q => nomatch q), d⟩
  obtain ⟨oL, hL⟩ := x.cls
  have kL : ∀ o, h.get? env.locals = some o → ∃ sl, h'.get? env.locals = some { o with slots := sl } := fun o e => by
    by_cases f : env.locals ∈ F
    · exact G.keepF _ o e f fun q => nomatch q
    · exact ⟨o.slots, G.keep _ o e x.out f fun q => nomatch q⟩
  refine ⟨x.kind, x.glob, x.blt, x.len, ?_, fun i n v e1 e2 e3 => ?_, notNew _ _ hL x.out, fun n a e => ?_, x.inj, x.has, let ⟨_, e⟩ := kL _ hL; ⟨_, e⟩, x.new⟩
  · obtain ⟨m, h1, h2⟩ := x.loc
    refine ⟨m, Ns.slots h1 kL, fun i n v e1 e2 e3 => ?_⟩
    obtain ⟨y, a, b⟩ := h2 i n v e1 e2 e3
    exact ⟨y, a, b.go S G⟩
  · obtain ⟨a, y, h1, h2, h3⟩ := x.cel i n v e1 e2 e3
    obtain ⟨o1, o2, _⟩ := x.outs _ a (PySem.mem_of_lookup h1)
    exact ⟨a, y, h1, kc _ _ o1 o2 h2, h3.go S G⟩
  · obtain ⟨o1, o2, o3, o4, v, o, e1, e2⟩ := x.outs n a e
    exact ⟨notNew _ _ e1 o1, o2, o3, o4, v, kc _ _ o1 o2 ⟨o, e1, e2⟩⟩

section
variable {M : Model} {c : Cf} {F : List Addr} {L : Addr} {A : Around} {mu : Mu} {s : Shared} {H : Hp} {ns : List String} {env : Env} {g : Gm}

/-- a name of the frame -/
theorem snd_var {i : Nat} {n : String} {v : V} {x : Str} {pos : Pos} (S : St c F mu H s.heap) (R : FrR c F ns env g mu s.heap) (e1 : ns[i]? = some n) (e2 : g[i]? = some (some v)) (hx : Str.ofString n = x)
    (hk : env.kindOf x = some .local ∨ env.kindOf x = some .cell ∨ env.kindOf x = some .free) (hd : (x == ("__debug__" : Str)) = false) (hcd : (x == ("__classdict__" : Str)) = false) :
    Snd M c F L A mu s (eval (.Name x pos) env) (.ok v H) (VRl c) := by
  subst hx
  intro _
  refine wpAny_Name ?_ hd
  rcases hk with hk | hk
  · obtain ⟨m, h1, h2⟩ := R.loc
    obtain ⟨y, a, b⟩ := h2 i n v e1 e2 hk
    exact wpAny_loadName_local R.kind hk h1 a (QV.same (t := s.toks) S b)
  · obtain ⟨a, y, h1, h2, h3⟩ := R.cel i n v e1 e2 hk
    rcases hk with hk | hk
    · exact wpAny_loadName_cell R.kind hk h1 h2 (QV.same (t := s.toks) S h3)
    · exact wpAny_loadName_free R.kind hk h1 h2 (QV.same (t := s.toks) S h3) hcd

theorem snd_int {i : Int} {k pos} (S : St c F mu H s.heap) : Snd M c F L A mu s (eval (.Constant (.int i) k pos) env) (.ok (.int i) H) (VRl c) := fun _ => wpAny_Constant_int (QV.same S ⟨_, rfl⟩)
theorem snd_bool {i : Bool} {k pos} (S : St c F mu H s.heap) : Snd M c F L A mu s (eval (.Constant (.bool i) k pos) env) (.ok (.bool i) H) (VRl c) := fun _ => wpAny_Constant_bool (QV.same (t := s.toks) S rfl)
theorem snd_none {k pos} (S : St c F mu H s.heap) : Snd M c F L A mu s (eval (.Constant .none k pos) env) (.ok .none H) (VRl c) := fun _ => wpAny_Constant_none (QV.same (t := s.toks) S rfl)
end

end Mine
end

section
/-! + - * // % ** -/
namespace Mine
open PySem PyProof.Rows

noncomputable def BO.op : BO → Operator
  | .add => .Add | .sub => .Sub | .mul => .Mult | .fdiv => .FloorDiv | .mod => .Mod | .pow => .Pow

theorem bits_eq (i : Int) : bitsOf i = Builtin.Int.intBits i := by
  unfold bitsOf Builtin.Int.intBits
  by_cases h : i = 0
  · subst h; rfl
  · rw [if_neg (by omega), if_neg (by simpa using h)]

theorem pow_room {a n : Int} (h0 : 0 ≤ n) (h1 : n ≤ 100) (h2 : a.natAbs < 1000) : (Builtin.Int.intBits a : Int) * n ≤ 2 ^ 27 := by
  have hb : Builtin.Int.intBits a ≤ 10 := by
    unfold Builtin.Int.intBits
    split
    · omega
    · rename_i h
      have : a.natAbs.log2 < 10 := (Nat.log2_lt (by simp at h; omega)).mpr (by omega)
      omega
  have hb' : (Builtin.Int.intBits a : Int) ≤ 10 := by omega
  have : (Builtin.Int.intBits a : Int) * n ≤ 10 * 100 := Int.mul_le_mul hb' h1 h0 (by omega)
  omega

theorem foldl_reps (a : List Nat) : ∀ (k : Nat) (acc : Array Nat), ((List.replicate k a.toArray).foldl (· ++ ·) acc).toList = acc.toList ++ (List.replicate k a).flatten
  | 0, acc => by simp
  | k + 1, acc => by rw [List.replicate_succ, List.foldl_cons, foldl_reps a k, List.replicate_succ, List.flatten_cons]; simp
theorem txt_mul {a : List Nat} {n : Int} (h0 : 0 ≤ n) : Txt.mul ⟨a.toArray⟩ n = ⟨((List.replicate n.toNat a).flatten).toArray⟩ := by
  unfold Txt.mul
  by_cases h1 : n < 1
  · have : n = 0 := by omega
    subst this; rw [if_pos h1]; rfl
  · rw [if_neg h1]
    by_cases h2 : n = 1
    · subst h2; rw [if_pos (by simp)]; simp
    · by_cases h3 : a = []
      · subst h3
        have : ∀ k : Nat, (List.replicate k ([] : List Nat)).flatten = [] := fun k => by simp
        rw [if_pos (by simp [Str.length]), this]
      · rw [if_neg (by simpa [Str.length, h2] using h3)]
        congr 1
        rw [← Array.toList_inj, foldl_reps]; simp
theorem str_mul_ok {a : List Nat} {n : Int} (h0 : 0 ≤ n) (h1 : n ≤ 100) (h2 : a.length ≤ 100) : MulOk ⟨a.toArray⟩ n := by
  have hl : (⟨a.toArray⟩ : Str).length = a.length := by simp [Str.length]
  refine ⟨?_, fun _ _ => ?_, fun _ _ => ?_⟩
  · rw [decide_eq_false (by omega), decide_eq_false (by omega)]; rfl
  · rw [hl]
    have h3 : (2 ^ 63 - 1) / n ≥ 100 := by
      by_cases h4 : n = 0
      · omega
      · exact (Int.le_ediv_iff_mul_le (by omega)).mpr (by omega)
    omega
  · rw [hl]
    have : a.length * n.toNat ≤ 100 * 100 := Nat.mul_le_mul h2 (by omega)
    unfold Builtin.Str.tooLong
    exact decide_eq_false (by have := sizeLine_eq; omega)

theorem mul_len {b : Int} {n : Nat} (h1 : b ≤ 100) (h2 : n ≤ 100) : b.toNat * n ≤ mostLen :=
  Nat.le_trans (Nat.mul_le_mul (show b.toNat ≤ 100 by omega) h2) (by decide)
theorem mostLen_eq : mostLen = sizeLine := by decide

section
variable {prog : Program} {c : Cf} {F : List Addr} {L : Addr} {A : Around} {mu : Mu} {s : Shared} {H : Hp}

theorem St.listAt (S : St c F mu H s.heap) {r : Nat} {l : List V} {x : Value} (e : H[r]? = some (.list l)) (v : VR c.bs mu s.heap (.ref r) x) :
    ∃ q n items, x = .ref q.a ∧ mu[r]? = some q ∧ q.d = q.a ∧ s.heap.get? q.a = some { cls := .type "list", data := .seq items n } ∧ VRs c.bs mu s.heap l items.toList ∧ l.length ≤ mostLen := by
  simp only [VR] at v
  obtain ⟨q, h1, h2⟩ := v
  obtain ⟨h3, n, items, h4, h5, h6⟩ := S.objs r q _ h1 e
  exact ⟨q, n, items, h2, h1, h3, h4, h5, h6⟩

theorem VRs.size {bs : Heap} {mu : Mu} {h : Heap} {l : List V} {a : Array Value} (x : VRs bs mu h l a.toList) : a.size = l.length := by rw [← x.length]; simp

/-- a new list -/
theorem QV.newList {vs : List V} {cs : Array Value} (S : St c F mu H s.heap) (v : VRs c.bs mu s.heap vs cs.toList) (hz : vs.length ≤ mostLen) (n : Nat) :
    QV c F mu s (alloc (.list vs) H) (VRl c) (.ref s.heap.objs.size) { s with heap := s.heap.push { cls := .type "list", data := .seq cs n } } := by
  refine QV.more (l := ⟨s.heap.objs.size, s.heap.objs.size⟩) S (stays_push _ _) (get_push_fresh _) (get_push_fresh _) ⟨rfl, n, cs, Heap.get?_push_size _ rfl, v.mono (fun b o e _ => Heap.get?_push_of_some _ e) (fun i m e => ?_), hz⟩ ⟨⟨s.heap.objs.size, s.heap.objs.size⟩, ?_, rfl⟩ rfl rfl
  · rw [List.getElem?_append_left (List.getElem?_eq_some_iff.mp e).1]; exact e
  · rw [← S.len, List.getElem?_append_right (Nat.le_refl _), Nat.sub_self]; rfl

theorem binop_snd {op : BO} {a b : V} {x y : Value} (S : St c F mu H s.heap) (va : VR c.bs mu s.heap a x) (vb : VR c.bs mu s.heap b y) :
    Snd (model prog c.w) c F L A mu s (binaryOp op.op x y) (binop op a b H) (VRl c) := by
  unfold binop
  split
  · obtain ⟨t, rfl⟩ := va; obtain ⟨u, rfl⟩ := vb
    exact fun _ => PyProof.Rows.add_int (QV.same S ⟨_, rfl⟩)
  · obtain ⟨t, rfl⟩ := va; obtain ⟨u, rfl⟩ := vb
    exact fun _ => PyProof.Rows.sub_int (QV.same S ⟨_, rfl⟩)
  · obtain ⟨t, rfl⟩ := va; obtain ⟨u, rfl⟩ := vb
    split
    · rename_i h
      rw [bits_eq, bits_eq] at h
      exact fun _ => PyProof.Rows.mul_int (QV.same S ⟨_, rfl⟩) (IntMulOk.of_bits h.1 h.2)
    · exact fun h => absurd rfl h
  · obtain ⟨t, rfl⟩ := va; obtain ⟨u, rfl⟩ := vb
    split
    · exact fun h => absurd rfl h
    · rename_i h
      exact fun _ => PyProof.Rows.floordiv_int (fun q => h (.inl q)) (QV.same S ⟨_, rfl⟩) (.inl (PyProof.noPylong_small (by omega)))
  · obtain ⟨t, rfl⟩ := va; obtain ⟨u, rfl⟩ := vb
    split
    · exact fun h => absurd rfl h
    · rename_i h
      exact fun _ => PyProof.Rows.mod_int' h (QV.same S ⟨_, rfl⟩)
  · obtain ⟨t, rfl⟩ := va; obtain ⟨u, rfl⟩ := vb
    split
    · rename_i h
      exact fun _ => PyProof.Rows.pow_int h.1 (pow_room h.1 h.2.1 h.2.2) (QV.same S ⟨_, rfl⟩)
    · exact fun h => absurd rfl h
  · obtain ⟨t, rfl, o1⟩ := va; obtain ⟨u, rfl, o2⟩ := vb
    split
    · rename_i h
      refine fun _ => PyProof.Rows.add_str (fun t' tk => QV.same S ⟨t', ?_, by rw [List.length_append]; exact h, fun x hx => (List.mem_append.mp hx).elim (o1.2 x) (o2.2 x)⟩) ?_
      · show Value.str ⟨_ ++ _⟩ _ = _
        rw [List.append_toArray]
      · simpa [Str.length, ← mostLen_eq] using h
    · exact fun h => absurd rfl h
  · obtain ⟨t, rfl, o1⟩ := va; obtain ⟨u, rfl⟩ := vb
    split
    · rename_i h
      refine fun _ => SB.mul (str_mul_ok h.1 h.2.1 h.2.2) fun t' k => QV.same S ⟨t', ?_, ?_, fun x hx => ?_⟩
      · rw [txt_mul h.1]
      · rw [List.length_flatten, List.map_replicate, List.sum_replicate_nat]
        exact mul_len h.2.1 h.2.2
      · obtain ⟨l, h1, h2⟩ := List.mem_flatten.mp hx
        rw [(List.mem_replicate.mp h1).2] at h2; exact o1.2 x h2
    · exact fun h => absurd rfl h
  · split
    · rename_i p q xs ys h1 h2
      obtain ⟨l1, n1, i1, rfl, _, _, e1, v1, _⟩ := S.listAt h1 va
      obtain ⟨l2, n2, i2, rfl, _, _, e2, v2, _⟩ := S.listAt h2 vb
      split
      · rename_i h
        refine fun _ => P.add_list e1 e2 (QV.newList S ?_ (by rw [List.length_append]; exact h) 0) ?_
        · rw [Array.toList_append]; exact v1.append v2
        · rw [v1.size, v2.size, ← mostLen_eq]; exact h
      · exact fun h => absurd rfl h
    · exact fun h => absurd rfl h
  · exact fun h => absurd rfl h
end
end Mine
end

section
/-! == != in over data; < <= > >= -/
namespace Mine
open PySem PyProof.Rows

mutual
noncomputable def toPy : D → PyData
  | .none => .none
  | .bool b => .bool b
  | .int i => .int i
  | .str s => .str ⟨s.toArray⟩
  | .list l => .list (toPys l)
  | .tup l => .tuple (toPys l)
noncomputable def toPys : List D → List PyData
  | [] => []
  | d :: r => toPy d :: toPys r
end

mutual
theorem eqv_py : ∀ a b : D, D.eqv a b = PyData.eqv (toPy a) (toPy b)
  | .none, b => by cases b <;> simp [D.eqv, toPy, PyData.eqv]
  | .bool _, b => by cases b <;> simp [D.eqv, toPy, PyData.eqv]
  | .int _, b => by cases b <;> simp [D.eqv, toPy, PyData.eqv]
  | .str x, b => by
    cases b with
    | str y =>
      simp only [D.eqv, toPy, PyData.eqv]
      rw [Bool.eq_iff_iff]; simp
    | _ => simp [D.eqv, toPy, PyData.eqv]
  | .list l, b => by
    cases b with
    | list m => simp only [D.eqv, toPy, PyData.eqv]; exact eqvs_py l m
    | _ => simp [D.eqv, toPy, PyData.eqv]
  | .tup l, b => by
    cases b with
    | tup m => simp only [D.eqv, toPy, PyData.eqv]; exact eqvs_py l m
    | _ => simp [D.eqv, toPy, PyData.eqv]
theorem eqvs_py : ∀ a b : List D, D.eqvs a b = PyData.eqvAll (toPys a) (toPys b)
  | [], [] => by simp [D.eqvs, toPys, PyData.eqvAll]
  | [], _ :: _ => by simp [D.eqvs, toPys, PyData.eqvAll]
  | _ :: _, [] => by simp [D.eqvs, toPys, PyData.eqvAll]
  | a :: r, b :: s => by simp only [D.eqvs, toPys, PyData.eqvAll]; rw [eqv_py a b, eqvs_py r s]
end

theorem any_py (d : D) : ∀ l : List D, (l.any fun y => D.eqv y d) = (toPys l).any fun y => PyData.eqv y (toPy d)
  | [] => rfl
  | a :: r => by rw [List.any_cons, toPys, List.any_cons, eqv_py, any_py d r]

theorem mapO_some {α β : Type} {f : α → Option β} : ∀ {l : List α} {m : List β}, mapO f l = some m → (l = [] ∧ m = []) ∨ ∃ a r b t, l = a :: r ∧ m = b :: t ∧ f a = some b ∧ mapO f r = some t
  | [], m, e => by simp [mapO] at e; exact .inl ⟨rfl, e⟩
  | a :: r, m, e => by
    unfold mapO at e
    split at e
    · rename_i b t h1 h2
      cases e
      exact .inr ⟨a, r, b, t, rfl, rfl, h1, h2⟩
    · cases e

section
variable {c : Cf} {F : List Addr} {mu : Mu} {h : Heap} {H : Hp}

theorem reads_data (S : St c F mu H h) : ∀ (n : Nat) {v : V} {d : D} {x : Value}, data n H v = some d → VR c.bs mu h v x → ∃ as, Reads h x (toPy d) as ∧ (toPy d).canLay0 = true ∧ (toPy d).depth ≤ n
  | 0, _, _, _, e, _ => by simp [data] at e
  | n + 1, v, d, x, e, r => by
    have all : ∀ {l : List V} {ds : List D} {xs : List Value}, mapO (data n H) l = some ds → VRs c.bs mu h l xs → ∃ as, ReadsAll h xs (toPys ds) as ∧ PyData.canLayAll0 (toPys ds) = true ∧ PyData.depthAll (toPys ds) ≤ n := by
      intro l
      induction l with
      | nil =>
        intro ds xs e r
        simp only [mapO, Option.some.injEq] at e; subst e
        simp only [VRs] at r; subst r
        exact ⟨[], .nil, by simp [toPys, PyData.canLayAll0], by simp [toPys, PyData.depthAll]⟩
      | cons v l ih =>
        intro ds xs e r
        rcases mapO_some e with ⟨q, _⟩ | ⟨_, _, b, t, q, rfl, h1, h2⟩
        · cases q
        · cases q
          simp only [VRs] at r
          obtain ⟨y, ys, rfl, r1, r2⟩ := r
          obtain ⟨as, a1, a2, a3⟩ := reads_data S n h1 r1
          obtain ⟨bs, b1, b2, b3⟩ := ih h2 r2
          refine ⟨as ++ bs, .cons a1 b1, ?_, ?_⟩
          · simp only [toPys, PyData.canLayAll0, Bool.and_eq_true]; exact ⟨a2, b2⟩
          · simp only [toPys, PyData.depthAll]; omega
    cases v with
    | none => simp only [data, Option.some.injEq] at e; subst e; simp only [VR] at r; subst r; exact ⟨[], .none, by simp [toPy, PyData.canLay0], by simp [toPy, PyData.depth]⟩
    | bool b => simp only [data, Option.some.injEq] at e; subst e; simp only [VR] at r; subst r; exact ⟨[], .bool b, by simp [toPy, PyData.canLay0], by simp [toPy, PyData.depth]⟩
    | int i => simp only [data, Option.some.injEq] at e; subst e; simp only [VR] at r; obtain ⟨t, rfl⟩ := r; exact ⟨[], .int i t, by simp [toPy, PyData.canLay0], by simp [toPy, PyData.depth]⟩
    | str s =>
      simp only [data, Option.some.injEq] at e; subst e; simp only [VR] at r; obtain ⟨t, rfl, ho⟩ := r
      refine ⟨[], .str _ t, ?_, by simp [toPy, PyData.depth]⟩
      simp only [toPy, PyData.canLay0, PyData.strOk, List.all_toArray, List.all_eq_true, decide_eq_true_eq]
      exact ho.2
    | tup l =>
      simp only [data, Option.map_eq_some_iff] at e
      obtain ⟨ds, e, rfl⟩ := e
      simp only [VR] at r
      obtain ⟨a, o, k, vs, rfl, h1, h2, h3, h4, _⟩ := r
      obtain ⟨as, a1, a2, a3⟩ := all e h4
      refine ⟨as, .tuple h1 h2 h3 a1, by simp only [toPy, PyData.canLay0]; exact a2, by simp only [toPy, PyData.depth]; omega⟩
    | ref i =>
      simp only [data] at e
      split at e
      · rename_i l hl
        simp only [Option.map_eq_some_iff] at e
        obtain ⟨ds, e, rfl⟩ := e
        simp only [VR] at r
        obtain ⟨q, h1, rfl⟩ := r
        obtain ⟨_, k, items, h4, h5, _⟩ := S.objs i q _ h1 hl
        obtain ⟨as, a1, a2, a3⟩ := all e h5
        refine ⟨q.a :: as, .list h4 rfl rfl a1, by simp only [toPy, PyData.canLay0]; exact a2, by simp only [toPy, PyData.depth]; omega⟩
      · cases e
    | rng _ _ _ => simp [data] at e
    | fz _ => simp [data] at e
end

noncomputable def CO.op : CO → CmpOp
  | .eq => .Eq | .ne => .NotEq | .lt => .Lt | .le => .LtE | .gt => .Gt | .ge => .GtE | .isin => .In | .notin => .NotIn | .is => .Is | .isnot => .IsNot

section
variable {prog : Program} {c : Cf} {F : List Addr} {L : Addr} {A : Around} {mu : Mu} {s : Shared} {H : Hp} {E : Value → Shared → Prop} {Q : Value → Shared → Prop}

theorem eq_data {a b : V} {x y : Value} {d e : D} (S : St c F mu H s.heap) (va : VR c.bs mu s.heap a x) (vb : VR c.bs mu s.heap b y) (ea : data deep H a = some d) (eb : data deep H b = some e) (hu : A.units + deep < cLine)
    (h : Q (.bool (D.eqv d e)) s) : wpAny (model prog c.w) A (compareOp .Eq x y) Q E s := by
  obtain ⟨as, a1, a2, a3⟩ := reads_data S deep ea va
  obtain ⟨bs, b1, b2, b3⟩ := reads_data S deep eb vb
  exact SeqAt.compareEq_reads a1 b1 a2 b2 (by omega) (by rw [← eqv_py]; exact h)
theorem ne_data {a b : V} {x y : Value} {d e : D} (S : St c F mu H s.heap) (va : VR c.bs mu s.heap a x) (vb : VR c.bs mu s.heap b y) (ea : data deep H a = some d) (eb : data deep H b = some e) (hu : A.units + deep < cLine)
    (h : Q (.bool (!D.eqv d e)) s) : wpAny (model prog c.w) A (compareOp .NotEq x y) Q E s := by
  obtain ⟨as, a1, a2, a3⟩ := reads_data S deep ea va
  obtain ⟨bs, b1, b2, b3⟩ := reads_data S deep eb vb
  exact SeqAt.compareNe_reads a1 b1 a2 b2 (by omega) (by rw [← eqv_py]; exact h)
theorem in_data {a b : V} {x y : Value} {d : D} {ds : List D} (S : St c F mu H s.heap) (va : VR c.bs mu s.heap a x) (vb : VR c.bs mu s.heap b y) (ea : data deep H a = some d) (eb : data deep H b = some (.list ds)) (hu : A.units + 1 + deep < cLine)
    (h : Q (.bool (ds.any fun z => D.eqv z d)) s) : wpAny (model prog c.w) A (compareOp .In x y) Q E s := by
  obtain ⟨as, a1, a2, a3⟩ := reads_data S deep ea va
  obtain ⟨bs, b1, b2, b3⟩ := reads_data S deep eb vb
  simp only [toPy] at b1
  exact SeqAt.in_list_reads b1 a1 (by simpa only [toPy, PyData.canLay0] using b2) a2 (by omega) (by rw [← any_py]; exact h)
theorem notin_data {a b : V} {x y : Value} {d : D} {ds : List D} (S : St c F mu H s.heap) (va : VR c.bs mu s.heap a x) (vb : VR c.bs mu s.heap b y) (ea : data deep H a = some d) (eb : data deep H b = some (.list ds)) (hu : A.units + 1 + deep < cLine)
    (h : Q (.bool (!ds.any fun z => D.eqv z d)) s) : wpAny (model prog c.w) A (compareOp .NotIn x y) Q E s := by
  obtain ⟨as, a1, a2, a3⟩ := reads_data S deep ea va
  obtain ⟨bs, b1, b2, b3⟩ := reads_data S deep eb vb
  simp only [toPy] at b1
  exact SeqAt.notIn_list_reads b1 a1 (by simpa only [toPy, PyData.canLay0] using b2) a2 (by omega) (by rw [← any_py]; exact h)
end
end Mine
end

section
/-! dicts whose keys are strs, ints, tuples of ints -/
namespace Mine
open PySem PyProof.Rows

theorem intsEq_eq : ∀ {a b : List V}, intsEq a b = true → a = b
  | [], [], _ => rfl
  | [], _ :: _, h => by simp [intsEq] at h
  | a :: _, [], h => by cases a <;> simp [intsEq] at h
  | a :: r, b :: s, h => by
    cases a <;> cases b <;> simp [intsEq] at h
    obtain ⟨h1, h2⟩ := h
    rw [h1, intsEq_eq h2]
theorem keyEq_eq {a b : V} (h : keyEq a b = true) : a = b := by
  cases a <;> cases b <;> simp [keyEq] at h
  · rw [h]
  · rw [h]
  · rw [intsEq_eq h]
theorem intsEq_refl : ∀ {a : List V}, a.all isInt = true → intsEq a a = true
  | [], _ => rfl
  | a :: r, h => by
    simp only [List.all_cons, Bool.and_eq_true] at h
    obtain ⟨ha, h⟩ := h
    cases a <;> simp [isInt] at ha
    simp only [intsEq, beq_self_eq_true, Bool.true_and]
    exact intsEq_refl h
theorem keyEq_refl {a : V} (h : isKey a = true) : keyEq a a = true := by
  cases a <;> simp [isKey] at h <;> simp [keyEq]
  exact intsEq_refl (by simpa using h)

theorem key_data {H : Hp} {k : V} (h : isKey k = true) : ∃ d, data deep H k = some d ∧ ∀ l e, isKey l = true → data deep H l = some e → D.eqv d e = keyEq k l := by
  have intz : ∀ l : List V, l.all isInt = true → ∃ is : List Int, l = is.map .int := by
    intro l
    induction l with
    | nil => exact fun _ => ⟨[], rfl⟩
    | cons a r ih =>
      intro h
      simp only [List.all_cons, Bool.and_eq_true] at h
      obtain ⟨ha, h⟩ := h
      cases a <;> simp [isInt] at ha
      obtain ⟨is, e⟩ := ih h
      exact ⟨_ :: is, by rw [e]; rfl⟩
  have mp : ∀ is : List Int, mapO (data 7 H) (is.map .int) = some (is.map .int) := by
    intro is
    induction is with
    | nil => rfl
    | cons a r ih => simp [mapO, data, ih]
  have eqs : ∀ is js : List Int, D.eqvs (is.map .int) (js.map .int) = intsEq (is.map .int) (js.map .int) := by
    intro is
    induction is with
    | nil => intro js; cases js <;> simp [D.eqvs, intsEq]
    | cons a r ih => intro js; cases js <;> simp [D.eqvs, intsEq, D.eqv, ih]
  cases k <;> simp [isKey] at h
  case int i =>
    refine ⟨.int i, rfl, fun l e hl he => ?_⟩
    cases l <;> simp [isKey] at hl
    case int j => simp [data, deep] at he; subst he; simp [D.eqv, keyEq]
    case str j => simp [data, deep] at he; subst he; simp [D.eqv, keyEq]
    case tup j => simp [data, deep] at he; obtain ⟨_, _, rfl⟩ := he; simp [D.eqv, keyEq]
  case str i =>
    refine ⟨.str i, rfl, fun l e hl he => ?_⟩
    cases l <;> simp [isKey] at hl
    case int j => simp [data, deep] at he; subst he; simp [D.eqv, keyEq]
    case str j => simp [data, deep] at he; subst he; simp [D.eqv, keyEq]
    case tup j => simp [data, deep] at he; obtain ⟨_, _, rfl⟩ := he; simp [D.eqv, keyEq]
  case tup i =>
    obtain ⟨is, rfl⟩ := intz i (by simpa using h)
    refine ⟨.tup (is.map .int), by simp only [deep, data, mp]; rfl, fun l e hl he => ?_⟩
    cases l <;> simp [isKey] at hl
    case int j => simp [data, deep] at he; subst he; simp [D.eqv, keyEq]
    case str j => simp [data, deep] at he; subst he; simp [D.eqv, keyEq]
    case tup j =>
      obtain ⟨js, rfl⟩ := intz j (by simpa using hl)
      simp only [deep, data, mp, Option.map_some, Option.some.injEq] at he
      subst he
      simp only [D.eqv, keyEq]
      exact eqs is js

section
variable {prog : Program} {c : Cf} {F : List Addr} {L : Addr} {A : Around} {mu : Mu} {s : Shared} {H : Hp} {E : Value → Shared → Prop}

theorem key_eqAt {k l : V} {x y : Value} (S : St c F mu H s.heap) (hk : isKey k = true) (hl : isKey l = true) (vk : VR c.bs mu s.heap k x) (vl : VR c.bs mu s.heap l y) (hu : A.units + deep < cLine) : SeqAt.EqAt A s x y (keyEq k l) := by
  obtain ⟨d, hd, q⟩ := key_data (H := H) hk
  obtain ⟨e, he, _⟩ := key_data (H := H) hl
  obtain ⟨as, a1, a2, a3⟩ := reads_data S deep hd vk
  obtain ⟨bs, b1, b2, b3⟩ := reads_data S deep he vl
  rw [← q l e hl he, eqv_py]
  exact SeqAt.eqAt_reads _ _ A s x y as bs a1 b1 a2 b2 (by omega)

theorem vrs_ints {bs : Heap} {h : Heap} : ∀ {l : List V} {xs : List Value}, l.all isInt = true → VRs bs mu h l xs → ∃ is : List Int, l = is.map .int ∧ ItemsAre (intKind prog c.w) is xs
  | [], _, _, r => by simp only [VRs] at r; subst r; exact ⟨[], rfl, .nil⟩
  | v :: l, _, hl, r => by
    simp only [VRs] at r
    obtain ⟨x, xs, rfl, r1, r2⟩ := r
    simp only [List.all_cons, Bool.and_eq_true] at hl
    obtain ⟨hv, hl⟩ := hl
    cases v <;> simp [isInt] at hv
    obtain ⟨t, rfl⟩ := r1
    obtain ⟨is, e, q⟩ := vrs_ints (l := l) hl r2
    exact ⟨_ :: is, by rw [e]; rfl, .cons (by simp [intKind, Value.isInt]) q⟩

theorem key_tuple {l : List V} {x : Value} (hk : isKey (.tup l) = true) (vk : VR c.bs mu s.heap (.tup l) x) : ∃ a is, x = .ref a ∧ l = is.map .int ∧ IsTupleKey (intKind prog c.w) s.heap is a := by
  simp only [VR] at vk
  obtain ⟨a, o, n, vs, rfl, h1, h2, h3, h4, _⟩ := vk
  obtain ⟨is, e, q⟩ := vrs_ints (prog := prog) (c := c) (by simpa [isKey] using hk) h4
  exact ⟨a, is, rfl, e, o, vs, n, h1, h2, h3, q⟩

theorem key_hash {k : V} {x : Value} {Q : Int → Shared → Prop} (hk : isKey k = true) (vk : VR c.bs mu s.heap k x) (hu : A.units < cLine) (h : ∀ t, Q (khash c.w k) { s with toks := t }) : wpAny (model prog c.w) A (pyHash x) Q E s := by
  cases k <;> simp [isKey] at hk
  · obtain ⟨t, rfl⟩ := vk
    exact wpAny_pyHash_int (h _)
  · obtain ⟨t, rfl, _⟩ := vk
    exact wpAny_pyHash_str (h _)
  · obtain ⟨a, is, rfl, rfl, q⟩ := key_tuple (prog := prog) (by simpa [isKey] using hk) vk
    refine wpAny_pyHash_tuple hu q ?_
    have : tupleKeyHash (intKind prog c.w) is = khash c.w (.tup (is.map .int)) := by
      simp only [tupleKeyHash, khash, List.map_map]; rfl
    rw [this]; exact h _

theorem key_quiet {k : V} {x : Value} {Q : Bool → Shared → Prop} (hk : isKey k = true) (vk : VR c.bs mu s.heap k x) (h : Q true s) : wpAny (model prog c.w) A (eqIsQuiet 8 x) Q E s := by
  cases k <;> simp [isKey] at hk
  · obtain ⟨t, rfl⟩ := vk
    rw [eqIsQuiet_byValue 8 rfl]; exact wpAny_pure h
  · obtain ⟨t, rfl, _⟩ := vk
    rw [eqIsQuiet_byValue 8 rfl]; exact wpAny_pure h
  · obtain ⟨a, is, rfl, rfl, q⟩ := key_tuple (prog := prog) (by simpa [isKey] using hk) vk
    exact wpAny_eqIsQuiet_tuple q h

theorem key_one (prog : Program) {k l : V} {x : Value} (_ : St c F mu H s.heap) (hk : isKey k = true) (hl : isKey l = true) (vk : VR c.bs mu s.heap k x) (vl : VR c.bs mu s.heap l x) : k = l := by
  cases k <;> simp [isKey] at hk <;> cases l <;> simp [isKey] at hl
  · obtain ⟨t, rfl⟩ := vk; obtain ⟨u, e⟩ := vl; cases e; rfl
  · obtain ⟨t, rfl⟩ := vk; obtain ⟨u, e, _⟩ := vl; cases e
  · obtain ⟨t, rfl⟩ := vk; obtain ⟨u, is, e, _⟩ := key_tuple (prog := prog) (by simpa [isKey] using hl) vl; cases e
  · obtain ⟨t, rfl, _⟩ := vk; obtain ⟨u, e⟩ := vl; cases e
  · obtain ⟨t, rfl, _⟩ := vk; obtain ⟨u, e, _⟩ := vl; simp at e; simp [e.1]
  · obtain ⟨t, rfl, _⟩ := vk; obtain ⟨u, is, e, _⟩ := key_tuple (prog := prog) (by simpa [isKey] using hl) vl; cases e
  · obtain ⟨a, is, rfl, _⟩ := key_tuple (prog := prog) (by simpa [isKey] using hk) vk; obtain ⟨u, e⟩ := vl; cases e
  · obtain ⟨a, is, rfl, _⟩ := key_tuple (prog := prog) (by simpa [isKey] using hk) vk; obtain ⟨u, e, _⟩ := vl; cases e
  · obtain ⟨a, is, rfl, rfl, q⟩ := key_tuple (prog := prog) (by simpa [isKey] using hk) vk
    obtain ⟨b, js, e, rfl, q'⟩ := key_tuple (prog := prog) (by simpa [isKey] using hl) vl
    cases e
    rw [q.inj q']

/-- the place of a key -/
noncomputable def dIdx (es : List (V × V)) (k : V) : Option Nat := es.findIdx? fun p => keyEq p.1 k
noncomputable def Hit (es : List (V × V)) (k : V) (j : Nat) : Prop := ∃ v, es[j]? = some (k, v)

theorem Hit.one {es : List (V × V)} {k : V} (hk : isKey k = true) (hp : es.Pairwise fun x y => keyEq x.1 y.1 = false) {i j : Nat} (x : Hit es k i) (y : Hit es k j) : i = j := by
  obtain ⟨u, e⟩ := x
  obtain ⟨v, f⟩ := y
  have := List.pairwise_iff_getElem.mp hp
  obtain ⟨hi, e'⟩ := List.getElem?_eq_some_iff.mp e
  obtain ⟨hj, f'⟩ := List.getElem?_eq_some_iff.mp f
  rcases Nat.lt_trichotomy i j with q | q | q
  · have z := this i j hi hj q
    rw [e', f'] at z; simp [keyEq_refl hk] at z
  · exact q
  · have z := this j i hj hi q
    rw [e', f'] at z; simp [keyEq_refl hk] at z
theorem dIdx_some {es : List (V × V)} {k : V} (hk : isKey k = true) (hp : es.Pairwise fun x y => keyEq x.1 y.1 = false) {j : Nat} (x : Hit es k j) : dIdx es k = some j := by
  obtain ⟨v, e⟩ := x
  obtain ⟨hj, e'⟩ := List.getElem?_eq_some_iff.mp e
  unfold dIdx
  rw [List.findIdx?_eq_some_iff_getElem]
  refine ⟨hj, by rw [e']; exact keyEq_refl hk, fun i hi => ?_⟩
  have z := List.pairwise_iff_getElem.mp hp i j (by omega) hj hi
  rw [e'] at z; simpa using z
theorem dIdx_none {es : List (V × V)} {k : V} (x : ∀ j, ¬ Hit es k j) : dIdx es k = none := by
  unfold dIdx
  rw [List.findIdx?_eq_none_iff]
  intro p hp
  obtain ⟨j, hj⟩ := List.mem_iff_getElem?.mp hp
  cases q : keyEq p.1 k with
  | false => rfl
  | true => exact absurd ⟨p.2, by rw [hj, ← keyEq_eq q]⟩ (x j)
theorem dGet_idx : ∀ (es : List (V × V)) (k : V), dGet es k = ((dIdx es k).bind fun j => es[j]?).map (·.2)
  | [], _ => rfl
  | (a, v) :: r, k => by
    unfold dGet dIdx
    rw [List.findIdx?_cons]
    cases q : keyEq a k with
    | true => simp
    | false =>
      have ih := dGet_idx r k
      unfold dIdx at ih
      simp only [Bool.false_eq_true, if_false, ih]
      cases List.findIdx? (fun p => keyEq p.1 k) r <;> simp
theorem DRs.get {w : World} {bs : Heap} {h : Heap} : ∀ {es : List (V × V)} {ds : List DictEntry}, DRs w bs mu h es ds → ∀ {j : Nat} {p : V × V}, es[j]? = some p → ∃ e, ds[j]? = some e ∧ e.hash = khash w p.1 ∧ VR bs mu h p.1 e.key ∧ VR bs mu h p.2 e.val
  | [], _, _, _, _, e => by simp at e
  | (k, v) :: r, _, ⟨d, t, h1, h2, h3, h4, h5⟩, 0, p, e => by
    simp only [List.getElem?_cons_zero, Option.some.injEq] at e; subst e
    exact ⟨d, by rw [h1]; rfl, h2, h3, h4⟩
  | (k, v) :: r, _, ⟨d, t, h1, h2, h3, h4, h5⟩, j + 1, p, e => by
    simp only [List.getElem?_cons_succ] at e
    obtain ⟨q, a, b⟩ := DRs.get h5 e
    exact ⟨q, by rw [h1]; simpa using a, b⟩
theorem DRs.length {w : World} {bs : Heap} {h : Heap} : ∀ {es : List (V × V)} {ds : List DictEntry}, DRs w bs mu h es ds → ds.length = es.length
  | [], _, x => by rw [show _ = [] from x]; rfl
  | (_, _) :: _, _, ⟨d, t, h1, _, _, _, h5⟩ => by rw [h1, List.length_cons, List.length_cons, h5.length]

section
variable {es : List (V × V)} {ents : Array DictEntry} {k : V} {x : Value} {d : Addr} {n : Nat} {Q : Option Nat → Shared → Prop}

theorem dictFind_key (S : St c F mu H s.heap) (hu : A.units + deep < cLine) (hk : isKey k = true) (vk : VR c.bs mu s.heap k x) (ho : s.heap.get? d = some ⟨.type "dict", none, .dict ents n, #[]⟩)
    (hks : es.all (fun p => isKey p.1) = true) (hp : es.Pairwise fun x y => keyEq x.1 y.1 = false) (hr : DRs c.w c.bs mu s.heap es ents.toList) (h : Q (dIdx es k) s) :
    wpAny (model prog c.w) A (dictFind d x (khash c.w k)) Q E s := by
  have key : ∀ {j : Nat} {e : DictEntry}, ents[j]? = some e → ∃ p, es[j]? = some p ∧ isKey p.1 = true ∧ e.hash = khash c.w p.1 ∧ VR c.bs mu s.heap p.1 e.key := fun {j e} hj => by
    have hl : j < es.length := by rw [← hr.length]; simpa using (Array.getElem?_eq_some_iff.mp hj).1
    obtain ⟨q, a, b, c', _⟩ := hr.get (List.getElem?_eq_getElem hl)
    rw [Array.getElem?_toList, hj] at a; cases a
    exact ⟨_, List.getElem?_eq_getElem hl, List.all_eq_true.mp hks _ (List.getElem_mem hl), b, c'⟩
  have hit : ∀ {j : Nat}, Hit es k j → ∃ e, ents[j]? = some e ∧ e.hash = khash c.w k ∧ VR c.bs mu s.heap k e.key := fun {j} ⟨v, hv⟩ => by
    obtain ⟨q, a, b, c', _⟩ := hr.get hv
    exact ⟨q, by rw [← Array.getElem?_toList]; exact a, b, c'⟩
  have eqb : ∀ {j : Nat} {e : DictEntry} {p : V × V}, ents[j]? = some e → es[j]? = some p → SeqAt.EqAt A s e.key x (keyEq p.1 k) := fun {j e p} hj hp' => by
    obtain ⟨p', h1, h2, _, h4⟩ := key hj
    rw [hp'] at h1; cases h1
    exact key_eqAt S h2 hk h4 vk hu
  have epoch : ∀ {A' : Around} {Q' : Nat → Shared → Prop}, Q' n s → wpAny (model prog c.w) A' (dictEpoch d (keyPart x)) Q' E s := fun q => wpAny_dictEpoch ho rfl q
  have inPlaces : ∀ {j : Nat}, Hit es k j → j ∈ placesWithHash ents.size (fun i => ents[i]?.map (·.hash)) (khash c.w k) := fun {j} hj => by
    obtain ⟨e, h1, h2, _⟩ := hit hj
    unfold placesWithHash
    rw [List.mem_filter, List.mem_range]
    exact ⟨(Array.getElem?_eq_some_iff.mp h1).1, by dsimp only; rw [h1]; simp [h2]⟩
  have places : ∀ j ∈ placesWithHash ents.size (fun i => ents[i]?.map (·.hash)) (khash c.w k), ∃ e p, ents[j]? = some e ∧ es[j]? = some p ∧ e.hash = khash c.w k ∧ (keyEq p.1 k = true → Hit es k j) := fun j hj => by
    unfold placesWithHash at hj
    rw [List.mem_filter, List.mem_range] at hj
    have e := Array.getElem?_eq_getElem hj.1
    obtain ⟨p, h1, h2, h3, h4⟩ := key e
    refine ⟨_, p, e, h1, ?_, fun q => ⟨p.2, by rw [h1, ← keyEq_eq q]⟩⟩
    have := hj.2; dsimp only at this; rw [e] at this; simpa using this
  have plain : ∀ {Q : Option Nat → Shared → Prop}, Q (dIdx es k) s → wpAny (model prog c.w) A (dictWalkPlain d x (khash c.w k) ents (placesWithHash ents.size (fun i => ents[i]?.map (·.hash)) (khash c.w k))) Q E s := fun {Q} h => by
    unfold dictWalkPlain
    refine wpAny_bind ?_
    refine wpAny_forIn_list _ (fun rest r s' => r = (none, PUnit.unit) ∧ s' = s ∧ (∀ j, Hit es k j → j ∈ rest) ∧ ∀ j ∈ rest, j ∈ placesWithHash ents.size (fun i => ents[i]?.map (·.hash)) (khash c.w k)) _ ?_ ?_ _ _ ⟨rfl, rfl, fun j hj => inPlaces hj, fun _ hj => hj⟩
    · rintro j rest r s' ⟨rfl, rfl, h1, h2⟩
      obtain ⟨e, p, e1, e2, e3, e4⟩ := places j (h2 j (.head _))
      rw [e1]
      dsimp only
      rw [if_pos (by simp [e3])]
      refine wpAny_bind (epoch (wpAny_bind (eqb e1 e2 prog c.w E _ (wpAny_bind (epoch ?_)))))
      rw [if_neg (by simp)]
      cases q : keyEq p.1 k with
      | true =>
        simp only [if_true]
        refine wpAny_bind (wpAny_rule ?_)
        rw [dIdx_some hk hp (e4 q)] at h
        exact wpAny_pure (wpAny_pure h)
      | false =>
        simp only [Bool.false_eq_true, if_false]
        refine wpAny_bind (wpAny_rule (wpAny_pure ⟨rfl, rfl, fun i hi => ?_, fun i hi => h2 i (.tail _ hi)⟩))
        rcases List.mem_cons.mp (h1 i hi) with z | z
        · subst z
          obtain ⟨v, hv⟩ := hi
          rw [e2] at hv; cases hv
          rw [keyEq_refl hk] at q; cases q
        · exact z
    · rintro r s' ⟨rfl, rfl, h1, h2⟩
      rw [dIdx_none fun j hj => nomatch h1 j hj] at h
      exact wpAny_pure h
  unfold dictFind
  refine wpAny_holding (wpAny_bind (wpAny_dictEntries ho rfl ?_))
  have shape : (∃ y t, x = .str y t) ∨ (∃ y t, x = .int y t) ∨ ∃ a, x = .ref a := by
    cases k <;> simp [isKey] at hk
    · obtain ⟨t, rfl⟩ := vk; exact .inr (.inl ⟨_, _, rfl⟩)
    · obtain ⟨t, rfl, _⟩ := vk; exact .inl ⟨_, _, rfl⟩
    · obtain ⟨a, is, rfl, _⟩ := key_tuple (prog := prog) (by simpa [isKey] using hk) vk; exact .inr (.inr ⟨_, rfl⟩)
  have quietAll : ∀ v ∈ (placesWithHash ents.size (fun i => ents[i]?.map (·.hash)) (khash c.w k)).filterMap (fun i => ents[i]?.map (·.key)), ∃ l, isKey l = true ∧ VR c.bs mu s.heap l v := fun v hv => by
    obtain ⟨i, _, hi⟩ := List.mem_filterMap.mp hv
    cases hei : ents[i]? with
    | none => rw [hei] at hi; cases hi
    | some e =>
      rw [hei] at hi
      obtain rfl : e.key = v := by simpa using hi
      obtain ⟨p, _, h2, _, h4⟩ := key hei
      exact ⟨p.1, h2, h4⟩
  have tell : ∀ {Q' : Bool → Shared → Prop}, Q' false s → wpAny (model prog c.w) A (tableMayTell x ((placesWithHash ents.size (fun i => ents[i]?.map (·.hash)) (khash c.w k)).filterMap (fun i => ents[i]?.map (·.key)))) Q' E s := fun {Q'} q => by
    unfold tableMayTell
    split
    · exact wpAny_pure q
    · refine wpAny_bind (key_quiet hk vk ?_)
      simp only [Bool.not_true, Bool.false_eq_true, if_false]
      refine wpAny_bind ?_
      refine wpAny_forIn_list _ (fun rest r s' => s' = s ∧ r = (none, ()) ∧ ∀ v ∈ rest, ∃ l, isKey l = true ∧ VR c.bs mu s.heap l v) _ ?_ ?_ _ _ ⟨rfl, rfl, quietAll⟩
      · rintro v rest r s' ⟨rfl, rfl, hr'⟩
        obtain ⟨l, l1, l2⟩ := hr' v List.mem_cons_self
        refine wpAny_bind (key_quiet l1 l2 ?_)
        simp only [Bool.not_true, Bool.false_eq_true, if_false]
        exact wpAny_pure ⟨rfl, rfl, fun v hv => hr' v (List.mem_cons_of_mem _ hv)⟩
      · rintro r s' ⟨rfl, rfl, _⟩
        exact wpAny_pure q
  have unchanged : ¬ (ents.any fun e => e.key == x && e.hash != khash c.w k) = true := by
    rw [← Array.any_toList, List.any_eq_true]
    rintro ⟨e, hin, hc⟩
    obtain ⟨j, hj⟩ := List.mem_iff_getElem?.mp hin
    rw [Array.getElem?_toList] at hj
    obtain ⟨p, h1, h2, h3, h4⟩ := key hj
    simp only [Bool.and_eq_true, beq_iff_eq, bne_iff_ne, ne_eq] at hc
    obtain ⟨hxa, hne⟩ := hc
    rw [hxa] at h4
    exact hne (by rw [h3, key_one prog S h2 hk h4 vk])
  have nodup : (placesWithHash ents.size (fun i => ents[i]?.map (·.hash)) (khash c.w k)).Nodup := by
    unfold placesWithHash; exact List.Nodup.sublist List.filter_sublist List.nodup_range
  have found : ∀ y t, x = .str y t → (ents.all fun e => isExactStrKey e.key) = true → wpAny (model prog c.w) A (foundByValue d (.str y t) ents y) Q E s := by
    rintro y t rfl hc
    have str : ∃ z, k = .str z ∧ y = ⟨z.toArray⟩ := by
      cases k <;> simp [isKey] at hk
      · obtain ⟨t, e⟩ := vk; cases e
      · obtain ⟨t, e, _⟩ := vk; cases e; exact ⟨_, rfl, rfl⟩
      · obtain ⟨t, _, e, _⟩ := key_tuple (prog := prog) (by simpa [isKey] using hk) vk; cases e
    obtain ⟨z, rfl, rfl⟩ := str
    unfold foundByValue
    cases hf : ents.findIdx? fun e => e.key.isStr ⟨z.toArray⟩ with
    | none =>
      dsimp only
      rw [dIdx_none fun j hj => ?_] at h
      · exact wpAny_pure h
      · obtain ⟨e, h1, _, h3⟩ := hit hj
        obtain ⟨t', h3, _⟩ := h3
        have := Array.findIdx?_eq_none_iff.mp hf e (Array.mem_of_getElem? h1)
        rw [h3] at this; simp [Value.isStr] at this
    | some i =>
      obtain ⟨hi, h1, _⟩ := Array.findIdx?_eq_some_iff_getElem.mp hf
      have e1 := Array.getElem?_eq_getElem hi
      obtain ⟨p, p1, p2, p3, p4⟩ := key e1
      have hp1 : p.1 = .str z := by
        cases hq : p.1 with
        | str z' =>
          rw [hq] at p4
          obtain ⟨t', q, _⟩ := p4
          rw [q] at h1
          have : z'.toArray = z.toArray := by simpa [Value.isStr] using h1
          rw [show z' = z by simpa using this]
        | int i' => rw [hq] at p4; obtain ⟨t', q⟩ := p4; rw [q] at h1; cases h1
        | tup l' => rw [hq] at p4 p2; obtain ⟨t', _, q, _⟩ := key_tuple (prog := prog) p2 p4; rw [q] at h1; cases h1
        | _ => rw [hq] at p2; cases p2
      dsimp only
      rw [e1]
      dsimp only
      rw [dIdx_some hk hp ⟨p.2, by rw [p1, ← hp1]⟩] at h
      refine wpAny_bind (epoch (wpAny_bind (eqb e1 p1 prog c.w E _ (wpAny_bind (epoch ?_)))))
      rw [if_neg (by simp), hp1, keyEq_refl hk, if_pos rfl]
      exact wpAny_bind (wpAny_rule (wpAny_pure h))
  rcases shape with ⟨y, t, rfl⟩ | ⟨y, t, rfl⟩ | ⟨a, rfl⟩ <;> dsimp only
  case' inr.inr =>
    rw [if_neg (by simp [carriedByValue]), if_neg unchanged]
    refine wpAny_ite_split (fun _ => wpAny_bind (wpAny_pure ?_)) (fun _ => wpAny_bind (tell ?_))
  case' inr.inl => refine wpAny_ite_split (fun hc => plain h) fun hc => wpAny_ite_split (fun _ => wpAny_bind (wpAny_pure ?_)) (fun _ => wpAny_bind (tell ?_))
  case' inl => refine wpAny_ite_split (fun hc => found _ _ rfl hc) fun hc => wpAny_ite_split (fun hc => plain h) fun hc => wpAny_ite_split (fun _ => wpAny_bind (wpAny_pure ?_)) (fun _ => wpAny_bind (tell ?_))
  all_goals
    rw [if_neg (by simp)]
    refine wpAny_bind ?_
    refine wpAny_forIn_list _ (fun rest b s' => s' = s ∧ ∃ hit, b = (none, hit) ∧ rest.Nodup ∧ (∀ j ∈ rest, j ∈ placesWithHash ents.size (fun i => ents[i]?.map (·.hash)) (khash c.w k)) ∧
      ((hit = none ∧ ∀ j, Hit es k j → j ∈ rest) ∨ ∃ j, hit = some j ∧ Hit es k j ∧ j ∉ rest)) _ ?_ ?_ _ _ ⟨rfl, none, rfl, nodup, fun _ z => z, .inl ⟨rfl, fun j hj => inPlaces hj⟩⟩
    · rintro j rest b s' ⟨rfl, hit, rfl, h1, h2, h3⟩
      obtain ⟨e, p, e1, e2, e3, e4⟩ := places j (h2 j (.head _))
      rw [e1]
      dsimp only
      rw [if_pos (by simp [e3])]
      refine wpAny_bind (epoch (wpAny_bind (eqb e1 e2 prog c.w E _ (wpAny_bind (epoch ?_)))))
      rw [if_neg (by simp)]
      cases q : keyEq p.1 k with
      | true =>
        have hj := e4 q
        have hn : hit = none := by
          rcases h3 with ⟨z, _⟩ | ⟨i, _, z, n⟩
          · exact z
          · exact absurd (by rw [Hit.one hk hp z hj]; exact .head _) n
        subst hn
        simp only [if_true, Option.isSome_none, Bool.false_eq_true, if_false]
        refine wpAny_bind (wpAny_rule ?_)
        rw [dIdx_some hk hp hj] at h
        refine wpAny_ite_split (fun _ => wpAny_pure (wpAny_pure h)) fun _ => wpAny_pure ⟨rfl, some j, rfl, (List.nodup_cons.mp h1).2, fun i hi => h2 i (.tail _ hi), .inr ⟨j, rfl, hj, (List.nodup_cons.mp h1).1⟩⟩
      | false =>
        have hj : ∀ i, Hit es k i → i ≠ j := fun i ⟨v, hv⟩ z => by
          subst z
          rw [e2] at hv; cases hv
          rw [keyEq_refl hk] at q; cases q
        simp only [Bool.false_eq_true, if_false, Bool.false_and]
        refine wpAny_bind (wpAny_rule (wpAny_pure ⟨rfl, hit, rfl, (List.nodup_cons.mp h1).2, fun i hi => h2 i (.tail _ hi), h3.imp (fun ⟨z, n⟩ => ⟨z, fun i hi => (List.mem_cons.mp (n i hi)).resolve_left (hj i hi)⟩) fun ⟨i, z, z2, n⟩ => ⟨i, z, z2, fun m => n (.tail _ m)⟩⟩))
    · rintro b s' ⟨rfl, hit, rfl, h1, h2, h3⟩
      rcases h3 with ⟨rfl, n⟩ | ⟨j, rfl, hj, _⟩
      · rw [dIdx_none fun j hj => nomatch n j hj] at h
        exact wpAny_pure h
      · rw [dIdx_some hk hp hj] at h
        exact wpAny_pure h

theorem dictGet_key {Q : Option Value → Shared → Prop} (S : St c F mu H s.heap) (hu : A.units + deep < cLine) (hk : isKey k = true) (vk : VR c.bs mu s.heap k x) (ho : s.heap.get? d = some ⟨.type "dict", none, .dict ents n, #[]⟩)
    (hks : es.all (fun p => isKey p.1) = true) (hp : es.Pairwise fun x y => keyEq x.1 y.1 = false) (hr : DRs c.w c.bs mu s.heap es ents.toList)
    (h0 : dGet es k = none → ∀ t, Q none { s with toks := t }) (h1 : ∀ v y, dGet es k = some v → VR c.bs mu s.heap v y → ∀ t, Q (some y) { s with toks := t }) : wpAny (model prog c.w) A (dictGet d x) Q E s := by
  unfold dictGet
  refine wpAny_holding (wpAny_bind (key_hash hk vk (by unfold deep at hu; omega) fun t => wpAny_bind (dictFind_key (s := { s with toks := t }) S hu hk vk ho hks hp hr ?_)))
  have g := dGet_idx es k
  cases q : dIdx es k with
  | none => rw [q] at g; exact wpAny_pure (h0 g t)
  | some j =>
    have hj : j < es.length := by
      unfold dIdx at q
      exact (List.findIdx?_eq_some_iff_getElem.mp q).1
    have e := List.getElem?_eq_getElem hj
    rw [q, Option.bind_some, e] at g
    obtain ⟨en, a1, _, _, a4⟩ := hr.get e
    rw [Array.getElem?_toList] at a1
    refine wpAny_bind (wpAny_dictEntries (s := { s with toks := t }) ho rfl ?_)
    rw [a1]
    exact wpAny_pure (h1 _ _ g a4 t)

theorem in_dict {Q : Value → Shared → Prop} (S : St c F mu H s.heap) (hu : A.units + 1 + deep < cLine) (hk : isKey k = true) (vk : VR c.bs mu s.heap k x) (ho : s.heap.get? d = some ⟨.type "dict", none, .dict ents n, #[]⟩) (hd : (d == sysModules) = false)
    (hks : es.all (fun p => isKey p.1) = true) (hp : es.Pairwise fun x y => keyEq x.1 y.1 = false) (hr : DRs c.w c.bs mu s.heap es ents.toList)
    (h : ∀ t, Q (.bool (dGet es k).isSome) { s with toks := t }) : wpAny (model prog c.w) A (contains (.ref d) x) (fun b => Q (.bool b)) E s := by
  have hT : s.TypeIs (.ref d) "dict" := ⟨_, ho, rfl⟩
  unfold contains
  refine wpAny_holding (wpAny_bind (wpAny_specialOf hT slot_dict_contains.lookup ?_))
  show wpAny _ _ (if (some (Value.builtin "dict.__contains__") == some Value.none) = true then _ else _) _ E s
  rw [if_neg (by rw [beq_builtin_none]; exact Bool.false_ne_true)]
  refine wpAny_bind (wpAny_callSpecialUnlessNone?_slot (name := Str.ofString "__contains__") hT slot_dict_contains
    (wpAny_call_entry slot_dict_contains hT entry_dict_contains ?_ (args_dict_contains _ _)))
  show wpAny _ _ (dictGet d x >>= _) _ _ s
  refine wpAny_bind (dictGet_key (A := A.in1) S hu hk vk ho hks hp hr (fun g t => ?_) fun v y g _ t => ?_)
  · have h := h t
    rw [g] at h
    exact wpAny_bind (wpAny_pendingKey_other hd (wpAny_pure ⟨_, rfl, wpAny_truthy_bool h⟩))
  · have h := h t
    rw [g] at h
    exact wpAny_pure ⟨_, rfl, wpAny_truthy_bool h⟩

theorem getItem_dict {Q : Value → Shared → Prop} {v : V} (S : St c F mu H s.heap) (hu : A.units + 1 + deep < cLine) (hk : isKey k = true) (vk : VR c.bs mu s.heap k x) (ho : s.heap.get? d = some ⟨.type "dict", none, .dict ents n, #[]⟩)
    (hks : es.all (fun p => isKey p.1) = true) (hp : es.Pairwise fun x y => keyEq x.1 y.1 = false) (hr : DRs c.w c.bs mu s.heap es ents.toList) (hv : dGet es k = some v)
    (h : ∀ y t, VR c.bs mu s.heap v y → Q y { s with toks := t }) : wpAny (model prog c.w) A (PySem.getItem (.ref d) x) Q E s := by
  have hT : s.TypeIs (.ref d) "dict" := ⟨_, ho, rfl⟩
  unfold PySem.getItem
  refine wpAny_holding (wpAny_bind (wpAny_sequenceKey hT (by decide) ?_))
  refine wpAny_bind (wpAny_callSpecial?_slot (name := Str.ofString "__getitem__") hT slot_dict_getitem
    (wpAny_call_entry slot_dict_getitem hT entry_dict_getitem ?_ (args_dict_getitem _ _)))
  show wpAny _ _ (dictGet d x >>= _) _ _ s
  refine wpAny_bind (dictGet_key (A := A.in1) S hu hk vk ho hks hp hr (fun g t => by rw [hv] at g; cases g) fun u y g r t => ?_)
  rw [hv] at g; cases g
  exact wpAny_pure ⟨y, rfl, wpAny_pure (h y t r)⟩

end
end
end Mine
end

section
/-! items and cuts -/
namespace Mine
open PySem PyProof.Rows

theorem idx_eq (i : Int) (n : Nat) : idx i n = seqIndex? i n := by
  unfold idx seqIndex?
  by_cases h : 0 ≤ i
  · rw [if_pos h]
    simp only [if_neg (show ¬ i < 0 by omega)]
    by_cases h2 : i.toNat < n
    · rw [if_pos h2, if_pos (by simp; omega)]
    · rw [if_neg h2, if_neg (by simp; omega)]
  · rw [if_neg h]
    simp only [if_pos (show i < 0 by omega)]
    by_cases h2 : (-i).toNat ≤ n
    · rw [if_pos h2, if_pos (by simp; omega)]; congr 1; omega
    · rw [if_neg h2, if_neg (by simp; omega)]
theorem idx_fits {i : Int} {n j : Nat} (h : idx i n = some j) (hn : n ≤ mostLen) : -(2 ^ 63) ≤ i ∧ i < 2 ^ 63 ∧ j < n := by
  unfold idx at h
  unfold mostLen at hn
  split at h
  · split at h
    · cases h; omega
    · cases h
  · split at h
    · cases h; omega
    · cases h
section
variable {prog : Program} {c : Cf} {F : List Addr} {L : Addr} {A : Around} {mu : Mu} {s : Shared} {H : Hp} {E : Value → Shared → Prop} {Q : Value → Shared → Prop}

/-- an item of a list, wherever it lies -/
theorem item_list {a : Addr} {items : Array Value} {l : List V} {k : Int} {t : Tok} {j : Nat} {v : V} (hl : s.heap.IsList a items) (r : VRs c.bs mu s.heap l items.toList) (hz : l.length ≤ mostLen) (hj : idx k l.length = some j) (hv : l[j]? = some v)
    (h : ∀ y, VR c.bs mu s.heap v y → Q y s) : wpAny (model prog c.w) A (PySem.getItem (.ref a) (.int k t)) Q E s := by
  obtain ⟨f1, f2, f3⟩ := idx_fits hj hz
  obtain ⟨y, e, ry⟩ := r.get hv
  rw [Array.getElem?_toList] at e
  have sz := r.size
  unfold idx at hj
  split at hj
  · rename_i h0
    split at hj
    · cases hj; exact wpAny_getItem_list hl h0 f2 e (h y ry)
    · cases hj
  · rename_i h0
    split at hj
    · cases hj
      refine wpAny_getItem_list_neg hl (by omega) (by omega) f1 ?_ (h y ry)
      rw [← e]; congr 1; omega
    · cases hj

theorem subPlain {slice : Expr} (hs : (match slice with | .Slice .. => false | _ => true) = true) (o i : Value) : subscripted slice false o i = operate [o, i] (PySem.getItem o i) := by
  cases slice <;> first | rfl | cases hs

/-- o[i] -/
theorem sub_snd {a b : V} {x y : Value} {value slice : Expr} (S : St c F mu H s.heap) (va : VR c.bs mu s.heap a x) (vb : VR c.bs mu s.heap b y) (hu : A.units + 1 + deep < cLine) (hs : (match slice with | .Slice .. => false | _ => true) = true) :
    Snd (model prog c.w) c F L A mu s (subscriptTail value slice x y) (getItem a b H) (VRl c) := by
  unfold getItem
  split
  · rename_i r
    split
    · rename_i l k hl
      obtain ⟨q, n, items, rfl, _, _, e1, v1, z⟩ := S.listAt hl va
      obtain ⟨t, rfl⟩ := vb
      split
      · rename_i j hj
        split
        · rename_i v hv
          exact fun _ => tail_any ⟨_, e1, rfl⟩ slot_list_getitem.lookup (item_list ⟨_, e1, rfl, _, rfl⟩ v1 z hj hv fun y ry => QV.same (t := s.toks) S ry) (subPlain hs _ _)
        · exact fun h => absurd rfl h
      · exact fun h => absurd rfl h
    · rename_i es hd
      split
      · rename_i hk
        split
        · rename_i v hv
          simp only [VR] at va
          obtain ⟨q, h1, rfl⟩ := va
          obtain ⟨_, n, ents, e1, e2, e3, e4, _⟩ := S.objs r q _ h1 hd
          exact fun _ => tail_any ⟨_, e1, rfl⟩ slot_dict_getitem.lookup (getItem_dict S hu hk vb e1 e2 e3 e4 hv fun y t ry => QV.same S ry) (subPlain hs _ _)
        · exact fun h => absurd rfl h
      · exact fun h => absurd rfl h
    · exact fun h => absurd rfl h
  · rename_i l k
    simp only [VR] at va
    obtain ⟨q, o, n, vs, rfl, h1, h2, h3, h4, z⟩ := va
    obtain ⟨t, rfl⟩ := vb
    split
    · rename_i j hj
      split
      · rename_i v hv
        obtain ⟨f1, f2, f3⟩ := idx_fits hj z
        obtain ⟨y, e, ry⟩ := h4.get hv
        rw [Array.getElem?_toList] at e
        exact fun _ => tail_any ⟨_, h1, h2⟩ slot_tuple_getitem.lookup (getItem_tuple ⟨_, h1, h2, _, h3⟩ f1 f2 (by rw [← idx_eq, h4.size]; exact hj) e (QV.same (t := s.toks) S ry)) (subPlain hs _ _)
      · exact fun h => absurd rfl h
    · exact fun h => absurd rfl h
  · rename_i l k
    simp only [VR] at va
    obtain ⟨q, o, n, vs, rfl, h1, h2, h3, h4, z⟩ := va
    have h1 := S.stays _ _ h1
    obtain ⟨t, rfl⟩ := vb
    split
    · rename_i j hj
      split
      · rename_i v hv
        exact fun _ => tail_any ⟨_, h1, h2⟩ slot_list_getitem.lookup (item_list ⟨_, h1, h2, _, h3⟩ h4 z hj hv fun y ry => QV.same (t := s.toks) S ry) (subPlain hs _ _)
      · exact fun h => absurd rfl h
    · exact fun h => absurd rfl h
  · rename_i x k
    obtain ⟨u, rfl, o1, o2⟩ := va
    obtain ⟨t, rfl⟩ := vb
    split
    · rename_i j hj
      split
      · rename_i ch hch
        obtain ⟨f1, f2, f3⟩ := idx_fits hj o1
        refine fun _ => tail_any (typeIs_str s _ _) PySem.F.slot_str_getitem.lookup (PyProof.Rows.getItem_str (c := ch) ?_ ?_ (QV.same S ⟨_, rfl, ?_, ?_⟩)) (subPlain hs _ _)
        · rw [decide_eq_false (by omega), decide_eq_false (by omega)]; rfl
        · rw [← idx_eq, show (⟨x.toArray⟩ : Str).length = x.length by simp [Str.length], hj]; simpa using hch
        · simp [mostLen]
        · intro z hz; rw [List.mem_singleton.mp hz]; exact o2 ch (List.mem_of_getElem? hch)
      · exact fun h => absurd rfl h
    · exact fun h => absurd rfl h
  · exact fun h => absurd rfl h

end
end Mine
end

section
/-! the text's own defs and classes; names; arguments; attributes -/
namespace Mine
open PySem PySem.W PyProof.Rows

theorem map_inj {α β : Type} {f : α → β} (hf : ∀ a b, f a = f b → a = b) : ∀ {l m : List α}, l.map f = m.map f → l = m
  | [], [], _ => rfl
  | [], _ :: _, h => by simp at h
  | _ :: _, [], h => by simp at h
  | a :: l, b :: m, h => by
    simp only [List.map_cons, List.cons.injEq] at h
    rw [hf a b h.1, map_inj hf h.2]

theorem ofString_inj {s t : String} (h : Str.ofString s = Str.ofString t) : s = t := by
  rw [Str.ofString_eq_toList, Str.ofString_eq_toList] at h
  have h1 : s.toList.map Char.toNat = t.toList.map Char.toNat := by simpa using h
  have h2 : s.toList = t.toList := map_inj (fun a b e => Char.ext (UInt32.toNat_inj.mp e)) h1
  exact String.toList_inj.mp h2

/-- the builtins that the texts name -/
noncomputable def biTab : List (String × Value) := [("len", .builtin "len"), ("range", .type "range"), ("min", .builtin "min"), ("max", .builtin "max"), ("list", .type "list"), ("str", .type "str"), ("int", .type "int"), ("all", .builtin "all"),
  ("sorted", .builtin "sorted"), ("isinstance", .builtin "isinstance"), ("enumerate", .type "enumerate"), ("bool", .type "bool"), ("tuple", .type "tuple"), ("ValueError", .type "ValueError")]

/-- the address of a name of the text -/
noncomputable def addrOf (K : Frag) (x : String) : Option Addr := match nsIn K mainGlobals x with
  | some (some (.ref a)) => some a
  | _ => none

/-- a class of the text whose objects are plain: its fields are no names of the class -/
noncomputable def clsOk (K : Frag) (fields : List String) (C : Addr) : Bool :=
  findIn K (.ref C) "__getattribute__" == some (some (.builtin "object.__getattribute__")) && findIn K (.ref C) "__getattr__" == some none && hasDictIn K C && (fields.all fun f => findIn K (.ref C) f == some none) &&
  findIn K (.ref C) "__setattr__" == some (some (.builtin "object.__setattr__")) && plainOver K C && (fields.all fun f => takerIn K C f == some none)

/-- a class whose objects are compared by what they are -/
noncomputable def EqCls (h : Heap) (C : Addr) : Prop :=
  ∃ (nm q : Str) (N : Addr) (bs : List Value) (hdct : Bool) (sn : List Str) (sub : List Value) (ab : Bool) (col : Option Bool) (dd : Option Addr) (k0 k1 k2 k3 k5 : Option Value) (newId : String) (mN : Str → Option Value),
    h.get? C = some (excClassObj nm q C N bs [.type "object"] hdct sn sub ab col dd k0 k1 k2 k3 k5 newId) ∧ h.Ns N mN ∧ mN "__eq__" = none ∧ mN "__ne__" = none

structure Base (c : Cf) (K : Frag) (fields : List String) : Prop where
  KX : K.In c.bs
  lim : c.bs.NoLimit
  bns : ∃ mb, c.bs.Ns builtinsNs mb ∧ ∀ p ∈ biTab, mb p.1 = some p.2
  inst : ∀ C D, c.cl false C = some D → C ≠ "" ∧ addrOf K C = some D ∧ clsOk K fields D = true ∧ EqCls c.bs D
  free : (biTab.all fun p => nsIn K mainGlobals p.1 == some none) = true

section
variable {prog : Program} {c : Cf} {F : List Addr} {L : Addr} {A : Around} {mu : Mu} {s : Shared} {H : Hp} {E : Value → Shared → Prop} {Q : Value → Shared → Prop} {K : Frag} {fields : List String} {ns : List String} {env : Env} {g : Gm}

theorem Base.in (B : Base c K fields) (S : St c F mu H s.heap) : K.In s.heap := B.KX.keeps S.stays

theorem name_text {M : Model} {x : Str} {v : Value} {pos : Pos} (B : Base c K fields) (S : St c F mu H s.heap) (R : FrR c F ns env g mu s.heap) (hk : env.kindOf x = some .globalImplicit) (hd : (x == ("__debug__" : Str)) = false)
    (e : nsIn K mainGlobals x = some (some v)) (h : Q v s) : wpAny M A (eval (.Name x pos) env) Q E s := by
  refine Calls.Name_function_global R.kind hk ?_ hd
  unfold loadGlobal
  rw [R.glob]
  exact wpAny_bind ((looks_nsIn (B.in S) e).here (wpAny_pure h))
theorem name_blt {M : Model} {x : String} {v : Value} {pos : Pos} (B : Base c K fields) (S : St c F mu H s.heap) (R : FrR c F ns env g mu s.heap) (hk : env.kindOf x = some .globalImplicit) (hd : ((x : Str) == ("__debug__" : Str)) = false)
    (e : (x, v) ∈ biTab) (h : Q v s) : wpAny M A (eval (.Name x pos) env) Q E s := by
  refine Calls.Name_function_global R.kind hk ?_ hd
  unfold loadGlobal
  rw [R.glob, R.blt]
  refine wpAny_bind ((looks_nsIn (B.in S) (beq_iff_eq.mp (List.all_eq_true.mp B.free _ e))).here ?_)
  obtain ⟨mb, h1, h2⟩ := B.bns
  refine wpAny_bind (wpAny_nsGet (h1.keeps S.stays) ?_)
  rw [h2 _ e]
  exact wpAny_pure h

noncomputable def notStar : Expr → Bool
  | .Starred _ _ => false
  | _ => true
theorem starEach_cons {x : Expr} {r : List Expr} (h : notStar x = true) : starEach (x :: r) env = (false, eval x env) :: starEach r env := by
  cases x <;> first | rfl | cases h
theorem starEach_plain : ∀ {xs : List Expr}, xs.all notStar = true → ∀ p, (backTo p (starEach xs env)).any (·.1) = false
  | [], _, _ => rfl
  | x :: r, h, p => by
    simp only [List.all_cons, Bool.and_eq_true] at h
    rw [starEach_cons h.1]
    show (false || (backTo p (starEach r env)).any (·.1)) = false
    rw [starEach_plain h.2 p]; rfl
theorem evalArgs_all {M : Model} {f : Value} {xs : List Expr} {p : Pos} {Q : Args → Shared → Prop} (hp : xs.all notStar = true) (h : wpAny M A (spliced (backTo p (starEach xs env))) (fun vs s' => Q ⟨vs, []⟩ s') E s) :
    wpAny M A (evalArgs f true (backTo p (starEach xs env)) []) Q E s := by
  cases xs with
  | nil =>
    unfold evalArgs
    show wpAny M A (spliced [] >>= _) Q E s
    refine wpAny_bind (wpAny_mono h (fun vs s' h' => ?_) fun _ _ x => x)
    refine wpAny_holding ?_
    exact wpAny_bind (wpAny_pure (wpAny_bind (wpAny_pure (wpAny_pure h'))))
  | cons x r =>
    simp only [List.all_cons, Bool.and_eq_true] at hp
    rw [starEach_cons hp.1] at h ⊢
    exact Calls.evalArgs_plain h

/-- a call: the arguments, then the thing called -/
theorem callWith_snd {f : Value} {first : List Value} {xs : List Expr} {p q : Pos} {r : R (List V)} {k : List V → Hp → R V} (B : Base c K fields) (hp : xs.all notStar = true)
    (hk : ∀ h, K.In h → ∃ k, (k = Keeper.frame ∨ k = Keeper.machine ∨ k = Keeper.boundFrame) ∧ Looks (model prog c.w) h (keeperOf f) k)
    (h1 : Snd (model prog c.w) c F L A mu s (spliced (backTo p (starEach xs env))) r (VRsl c))
    (h2 : ∀ vs cs H' mu' s', r = .ok vs H' → St c F mu' H' s'.heap → Go F [] mu s.heap mu' s'.heap → VRs c.bs mu' s'.heap vs cs → Snd (model prog c.w) c F L A mu' s' (call f (first ++ cs)) (k vs H') (VRl c)) :
    Snd (model prog c.w) c F L A mu s (callWith q f first (backTo p (starEach xs env)) []) (r.bind k) (VRl c) := by
  intro hb
  have hr : r ≠ .bad := fun e => hb (by rw [e]; rfl)
  refine callWith_of (P := K.In) (by rw [starEach_plain hp]; rfl) hk (evalArgs_all hp (wpAny_mono (h1 hr) (fun cs s' x => ?_) fun e s' x => ?_))
  · obtain ⟨vs, H', mu', e, S, G, R, eg, eo⟩ := x
    subst e
    exact ⟨B.in S, wpAny_mono (h2 vs cs H' mu' s' rfl S G R hb) (fun _ _ y => y.back G eg eo) fun _ _ y => y.back G eg eo⟩
  · exact x.as fun x H e => by rw [e]; rfl

theorem keeps_builtin {M : Model} {id : String} : ∀ h, K.In h → ∃ k, (k = Keeper.frame ∨ k = Keeper.machine ∨ k = Keeper.boundFrame) ∧ Looks M h (keeperOf (.builtin id)) k := fun _ _ => ⟨.machine, .inr (.inl rfl), Looks.of_pure rfl⟩
theorem keeps_type {M : Model} {id : String} : ∀ h, K.In h → ∃ k, (k = Keeper.frame ∨ k = Keeper.machine ∨ k = Keeper.boundFrame) ∧ Looks M h (keeperOf (.type id)) k := fun _ _ => ⟨.machine, .inr (.inl rfl), Looks.of_pure rfl⟩

/-! fields -/
theorem FRs.find {w : World} {bs : Heap} {h : Heap} {f : String} : ∀ {fs : List (String × V)} {ds : List DictEntry}, FRs w bs mu h fs ds →
    (fs.lookup f = none ∧ ds.find? (fun e => e.key.isStr f) = none) ∨ ∃ v e, fs.lookup f = some v ∧ ds.find? (fun e => e.key.isStr f) = some e ∧ VR bs mu h v e.val
  | [], _, x => by rw [show _ = [] from x]; exact .inl ⟨rfl, rfl⟩
  | (k, u) :: r, _, ⟨tk, y, t, h1, h2, h3⟩ => by
    rw [h1]
    by_cases q : f = k
    · subst q
      refine .inr ⟨u, ⟨PyData.keyHash w.params f, .str (Str.ofString f) tk, y⟩, by simp, ?_, h2⟩
      rw [List.find?_cons]; simp [Value.isStr]
    · have q' : (Str.ofString k == Str.ofString f) = false := beq_eq_false_iff_ne.mpr fun e => q (ofString_inj e).symm
      have qq : (f == k) = false := beq_eq_false_iff_ne.mpr q
      rw [List.lookup_cons, qq, List.find?_cons]
      simp only [Value.isStr, q']
      exact FRs.find h3
theorem FRs.noRef {w : World} {bs : Heap} {h : Heap} : ∀ {fs : List (String × V)} {ds : List DictEntry}, FRs w bs mu h fs ds → ds.any (·.refKey) = false
  | [], _, x => by rw [show _ = [] from x]; rfl
  | (k, u) :: r, _, ⟨tk, y, t, h1, h2, h3⟩ => by rw [h1, List.any_cons, FRs.noRef h3]; rfl

theorem look_fields {w : World} {bs : Heap} {h : Heap} {f : String} {fs : List (String × V)} {ents : Array DictEntry} {n : Nat} (x : FRs w bs mu h fs ents.toList) :
    (fs.lookup f = none ∧ lookIn f ⟨.type "dict", none, .dict ents n, #[]⟩ = some none) ∨ ∃ v y, fs.lookup f = some v ∧ lookIn f ⟨.type "dict", none, .dict ents n, #[]⟩ = some (some y) ∧ VR bs mu h v y := by
  unfold lookIn
  dsimp only
  rcases x.find (f := f) with ⟨a, b⟩ | ⟨v, e, a, b, r⟩
  · rw [b, x.noRef]; exact .inl ⟨a, rfl⟩
  · rw [b]; exact .inr ⟨v, _, a, rfl, r⟩

theorem St.instAt (S : St c F mu H s.heap) {r : Nat} {C : String} {fs : List (String × V)} {x : Value} (e : H[r]? = some (.inst C fs)) (v : VR c.bs mu s.heap (.ref r) x) :
    ∃ q D n ents, x = .ref q.a ∧ mu[r]? = some q ∧ q.d ≠ q.a ∧ c.cl false C = some D ∧ s.heap.get? q.a = some ⟨.ref D, some q.d, .plain, #[]⟩ ∧ s.heap.get? q.d = some ⟨.type "dict", none, .dict ents n, #[]⟩ ∧ FRs c.w c.bs mu s.heap fs ents.toList ∧
      InstAt s.heap q.a ⟨.ref D, some q.d, .plain, #[]⟩ D (some ⟨.type "dict", none, .dict ents n, #[]⟩) := by
  simp only [VR] at v
  obtain ⟨q, h1, h2⟩ := v
  obtain ⟨h3, D, n, ents, h4, h5, h6, h7⟩ := S.objs r q _ h1 e
  exact ⟨q, D, n, ents, h2, h1, h3, h4, h5, h6, h7, ⟨h5, rfl, rfl, h6⟩⟩

end
end Mine
end

section
/-! comparisons, truth, stores -/
namespace Mine
open PySem PySem.W PyProof.Rows
section
variable {prog : Program} {c : Cf} {F : List Addr} {L : Addr} {A : Around} {mu : Mu} {s : Shared} {H : Hp} {E : Value → Shared → Prop} {K : Frag} {fields : List String}

theorem EqCls.at {h : Heap} {C x : Addr} {o : Obj} (X : EqCls h C) (e : h.get? x = some o) (hc : o.cls = .ref C) : h.CmpInst x C [.type "object"] := by
  obtain ⟨nm, q, N, bs, hdct, sn, sub, ab, col, dd, k0, k1, k2, k3, k5, newId, mN, h1, h2, h3, h4⟩ := X
  exact ⟨o, nm, q, N, bs, hdct, sn, sub, ab, col, dd, k0, k1, k2, k3, k5, newId, mN, e, hc, h1, h2, h3, h4⟩
theorem EqCls.keeps {h h' : Heap} {C : Addr} (X : EqCls h C) (k : h.StaysIn h') : EqCls h' C := by
  obtain ⟨nm, q, N, bs, hdct, sn, sub, ab, col, dd, k0, k1, k2, k3, k5, newId, mN, h1, h2, h3, h4⟩ := X
  exact ⟨nm, q, N, bs, hdct, sn, sub, ab, col, dd, k0, k1, k2, k3, k5, newId, mN, k _ _ h1, h2.keeps k, h3, h4⟩

theorem veq_both {a b : V} {x y : Value} {r : Bool} {Q : Value → Shared → Prop} (B : Base c K fields) (S : St c F mu H s.heap) (va : VR c.bs mu s.heap a x) (vb : VR c.bs mu s.heap b y) (hu : A.units + 1 + deep < cLine) (e : veq H a b = some r) :
    (Q (.bool r) s → wpAny (model prog c.w) A (compareOp .Eq x y) Q E s) ∧ (Q (.bool (!r)) s → wpAny (model prog c.w) A (compareOp .NotEq x y) Q E s) := by
  have dt : ∀ {d d'}, data deep H a = some d → data deep H b = some d' → D.eqv d d' = r → (Q (.bool r) s → wpAny (model prog c.w) A (compareOp .Eq x y) Q E s) ∧ (Q (.bool (!r)) s → wpAny (model prog c.w) A (compareOp .NotEq x y) Q E s) := by
    intro d d' e1 e2 e3
    subst e3
    exact ⟨fun h => eq_data S va vb e1 e2 (by omega) h, fun h => ne_data S va vb e1 e2 (by omega) h⟩
  have dt' : (match data deep H a, data deep H b with | some x, some y => some (D.eqv x y) | _, _ => none) = some r → (Q (.bool r) s → wpAny (model prog c.w) A (compareOp .Eq x y) Q E s) ∧ (Q (.bool (!r)) s → wpAny (model prog c.w) A (compareOp .NotEq x y) Q E s) := by
    intro e
    split at e
    · rename_i e1 e2; cases e; exact dt e1 e2 rfl
    · cases e
  unfold veq at e
  split at e
  · rename_i i j
    split at e
    · rename_i C fs C' fs' hi hj
      cases e
      obtain ⟨q, D, n, ents, rfl, h1, h2, h3, h4, h5, h6, I⟩ := S.instAt hi va
      obtain ⟨q', D', n', ents', rfl, h1', h2', h3', h4', h5', h6', I'⟩ := S.instAt hj vb
      have X := ((B.inst _ _ h3).2.2.2.keeps S.stays).at h4 rfl
      have X' := ((B.inst _ _ h3').2.2.2.keeps S.stays).at h4' rfl
      obtain ⟨hh, g, d, t, os⟩ := s
      by_cases hij : i = j
      · subst hij
        rw [h1] at h1'; cases h1'
        simp only [beq_self_eq_true]
        exact ⟨fun h => compareOp_eq_same PySem.F.cmp_object X (by omega) h, fun h => compareOp_ne_same PySem.F.cmp_object X (by omega) h⟩
      · rw [beq_eq_false_iff_ne.mpr hij]
        have ne := (S.apart i j q q' h1 h1' hij).1
        exact ⟨fun h => compareOp_eq_other PySem.F.cmp_object PySem.F.cmp_object X X' ne (by omega) h, fun h => compareOp_ne_other PySem.F.cmp_object PySem.F.cmp_object X X' ne (by omega) h⟩
    · exact dt' e
  · exact dt' e

theorem str_in {l : List Nat} {k : Nat} {t u : Tok} {Q : Value → Shared → Prop} :
    (Q (.bool (l.contains k)) s → wpAny (model prog c.w) A (compareOp .In (.str ⟨[k].toArray⟩ u) (.str ⟨l.toArray⟩ t)) Q E s) ∧ (Q (.bool (!l.contains k)) s → wpAny (model prog c.w) A (compareOp .NotIn (.str ⟨[k].toArray⟩ u) (.str ⟨l.toArray⟩ t)) Q E s) := by
  have e : (!(Builtin.Str.occurrences ⟨l.toArray⟩ ⟨[k].toArray⟩ 0 (⟨l.toArray⟩ : Str).length 1).isEmpty) = l.contains k := by
    rw [show (⟨[k].toArray⟩ : Str) = ⟨#[k]⟩ from rfl, StrLaws.found_one]; simp
  exact ⟨fun h => PyProof.Rows.in_str (by rw [e]; exact h), fun h => PyProof.Rows.notIn_str (by rw [e]; exact h)⟩

theorem vin_both {a b : V} {x y : Value} {r : Bool} {Q : Value → Shared → Prop} (S : St c F mu H s.heap) (va : VR c.bs mu s.heap a x) (vb : VR c.bs mu s.heap b y) (hu : A.units + 1 + deep < cLine) (e : vin H a b = some r) :
    ((∀ t, Q (.bool r) { s with toks := t }) → wpAny (model prog c.w) A (compareOp .In x y) Q E s) ∧ ((∀ t, Q (.bool (!r)) { s with toks := t }) → wpAny (model prog c.w) A (compareOp .NotIn x y) Q E s) := by
  unfold vin at e
  split at e
  · rename_i i
    split at e
    · split at e
      · rename_i ds d e1 e2
        cases e
        exact ⟨fun h => in_data S va vb e2 e1 hu (h s.toks), fun h => notin_data S va vb e2 e1 hu (h s.toks)⟩
      · cases e
    · rename_i es hi
      split at e
      · rename_i hk
        cases e
        simp only [VR] at vb
        obtain ⟨l, h1, rfl⟩ := vb
        obtain ⟨⟨_, hne⟩, n, ents, h2, h3, h4, h5, h6⟩ := S.objs _ _ _ h1 hi
        have hd : (l.a == sysModules) = false := beq_eq_false_iff_ne.mpr hne
        refine ⟨fun h => ?_, fun h => ?_⟩
        · exact wpAny_bind (wpAny_mono (in_dict (Q := fun v s' => ∀ b, v = .bool b → wpAny (model prog c.w) A (pure (.bool b)) Q E s') S hu hk va h2 hd h3 h4 h5 fun t b e => by cases e; exact wpAny_pure (h t)) (fun b s' q => q b rfl) fun _ _ q => q)
        · exact wpAny_bind (wpAny_mono (in_dict (Q := fun v s' => ∀ b, v = .bool b → wpAny (model prog c.w) A (pure (.bool !b)) Q E s') S hu hk va h2 hd h3 h4 h5 fun t b e => by cases e; exact wpAny_pure (h t)) (fun b s' q => q b rfl) fun _ _ q => q)
      · cases e
    · cases e
  · rename_i l
    split at e
    · rename_i k
      cases e
      simp only [VR] at va vb
      obtain ⟨t, rfl, _⟩ := va
      obtain ⟨u, rfl, _⟩ := vb
      exact ⟨fun h => str_in.1 (h s.toks), fun h => str_in.2 (h s.toks)⟩
    · cases e
  · cases e

noncomputable def isN : V → Bool
  | .none => true
  | _ => false
theorem VR.none_iff {a : V} {x : Value} {bs h} (va : VR bs mu h a x) : (x == .none) = isN a := by
  cases a <;> simp only [VR] at va
  · rw [va]; rfl
  · rw [va]; rfl
  · obtain ⟨t, rfl⟩ := va; rfl
  · obtain ⟨t, rfl, _⟩ := va; rfl
  · obtain ⟨l, _, rfl⟩ := va; rfl
  · obtain ⟨a, _, _, _, rfl, _⟩ := va; rfl
  · obtain ⟨a, rfl, _⟩ := va; rfl
  · obtain ⟨a, _, _, _, rfl, _⟩ := va; rfl

theorem okO_snd {t : Sem Value} {o : Option Bool} (h : ∀ r, o = some r → wpAny (model prog c.w) A t (QV c F mu s (.ok (.bool r) H) (VRl c)) (QE c F L mu s (.ok (V.bool r) H)) s) : Snd (model prog c.w) c F L A mu s t (okO o H) (VRl c) := by
  intro hb
  cases o with
  | none => exact absurd rfl hb
  | some r => exact h r rfl

theorem cmpop_snd {op : CO} {a b : V} {x y : Value} (B : Base c K fields) (S : St c F mu H s.heap) (va : VR c.bs mu s.heap a x) (vb : VR c.bs mu s.heap b y) (hu : A.units + 1 + deep < cLine) :
    Snd (model prog c.w) c F L A mu s (compareOp op.op x y) (cmpop op a b H) (VRl c) := by
  have qv : ∀ r t, QV c F mu s (.ok (.bool r) H) (VRl c) (.bool r) { s with toks := t } := fun r t => QV.same S rfl
  have intz : ∀ {t : Sem Value} {f : Int → Int → Bool}, (∀ i j t1 t2, x = .int i t1 → y = .int j t2 → wpAny (model prog c.w) A t (QV c F mu s (okB (f i j) H) (VRl c)) (QE c F L mu s (okB (f i j) H)) s) →
      Snd (model prog c.w) c F L A mu s t (match a, b with | .int a, .int b => okB (f a b) H | _, _ => .bad) (VRl c) := by
    intro t f h hb
    split
    · rename_i i j
      simp only [VR] at va vb
      obtain ⟨t1, rfl⟩ := va
      obtain ⟨t2, rfl⟩ := vb
      exact h i j t1 t2 rfl rfl
    · rename_i hn
      split at hb
      · exact absurd rfl (hn _ _ rfl)
      · exact absurd rfl hb
  cases op with
  | eq => exact okO_snd fun r e => (veq_both B S va vb hu e).1 (qv r s.toks)
  | ne =>
    refine okO_snd fun r e => ?_
    obtain ⟨r', e', rfl⟩ := Option.map_eq_some_iff.mp e
    exact (veq_both B S va vb hu e').2 (qv _ s.toks)
  | lt => exact intz fun i j t1 t2 e1 e2 => by subst e1 e2; exact PySem.P.lt_int (qv _ s.toks)
  | le => exact intz fun i j t1 t2 e1 e2 => by subst e1 e2; exact PySem.P.le_int (qv _ s.toks)
  | gt => exact intz fun i j t1 t2 e1 e2 => by subst e1 e2; exact PySem.P.gt_int (qv _ s.toks)
  | ge => exact intz fun i j t1 t2 e1 e2 => by subst e1 e2; exact PySem.P.ge_int (qv _ s.toks)
  | isin => exact okO_snd fun r e => (vin_both S va vb hu e).1 fun t => qv r t
  | notin =>
    refine okO_snd fun r e => ?_
    obtain ⟨r', e', rfl⟩ := Option.map_eq_some_iff.mp e
    exact (vin_both S va vb hu e').2 fun t => qv _ t
  | is =>
    intro hb
    unfold cmpop at hb ⊢
    dsimp only at hb ⊢
    split
    · simp only [VR] at vb; subst vb
      have h := qv (match a with | .none => true | _ => false) s.toks
      exact is_none (by rw [va.none_iff]; cases a <;> exact h)
    · rename_i hn
      split at hb
      · exact absurd rfl hn
      · exact absurd rfl hb
  | isnot =>
    intro hb
    unfold cmpop at hb ⊢
    dsimp only at hb ⊢
    split
    · simp only [VR] at vb; subst vb
      have h := qv (match a with | .none => false | _ => true) s.toks
      exact isNot_none (by rw [va.none_iff]; cases a <;> exact h)
    · rename_i hn
      split at hb
      · exact absurd rfl hn
      · exact absurd rfl hb
end
end Mine
end

section
/-! stores: items, attributes -/
namespace Mine
open PySem PySem.W PyProof.Rows
section
variable {prog : Program} {c : Cf} {F : List Addr} {L : Addr} {A : Around} {mu : Mu} {s : Shared} {H : Hp} {E : Value → Shared → Prop} {K : Frag} {fields : List String}

end
end Mine
end

section
/-! builtins and the methods of lists -/
namespace Mine
open PySem PySem.W PyProof.Rows
set_option maxRecDepth 100000
section
variable {prog : Program} {c : Cf} {F : List Addr} {L : Addr} {A : Around} {mu : Mu} {s : Shared} {H : Hp} {E : Value → Shared → Prop} {K : Frag} {fields : List String}

theorem isa_row (K : Frag) : ∀ T ∈ ["NoneType", "bool", "int", "str", "tuple", "list", "dict"], ∀ t ∈ ["int", "bool", "str", "list", "tuple"], kitOne K (.type T) (.type t) = some (T == t || (T == "bool" && t == "int")) := by
  intro T hT t ht
  simp only [List.mem_cons, List.not_mem_nil, or_false] at hT ht
  rcases hT with rfl | rfl | rfl | rfl | rfl | rfl | rfl <;> rcases ht with rfl | rfl | rfl | rfl | rfl <;> kernel_rfl

theorem VR.notBuiltin {bs : Heap} {h : Heap} {v : V} {y : Value} {id : String} (r : VR bs mu h v y) : y ≠ .builtin id := by
  cases v <;> simp only [VR] at r
  · rw [r]; exact fun e => nomatch e
  · rw [r]; exact fun e => nomatch e
  · obtain ⟨t, rfl⟩ := r; exact fun e => nomatch e
  · obtain ⟨t, rfl, _⟩ := r; exact fun e => nomatch e
  · obtain ⟨l, _, rfl⟩ := r; exact fun e => nomatch e
  · obtain ⟨a, _, _, _, rfl, _⟩ := r; exact fun e => nomatch e
  · obtain ⟨a, rfl, _⟩ := r; exact fun e => nomatch e
  · obtain ⟨a, _, _, _, rfl, _⟩ := r; exact fun e => nomatch e

theorem isa_snd {P : Pg} {a : V} {x : Value} {t : String} (B : Base c K fields) (S : St c F mu H s.heap) (va : VR c.bs mu s.heap a x) (ht : t ∈ isaTs) :
    Snd (model prog c.w) c F L A mu s (call (.builtin "isinstance") [x, .type t]) (isa P t a H) (VRl c) := by
  have qv : ∀ r t, QV c F mu s (.ok (.bool r) H) (VRl c) (.bool r) { s with toks := t } := fun r t => QV.same S rfl
  have X := B.in S
  have go : ∀ {T : String} {Hh : Heap → Prop} {b : Bool}, T ∈ ["NoneType", "bool", "int", "str", "tuple", "list", "dict"] → KitX K x (.type T) Hh → Hh s.heap → (T == t || (T == "bool" && t == "int")) = b →
      wpAny (model prog c.w) A (call (.builtin "isinstance") [x, .type t]) (QV c F mu s (.ok (.bool b) H) (VRl c)) (QE c F L mu s (.ok (V.bool b) H)) s := by
    intro T Hh b hT Z p e
    exact kia_one Z X p ((isa_row K T hT t ht).trans (by rw [e])) va.notBuiltin fun tk => qv _ tk
  have tys : t = "int" ∨ t = "bool" ∨ t = "str" ∨ t = "list" ∨ t = "tuple" := by simpa [isaTs] using ht
  intro hb
  cases a with
  | none => simp only [VR] at va; subst va; exact go (by simp) kitx_none trivial (by rcases tys with rfl | rfl | rfl | rfl | rfl <;> decide)
  | bool b => simp only [VR] at va; subst va; exact go (T := "bool") (by simp) kitx_bool trivial (by rcases tys with rfl | rfl | rfl | rfl | rfl <;> decide)
  | int i => simp only [VR] at va; obtain ⟨tk, rfl⟩ := va; exact go (T := "int") (by simp) kitx_int trivial (by rcases tys with rfl | rfl | rfl | rfl | rfl <;> decide)
  | str l => simp only [VR] at va; obtain ⟨tk, rfl, _⟩ := va; exact go (T := "str") (by simp) kitx_str trivial (by rcases tys with rfl | rfl | rfl | rfl | rfl <;> decide)
  | tup l => simp only [VR] at va; obtain ⟨q, o, n, vs, rfl, h1, h2, _⟩ := va; exact go (T := "tuple") (by simp) kitx_tuple ⟨o, h1, h2⟩ (by rcases tys with rfl | rfl | rfl | rfl | rfl <;> decide)
  | rng _ _ _ => exact absurd rfl hb
  | fz _ => exact absurd rfl hb
  | ref r =>
    unfold isa at hb ⊢
    dsimp only at hb ⊢
    simp only [VR] at va
    obtain ⟨l, h1, rfl⟩ := va
    split at hb
    · rename_i vs hr
      obtain ⟨_, n, items, h2, _⟩ := S.objs _ _ _ h1 hr
      exact go (T := "list") (by simp) kitx_list ⟨_, h2, rfl⟩ (by rcases tys with rfl | rfl | rfl | rfl | rfl <;> decide)
    · rename_i vs hr
      obtain ⟨_, n, items, h2, _⟩ := S.objs _ _ _ h1 hr
      exact go (T := "dict") (by simp) kitx_dict ⟨_, h2, rfl⟩ (by rcases tys with rfl | rfl | rfl | rfl | rfl <;> decide)
    · rw [if_pos (by simpa using ht)] at hb; exact absurd rfl hb
    · exact absurd rfl hb

theorem rangeSize_down (a b : Int) : Builtin.Range.rangeSize a b (-1) = if a > b then a - b else 0 := by
  unfold Builtin.Range.rangeSize
  simp only [show ¬ (-1 : Int) > 0 by decide, if_false, Int.neg_neg, Int.ediv_one]
  split <;> omega
theorem small_down {a b : Int} (ha : a.natAbs < 1000000000000) (hb : b.natAbs < 1000000000000) : Builtin.Range.small a b (-1) = true := by
  unfold Builtin.Range.small
  rw [rangeSize_down]
  simp only [Builtin.Range.rangeFitsLong, Bool.and_eq_true, Bool.or_eq_true, decide_eq_true_eq, beq_iff_eq, show ¬ (-1 : Int) > 0 by decide, if_false]
  split <;> omega

theorem rng_vr {a b k : Int} {t u v tk : Nat} (S : St c F mu H s.heap) (h : Builtin.Range.small a b k = true) :
    QV c F mu s (.ok (.rng a b k) H) (VRl c) (.ref s.heap.objs.size) { s with heap := s.heap.push { cls := .type "range", data := .fields #[.int a t, .int b u, .int k v] }, toks := tk } := by
  refine QV.here S (stays_push _ _) ?_ rfl rfl
  show VR _ _ _ (.rng a b k) _
  simp only [VR]
  exact ⟨_, rfl, h, t, u, v, Heap.get?_push_size _ rfl⟩

noncomputable def bfv : String → Value
  | "len" => .builtin "len" | "range" => .type "range" | "min" => .builtin "min" | "max" => .builtin "max" | "list" => .type "list" | "str" => .type "str" | "int" => .type "int" | "all" => .builtin "all" | "sorted" => .builtin "sorted"
  | _ => .none

theorem int_vr {i : Int} {t : Nat} {bs h} : VR bs mu h (.int i) (.int i t) := by simp only [VR]; exact ⟨t, rfl⟩
theorem QV.int {i : Int} {t tk : Nat} (S : St c F mu H s.heap) : QV c F mu s (.ok (.int i) H) (VRl c) (.int i t) { s with toks := tk } := QV.same S int_vr

theorem size_fit {n : Nat} (h : n ≤ mostLen) : (n : Int) < 2 ^ 63 := by have : mostLen < 2 ^ 63 := by decide
                                                                        omega

theorem IntsAre.vrs {bs h} : ∀ {xs : List Value} {is : List Int}, IntsAre xs is → VRs bs mu h (is.map .int) xs
  | _, _, .nil => by simp [VRs]
  | _, _, .cons k t r => by simp only [List.map_cons, VRs]; exact ⟨_, _, rfl, int_vr, IntsAre.vrs r⟩

theorem len_snd {a : V} {x : Value} (S : St c F mu H s.heap) (va : VR c.bs mu s.heap a x) : Snd (model prog c.w) c F L A mu s (call (.builtin "len") [x]) (bfn "len" [a] H) (VRl c) := by
  intro hb
  cases a with
  | ref r =>
    simp only [bfn] at hb ⊢
    split at hb
    · rename_i l hr
      obtain ⟨q, n, items, rfl, h1, h2, h3, h4, h5⟩ := S.listAt hr va
      have hz := h4.size
      refine PyProof.Rows.len_list (items := items) ⟨_, h3, rfl, n, rfl⟩ (by rw [hz]; exact size_fit h5) ?_
      rw [hz]; exact QV.int S
    · exact absurd rfl hb
  | tup l =>
    simp only [VR] at va
    obtain ⟨q, o, n, vs, rfl, h1, h2, h3, h4, h5⟩ := va
    have hz := h4.size
    refine PyProof.Rows.len_tuple (items := vs) ⟨o, h1, h2, n, h3⟩ (by rw [hz]; exact size_fit h5) ?_
    rw [hz]; exact QV.int S
  | fz l =>
    simp only [VR] at va
    obtain ⟨q, o, n, vs, rfl, h1, h2, h3, h4, h5⟩ := va
    have hz := h4.size
    refine PyProof.Rows.len_list (items := vs) ⟨o, S.stays _ _ h1, h2, n, h3⟩ (by rw [hz]; exact size_fit h5) ?_
    rw [hz]; exact QV.int S
  | str l =>
    simp only [VR] at va
    obtain ⟨t, rfl, h1, h2⟩ := va
    have hz : (⟨l.toArray⟩ : Str).length = l.length := by simp [Str.length]
    refine PyProof.Rows.len_str (by rw [hz]; have := size_fit h1; omega) ?_
    rw [hz]; exact QV.int S
  | _ => simp only [bfn] at hb; exact absurd rfl hb

theorem bfn_snd {b : String} {as : List V} {xs : List Value} (hh : A.handled = none) (S : St c F mu H s.heap) (va : VRs c.bs mu s.heap as xs) : Snd (model prog c.w) c F L A mu s (call (bfv b) xs) (bfn b as H) (VRl c) := by
  have one : ∀ {a : V} {xs}, VRs c.bs mu s.heap [a] xs → ∃ x, xs = [x] ∧ VR c.bs mu s.heap a x := fun {a xs} h => by
    simp only [VRs] at h; obtain ⟨x, r, rfl, h1, rfl⟩ := h; exact ⟨x, rfl, h1⟩
  have two : ∀ {a b : V} {xs}, VRs c.bs mu s.heap [a, b] xs → ∃ x y, xs = [x, y] ∧ VR c.bs mu s.heap a x ∧ VR c.bs mu s.heap b y := fun {a b xs} h => by
    simp only [VRs] at h; obtain ⟨x, r, rfl, h1, y, r', rfl, h2, rfl⟩ := h; exact ⟨x, y, rfl, h1, h2⟩
  have three : ∀ {a b d : V} {xs}, VRs c.bs mu s.heap [a, b, d] xs → ∃ x y z, xs = [x, y, z] ∧ VR c.bs mu s.heap a x ∧ VR c.bs mu s.heap b y ∧ VR c.bs mu s.heap d z := fun {a b d xs} h => by
    simp only [VRs] at h; obtain ⟨x, r, rfl, h1, y, r', rfl, h2, z, r'', rfl, h3, rfl⟩ := h; exact ⟨x, y, z, rfl, h1, h2, h3⟩
  unfold bfn
  split
  · obtain ⟨x, hx, v1⟩ := one va; subst hx; clear va; have va := v1; clear v1; have := len_snd (prog := prog) (L := L) (A := A) S va; simp only [bfn] at this; exact this
  · obtain ⟨x, hx, v1⟩ := one va; subst hx; clear va; have va := v1; clear v1; have := len_snd (prog := prog) (L := L) (A := A) S va; simp only [bfn] at this; exact this
  · obtain ⟨x, hx, v1⟩ := one va; subst hx; clear va; have va := v1; clear v1; have := len_snd (prog := prog) (L := L) (A := A) S va; simp only [bfn] at this; exact this
  · obtain ⟨x, hx, v1⟩ := one va; subst hx; clear va; have va := v1; clear v1; have := len_snd (prog := prog) (L := L) (A := A) S va; simp only [bfn] at this; exact this
  · obtain ⟨x, hx, v1⟩ := one va; subst hx; clear va; have va := v1; clear v1
    simp only [VR] at va; obtain ⟨t, rfl⟩ := va
    split
    · rename_i hn
      exact fun _ => call_range_1 (rng_vr S (small_one (by decide) (by decide) (by omega) (by omega)))
    · exact fun h => absurd rfl h
  · obtain ⟨x, y, hx, v1, vb⟩ := two va; subst hx; clear va; have va := v1; clear v1
    simp only [VR] at va vb; obtain ⟨t, rfl⟩ := va; obtain ⟨u, rfl⟩ := vb
    split
    · rename_i hn
      exact fun _ => call_range_2 (rng_vr S (small_one (by omega) (by omega) (by omega) (by omega)))
    · exact fun h => absurd rfl h
  · obtain ⟨x, y, z, hx, v1, vb, vd⟩ := three va; subst hx; clear va; have va := v1; clear v1
    simp only [VR] at va vb vd; obtain ⟨t, rfl⟩ := va; obtain ⟨u, rfl⟩ := vb; obtain ⟨w, rfl⟩ := vd
    split
    · rename_i hn
      obtain ⟨rfl, h1, h2⟩ := hn
      exact fun _ => call_range_3 (by decide) (rng_vr S (small_down h1 h2)) (.inl (PyProof.noPylong_small (by omega)))
    · exact fun h => absurd rfl h
  · obtain ⟨x, y, hx, v1, vb⟩ := two va; subst hx; clear va; have va := v1; clear v1
    simp only [VR] at va vb; obtain ⟨t, rfl⟩ := va; obtain ⟨u, rfl⟩ := vb
    refine fun _ => max_two_ints hh fun h' tk k => QV.here S k ?_ rfl rfl
    show VR _ _ _ _ _
    split <;> exact int_vr
  · exact fun h => absurd rfl h
end
end Mine
end

section
/-! the methods of lists, and of ints -/
namespace Mine
open PySem PySem.W PyProof.Rows
set_option maxRecDepth 100000
section
variable {prog : Program} {c : Cf} {F : List Addr} {L : Addr} {A : Around} {mu : Mu} {s : Shared} {H : Hp} {E : Value → Shared → Prop} {K : Frag} {fields : List String}

theorem turn_list {r : Nat} {m : List V} {q : Loc} {n n' : Nat} {items ys : Array Value} {h' : Heap} {v : V} {y : Value} {tk : Nat} (S : St c F mu H s.heap) (hq : mu[r]? = some q) (e1 : q.d = q.a)
    (h1 : s.heap.get? q.a = some { cls := .type "list", data := .seq items n }) (h2 : h'.get? q.a = some { cls := .type "list", data := .seq ys n' }) (hk : ∀ b, b ≠ q.a → h'.get? b = s.heap.get? b)
    (hm : VRs c.bs mu s.heap m ys.toList) (hz : m.length ≤ mostLen) (hv : VR c.bs mu s.heap v y) : QV c F mu s (.ok v (H.set r (.list m))) (VRl c) y { s with heap := h', toks := tk } := by
  have fx : ∀ b o, s.heap.get? b = some o → Fixed o → h'.get? b = some o := fun b o e f => by
    rw [hk b (fun q' => ?_)]; exact e
    rw [q', h1] at e; cases e
    rcases f with ⟨f, _⟩ | ⟨f, _⟩ <;> exact absurd f (by simp)
  exact QV.turn S hq (fun b h _ => hk b h) ⟨e1, n', ys, h2, hm.mono fx fun _ _ e => e, hz⟩ (hv.mono fx fun _ _ e => e) rfl rfl

theorem objMeth_snd {r : Nat} {o : Ob} {m : String} {x : Value} {as : List V} {xs : List Value} (S : St c F mu H s.heap) (vr : VR c.bs mu s.heap (.ref r) x) (ho : H[r]? = some o) (va : VRs c.bs mu s.heap as xs) :
    Snd (model prog c.w) c F L A mu s (call (.builtin ("list." ++ m)) (x :: xs)) (objMeth m r o as H) (VRl c) := by
  unfold objMeth
  split
  · rename_i l v
    split
    · rename_i hz
      intro _
      simp only [VRs] at va
      obtain ⟨y, t, rfl, v1, rfl⟩ := va
      obtain ⟨q, n, items, rfl, h1, h2, h3, h4, h5⟩ := S.listAt ho vr
      have hs := h4.size
      refine call_meets (T := "list") (name := Str.ofString "append") PySem.F.slot_list_append ⟨_, h3, rfl⟩ PySem.F.entry_list_append (PySem.F.args_list_append_2 _ _) (list_append q.a items n y (by rw [hs, ← mostLen_eq]; exact h5)) ⟨h3, ?_⟩
      refine turn_list (tk := s.toks) S h1 h2 h3 (IsL.update (n := n) h3 _) (fun b hb => Heap.get?_update_other _ _ (Ne.symm hb)) ?_ (by simp; omega) (by simp only [VR])
      rw [Array.toList_push]
      exact h4.append (VRs.single v1)
    · exact fun h => absurd rfl h
  · rename_i l
    split
    · rename_i v hv
      intro _
      simp only [VRs] at va
      subst va
      obtain ⟨q, n, items, rfl, h1, h2, h3, h4, h5⟩ := S.listAt ho vr
      have hs := h4.size
      rw [List.getLast?_eq_getElem?] at hv
      obtain ⟨y, hy, vy⟩ := h4.get hv
      refine call_meets (T := "list") (name := Str.ofString "pop") PySem.F.slot_list_pop ⟨_, h3, rfl⟩ PySem.F.entry_list_pop (PySem.F.args_list_pop_1 _) (MeetsSeq.list_pop_last q.a items n y (by rw [hs]; simpa using hy) (by rw [hs, ← mostLen_eq]; exact h5)) ⟨h3, ?_⟩
      refine turn_list (tk := s.toks) S h1 h2 h3 (IsL.update (n := n) h3 _) (fun b hb => Heap.get?_update_other _ _ (Ne.symm hb)) ?_ (by simp; omega) vy
      have : (items.eraseIdxIfInBounds (items.size - 1)).toList = items.toList.take (items.toList.length - 1) := by
        by_cases z : items.size - 1 < items.size
        · rw [Array.eraseIdxIfInBounds, dif_pos z, Array.toList_eraseIdx, List.eraseIdx_eq_take_drop_succ, List.drop_eq_nil_of_le (by simp; omega)]
          simp
        · have : items = #[] := by simpa using (show items.size = 0 by omega)
          subst this; rfl
      rw [this, h4.length, List.dropLast_eq_take]
      exact h4.take _
    · exact fun h => absurd rfl h
  · rename_i l
    intro _
    simp only [VRs] at va
    subst va
    obtain ⟨q, n, items, rfl, h1, h2, h3, h4, h5⟩ := S.listAt ho vr
    have hs := h4.size
    refine call_meets (T := "list") (name := Str.ofString "clear") PySem.F.slot_list_clear ⟨_, h3, rfl⟩ PySem.F.entry_list_clear (PySem.F.args_list_clear_1 _) (AutoSeq1.list_clear_list_0 q.a items n (by rw [hs, ← mostLen_eq]; exact h5)) ⟨h3, ?_⟩
    exact turn_list (tk := s.toks) S h1 h2 h3 (IsL.update (n := n) h3 _) (fun b hb => Heap.get?_update_other _ _ (Ne.symm hb)) (by simp [VRs]) (by simp) (by simp only [VR])
  · exact fun h => absurd rfl h
end
end Mine
end

section
/-! iterators -/
namespace Mine
open PySem PySem.W PyProof.Rows
set_option maxRecDepth 100000
section
variable {prog : Program} {c : Cf} {F : List Addr} {L : Addr} {A : Around} {mu : Mu} {s : Shared} {H : Hp} {E : Value → Shared → Prop}

/-- the iterator at I stands before the k-th item of src -/
noncomputable def It (c : Cf) (I : Addr) (src : V) (k : Nat) (mu : Mu) (h : Heap) : Prop :=
  match src with
  | .ref r => ∃ l, mu[r]? = some l ∧ h.IsListIter I l.a k
  | .tup vs => ∃ a items, h.IsTupleIter I a k ∧ h.IsTuple a items ∧ VRs c.bs mu h vs items.toList
  | .str l => okStr l ∧ k ≤ l.length ∧ ∃ ty t, (ty = "str_ascii_iterator" ∨ ty = "str_iterator") ∧ h.IsStrIter I ty ⟨l.toArray⟩ t k
  | .rng a b d => (d = 1 ∨ d = -1) ∧ (k : Int) ≤ Builtin.Range.rangeSize a b d ∧ IsRangeIter h I (a + k * d) (Builtin.Range.rangeSize a b d - k) d
  | _ => False

theorem It.at {I : Addr} {src : V} {k : Nat} {h : Heap} (x : It c I src k mu h) : ∃ o, h.get? I = some o ∧ ¬ Fixed o ∧ o.cls ≠ .type "list" := by
  unfold It at x
  split at x
  · obtain ⟨l, _, o, h1, h2, h3⟩ := x
    exact ⟨o, h1, by rintro (⟨q, _⟩ | ⟨q, _⟩) <;> rw [h2] at q <;> exact absurd q (by simp), by rw [h2]; simp⟩
  · obtain ⟨a, items, ⟨o, h1, h2, h3⟩, _⟩ := x
    exact ⟨o, h1, by rintro (⟨q, _⟩ | ⟨q, _⟩) <;> rw [h2] at q <;> exact absurd q (by simp), by rw [h2]; simp⟩
  · obtain ⟨_, _, ty, t, h0, o, h1, h2, h3⟩ := x
    refine ⟨o, h1, ?_, ?_⟩
    · rcases h0 with rfl | rfl <;> rintro (⟨q, _⟩ | ⟨q, _⟩) <;> rw [h2] at q <;> exact absurd q (by simp)
    · rcases h0 with rfl | rfl <;> rw [h2] <;> simp
  · exact ⟨_, x.2.2, by rintro (⟨q, _⟩ | ⟨q, _⟩) <;> exact absurd q (by simp), by simp⟩
  · exact x.elim

theorem It.mono {I : Addr} {src : V} {k : Nat} {mu' : Mu} {h h' : Heap} (x : It c I src k mu h) (kI : ∀ o, h.get? I = some o → h'.get? I = some o) (kF : ∀ b o, h.get? b = some o → Fixed o → h'.get? b = some o)
    (e : ∀ (i : Nat) l, mu[i]? = some l → mu'[i]? = some l) : It c I src k mu' h' := by
  unfold It at x ⊢
  split
  · obtain ⟨l, h0, o, h1, h2⟩ := x
    exact ⟨l, e _ _ h0, o, kI _ h1, h2⟩
  · obtain ⟨a, items, ⟨o, h1, h2⟩, ⟨o', h3, h4, n, h5⟩, h6⟩ := x
    exact ⟨a, items, ⟨o, kI _ h1, h2⟩, ⟨o', kF _ _ h3 (.inl ⟨h4, _, _, h5⟩), h4, n, h5⟩, h6.mono kF e⟩
  · obtain ⟨h0, hk, ty, t, h1, o, h2, h3⟩ := x
    exact ⟨h0, hk, ty, t, h1, o, kI _ h2, h3⟩
  · exact ⟨x.1, x.2.1, kI _ x.2.2⟩
  · rename_i n1 n2 n3 n4
    split at x
    · exact absurd rfl (n1 _)
    · exact absurd rfl (n2 _)
    · exact absurd rfl (n3 _)
    · exact absurd rfl (n4 _ _ _)
    · exact x

theorem pyIter_snd {src : V} {x : Value} {Q : Value → Shared → Prop} (S : St c F mu H s.heap) (va : VR c.bs mu s.heap src x) (hn : nth src H 0 ≠ none)
    (hQ : ∀ o, It c s.heap.objs.size src 0 mu (s.heap.push o) → Q (.ref s.heap.objs.size) { s with heap := s.heap.push o }) : wpAny (model prog c.w) A (pyIter x) Q E s := by
  have p : ∀ o, ∀ b ob, s.heap.get? b = some ob → Fixed ob → (s.heap.push o).get? b = some ob := fun o b ob e _ => Heap.get?_push_of_some _ e
  unfold nth at hn
  split at hn
  · rename_i r
    split at hn
    · rename_i l hr
      obtain ⟨q, n, items, rfl, h1, h2, h3, h4, h5⟩ := S.listAt hr va
      exact wpAny_pyIter_list (items := items) ⟨_, h3, rfl, n, rfl⟩ (hQ _ ⟨q, h1, _, Heap.get?_push_size _ rfl, rfl, rfl⟩)
    · exact absurd rfl hn
  · simp only [VR] at va
    obtain ⟨a, o, n, vs, rfl, h1, h2, h3, h4, h5⟩ := va
    exact wpAny_pyIter_tuple (items := vs) ⟨o, h1, h2, n, h3⟩ (hQ _ ⟨a, vs, ⟨_, Heap.get?_push_size _ rfl, rfl, rfl⟩, ⟨o, Heap.get?_push_of_some _ h1, h2, n, h3⟩, h4.mono (p _) fun _ _ e => e⟩)
  · rename_i l
    simp only [VR] at va
    obtain ⟨t, rfl, ok⟩ := va
    cases ha : (⟨l.toArray⟩ : Str).cps.all (· < 128)
    · exact wpAny_pyIter_wide ha (hQ _ ⟨ok, Nat.zero_le _, "str_iterator", t, .inr rfl, _, Heap.get?_push_size _ rfl, rfl, rfl⟩)
    · exact wpAny_pyIter_ascii ha (hQ _ ⟨ok, Nat.zero_le _, "str_ascii_iterator", t, .inl rfl, _, Heap.get?_push_size _ rfl, rfl, rfl⟩)
  · rename_i a b d
    simp only [VR] at va
    obtain ⟨r, rfl, h1, t, u, v, h2⟩ := va
    have hd : d = 1 ∨ d = -1 := by
      by_cases h : d = 1
      · exact .inl h
      · rw [if_neg h] at hn
        by_cases h' : d = -1
        · exact .inr h'
        · rw [if_neg h'] at hn; exact absurd rfl hn
    refine wpAny_pyIter_range h2 h1 (hQ _ ⟨hd, ?_, ?_⟩)
    · rcases hd with rfl | rfl
      · rw [rangeSize_one]; split <;> simp <;> omega
      · rw [rangeSize_down]; split <;> simp <;> omega
    · have e1 : a + ((0 : Nat) : Int) * d = a := by simp
      have e2 : Builtin.Range.rangeSize a b d - ((0 : Nat) : Int) = Builtin.Range.rangeSize a b d := by simp
      rw [e1, e2]
      exact Heap.get?_push_size _ rfl
  · exact absurd rfl hn

theorem pyNext_item {src : V} {I : Addr} {k : Nat} {v : V} {Q : Option Value → Shared → Prop} (hh : A.handled = none) (S : St c F mu H s.heap) (it : It c I src k mu s.heap) (hv : nth src H k = some (some v))
    (hQ : ∀ x h' tk, VR c.bs mu s.heap v x → It c I src (k + 1) mu h' → (∀ b o, b ≠ I → s.heap.get? b = some o → h'.get? b = some o) → Q (some x) { s with heap := h', toks := tk }) :
    wpAny (model prog c.w) A (pyNext (.ref I)) Q E s := by
  have at_ := it.at
  unfold nth at hv
  split at hv
  · rename_i r
    split at hv
    · rename_i l hr
      obtain ⟨q, hq, hi⟩ := it
      obtain ⟨_, n, items, h3, h4, h5⟩ := S.objs _ _ _ hq hr
      simp only [Option.some.injEq] at hv
      obtain ⟨x, hx, vx⟩ := h4.get hv
      exact wpAny_pyNext_list_item hi (items := items) ⟨_, h3, rfl, n, rfl⟩ (by simpa using hx) fun h' e1 e2 => hQ x h' s.toks vx ⟨q, hq, e1⟩ fun b o hb e => e2.extBut b o hb e
    · cases hv
  · rename_i l
    obtain ⟨a, items, hi, ht, hr⟩ := it
    simp only [Option.some.injEq] at hv
    obtain ⟨x, hx, vx⟩ := hr.get hv
    have hne : a ≠ I := by
      rintro rfl
      obtain ⟨o, h1, h2, _⟩ := at_
      obtain ⟨o', h1', h2', n, h3'⟩ := ht
      rw [h1'] at h1; cases h1; exact h2 (.inl ⟨h2', _, _, h3'⟩)
    refine wpAny_pyNext_tuple_item hi ht (by simpa using hx) fun h' e1 e2 => hQ x h' s.toks vx ⟨a, items, e1, ht.extBut e2.extBut hne, hr.mono (fun b o e f => e2.extBut b o ?_ e) fun _ _ e => e⟩ fun b o hb e => e2.extBut b o hb e
    rintro rfl
    obtain ⟨o, h1, h2, _⟩ := at_
    rw [e] at h1; cases h1; exact h2 f
  · rename_i l
    obtain ⟨ok, hk, ty, t, hty, hi⟩ := it
    simp only [Option.some.injEq, Option.map_eq_some_iff] at hv
    obtain ⟨ch, hc, rfl⟩ := hv
    have hlt : k < l.length := (List.getElem?_eq_some_iff.mp hc).1
    have W : Walks prog c.w A I [I] [I] (⟨l.toArray⟩ : Str).cps.size (SignAt ⟨l.toArray⟩) (fun i h => h.IsStrIter I ty ⟨l.toArray⟩ t i) := by
      rcases hty with rfl | rfl
      · exact Walks.strAscii hh I _ t
      · exact Walks.strWide hh I _ t
    refine W.item k s Q E (by simpa using hlt) hi fun x h' tk hx hst hk' => ?_
    obtain ⟨ch', u, e, rfl⟩ := hx
    have : ch' = ch := by
      have e' : l[k]? = some ch' := by simpa using e
      rw [hc] at e'; cases e'; rfl
    subst this
    refine hQ _ h' tk ?_ ⟨ok, hlt, ty, t, hty, hst⟩ fun b o hb e => hk' b o (by simpa using hb) e
    simp only [VR]
    exact ⟨u, rfl, by simp; decide, fun y hy => by rw [List.mem_singleton.mp hy]; exact ok.2 _ (List.mem_of_getElem? hc)⟩
  · rename_i a b d
    obtain ⟨hd, hk, hi⟩ := it
    have key : v = .int (a + k * d) ∧ 0 < Builtin.Range.rangeSize a b d - k := by
      rcases hd with rfl | rfl
      · rw [if_pos rfl] at hv
        simp only [Option.some.injEq] at hv
        split at hv
        · cases hv; rw [rangeSize_one]; refine ⟨by simp, ?_⟩; split <;> omega
        · cases hv
      · rw [if_neg (by decide), if_pos rfl] at hv
        simp only [Option.some.injEq] at hv
        split at hv
        · cases hv; rw [rangeSize_down]; refine ⟨by congr 1; omega, ?_⟩; split <;> omega
        · cases hv
    obtain ⟨rfl, hl⟩ := key
    refine wpAny_pyNext_range_item hi hl fun h' e1 e2 => hQ _ h' _ int_vr ⟨hd, by omega, ?_⟩ fun b o hb e => e2.extBut b o hb e
    have e3 : a + ((k + 1 : Nat) : Int) * d = a + (k : Int) * d + d := by push_cast; rw [Int.add_mul, Int.one_mul, Int.add_assoc]
    have e4 : Builtin.Range.rangeSize a b d - ((k + 1 : Nat) : Int) = Builtin.Range.rangeSize a b d - (k : Int) - 1 := by push_cast; omega
    rw [e3, e4]; exact e1
  · cases hv

theorem pyNext_end {src : V} {I : Addr} {k : Nat} {Q : Option Value → Shared → Prop} (hh : A.handled = none) (S : St c F mu H s.heap) (it : It c I src k mu s.heap) (hv : nth src H k = some none)
    (hQ : ∀ h' tk, (∀ b o, b ≠ I → s.heap.get? b = some o → h'.get? b = some o) → Q none { s with heap := h', toks := tk }) :
    wpAny (model prog c.w) A (pyNext (.ref I)) Q E s := by
  unfold nth at hv
  split at hv
  · rename_i r
    split at hv
    · rename_i l hr
      obtain ⟨q, hq, hi⟩ := it
      obtain ⟨_, n, items, h3, h4, h5⟩ := S.objs _ _ _ hq hr
      simp only [Option.some.injEq] at hv
      have hx := h4.none hv
      exact wpAny_pyNext_list_end hh hi (items := items) ⟨_, h3, rfl, n, rfl⟩ (by simpa using hx) fun h' e2 => hQ h' s.toks fun b o hb e => e2 b o hb e
    · cases hv
  · rename_i l
    obtain ⟨a, items, hi, ht, hr⟩ := it
    simp only [Option.some.injEq] at hv
    have hx := hr.none hv
    exact wpAny_pyNext_tuple_end hh hi ht (by simpa using hx) fun h' e2 => hQ h' s.toks fun b o hb e => e2 b o hb e
  · rename_i l
    obtain ⟨ok, hk, ty, t, hty, hi⟩ := it
    simp only [Option.some.injEq, Option.map_eq_none_iff] at hv
    have hlt : k = l.length := by
      have := List.getElem?_eq_none_iff.mp hv; omega
    subst hlt
    have W : Walks prog c.w A I [I] [I] (⟨l.toArray⟩ : Str).cps.size (SignAt ⟨l.toArray⟩) (fun i h => h.IsStrIter I ty ⟨l.toArray⟩ t i) := by
      rcases hty with rfl | rfl
      · exact Walks.strAscii hh I _ t
      · exact Walks.strWide hh I _ t
    exact W.done s Q E (by simpa using hi) fun h' tk hk' => hQ h' tk fun b o hb e => hk' b o (by simpa using hb) e
  · rename_i a b d
    obtain ⟨hd, hk, hi⟩ := it
    have key : Builtin.Range.rangeSize a b d - k ≤ 0 := by
      rcases hd with rfl | rfl
      · rw [if_pos rfl] at hv
        simp only [Option.some.injEq] at hv
        split at hv
        · cases hv
        · rw [rangeSize_one]; split <;> omega
      · rw [if_neg (by decide), if_pos rfl] at hv
        simp only [Option.some.injEq] at hv
        split at hv
        · cases hv
        · rw [rangeSize_down]; split <;> omega
    exact wpAny_pyNext_range_end hh hi key fun h' e2 => hQ h' s.toks fun b o hb e => e2 b o hb e
  · cases hv
end
end Mine
end

section
/-! frames: stores, statements -/
namespace Mine
open PySem PySem.W PyProof.Rows
set_option maxRecDepth 100000

/-- what a frame may turn: its names, its cells -/
noncomputable def ow (env : Env) : List Addr := env.locals :: env.cells.map (·.2)

section
variable {c : Cf} {F X : List Addr} {mu mu' : Mu} {H : Hp} {h h' : Heap}

/-- something that is no object of the core turns -/
theorem St.poke (S : St c F mu H h) {a : Addr} (ho : ¬ Own mu a) (hb : c.bs.get? a = none) (k : ∀ b o, b ≠ a → h.get? b = some o → h'.get? b = some o) (hf : a ∈ F → ∃ o es ep, h'.get? a = some o ∧ o.data = .dict es ep) (nf : ∀ o, h.get? a = some o → ¬ Fixed o) :
    St c F mu H h' := by
  have fx : ∀ b o, h.get? b = some o → Fixed o → h'.get? b = some o := fun b o e f => k b o (fun q => nf o (q ▸ e) f) e
  refine ⟨S.mods, fun b o e => k b o (fun q => by rw [q, hb] at e; cases e) (S.stays b o e), S.len, fun i l o e1 e2 => ?_, S.apart, S.newB, S.notF, fun b q => ?_⟩
  · have x := S.objs i l o e1 e2
    have O := own_of_get e1
    obtain ⟨oa, ha, _⟩ := x.notFixed l.a (.inl rfl)
    obtain ⟨od, hd, _⟩ := x.notFixed l.d (.inr rfl)
    exact x.mono fx (fun _ _ e => e) ((k _ _ (fun q => ho (q ▸ O.1)) ha).trans ha.symm) ((k _ _ (fun q => ho (q ▸ O.2)) hd).trans hd.symm)
  · obtain ⟨q1, o, es, ep, e, d⟩ := S.frs b q
    by_cases hba : b = a
    · subst hba; exact ⟨q1, hf q⟩
    · exact ⟨q1, o, es, ep, k b o hba e, d⟩

theorem Go.poke {a : Addr} (ha : a ∈ X) (k : ∀ b o, b ≠ a → h.get? b = some o → h'.get? b = some o) (al : ∃ o, h'.get? a = some o) : Go F X mu h mu h' :=
  ⟨fun _ _ e => e, fun b o e _ _ hx => k b o (fun q => hx (q ▸ ha)) e, fun b o e _ hx => ⟨o.slots, k b o (fun q => hx (q ▸ ha)) e⟩, fun _ x => .inl x, fun b o e => by
    by_cases q : b = a
    · subst q; exact al
    · exact ⟨o, k b o q e⟩⟩

/-- what was made on the way is let go of -/
theorem Go.drop {I : Addr} {h₀ : Heap} {mu₀ : Mu} (g : Go F (I :: X) mu₀ h₀ mu h) (n : h₀.get? I = none) (k : ∀ b o, b ≠ I → h.get? b = some o → h'.get? b = some o) : Go F X mu₀ h₀ mu h' := by
  refine ⟨g.ext, fun b o e no nf nx => ?_, fun b o e nf nx => ?_, g.fresh, fun b o e => ?_⟩
  · have hI : b ≠ I := fun q => by rw [q, n] at e; cases e
    exact k b o hI (g.keep b o e no nf (fun q => by rcases List.mem_cons.mp q with q | q <;> contradiction))
  · have hI : b ≠ I := fun q => by rw [q, n] at e; cases e
    obtain ⟨sl, e'⟩ := g.keepF b o e nf (fun q => by rcases List.mem_cons.mp q with q | q <;> contradiction)
    exact ⟨sl, k b _ hI e'⟩
  · have hI : b ≠ I := fun q => by rw [q, n] at e; cases e
    obtain ⟨o', e'⟩ := g.alive b o e
    exact ⟨o', k b o' hI e'⟩

theorem St.fixedX (S : St c F mu H h) (g : Go F X mu h mu' h') (nx : ∀ b ∈ X, ∀ o, h.get? b = some o → ¬ Fixed o) (b : Addr) (o : Obj) (e : h.get? b = some o) (f : Fixed o) : h'.get? b = some o := by
  refine g.keep b o e (fun z => ?_) (fun z => ?_) (fun z => nx b z o e f)
  · obtain ⟨ob, h1, h2⟩ := S.ownAt z
    rw [e] at h1; cases h1; exact h2 f
  · obtain ⟨_, o', es, ep, h1, h2⟩ := S.frs b z
    rw [e] at h1; cases h1
    rcases f with ⟨_, vs, n, q⟩ | ⟨_, vs, q⟩ <;> rw [h2] at q <;> cases q
end

theorem cell_notFixed {h : Heap} {a : Addr} {v : Option Value} (x : h.IsCell a v) : ∀ o, h.get? a = some o → ¬ Fixed o := by
  obtain ⟨o, e, d⟩ := x
  intro o' e' f
  rw [e] at e'; cases e'
  rcases f with ⟨_, vs, n, q⟩ | ⟨_, vs, q⟩ <;> rw [d] at q <;> cases q
theorem ns_notFixed {h : Heap} {a : Addr} {m : Str → Option Value} (x : h.Ns a m) : ∀ o, h.get? a = some o → ¬ Fixed o := by
  obtain ⟨o, es, ep, e, d, _⟩ := x
  intro o' e' f
  rw [e] at e'; cases e'
  rcases f with ⟨_, vs, n, q⟩ | ⟨_, vs, q⟩ <;> rw [d] at q <;> cases q

section
variable {M : Model} {c : Cf} {F : List Addr} {L : Addr} {A : Around} {mu : Mu} {s : Shared} {H : Hp} {E : Value → Shared → Prop} {ns : List String} {env : Env} {g : Gm}

theorem FrR.own_notFixed {h : Heap} (R : FrR c F ns env g mu h) : ∀ b ∈ ow env, ∀ o, h.get? b = some o → ¬ Fixed o := by
  intro b hb
  rcases List.mem_cons.mp hb with rfl | hb
  · obtain ⟨m, h1, _⟩ := R.loc; exact ns_notFixed h1
  · obtain ⟨⟨n, a⟩, hm, rfl⟩ := List.mem_map.mp hb
    obtain ⟨_, _, _, _, v, x⟩ := R.outs n a hm
    exact cell_notFixed x

theorem get_set {g : Gm} {i j : Nat} {v : V} (w : Option V) (e : (g.set i w)[j]? = some (some v)) : (i = j ∧ w = some v) ∨ (i ≠ j ∧ g[j]? = some (some v)) := by
  by_cases h : i = j
  · subst h
    rw [List.getElem?_set] at e
    simp at e
    exact .inl ⟨rfl, e.2⟩
  · rw [List.getElem?_set_ne h] at e; exact .inr ⟨h, e⟩

theorem nodup_ix {ns : List String} (nd : ns.Nodup) {i j : Nat} {n : String} (h1 : ns[i]? = some n) (h2 : ns[j]? = some n) : i = j := by
  exact (List.getElem?_inj (List.getElem?_eq_some_iff.mp h1).1 nd).mp (h1.trans h2.symm)

/-- a store to a name of the frame -/
theorem bind_snd {i : Nat} {n : String} {v : V} {x : Value} {Q : Unit → Shared → Prop} (S : St c F mu H s.heap) (R : FrR c F ns env g mu s.heap) (nd : ns.Nodup) (e1 : ns[i]? = some n)
    (hk : env.kindOf (Str.ofString n) = some .local ∨ env.kindOf (Str.ofString n) = some .cell) (hv : VR c.bs mu s.heap v x)
    (hQ : ∀ h' tk, St c F mu H h' → Go F (ow env) mu s.heap mu h' → FrR c F ns env (g.set i (some v)) mu h' → Q () { s with heap := h', toks := tk }) : wpAny M A (storeName env (Str.ofString n) x) Q E s := by
  have hp : (env.scope.kind == .class || (env.scope.kind == .module && env.locals != env.globals)) = false := by rw [R.kind]; rfl
  rcases hk with hk | hk
  · obtain ⟨m, h1, h2⟩ := R.loc
    refine wpAny_storeName_local hk h1 (fun h' e2 e3 => ?_) hp
    have k : ∀ b o, b ≠ env.locals → s.heap.get? b = some o → h'.get? b = some o := fun b o hb e => e3.extBut b o hb e
    have nf := ns_notFixed h1
    have fx : ∀ b o, s.heap.get? b = some o → Fixed o → h'.get? b = some o := fun b o e f => k b o (fun q => nf o (q ▸ e) f) e
    obtain ⟨oL, es, ep, q1, q2, q3⟩ := id e2
    refine hQ h' _ (S.poke R.out R.new k (fun _ => ⟨oL, es, ep, q1, q2⟩) nf) (Go.poke (List.mem_cons_self ..) k ⟨oL, q1⟩) ?_
    refine ⟨R.kind, R.glob, R.blt, by rw [List.length_set]; exact R.len, ⟨_, e2, fun j n' v' f1 f2 f3 => ?_⟩, fun j n' v' f1 f2 f3 => ?_, R.out, fun n' a f1 => ?_, R.inj, R.has, ⟨oL, q1⟩, R.new⟩
    · by_cases hn : n' = n
      · subst hn
        rcases get_set _ f2 with ⟨_, w⟩ | ⟨w, _⟩
        · cases w; exact ⟨x, by simp, hv.mono fx fun _ _ e => e⟩
        · exact absurd (nodup_ix nd e1 f1) w
      · rcases get_set _ f2 with ⟨w, _⟩ | ⟨w, f2⟩
        · subst w; rw [e1] at f1; cases f1; exact absurd rfl hn
        · obtain ⟨y, a, b⟩ := h2 j n' v' f1 f2 f3
          refine ⟨y, ?_, b.mono fx fun _ _ e => e⟩
          rw [if_neg (fun q => hn (ofString_inj q))]; exact a
    · rcases get_set _ f2 with ⟨w, _⟩ | ⟨w, f2⟩
      · subst w; rw [e1] at f1; cases f1; rw [hk] at f3; rcases f3 with f3 | f3 <;> cases f3
      · obtain ⟨a, y, b1, b2, b3⟩ := R.cel j n' v' f1 f2 f3
        obtain ⟨_, _, o3, _⟩ := R.outs _ a (PySem.mem_of_lookup b1)
        exact ⟨a, y, b1, b2.sameBut e3 o3, b3.mono fx fun _ _ e => e⟩
    · obtain ⟨o1, o2, o3, o4, v', y⟩ := R.outs n' a f1
      exact ⟨o1, o2, o3, o4, v', y.sameBut e3 o3⟩
  · obtain ⟨a, ha⟩ := Option.isSome_iff_exists.mp (R.has _ hk)
    obtain ⟨o1, o2, o3, o4, v₀, y⟩ := R.outs _ a (PySem.mem_of_lookup ha)
    refine wpAny_storeName_cell R.kind hk ha y fun h' e2 e3 => ?_
    have k : ∀ b o, b ≠ a → s.heap.get? b = some o → h'.get? b = some o := fun b o hb e => e3.extBut b o hb e
    have nf := cell_notFixed y
    have fx : ∀ b o, s.heap.get? b = some o → Fixed o → h'.get? b = some o := fun b o e f => k b o (fun q => nf o (q ▸ e) f) e
    obtain ⟨oc, q1, q2⟩ := id e2
    obtain ⟨oL, hL⟩ := R.cls
    have hs : ({ s with heap := h' } : Shared) = { s with heap := h', toks := s.toks } := rfl
    refine hQ h' s.toks (S.poke o1 o4 k (fun q => absurd q o2) nf) (Go.poke (List.mem_cons_of_mem _ (List.mem_map.mpr ⟨_, PySem.mem_of_lookup ha, rfl⟩)) k ⟨oc, q1⟩) ?_
    obtain ⟨m, h1, h2⟩ := R.loc
    refine ⟨R.kind, R.glob, R.blt, by rw [List.length_set]; exact R.len, ⟨m, h1.sameBut e3 (Ne.symm o3), fun j n' v' f1 f2 f3 => ?_⟩, fun j n' v' f1 f2 f3 => ?_, R.out, fun n' b f1 => ?_, R.inj, R.has, ⟨oL, k _ _ (Ne.symm o3) hL⟩, R.new⟩
    · rcases get_set _ f2 with ⟨w, _⟩ | ⟨w, f2⟩
      · subst w; rw [e1] at f1; cases f1; rw [hk] at f3; cases f3
      · obtain ⟨y, a, b⟩ := h2 j n' v' f1 f2 f3
        exact ⟨y, a, b.mono fx fun _ _ e => e⟩
    · by_cases hn : n' = n
      · subst hn
        rcases get_set _ f2 with ⟨_, w⟩ | ⟨w, _⟩
        · cases w; exact ⟨a, x, ha, e2, hv.mono fx fun _ _ e => e⟩
        · exact absurd (nodup_ix nd e1 f1) w
      · rcases get_set _ f2 with ⟨w, _⟩ | ⟨w, f2⟩
        · subst w; rw [e1] at f1; cases f1; exact absurd rfl hn
        · obtain ⟨a', y', b1, b2, b3⟩ := R.cel j n' v' f1 f2 f3
          have : a' ≠ a := fun q => hn (ofString_inj (name_of_addr R.inj (PySem.mem_of_lookup (q ▸ b1)) (PySem.mem_of_lookup ha)))
          exact ⟨a', y', b1, b2.sameBut e3 this, b3.mono fx fun _ _ e => e⟩
    · obtain ⟨p1, p2, p3, p4, v', y'⟩ := R.outs n' b f1
      refine ⟨p1, p2, p3, p4, ?_⟩
      by_cases q : b = a
      · subst q; exact ⟨_, e2⟩
      · exact ⟨v', y'.sameBut e3 q⟩

/-- what is no part of the frame turns -/
theorem FrR.goX {mu' : Mu} {X : List Addr} {h h' : Heap} (S : St c F mu H h) (G : Go F X mu h mu' h') (nx : ∀ b ∈ X, b ∉ ow env) (nf : ∀ b ∈ X, ∀ o, h.get? b = some o → ¬ Fixed o) (x : FrR c F ns env g mu h) : FrR c F ns env g mu' h' := by
  have fx := S.fixedX G nf
  have notNew : ∀ a o, h.get? a = some o → ¬ Own mu a → ¬ Own mu' a := fun a o e n z => (G.fresh a z).elim n fun q => by rw [e] at q; cases q
  have kc : ∀ a v, ¬ Own mu a → a ∉ F → a ∉ X → h.IsCell a v → h'.IsCell a v := fun a v n f z ⟨o, e, d⟩ => ⟨o, G.keep a o e n f z, d⟩
  obtain ⟨oL, hL⟩ := x.cls
  have nL : env.locals ∉ X := fun q => nx _ q (List.mem_cons_self ..)
  have kL : ∀ o, h.get? env.locals = some o → ∃ sl, h'.get? env.locals = some { o with slots := sl } := fun o e => by
    by_cases f : env.locals ∈ F
    · exact G.keepF _ o e f nL
    · exact ⟨o.slots, G.keep _ o e x.out f nL⟩
  have nC : ∀ n a, (n, a) ∈ env.cells → a ∉ X := fun n a hm q => nx _ q (List.mem_cons_of_mem _ (List.mem_map.mpr ⟨_, hm, rfl⟩))
  refine ⟨x.kind, x.glob, x.blt, x.len, ?_, fun i n v e1 e2 e3 => ?_, notNew _ _ hL x.out, fun n a e => ?_, x.inj, x.has, let ⟨_, e⟩ := kL _ hL; ⟨_, e⟩, x.new⟩
  · obtain ⟨m, h1, h2⟩ := x.loc
    refine ⟨m, Ns.slots h1 kL, fun i n v e1 e2 e3 => ?_⟩
    obtain ⟨y, a, b⟩ := h2 i n v e1 e2 e3
    exact ⟨y, a, b.mono fx G.ext⟩
  · obtain ⟨a, y, h1, h2, h3⟩ := x.cel i n v e1 e2 e3
    obtain ⟨o1, o2, _⟩ := x.outs _ a (PySem.mem_of_lookup h1)
    exact ⟨a, y, h1, kc _ _ o1 o2 (nC _ _ (PySem.mem_of_lookup h1)) h2, h3.mono fx G.ext⟩
  · obtain ⟨o1, o2, o3, o4, v, o, e1, e2⟩ := x.outs n a e
    exact ⟨notNew _ _ e1 o1, o2, o3, o4, v, kc _ _ o1 o2 (nC _ _ e) ⟨o, e1, e2⟩⟩
end
end Mine
end

section
/-! exceptions in flight: the frames that they pass are noted -/
namespace Mine
open PySem PySem.W PyProof.Rows
set_option maxRecDepth 100000

/-- the traceback's head, with its mark -/
noncomputable def FlyM (F : List Addr) (mu : Mu) (h₀ h : Heap) (l : Loc) (m : Value) : Prop :=
  ∃ oe vs T oT ts, h.get? l.a = some oe ∧ oe.data = .fields vs ∧ vs[1]? = some (.ref T) ∧ h₀.get? T = none ∧ ¬ Own mu T ∧ T ∉ F ∧ h.get? T = some oT ∧ oT.cls = .type "traceback" ∧ oT.data = .fields ts ∧ ts[3]? = some m

theorem FlyM.fly {F : List Addr} {mu : Mu} {h₀ h : Heap} {l : Loc} {m : Value} {L : Addr} (x : FlyM F mu h₀ h l m) (hm : m = .none ∨ m = rawInt L) : Fly F mu h₀ h l L := by
  obtain ⟨oe, vs, T, oT, ts, h1, h2, h3, h4, h5, h6, h7, h8, h9, h10⟩ := x
  exact ⟨oe, vs, h1, h2, .inr ⟨T, oT, ts, m, h3, h4, h5, h6, h7, h8, h9, h10, hm⟩⟩

/-- what no record is stays, but for the frames' slots -/
noncomputable def Stay (F : List Addr) (h h' : Heap) : Prop := ∀ b o, h.get? b = some o → (Fixed o ∨ ∀ vs, o.data ≠ .fields vs) → ∃ sl, h'.get? b = some { o with slots := sl } ∧ (b ∉ F → sl = o.slots)
theorem Stay.refl (F : List Addr) (h : Heap) : Stay F h h := fun _ o e _ => ⟨o.slots, e, fun _ => rfl⟩
theorem Stay.trans {F : List Addr} {h h1 h2 : Heap} (x : Stay F h h1) (y : Stay F h1 h2) : Stay F h h2 := fun b o e n => by
  obtain ⟨sl, e1, q1⟩ := x b o e n
  obtain ⟨sl', e2, q2⟩ := y b _ e1 n
  exact ⟨sl', e2, fun q => (q2 q).trans (q1 q)⟩

section
variable {M : Model} {c : Cf} {F X : List Addr} {L : Addr} {A : Around} {mu mu₀ : Mu} {h₀ : Heap} {s : Shared} {H : Hp} {E : Value → Shared → Prop} {ns : List String} {env : Env} {g : Gm}

/-- the stack's frames are frames of F -/
structure Frames (A : Around) (F : List Addr) (env : Env) : Prop where
  at_ : ∃ outer, A.frames = some (env :: outer) ∧ ∀ e ∈ env :: outer, e.scope.kind ≠ .module ∧ ∃ b, e.frame = some b ∧ b ∈ F

theorem funFrames_of {h : Heap} (S : St c F mu H h) : ∀ {l : List Env}, (∀ e ∈ l, e.scope.kind ≠ .module ∧ ∃ b, e.frame = some b ∧ b ∈ F) → h.FunFrames c.bs l
  | [], _ => trivial
  | e :: r, x => by
    obtain ⟨h1, b, h2, h3⟩ := x e (.head _)
    obtain ⟨q, o, es, ep, e1, d⟩ := S.frs b h3
    exact ⟨h1, ⟨b, o, h2, q, e1, fun vs => by rw [d]; exact fun z => by cases z⟩, funFrames_of S fun e' he => x e' (.tail _ he)⟩

theorem St.setExc {h h' : Heap} (S : St c F mu H h) {x : Nat} {l : Loc} {C : String} {o : Obj} {vs : Array Value} {v : Value} (hl : mu[x]? = some l) (hx : H[x]? = some (.exc C)) (ho : h.get? l.a = some o) (hd : o.data = .fields vs)
    (h1 : h'.get? l.a = some (Obj.mapFields (·.setIfInBounds 1 v) o)) (k : ∀ b, b ≠ l.a → h'.get? b = h.get? b) : St c F mu H h' := by
  obtain ⟨e1, D, o', vs', q1, q2, q3, q4, q5, q6⟩ := S.objs _ _ _ hl hx
  rw [ho] at q2; cases q2
  rw [hd] at q4; cases q4
  have T := S.turn (o := .exc C) (h' := h') hl (fun b hb _ => k b hb) ⟨e1, D, _, _, q1, h1, (Obj.cls_mapFields ..).trans q3, Obj.data_mapFields hd _, by simpa using q5, by
    rw [Array.getElem?_setIfInBounds_ne (by decide)]; exact q6⟩
  have e : H.set x (.exc C) = H := by
    apply List.ext_getElem?
    intro j
    by_cases hj : x = j
    · subst hj; rw [List.getElem?_set_self (List.getElem?_eq_some_iff.mp hx).1, hx]
    · rw [List.getElem?_set_ne hj]
  rw [e] at T; exact T.1

theorem Go.fresh2 {h h' : Heap} (G : Go F X mu₀ h₀ mu h) (k : ∀ b o, h.get? b = some o → Own mu b ∨ h₀.get? b = none ∨ b ∈ F ∨ h'.get? b = some o) (kF : ∀ b o, h.get? b = some o → b ∈ F → ∃ sl, h'.get? b = some { o with slots := sl })
    (al : ∀ b o, h.get? b = some o → ∃ o', h'.get? b = some o') : Go F X mu₀ h₀ mu h' := by
  refine ⟨G.ext, fun b o e no nf nx => ?_, fun b o e f nx => ?_, G.fresh, fun b o e => ?_⟩
  · have e1 := G.keep b o e no nf nx
    rcases k b o e1 with q | q | q | q
    · rcases G.fresh b q with z | z
      · exact absurd z no
      · rw [z] at e; cases e
    · rw [q] at e; cases e
    · exact absurd q nf
    · exact q
  · obtain ⟨sl, e1⟩ := G.keepF b o e f nx
    obtain ⟨sl', e2⟩ := kF b _ e1 f
    exact ⟨sl', e2⟩
  · obtain ⟨o', e1⟩ := G.alive b o e
    exact al b o' e1

theorem St.slots {h h' : Heap} (S : St c F mu H h) {Fs : List Addr} (hF : ∀ b ∈ Fs, b ∈ F) (x : Heap.SlotsOnly Fs h h') : St c F mu H h' := by
  have k : ∀ b, b ∉ F → h'.get? b = h.get? b := fun b hb => x.2.1 b fun q => hb (hF b q)
  have fx : ∀ b o, h.get? b = some o → Fixed o → h'.get? b = some o := fun b o e f => by
    by_cases q : b ∈ F
    · obtain ⟨_, o', es, ep, e', d⟩ := S.frs b q
      rw [e] at e'; cases e'
      rcases f with ⟨_, vs, n, q⟩ | ⟨_, vs, q⟩ <;> rw [d] at q <;> cases q
    · rw [k b q]; exact e
  refine ⟨S.mods, fun b o e => ?_, S.len, fun i l o e1 e2 => ?_, S.apart, S.newB, S.notF, fun b q => ?_⟩
  · by_cases q : b ∈ F
    · rw [(S.frs b q).1] at e; cases e
    · rw [k b q]; exact S.stays b o e
  · have O := own_of_get e1
    exact (S.objs i l o e1 e2).mono fx (fun _ _ e => e) (k _ (S.notF _ O.1)) (k _ (S.notF _ O.2))
  · obtain ⟨q1, o, es, ep, e, d⟩ := S.frs b q
    obtain ⟨sl, e'⟩ := x.2.2 b o e
    exact ⟨q1, _, es, ep, e', d⟩

/-- a new entry of the traceback, for this frame -/
theorem entry_snd {x : Nat} {l : Loc} {C : String} {head : Value} {hn : Bool} {Q : Unit → Shared → Prop} (Fr : Frames A F env) (hf : env.frame = some L) (S : St c F mu H s.heap) (G : Go F X mu₀ h₀ mu s.heap)
    (hl : mu[x]? = some l) (hx : H[x]? = some (.exc C))
    (hQ : ∀ h', St c F mu H h' → Go F X mu₀ h₀ mu h' → FlyM F mu h₀ h' l (rawInt L) → Stay F s.heap h' → Q () { s with heap := h' }) :
    wpAny M A (do let a ← frameOf env; let pl ← entryPlaceOf L hn; let b ← EntryCells.newEntry head a .none (rawInt L) .none pl; setField (.ref l.a) 1 b) Q E s := by
  obtain ⟨outer, hfr, hout⟩ := Fr.at_
  obtain ⟨_, D, oe, vs, q1, he, q3, hd, q5, q6⟩ := S.objs _ _ _ hl hx
  refine wpAny_bind (wpAny_frameOf_fun hfr (funFrames_of S hout) hf fun h₁ hs₁ => ?_)
  have hsub : ∀ b ∈ (env :: outer).filterMap (·.frame), b ∈ F := fun b hb => by
    obtain ⟨e, he, hq⟩ := List.mem_filterMap.mp hb
    obtain ⟨_, b', hb', hF⟩ := hout e he
    rw [hb'] at hq; cases hq; exact hF
  have S₁ := S.slots hsub hs₁
  have O := own_of_get hl
  have he₁ : h₁.get? l.a = some oe := (hs₁.2.1 _ fun q => S.notF _ O.1 (hsub _ q)).trans he
  refine wpAny_bind (wpAny_entryPlaceOf fun pl hpl => ?_)
  unfold EntryCells.newEntry newFields
  refine wpAny_bind (wpAny_newObj_type ?_ (hpl.sizeOk5 _ _ _ _ _))
  generalize hTo : ({ cls := .type "traceback", data := .fields ([head, .ref L, .none, rawInt L, .none] ++ (if pl.isEmpty then List.replicate 6 Value.none else pl)).toArray } : Obj) = To
  have hTd : To.data = .fields ([head, .ref L, .none, rawInt L, .none] ++ (if pl.isEmpty then List.replicate 6 Value.none else pl)).toArray := by rw [← hTo]
  have he₂ := Heap.get?_push_of_some (h := h₁) To he₁
  refine wpAny_setField he₂ hd (by omega) ?_
  have hTe : h₁.objs.size ≠ l.a := Nat.ne_of_gt (Heap.lt_size he₁)
  have hd₃ := Obj.data_mapFields hd (·.setIfInBounds 1 (Value.ref h₁.objs.size))
  have he₃ := Heap.get?_update_self (Obj.mapFields (·.setIfInBounds 1 (Value.ref h₁.objs.size))) he₂ (Obj.isFreed_of_fields hd₃)
  have oth : ∀ b, b ≠ l.a → ((h₁.push To).update l.a (Obj.mapFields (·.setIfInBounds 1 (Value.ref h₁.objs.size)))).get? b = (h₁.push To).get? b := fun b hb => Heap.get?_update_other _ _ (Ne.symm hb)
  have hT₃ : ((h₁.push To).update l.a (Obj.mapFields (·.setIfInBounds 1 (Value.ref h₁.objs.size)))).get? h₁.objs.size = some To := (oth _ hTe).trans (Heap.get?_push_size h₁ (by rw [← hTo]; rfl))
  have S₂ := S₁.grow (stays_push h₁ To)
  have S₃ := S₂.setExc hl hx he₂ hd he₃ oth
  have frT : h₀.get? h₁.objs.size = none := by
    cases e : h₀.get? h₁.objs.size with
    | none => rfl
    | some o =>
      obtain ⟨o', e'⟩ := G.alive _ o e
      obtain ⟨sl, e2⟩ := hs₁.2.2 _ _ e'
      exact absurd (Heap.lt_size e2) (Nat.lt_irrefl _)
  have nT : h₁.get? h₁.objs.size = none := get_push_fresh _
  refine hQ _ S₃ ?_ ?_ ?_
  · refine G.fresh2 (fun b o e => ?_) (fun b o e f => ?_) fun b o e => ?_
    · by_cases q : b = l.a
      · exact .inl (q ▸ O.1)
      · by_cases f : b ∈ F
        · exact .inr (.inr (.inl f))
        · refine .inr (.inr (.inr ?_))
          rw [oth b q]
          exact Heap.get?_push_of_some _ ((hs₁.2.1 b fun z => f (hsub b z)).trans e)
    · obtain ⟨sl, e'⟩ := hs₁.2.2 b o e
      have q : b ≠ l.a := fun q => S.notF _ O.1 (q ▸ f)
      exact ⟨sl, by rw [oth b q]; exact Heap.get?_push_of_some _ e'⟩
    · obtain ⟨sl, e'⟩ := hs₁.2.2 b o e
      by_cases q : b = l.a
      · rw [q]; exact ⟨_, he₃⟩
      · exact ⟨_, by rw [oth b q]; exact Heap.get?_push_of_some _ e'⟩
  · refine ⟨_, _, h₁.objs.size, To, _, he₃, hd₃, ?_, frT, fun z => ?_, fun z => ?_, hT₃, by rw [← hTo], hTd, ?_⟩
    · rw [Array.getElem?_setIfInBounds_self_of_lt (by omega)]
    · obtain ⟨ob, z1, _⟩ := S₁.ownAt z
      rw [nT] at z1; cases z1
    · obtain ⟨_, o, _, _, z1, _⟩ := S₁.frs _ z
      rw [nT] at z1; cases z1
    · simp
  · intro b o e n
    obtain ⟨sl, e'⟩ := hs₁.2.2 b o e
    have q : b ≠ l.a := fun q => by
      rw [q, he] at e; cases e
      rcases n with (⟨n, _⟩ | ⟨n, _⟩) | n
      · rw [q3] at n; cases n
      · rw [q3] at n; cases n
      · exact n vs hd
    refine ⟨sl, by rw [oth b q]; exact Heap.get?_push_of_some _ e', fun f => ?_⟩
    have := hs₁.2.1 b fun z => f (hsub b z)
    rw [this, e] at e'
    exact (congrArg Obj.slots (Option.some.inj e')).symm

theorem note_snd {x : Nat} {l : Loc} {C : String} {Q : Unit → Shared → Prop} (Fr : Frames A F env) (hf : env.frame = some L) (S : St c F mu H s.heap) (hb : c.bs.StaysIn h₀) (G : Go F X mu₀ h₀ mu s.heap)
    (hl : mu[x]? = some l) (hx : H[x]? = some (.exc C)) (fly : Fly F mu h₀ s.heap l L)
    (hQ : ∀ h', St c F mu H h' → Go F X mu₀ h₀ mu h' → FlyM F mu h₀ h' l (rawInt L) → Stay F s.heap h' → Q () { s with heap := h' }) : wpAny M A (noteFrame (.ref l.a) env) Q E s := by
  obtain ⟨oe, vs, he, hd, hfl⟩ := fly
  unfold noteFrame
  simp only [hf]
  rcases hfl with h1 | ⟨T, oT, ts, m, h1, h2, h3, h4, h5, hcT, h6, h7, h8⟩
  · refine wpAny_bind (wpAny_field he hd h1 ?_)
    rw [if_neg (by decide)]
    exact entry_snd Fr hf S G hl hx hQ
  · refine wpAny_bind (wpAny_field he hd h1 ?_)
    rw [if_pos (show (Value.ref T != Value.none) = true from by simp)]
    refine wpAny_bind (wpAny_field h5 h6 h7 ?_)
    rcases h8 with rfl | rfl
    · rw [if_neg (show ¬ ((Value.none == rawInt L) = true) from by simp [rawInt])]
      refine wpAny_bind (wpAny_setField h5 h6 (Array.getElem?_eq_some_iff.mp h7).1 ?_)
      have hd' := Obj.data_mapFields h6 (·.setIfInBounds 3 Value.none)
      have hT' := Heap.get?_update_self (Obj.mapFields (·.setIfInBounds 3 Value.none)) h5 (Obj.isFreed_of_fields hd')
      have oth : ∀ b, b ≠ T → (s.heap.update T (Obj.mapFields (·.setIfInBounds 3 Value.none))).get? b = s.heap.get? b := fun b hb => Heap.get?_update_other _ _ (Ne.symm hb)
      have bsT : c.bs.get? T = none := by
        cases e : c.bs.get? T with
        | none => rfl
        | some o => have := hb T o e; rw [h2] at this; cases this
      have nf : ∀ o, s.heap.get? T = some o → ¬ Fixed o := fun o e => by
        rw [h5] at e; cases e
        rintro (⟨q, _⟩ | ⟨q, _⟩) <;> rw [hcT] at q <;> exact absurd q (by simp)
      have k1 : ∀ b o, b ≠ T → s.heap.get? b = some o → (s.heap.update T (Obj.mapFields (·.setIfInBounds 3 Value.none))).get? b = some o := fun b o hb e => (oth b hb).trans e
      have S' : St c F mu H (s.heap.update T (Obj.mapFields (·.setIfInBounds 3 Value.none))) := S.poke h3 bsT k1 (fun q => absurd q h4) nf
      have G' : Go F X mu₀ h₀ mu (s.heap.update T (Obj.mapFields (·.setIfInBounds 3 Value.none))) := by
        refine G.fresh2 (fun b o e => ?_) (fun b o e f => ⟨o.slots, k1 b o (fun q => h4 (q ▸ f)) e⟩) fun b o e => ?_
        · by_cases q : b = T
          · exact .inr (.inl (q ▸ h2))
          · exact .inr (.inr (.inr (k1 b o q e)))
        · by_cases q : b = T
          · rw [q]; exact ⟨_, hT'⟩
          · exact ⟨o, k1 b o q e⟩
      refine entry_snd (s := { s with heap := s.heap.update T (Obj.mapFields (·.setIfInBounds 3 Value.none)) }) Fr hf S' G' hl hx fun h' z1 z2 z3 z4 => hQ h' z1 z2 z3 ?_
      refine Stay.trans (fun b o e n => ⟨o.slots, k1 b o (fun q => ?_) e, fun _ => rfl⟩) z4
      rw [q] at e
      rcases n with n | n
      · exact nf o e n
      · rw [h5] at e; cases e; exact n ts h6
    · rw [if_pos (by simp)]
      exact wpAny_pure (hQ s.heap S G ⟨oe, vs, T, oT, ts, he, hd, h1, h2, h3, h4, h5, hcT, h6, h7⟩ (Stay.refl F s.heap))

theorem flight_snd {x : Nat} {l : Loc} {C : String} {m : Value} {fr : Option Addr} {Q : Unit → Shared → Prop} (S : St c F mu H s.heap) (hb : c.bs.StaysIn h₀) (G : Go F X mu₀ h₀ mu s.heap)
    (hl : mu[x]? = some l) (hx : H[x]? = some (.exc C)) (fly : FlyM F mu h₀ s.heap l m)
    (hQ : ∀ h', St c F mu H h' → Go F X mu₀ h₀ mu h' → FlyM F mu h₀ h' l (fr.elim .none fun f => rawInt f) → Stay F s.heap h' → Q () { s with heap := h' }) : wpAny M A (setFlight (.ref l.a) fr) Q E s := by
  obtain ⟨oe, vs, T, oT, ts, he, hd, h1, h2, h3, h4, h5, hcT, h6, h7⟩ := fly
  unfold setFlight
  refine wpAny_bind (wpAny_field he hd h1 ?_)
  rw [if_pos (show (Value.ref T != Value.none) = true from by simp)]
  have hz := (Array.getElem?_eq_some_iff.mp h7).1
  refine wpAny_setField h5 h6 hz ?_
  generalize (fr.elim Value.none fun f => rawInt f) = v at hQ ⊢
  have hd' := Obj.data_mapFields h6 (·.setIfInBounds 3 v)
  have hT' := Heap.get?_update_self (Obj.mapFields (·.setIfInBounds 3 v)) h5 (Obj.isFreed_of_fields hd')
  have oth : ∀ b, b ≠ T → (s.heap.update T (Obj.mapFields (·.setIfInBounds 3 v))).get? b = s.heap.get? b := fun b hb => Heap.get?_update_other _ _ (Ne.symm hb)
  have bsT : c.bs.get? T = none := by
    cases e : c.bs.get? T with
    | none => rfl
    | some o => have := hb T o e; rw [h2] at this; cases this
  have nf : ∀ o, s.heap.get? T = some o → ¬ Fixed o := fun o e => by
    rw [h5] at e; cases e
    rintro (⟨q, _⟩ | ⟨q, _⟩) <;> rw [hcT] at q <;> exact absurd q (by simp)
  have k1 : ∀ b o, b ≠ T → s.heap.get? b = some o → (s.heap.update T (Obj.mapFields (·.setIfInBounds 3 v))).get? b = some o := fun b o hb e => (oth b hb).trans e
  have hTl : T ≠ l.a := fun q => h3 (q ▸ (own_of_get hl).1)
  refine hQ _ (S.poke h3 bsT k1 (fun q => absurd q h4) nf) ?_ ?_ ?_
  · refine G.fresh2 (fun b o e => ?_) (fun b o e f => ⟨o.slots, k1 b o (fun q => h4 (q ▸ f)) e⟩) fun b o e => ?_
    · by_cases q : b = T
      · exact .inr (.inl (q ▸ h2))
      · exact .inr (.inr (.inr (k1 b o q e)))
    · by_cases q : b = T
      · rw [q]; exact ⟨_, hT'⟩
      · exact ⟨o, k1 b o q e⟩
  · exact ⟨oe, vs, T, _, _, k1 _ _ (Ne.symm hTl) he, hd, h1, h2, h3, h4, hT', (Obj.cls_mapFields ..).trans hcT, hd', by rw [Array.getElem?_setIfInBounds_self_of_lt hz]⟩
  · refine fun b o e n => ⟨o.slots, k1 b o (fun q => ?_) e, fun _ => rfl⟩
    rw [q] at e
    rcases n with n | n
    · exact nf o e n
    · rw [h5] at e; cases e; exact n ts h6

theorem leave_snd {x : Nat} {l : Loc} {C : String} {Q : Unit → Shared → Prop} (Fr : Frames A F env) (hf : env.frame = some L) (S : St c F mu H s.heap) (hb : c.bs.StaysIn h₀) (G : Go F X mu₀ h₀ mu s.heap)
    (hl : mu[x]? = some l) (hx : H[x]? = some (.exc C)) (fly : Fly F mu h₀ s.heap l L)
    (hQ : ∀ h', St c F mu H h' → Go F X mu₀ h₀ mu h' → FlyM F mu h₀ h' l .none → Q () { s with heap := h' }) : wpAny M A (leaving env (.ref l.a)) Q E s := by
  unfold leaving
  exact wpAny_bind (note_snd Fr hf S hb G hl hx fly fun h1 a1 a2 a3 _ => flight_snd (s := { s with heap := h1 }) a1 hb a2 hl hx a3 fun h2 b1 b2 b3 _ => hQ h2 b1 b2 b3)

theorem Stay.fixed {h h' : Heap} (S : St c F mu H h) (x : Stay F h h') (b : Addr) (o : Obj) (e : h.get? b = some o) (f : Fixed o) : h'.get? b = some o := by
  obtain ⟨sl, e', q⟩ := x b o e (.inl f)
  have : b ∉ F := fun z => by
    obtain ⟨_, o', es, ep, h1, h2⟩ := S.frs b z
    rw [e] at h1; cases h1
    rcases f with ⟨_, vs, n, q⟩ | ⟨_, vs, q⟩ <;> rw [h2] at q <;> cases q
  rw [q this] at e'; exact e'

theorem FrR.stay {h h' : Heap} (S : St c F mu H h) (R : FrR c F ns env g mu h) (x : Stay F h h') : FrR c F ns env g mu h' := by
  have fx := Stay.fixed S x
  have kc : ∀ a v, a ∉ F → h.IsCell a v → h'.IsCell a v := fun a v nf ⟨o, e, d⟩ => by
    obtain ⟨sl, e', q⟩ := x a o e (.inr fun vs => by rw [d]; exact fun z => by cases z)
    rw [q nf] at e'; exact ⟨o, e', d⟩
  obtain ⟨m, h1, h2⟩ := R.loc
  have kL : ∀ o, h.get? env.locals = some o → ∃ sl, h'.get? env.locals = some { o with slots := sl } := fun o e => by
    obtain ⟨o', es, ep, e', d, _⟩ := id h1
    rw [e] at e'; cases e'
    obtain ⟨sl, e', _⟩ := x _ o e (.inr fun vs => by rw [d]; exact fun z => by cases z)
    exact ⟨sl, e'⟩
  obtain ⟨oL, hL⟩ := R.cls
  refine ⟨R.kind, R.glob, R.blt, R.len, ⟨m, Ns.slots h1 kL, fun i n v e1 e2 e3 => ?_⟩, fun i n v e1 e2 e3 => ?_, R.out, fun n a e => ?_, R.inj, R.has, let ⟨_, e⟩ := kL _ hL; ⟨_, e⟩, R.new⟩
  · obtain ⟨y, a, b⟩ := h2 i n v e1 e2 e3
    exact ⟨y, a, b.mono fx fun _ _ e => e⟩
  · obtain ⟨a, y, b1, b2, b3⟩ := R.cel i n v e1 e2 e3
    obtain ⟨o1, o2, _⟩ := R.outs _ a (PySem.mem_of_lookup b1)
    exact ⟨a, y, b1, kc _ _ o2 b2, b3.mono fx fun _ _ e => e⟩
  · obtain ⟨o1, o2, o3, o4, v, y⟩ := R.outs n a e
    exact ⟨o1, o2, o3, o4, v, kc _ _ o2 y⟩
end
end Mine
end

section
/-! statements: what they give, how they are put together -/
namespace Mine
open PySem PySem.W PyProof.Rows
set_option maxRecDepth 100000

noncomputable def QS (c : Cf) (F : List Addr) (ns : List String) (env : Env) (mu : Mu) (s : Shared) (r : RS) (f : Flow) (s' : Shared) : Prop :=
  ∃ mu', Go F (ow env) mu s.heap mu' s'.heap ∧ s'.gens = s.gens ∧ s'.os = s.os ∧
    ((∃ g' H', r = .nx g' H' ∧ f = .next ∧ St c F mu' H' s'.heap ∧ FrR c F ns env g' mu' s'.heap) ∨ (∃ v H' x, r = .ret v H' ∧ f = .ret x ∧ St c F mu' H' s'.heap ∧ VR c.bs mu' s'.heap v x))
noncomputable def QSE (c : Cf) (F : List Addr) (L : Addr) (ns : List String) (env : Env) (mu : Mu) (s : Shared) (r : RS) (e : Value) (s' : Shared) : Prop :=
  ∃ x g' H' mu' l C, r = .exc x g' H' ∧ St c F mu' H' s'.heap ∧ Go F (ow env) mu s.heap mu' s'.heap ∧ FrR c F ns env g' mu' s'.heap ∧ mu'[x]? = some l ∧ H'[x]? = some (.exc C) ∧ e = .ref l.a ∧ Fly F mu' s.heap s'.heap l L ∧ s'.gens = s.gens ∧ s'.os = s.os

noncomputable def SndS (M : Model) (c : Cf) (F : List Addr) (L : Addr) (A : Around) (ns : List String) (env : Env) (mu : Mu) (s : Shared) (t : Sem Flow) (r : RS) : Prop :=
  r ≠ .bad → wpAny M A t (QS c F ns env mu s r) (QSE c F L ns env mu s r) s

section
variable {M : Model} {c : Cf} {F : List Addr} {L : Addr} {A : Around} {mu mu1 : Mu} {s s1 : Shared} {H : Hp} {E : Value → Shared → Prop} {ns : List String} {env : Env} {g : Gm} {α β : Type}

theorem QS.back {r : RS} {f : Flow} {s' : Shared} (x : QS c F ns env mu1 s1 r f s') (G : Go F (ow env) mu s.heap mu1 s1.heap) (eg : s1.gens = s.gens) (eo : s1.os = s.os) : QS c F ns env mu s r f s' := by
  obtain ⟨mu', G', e1, e2, x⟩ := x
  exact ⟨mu', G.trans G', e1.trans eg, e2.trans eo, x⟩
theorem QSE.back {r : RS} {e : Value} {s' : Shared} (x : QSE c F L ns env mu1 s1 r e s') (G : Go F (ow env) mu s.heap mu1 s1.heap) (eg : s1.gens = s.gens) (eo : s1.os = s.os) : QSE c F L ns env mu s r e s' := by
  obtain ⟨x, g', H', mu', l, C, h1, h2, h3, h4, h5, h6, h7, h8, h9, h10⟩ := x
  exact ⟨x, g', H', mu', l, C, h1, h2, G.trans h3, h4, h5, h6, h7, h8.back G, h9.trans eg, h10.trans eo⟩
theorem QSE.as {r r' : RS} (h : ∀ x g H, r = .exc x g H → r' = .exc x g H) {e : Value} {s' : Shared} (x : QSE c F L ns env mu s r e s') : QSE c F L ns env mu s r' e s' := by
  obtain ⟨x, g', H', mu', l, C, h1, h2⟩ := x
  exact ⟨x, g', H', mu', l, C, h _ _ _ h1, h2⟩

theorem QE.toS {r : R α} {r' : RS} (S : St c F mu H s.heap) (R : FrR c F ns env g mu s.heap) (h : ∀ x H, r = .exc x H → r' = .exc x g H) {e : Value} {s' : Shared} (x : QE c F L mu s r e s') : QSE c F L ns env mu s r' e s' := by
  obtain ⟨x, H', mu', l, C, h1, h2, h3, h4, h5, h6, h7, h8, h9⟩ := x
  exact ⟨x, g, H', mu', l, C, h _ _ h1, h2, h3.wide0, R.go S h3, h4, h5, h6, h7, h8, h9⟩

theorem SndS.cons {st : Stmt} {rest : List Stmt} {r : RS} {k : Gm → Hp → RS} (h1 : SndS M c F L A ns env mu s (exec st env) r)
    (h2 : ∀ g' H' mu' s', r = .nx g' H' → St c F mu' H' s'.heap → FrR c F ns env g' mu' s'.heap → Go F (ow env) mu s.heap mu' s'.heap → SndS M c F L A ns env mu' s' (execs rest env) (k g' H')) :
    SndS M c F L A ns env mu s (execs (st :: rest) env) (match r with | .nx g h => k g h | o => o) := by
  intro hb
  have hr : r ≠ .bad := fun e => hb (by rw [e])
  refine wpAny_execs_cons (wpAny_mono (h1 hr) (fun f s' x => ?_) fun e s' x => ?_)
  · obtain ⟨mu', G, e1, e2, x⟩ := x
    rcases x with ⟨g', H', rfl, rfl, S', R'⟩ | ⟨v, H', y, rfl, rfl, S', V⟩
    · exact wpAny_mono (h2 g' H' mu' s' rfl S' R' G hb) (fun _ _ y => y.back G e1 e2) fun _ _ y => y.back G e1 e2
    · exact ⟨mu', G, e1, e2, .inr ⟨v, H', y, rfl, rfl, S', V⟩⟩
  · exact x.as fun x g H e => by rw [e]

theorem QS.next {H' : Hp} {mu' : Mu} {s' : Shared} {g' : Gm} (S : St c F mu' H' s'.heap) (R : FrR c F ns env g' mu' s'.heap) (G : Go F (ow env) mu s.heap mu' s'.heap) (eg : s'.gens = s.gens) (eo : s'.os = s.os) :
    QS c F ns env mu s (.nx g' H') .next s' := ⟨mu', G, eg, eo, .inl ⟨g', H', rfl, rfl, S, R⟩⟩

theorem ret_sndS {e : Expr} {pos : Pos} {r : R V} (S : St c F mu H s.heap) (R : FrR c F ns env g mu s.heap) (h : Snd M c F L A mu s (eval e env) r (VRl c)) :
    SndS M c F L A ns env mu s (exec (.Return (some e) pos) env) (r.bindS g fun v h => .ret v h) := by
  intro hb
  have hr : r ≠ .bad := fun e => hb (by rw [e]; rfl)
  refine wpAny_Return_some (wpAny_mono (h hr) (fun x s' q => ?_) fun e s' q => q.toS S R fun x H e => by rw [e]; rfl)
  obtain ⟨a, H', mu', rfl, S', G, V, eg, eo⟩ := q
  exact ⟨mu', G.wide0, eg, eo, .inr ⟨a, H', x, rfl, rfl, S', V⟩⟩
theorem asg_sndS {i : Nat} {n : String} {e : Expr} {pos pos' : Pos} {r : R V} (S : St c F mu H s.heap) (R : FrR c F ns env g mu s.heap) (nd : ns.Nodup) (e1 : ns[i]? = some n)
    (hk : env.kindOf (Str.ofString n) = some .local ∨ env.kindOf (Str.ofString n) = some .cell) (hs : swapsWith e (some (.Name (Str.ofString n) pos')) pos.line env = pure false)
    (h : Snd M c F L A mu s (eval e env) r (VRl c)) : SndS M c F L A ns env mu s (exec (.Assign [.Name (Str.ofString n) pos'] e pos) env) (r.bindS g fun v h => .nx (g.set i (some v)) h) := by
  intro hb
  have hr : r ≠ .bad := fun e => hb (by rw [e]; rfl)
  refine wpAny_Assign_Name (wpAny_mono (h hr) (fun x s' q => ?_) fun e s' q => q.toS S R fun x H e => by rw [e]; rfl) hs
  obtain ⟨a, H', mu', rfl, S', G, V, eg, eo⟩ := q
  exact bind_snd S' (R.go S G) nd e1 hk V fun h' tk S2 G2 R2 => QS.next S2 R2 (G.wide0.trans G2) eg eo

theorem if_sndS {test : Expr} {body orelse : List Stmt} {pos : Pos} {r : R V} {k1 k2 : Hp → RS} (S : St c F mu H s.heap) (R : FrR c F ns env g mu s.heap)
    (h : Snd M c F L A mu s (isTrue test env (eval test env)) r (fun v (b : Bool) _ _ => v = .bool b))
    (h1 : ∀ H' mu' s', St c F mu' H' s'.heap → FrR c F ns env g mu' s'.heap → Go F [] mu s.heap mu' s'.heap → SndS M c F L A ns env mu' s' (execs body env) (k1 H'))
    (h2 : ∀ H' mu' s', St c F mu' H' s'.heap → FrR c F ns env g mu' s'.heap → Go F [] mu s.heap mu' s'.heap → SndS M c F L A ns env mu' s' (execs orelse env) (k2 H')) :
    SndS M c F L A ns env mu s (exec (.If test body orelse pos) env) (r.bindS g fun v h => match truth v with | some true => k1 h | some false => k2 h | .none => .bad) := by
  intro hb
  have hr : r ≠ .bad := fun e => hb (by rw [e]; rfl)
  refine wpAny_If (wpAny_mono (h hr) (fun b s' q => ?_) fun e s' q => q.toS S R fun x H e => by rw [e]; rfl)
  obtain ⟨v, H', mu', rfl, S', G, rfl, eg, eo⟩ := q
  cases b with
  | true => exact wpAny_mono (h1 H' mu' s' S' (R.go S G) G hb) (fun _ _ y => y.back G.wide0 eg eo) fun _ _ y => y.back G.wide0 eg eo
  | false => exact wpAny_mono (h2 H' mu' s' S' (R.go S G) G hb) (fun _ _ y => y.back G.wide0 eg eo) fun _ _ y => y.back G.wide0 eg eo

end

section
variable {prog : Program} {c : Cf} {F : List Addr} {L : Addr} {A : Around} {mu mu1 : Mu} {s s1 : Shared} {H : Hp} {E : Value → Shared → Prop} {ns : List String} {env : Env} {g : Gm}
theorem expr_sndS {e : Expr} {pos : Pos} {r : R V} (S : St c F mu H s.heap) (R : FrR c F ns env g mu s.heap) (hi : interactive env = false) (hs : swapsWith e none pos.line env = pure false)
    (h : Snd (model prog c.w) c F L A mu s (eval e env) r (VRl c)) : SndS (model prog c.w) c F L A ns env mu s (exec (.Expr e pos) env) (r.bindS g fun _ h => .nx g h) := by
  intro hb
  have hr : r ≠ .bad := fun e => hb (by rw [e]; rfl)
  refine wpAny_Expr_any (wpAny_mono (h hr) (fun x s' q => ?_) fun e s' q => q.toS S R fun x H e => by rw [e]; rfl) hi hs
  obtain ⟨a, H', mu', rfl, S', G, V, eg, eo⟩ := q
  exact QS.next S' (R.go S G) G.wide0 eg eo
end
end Mine
end

section
/-! loops -/
namespace Mine
open PySem PySem.W PyProof.Rows
set_option maxRecDepth 100000

section
variable {M : Model} {c : Cf} {F : List Addr} {L : Addr} {A : Around} {mu mu1 : Mu} {s s1 : Shared} {H : Hp} {E : Value → Shared → Prop} {ns : List String} {env : Env} {g : Gm}

/-- an exception that leaves a loop -/
theorem noted_back (Fr : Frames A F env) (hf : env.frame = some L) (hb : c.bs.StaysIn s.heap) {r : RS} {e : Value} {s' : Shared} (x : QSE c F L ns env mu s r e s') :
    notedBy M A env (fun e s' => cameBackBy M A env (QSE c F L ns env mu s r) e s') e s' := by
  obtain ⟨x, g', H', mu', l, C, h1, h2, h3, h4, h5, h6, rfl, h8, h9, h10⟩ := x
  unfold notedBy
  refine note_snd Fr hf h2 hb h3 h5 h6 h8 fun hp1 a1 a2 a3 a4 => ?_
  unfold cameBackBy
  have a3' := a3
  obtain ⟨oe, vs, T, oT, ts, he, hd, hv, _⟩ := a3'
  refine wpAny_bind (wpAny_field he hd hv ?_)
  rw [if_neg (by simp)]
  rw [hf]
  refine flight_snd (s := { s' with heap := hp1 }) a1 hb a2 h5 h6 a3 fun hp2 b1 b2 b3 b4 => ?_
  exact ⟨x, g', H', mu', l, C, h1, b1, b2, (h4.stay h2 a4).stay a1 b4, h5, h6, rfl, b3.fly (.inr rfl), h9, h10⟩
end

section
variable {prog : Program} {c : Cf} {F : List Addr} {L : Addr} {A : Around} {mu mu1 : Mu} {s s1 : Shared} {H : Hp} {E : Value → Shared → Prop} {ns : List String} {env : Env} {g : Gm}

theorem while_sndS {test : Expr} {body : List Stmt} {pos : Pos} {cnd : Gm → Hp → R V} {bd : Gm → Hp → RS} {n : Nat} (Fr : Frames A F env) (hf : env.frame = some L) (S : St c F mu H s.heap) (R : FrR c F ns env g mu s.heap)
    (h1 : ∀ g' H' mu' s', St c F mu' H' s'.heap → FrR c F ns env g' mu' s'.heap → Snd (model prog c.w) c F L A mu' s' (isTrue test env (eval test env)) (cnd g' H') (fun v (b : Bool) _ _ => v = .bool b))
    (h2 : ∀ g' H' mu' s', St c F mu' H' s'.heap → FrR c F ns env g' mu' s'.heap → SndS (model prog c.w) c F L A ns env mu' s' (execs body env) (bd g' H')) :
    SndS (model prog c.w) c F L A ns env mu s (exec (.While test body [] pos) env) (whileL cnd bd n g H) := by
  intro hb
  generalize hrr : whileL cnd bd n g H = rr at hb ⊢
  refine wpAny_While (codeAny_whileLoop (fun k s' => ∃ g' H' mu', whileL cnd bd k g' H' = rr ∧ St c F mu' H' s'.heap ∧ FrR c F ns env g' mu' s'.heap ∧ Go F (ow env) mu s.heap mu' s'.heap ∧ s'.gens = s.gens ∧ s'.os = s.os) ?_ n
    ⟨g, H, mu, hrr, S, R, Go.refl .., rfl, rfl⟩)
  rintro k s' ⟨g1, H1, mu1, er, S1, R1, G1, eg, eo⟩
  cases k with
  | zero => exact absurd er.symm hb
  | succ k =>
    unfold whileL at er
    have hr : cnd g1 H1 ≠ .bad := fun e => hb (by rw [← er, e]; rfl)
    refine wpAny_mono (h1 g1 H1 mu1 s' S1 R1 hr) (fun b s2 q => ?_) fun e s2 q => noted_back Fr hf S.stays ((q.toS S1 R1 fun x H e => by rw [← er, e]; rfl).back G1 eg eo)
    obtain ⟨v, H2, mu2, e2, S2, G2, rfl, eg2, eo2⟩ := q
    rw [e2] at er
    have R2 := R1.go S1 G2
    have G12 := G1.trans (G2.wide0 (Y := ow env))
    have eg12 := eg2.trans eg
    have eo12 := eo2.trans eo
    cases b with
    | false =>
      have er : RS.nx g1 H2 = rr := er
      subst er
      exact wpAny_execs_nil (QS.next S2 R2 G12 eg12 eo12)
    | true =>
      have er : (match bd g1 H2 with | .nx g h => whileL cnd bd k g h | r => r) = rr := er
      have hr2 : bd g1 H2 ≠ .bad := fun e => hb (by rw [← er, e])
      refine wpAny_mono (h2 g1 H2 mu2 s2 S2 R2 hr2) (fun f s3 q => ?_) fun e s3 q => noted_back Fr hf S.stays ((q.as fun x g H e => by rw [← er, e]).back G12 eg12 eo12)
      obtain ⟨mu3, G3, eg3, eo3, q⟩ := q
      rcases q with ⟨g3, H3, e3, rfl, S3, R3⟩ | ⟨v, H3, y, e3, rfl, S3, V3⟩
      · rw [e3] at er
        exact ⟨k, Nat.lt_succ_self _, g3, H3, mu3, er, S3, R3, G12.trans G3, eg3.trans eg12, eo3.trans eo12⟩
      · rw [e3] at er
        exact ⟨mu3, G12.trans G3, eg3.trans eg12, eo3.trans eo12, .inr ⟨v, H3, y, er.symm, rfl, S3, V3⟩⟩

/-- targets: names of the frame -/
noncomputable def Tgt (ns : List String) (env : Env) (x : Nat) (t : Expr) : Prop := ∃ n p, t = .Name (Str.ofString n) p ∧ ns[x]? = some n ∧ (env.kindOf (Str.ofString n) = some .local ∨ env.kindOf (Str.ofString n) = some .cell)
inductive Tgts (ns : List String) (env : Env) : List Nat → List Expr → Prop
  | nil : Tgts ns env [] []
  | cons {x t xs ts} : Tgt ns env x t → Tgts ns env xs ts → Tgts ns env (x :: xs) (t :: ts)

theorem Tgts.each {xs : List Nat} {ts : List Expr} (h : Tgts ns env xs ts) : assignEach ts env = ts.map fun t => (false, assign t env) := by
  induction h with
  | nil => rfl
  | cons a _ ih =>
    obtain ⟨n, p, rfl, _⟩ := a
    show (false, assign _ env) :: assignEach _ env = _
    rw [ih]; rfl
theorem Tgts.len {xs : List Nat} {ts : List Expr} (h : Tgts ns env xs ts) : xs.length = ts.length := by
  induction h with
  | nil => rfl
  | cons a _ ih => simp [ih]

theorem assigns_snd {xs : List Nat} {ts : List Expr} (nd : ns.Nodup) (h : Tgts ns env xs ts) : ∀ {g g' : Gm} {vs : List V} {cs : List Value} {s : Shared} {Q : Unit → Shared → Prop}, St c F mu H s.heap → FrR c F ns env g mu s.heap → VRs c.bs mu s.heap vs cs → bindAll xs vs g = some g' →
    (∀ h' tk, St c F mu H h' → Go F (ow env) mu s.heap mu h' → FrR c F ns env g' mu h' → Q () { s with heap := h', toks := tk }) → wpAny (model prog c.w) A (assignInOrder (ts.map fun t => assign t env) cs) Q E s := by
  induction h with
  | nil =>
    intro g g' vs cs s Q S R V e hQ
    cases vs with
    | nil => simp only [bindAll] at e; cases e; exact wpAny_pure (hQ s.heap s.toks S (Go.refl ..) R)
    | cons _ _ => simp [bindAll] at e
  | cons a _ ih =>
    intro g g' vs cs s Q S R V e hQ
    cases vs with
    | nil => simp [bindAll] at e
    | cons v vs =>
      simp only [VRs] at V
      obtain ⟨y, r, rfl, V1, V2⟩ := V
      simp only [bindAll] at e
      obtain ⟨n, p, rfl, e1, hk⟩ := a
      refine wpAny_bind (wpAny_holding (wpAny_assign_Name (bind_snd S R nd e1 hk V1 fun h' tk S' G' R' => ?_)))
      exact ih (s := { s with heap := h', toks := tk }) S' R' (V2.mono (S.fixedX G' R.own_notFixed) G'.ext) e fun h'' tk'' S'' G'' R'' => hQ h'' tk'' S'' (G'.trans G'') R''

theorem bindAll_len : ∀ {xs : List Nat} {l : List V} {g g' : Gm}, bindAll xs l g = some g' → xs.length = l.length
  | [], [], _, _, _ => rfl
  | [], _ :: _, _, _, e => by simp [bindAll] at e
  | _ :: _, [], _, _, e => by simp [bindAll] at e
  | x :: xs, v :: l, g, g', e => by simp only [bindAll] at e; simp [bindAll_len e]
/-- a for's target is bound -/
theorem target_snd {xs : List Nat} {t : Expr} {v : V} {x : Value} {g g' : Gm} {Q : Unit → Shared → Prop} (hh : A.handled = none) (nd : ns.Nodup) (S : St c F mu H s.heap) (R : FrR c F ns env g mu s.heap) (V0 : VR c.bs mu s.heap v x)
    (ht : (∃ k, xs = [k] ∧ Tgt ns env k t) ∨ (∃ ts n p, t = .Tuple ts n p ∧ Tgts ns env xs ts ∧ xs.length ≠ 1)) (e : bindT xs v g H = some g')
    (hQ : ∀ h' tk, St c F mu H h' → Go F (ow env) mu s.heap mu h' → FrR c F ns env g' mu h' → Q () { s with heap := h', toks := tk }) : wpAny (model prog c.w) A (assign t env x) Q E s := by
  rcases ht with ⟨k, rfl, n, p, rfl, e1, hk⟩ | ⟨ts, n, p, rfl, h, h1⟩
  · simp only [bindT] at e; cases e
    exact wpAny_assign_Name (bind_snd S R nd e1 hk V0 hQ)
  · have ex : ∃ l, v = .tup l ∧ bindAll xs l g = some g' := by
      unfold bindT at e
      split at e
      · simp at h1
      · split at e
        · exact ⟨_, rfl, e⟩
        · cases e
    obtain ⟨l, hv, eb⟩ := ex
    subst hv
    simp only [VR] at V0
    obtain ⟨a, o, n', vs, rfl, q1, q2, q3, q4, q5⟩ := V0
    have hl : xs.length = l.length := bindAll_len eb
    refine wpAny_assign_Tuple hh (items := vs) ⟨o, q1, q2, n', q3⟩ (by rw [h.each, List.length_map, ← h.len, hl, q4.size]) ?_ fun h' e1 => ?_
    · rw [h.each]
      clear hQ hl q4
      induction ts with
      | nil => rfl
      | cons t ts ih => simp
    · have k : s.heap.StaysIn h' := fun b o e => e1 b o (fun q => Nat.lt_irrefl _ (q ▸ Heap.lt_size e)) e
      have : (assignEach ts env).map (·.2) = ts.map fun t => assign t env := by rw [h.each]; simp
      rw [this]
      have G : Go F (ow env) mu s.heap mu h' := .grow k
      exact assigns_snd (s := { s with heap := h' }) nd h (S.grow k) (R.go S (.grow k)) (q4.mono (fun b o e _ => k b o e) fun _ _ e => e) eb fun h'' tk S' G' R' => hQ h'' tk S' (G.trans G') R'

theorem It.cls {I : Addr} {src : V} {k : Nat} {h : Heap} (x : It c I src k mu h) : ∃ o n, h.get? I = some o ∧ o.cls = .type n ∧ (["enumerate", "zip", "dict_itemiterator", "dict_reverseitemiterator", "odict_iterator", "itertools.zip_longest", "itertools.pairwise"].contains n) = false ∧ ∀ es ep, o.data ≠ .dict es ep := by
  unfold It at x
  split at x
  · obtain ⟨l, _, o, h1, h2, h3⟩ := x
    exact ⟨o, _, h1, h2, by decide, fun es ep => by rw [h3]; exact fun q => nomatch q⟩
  · obtain ⟨a, items, ⟨o, h1, h2, h3⟩, _⟩ := x
    exact ⟨o, _, h1, h2, by decide, fun es ep => by rw [h3]; exact fun q => nomatch q⟩
  · obtain ⟨_, _, ty, t, h0, o, h1, h2, h3⟩ := x
    exact ⟨o, ty, h1, h2, by rcases h0 with rfl | rfl <;> decide, fun es ep => by rw [h3]; exact fun q => nomatch q⟩
  · exact ⟨_, _, x.2.2, rfl, by decide, fun es ep q => nomatch q⟩
  · exact x.elim

theorem letOwned_snd {I : Addr} {src : V} {k : Nat} {t : Expr} {x : Value} {M : Model} {Q : Unit → Shared → Prop} (it : It c I src k mu s.heap) (h : Q () s) : wpAny M A (letOwnedTupleGo t (.ref I) x) Q E s := by
  obtain ⟨o, n, h1, h2, h3, _⟩ := it.cls
  have go : wpAny M A (match (Value.ref I, x) with
    | (.ref r, .ref a) => do
      let o ← load r
      match o.cls, o.data with
      | .type n, .fields vs =>
        if ["enumerate", "zip", "dict_itemiterator", "dict_reverseitemiterator", "odict_iterator", "itertools.zip_longest", "itertools.pairwise"].contains n && vs[0]? == some (rawInt a) then
          rule "for.unpacks-the-owned-tuple"
          updateField r 0 .none
      | _, _ => pure ()
    | _ => pure ()) Q E s := by
    cases x <;> try exact wpAny_pure h
    refine wpAny_bind (wpAny_load h1 ?_)
    rw [h2]
    cases o.data <;> try exact wpAny_pure h
    dsimp only
    rw [h3, Bool.false_and, if_neg (by decide)]
    exact wpAny_pure h
  unfold letOwnedTupleGo
  cases t <;> first | exact wpAny_pure h | exact go

theorem Go.notOwn {X : List Addr} {h h' : Heap} {mu' : Mu} (G : Go F X mu h mu' h') {I : Addr} (n : ¬ Own mu I) {o : Obj} (e : h.get? I = some o) : ¬ Own mu' I := fun q => (G.fresh I q).elim n fun z => by rw [e] at z; cases z

theorem FrR.poked {I : Addr} {h h' : Heap} (R : FrR c F ns env g mu h) (S : St c F mu H h) (IO : ¬ Own mu I) (IF : I ∉ F) (Iow : I ∉ ow env) (k : ∀ b o, b ≠ I → h.get? b = some o → h'.get? b = some o) (nf : ∀ o, h.get? I = some o → ¬ Fixed o) : FrR c F ns env g mu h' := by
  have fx : ∀ b o, h.get? b = some o → Fixed o → h'.get? b = some o := fun b o e f => k b o (fun q => nf o (q ▸ e) f) e
  have nL : env.locals ≠ I := fun q => Iow (q ▸ List.mem_cons_self ..)
  have nC : ∀ n a, (n, a) ∈ env.cells → a ≠ I := fun n a hm q => Iow (q ▸ List.mem_cons_of_mem _ (List.mem_map.mpr ⟨_, hm, rfl⟩))
  have kc : ∀ a v, a ≠ I → h.IsCell a v → h'.IsCell a v := fun a v z ⟨o, e, d⟩ => ⟨o, k a o z e, d⟩
  obtain ⟨oL, hL⟩ := R.cls
  obtain ⟨m, ⟨o, es, ep, q1, q2⟩, h2⟩ := R.loc
  refine ⟨R.kind, R.glob, R.blt, R.len, ⟨m, ⟨o, es, ep, k _ _ nL q1, q2⟩, fun i n v e1 e2 e3 => ?_⟩, fun i n v e1 e2 e3 => ?_, R.out, fun n a e => ?_, R.inj, R.has, ⟨oL, k _ _ nL hL⟩, R.new⟩
  · obtain ⟨y, a, b⟩ := h2 i n v e1 e2 e3
    exact ⟨y, a, b.mono fx fun _ _ e => e⟩
  · obtain ⟨a, y, h1, h2, h3⟩ := R.cel i n v e1 e2 e3
    exact ⟨a, y, h1, kc _ _ (nC _ _ (PySem.mem_of_lookup h1)) h2, h3.mono fx fun _ _ e => e⟩
  · obtain ⟨o1, o2, o3, o4, v, y⟩ := R.outs n a e
    exact ⟨o1, o2, o3, o4, v, kc _ _ (nC _ _ e) y⟩

theorem for_sndS {target iter : Expr} {body : List Stmt} {pos : Pos} {xs : List Nat} {r : Mine.R V} {bd : Gm → Hp → RS} {n : Nat} (hh : A.handled = none) (Fr : Frames A F env) (hf : env.frame = some L) (nd : ns.Nodup) (S : St c F mu H s.heap) (R : FrR c F ns env g mu s.heap)
    (hs : ∀ x, foldedSetIterable iter env x = pure x) (ht : (∃ k, xs = [k] ∧ Tgt ns env k target) ∨ (∃ ts n p, target = .Tuple ts n p ∧ Tgts ns env xs ts ∧ xs.length ≠ 1))
    (h1 : Snd (model prog c.w) c F L A mu s (eval iter env) r (VRl c))
    (h2 : ∀ g' H' mu' s', St c F mu' H' s'.heap → FrR c F ns env g' mu' s'.heap → SndS (model prog c.w) c F L A ns env mu' s' (execs body env) (bd g' H')) :
    SndS (model prog c.w) c F L A ns env mu s (exec (.For target iter body [] pos) env) (r.bindS g fun src h => forL bd xs src n 0 g h) := by
  intro hb
  have hr : r ≠ .bad := fun e => hb (by rw [e]; rfl)
  refine wpAny_For (wpAny_mono (h1 hr) (fun x s1 q => ?_) fun e s2 q => q.toS S R fun x H e => by rw [e]; rfl) hs
  obtain ⟨src, H1, mu1, rfl, S1, G1, V1, eg1, eo1⟩ := q
  have R1 := R.go S G1
  replace hb : forL bd xs src n 0 g H1 ≠ .bad := hb
  show wpAny (model prog c.w) A (pyIter x) (fun it s₂ => codeAny _ _ _ (fun r s' => match r with | .ok f => QS c F ns env mu s (forL bd xs src n 0 g H1) f s' | .error e => cameBackBy _ A env (QSE c F L ns env mu s (forL bd xs src n 0 g H1)) e s') s₂) _ s1
  generalize hrr : forL bd xs src n 0 g H1 = rr at hb ⊢
  have n0 : nth src H1 0 ≠ none := fun e => hb (by
    rw [← hrr]
    cases n with
    | zero => rfl
    | succ n => unfold forL; rw [e])
  refine pyIter_snd S1 V1 n0 fun o it0 => ?_
  have fI : s1.heap.get? s1.heap.objs.size = none := get_push_fresh _
  generalize s1.heap.objs.size = I at it0 fI ⊢
  have fI0 : s.heap.get? I = none := G1.gone fI
  have IF : I ∉ F := fun q => by obtain ⟨_, o, _, _, e, _⟩ := S1.frs I q; rw [fI] at e; cases e
  have Iow : I ∉ ow env := fun q => by
    rcases List.mem_cons.mp q with q | q
    · obtain ⟨o, e⟩ := R1.cls; rw [← q, fI] at e; cases e
    · obtain ⟨⟨nm, a⟩, hm, rfl⟩ := List.mem_map.mp q
      obtain ⟨_, _, _, _, v, o, e, _⟩ := R1.outs nm a hm
      rw [fI] at e; cases e
  have IO1 : ¬ Own mu1 I := fun q => by obtain ⟨ob, e, _⟩ := S1.ownAt q; rw [fI] at e; cases e
  have G01 : Go F (I :: ow env) mu s.heap mu1 (s1.heap.push o) := (G1.wide0).trans (.grow (stays_push _ _))
  have ex : ∀ {mu2 s2 e s3 r'}, Go F (I :: ow env) mu s.heap mu2 s2.heap → s2.gens = s.gens → s2.os = s.os → QSE c F L ns env mu2 s2 r' e s3 → (∀ x g H, r' = .exc x g H → rr = .exc x g H) →
      notedBy (model prog c.w) A env (fun e s' => cameBackBy (model prog c.w) A env (QSE c F L ns env mu s rr) e s') e s3 := by
    intro mu2 s2 e s3 r' G eg eo q as
    refine noted_back Fr hf S.stays ?_
    obtain ⟨x, g', H', mu', l, C, z1, z2, z3, z4, z5, z6, z7, z8, z9, z10⟩ := q
    exact ⟨x, g', H', mu', l, C, as _ _ _ z1, z2, (G.trans (z3.wide fun b hb => List.mem_cons_of_mem _ hb)).drop fI0 fun b o _ e => e, z4, z5, z6, z7, z8.back G, z9.trans eg, z10.trans eo⟩
  refine codeAny_forLoop_any (fun k s' => ∃ j g' H' mu', forL bd xs src k j g' H' = rr ∧ St c F mu' H' s'.heap ∧ FrR c F ns env g' mu' s'.heap ∧ It c I src j mu' s'.heap ∧ ¬ Own mu' I ∧ Go F (I :: ow env) mu s.heap mu' s'.heap ∧ s'.gens = s.gens ∧ s'.os = s.os) ?_ n
    ⟨0, g, H1, mu1, hrr, S1.grow (stays_push _ _), R1.go S1 (.grow (stays_push _ _)), it0, IO1, G01, eg1, eo1⟩
  rintro k s2 ⟨j, g2, H2, mu2, er, S2, R2, it2, IO2, G2, eg2, eo2⟩
  cases k with
  | zero => exact absurd er.symm hb
  | succ k =>
    unfold forL at er
    have bsI : c.bs.get? I = none := by
      cases e : c.bs.get? I with
      | none => rfl
      | some o => have := S1.stays I o e; rw [fI] at this; cases this
    have nfI : ∀ o, s2.heap.get? I = some o → ¬ Fixed o := fun o e => by
      obtain ⟨o', e', f, _⟩ := it2.at
      rw [e] at e'; cases e'; exact f
    cases hn : nth src H2 j with
    | none => rw [hn] at er; exact absurd er.symm hb
    | some ov =>
      rw [hn] at er
      cases ov with
      | none =>
        have er : RS.nx g2 H2 = rr := er
        subst er
        refine pyNext_end hh S2 it2 hn fun h' tk k1 => wpAny_execs_nil ?_
        have S3 : St c F mu2 H2 h' := S2.poke IO2 bsI k1 (fun q => absurd q IF) nfI
        refine QS.next S3 ?_ (G2.drop fI0 k1) eg2 eo2
        exact R2.poked S2 IO2 IF Iow k1 nfI
      | some v =>
        dsimp only at er
        cases hbt : bindT xs v g2 H2 with
        | none => rw [hbt] at er; exact absurd er.symm hb
        | some g3 =>
          rw [hbt] at er
          dsimp only at er
          refine pyNext_item hh S2 it2 hn fun x h3 tk V3 it3 k1 => ?_
          have S3 : St c F mu2 H2 h3 := S2.poke IO2 bsI k1 (fun q => absurd q IF) nfI
          obtain ⟨oI, eI, _⟩ := it3.at
          have Gp : Go F [I] mu2 s2.heap mu2 h3 := Go.poke (List.mem_singleton.mpr rfl) k1 ⟨oI, eI⟩
          have R3 := R2.goX S2 Gp (fun b hb => by rw [List.mem_singleton.mp hb]; exact Iow) (fun b hb o e => by rw [List.mem_singleton.mp hb] at e; exact nfI o e)
          have V3' := V3.mono (S2.fixedX Gp fun b hb o e => by rw [List.mem_singleton.mp hb] at e; exact nfI o e) fun _ _ e => e
          refine letOwned_snd (s := { s2 with heap := h3, toks := tk }) it3 ?_
          refine target_snd (s := { s2 with heap := h3, toks := tk }) hh nd S3 R3 V3' ht hbt fun h4 tk4 S4 G4 R4 => ?_
          have G34 : Go F (I :: ow env) mu s.heap mu2 h4 := (G2.trans (Gp.wide fun b hb => by rw [List.mem_singleton.mp hb]; exact List.mem_cons_self ..)).trans (G4.wide fun b hb => List.mem_cons_of_mem _ hb)
          have it4 : It c I src (j + 1) mu2 h4 := it3.mono (fun o e => G4.keep I o e IO2 IF Iow) (S3.fixedX G4 R3.own_notFixed) fun _ _ e => e
          have hr2 : bd g3 H2 ≠ .bad := fun e => hb (by rw [← er, e])
          refine wpAny_mono (h2 g3 H2 mu2 { s2 with heap := h4, toks := tk4 } S4 R4 hr2) (fun f s5 q => ?_) fun e s5 q => ex (s2 := { s2 with heap := h4, toks := tk4 }) G34 eg2 eo2 q fun x g H e => by rw [← er, e]
          obtain ⟨mu5, G5, eg5, eo5, q⟩ := q
          have G45 : Go F (I :: ow env) mu s.heap mu5 s5.heap := G34.trans (G5.wide fun b hb => List.mem_cons_of_mem _ hb)
          obtain ⟨oI4, eI4, _⟩ := it4.at
          rcases q with ⟨g5, H5, e5, rfl, S5, R5⟩ | ⟨v5, H5, y, e5, rfl, S5, V5⟩
          · rw [e5] at er
            exact ⟨k, Nat.lt_succ_self _, j + 1, g5, H5, mu5, er, S5, R5, it4.mono (fun o e => G5.keep I o e IO2 IF Iow) (S4.fixedX G5 R4.own_notFixed) G5.ext, G5.notOwn IO2 eI4, G45, eg5.trans eg2, eo5.trans eo2⟩
          · rw [e5] at er
            exact ⟨mu5, G45.drop fI0 fun b o _ e => e, eg5.trans eg2, eo5.trans eo2, .inr ⟨v5, H5, y, er.symm, rfl, S5, V5⟩⟩
end
end Mine
end

section
/-! calls of the text's own functions -/
namespace Mine
open PySem PySem.W PyProof.Rows
set_option maxRecDepth 100000

theorem zip_lookup : ∀ {ns : List Str} {vs : List Value}, vs.length = ns.length → ∀ n ∈ ns, ((ns.zip vs).lookup n).isSome = true
  | [], _, _, _, h => nomatch h
  | m :: ns, [], h, _, _ => by simp at h
  | m :: ns, v :: vs, h, n, hn => by
    simp only [List.zip_cons_cons, List.lookup_cons]
    cases e : n == m with
    | true => rfl
    | false =>
      rcases List.mem_cons.mp hn with q | q
      · subst q; simp at e
      · exact zip_lookup (by simpa using h) n q
theorem lookup_tail {α : Type} : ∀ {ns : List Str} {m : Str} {v : α} {l : List (Str × α)}, m ∉ ns → (ns.filterMap fun n => (((m, v) :: l).lookup n).map (n, ·)) = ns.filterMap fun n => (l.lookup n).map (n, ·)
  | [], _, _, _, _ => rfl
  | n :: ns, m, v, l, h => by
    have h1 : n ≠ m := fun q => h (q ▸ List.mem_cons_self ..)
    have h2 : m ∉ ns := fun q => h (List.mem_cons_of_mem _ q)
    have e : List.lookup n ((m, v) :: l) = List.lookup n l := by rw [List.lookup_cons, beq_eq_false_iff_ne.mpr h1]
    rw [List.filterMap_cons, List.filterMap_cons, e, lookup_tail h2]
theorem zip_back : ∀ {ns : List Str} {vs : List Value}, vs.length = ns.length → ns.Nodup → (ns.filterMap fun n => ((ns.zip vs).lookup n).map (n, ·)) = ns.zip vs
  | [], [], _, _ => rfl
  | [], _ :: _, h, _ => by simp at h
  | m :: ns, [], h, _ => by simp at h
  | m :: ns, v :: vs, h, nd => by
    obtain ⟨h1, h2⟩ := List.nodup_cons.mp nd
    rw [List.zip_cons_cons, List.filterMap_cons, List.lookup_cons, beq_self_eq_true]
    show (m, v) :: _ = _
    rw [lookup_tail h1, zip_back (by simpa using h) h2]

theorem bind_plain {fd : FuncData} {ps : List Arg} {vals : List Value} (hp : fd.params = ⟨[], ps, none, [], [], none, []⟩) (hd : fd.defaults = .none) (hl : vals.length = ps.length) (nd : (ps.map (·.arg)).Nodup) :
    bindArgs fd ⟨vals, []⟩ = pure ((ps.map (·.arg)).zip vals) := by
  have e1 : (ps.map (·.arg)).length = vals.length := by simp [hl]
  have hm : (List.filter (fun n => (((ps.map (·.arg)).zip vals).lookup n).isNone) (ps.map (·.arg))) = [] := by
    rw [List.filter_eq_nil_iff]
    intro n hn
    have := zip_lookup (vs := vals) e1.symm n hn
    cases q : ((ps.map (·.arg)).zip vals).lookup n with
    | none => rw [q] at this; cases this
    | some _ => simp
  have hz := zip_back (vs := vals) e1.symm nd
  have sq : seqItems? Value.none = pure none := rfl
  unfold bindArgs
  simp only [hp, hd, sq]
  simp [hl]
  rw [if_neg]
  · rw [← List.filterMap_map, hz]
  · have t : List.take ((List.map (fun x : Arg => x.arg) [] ++ List.map (fun x => x.arg) ps).length - (List.drop (#[].size (α := Value) - (List.map (fun x : Arg => x.arg) [] ++ List.map (fun x => x.arg) ps).length) ([] : List Value)).length) (List.map (fun x : Arg => x.arg) [] ++ List.map (fun x => x.arg) ps) = ps.map (·.arg) := by
      simp
      exact List.take_of_length_le (by simp)
    rw [t, hm]; simp

theorem cellsFrom_names : ∀ {l : List (Str × NameKind)} {N : Nat} {acc : List (Str × Addr)}, (cellsFrom N l acc).map (·.1) = ((l.filter fun x => x.2 == .cell).map (·.1)).reverse ++ acc.map (·.1)
  | [], _, _ => by simp [cellsFrom]
  | (n, k) :: r, N, acc => by
    rw [cellsFrom, List.filter_cons]
    cases h : k == NameKind.cell with
    | true => simp [cellsFrom_names]
    | false => simp [cellsFrom_names]
theorem lookup_of_mem {α : Type} : ∀ {l : List (Str × α)} {n : Str} {b : α}, (l.map (·.1)).Nodup → (n, b) ∈ l → l.lookup n = some b
  | [], _, _, _, h => nomatch h
  | (m, a) :: r, n, b, nd, h => by
    simp only [List.map_cons, List.nodup_cons] at nd
    rcases List.mem_cons.mp h with q | q
    · cases q; simp
    · have : n ≠ m := fun e => nd.1 (e ▸ List.mem_map.mpr ⟨_, q, rfl⟩)
      rw [List.lookup_cons, beq_eq_false_iff_ne.mpr this]
      exact lookup_of_mem nd.2 q
theorem cells_nodup {names : List (Str × NameKind)} {N : Nat} (nd : (names.map (·.1)).Nodup) : ((cellsFrom N names []).map (·.1)).Nodup := by
  rw [cellsFrom_names]
  simp only [List.map_nil, List.append_nil]
  exact List.pairwise_reverse.mpr ((nd.sublist (List.Sublist.map _ List.filter_sublist)).imp Ne.symm)
theorem cells_one {names : List (Str × NameKind)} {N : Nat} {n : Str} {b : Addr} (nd : (names.map (·.1)).Nodup) (h : (n, b) ∈ cellsFrom N names []) : (cellsFrom N names []).lookup n = some b := lookup_of_mem (cells_nodup nd) h
theorem cells_has {names : List (Str × NameKind)} {N : Nat} (nd : (names.map (·.1)).Nodup) (n : Str) (h : names.lookup n = some .cell) : ((cellsFrom N names []).lookup n).isSome = true := by
  have h1 : n ∈ (cellsFrom N names []).map (·.1) := by
    rw [cellsFrom_names]
    simp only [List.map_nil, List.append_nil, List.mem_reverse, List.mem_map, List.mem_filter]
    exact ⟨(n, .cell), ⟨PySem.mem_of_lookup h, by simp⟩, rfl⟩
  obtain ⟨⟨m, b⟩, h2, rfl⟩ := List.mem_map.mp h1
  rw [cells_one nd h2]; rfl

/-- the frames of the stack -/
noncomputable def FrA (A : Around) (F : List Addr) : Prop := ∃ l, A.frames = some l ∧ ∀ e ∈ l, e.scope.kind ≠ .module ∧ ∃ b, e.frame = some b ∧ b ∈ F
theorem Frames.frA {A : Around} {F : List Addr} {env : Env} (x : Frames A F env) : FrA A F := let ⟨_, h1, h2⟩ := x.at_; ⟨_, h1, h2⟩

/-- a frame's names, when it is entered -/
theorem bindL_of {kd : Str → Option NameKind} : ∀ {ns : List Str} {vs : List Value} {m : Str → Option Value} {i : Nat} {n : Str} {x : Value}, ns.Nodup → ns[i]? = some n → vs[i]? = some x → kd n = some .local → bindL kd (ns.zip vs) m n = some x
  | [], _, _, _, _, _, _, h, _, _ => by simp at h
  | _ :: _, [], _, _, _, _, _, _, h, _ => by simp at h
  | a :: ns, v :: vs, m, 0, n, x, nd, h1, h2, hk => by
    simp at h1 h2; subst h1 h2
    obtain ⟨nn, nd⟩ := List.nodup_cons.mp nd
    rw [List.zip_cons_cons, bindL, if_pos hk]
    have keep : ∀ {l : List Str} {us : List Value} {m : Str → Option Value}, a ∉ l → bindL kd (l.zip us) m a = m a := by
      intro l
      induction l with
      | nil => intro us m _; cases us <;> rfl
      | cons b l ih =>
        intro us m hb
        cases us with
        | nil => rfl
        | cons u us =>
          rw [List.zip_cons_cons, bindL, ih fun q => hb (List.mem_cons_of_mem _ q)]
          split
          · show (if a = b then some u else m a) = m a
            rw [if_neg (show ¬ a = b from fun q => hb (q ▸ List.mem_cons_self ..))]
          · rfl
    rw [keep nn]; simp
  | a :: ns, v :: vs, m, i + 1, n, x, nd, h1, h2, hk => by
    simp at h1 h2
    rw [List.zip_cons_cons, bindL]
    exact bindL_of (List.nodup_cons.mp nd).2 h1 h2 hk
theorem bindC_of {kd : Str → Option NameKind} : ∀ {ns : List Str} {vs : List Value} {m : Str → Option Value} {i : Nat} {n : Str} {x : Value}, ns.Nodup → ns[i]? = some n → vs[i]? = some x → kd n ≠ some .local → bindC kd (ns.zip vs) m n = some x
  | [], _, _, _, _, _, _, h, _, _ => by simp at h
  | _ :: _, [], _, _, _, _, _, _, h, _ => by simp at h
  | a :: ns, v :: vs, m, 0, n, x, nd, h1, h2, hk => by
    simp at h1 h2; subst h1 h2
    obtain ⟨nn, nd⟩ := List.nodup_cons.mp nd
    rw [List.zip_cons_cons, bindC, if_neg hk]
    have keep : ∀ {l : List Str} {us : List Value} {m : Str → Option Value}, a ∉ l → bindC kd (l.zip us) m a = m a := by
      intro l
      induction l with
      | nil => intro us m _; cases us <;> rfl
      | cons b l ih =>
        intro us m hb
        cases us with
        | nil => rfl
        | cons u us =>
          rw [List.zip_cons_cons, bindC, ih fun q => hb (List.mem_cons_of_mem _ q)]
          split
          · rfl
          · show (if a = b then some u else m a) = m a
            rw [if_neg (show ¬ a = b from fun q => hb (q ▸ List.mem_cons_self ..))]
    rw [keep nn]; simp
  | a :: ns, v :: vs, m, i + 1, n, x, nd, h1, h2, hk => by
    simp at h1 h2
    rw [List.zip_cons_cons, bindC]
    exact bindC_of (List.nodup_cons.mp nd).2 h1 h2 hk

section
variable {prog : Program} {c : Cf} {F : List Addr} {L : Addr} {A : Around} {mu mu1 : Mu} {s s1 : Shared} {H : Hp} {E : Value → Shared → Prop} {K : Frag}

/-- one frame more -/
theorem St.enter {L' : Addr} {h h' : Heap} (S : St c F mu H h) (k : h.StaysIn h') (fr : h.get? L' = none) (hd : ∃ o es ep, h'.get? L' = some o ∧ o.data = .dict es ep) : St c (L' :: F) mu H h' := by
  have S' := S.grow k
  refine ⟨S'.mods, S'.stays, S'.len, S'.objs, S'.apart, S'.newB, fun b z q => ?_, fun b q => ?_⟩
  · rcases List.mem_cons.mp q with rfl | q
    · obtain ⟨o, e, _⟩ := S.ownAt z; rw [fr] at e; cases e
    · exact S.notF b z q
  · rcases List.mem_cons.mp q with rfl | q
    · refine ⟨?_, hd⟩
      cases e : c.bs.get? b with
      | none => rfl
      | some o => have := S.stays b o e; rw [fr] at this; cases this
    · exact S'.frs b q
theorem St.left {L' : Addr} {h : Heap} (S : St c (L' :: F) mu H h) : St c F mu H h :=
  ⟨S.mods, S.stays, S.len, S.objs, S.apart, S.newB, fun b z q => S.notF b z (List.mem_cons_of_mem _ q), fun b q => S.frs b (List.mem_cons_of_mem _ q)⟩

theorem Go.left {L' : Addr} {X : List Addr} {mu' : Mu} {h h1 h' : Heap} (k : h.StaysIn h1) (G : Go (L' :: F) X mu h1 mu' h') (fr : h.get? L' = none) (fx : ∀ b ∈ X, h.get? b = none) : Go F [] mu h mu' h' := by
  refine ⟨G.ext, fun b o e no nf _ => G.keep b o (k b o e) no (fun q => ?_) fun q => ?_, fun b o e f _ => G.keepF b o (k b o e) (List.mem_cons_of_mem _ f) fun q => ?_, fun b z => (G.fresh b z).imp id fun q => ?_, fun b o e => G.alive b o (k b o e)⟩
  · rcases List.mem_cons.mp q with rfl | q
    · rw [fr] at e; cases e
    · exact nf q
  · rw [fx b q] at e; cases e
  · rw [fx b q] at e; cases e
  · cases e : h.get? b with
    | none => rfl
    | some o => rw [k b o e] at q; cases q

theorem call_core {a : Addr} {o : Obj} {fd : FuncData} {ps : List Arg} {body : List Stmt} {names : List String} {vs : List V} {xs : List Value} {r : RS}
    (S : St c F mu H s.heap) (V0 : VRs c.bs mu s.heap vs xs) (FA : FrA A F) (hroom : A.depth < recursionLimit) (hlim : c.bs.NoLimit)
    (ho : c.bs.get? a = some o) (hdata : o.data = .func fd) (hcd : c.bs.CodeRec fd.code fd.qualname) (hbody : fd.body = .stmts body) (hp : fd.params = ⟨[], ps, none, [], [], none, []⟩) (hd : fd.defaults = .none) (hclo : fd.closure = [])
    (hg : fd.globals = mainGlobals) (hbl : fd.builtins = builtinsNs) (hco : fd.scope.isCoroutine = false) (hgen : fd.scope.isGenerator = false) (hk : fd.scope.kind = .function)
    (nd : names.Nodup) (hn : (names.take ps.length).map Str.ofString = ps.map (·.arg)) (hlen : vs.length = ps.length) (hle : ps.length ≤ names.length)
    (hkind : ∀ p ∈ ps, fd.scope.names.lookup p.arg = some .local ∨ (fd.scope.names.lookup p.arg = some .cell))
    (ndn : (fd.scope.names.map (·.1)).Nodup)
    (h : ∀ env s1, env.scope = fd.scope → env.frame = some env.locals → Frames (A.deeper env) (env.locals :: F) env → St c (env.locals :: F) mu H s1.heap →
      FrR c (env.locals :: F) names env (vs.map some ++ List.replicate (names.length - ps.length) none) mu s1.heap →
      SndS (model prog c.w) c (env.locals :: F) env.locals (A.deeper env) names env mu s1 (execs body env) r) :
    r.back ≠ .bad → codeAny (model prog c.w) A (.call (.ref a) ⟨xs, []⟩) (fun q s' => match q with | .ok (.ret v) => QV c F mu s r.back (VRl c) v s' | .ok _ => False | .error e => QE c F L mu s r.back e s') s := by
  intro hb
  have hcells := fun N => cells_has (N := N) (names := fd.scope.names) ndn
  have hr : r ≠ .bad := fun e => hb (by rw [e]; rfl)
  have hx : xs.length = ps.length := by rw [V0.length, hlen]
  have ndp : (ps.map (·.arg)).Nodup := by
    rw [← hn]
    exact List.pairwise_map.mpr ((nd.sublist (List.take_sublist ..)).imp fun ne q => ne (ofString_inj q))
  refine (codeAny_call_cells (binds := (ps.map (·.arg)).zip xs) hroom (S.stays _ _ ho) hdata (hlim.keeps S.stays) ?_ hbody (bind_plain hp hd hx ndp) hclo ?_ (fun s1 IC => ?_) hco hgen hk)
  · obtain ⟨cc, oc, vs, tq, z1, z2, z3⟩ := hcd
    exact ⟨cc, oc, vs, tq, z1, S.stays _ _ z2, z3⟩
  · intro y hy
    have := (List.of_mem_zip hy).1
    obtain ⟨p, hp, e⟩ := List.mem_map.mp this
    rw [← e]
    rcases hkind p hp with q | q
    · exact .inl q
    · exact .inr ⟨q, hcells _ _ q⟩
  · generalize henv : callEnvC fd s.heap.objs.size a = env at IC ⊢
    have eL : env.locals = s.heap.objs.size := by rw [← henv]; rfl
    have eS : env.scope = fd.scope := by rw [← henv]; rfl
    have eF : env.frame = some env.locals := by rw [← henv]; rfl
    have eC : env.cells = cellsFrom (s.heap.objs.size + 1) fd.scope.names [] := by rw [← henv]; rfl
    have eG : env.globals = mainGlobals := by rw [← henv]; exact hg
    have eB : env.builtins = builtinsNs := by rw [← henv]; exact hbl
    have fL : s.heap.get? env.locals = none := by rw [eL]; exact get_push_fresh _
    have keep : s.heap.StaysIn s1.heap := IC.toInCall.keep
    obtain ⟨oL, es, ep, q1, q2, q3⟩ := id IC.toInCall.ns
    obtain ⟨hp1, tk1, es1⟩ := IC.toInCall.same
    have eg1 : s1.gens = s.gens := by rw [es1]
    have eo1 : s1.os = s.os := by rw [es1]
    have S1 : St c (env.locals :: F) mu H s1.heap := S.enter keep fL ⟨oL, es, ep, q1, q2⟩
    have fC : ∀ n b, (n, b) ∈ env.cells → s.heap.get? b = none := fun n b hm => by
      have := IC.above n b hm
      cases e : s.heap.get? b with
      | none => rfl
      | some ob => rw [eL] at this; exact absurd (Heap.lt_size e) (Nat.not_lt.mpr (Nat.le_of_lt this))
    have bsN : ∀ b, s.heap.get? b = none → c.bs.get? b = none := fun b e => by
      cases e' : c.bs.get? b with
      | none => rfl
      | some ob => have := S.stays b ob e'; rw [e] at this; cases this
    have notO : ∀ b, s.heap.get? b = none → ¬ Own mu b := fun b e z => by obtain ⟨ob, z1, _⟩ := S.ownAt z; rw [e] at z1; cases z1
    have V1 := V0.mono (fun b o e _ => keep b o e) (fun _ _ e => e) (h' := s1.heap)
    have par : ∀ (i : Nat) (n : String) (v : V), names[i]? = some n → (vs.map some ++ List.replicate (names.length - ps.length) none)[i]? = some (some v) → ∃ x, (ps.map (·.arg))[i]? = some (Str.ofString n) ∧ xs[i]? = some x ∧ VR c.bs mu s1.heap v x := by
      intro i n v h1 h2
      have hi : i < ps.length := by
        by_cases hi : i < ps.length
        · exact hi
        · rw [List.getElem?_append_right (by simp; omega)] at h2
          simp [List.getElem?_replicate] at h2
      rw [List.getElem?_append_left (by simp; omega), List.getElem?_map] at h2
      obtain ⟨v', hv, e⟩ := Option.map_eq_some_iff.mp h2
      cases e
      obtain ⟨x, hx1, hx2⟩ := V1.get hv
      have h3 : (names.take ps.length)[i]? = some n := by rw [List.getElem?_take_of_lt hi]; exact h1
      have h4 : ((names.take ps.length).map Str.ofString)[i]? = some (Str.ofString n) := by rw [List.getElem?_map, h3]; rfl
      rw [hn] at h4
      exact ⟨x, h4, hx1, hx2⟩
    have R1 : FrR c (env.locals :: F) names env (vs.map some ++ List.replicate (names.length - ps.length) none) mu s1.heap := by
      refine ⟨by rw [eS]; exact hk, eG, eB, by simp [hlen]; omega, ⟨_, IC.toInCall.ns, fun i n v h1 h2 h3 => ?_⟩, fun i n v h1 h2 h3 => ?_, notO _ fL, fun n b hm => ?_, IC.apart, fun n hn => ?_, ⟨oL, q1⟩, bsN _ fL⟩
      · obtain ⟨x, p1, p2, p3⟩ := par i n v h1 h2
        exact ⟨x, bindL_of ndp p1 p2 h3, p3⟩
      · obtain ⟨x, p1, p2, p3⟩ := par i n v h1 h2
        have hc : env.kindOf (Str.ofString n) = some .cell := by
          obtain ⟨p, hp, e⟩ := List.mem_map.mp (List.mem_of_getElem? p1)
          rcases hkind p hp with q | q
          · rw [e] at q
            have q' : env.kindOf (Str.ofString n) = some .local := by unfold Env.kindOf; rw [eS]; exact q
            rw [q'] at h3; rcases h3 with h3 | h3 <;> cases h3
          · rw [e] at q; unfold Env.kindOf; rw [eS]; exact q
        have hl := hcells (s.heap.objs.size + 1) (Str.ofString n) (by unfold Env.kindOf at hc; rw [eS] at hc; exact hc)
        rw [← eC] at hl
        obtain ⟨b, hb⟩ := Option.isSome_iff_exists.mp hl
        refine ⟨b, x, hb, ?_, p3⟩
        have := IC.cell _ b hb
        rw [bindC_of ndp p1 p2 (by rw [hc]; exact fun q => nomatch q)] at this
        exact this
      · have f := fC n b hm
        refine ⟨notO b f, fun q => ?_, fun q => ?_, bsN b f, ?_⟩
        · rcases List.mem_cons.mp q with q | q
          · have := IC.above n b hm; rw [q] at this; exact Nat.lt_irrefl _ this
          · obtain ⟨_, ob, _, _, z, _⟩ := S.frs b q; rw [f] at z; cases z
        · have := IC.above n b hm; rw [q] at this; exact Nat.lt_irrefl _ this
        · exact ⟨_, IC.cell n b (by rw [eC] at hm ⊢; exact cells_one ndn hm)⟩
      · rw [eC]; exact hcells _ _ (by unfold Env.kindOf at hn; rw [eS] at hn; exact hn)
    have Fr1 : Frames (A.deeper env) (env.locals :: F) env := by
      obtain ⟨l, h1, h2⟩ := FA
      refine ⟨⟨l, by simp [Around.deeper, h1], fun e he => ?_⟩⟩
      rcases List.mem_cons.mp he with rfl | he
      · exact ⟨by rw [eS, hk]; (intro q; cases q), _, eF, List.mem_cons_self ..⟩
      · obtain ⟨z1, b, z2, z3⟩ := h2 e he
        exact ⟨z1, b, z2, List.mem_cons_of_mem _ z3⟩
    have fow : ∀ b ∈ ow env, s.heap.get? b = none := fun b hb => by
      rcases List.mem_cons.mp hb with rfl | hb
      · exact fL
      · obtain ⟨⟨n, b'⟩, hm, rfl⟩ := List.mem_map.mp hb
        exact fC n b' hm
    refine wpAny_mono (h env s1 eS eF Fr1 S1 R1 hr) (fun f s2 q => ?_) fun e s2 q => ?_
    · obtain ⟨mu2, G2, eg2, eo2, q⟩ := q
      have G := Go.left keep G2 fL fow
      rcases q with ⟨g', H', rfl, rfl, S2, R2⟩ | ⟨v, H', y, rfl, rfl, S2, V2⟩
      · exact ⟨.none, H', mu2, rfl, S2.left, G, by simp only [VR], eg2.trans eg1, eo2.trans eo1⟩
      · exact ⟨v, H', mu2, rfl, S2.left, G, V2, eg2.trans eg1, eo2.trans eo1⟩
    · obtain ⟨x, g', H', mu2, l, C, rfl, S2, G2, R2, z1, z2, rfl, fly, eg2, eo2⟩ := q
      refine leave_snd Fr1 eF S2 S1.stays G2 z1 z2 fly fun h3 a1 a2 a3 => ?_
      obtain ⟨oe, ws, T, oT, ts, y1, y2, y3, y4, y5, y6, y7, y8, y9, y10⟩ := a3
      refine ⟨x, H', mu2, l, C, rfl, a1.left, Go.left keep a2 fL fow, z1, z2, rfl, ⟨oe, ws, y1, y2, .inr ⟨T, oT, ts, .none, y3, ?_, y5, fun q => y6 (List.mem_cons_of_mem _ q), y7, y8, y9, y10, .inl rfl⟩⟩, eg2.trans eg1, eo2.trans eo1⟩
      cases e : s.heap.get? T with
      | none => rfl
      | some ob => rw [keep T ob e] at y4; cases y4
end
end Mine
end

section
/-! the core's expressions against the text's -/
namespace Mine
open PySem PySem.W PyProof.Rows
set_option maxRecDepth 100000

/-- where a def or a method lies -/
noncomputable def fnAt (K : Frag) (f : Fid) : Option Addr :=
  if f.1 = "" then addrOf K f.2
  else match addrOf K f.1 with
    | some D => (match findIn K (.ref D) f.2 with | some (some (.ref a)) => some a | _ => none)
    | none => none
noncomputable def isFn (K : Frag) (a : Addr) : Bool := match K.lookup a with
  | some ⟨t, _, .func _, _⟩ => t == .type "function"
  | _ => false
noncomputable def kdOf (sc : Scope) (n : String) : Option NameKind := sc.names.lookup (Str.ofString n)
noncomputable def okName (n : Str) : Bool := !(n == ("__debug__" : Str)) && !(n == ("__classdict__" : Str))
noncomputable def isGlob (sc : Scope) (x : String) (id : Str) : Bool := id == Str.ofString x && kdOf sc x == some .globalImplicit && okName id
noncomputable def notSlice : Expr → Bool
  | .Slice .. => false
  | _ => true
noncomputable def notMark : Expr → Bool
  | .Set .. => false
  | _ => true
noncomputable def baseOk : Expr → Bool
  | .Call .. => false
  | _ => true
noncomputable def bfs : List String := ["len", "range", "min", "max", "list", "str", "int", "all", "sorted"]

noncomputable def vCst (x : Expr) : Option (Const × Nat × Pos) := match x with
  | .Constant c k p => some (c, k, p)
  | _ => none
theorem vCst_eq {x : Expr} {t : Const × Nat × Pos} (h : vCst x = some t) : x = .Constant t.1 t.2.1 t.2.2 := by
  cases x <;> first | (injection h with h; subst h; rfl) | cases h
noncomputable def vName (x : Expr) : Option (Str × Pos) := match x with
  | .Name a p => some (a, p)
  | _ => none
theorem vName_eq {x : Expr} {t : Str × Pos} (h : vName x = some t) : x = .Name t.1 t.2 := by
  cases x <;> first | (injection h with h; subst h; rfl) | cases h
noncomputable def vBin (x : Expr) : Option (Expr × Operator × Expr × Pos) := match x with
  | .BinOp a b c p => some (a, b, c, p)
  | _ => none
theorem vBin_eq {x : Expr} {t : Expr × Operator × Expr × Pos} (h : vBin x = some t) : x = .BinOp t.1 t.2.1 t.2.2.1 t.2.2.2 := by
  cases x <;> first | (injection h with h; subst h; rfl) | cases h
noncomputable def vUn (x : Expr) : Option (UnaryOp × Expr × Pos) := match x with
  | .UnaryOp a b p => some (a, b, p)
  | _ => none
theorem vUn_eq {x : Expr} {t : UnaryOp × Expr × Pos} (h : vUn x = some t) : x = .UnaryOp t.1 t.2.1 t.2.2 := by
  cases x <;> first | (injection h with h; subst h; rfl) | cases h
noncomputable def vBop (x : Expr) : Option (BoolOp × List Expr × Pos) := match x with
  | .BoolOp a b p => some (a, b, p)
  | _ => none
theorem vBop_eq {x : Expr} {t : BoolOp × List Expr × Pos} (h : vBop x = some t) : x = .BoolOp t.1 t.2.1 t.2.2 := by
  cases x <;> first | (injection h with h; subst h; rfl) | cases h
noncomputable def vCmp (x : Expr) : Option (Expr × List CmpOp × List Expr × Pos) := match x with
  | .Compare a b c p => some (a, b, c, p)
  | _ => none
theorem vCmp_eq {x : Expr} {t : Expr × List CmpOp × List Expr × Pos} (h : vCmp x = some t) : x = .Compare t.1 t.2.1 t.2.2.1 t.2.2.2 := by
  cases x <;> first | (injection h with h; subst h; rfl) | cases h
noncomputable def vSub (x : Expr) : Option (Expr × Expr × Pos) := match x with
  | .Subscript a b p => some (a, b, p)
  | _ => none
theorem vSub_eq {x : Expr} {t : Expr × Expr × Pos} (h : vSub x = some t) : x = .Subscript t.1 t.2.1 t.2.2 := by
  cases x <;> first | (injection h with h; subst h; rfl) | cases h
noncomputable def vAttr (x : Expr) : Option (Expr × Str × Pos) := match x with
  | .Attribute a b p => some (a, b, p)
  | _ => none
theorem vAttr_eq {x : Expr} {t : Expr × Str × Pos} (h : vAttr x = some t) : x = .Attribute t.1 t.2.1 t.2.2 := by
  cases x <;> first | (injection h with h; subst h; rfl) | cases h
noncomputable def vCall (x : Expr) : Option (Expr × List Expr × List Keyword × Pos) := match x with
  | .Call a b c p => some (a, b, c, p)
  | _ => none
theorem vCall_eq {x : Expr} {t : Expr × List Expr × List Keyword × Pos} (h : vCall x = some t) : x = .Call t.1 t.2.1 t.2.2.1 t.2.2.2 := by
  cases x <;> first | (injection h with h; subst h; rfl) | cases h
noncomputable def vList (x : Expr) : Option (List Expr × Pos) := match x with
  | .List a p => some (a, p)
  | _ => none
theorem vList_eq {x : Expr} {t : List Expr × Pos} (h : vList x = some t) : x = .List t.1 t.2 := by
  cases x <;> first | (injection h with h; subst h; rfl) | cases h
noncomputable def vTup (x : Expr) : Option (List Expr × Nat × Pos) := match x with
  | .Tuple a k p => some (a, k, p)
  | _ => none
theorem vTup_eq {x : Expr} {t : List Expr × Nat × Pos} (h : vTup x = some t) : x = .Tuple t.1 t.2.1 t.2.2 := by
  cases x <;> first | (injection h with h; subst h; rfl) | cases h
noncomputable def cNone (c : Const) : Bool := match c with | .none => true | _ => false
noncomputable def cBool (c : Const) (b : Bool) : Bool := match c with | .bool b' => b == b' | _ => false
noncomputable def cInt (c : Const) (i : Int) : Bool := match c with | .int j => i == j | _ => false
noncomputable def one {α : Type} (l : List α) : Option α := match l with | [a] => some a | _ => none
noncomputable def two {α : Type} (l : List α) : Option (α × α) := match l with | [a, b] => some (a, b) | _ => none

noncomputable def isNo : E → Bool
  | .none => true
  | _ => false

mutual
noncomputable def fitE (K : Frag) (P : Pg) (fields : List String) (ns : List String) (sc : Scope) : E → Expr → Bool
  | .none, x => (match vCst x with | some t => cNone t.1 | none => false)
  | .bool b, x => (match vCst x with | some t => cBool t.1 b | none => false)
  | .int i, x => (match vCst x with | some t => cInt t.1 i | none => false)
  | .str _, _ => false
  | .var i, x => (match vName x with | some t => (match ns[i]? with | some n => t.1 == Str.ofString n && okName t.1 && (kdOf sc n == some .local || kdOf sc n == some .cell || kdOf sc n == some .free) | none => false) | none => false)
  | .glob _, _ => false
  | .bin op l r, x => (match vBin x with | some t => t.2.1 == op.op && fitE K P fields ns sc l t.1 && fitE K P fields ns sc r t.2.2.1 | none => false)
  | .neg e, x => (match vUn x with | some t => t.1 == .USub && fitE K P fields ns sc e t.2.1 | none => false)
  | .not e, x => (match vUn x with | some t => t.1 == .Not && fitE K P fields ns sc e t.2.1 | none => false)
  | .and es, x => (match vBop x with | some t => t.1 == .And && fitEs K P fields ns sc es t.2.1 && decide (2 ≤ es.length) | none => false)
  | .or es, x => (match vBop x with | some t => t.1 == .Or && fitEs K P fields ns sc es t.2.1 && decide (2 ≤ es.length) | none => false)
  | .cmp op l r, x => (match vCmp x with | some t => (match one t.2.1, one t.2.2.1 with | some o, some r' => o == op.op && notMark r' && fitE K P fields ns sc l t.1 && fitE K P fields ns sc r r' | _, _ => false) | none => false)
  | .cmp2 l o1 m o2 r, x => (match vCmp x with | some t => (match two t.2.1, two t.2.2.1 with | some o, some r' => o.1 == o1.op && o.2 == o2.op && notMark r'.2 && fitE K P fields ns sc l t.1 && fitE K P fields ns sc m r'.1 && fitE K P fields ns sc r r'.2 | _, _ => false) | none => false)
  | .sub o i, x => (match vSub x with | some t => notSlice t.2.1 && fitE K P fields ns sc o t.1 && fitE K P fields ns sc i t.2.1 | none => false)
  | .slc _ _ _, _ => false
  | .attr _ _, _ => false
  | .call f as, x => (match vCall x with | some t => (match vName t.1 with | some z => isGlob sc f z.1 && (P.fn ("", f)).isSome && (nsIn K mainGlobals f).isSome && t.2.1.all notStar && t.2.2.1.isEmpty && fitEs K P fields ns sc as t.2.1 | none => false) | none => false)
  | .make C as, x => false
  | .meth o m as, x => (match vCall x with | some t => (match vAttr t.1 with | some z => z.2.1 == Str.ofString m && z.2.2.endLine == t.2.2.2.line && baseOk z.1 && t.2.1.all notStar && decide (t.2.1.length < 20) && t.2.2.1.isEmpty && fitE K P fields ns sc o z.1 && fitEs K P fields ns sc as t.2.1 | none => false) | none => false)
  | .bi b as, x => (match vCall x with | some t => (match vName t.1 with | some z => isGlob sc b z.1 && bfs.contains b && t.2.1.all notStar && t.2.2.1.isEmpty && fitEs K P fields ns sc as t.2.1 | none => false) | none => false)
  | .isa e ty, x => (match vCall x with | some t => (match vName t.1, two t.2.1 with | some z, some w => (match vName w.2 with | some u => isGlob sc "isinstance" z.1 && isGlob sc ty u.1 && isaTs.contains ty && notStar w.1 && t.2.2.1.isEmpty && fitE K P fields ns sc e w.1 | none => false) | _, _ => false) | none => false)
  | .list es, x => (match vList x with | some t => t.1.all notStar && fitEs K P fields ns sc es t.1 | none => false)
  | .tup es, x => (match vTup x with | some t => t.1.all notStar && fitEs K P fields ns sc es t.1 | none => false)
  | .dict, _ => false
  | .comp elt k it cond, x => false
noncomputable def fitEs (K : Frag) (P : Pg) (fields : List String) (ns : List String) (sc : Scope) : List E → List Expr → Bool
  | [], xs => xs.isEmpty
  | e :: r, xs => (match xs with | [] => false | y :: ys => fitE K P fields ns sc e y && fitEs K P fields ns sc r ys)
end
noncomputable def fitO (K : Frag) (P : Pg) (fields : List String) (ns : List String) (sc : Scope) (e : E) (x : Option Expr) : Bool := match x with | some y => fitE K P fields ns sc e y | none => isNo e

/-- a constant of the text -/
noncomputable def gvOk : V → Value → Bool
  | .int i, .int j _ => i == j
  | .str s, .str x _ => x.cps.toList == s && decide (s.length ≤ 10000) && s.all (· < 1114112)
  | _, _ => false

structure Cx (prog : Program) (c : Cf) (K : Frag) (fields : List String) (P : Pg) (cl : CallT) (A : Around) (F : List Addr) (L : Addr) : Prop where
  base : Base c K fields
  hh : A.handled = none
  room : A.units + 40 < cLine
  call : ∀ (f : Fid) (a : Addr) (vs : List V) (xs : List Value) (mu : Mu) (s : Shared) (H : Hp), fnAt K f = some a → (P.fn f).isSome = true → St c F mu H s.heap → VRs c.bs mu s.heap vs xs →
    Snd (model prog c.w) c F L A mu s (call (.ref a) xs) (cl f vs H) (VRl c)
  fns : ∀ f, (P.fn f).isSome = true → ∃ a, fnAt K f = some a ∧ isFn K a = true
  globs : ∀ x v, P.glob x = some v → ∃ y, nsIn K mainGlobals x = some (some y) ∧ gvOk v y = true

section
variable {prog : Program} {c : Cf} {K : Frag} {fields : List String} {P : Pg} {cl : CallT} {A : Around} {F : List Addr} {L : Addr} {mu : Mu} {s : Shared} {H : Hp} {ns : List String} {env : Env} {g : Gm}

theorem isFn_keeps {a : Addr} (h : isFn K a = true) {M : Model} : ∀ h, K.In h → ∃ k, (k = Keeper.frame ∨ k = Keeper.machine ∨ k = Keeper.boundFrame) ∧ Looks M h (keeperOf (.ref a)) k := by
  intro hp X
  unfold isFn at h
  split at h
  · rename_i t d fd sl e
    refine ⟨.frame, .inl rfl, ?_⟩
    have := X _ _ e
    exact (Looks.ld (part := none) this).andThen .now
  · cases h

theorem addr_ns {x : String} {a : Addr} (h : addrOf K x = some a) : nsIn K mainGlobals x = some (some (.ref a)) := by
  unfold addrOf at h
  split at h
  · rename_i b e; cases h; exact e
  · cases h

theorem kind_of {x : String} {id : Str} (h : isGlob env.scope x id = true) : id = Str.ofString x ∧ env.kindOf (Str.ofString x) = some .globalImplicit ∧ (Str.ofString x == ("__debug__" : Str)) = false := by
  unfold isGlob at h
  simp only [Bool.and_eq_true, beq_iff_eq, okName, Bool.not_eq_true'] at h
  obtain ⟨⟨h1, h2⟩, h3, _⟩ := h
  subst h1
  exact ⟨rfl, h2, h3⟩

theorem base_eq {o : Expr} {f : Str} (h : baseOk o = true) : attributeBase o f env (eval o env) = eval o env := by
  cases o <;> first | rfl | cases h

/-- the arguments, one behind the other -/
theorem Snd.spl_cons {e : Expr} {rest : List Expr} {pos : Pos} {r : R V} {k : Hp → R (List V)} (hs : notStar e = true) (h1 : Snd (model prog c.w) c F L A mu s (eval e env) r (VRl c))
    (h2 : ∀ v H' mu' s', r = .ok v H' → St c F mu' H' s'.heap → Go F [] mu s.heap mu' s'.heap → Snd (model prog c.w) c F L A mu' s' (spliced (backTo pos (starEach rest env))) (k H') (VRsl c)) :
    Snd (model prog c.w) c F L A mu s (spliced (backTo pos (starEach (e :: rest) env))) (r.bind fun v h => (k h).bind fun vs h => .ok (v :: vs) h) (VRsl c) := by
  intro hb
  have hr : r ≠ .bad := fun e => hb (by rw [e]; rfl)
  refine wpAny_items_cons (wpAny_mono (h1 hr) (fun x s1 q => ?_) fun e s1 q => q.as fun x H e => by rw [e]; rfl) (starEach_cons hs)
  obtain ⟨v, H1, mu1, rfl, S1, G1, V1, eg1, eo1⟩ := q
  replace hb : ((k H1).bind fun vs h => R.ok (v :: vs) h) ≠ .bad := hb
  have hr1 : k H1 ≠ .bad := fun e => hb (by rw [e]; rfl)
  refine wpAny_mono (h2 v H1 mu1 s1 rfl S1 G1 hr1) (fun xs s2 q => ?_) fun e s2 q => ?_
  · obtain ⟨vs, H2, mu2, e2, S2, G2, V2, eg2, eo2⟩ := q
    refine ⟨v :: vs, H2, mu2, ?_, S2, G1.trans G2, ?_, eg2.trans eg1, eo2.trans eo1⟩
    · show ((k H1).bind fun vs h => R.ok (v :: vs) h) = _; rw [e2]; rfl
    · show VRs _ _ _ (v :: vs) (x :: xs)
      simp only [VRs]
      exact ⟨x, xs, rfl, V1.go S1 G2, V2⟩
  · have q' := q.as (r' := (R.ok v H1).bind fun v h => (k h).bind fun vs h => .ok (v :: vs) h) fun x H e => by show ((k H1).bind fun vs h => R.ok (v :: vs) h) = _; rw [e]; rfl
    exact q'.back G1 eg1 eo1
end
end Mine
end

section
/-! what it says that a core term fits a text's term -/
namespace Mine
open PySem PySem.W PyProof.Rows
set_option maxRecDepth 100000
set_option linter.unusedSimpArgs false
section
variable {K : Frag} {P : Pg} {fields : List String} {ns : List String} {sc : Scope} {x : Expr}

theorem fit_bin {op : BO} {l r : E} (h : fitE K P fields ns sc (.bin op l r) x = true) : ∃ l' r' p, x = .BinOp l' op.op r' p ∧ fitE K P fields ns sc l l' = true ∧ fitE K P fields ns sc r r' = true := by
  rw [fitE] at h
  split at h
  · rename_i t e
    obtain ⟨l', o', r', p⟩ := t
    obtain rfl := vBin_eq e
    simp only [Bool.and_eq_true, beq_iff_eq, decide_eq_true_eq, Bool.or_eq_true, List.isEmpty_iff, Option.isNone_iff_eq_none] at h
    obtain ⟨⟨rfl, h1⟩, h2⟩ := h
    exact ⟨_, _, _, rfl, h1, h2⟩
  · cases h

theorem one_eq {α : Type} {l : List α} {a : α} (h : one l = some a) : l = [a] := by
  match l, h with
  | [b], h => injection h with h; rw [h]
theorem two_eq {α : Type} {l : List α} {a : α × α} (h : two l = some a) : l = [a.1, a.2] := by
  match l, h with
  | [b, c], h => injection h with h; rw [← h]
theorem cNone_eq {c : Const} (h : cNone c = true) : c = .none := by cases c <;> first | rfl | cases h
theorem cBool_eq {c : Const} {b : Bool} (h : cBool c b = true) : c = .bool b := by cases c <;> first | (have := beq_iff_eq.mp h; rw [this]) | cases h
theorem cInt_eq {c : Const} {b : Int} (h : cInt c b = true) : c = .int b := by cases c <;> first | (have := beq_iff_eq.mp h; rw [this]) | cases h
theorem fit_cmp {op : CO} {l r : E} (h : fitE K P fields ns sc (.cmp op l r) x = true) : ∃ l' r' p, x = .Compare l' [op.op] [r'] p ∧ notMark r' = true ∧ fitE K P fields ns sc l l' = true ∧ fitE K P fields ns sc r r' = true := by
  rw [fitE] at h
  split at h
  · rename_i t e
    obtain ⟨l', os, rs, p⟩ := t
    obtain rfl := vCmp_eq e
    split at h
    · rename_i o r' e1 e2
      have e1 := one_eq e1
      have e2 := one_eq e2
      simp only [Bool.and_eq_true, beq_iff_eq, decide_eq_true_eq, Bool.or_eq_true, List.isEmpty_iff, Option.isNone_iff_eq_none] at h e1 e2
      obtain ⟨⟨⟨rfl, h0⟩, h1⟩, h2⟩ := h
      exact ⟨_, r', _, by rw [e1, e2], h0, h1, h2⟩
    · cases h
  · cases h

theorem fit_none  (h : fitE K P fields ns sc (.none) x = true) : ∃ k p, x = .Constant .none k p := by
  rw [fitE] at h
  split at h
  · rename_i t e
    obtain ⟨c, k, p⟩ := t
    obtain rfl := vCst_eq e
    have h2 := cNone_eq h
    simp only at h2
    exact ⟨k, p, by rw [h2]⟩
  · cases h

theorem fit_bool {b : Bool} (h : fitE K P fields ns sc (.bool b) x = true) : ∃ k p, x = .Constant (.bool b) k p := by
  rw [fitE] at h
  split at h
  · rename_i t e
    obtain ⟨c, k, p⟩ := t
    obtain rfl := vCst_eq e
    have h2 := cBool_eq h
    simp only at h2
    exact ⟨k, p, by rw [h2]⟩
  · cases h

theorem fit_int {i : Int} (h : fitE K P fields ns sc (.int i) x = true) : ∃ k p, x = .Constant (.int i) k p := by
  rw [fitE] at h
  split at h
  · rename_i t e
    obtain ⟨c, k, p⟩ := t
    obtain rfl := vCst_eq e
    have h2 := cInt_eq h
    simp only at h2
    exact ⟨k, p, by rw [h2]⟩
  · cases h

theorem fit_var {i : Nat} (h : fitE K P fields ns sc (.var i) x = true) : ∃ n p, x = .Name (Str.ofString n) p ∧ ns[i]? = some n ∧ okName (Str.ofString n) = true ∧ (kdOf sc n = some .local ∨ kdOf sc n = some .cell ∨ kdOf sc n = some .free) := by
  rw [fitE] at h
  split at h
  · rename_i u e
    obtain ⟨c, p⟩ := u
    obtain rfl := vName_eq e
    split at h
    · rename_i n hn
      simp only [Bool.and_eq_true, beq_iff_eq, decide_eq_true_eq, Bool.or_eq_true, List.isEmpty_iff, Option.isNone_iff_eq_none] at h
      obtain ⟨⟨rfl, h1⟩, h2⟩ := h
      exact ⟨n, _, rfl, hn, h1, by rcases h2 with (h2 | h2) | h2 <;> simp [h2]⟩
    · cases h
  · cases h

theorem fit_neg {e : E} (h : fitE K P fields ns sc (.neg e) x = true) : ∃ e' p, x = .UnaryOp .USub e' p ∧ fitE K P fields ns sc e e' = true := by
  rw [fitE] at h
  split at h
  · rename_i t e
    obtain ⟨o, e', p⟩ := t
    obtain rfl := vUn_eq e
    simp only [Bool.and_eq_true, beq_iff_eq, decide_eq_true_eq, Bool.or_eq_true, List.isEmpty_iff, Option.isNone_iff_eq_none] at h
    obtain ⟨rfl, h⟩ := h
    exact ⟨_, _, rfl, h⟩
  · cases h

theorem fit_not {e : E} (h : fitE K P fields ns sc (.not e) x = true) : ∃ e' p, x = .UnaryOp .Not e' p ∧ fitE K P fields ns sc e e' = true := by
  rw [fitE] at h
  split at h
  · rename_i t e
    obtain ⟨o, e', p⟩ := t
    obtain rfl := vUn_eq e
    simp only [Bool.and_eq_true, beq_iff_eq, decide_eq_true_eq, Bool.or_eq_true, List.isEmpty_iff, Option.isNone_iff_eq_none] at h
    obtain ⟨rfl, h⟩ := h
    exact ⟨_, _, rfl, h⟩
  · cases h

theorem fit_and {es : List E} (h : fitE K P fields ns sc (.and es) x = true) : ∃ es' p, x = .BoolOp .And es' p ∧ fitEs K P fields ns sc es es' = true ∧ 2 ≤ es.length := by
  rw [fitE] at h
  split at h
  · rename_i t e
    obtain ⟨o, es', p⟩ := t
    obtain rfl := vBop_eq e
    simp only [Bool.and_eq_true, beq_iff_eq, decide_eq_true_eq, Bool.or_eq_true, List.isEmpty_iff, Option.isNone_iff_eq_none] at h
    obtain ⟨⟨rfl, h1⟩, h2⟩ := h
    exact ⟨_, _, rfl, h1, h2⟩
  · cases h

theorem fit_or {es : List E} (h : fitE K P fields ns sc (.or es) x = true) : ∃ es' p, x = .BoolOp .Or es' p ∧ fitEs K P fields ns sc es es' = true ∧ 2 ≤ es.length := by
  rw [fitE] at h
  split at h
  · rename_i t e
    obtain ⟨o, es', p⟩ := t
    obtain rfl := vBop_eq e
    simp only [Bool.and_eq_true, beq_iff_eq, decide_eq_true_eq, Bool.or_eq_true, List.isEmpty_iff, Option.isNone_iff_eq_none] at h
    obtain ⟨⟨rfl, h1⟩, h2⟩ := h
    exact ⟨_, _, rfl, h1, h2⟩
  · cases h

theorem fit_cmp2 {l m r : E} {o1 o2 : CO} (h : fitE K P fields ns sc (.cmp2 l o1 m o2 r) x = true) : ∃ l' m' r' p, x = .Compare l' [o1.op, o2.op] [m', r'] p ∧ notMark r' = true ∧ fitE K P fields ns sc l l' = true ∧ fitE K P fields ns sc m m' = true ∧ fitE K P fields ns sc r r' = true := by
  rw [fitE] at h
  split at h
  · rename_i t e
    obtain ⟨l', os, rs, p⟩ := t
    obtain rfl := vCmp_eq e
    split at h
    · rename_i o r' e1 e2
      have e1 := two_eq e1
      have e2 := two_eq e2
      simp only [Bool.and_eq_true, beq_iff_eq, decide_eq_true_eq, Bool.or_eq_true, List.isEmpty_iff, Option.isNone_iff_eq_none] at h e1 e2
      obtain ⟨⟨⟨⟨⟨h4, h5⟩, h0⟩, h1⟩, h2⟩, h3⟩ := h
      exact ⟨_, r'.1, r'.2, _, by rw [e1, e2, h4, h5], h0, h1, h2, h3⟩
    · cases h
  · cases h

theorem fit_sub {o i : E} (h : fitE K P fields ns sc (.sub o i) x = true) : ∃ o' i' p, x = .Subscript o' i' p ∧ notSlice i' = true ∧ fitE K P fields ns sc o o' = true ∧ fitE K P fields ns sc i i' = true := by
  rw [fitE] at h
  split at h
  · rename_i t e
    obtain ⟨o', i', p⟩ := t
    obtain rfl := vSub_eq e
    simp only [Bool.and_eq_true, beq_iff_eq, decide_eq_true_eq, Bool.or_eq_true, List.isEmpty_iff, Option.isNone_iff_eq_none] at h
    obtain ⟨⟨h0, h1⟩, h2⟩ := h
    exact ⟨_, _, _, rfl, h0, h1, h2⟩
  · cases h

theorem fit_call {f : String} {as : List E} (h : fitE K P fields ns sc (.call f as) x = true) : ∃ id q as' p, x = .Call (.Name id q) as' [] p ∧ isGlob sc f id = true ∧ (P.fn ("", f)).isSome = true ∧ as'.all notStar = true ∧ fitEs K P fields ns sc as as' = true := by
  rw [fitE] at h
  split at h
  · rename_i t e
    obtain ⟨fn, as', kw, p⟩ := t
    obtain rfl := vCall_eq e
    split at h
    · rename_i z e2
      obtain ⟨id, q⟩ := z
      obtain e2 := vName_eq e2
      simp only [Bool.and_eq_true, beq_iff_eq, decide_eq_true_eq, Bool.or_eq_true, List.isEmpty_iff, Option.isNone_iff_eq_none] at h e2
      subst e2
      obtain ⟨⟨⟨⟨⟨h0, h1⟩, _⟩, h2⟩, rfl⟩, h3⟩ := h
      exact ⟨_, _, _, _, rfl, h0, h1, h2, h3⟩
    · cases h
  · cases h

theorem fit_meth {o : E} {m : String} {as : List E} (h : fitE K P fields ns sc (.meth o m as) x = true) : ∃ o' apos as' p, x = .Call (.Attribute o' (Str.ofString m) apos) as' [] p ∧ apos.endLine = p.line ∧ baseOk o' = true ∧ as'.all notStar = true ∧ as'.length < 20 ∧ fitE K P fields ns sc o o' = true ∧ fitEs K P fields ns sc as as' = true := by
  rw [fitE] at h
  split at h
  · rename_i t e
    obtain ⟨fn, as', kw, p⟩ := t
    obtain rfl := vCall_eq e
    split at h
    · rename_i z e2
      obtain ⟨o', m', q⟩ := z
      obtain e2 := vAttr_eq e2
      simp only [Bool.and_eq_true, beq_iff_eq, decide_eq_true_eq, Bool.or_eq_true, List.isEmpty_iff, Option.isNone_iff_eq_none] at h e2
      subst e2
      obtain ⟨⟨⟨⟨⟨⟨⟨rfl, h0⟩, h1⟩, h2⟩, h3⟩, rfl⟩, h4⟩, h5⟩ := h
      exact ⟨_, _, _, _, rfl, h0, h1, h2, h3, h4, h5⟩
    · cases h
  · cases h

theorem fit_bi {b : String} {as : List E} (h : fitE K P fields ns sc (.bi b as) x = true) : ∃ id q as' p, x = .Call (.Name id q) as' [] p ∧ isGlob sc b id = true ∧ bfs.contains b = true ∧ as'.all notStar = true ∧ fitEs K P fields ns sc as as' = true := by
  rw [fitE] at h
  split at h
  · rename_i t e
    obtain ⟨fn, as', kw, p⟩ := t
    obtain rfl := vCall_eq e
    split at h
    · rename_i z e2
      obtain ⟨id, q⟩ := z
      obtain e2 := vName_eq e2
      simp only [Bool.and_eq_true, beq_iff_eq, decide_eq_true_eq, Bool.or_eq_true, List.isEmpty_iff, Option.isNone_iff_eq_none] at h e2
      subst e2
      obtain ⟨⟨⟨⟨h0, h1⟩, h2⟩, rfl⟩, h3⟩ := h
      exact ⟨_, _, _, _, rfl, h0, h1, h2, h3⟩
    · cases h
  · cases h

theorem fit_isa {e : E} {t : String} (h : fitE K P fields ns sc (.isa e t) x = true) : ∃ id q e' t' q' p, x = .Call (.Name id q) [e', .Name t' q'] [] p ∧ isGlob sc "isinstance" id = true ∧ isGlob sc t t' = true ∧ isaTs.contains t = true ∧ notStar e' = true ∧ fitE K P fields ns sc e e' = true := by
  rw [fitE] at h
  split at h
  · rename_i u e
    obtain ⟨fn, as', kw, p⟩ := u
    obtain rfl := vCall_eq e
    split at h
    · rename_i z w e2 e3
      obtain ⟨id, q⟩ := z
      obtain ⟨a1, a2⟩ := w
      have f2 := vName_eq e2
      have f3 := two_eq e3
      simp only [Bool.and_eq_true, beq_iff_eq, decide_eq_true_eq, Bool.or_eq_true, List.isEmpty_iff, Option.isNone_iff_eq_none] at f2 f3
      subst f2 f3
      split at h
      · rename_i y e4
        obtain ⟨t', q'⟩ := y
        have e4 := vName_eq e4
        simp only at e4
        subst e4
        simp only [Bool.and_eq_true, beq_iff_eq, decide_eq_true_eq, Bool.or_eq_true, List.isEmpty_iff, Option.isNone_iff_eq_none] at h
        obtain ⟨⟨⟨⟨⟨h0, h1⟩, h2⟩, h3⟩, rfl⟩, h4⟩ := h
        exact ⟨_, _, _, _, _, _, rfl, h0, h1, h2, h3, h4⟩
      · cases h
    · cases h
  · cases h

theorem fit_list {es : List E} (h : fitE K P fields ns sc (.list es) x = true) : ∃ es' p, x = .List es' p ∧ es'.all notStar = true ∧ fitEs K P fields ns sc es es' = true := by
  rw [fitE] at h
  split at h
  · rename_i t e
    obtain ⟨es', p⟩ := t
    obtain rfl := vList_eq e
    simp only [Bool.and_eq_true] at h
    obtain ⟨h0, h1⟩ := h
    exact ⟨_, _, rfl, h0, h1⟩
  · cases h

theorem fit_tup {es : List E} (h : fitE K P fields ns sc (.tup es) x = true) : ∃ es' k p, x = .Tuple es' k p ∧ es'.all notStar = true ∧ fitEs K P fields ns sc es es' = true := by
  rw [fitE] at h
  split at h
  · rename_i t e
    obtain ⟨es', k, p⟩ := t
    obtain rfl := vTup_eq e
    simp only [Bool.and_eq_true] at h
    obtain ⟨h0, h1⟩ := h
    exact ⟨_, _, _, rfl, h0, h1⟩
  · cases h

theorem fit_make {C : String} {as : List E} (h : fitE K P fields ns sc (.make C as) x = true) : False := by
  rw [fitE] at h
  cases h

theorem fit_comp {elt it cond : E} {t : Nat} (h : fitE K P fields ns sc (.comp elt t it cond) x = true) : False := by
  rw [fitE] at h
  cases h

theorem fits_nil {xs : List Expr} (h : fitEs K P fields ns sc [] xs = true) : xs = [] := by
  rw [fitEs] at h; exact List.isEmpty_iff.mp h
theorem fits_cons {e : E} {es : List E} {xs : List Expr} (h : fitEs K P fields ns sc (e :: es) xs = true) : ∃ y ys, xs = y :: ys ∧ fitE K P fields ns sc e y = true ∧ fitEs K P fields ns sc es ys = true := by
  cases xs with
  | nil => rw [fitEs.eq_def] at h; cases h
  | cons y ys => rw [fitEs.eq_def] at h; have h := (Bool.and_eq_true ..).mp h; exact ⟨y, ys, rfl, h.1, h.2⟩
end
end Mine
end

section
/-! the core's expressions answer as the text's -/
namespace Mine
open PySem PySem.W PyProof.Rows
set_option maxRecDepth 100000
section
variable {prog : Program} {c : Cf} {K : Frag} {fields : List String} {P : Pg} {cl : CallT} {A : Around} {F : List Addr} {L : Addr}

/-- the value, if it is a truth -/
noncomputable def tb (v : V) (h : Hp) : R V := match truth v with | some b => .ok (.bool b) h | .none => .bad

noncomputable abbrev EOk (prog : Program) (c : Cf) (P : Pg) (cl : CallT) (A : Around) (F : List Addr) (L : Addr) (e : E) (x : Expr) (ns : List String) (env : Env) : Prop :=
  ∀ (g : Gm) (mu : Mu) (s : Shared) (H : Hp), St c F mu H s.heap → FrR c F ns env g mu s.heap → Snd (model prog c.w) c F L A mu s (eval x env) (ev P cl g e H) (VRl c)
noncomputable abbrev TOk (prog : Program) (c : Cf) (P : Pg) (cl : CallT) (A : Around) (F : List Addr) (L : Addr) (e : E) (x : Expr) (ns : List String) (env : Env) : Prop :=
  ∀ (g : Gm) (mu : Mu) (s : Shared) (H : Hp), St c F mu H s.heap → FrR c F ns env g mu s.heap → Snd (model prog c.w) c F L A mu s (isTrue x env (eval x env)) ((ev P cl g e H).bind tb) (fun v (b : Bool) _ _ => v = .bool b)
noncomputable abbrev EsOk (prog : Program) (c : Cf) (P : Pg) (cl : CallT) (A : Around) (F : List Addr) (L : Addr) (es : List E) (xs : List Expr) (ns : List String) (env : Env) : Prop :=
  ∀ (g : Gm) (mu : Mu) (s : Shared) (H : Hp) (p : Pos), xs.all notStar = true → St c F mu H s.heap → FrR c F ns env g mu s.heap → Snd (model prog c.w) c F L A mu s (spliced (backTo p (starEach xs env))) (evs P cl g es H) (VRsl c)

variable {ns : List String} {env : Env} {e l r m o i lo hi : E} {x l' r' m' o' i' : Expr} {es : List E} {xs : List Expr} {pos : Pos}

theorem bin_ok {op : BO} (h1 : EOk prog c P cl A F L l l' ns env) (h2 : EOk prog c P cl A F L r r' ns env) : EOk prog c P cl A F L (.bin op l r) (.BinOp l' op.op r' pos) ns env := by
  intro g mu s H S R
  rw [ev]
  refine Snd.seq (h1 g mu s H S R) fun a x H1 mu1 s1 _ S1 G1 V1 => ?_
  refine Snd.seq (Snd.holding (h2 g mu1 s1 H1 S1 (R.go S G1))) fun b y H2 mu2 s2 _ S2 G2 V2 => ?_
  exact Snd.at fun hb => wpAny_operate' (binop_snd S2 (V1.go S1 G2) V2 hb)

theorem neg_ok (h1 : EOk prog c P cl A F L e x ns env) : EOk prog c P cl A F L (.neg e) (.UnaryOp .USub x pos) ns env := by
  intro g mu s H S R
  rw [ev, arm_eval_UnaryOp]
  refine Snd.seq (h1 g mu s H S R) fun a y H1 mu1 s1 _ S1 G1 V1 => Snd.at (Snd.holding ?_)
  split
  · simp only [VR] at V1
    obtain ⟨t, rfl⟩ := V1
    exact fun _ => PyProof.Rows.neg_int (QV.int S1)
  · exact fun h => absurd rfl h

theorem truth_some {v : V} {b : Bool} (h : truth v = some b) : v = .bool b := by cases v <;> simp_all [truth]

theorem not_ok (h1 : EOk prog c P cl A F L e x ns env) : EOk prog c P cl A F L (.not e) (.UnaryOp .Not x pos) ns env := by
  intro g mu s H S R
  rw [ev, arm_eval_UnaryOp]
  refine Snd.seq (h1 g mu s H S R) fun a y H1 mu1 s1 _ S1 G1 V1 => Snd.at (Snd.holding ?_)
  split
  · rename_i b hb
    have := truth_some hb
    subst this
    simp only [VR] at V1; subst V1
    exact fun _ => not_value (wpAny_truthy_bool (QV.same (t := s1.toks) S1 (by simp only [VR])))
  · exact fun h => absurd rfl h

theorem notMark_false {op : CmpOp} {y : Expr} (h : notMark y = true) : behindInMarks op y = false := by cases y <;> first | rfl | cases h

theorem marks1 {op : CmpOp} {y : Expr} {t : Sem Value} (h : notMark y = true) : markedEach [op] [y] [t] = [t] := by
  simp only [markedEach, markedBehindIn, notMark_false h]
theorem marks2 {o1 o2 : CmpOp} {y z : Expr} {t u : Sem Value} (h : notMark z = true) : markedEach [o1, o2] [y, z] [t, u] = [t, u] := by
  simp only [markedEach, markedBehindIn, notMark_false h]

theorem cmp_ok {op : CO} (X : Cx prog c K fields P cl A F L) (hm : notMark r' = true) (h1 : EOk prog c P cl A F L l l' ns env) (h2 : EOk prog c P cl A F L r r' ns env) : EOk prog c P cl A F L (.cmp op l r) (.Compare l' [op.op] [r'] pos) ns env := by
  intro g mu s H S R
  rw [ev, arm_eval_Compare]
  refine Snd.seq (h1 g mu s H S R) fun a x H1 mu1 s1 _ S1 G1 V1 => ?_
  show Snd _ c F L A mu1 s1 (compareChain pos x [op.op] (markedEach [op.op] [r'] [eval r' env])) _ _
  rw [marks1 hm]
  show Snd _ c F L A mu1 s1 (do let rv ← holding [x] (eval r' env); standAt pos; operate [x, rv] (compareOp op.op x rv)) _ _
  refine Snd.seq (Snd.holding (h2 g mu1 s1 H1 S1 (R.go S G1))) fun b y H2 mu2 s2 _ S2 G2 V2 => ?_
  exact Snd.at fun hb => wpAny_operate' (cmpop_snd X.base S2 (V1.go S1 G2) V2 (by have := X.room; unfold deep; omega) hb)

theorem cmpop_bool {op : CO} {a b v : V} {h h' : Hp} (e : cmpop op a b h = .ok v h') : (∃ t, v = .bool t) ∧ h' = h := by
  have okB_ : ∀ {t : Bool}, okB t h = R.ok v h' → (∃ t, v = .bool t) ∧ h' = h := fun {t} e => by cases e; exact ⟨⟨t, rfl⟩, rfl⟩
  have okO_ : ∀ {t : Option Bool}, okO t h = R.ok v h' → (∃ t, v = .bool t) ∧ h' = h := fun {t} e => by
    cases t with
    | none => cases e
    | some t => cases e; exact ⟨⟨t, rfl⟩, rfl⟩
  cases op <;> simp only [cmpop] at e <;> first
    | exact okO_ e
    | (split at e <;> first | exact okB_ e | cases e)

theorem cmp2_ok {o1 o2 : CO} (X : Cx prog c K fields P cl A F L) (hm : notMark r' = true) (h1 : EOk prog c P cl A F L l l' ns env) (h2 : EOk prog c P cl A F L m m' ns env) (h3 : EOk prog c P cl A F L r r' ns env) :
    EOk prog c P cl A F L (.cmp2 l o1 m o2 r) (.Compare l' [o1.op, o2.op] [m', r'] pos) ns env := by
  intro g mu s H S R
  rw [ev, arm_eval_Compare]
  refine Snd.seq (h1 g mu s H S R) fun a x H1 mu1 s1 _ S1 G1 V1 => ?_
  show Snd _ c F L A mu1 s1 (compareChain pos x [o1.op, o2.op] (markedEach [o1.op, o2.op] [m', r'] [eval m' env, eval r' env])) _ _
  rw [marks2 hm]
  show Snd _ c F L A mu1 s1 (do
    let rv ← holding [x] (eval m' env)
    standAt pos
    let cv ← holding [x, rv] (compareOp o1.op x rv)
    release [x, rv] [cv]
    if ← holding [cv, rv] (truthy cv) then (do let rv' ← holding [rv] (eval r' env); standAt pos; operate [rv, rv'] (compareOp o2.op rv rv')) else pure cv) _ _
  have R1 := R.go S G1
  refine Snd.seq (Snd.holding (h2 g mu1 s1 H1 S1 R1)) fun b y H2 mu2 s2 _ S2 G2 V2 => Snd.at ?_
  refine Snd.seq (Snd.holding (cmpop_snd X.base S2 (V1.go S1 G2) V2 (by have := X.room; unfold deep; omega))) fun d z H3 mu3 s3 e3 S3 G3 V3 => ?_
  obtain ⟨⟨t, rfl⟩, rfl⟩ := cmpop_bool e3
  simp only [VR] at V3
  subst V3
  intro hb
  refine wpAny_bind (wpAny_release (wpAny_bind (wpAny_holding (wpAny_truthy_bool ?_))))
  cases t with
  | false => exact wpAny_pure (QV.same (t := s3.toks) S3 (by simp only [VR]))
  | true =>
    refine Snd.seq (Snd.holding (h3 g mu3 s3 H3 S3 ((R1.go S1 G2).go S2 G3))) (fun b' y' H4 mu4 s4 _ S4 G4 V4 => ?_) hb
    exact Snd.at fun hb => wpAny_operate' (cmpop_snd X.base S4 ((V2.go S2 G3).go S3 G4) V4 (by have := X.room; unfold deep; omega) hb)

theorem sub_ok (X : Cx prog c K fields P cl A F L) (hs : notSlice i' = true) (h1 : EOk prog c P cl A F L o o' ns env) (h2 : EOk prog c P cl A F L i i' ns env) : EOk prog c P cl A F L (.sub o i) (.Subscript o' i' pos) ns env := by
  intro g mu s H S R
  rw [ev, arm_eval_Subscript]
  refine Snd.seq (h1 g mu s H S R) fun a x H1 mu1 s1 _ S1 G1 V1 => ?_
  refine Snd.seq (Snd.holding (h2 g mu1 s1 H1 S1 (R.go S G1))) fun b y H2 mu2 s2 _ S2 G2 V2 => Snd.at ?_
  exact sub_snd S2 (V1.go S1 G2) V2 (by have := X.room; unfold deep; omega) (by cases i' <;> first | rfl | cases hs)

end
end Mine
end

section
/-! lists of expressions; truths -/
namespace Mine
open PySem PySem.W PyProof.Rows
set_option maxRecDepth 100000
inductive Pw (Rl : E → Expr → Prop) : List E → List Expr → Prop
  | nil : Pw Rl [] []
  | cons {e x es xs} : Rl e x → Pw Rl es xs → Pw Rl (e :: es) (x :: xs)

section
variable {prog : Program} {c : Cf} {K : Frag} {fields : List String} {P : Pg} {cl : CallT} {A : Around} {F : List Addr} {L : Addr}
variable {ns : List String} {env : Env} {e l r m o i lo hi : E} {x l' r' m' o' i' : Expr} {es : List E} {xs : List Expr} {pos : Pos}

/-- both readings of an expression: its value, its truth -/
noncomputable def BOk (prog : Program) (c : Cf) (P : Pg) (cl : CallT) (A : Around) (F : List Addr) (L : Addr) (ns : List String) (env : Env) (e : E) (x : Expr) : Prop := EOk prog c P cl A F L e x ns env ∧ TOk prog c P cl A F L e x ns env

theorem evs_ok (h : Pw (BOk prog c P cl A F L ns env) es xs) : EsOk prog c P cl A F L es xs ns env := by
  intro g mu s H p hs S R
  induction h generalizing mu s H with
  | nil => rw [evs]; exact Snd.ok S (by simp only [VRs])
  | cons a _ ih =>
    simp only [List.all_cons, Bool.and_eq_true] at hs
    rw [evs]
    exact Snd.spl_cons hs.1 (a.1 g mu s H S R) fun v H' mu' s' _ S' G' => ih mu' s' H' hs.2 S' (R.go S G')

theorem and_ok (hl : 2 ≤ es.length) (h : Pw (BOk prog c P cl A F L ns env) es xs) : EOk prog c P cl A F L (.and es) (.BoolOp .And xs pos) ns env := by
  intro g mu s H S R
  rw [ev, arm_eval_BoolOp]
  have go : ∀ {es xs}, Pw (BOk prog c P cl A F L ns env) es xs → es ≠ [] → ∀ mu s H, St c F mu H s.heap → FrR c F ns env g mu s.heap → Snd (model prog c.w) c F L A mu s (boolOp pos .And (evalEach xs env)) (evAnd P cl g es H) (VRl c) := by
    intro es xs h
    induction h with
    | nil => intro h; exact absurd rfl h
    | @cons e x es xs a b ih =>
      intro _ mu s H S R
      cases b with
      | nil => rw [evAnd]; exact a.1 g mu s H S R
      | @cons e2 x2 es2 xs2 a2 b2 =>
        rw [evAnd]
        · show Snd _ c F L A mu s (do
            let v ← eval x env
            standAt pos
            let t ← holding [v] (truthy v)
            match BoolOp.And, t with
            | .And, false | .Or, true => pure v
            | _, _ => boolOp pos .And (evalEach (x2 :: xs2) env)) _ _
          refine Snd.seq (a.1 g mu s H S R) fun v y H1 mu1 s1 _ S1 G1 V1 => Snd.at ?_
          split
          · rename_i ht
            have := truth_some ht; subst this
            simp only [VR] at V1; subst V1
            exact fun hb => wpAny_bind (wpAny_holding (wpAny_truthy_bool (ih (by simp) mu1 s1 H1 S1 (R.go S G1) hb)))
          · rename_i ht
            have := truth_some ht; subst this
            simp only [VR] at V1; subst V1
            exact fun hb => wpAny_bind (wpAny_holding (wpAny_truthy_bool (wpAny_pure (QV.same (t := s1.toks) S1 (by simp only [VR])))))
          · exact fun h => absurd rfl h
        · simp
  exact go h (by intro q; rw [q] at hl; simp at hl) mu s H S R
theorem or_ok (hl : 2 ≤ es.length) (h : Pw (BOk prog c P cl A F L ns env) es xs) : EOk prog c P cl A F L (.or es) (.BoolOp .Or xs pos) ns env := by
  intro g mu s H S R
  rw [ev, arm_eval_BoolOp]
  have go : ∀ {es xs}, Pw (BOk prog c P cl A F L ns env) es xs → es ≠ [] → ∀ mu s H, St c F mu H s.heap → FrR c F ns env g mu s.heap → Snd (model prog c.w) c F L A mu s (boolOp pos .Or (evalEach xs env)) (evOr P cl g es H) (VRl c) := by
    intro es xs h
    induction h with
    | nil => intro h; exact absurd rfl h
    | @cons e x es xs a b ih =>
      intro _ mu s H S R
      cases b with
      | nil => rw [evOr]; exact a.1 g mu s H S R
      | @cons e2 x2 es2 xs2 a2 b2 =>
        rw [evOr]
        · show Snd _ c F L A mu s (do
            let v ← eval x env
            standAt pos
            let t ← holding [v] (truthy v)
            match BoolOp.Or, t with
            | .And, false | .Or, true => pure v
            | _, _ => boolOp pos .Or (evalEach (x2 :: xs2) env)) _ _
          refine Snd.seq (a.1 g mu s H S R) fun v y H1 mu1 s1 _ S1 G1 V1 => Snd.at ?_
          split
          · rename_i ht
            have := truth_some ht; subst this
            simp only [VR] at V1; subst V1
            exact fun hb => wpAny_bind (wpAny_holding (wpAny_truthy_bool (wpAny_pure (QV.same (t := s1.toks) S1 (by simp only [VR])))))
          · rename_i ht
            have := truth_some ht; subst this
            simp only [VR] at V1; subst V1
            exact fun hb => wpAny_bind (wpAny_holding (wpAny_truthy_bool (ih (by simp) mu1 s1 H1 S1 (R.go S G1) hb)))
          · exact fun h => absurd rfl h
        · simp
  exact go h (by intro q; rw [q] at hl; simp at hl) mu s H S R

/-- a truth that is asked of a value -/
theorem val_true (he : ∀ whole, isTrue x env whole = (do let v ← whole; standAt x.pos; holding [v] (truthy v))) (h : EOk prog c P cl A F L e x ns env) : TOk prog c P cl A F L e x ns env := by
  intro g mu s H S R
  rw [he]
  refine Snd.seq (h g mu s H S R) fun v y H1 mu1 s1 _ S1 G1 V1 => Snd.at (Snd.holding ?_)
  unfold tb
  split
  · rename_i b ht
    have := truth_some ht; subst this
    simp only [VR] at V1; subst V1
    exact fun _ => wpAny_truthy_bool (QV.same (t := s1.toks) S1 rfl)
  · exact fun h => absurd rfl h

theorem bind_assoc {α β γ : Type} (r : Mine.R α) (f : α → Hp → Mine.R β) (k : β → Hp → Mine.R γ) : (r.bind f).bind k = r.bind fun a h => (f a h).bind k := by cases r <;> rfl

theorem not_true (h : TOk prog c P cl A F L e x ns env) : TOk prog c P cl A F L (.not e) (.UnaryOp .Not x pos) ns env := by
  intro g mu s H S R
  rw [arm_isTrue_UnaryOp]
  have e1 : (ev P cl g (.not e) H).bind tb = ((ev P cl g e H).bind tb).bind fun v h => match v with | .bool b => .ok (.bool (!b)) h | _ => .bad := by
    rw [ev, bind_assoc, bind_assoc]
    congr 1
    funext a h
    unfold tb
    cases truth a <;> rfl
  rw [e1]
  refine Snd.seq (h g mu s H S R) fun v b H1 mu1 s1 _ S1 G1 V1 => ?_
  subst V1
  exact Snd.ok S1 rfl

theorem cmp_true {op : CO} (X : Cx prog c K fields P cl A F L) (hm : notMark r' = true) (h1 : EOk prog c P cl A F L l l' ns env) (h2 : EOk prog c P cl A F L r r' ns env) : TOk prog c P cl A F L (.cmp op l r) (.Compare l' [op.op] [r'] pos) ns env := by
  intro g mu s H S R
  rw [ev, arm_isTrue_Compare, bind_assoc]
  refine Snd.seq (h1 g mu s H S R) fun a x H1 mu1 s1 _ S1 G1 V1 => ?_
  show Snd _ c F L A mu1 s1 (testChain pos x [op.op] (markedEach [op.op] [r'] [eval r' env])) _ _
  rw [marks1 hm, bind_assoc]
  show Snd _ c F L A mu1 s1 (do let rv ← holding [x] (eval r' env); standAt pos; let cv ← operate [x, rv] (compareOp op.op x rv); holding [cv] (truthy cv)) _ _
  refine Snd.seq (Snd.holding (h2 g mu1 s1 H1 S1 (R.go S G1))) fun b y H2 mu2 s2 _ S2 G2 V2 => Snd.at ?_
  refine Snd.seq (t := operate [x, y] (compareOp op.op x y)) (fun hb => wpAny_operate' (cmpop_snd X.base S2 (V1.go S1 G2) V2 (by have := X.room; unfold deep; omega) hb)) fun d z H3 mu3 s3 e3 S3 G3 V3 => Snd.holding ?_
  obtain ⟨⟨t, rfl⟩, rfl⟩ := cmpop_bool e3
  simp only [VR] at V3; subst V3
  exact fun _ => wpAny_truthy_bool (QV.same (t := s3.toks) S3 rfl)

theorem cmp2_true {o1 o2 : CO} (X : Cx prog c K fields P cl A F L) (hm : notMark r' = true) (h1 : EOk prog c P cl A F L l l' ns env) (h2 : EOk prog c P cl A F L m m' ns env) (h3 : EOk prog c P cl A F L r r' ns env) :
    TOk prog c P cl A F L (.cmp2 l o1 m o2 r) (.Compare l' [o1.op, o2.op] [m', r'] pos) ns env := by
  intro g mu s H S R
  rw [ev, arm_isTrue_Compare, bind_assoc]
  refine Snd.seq (h1 g mu s H S R) fun a x H1 mu1 s1 _ S1 G1 V1 => ?_
  show Snd _ c F L A mu1 s1 (testChain pos x [o1.op, o2.op] (markedEach [o1.op, o2.op] [m', r'] [eval m' env, eval r' env])) _ _
  rw [marks2 hm, bind_assoc]
  show Snd _ c F L A mu1 s1 (do
    let rv ← holding [x] (eval m' env)
    standAt pos
    let cv ← holding [x, rv] (compareOp o1.op x rv)
    release [x, rv] [cv]
    if ← holding [cv, rv] (truthy cv) then (do let rv' ← holding [rv] (eval r' env); standAt pos; let cv ← operate [rv, rv'] (compareOp o2.op rv rv'); holding [cv] (truthy cv)) else pure false) _ _
  have R1 := R.go S G1
  refine Snd.seq (Snd.holding (h2 g mu1 s1 H1 S1 R1)) fun b y H2 mu2 s2 _ S2 G2 V2 => Snd.at ?_
  rw [bind_assoc]
  refine Snd.seq (Snd.holding (cmpop_snd X.base S2 (V1.go S1 G2) V2 (by have := X.room; unfold deep; omega))) fun d z H3 mu3 s3 e3 S3 G3 V3 => ?_
  obtain ⟨⟨t, rfl⟩, rfl⟩ := cmpop_bool e3
  simp only [VR] at V3
  subst V3
  intro hb
  refine wpAny_bind (wpAny_release (wpAny_bind (wpAny_holding (wpAny_truthy_bool ?_))))
  cases t with
  | false => exact wpAny_pure (QV.same (t := s3.toks) S3 rfl)
  | true =>
    have e4 : ((ev P cl g r H3).bind fun d h => cmpop o2 b d h).bind tb = (ev P cl g r H3).bind fun d h => (cmpop o2 b d h).bind tb := bind_assoc ..
    show wpAny _ A _ (QV c F mu3 s3 (((ev P cl g r H3).bind fun d h => cmpop o2 b d h).bind tb) _) (QE c F L mu3 s3 (((ev P cl g r H3).bind fun d h => cmpop o2 b d h).bind tb)) s3
    replace hb : (((ev P cl g r H3).bind fun d h => cmpop o2 b d h).bind tb) ≠ .bad := hb
    rw [e4] at hb ⊢
    refine Snd.seq (Snd.holding (h3 g mu3 s3 H3 S3 ((R1.go S1 G2).go S2 G3))) (fun b' y' H4 mu4 s4 _ S4 G4 V4 => Snd.at ?_) hb
    refine Snd.seq (t := operate [y, y'] (compareOp o2.op y y')) (fun hb => wpAny_operate' (cmpop_snd X.base S4 ((V2.go S2 G3).go S3 G4) V4 (by have := X.room; unfold deep; omega) hb)) fun d z H5 mu5 s5 e5 S5 G5 V5 => Snd.holding ?_
    obtain ⟨⟨t, rfl⟩, rfl⟩ := cmpop_bool e5
    simp only [VR] at V5; subst V5
    exact fun _ => wpAny_truthy_bool (QV.same (t := s5.toks) S5 rfl)

theorem and_true (hl : 2 ≤ es.length) (h : Pw (BOk prog c P cl A F L ns env) es xs) : TOk prog c P cl A F L (.and es) (.BoolOp .And xs pos) ns env := by
  intro g mu s H S R
  rw [ev, arm_isTrue_BoolOp]
  have go : ∀ {es xs}, Pw (BOk prog c P cl A F L ns env) es xs → es ≠ [] → ∀ mu s H, St c F mu H s.heap → FrR c F ns env g mu s.heap → Snd (model prog c.w) c F L A mu s (PySem.allTrue .And xs env) ((evAnd P cl g es H).bind tb) (fun v (b : Bool) _ _ => v = .bool b) := by
    intro es xs h
    induction h with
    | nil => intro h; exact absurd rfl h
    | @cons e x es xs a b ih =>
      intro _ mu s H S R hb
      cases b with
      | nil =>
        rw [evAnd] at hb ⊢
        refine wpAny_allTrue_And_cons (wpAny_mono (a.2 g mu s H S R hb) (fun t s1 q => ?_) fun _ _ q => q)
        cases t with
        | true => exact wpAny_allTrue_And_nil q
        | false => exact q
      | @cons e2 x2 es2 xs2 a2 b2 =>
        have ev1 : evAnd P cl g (e :: e2 :: es2) H = (ev P cl g e H).bind fun v h => match truth v with | some true => evAnd P cl g (e2 :: es2) h | some false => .ok v h | .none => .bad := by
          rw [evAnd] <;> first | rfl | simp
        have ev2 : (evAnd P cl g (e :: e2 :: es2) H).bind tb = ((ev P cl g e H).bind tb).bind fun v h => match v with | .bool true => (evAnd P cl g (e2 :: es2) h).bind tb | .bool false => .ok (.bool false) h | _ => .bad := by
          rw [ev1, bind_assoc, bind_assoc]
          congr 1
          funext v h
          unfold tb
          cases ht : truth v with
          | none => rfl
          | some t =>
            have := truth_some ht; subst this
            cases t <;> rfl
        rw [ev2] at hb ⊢
        have hr : (ev P cl g e H).bind tb ≠ .bad := fun e => hb (by rw [e]; rfl)
        refine wpAny_allTrue_And_cons (wpAny_mono (a.2 g mu s H S R hr) (fun t s1 q => ?_) fun _ _ q => q.as fun x H e => by rw [e]; rfl)
        obtain ⟨v, H1, mu1, e1, S1, G1, rfl, eg1, eo1⟩ := q
        rw [e1] at hb ⊢
        cases t with
        | true => exact wpAny_mono (ih (by simp) mu1 s1 H1 S1 (R.go S G1) hb) (fun _ _ q => q.back G1 eg1 eo1) fun _ _ q => q.back G1 eg1 eo1
        | false => exact ⟨_, H1, mu1, rfl, S1, G1, rfl, eg1, eo1⟩
  exact go h (by intro q; rw [q] at hl; simp at hl) mu s H S R
theorem or_true (hl : 2 ≤ es.length) (h : Pw (BOk prog c P cl A F L ns env) es xs) : TOk prog c P cl A F L (.or es) (.BoolOp .Or xs pos) ns env := by
  intro g mu s H S R
  rw [ev, arm_isTrue_BoolOp]
  have go : ∀ {es xs}, Pw (BOk prog c P cl A F L ns env) es xs → es ≠ [] → ∀ mu s H, St c F mu H s.heap → FrR c F ns env g mu s.heap → Snd (model prog c.w) c F L A mu s (PySem.allTrue .Or xs env) ((evOr P cl g es H).bind tb) (fun v (b : Bool) _ _ => v = .bool b) := by
    intro es xs h
    induction h with
    | nil => intro h; exact absurd rfl h
    | @cons e x es xs a b ih =>
      intro _ mu s H S R hb
      cases b with
      | nil =>
        rw [evOr] at hb ⊢
        refine wpAny_allTrue_Or_cons (wpAny_mono (a.2 g mu s H S R hb) (fun t s1 q => ?_) fun _ _ q => q)
        cases t with
        | true => exact q
        | false => exact wpAny_allTrue_Or_nil q
      | @cons e2 x2 es2 xs2 a2 b2 =>
        have ev1 : evOr P cl g (e :: e2 :: es2) H = (ev P cl g e H).bind fun v h => match truth v with | some true => .ok v h | some false => evOr P cl g (e2 :: es2) h | .none => .bad := by
          rw [evOr] <;> first | rfl | simp
        have ev2 : (evOr P cl g (e :: e2 :: es2) H).bind tb = ((ev P cl g e H).bind tb).bind fun v h => match v with | .bool true => .ok (.bool true) h | .bool false => (evOr P cl g (e2 :: es2) h).bind tb | _ => .bad := by
          rw [ev1, bind_assoc, bind_assoc]
          congr 1
          funext v h
          unfold tb
          cases ht : truth v with
          | none => rfl
          | some t =>
            have := truth_some ht; subst this
            cases t <;> rfl
        rw [ev2] at hb ⊢
        have hr : (ev P cl g e H).bind tb ≠ .bad := fun e => hb (by rw [e]; rfl)
        refine wpAny_allTrue_Or_cons (wpAny_mono (a.2 g mu s H S R hr) (fun t s1 q => ?_) fun _ _ q => q.as fun x H e => by rw [e]; rfl)
        obtain ⟨v, H1, mu1, e1, S1, G1, rfl, eg1, eo1⟩ := q
        rw [e1] at hb ⊢
        cases t with
        | true => exact ⟨_, H1, mu1, rfl, S1, G1, rfl, eg1, eo1⟩
        | false => exact wpAny_mono (ih (by simp) mu1 s1 H1 S1 (R.go S G1) hb) (fun _ _ q => q.back G1 eg1 eo1) fun _ _ q => q.back G1 eg1 eo1
  exact go h (by intro q; rw [q] at hl; simp at hl) mu s H S R
end
end Mine
end

section
/-! calls, displays -/
namespace Mine
open PySem PySem.W PyProof.Rows
set_option maxRecDepth 100000
section
variable {prog : Program} {c : Cf} {K : Frag} {fields : List String} {P : Pg} {cl : CallT} {A : Around} {F : List Addr} {L : Addr} {mu : Mu} {s : Shared} {H : Hp}
variable {ns : List String} {env : Env} {e l r m o i lo hi : E} {x l' r' m' o' i' : Expr} {es : List E} {xs : List Expr} {pos : Pos}

theorem call_ok {f : String} {id : Str} {q : Pos} (X : Cx prog c K fields P cl A F L) (hg : isGlob env.scope f id = true) (hf : (P.fn ("", f)).isSome = true) (hs : xs.all notStar = true) (h : Pw (BOk prog c P cl A F L ns env) es xs) :
    EOk prog c P cl A F L (.call f es) (.Call (.Name id q) xs [] pos) ns env := by
  intro g mu s H S R hb
  obtain ⟨rfl, hk, hd⟩ := kind_of hg
  obtain ⟨a, ha, fa⟩ := X.fns _ hf
  have ha' : addrOf K f = some a := by unfold fnAt at ha; rwa [if_pos rfl] at ha
  rw [ev] at hb ⊢
  refine wpAny_Call_NameR (name_text X.base S R hk hd (addr_ns ha') ?_)
  refine callWith_snd X.base hs (isFn_keeps fa) (evs_ok h g mu s H pos hs S R) (fun vs cs H' mu' s' _ S' G' V' => ?_) hb
  exact X.call _ a vs cs mu' s' H' ha hf S' V'

theorem bi_tab : ∀ b ∈ bfs, (b, bfv b) ∈ biTab := by decide
theorem bfv_keeps {b : String} (h : b ∈ bfs) {M : Model} : ∀ h, K.In h → ∃ k, (k = Keeper.frame ∨ k = Keeper.machine ∨ k = Keeper.boundFrame) ∧ Looks M h (keeperOf (bfv b)) k := by
  simp only [bfs, List.mem_cons, List.not_mem_nil, or_false] at h
  rcases h with rfl | rfl | rfl | rfl | rfl | rfl | rfl | rfl | rfl <;> first | exact keeps_builtin | exact keeps_type

theorem bi_ok {b : String} {id : Str} {q : Pos} (X : Cx prog c K fields P cl A F L) (hg : isGlob env.scope b id = true) (hbf : bfs.contains b = true) (hs : xs.all notStar = true) (h : Pw (BOk prog c P cl A F L ns env) es xs) :
    EOk prog c P cl A F L (.bi b es) (.Call (.Name id q) xs [] pos) ns env := by
  intro g mu s H S R hb
  obtain ⟨rfl, hk, hd⟩ := kind_of hg
  have hbf : b ∈ bfs := by simpa using hbf
  rw [ev] at hb ⊢
  refine wpAny_Call_NameR (name_blt X.base S R hk hd (bi_tab b hbf) ?_)
  refine callWith_snd X.base hs (bfv_keeps hbf) (evs_ok h g mu s H pos hs S R) (fun vs cs H' mu' s' _ S' G' V' => ?_) hb
  exact bfn_snd X.hh S' V'

theorem isa_tab : ∀ t ∈ isaTs, (t, Value.type t) ∈ biTab := by decide

theorem isa_ok {t : String} {id t' : Str} {q q' : Pos} (X : Cx prog c K fields P cl A F L) (hg : isGlob env.scope "isinstance" id = true) (ht : isGlob env.scope t t' = true) (hts : isaTs.contains t = true) (hs : notStar x = true)
    (h : EOk prog c P cl A F L e x ns env) : EOk prog c P cl A F L (.isa e t) (.Call (.Name id q) [x, .Name t' q'] [] pos) ns env := by
  intro g mu s H S R hb
  obtain ⟨rfl, hk, hd⟩ := kind_of hg
  obtain ⟨rfl, hk', hd'⟩ := kind_of ht
  have hts : t ∈ isaTs := by simpa using hts
  have hp : [x, Expr.Name (Str.ofString t) q'].all notStar = true := by rw [List.all_cons, hs]; rfl
  rw [ev] at hb ⊢
  have hr : ev P cl g e H ≠ .bad := fun e => hb (by rw [e]; rfl)
  refine wpAny_Call_NameR (name_blt (v := .builtin "isinstance") X.base S R hk hd (by decide) ?_)
  refine callWith_of (P := K.In) (by rw [starEach_plain hp]; rfl) keeps_builtin (evalArgs_all hp ?_)
  refine wpAny_items_cons (wpAny_mono (h g mu s H S R hr) (fun y s1 k => ?_) fun _ _ k => k.as fun x H e => by rw [e]; rfl) (starEach_cons hs)
  obtain ⟨v, H1, mu1, e1, S1, G1, V1, eg1, eo1⟩ := k
  refine wpAny_items_cons (name_blt X.base S1 (R.go S G1) hk' hd' (isa_tab t hts) (wpAny_items_nil ?_)) (starEach_cons rfl)
  rw [e1] at hb ⊢
  exact ⟨X.base.in S1, wpAny_mono (isa_snd X.base S1 V1 hts hb) (fun _ _ k => k.back G1 eg1 eo1) fun _ _ k => k.back G1 eg1 eo1⟩

theorem list_ok (hs : xs.all notStar = true) (h : Pw (BOk prog c P cl A F L ns env) es xs) : EOk prog c P cl A F L (.list es) (.List xs pos) ns env := by
  intro g mu s H S R hb
  rw [ev] at hb ⊢
  have hr : evs P cl g es H ≠ .bad := fun e => hb (by rw [e]; rfl)
  refine wpAny_List (wpAny_mono (evs_ok h g mu s H pos hs S R hr) (fun ys s1 k => ?_) fun _ _ k => k.as fun x H e => by rw [e]; rfl)
  obtain ⟨vs, H1, mu1, e1, S1, G1, V1, eg1, eo1⟩ := k
  rw [e1] at hb ⊢
  have hz : vs.length ≤ mostLen := by
    by_cases q : vs.length ≤ mostLen
    · exact q
    · exact absurd (show (if vs.length ≤ mostLen then alloc (.list vs) H1 else .bad) = .bad from if_neg q) hb
  have e2 : ((Mine.R.ok vs H1).bind fun vs h => if vs.length ≤ mostLen then alloc (.list vs) h else .bad) = alloc (.list vs) H1 := if_pos hz
  rw [e2]
  have hl : ys.length = vs.length := VRs.length V1
  exact ⟨by rw [hl, ← mostLen_eq]; exact hz, (QV.newList (cs := ys.toArray) S1 (by simpa using V1) hz 0).back G1 eg1 eo1⟩

theorem tup_ok {k : Nat} (hs : xs.all notStar = true) (h : Pw (BOk prog c P cl A F L ns env) es xs) : EOk prog c P cl A F L (.tup es) (.Tuple xs k pos) ns env := by
  intro g mu s H S R hb
  rw [ev] at hb ⊢
  have hr : evs P cl g es H ≠ .bad := fun e => hb (by rw [e]; rfl)
  refine wpAny_Tuple (wpAny_mono (evs_ok h g mu s H pos hs S R hr) (fun ys s1 k => ?_) fun _ _ k => k.as fun x H e => by rw [e]; rfl)
  obtain ⟨vs, H1, mu1, e1, S1, G1, V1, eg1, eo1⟩ := k
  rw [e1] at hb ⊢
  have hz : vs.length ≤ mostLen := by
    by_cases q : vs.length ≤ mostLen
    · exact q
    · exact absurd (show (if vs.length ≤ mostLen then Mine.R.ok (V.tup vs) H1 else .bad) = .bad from if_neg q) hb
  have e2 : ((Mine.R.ok vs H1).bind fun vs h => if vs.length ≤ mostLen then .ok (V.tup vs) h else .bad) = .ok (V.tup vs) H1 := if_pos hz
  rw [e2]
  have hl : ys.length = vs.length := VRs.length V1
  refine ⟨by rw [hl, ← mostLen_eq]; exact hz, (QV.here (s := s1) (s' := { s1 with heap := s1.heap.push { cls := .type "tuple", data := .seq ys.toArray } }) S1 (stays_push _ _) ?_ rfl rfl).back G1 eg1 eo1⟩
  show VR _ _ _ (.tup vs) _
  simp only [VR]
  exact ⟨_, _, 0, ys.toArray, rfl, Heap.get?_push_size _ rfl, rfl, rfl, by
    have := V1.mono (h' := s1.heap.push { cls := .type "tuple", data := .seq ys.toArray }) (fun b o e _ => Heap.get?_push_of_some _ e) (fun _ _ e => e)
    simpa using this, hz⟩

/-! methods -/
theorem methodCall_of {M : Model} {E : Value → Shared → Prop} {name : Str} {apos : Pos} {ov : Value} {Q : Value → Shared → Prop} (hs : xs.all notStar = true) (hl : xs.length < 20) (hline : apos.endLine = pos.line)
    (h : ∀ pl, wpAny M A (getMethod ov name pl) (fun f s' => wpAny M A (callWith pos f.1 f.2 (backTo pos (starEach xs env)) []) Q E s') E s) :
    wpAny M A (methodCall o' name apos pos env ov (xs.length + ([] : List Keyword).length) (backTo pos (starEach xs env)) (backToKw pos (keywordEach [] env))) Q E s := by
  have hall : ∀ {ys : List Expr}, ys.all notStar = true → (backTo pos (starEach ys env)).all (fun x => !x.1) = true := by
    intro ys
    induction ys with
    | nil => intro _; rfl
    | cons y ys ih =>
      intro h
      simp only [List.all_cons, Bool.and_eq_true] at h
      rw [starEach_cons h.1]
      show (!false && (backTo pos (starEach ys env)).all (fun x => !x.1)) = true
      rw [ih h.2]; rfl
  have hform : methodCallForm (xs.length + ([] : List Keyword).length) (backTo pos (starEach xs env)) (backToKw pos (keywordEach [] env)) = true := by
    unfold methodCallForm
    rw [hall hs]
    show (true && true && decide (xs.length + 0 + 0 < 30)) = true
    simp; omega
  have hpos : methodCallPos true o' env apos pos = pure pos := by unfold methodCallPos; simp [hline]
  unfold methodCall
  rw [hform]
  refine wpAny_bind (wpAny_holding (wpAny_mono (h _) (fun f s' q => ?_) fun _ _ q => q))
  exact wpAny_bind (wpAny_of_eq hpos q)

theorem list_slot : ∀ m ∈ listMs, Slot "list" (Str.ofString m) ("list." ++ m) ∧ typeOf (.builtin ("list." ++ m)) = pure (.type "method_descriptor") := by
  intro m h
  simp only [listMs, List.mem_cons, List.not_mem_nil, or_false] at h
  rcases h with rfl | rfl | rfl
  · exact ⟨PySem.F.slot_list_append, PySem.F.type_list_append⟩
  · exact ⟨PySem.F.slot_list_pop, PySem.F.type_list_pop⟩
  · exact ⟨PySem.F.slot_list_clear, PySem.F.type_list_clear⟩

theorem t1 {n : Int} {t : Tok} {Q : Value → Shared → Prop} {E : Value → Shared → Prop} (pl : Sem Bool) (h : wpAny (model prog c.w) A (callWith pos (.builtin "int.bit_length") [.int n t] (backTo pos (starEach [] env)) []) Q E s) :
   wpAny (model prog c.w) A (getMethod (.int n t) (Str.ofString "bit_length") pl) (fun f s' => wpAny (model prog c.w) A (callWith pos f.1 f.2 (backTo pos (starEach [] env)) []) Q E s') E s := by
  exact getMethod_int_bit_length h
theorem t2 {n : Int} {t : Tok} {Q : Value → Shared → Prop} {E : Value → Shared → Prop} (B : Base c K fields) (S : St c F mu H s.heap) (h : wpAny (model prog c.w) A (call (.builtin "int.bit_length") [.int n t]) Q E s) : wpAny (model prog c.w) A (callWith pos (.builtin "int.bit_length") [.int n t] (backTo pos (starEach [] env)) []) Q E s := by
  have h0 : ([] : List Expr).all notStar = true := rfl
  refine callWith_of (P := K.In) (by rw [starEach_plain h0]; rfl) keeps_builtin ?_
  refine evalArgs_all h0 ?_
  refine wpAny_items_nil ⟨B.in S, ?_⟩
  exact h
theorem int_meth {n : Int} {t : Tok} {apos : Pos} {nm : Str} {Q : Value → Shared → Prop} {E : Value → Shared → Prop} (B : Base c K fields) (S : St c F mu H s.heap) (hline : apos.endLine = pos.line) (hx : xs = []) (hn : nm = Str.ofString "bit_length") (hs : xs.all notStar = true) (hl : xs.length < 20)
    (h : Q (.int (Builtin.Int.intBits n) s.toks) { s with toks := s.toks + 1 }) :
    wpAny (model prog c.w) A (methodCall o' nm apos pos env (.int n t) (xs.length + ([] : List Keyword).length) (backTo pos (starEach xs env)) (backToKw pos (keywordEach [] env))) Q E s := by
  refine methodCall_of hs hl hline fun pl => ?_
  subst hx hn
  exact t1 pl (t2 B S (call_int_bit_length h))

theorem meth_ok {nm : String} {apos : Pos} (X : Cx prog c K fields P cl A F L) (hline : apos.endLine = pos.line) (hbo : baseOk o' = true) (hs : xs.all notStar = true) (hl : xs.length < 20) (h1 : EOk prog c P cl A F L o o' ns env)
    (h : Pw (BOk prog c P cl A F L ns env) es xs) : EOk prog c P cl A F L (.meth o nm es) (.Call (.Attribute o' (Str.ofString nm) apos) xs [] pos) ns env := by
  intro g mu s H S R
  rw [ev, arm_eval_Call, base_eq hbo]
  refine Snd.seq (h1 g mu s H S R) fun a x H1 mu1 s1 _ S1 G1 V1 => Snd.at ?_
  have R1 := R.go S G1
  split
  · rename_i n
    split
    · rename_i hm
      split
      · have hx : xs = [] := by cases h; rfl
        simp only [VR] at V1
        obtain ⟨t, rfl⟩ := V1
        have hn : Str.ofString nm = Str.ofString "bit_length" := by rw [hm]
        exact fun _ => int_meth X.base S1 hline hx hn hs hl (by rw [← bits_eq]; exact QV.int S1)
      · exact fun h => absurd rfl h
    · exact fun h => absurd rfl h
  · rename_i rr
    split
    · rename_i C fs hi
      split
      · rename_i fd hfn hlk
        intro hb
        have hsome : (P.fn (C, nm)).isSome = true := by rw [hfn]; rfl
        obtain ⟨fa, ha, hf⟩ := X.fns _ hsome
        obtain ⟨q, D, n, ents, rfl, z1, z2, z3, z4, z5, z6, I⟩ := S1.instAt hi V1
        obtain ⟨hC, y1, y2, y3⟩ := X.base.inst _ _ z3
        unfold clsOk at y2
        simp only [Bool.and_eq_true, beq_iff_eq, List.all_eq_true] at y2
        obtain ⟨⟨⟨⟨⟨⟨k1, k2⟩, k3⟩, k4⟩, k5⟩, k6⟩, k7⟩ := y2
        have hfi : findIn K (.ref D) (Str.ofString nm) = some (some (.ref fa)) := by
          unfold fnAt at ha
          rw [if_neg hC] at ha
          simp only [y1] at ha
          split at ha
          · rename_i b e; cases ha; exact e
          · cases ha
        have hty : typeIn K (.ref fa) = some (.type "function") := by
          unfold isFn at hf
          show (K.lookup fa).map (·.cls) = _
          split at hf
          · rename_i e; rw [e]; exact congrArg some (beq_iff_eq.mp hf)
          · cases hf
        have hsh : shadowIn (some ⟨.type "dict", none, .dict ents n, #[]⟩) (Str.ofString nm) = some false := by
          rcases look_fields (n := n) (f := nm) z6 with ⟨_, w⟩ | ⟨v', y, w, _⟩
          · unfold shadowIn; dsimp only; rw [w]; rfl
          · rw [hlk] at w; cases w
        refine methodCall_of hs hl hline fun pl => method_fn (X.base.in S1) I k1 k2 hfi hty hsh ?_
        refine callWith_snd X.base hs (isFn_keeps hf) (evs_ok h g mu1 s1 H1 pos hs S1 R1) (fun vs cs H' mu' s' _ S' G' V' => ?_) hb
        refine X.call _ fa _ _ mu' s' H' ha hsome S' ?_
        show VRs _ _ _ (.ref _ :: vs) (.ref q.a :: cs)
        simp only [VRs]
        exact ⟨_, _, rfl, VR.go S1 G' V1, V'⟩
      · exact fun h => absurd rfl h
    · rename_i l hi
      split
      · rename_i hm
        intro hb
        have hm : nm ∈ listMs := by simpa using hm
        obtain ⟨sl, ty⟩ := list_slot nm hm
        obtain ⟨q, n, items, rfl, z1, z2, z3, z4, z5⟩ := S1.listAt hi V1
        refine methodCall_of hs hl hline fun pl => getMethod_list_of (items := items) sl ty ⟨_, z3, rfl, n, rfl⟩ ?_ ?_
        · exact ⟨_, z3, rfl⟩
        · refine callWith_snd X.base hs keeps_builtin (evs_ok h g mu1 s1 H1 pos hs S1 R1) (fun vs cs H' mu' s' _ S' G' V' => ?_) hb
          split
          · rename_i ob ho
            exact objMeth_snd S' (VR.go S1 G' V1) ho V'
          · exact fun h => absurd rfl h
      · exact fun h => absurd rfl h
    · exact fun h => absurd rfl h
  · exact fun h => absurd rfl h
end
end Mine
end

section
/-! every expression -/
namespace Mine
open PySem PySem.W PyProof.Rows
set_option maxRecDepth 100000
section
variable {prog : Program} {c : Cf} {K : Frag} {fields : List String} {P : Pg} {cl : CallT} {A : Around} {F : List Addr} {L : Addr} {ns : List String}

mutual
theorem ev_ok (X : Cx prog c K fields P cl A F L) : ∀ (e : E) (x : Expr) (env : Env), fitE K P fields ns env.scope e x = true → BOk prog c P cl A F L ns env e x
  | .none, x, env, h => by
    obtain ⟨k, p, rfl⟩ := fit_none h
    have : EOk prog c P cl A F L .none (.Constant .none k p) ns env := fun g mu s H S R => by rw [ev]; exact snd_none S
    exact ⟨this, val_true (fun _ => rfl) this⟩
  | .bool b, x, env, h => by
    obtain ⟨k, p, rfl⟩ := fit_bool h
    have : EOk prog c P cl A F L (.bool b) (.Constant (.bool b) k p) ns env := fun g mu s H S R => by rw [ev]; exact snd_bool S
    exact ⟨this, val_true (fun _ => rfl) this⟩
  | .int i, x, env, h => by
    obtain ⟨k, p, rfl⟩ := fit_int h
    have : EOk prog c P cl A F L (.int i) (.Constant (.int i) k p) ns env := fun g mu s H S R => by rw [ev]; exact snd_int S
    exact ⟨this, val_true (fun _ => rfl) this⟩
  | .str _, x, env, h => by rw [fitE] at h; cases h
  | .var i, x, env, h => by
    obtain ⟨n, p, rfl, h1, h2, h3⟩ := fit_var h
    have : EOk prog c P cl A F L (.var i) (.Name (Str.ofString n) p) ns env := fun g mu s H S R => by
      rw [ev]
      simp only [okName, Bool.and_eq_true, Bool.not_eq_true'] at h2
      split
      · rename_i v hv; exact snd_var S R h1 hv rfl h3 h2.1 h2.2
      · exact fun h => absurd rfl h
    exact ⟨this, val_true (fun _ => rfl) this⟩
  | .glob _, x, env, h => by rw [fitE] at h; cases h
  | .bin op l r, x, env, h => by
    obtain ⟨l', r', p, rfl, h1, h2⟩ := fit_bin h
    have := bin_ok (op := op) (pos := p) (ev_ok X l l' env h1).1 (ev_ok X r r' env h2).1
    exact ⟨this, val_true (fun _ => rfl) this⟩
  | .neg e, x, env, h => by
    obtain ⟨e', p, rfl, h1⟩ := fit_neg h
    have := neg_ok (pos := p) (ev_ok X e e' env h1).1
    exact ⟨this, val_true (fun _ => rfl) this⟩
  | .not e, x, env, h => by
    obtain ⟨e', p, rfl, h1⟩ := fit_not h
    have b := ev_ok X e e' env h1
    exact ⟨not_ok b.1, not_true b.2⟩
  | .and es, x, env, h => by
    obtain ⟨es', p, rfl, h1, h2⟩ := fit_and h
    have b := evs_pw X es es' env h1
    exact ⟨and_ok h2 b, and_true h2 b⟩
  | .or es, x, env, h => by
    obtain ⟨es', p, rfl, h1, h2⟩ := fit_or h
    have b := evs_pw X es es' env h1
    exact ⟨or_ok h2 b, or_true h2 b⟩
  | .cmp op l r, x, env, h => by
    obtain ⟨l', r', p, rfl, h0, h1, h2⟩ := fit_cmp h
    have a := (ev_ok X l l' env h1).1
    have b := (ev_ok X r r' env h2).1
    exact ⟨cmp_ok X h0 a b, cmp_true X h0 a b⟩
  | .cmp2 l o1 m o2 r, x, env, h => by
    obtain ⟨l', m', r', p, rfl, h0, h1, h2, h3⟩ := fit_cmp2 h
    have a := (ev_ok X l l' env h1).1
    have b := (ev_ok X m m' env h2).1
    have d := (ev_ok X r r' env h3).1
    exact ⟨cmp2_ok X h0 a b d, cmp2_true X h0 a b d⟩
  | .sub o i, x, env, h => by
    obtain ⟨o', i', p, rfl, h0, h1, h2⟩ := fit_sub h
    have := sub_ok (pos := p) X h0 (ev_ok X o o' env h1).1 (ev_ok X i i' env h2).1
    exact ⟨this, val_true (fun _ => rfl) this⟩
  | .slc _ _ _, x, env, h => by rw [fitE] at h; cases h
  | .attr _ _, x, env, h => by rw [fitE] at h; cases h
  | .call f as, x, env, h => by
    obtain ⟨id, q, as', p, rfl, h0, h1, h2, h3⟩ := fit_call h
    have := call_ok (pos := p) (q := q) X h0 h1 h2 (evs_pw X as as' env h3)
    exact ⟨this, val_true (fun _ => rfl) this⟩
  | .make C as, x, env, h => (fit_make h).elim
  | .meth o m as, x, env, h => by
    obtain ⟨o', apos, as', p, rfl, h0, h1, h2, h3, h4, h5⟩ := fit_meth h
    have := meth_ok (nm := m) (pos := p) X h0 h1 h2 h3 (ev_ok X o o' env h4).1 (evs_pw X as as' env h5)
    exact ⟨this, val_true (fun _ => rfl) this⟩
  | .bi b as, x, env, h => by
    obtain ⟨id, q, as', p, rfl, h0, h1, h2, h3⟩ := fit_bi h
    have := bi_ok (pos := p) (q := q) X h0 h1 h2 (evs_pw X as as' env h3)
    exact ⟨this, val_true (fun _ => rfl) this⟩
  | .isa e t, x, env, h => by
    obtain ⟨id, q, e', t', q', p, rfl, h0, h1, h2, h3, h4⟩ := fit_isa h
    have := isa_ok (pos := p) (q := q) (q' := q') X h0 h1 h2 h3 (ev_ok X e e' env h4).1
    exact ⟨this, val_true (fun _ => rfl) this⟩
  | .list es, x, env, h => by
    obtain ⟨es', p, rfl, h0, h1⟩ := fit_list h
    have := list_ok (pos := p) h0 (evs_pw X es es' env h1)
    exact ⟨this, val_true (fun _ => rfl) this⟩
  | .tup es, x, env, h => by
    obtain ⟨es', k, p, rfl, h0, h1⟩ := fit_tup h
    have := tup_ok (pos := p) (k := k) h0 (evs_pw X es es' env h1)
    exact ⟨this, val_true (fun _ => rfl) this⟩
  | .dict, x, env, h => by rw [fitE] at h; cases h
  | .comp elt t it cond, x, env, h => (fit_comp h).elim
theorem evs_pw (X : Cx prog c K fields P cl A F L) : ∀ (es : List E) (xs : List Expr) (env : Env), fitEs K P fields ns env.scope es xs = true → Pw (BOk prog c P cl A F L ns env) es xs
  | [], xs, env, h => by rw [fits_nil h]; exact .nil
  | e :: es, xs, env, h => by
    obtain ⟨y, ys, rfl, h1, h2⟩ := fits_cons h
    exact .cons (ev_ok X e y env h1) (evs_pw X es ys env h2)
end
end
end Mine
end

section
/-! every statement -/
namespace Mine
open PySem PySem.W PyProof.Rows
set_option maxRecDepth 100000
set_option linter.unusedSimpArgs false

noncomputable def notComp : Expr → Bool
  | .ListComp .. => false
  | .SetComp .. => false
  | .DictComp .. => false
  | _ => true
noncomputable def tgt (ns : List String) (sc : Scope) (x : Nat) : Expr → Bool
  | .Name id _ => (match ns[x]? with
      | some n => id == Str.ofString n && (kdOf sc n == some .local || kdOf sc n == some .cell)
      | none => false)
  | _ => false
noncomputable def tgts (ns : List String) (sc : Scope) : List Nat → List Expr → Bool
  | [], [] => true
  | x :: xs, t :: ts => tgt ns sc x t && tgts ns sc xs ts
  | _, _ => false
noncomputable def tgtAny (ns : List String) (sc : Scope) (xs : List Nat) (t : Expr) : Bool :=
  (match xs with | [x] => tgt ns sc x t | _ => false) || (match t with | .Tuple ts _ _ => tgts ns sc xs ts && xs.length != 1 | _ => false)
noncomputable def notSetE : Expr → Bool
  | .Set .. => false
  | _ => true

noncomputable def sExpr (x : Stmt) : Option (Expr × Pos) := match x with
  | .Expr a p => some (a, p)
  | _ => none
theorem sExpr_eq {x : Stmt} {t : Expr × Pos} (h : sExpr x = some t) : x = .Expr t.1 t.2 := by
  cases x <;> first | (injection h with h; subst h; rfl) | cases h
noncomputable def sAsg (x : Stmt) : Option (List Expr × Expr × Pos) := match x with
  | .Assign a b p => some (a, b, p)
  | _ => none
theorem sAsg_eq {x : Stmt} {t : List Expr × Expr × Pos} (h : sAsg x = some t) : x = .Assign t.1 t.2.1 t.2.2 := by
  cases x <;> first | (injection h with h; subst h; rfl) | cases h
noncomputable def sIf (x : Stmt) : Option (Expr × List Stmt × List Stmt × Pos) := match x with
  | .If a b c p => some (a, b, c, p)
  | _ => none
theorem sIf_eq {x : Stmt} {t : Expr × List Stmt × List Stmt × Pos} (h : sIf x = some t) : x = .If t.1 t.2.1 t.2.2.1 t.2.2.2 := by
  cases x <;> first | (injection h with h; subst h; rfl) | cases h
noncomputable def sWhile (x : Stmt) : Option (Expr × List Stmt × List Stmt × Pos) := match x with
  | .While a b c p => some (a, b, c, p)
  | _ => none
theorem sWhile_eq {x : Stmt} {t : Expr × List Stmt × List Stmt × Pos} (h : sWhile x = some t) : x = .While t.1 t.2.1 t.2.2.1 t.2.2.2 := by
  cases x <;> first | (injection h with h; subst h; rfl) | cases h
noncomputable def sFor (x : Stmt) : Option (Expr × Expr × List Stmt × List Stmt × Pos) := match x with
  | .For a b c d p => some (a, b, c, d, p)
  | _ => none
theorem sFor_eq {x : Stmt} {t : Expr × Expr × List Stmt × List Stmt × Pos} (h : sFor x = some t) : x = .For t.1 t.2.1 t.2.2.1 t.2.2.2.1 t.2.2.2.2 := by
  cases x <;> first | (injection h with h; subst h; rfl) | cases h
noncomputable def sRet (x : Stmt) : Option (Option Expr × Pos) := match x with
  | .Return a p => some (a, p)
  | _ => none
theorem sRet_eq {x : Stmt} {t : Option Expr × Pos} (h : sRet x = some t) : x = .Return t.1 t.2 := by
  cases x <;> first | (injection h with h; subst h; rfl) | cases h
mutual
noncomputable def fitS (K : Frag) (P : Pg) (fields : List String) (ns : List String) (sc : Scope) : S → Stmt → Bool
  | .expr e, x => (match sExpr x with | some t => notComp t.1 && fitE K P fields ns sc e t.1 | none => false)
  | .asg i e, x => (match sAsg x with | some t => (match one t.1 with | some y => notComp t.2.1 && tgt ns sc i y && fitE K P fields ns sc e t.2.1 | none => false) | none => false)
  | .unp _ _, _ => false
  | .asgA _ _ _, _ => false
  | .asgI _ _ _, _ => false
  | .iff c t f, x => (match sIf x with | some u => fitE K P fields ns sc c u.1 && fitSs K P fields ns sc t u.2.1 && fitSs K P fields ns sc f u.2.2.1 | none => false)
  | .whil c b, x => (match sWhile x with | some u => fitE K P fields ns sc c u.1 && fitSs K P fields ns sc b u.2.1 && u.2.2.1.isEmpty | none => false)
  | .forr xs it b, x => (match sFor x with | some u => notSetE u.2.1 && tgtAny ns sc xs u.1 && fitE K P fields ns sc it u.2.1 && fitSs K P fields ns sc b u.2.2.1 && u.2.2.2.1.isEmpty | none => false)
  | .forE _ _ _ _, _ => false
  | .ret e, x => (match sRet x with | some t => (match t.1 with | some y => fitE K P fields ns sc e y | none => false) | none => false)
  | .ret0, _ => false
  | .raise _ _, _ => !P.exc
  | .tri _ _, _ => false
  | .pass, _ => false
noncomputable def fitSs (K : Frag) (P : Pg) (fields : List String) (ns : List String) (sc : Scope) : List S → List Stmt → Bool
  | [], xs => xs.isEmpty
  | s :: r, xs => (match xs with | [] => false | y :: ys => fitS K P fields ns sc s y && fitSs K P fields ns sc r ys)
end

section
variable {prog : Program} {c : Cf} {K : Frag} {fields : List String} {P : Pg} {cl : CallT} {A : Around} {F : List Addr} {L : Addr} {ns : List String} {env : Env}

theorem tgt_of {x : Nat} {t : Expr} (h : tgt ns env.scope x t = true) : Tgt ns env x t := by
  unfold tgt at h
  split at h
  · rename_i id p
    split at h
    · rename_i n hn
      simp only [Bool.and_eq_true, beq_iff_eq, Bool.or_eq_true] at h
      obtain ⟨rfl, h2⟩ := h
      exact ⟨n, p, rfl, hn, h2⟩
    · cases h
  · cases h
theorem tgts_of : ∀ {xs : List Nat} {ts : List Expr}, tgts ns env.scope xs ts = true → Tgts ns env xs ts
  | [], [], _ => .nil
  | [], _ :: _, h => by simp [tgts] at h
  | _ :: _, [], h => by simp [tgts] at h
  | x :: xs, t :: ts, h => by
    simp only [tgts, Bool.and_eq_true] at h
    exact .cons (tgt_of h.1) (tgts_of h.2)
theorem tgtAny_of {xs : List Nat} {t : Expr} (h : tgtAny ns env.scope xs t = true) : (∃ k, xs = [k] ∧ Tgt ns env k t) ∨ (∃ ts n p, t = .Tuple ts n p ∧ Tgts ns env xs ts ∧ xs.length ≠ 1) := by
  unfold tgtAny at h
  simp only [Bool.or_eq_true] at h
  rcases h with h | h
  · split at h
    · rename_i x; exact .inl ⟨x, rfl, tgt_of h⟩
    · cases h
  · split at h
    · rename_i ts n p
      simp only [Bool.and_eq_true, bne_iff_ne] at h
      exact .inr ⟨ts, n, p, rfl, tgts_of h.1, h.2⟩
    · cases h
theorem noSwap {e : Expr} {t : Option Expr} {n : Nat} (h : notComp e = true) : swapsWith e t n env = pure false := by cases e <;> first | rfl | cases h
theorem noFold {e : Expr} (h : notSetE e = true) (x : Value) : foldedSetIterable e env x = pure x := by cases e <;> first | rfl | cases h
theorem tb_cond {r : Mine.R V} {g : Gm} {k1 k2 : Hp → RS} : (r.bindS g fun v h => match truth v with | some true => k1 h | some false => k2 h | .none => .bad) = (r.bind tb).bindS g fun v h => match truth v with | some true => k1 h | some false => k2 h | .none => .bad := by
  cases r with
  | ok v h => simp only [Mine.R.bindS, Mine.R.bind, tb]; cases hv : truth v <;> simp [truth]
  | exc _ _ => rfl
  | bad => rfl
theorem while_tb {cnd : Gm → Hp → Mine.R V} {bd : Gm → Hp → RS} : ∀ (n : Nat) (g : Gm) (h : Hp), whileL cnd bd n g h = whileL (fun g h => (cnd g h).bind tb) bd n g h
  | 0, _, _ => rfl
  | n + 1, g, h => by
    unfold whileL
    cases cnd g h with
    | ok v h' =>
      simp only [Mine.R.bindS, Mine.R.bind, tb]
      cases hv : truth v with
      | none => rfl
      | some b =>
        cases b with
        | false => rfl
        | true =>
          simp only [truth]
          cases bd g h' <;> first | rfl | exact while_tb n _ _
    | exc _ _ => rfl
    | bad => rfl

noncomputable abbrev SOk (prog : Program) (c : Cf) (P : Pg) (cl : CallT) (A : Around) (F : List Addr) (L : Addr) (ns : List String) (env : Env) (st : S) (x : Stmt) : Prop :=
  ∀ (g : Gm) (mu : Mu) (s : Shared) (H : Hp), St c F mu H s.heap → FrR c F ns env g mu s.heap → SndS (model prog c.w) c F L A ns env mu s (exec x env) (ex P cl st g H)
noncomputable abbrev SsOk (prog : Program) (c : Cf) (P : Pg) (cl : CallT) (A : Around) (F : List Addr) (L : Addr) (ns : List String) (env : Env) (st : List S) (x : List Stmt) : Prop :=
  ∀ (g : Gm) (mu : Mu) (s : Shared) (H : Hp), St c F mu H s.heap → FrR c F ns env g mu s.heap → SndS (model prog c.w) c F L A ns env mu s (execs x env) (exs P cl st g H)

theorem fitSs_nil {xs : List Stmt} {sc : Scope} (h : fitSs K P fields ns sc [] xs = true) : xs = [] := by
  rw [fitSs] at h; exact List.isEmpty_iff.mp h
theorem fitSs_cons {sc : Scope} {st : S} {sts : List S} {xs : List Stmt} (h : fitSs K P fields ns sc (st :: sts) xs = true) : ∃ y ys, xs = y :: ys ∧ fitS K P fields ns sc st y = true ∧ fitSs K P fields ns sc sts ys = true := by
  cases xs with
  | nil => rw [fitSs.eq_def] at h; cases h
  | cons y ys => rw [fitSs.eq_def] at h; have h := (Bool.and_eq_true ..).mp h; exact ⟨y, ys, rfl, h.1, h.2⟩
theorem fs_asg {x : Stmt} {sc : Scope} {i : Nat} {e : E} (h : fitS K P fields ns sc (.asg i e) x = true) : ∃ t v p, x = .Assign [t] v p ∧ notComp v = true ∧ tgt ns sc i t = true ∧ fitE K P fields ns sc e v = true := by
  rw [fitS] at h
  split at h
  · rename_i t e
    obtain ⟨ts, v, p⟩ := t
    obtain rfl := sAsg_eq e
    split at h
    · rename_i y e1
      have f1 := one_eq e1
      simp only at f1
      subst f1
      simp only [Bool.and_eq_true, beq_iff_eq, bne_iff_ne, decide_eq_true_eq, Bool.or_eq_true, List.isEmpty_iff, Option.isNone_iff_eq_none] at h
      exact ⟨y, v, p, rfl, h.1.1, h.1.2, h.2⟩
    · cases h
  · cases h
theorem fs_expr {x : Stmt} {sc : Scope} {e : E} (h : fitS K P fields ns sc (.expr e) x = true) : ∃ v p, x = .Expr v p ∧ notComp v = true ∧ fitE K P fields ns sc e v = true := by
  rw [fitS] at h
  split at h
  · rename_i t e
    obtain ⟨v, p⟩ := t
    obtain rfl := sExpr_eq e
    simp only [Bool.and_eq_true, beq_iff_eq, bne_iff_ne, decide_eq_true_eq, Bool.or_eq_true, List.isEmpty_iff, Option.isNone_iff_eq_none] at h
    obtain ⟨h1, h2⟩ := h
    exact ⟨v, p, rfl, h1, h2⟩
  · cases h
theorem fs_if {x : Stmt} {sc : Scope} {c : E} {t f : List S} (h : fitS K P fields ns sc (.iff c t f) x = true) : ∃ c' t' f' p, x = .If c' t' f' p ∧ fitE K P fields ns sc c c' = true ∧ fitSs K P fields ns sc t t' = true ∧ fitSs K P fields ns sc f f' = true := by
  rw [fitS] at h
  split at h
  · rename_i t e
    obtain ⟨c', t', f', p⟩ := t
    obtain rfl := sIf_eq e
    simp only [Bool.and_eq_true, beq_iff_eq, bne_iff_ne, decide_eq_true_eq, Bool.or_eq_true, List.isEmpty_iff, Option.isNone_iff_eq_none] at h
    obtain ⟨⟨h1, h2⟩, h3⟩ := h
    exact ⟨c', t', f', p, rfl, h1, h2, h3⟩
  · cases h
theorem fs_while {x : Stmt} {sc : Scope} {c : E} {b : List S} (h : fitS K P fields ns sc (.whil c b) x = true) : ∃ c' b' p, x = .While c' b' [] p ∧ fitE K P fields ns sc c c' = true ∧ fitSs K P fields ns sc b b' = true := by
  rw [fitS] at h
  split at h
  · rename_i t e
    obtain ⟨c', b', o', p⟩ := t
    obtain rfl := sWhile_eq e
    simp only [Bool.and_eq_true, beq_iff_eq, bne_iff_ne, decide_eq_true_eq, Bool.or_eq_true, List.isEmpty_iff, Option.isNone_iff_eq_none] at h
    obtain ⟨⟨h1, h2⟩, rfl⟩ := h
    exact ⟨c', b', p, rfl, h1, h2⟩
  · cases h
theorem fs_for {x : Stmt} {sc : Scope} {xs : List Nat} {it : E} {b : List S} (h : fitS K P fields ns sc (.forr xs it b) x = true) : ∃ t it' b' p, x = .For t it' b' [] p ∧ notSetE it' = true ∧ tgtAny ns sc xs t = true ∧ fitE K P fields ns sc it it' = true ∧ fitSs K P fields ns sc b b' = true := by
  rw [fitS] at h
  split at h
  · rename_i t e
    obtain ⟨t', it', b', o', p⟩ := t
    obtain rfl := sFor_eq e
    simp only [Bool.and_eq_true, beq_iff_eq, bne_iff_ne, decide_eq_true_eq, Bool.or_eq_true, List.isEmpty_iff, Option.isNone_iff_eq_none] at h
    obtain ⟨⟨⟨⟨h1, h2⟩, h3⟩, h4⟩, rfl⟩ := h
    exact ⟨t', it', b', p, rfl, h1, h2, h3, h4⟩
  · cases h
theorem fs_ret {x : Stmt} {sc : Scope} {e : E} (h : fitS K P fields ns sc (.ret e) x = true) : ∃ v p, x = .Return (some v) p ∧ fitE K P fields ns sc e v = true := by
  rw [fitS] at h
  split at h
  · rename_i t e1
    obtain ⟨v, p⟩ := t
    obtain rfl := sRet_eq e1
    cases v with
    | none => cases h
    | some y => exact ⟨y, p, rfl, h⟩
  · cases h
mutual
theorem ex_ok (X : Cx prog c K fields P cl A F L) (Fr : Frames A F env) (hf : env.frame = some L) (nd : ns.Nodup) : ∀ (st : S) (x : Stmt), fitS K P fields ns env.scope st x = true → SOk prog c P cl A F L ns env st x
  | .expr e, x, h => by
    obtain ⟨v, p, rfl, h1, h2⟩ := fs_expr h
    intro g mu s H S R
    rw [ex]
    exact expr_sndS S R (by unfold interactive; rw [R.kind]; rfl) (noSwap h1) ((ev_ok X e _ env h2).1 g mu s H S R)
  | .asg i e, x, h => by
    obtain ⟨t, v, p, rfl, h1, h2, h3⟩ := fs_asg h
    obtain ⟨n, p, rfl, e1, hk⟩ := tgt_of h2
    intro g mu s H S R
    rw [ex]
    exact asg_sndS S R nd e1 hk (noSwap h1) ((ev_ok X e _ env h3).1 g mu s H S R)
  | .unp _ _, x, h => by rw [fitS] at h; cases h
  | .asgA _ _ _, x, h => by rw [fitS] at h; cases h
  | .asgI _ _ _, x, h => by rw [fitS] at h; cases h
  | .iff cnd t f, x, h => by
    obtain ⟨c', t', f', p, rfl, h1, h2, h3⟩ := fs_if h
    intro g mu s H S R
    have e1 : ex P cl (.iff cnd t f) g H = ((ev P cl g cnd H).bind tb).bindS g fun v h => match truth v with | some true => exs P cl t g h | some false => exs P cl f g h | .none => .bad := by
      rw [ex]; exact tb_cond
    rw [e1]
    exact if_sndS S R ((ev_ok X cnd _ env h1).2 g mu s H S R) (fun H' mu' s' S' R' _ => exs_ok X Fr hf nd t _ h2 g mu' s' H' S' R') fun H' mu' s' S' R' _ => exs_ok X Fr hf nd f _ h3 g mu' s' H' S' R'
  | .whil cnd b, x, h => by
    obtain ⟨c', b', p, rfl, h1, h2⟩ := fs_while h
    intro g mu s H S R
    rw [ex, while_tb]
    exact while_sndS Fr hf S R (fun g' H' mu' s' S' R' => (ev_ok X cnd _ env h1).2 g' mu' s' H' S' R') fun g' H' mu' s' S' R' => exs_ok X Fr hf nd b _ h2 g' mu' s' H' S' R'
  | .forr xs it b, x, h => by
    obtain ⟨t, it', b', p, rfl, h1, h2, h3, h4⟩ := fs_for h
    intro g mu s H S R
    rw [ex]
    exact for_sndS X.hh Fr hf nd S R (noFold h1) (tgtAny_of h2) ((ev_ok X it _ env h3).1 g mu s H S R) fun g' H' mu' s' S' R' => exs_ok X Fr hf nd b _ h4 g' mu' s' H' S' R'
  | .forE _ _ _ _, x, h => by rw [fitS] at h; cases h
  | .ret e, x, h => by
    obtain ⟨v, p, rfl, h1⟩ := fs_ret h
    intro g mu s H S R
    rw [ex]
    exact ret_sndS S R ((ev_ok X e _ env h1).1 g mu s H S R)
  | .ret0, x, h => by rw [fitS] at h; cases h
  | .raise C m, x, h => by
    rw [fitS] at h
    intro g mu s H S R
    rw [ex, if_neg (by simpa using h)]
    exact fun hb => absurd rfl hb
  | .tri _ _, x, h => by rw [fitS] at h; cases h
  | .pass, x, h => by rw [fitS] at h; cases h
theorem exs_ok (X : Cx prog c K fields P cl A F L) (Fr : Frames A F env) (hf : env.frame = some L) (nd : ns.Nodup) : ∀ (sts : List S) (xs : List Stmt), fitSs K P fields ns env.scope sts xs = true → SsOk prog c P cl A F L ns env sts xs
  | [], xs, h => by
    rw [fitSs_nil h]
    intro g mu s H S R
    rw [exs]
    exact fun _ => wpAny_execs_nil (QS.next S R (Go.refl ..) rfl rfl)
  | st :: sts, xs, h => by
    obtain ⟨y, ys, rfl, h1, h2⟩ := fitSs_cons h
    intro g mu s H S R
    rw [exs]
    exact SndS.cons (ex_ok X Fr hf nd st y h1 g mu s H S R) fun g' H' mu' s' _ S' R' _ => exs_ok X Fr hf nd sts ys h2 g' mu' s' H' S' R'
end
end
end Mine
end

section
/-! the whole program -/
namespace Mine
open PySem PySem.W PyProof.Rows
set_option maxRecDepth 100000

noncomputable def okKind (sc : Scope) (p : Arg) : Bool := sc.names.lookup p.arg == some .local || sc.names.lookup p.arg == some .cell

/-- a def of the text is the core's -/
noncomputable def ckFd (K : Frag) (P : Pg) (fields : List String) (d : FD) (fd : FuncData) : Bool :=
  match fd.params, fd.body with
  | ⟨[], ps, none, [], [], none, []⟩, .stmts body =>
    codeIn K fd.code fd.qualname && fd.closure.isEmpty && fd.defaults == .none && fd.globals == mainGlobals && fd.builtins == builtinsNs && !fd.scope.isCoroutine && !fd.scope.isGenerator && fd.scope.kind == .function
      && decide d.names.Nodup && (d.names.take ps.length).map Str.ofString == ps.map (·.arg) && decide (d.arity = ps.length) && decide (ps.length ≤ d.names.length) && ps.all (okKind fd.scope) && decide ((fd.scope.names.map (·.1)).Nodup)
      && fitSs K P fields d.names fd.scope d.body body
  | _, _ => false
noncomputable def ckFn (K : Frag) (P : Pg) (fields : List String) (f : Fid) (d : FD) : Bool :=
  match fnAt K f with
  | some a => (match K.lookup a with
    | some ⟨t, _, .func fd, _⟩ => t == .type "function" && ckFd K P fields d fd
    | _ => false)
  | none => false
noncomputable def ckGl (K : Frag) (x : String) (v : V) : Bool :=
  match nsIn K mainGlobals x with
  | some (some y) => gvOk v y
  | _ => false
noncomputable def ckAll (K : Frag) (P : Pg) (fields : List String) : Bool := (P.fns.all fun p => ckFn K P fields p.1 p.2) && P.globs.all fun p => ckGl K p.1 p.2

theorem lookup_mem {α β : Type} [BEq α] [LawfulBEq α] : ∀ {l : List (α × β)} {a : α} {b : β}, l.lookup a = some b → (a, b) ∈ l
  | [], _, _, h => by simp at h
  | (k, v) :: r, a, b, h => by
    rw [List.lookup_cons] at h
    split at h
    · rename_i e; rw [beq_iff_eq.mp e]; cases h; exact .head _
    · exact .tail _ (lookup_mem h)

structure Room (n : Nat) (A : Around) : Prop where
  depth : A.depth + n < recursionLimit
  units : A.units + 10 * n + 50 < cLine

section
variable {prog : Program} {c : Cf} {K : Frag} {fields : List String} {P : Pg}

theorem fn_mem {f : Fid} {d : FD} (h : P.fn f = some d) : (f, d) ∈ P.fns := lookup_mem h

theorem fn_code {n : Nat} {A : Around} {F : List Addr} {L : Addr} {f : Fid} {a : Addr} {vs : List V} {xs : List Value} {mu : Mu} {s : Shared} {H : Hp} (B : Base c K fields) (ck1 : ∀ p ∈ P.fns, ckFn K P fields p.1 p.2 = true)
    (ih : ∀ (A : Around) (F : List Addr) (L : Addr), A.handled = none → FrA A F → Room n A → Cx prog c K fields P (run P n) A F L) (hh : A.handled = none) (FA : FrA A F) (R : Room (n + 1) A)
    (ha : fnAt K f = some a) (hs : (P.fn f).isSome = true) (S : St c F mu H s.heap) (V : VRs c.bs mu s.heap vs xs) :
    run P (n + 1) f vs H ≠ .bad → codeAny (model prog c.w) A (.call (.ref a) ⟨xs, []⟩) (fun q s' => match q with | .ok (.ret v) => QV c F mu s (run P (n + 1) f vs H) (VRl c) v s' | .ok _ => False | .error e => QE c F L mu s (run P (n + 1) f vs H) e s') s := by
  obtain ⟨d, hd⟩ := Option.isSome_iff_exists.mp hs
  have k := ck1 _ (fn_mem hd)
  unfold ckFn at k
  rw [ha] at k
  dsimp only at k
  split at k
  · rename_i t od fd sl e
    simp only [Bool.and_eq_true] at k
    obtain ⟨_, k⟩ := k
    unfold ckFd at k
    split at k
    · rename_i ps body hp hbody
      simp only [Bool.and_eq_true, beq_iff_eq, decide_eq_true_eq, Bool.not_eq_true', List.all_eq_true] at k
      obtain ⟨⟨⟨⟨⟨⟨⟨⟨⟨⟨⟨⟨⟨⟨k1, k2⟩, k3⟩, k4⟩, k5⟩, k6⟩, k7⟩, k8⟩, k9⟩, k10⟩, k11⟩, k12⟩, k13⟩, k14⟩, k15⟩ := k
      have er : run P (n + 1) f vs H = if vs.length = d.arity then (exs P (run P n) d.body (vs.map some ++ List.replicate (d.names.length - d.arity) none) H).back else .bad := by
        rw [run, hd]
      rw [er]
      split
      · rename_i hl
        rw [k11] at hl ⊢
        refine fun hb => call_core S V FA (by have := R.depth; omega) B.lim (B.KX _ _ e) rfl (codeRec_of B.KX k1) hbody hp (by simpa using k3) (by simpa using k2) k4 k5 k6 k7 k8 k9 k10 hl k12 (fun p hp => ?_) k14 (fun env s1 eS eF Fr1 S1 R1 => ?_) hb
        · have := k13 p hp
          unfold okKind at this
          simpa using this
        · have X := ih (A.deeper env) (env.locals :: F) env.locals hh Fr1.frA ⟨by have := R.depth; show A.depth + 1 + n < _; omega, by have := R.units; show A.units + 3 + 10 * n + 50 < _; omega⟩
          rw [← eS] at k15
          exact exs_ok X Fr1 eF k9 d.body body k15 _ mu s1 H S1 R1
      · exact fun h => absurd rfl h
    · cases k
  · cases k

theorem run_ok (B : Base c K fields) (ck : ckAll K P fields = true) : ∀ (n : Nat) (A : Around) (F : List Addr) (L : Addr), A.handled = none → FrA A F → Room n A → Cx prog c K fields P (run P n) A F L := by
  unfold ckAll at ck
  simp only [Bool.and_eq_true, List.all_eq_true] at ck
  obtain ⟨ck1, ck2⟩ := ck
  have fns : ∀ f, (P.fn f).isSome = true → ∃ a, fnAt K f = some a ∧ isFn K a = true := fun f h => by
    obtain ⟨d, hd⟩ := Option.isSome_iff_exists.mp h
    have k := ck1 _ (fn_mem hd)
    unfold ckFn at k
    split at k
    · rename_i a ha
      refine ⟨a, ha, ?_⟩
      split at k
      · rename_i t _ fd _ e
        simp only [Bool.and_eq_true] at k
        unfold isFn
        rw [e]; exact k.1
      · cases k
    · cases k
  have globs : ∀ x v, P.glob x = some v → ∃ y, nsIn K mainGlobals x = some (some y) ∧ gvOk v y = true := fun x v h => by
    have k := ck2 _ (lookup_mem h)
    unfold ckGl at k
    split at k
    · rename_i y e; exact ⟨y, e, k⟩
    · cases k
  intro n
  induction n with
  | zero => exact fun A F L hh _ R => ⟨B, hh, by have := R.units; omega, fun f a vs xs mu s H _ _ _ _ => fun h => absurd rfl h, fns, globs⟩
  | succ n ih =>
    intro A F L hh FA R
    exact ⟨B, hh, by have := R.units; omega, fun f a vs xs mu s H ha hs S V => fun hb => wpAny_call (fn_code B ck1 ih hh FA R ha hs S V hb), fns, globs⟩

/-- nothing of the core's yet -/
theorem St.zero : St c [] [] [] c.bs where
  mods := trivial
  stays := fun _ _ e => e
  len := rfl
  objs := fun i l o e => by simp at e
  apart := fun i j l m e => by simp at e
  newB := fun b h => by obtain ⟨l, h, _⟩ := h; cases h
  notF := fun b h => by obtain ⟨l, h, _⟩ := h; cases h
  frs := fun b h => by cases h

theorem top_ok (B : Base c K fields) (ck : ckAll K P fields = true) {n : Nat} {f : Fid} {a : Addr} {vs : List V} {xs : List Value} {s : Shared} {v : V} {H : Hp} (hn : n < 600) (es : s.heap = c.bs)
    (ha : fnAt K f = some a) (hs : (P.fn f).isSome = true) (V : VRs c.bs [] s.heap vs xs) (er : run P (n + 1) f vs [] = .ok v H) {Q : Result → Shared → Prop}
    (hQ : ∀ x s' mu, VR c.bs mu s'.heap v x → (∀ b o, s.heap.get? b = some o → s'.heap.get? b = some o) → s'.gens = s.gens → s'.os = s.os → Q (.ok (.ret x)) s') :
    codeAny (model prog c.w) callerA (.call (.ref a) ⟨xs, []⟩) Q s := by
  have ck1 : ∀ p ∈ P.fns, ckFn K P fields p.1 p.2 = true := by
    unfold ckAll at ck
    simp only [Bool.and_eq_true, List.all_eq_true] at ck
    exact ck.1
  have S : St c [] [] [] s.heap := by rw [es]; exact St.zero
  have R : Room (n + 1) callerA := ⟨by show 1 + claimMargin + (n + 1) < recursionLimit; unfold claimMargin recursionLimit; omega, by show 4 + 10 * (n + 1) + 50 < cLine; unfold cLine; omega⟩
  refine codeAny_mono (fn_code (L := 0) B ck1 (run_ok B ck n) rfl ⟨[], rfl, fun e h => by cases h⟩ R ha hs S V (by rw [er]; exact fun h => by cases h)) fun q s' h => ?_
  rw [er] at h
  cases q with
  | error e =>
    obtain ⟨x, H', mu', l, C, z, _⟩ := h
    cases z
  | ok f =>
    cases f with
    | ret x =>
      obtain ⟨v', H', mu', z1, z2, z3, z4, z5, z6⟩ := h
      cases z1
      exact hQ x s' mu' z4 (fun b o e => z3.keep b o e (fun h => by obtain ⟨l, h, _⟩ := h; cases h) (fun h => by cases h) (fun h => by cases h)) z5 z6
    | _ => exact h.elim
end
end Mine
end

section
/-! the law's call -/
namespace Mine
open PySem PySem.W PyProof.Rows
set_option maxRecDepth 100000

theorem ns_val {K : Frag} {h : Heap} {a : Addr} {m : Str → Option Value} {x : Str} {v : Option Value} (KX : K.In h) (N : h.Ns a m) (e : nsIn K a x = some v) : m x = v := by
  unfold nsIn at e
  split at e
  · rename_i c d es n sl ho
    have h1 := KX _ _ ho
    obtain ⟨o, es', ep, h2, h3, h4, h5⟩ := N
    rw [h1] at h2; cases h2
    cases h3
    rw [← h5 x]
    unfold nsFind findBy
    rw [← Array.find?_toList]
    split at e
    · rename_i en he; cases e; rw [he]; rfl
    · rename_i he
      rw [he]
      split at e
      · cases e
      · cases e; rfl
  · cases e

theorem boots : ∀ p ∈ biTab, bootBuiltins p.1 = some p.2 ∧ Str.ofString p.1 ≠ ("__name__" : Str) := by
  intro p hp
  simp only [biTab, List.mem_cons, List.not_mem_nil, or_false] at hp
  rcases hp with rfl | rfl | rfl | rfl | rfl | rfl | rfl | rfl | rfl | rfl | rfl | rfl | rfl | rfl <;> exact ⟨by kernel_rfl, by decide +kernel⟩

theorem law_top {prog p : Program} {w : World} {s₁ : Shared} {loose : List Str} {mean : ExcName → Option Value} {mg mb : Str → Option Value} {K : Frag} {P : Pg} {fields : List String} {cl : Cls} {fa a : Addr} {vs : List Value} {ns : List Int} {Q : Result → Shared → Prop}
    (KX : K.In s₁.heap) (T : Top p loose mean mg mb s₁.heap) (hmg : mg (Str.ofString "law") = some (.ref fa)) (hfn : (addrOf K "law").isSome = true) (free : (biTab.all fun p => nsIn K mainGlobals p.1 == some none) = true) (ck : ckAll K P fields = true)
    (inst : ∀ C D, cl false C = some D → C ≠ "" ∧ addrOf K C = some D ∧ clsOk K fields D = true ∧ EqCls s₁.heap D)
    (hl : s₁.heap.IsList a vs.toArray) (hI : IntsAre vs ns) (hlen : ns.length ≤ 63) (hs : (P.fn ("", "law")).isSome = true) (law : ∃ H, run P 60 ("", "law") [.fz (ns.map .int)] [] = .ok (.bool true) H)
    (hQ : ∀ s', (∀ b o, s₁.heap.get? b = some o → s'.heap.get? b = some o) → s'.gens = s₁.gens → s'.os = s₁.os → Q (.ok (.ret (.bool true))) s') :
    codeAny (model prog w) callerA (.call (.ref fa) ⟨[.ref a], []⟩) Q s₁ := by
  obtain ⟨H, hr⟩ := law
  let c : Cf := ⟨w, cl, s₁.heap⟩
  have B : Base c K fields := ⟨KX, T.nolimit, ⟨mb, T.b, fun p hp => by rw [T.builtins _ (boots p hp).2]; exact (boots p hp).1⟩, inst, free⟩
  obtain ⟨fa', hfa⟩ := Option.isSome_iff_exists.mp hfn
  have e := ns_val KX T.g (addr_ns hfa)
  have : fa' = fa := by rw [hmg] at e; cases e; rfl
  subst this
  obtain ⟨o, ho, hc, n, hd⟩ := hl
  have V : VRs c.bs [] s₁.heap [.fz (ns.map .int)] [.ref a] := by
    refine VRs.single ?_
    simp only [VR]
    refine ⟨a, o, n, vs.toArray, rfl, ho, hc, hd, by simpa using IntsAre.vrs hI, ?_⟩
    have : 63 ≤ mostLen := by decide
    simp; omega
  refine top_ok (c := c) B ck (n := 59) (by decide) rfl (f := ("", "law")) (by unfold fnAt; rw [if_pos rfl]; exact hfa) hs V hr fun x s' mu hv k hg ho => ?_
  simp only [VR] at hv
  subst hv
  exact hQ s' k hg ho

theorem good_true {c : ClaimW} {cl : Str → Option Addr} {mean : ExcName → Option Value} {args : List WData} {s₁ s' : Shared} (k : ∀ b o, s₁.heap.get? b = some o → s'.heap.get? b = some o) (hg : s'.gens = s₁.gens) (hg₁ : s₁.gens = #[]) (ho : s'.os = s₁.os)
    (hn : ∀ cls, c.raises args cls = false) (hp : c.post args (.bool true) args = true) : GoodW c cl mean args s₁ (.ok (.ret (.bool true))) s' :=
  ⟨.inl ⟨.bool true, .bool true, [], rfl, hn, .bool true, hp, unshared_nil⟩, k, ho, hg.trans hg₁⟩
end Mine
end

section
/-! reckoning in the core: what must hold behind a step -/
namespace Mine

noncomputable def wE {α : Type} (r : R α) (Q : α → Hp → Prop) (X : Nat → Hp → Prop) : Prop := match r with
  | .ok a h => Q a h
  | .exc x h => X x h
  | .bad => False
noncomputable def wS (r : RS) (N : Gm → Hp → Prop) (T : V → Hp → Prop) (X : Nat → Gm → Hp → Prop) : Prop := match r with
  | .nx g h => N g h
  | .ret v h => T v h
  | .exc x g h => X x g h
  | .bad => False

section
variable {α β : Type} {P : Pg} {cl : CallT} {g : Gm} {h : Hp} {N : Gm → Hp → Prop} {T : V → Hp → Prop} {X : Nat → Gm → Hp → Prop} {Q : V → Hp → Prop} {Y : Nat → Hp → Prop}

theorem wE_mono {r : R α} {Q Q' : α → Hp → Prop} {X X' : Nat → Hp → Prop} (x : wE r Q X) (h : ∀ a h, Q a h → Q' a h) (k : ∀ a h, X a h → X' a h) : wE r Q' X' := by
  cases r with
  | ok a hp => exact h _ _ x
  | exc a hp => exact k _ _ x
  | bad => exact x
theorem wS_mono {r : RS} {N' : Gm → Hp → Prop} {T' : V → Hp → Prop} {X' : Nat → Gm → Hp → Prop} (x : wS r N T X) (h : ∀ a h, N a h → N' a h) (k : ∀ a h, T a h → T' a h) (l : ∀ a g h, X a g h → X' a g h) : wS r N' T' X' := by
  cases r with
  | nx a hp => exact h _ _ x
  | ret a hp => exact k _ _ x
  | exc a b hp => exact l _ _ _ x
  | bad => exact x
theorem wE_ok {a : α} {Q : α → Hp → Prop} (q : Q a h) : wE (.ok a h) Q Y := q
theorem wE_bind {r : R α} {k : α → Hp → R β} {Q : β → Hp → Prop} (x : wE r (fun a h => wE (k a h) Q Y) Y) : wE (r.bind k) Q Y := by
  cases r with
  | ok a hp => exact x
  | exc a hp => exact x
  | bad => exact x
theorem wS_bind {r : R α} {k : α → Hp → RS} (x : wE r (fun a h => wS (k a h) N T X) (fun a h => X a g h)) : wS (r.bindS g k) N T X := by
  cases r with
  | ok a hp => exact x
  | exc a hp => exact x
  | bad => exact x
theorem wE_back {r : RS} (x : wS r (fun _ h => Q .none h) Q (fun a _ h => Y a h)) : wE r.back Q Y := by
  cases r with
  | nx a hp => exact x
  | ret a hp => exact x
  | exc a b hp => exact x
  | bad => exact x

/-- a def's call: its body -/
theorem w_run {n : Nat} {f : Fid} {d : FD} {vs : List V} (hd : P.fn f = some d) (hl : vs.length = d.arity)
    (x : wS (exs P (run P n) d.body (vs.map some ++ List.replicate (d.names.length - d.arity) none) h) (fun _ h => Q .none h) Q (fun a _ h => Y a h)) : wE (run P (n + 1) f vs h) Q Y := by
  rw [run, hd]; dsimp only; rw [if_pos hl]; exact wE_back x

theorem w_nil (q : N g h) : wS (exs P cl [] g h) N T X := by rw [exs]; exact q
theorem w_cons {s : S} {r : List S} (x : wS (ex P cl s g h) (fun g h => wS (exs P cl r g h) N T X) T X) : wS (exs P cl (s :: r) g h) N T X := by
  rw [exs]
  cases e : ex P cl s g h with
  | nx a hp => rw [e] at x; exact x
  | ret a hp => rw [e] at x; exact x
  | exc a b hp => rw [e] at x; exact x
  | bad => rw [e] at x; exact x
theorem w_asg {i : Nat} {e : E} (x : wE (ev P cl g e h) (fun v h => N (g.set i (some v)) h) (fun a h => X a g h)) : wS (ex P cl (.asg i e) g h) N T X := by rw [ex]; exact wS_bind x
theorem w_expr {e : E} (x : wE (ev P cl g e h) (fun _ h => N g h) (fun a h => X a g h)) : wS (ex P cl (.expr e) g h) N T X := by rw [ex]; exact wS_bind x
theorem w_ret {e : E} (x : wE (ev P cl g e h) T (fun a h => X a g h)) : wS (ex P cl (.ret e) g h) N T X := by rw [ex]; exact wS_bind x
theorem w_if {c : E} {t f : List S} (x : wE (ev P cl g c h) (fun v h => ∃ b, v = .bool b ∧ if b then wS (exs P cl t g h) N T X else wS (exs P cl f g h) N T X) (fun a h => X a g h)) : wS (ex P cl (.iff c t f) g h) N T X := by
  rw [ex]
  refine wS_bind (wE_mono x (fun v h' y => ?_) fun _ _ y => y)
  obtain ⟨b, rfl, y⟩ := y
  cases b <;> exact y
/-- while: an invariant and a measure -/
theorem w_while {c : E} {b : List S} (I : Nat → Gm → Hp → Prop) (m : Nat) (hm : m < LF) (i0 : I m g h)
    (turn : ∀ k g h, I k g h → wE (ev P cl g c h) (fun v h => ∃ t, v = .bool t ∧ if t then wS (exs P cl b g h) (fun g h => ∃ j, j < k ∧ I j g h) T X else N g h) (fun a h => X a g h)) : wS (ex P cl (.whil c b) g h) N T X := by
  rw [ex]
  have go : ∀ (fuel k : Nat) (g : Gm) (h : Hp), k < fuel → I k g h → wS (whileL (fun g h => ev P cl g c h) (fun g h => exs P cl b g h) fuel g h) N T X := by
    intro fuel
    induction fuel with
    | zero => intro k g h hk; omega
    | succ fuel ih =>
      intro k g h hk i
      rw [whileL]
      refine wS_bind (wE_mono (turn k g h i) (fun v h' y => ?_) fun _ _ y => y)
      obtain ⟨t, rfl, y⟩ := y
      cases t with
      | false => exact y
      | true =>
        simp only [truth]
        simp only [if_true] at y
        cases e : exs P cl b g h' with
        | nx a hp => rw [e] at y; obtain ⟨j, hj, i'⟩ := y; exact ih j a hp (by omega) i'
        | ret a hp => rw [e] at y; exact y
        | exc a b hp => rw [e] at y; exact y
        | bad => rw [e] at y; exact y
  exact go LF m g h hm i0

/-- for over a range upward -/
theorem w_for_up {x : Nat} {it : E} {b : List S} (I : Nat → Gm → Hp → Prop) (y : wE (ev P cl g it h) (fun v h => ∃ (a c : Int) (n : Nat), v = .rng a c 1 ∧ n = (c - a).toNat ∧ n < LF ∧ I 0 g h ∧
      (∀ j g h, j < n → I j g h → wS (exs P cl b (g.set x (some (.int (a + j)))) h) (fun g h => I (j + 1) g h) T X) ∧ ∀ g h, I n g h → N g h) (fun a h => X a g h)) : wS (ex P cl (.forr [x] it b) g h) N T X := by
  rw [ex]
  refine wS_bind (wE_mono y (fun v h' y => ?_) fun _ _ y => y)
  obtain ⟨a, c, n, rfl, hn, hf, i0, turn, fin⟩ := y
  have go : ∀ (fuel k : Nat) (g : Gm) (h : Hp), k ≤ n → n - k < fuel → I k g h → wS (forL (fun g h => exs P cl b g h) [x] (.rng a c 1) fuel k g h) N T X := by
    intro fuel
    induction fuel with
    | zero => intro k g h hk hf; omega
    | succ fuel ih =>
      intro k g h hk hf i
      rw [forL]
      by_cases q : k < n
      · have e : nth (.rng a c 1) h k = some (some (.int (a + k))) := by
          simp only [nth, if_true]; rw [if_pos (by omega)]
        rw [e]
        simp only [bindT]
        have t := turn k g h q i
        cases e : exs P cl b (g.set x (some (.int (a + k)))) h with
        | nx a hp => rw [e] at t; exact ih (k + 1) a hp (by omega) (by omega) t
        | ret a hp => rw [e] at t; exact t
        | exc a b hp => rw [e] at t; exact t
        | bad => rw [e] at t; exact t
      · have e : nth (.rng a c 1) h k = some none := by
          simp only [nth, if_true]; rw [if_neg (by omega)]
        rw [e]
        have : k = n := by omega
        subst this
        exact fin g h i
  exact go LF 0 g h' (Nat.zero_le _) (by omega) i0

/-- for over a range downward -/
theorem w_for_down {x : Nat} {it : E} {b : List S} (I : Nat → Gm → Hp → Prop) (y : wE (ev P cl g it h) (fun v h => ∃ (a c : Int) (n : Nat), v = .rng a c (-1) ∧ n = (a - c).toNat ∧ n < LF ∧ I 0 g h ∧
      (∀ j g h, j < n → I j g h → wS (exs P cl b (g.set x (some (.int (a - j)))) h) (fun g h => I (j + 1) g h) T X) ∧ ∀ g h, I n g h → N g h) (fun a h => X a g h)) : wS (ex P cl (.forr [x] it b) g h) N T X := by
  rw [ex]
  refine wS_bind (wE_mono y (fun v h' y => ?_) fun _ _ y => y)
  obtain ⟨a, c, n, rfl, hn, hf, i0, turn, fin⟩ := y
  have go : ∀ (fuel k : Nat) (g : Gm) (h : Hp), k ≤ n → n - k < fuel → I k g h → wS (forL (fun g h => exs P cl b g h) [x] (.rng a c (-1)) fuel k g h) N T X := by
    intro fuel
    induction fuel with
    | zero => intro k g h hk hf; omega
    | succ fuel ih =>
      intro k g h hk hf i
      rw [forL]
      by_cases q : k < n
      · have e : nth (.rng a c (-1)) h k = some (some (.int (a - k))) := by
          simp only [nth]; rw [if_neg (by decide), if_pos trivial, if_pos (by omega)]
        rw [e]
        simp only [bindT]
        have t := turn k g h q i
        cases e : exs P cl b (g.set x (some (.int (a - k)))) h with
        | nx a hp => rw [e] at t; exact ih (k + 1) a hp (by omega) (by omega) t
        | ret a hp => rw [e] at t; exact t
        | exc a b hp => rw [e] at t; exact t
        | bad => rw [e] at t; exact t
      · have e : nth (.rng a c (-1)) h k = some none := by
          simp only [nth]; rw [if_neg (by decide), if_pos trivial, if_neg (by omega)]
        rw [e]
        have : k = n := by omega
        subst this
        exact fin g h i
  exact go LF 0 g h' (Nat.zero_le _) (by omega) i0

/-- for over a list that stays -/
theorem w_for_list {xs : List Nat} {it : E} {b : List S} (I : Nat → Gm → Hp → Prop) (y : wE (ev P cl g it h) (fun v h => ∃ (r : Nat) (l : List V), v = .ref r ∧ l.length < LF ∧ I 0 g h ∧ (∀ j g h, I j g h → h[r]? = some (.list l)) ∧
      (∀ j v g h, l[j]? = some v → I j g h → ∃ g', bindT xs v g h = some g' ∧ wS (exs P cl b g' h) (fun g h => I (j + 1) g h) T X) ∧ ∀ g h, I l.length g h → N g h) (fun a h => X a g h)) : wS (ex P cl (.forr xs it b) g h) N T X := by
  rw [ex]
  refine wS_bind (wE_mono y (fun v h' y => ?_) fun _ _ y => y)
  obtain ⟨r, l, rfl, hf, i0, hl, turn, fin⟩ := y
  have go : ∀ (fuel k : Nat) (g : Gm) (h : Hp), k ≤ l.length → l.length - k < fuel → I k g h → wS (forL (fun g h => exs P cl b g h) xs (.ref r) fuel k g h) N T X := by
    intro fuel
    induction fuel with
    | zero => intro k g h hk hf; omega
    | succ fuel ih =>
      intro k g h hk hf i
      rw [forL]
      have e : nth (.ref r) h k = some l[k]? := by simp only [nth, hl k g h i]
      rw [e]
      cases q : l[k]? with
      | some v =>
        dsimp only
        obtain ⟨g', e1, t⟩ := turn k v g h q i
        rw [e1]
        dsimp only
        have hk' : k < l.length := (List.getElem?_eq_some_iff.mp q).1
        cases e : exs P cl b g' h with
        | nx a hp => rw [e] at t; exact ih (k + 1) a hp (by omega) (by omega) t
        | ret a hp => rw [e] at t; exact t
        | exc a b hp => rw [e] at t; exact t
        | bad => rw [e] at t; exact t
      | none =>
        have : k = l.length := by have := List.getElem?_eq_none_iff.mp q; omega
        subst this
        exact fin g h i
  exact go LF 0 g h' (Nat.zero_le _) (by omega) i0

theorem bits_pow (k : Nat) (h : k < 1000) : bitsOf ((2 : Int) ^ k) ≤ mostBits := by
  unfold bitsOf
  have e : ((2 : Int) ^ k).natAbs = 2 ^ k := by rw [Int.natAbs_pow]; rfl
  rw [e, if_neg (Nat.ne_of_gt (Nat.pow_pos (by decide))), Nat.log2_two_pow]
  unfold mostBits; omega

/-! expressions -/
theorem e_var {i : Nat} {v : V} (e : g[i]? = some (some v)) (q : Q v h) : wE (ev P cl g (.var i) h) Q Y := by rw [ev, e]; exact q
theorem e_int {i : Int} (q : Q (.int i) h) : wE (ev P cl g (.int i) h) Q Y := by rw [ev]; exact q
theorem e_bin {op : BO} {l r : E} (x : wE (ev P cl g l h) (fun a h => wE (ev P cl g r h) (fun b h => wE (binop op a b h) Q Y) Y) Y) : wE (ev P cl g (.bin op l r) h) Q Y := by
  rw [ev]; exact wE_bind (wE_mono x (fun _ _ y => wE_bind y) fun _ _ y => y)
theorem e_call {f : String} {as : List E} (x : wE (evs P cl g as h) (fun vs h => wE (cl ("", f) vs h) Q Y) Y) : wE (ev P cl g (.call f as) h) Q Y := by rw [ev]; exact wE_bind x
theorem e_bi {b : String} {as : List E} (x : wE (evs P cl g as h) (fun vs h => wE (bfn b vs h) Q Y) Y) : wE (ev P cl g (.bi b as) h) Q Y := by rw [ev]; exact wE_bind x
theorem e_nil {Q : List V → Hp → Prop} (q : Q [] h) : wE (evs P cl g [] h) Q Y := by rw [evs]; exact q
theorem e_cons {e : E} {r : List E} {Q : List V → Hp → Prop} (x : wE (ev P cl g e h) (fun v h => wE (evs P cl g r h) (fun vs h => Q (v :: vs) h) Y) Y) : wE (evs P cl g (e :: r) h) Q Y := by
  rw [evs]; exact wE_bind (wE_mono x (fun _ _ y => wE_bind y) fun _ _ y => y)
theorem e_cmp {op : CO} {l r : E} (x : wE (ev P cl g l h) (fun a h => wE (ev P cl g r h) (fun b h => wE (cmpop op a b h) Q Y) Y) Y) : wE (ev P cl g (.cmp op l r) h) Q Y := by
  rw [ev]; exact wE_bind (wE_mono x (fun _ _ y => wE_bind y) fun _ _ y => y)

theorem e_neg {e : E} (x : wE (ev P cl g e h) (fun v h => ∃ i, v = .int i ∧ Q (.int (-i)) h) Y) : wE (ev P cl g (.neg e) h) Q Y := by
  rw [ev]; exact wE_bind (wE_mono x (fun v h y => by obtain ⟨i, rfl, y⟩ := y; exact y) fun _ _ y => y)
theorem e_not {e : E} (x : wE (ev P cl g e h) (fun v h => ∃ b, v = .bool b ∧ Q (.bool (!b)) h) Y) : wE (ev P cl g (.not e) h) Q Y := by
  rw [ev]; exact wE_bind (wE_mono x (fun v h y => by obtain ⟨i, rfl, y⟩ := y; exact y) fun _ _ y => y)
theorem e_or {es : List E} (x : wE (evOr P cl g es h) Q Y) : wE (ev P cl g (.or es) h) Q Y := by rw [ev]; exact x
theorem e_and {es : List E} (x : wE (evAnd P cl g es h) Q Y) : wE (ev P cl g (.and es) h) Q Y := by rw [ev]; exact x
theorem o_one {e : E} (x : wE (ev P cl g e h) Q Y) : wE (evOr P cl g [e] h) Q Y := by rw [evOr]; exact x
theorem a_one {e : E} (x : wE (ev P cl g e h) Q Y) : wE (evAnd P cl g [e] h) Q Y := by rw [evAnd]; exact x
theorem o_cons {e e2 : E} {r : List E} (x : wE (ev P cl g e h) (fun v h => ∃ b, v = .bool b ∧ if b then Q (.bool true) h else wE (evOr P cl g (e2 :: r) h) Q Y) Y) : wE (evOr P cl g (e :: e2 :: r) h) Q Y := by
  rw [evOr]
  · exact wE_bind (wE_mono x (fun v h y => by obtain ⟨b, rfl, y⟩ := y; cases b <;> exact y) fun _ _ y => y)
  · simp
theorem a_cons {e e2 : E} {r : List E} (x : wE (ev P cl g e h) (fun v h => ∃ b, v = .bool b ∧ if b then wE (evAnd P cl g (e2 :: r) h) Q Y else Q (.bool false) h) Y) : wE (evAnd P cl g (e :: e2 :: r) h) Q Y := by
  rw [evAnd]
  · exact wE_bind (wE_mono x (fun v h y => by obtain ⟨b, rfl, y⟩ := y; cases b <;> exact y) fun _ _ y => y)
  · simp
theorem e_cmp2 {l m r : E} {o1 o2 : CO} (x : wE (ev P cl g l h) (fun a h => wE (ev P cl g m h) (fun b h => wE (cmpop o1 a b h) (fun t h => ∃ z, t = .bool z ∧ if z then wE (ev P cl g r h) (fun d h => wE (cmpop o2 b d h) Q Y) Y else Q (.bool false) h) Y) Y) Y) :
    wE (ev P cl g (.cmp2 l o1 m o2 r) h) Q Y := by
  rw [ev]
  refine wE_bind (wE_mono x (fun a h y => wE_bind (wE_mono y (fun b h y => wE_bind (wE_mono y (fun t h y => ?_) fun _ _ y => y)) fun _ _ y => y)) fun _ _ y => y)
  obtain ⟨z, rfl, y⟩ := y
  cases z
  · exact y
  · exact wE_bind y
theorem e_sub {o i : E} (x : wE (ev P cl g o h) (fun a h => wE (ev P cl g i h) (fun b h => wE (getItem a b h) Q Y) Y) Y) : wE (ev P cl g (.sub o i) h) Q Y := by
  rw [ev]; exact wE_bind (wE_mono x (fun _ _ y => wE_bind y) fun _ _ y => y)
theorem e_isa {e : E} {t : String} (x : wE (ev P cl g e h) (fun a h => wE (isa P t a h) Q Y) Y) : wE (ev P cl g (.isa e t) h) Q Y := by rw [ev]; exact wE_bind x
theorem e_tup {es : List E} (x : wE (evs P cl g es h) (fun vs h => vs.length ≤ mostLen ∧ Q (.tup vs) h) Y) : wE (ev P cl g (.tup es) h) Q Y := by
  rw [ev]; exact wE_bind (wE_mono x (fun v h y => by rw [if_pos y.1]; exact y.2) fun _ _ y => y)
theorem e_list {es : List E} (x : wE (evs P cl g es h) (fun vs h => vs.length ≤ mostLen ∧ Q (.ref h.length) (h ++ [.list vs])) Y) : wE (ev P cl g (.list es) h) Q Y := by
  rw [ev]; exact wE_bind (wE_mono x (fun v h y => by rw [if_pos y.1]; exact y.2) fun _ _ y => y)
/-- a list's method -/
theorem e_lmeth {o : E} {m : String} {as : List E} (hm : listMs.contains m = true)
    (x : wE (ev P cl g o h) (fun a h => ∃ r l, a = .ref r ∧ h[r]? = some (.list l) ∧ wE (evs P cl g as h) (fun vs h => ∃ ob, h[r]? = some ob ∧ wE (objMeth m r ob vs h) Q Y) Y) Y) : wE (ev P cl g (.meth o m as) h) Q Y := by
  rw [ev]
  refine wE_bind (wE_mono x (fun v h y => ?_) fun _ _ y => y)
  obtain ⟨r, l, rfl, e, y⟩ := y
  simp only [e, if_pos hm]
  refine wE_bind (wE_mono y (fun vs h y => ?_) fun _ _ y => y)
  obtain ⟨ob, e, y⟩ := y
  rw [e]; exact y
theorem m_append {r : Nat} {l : List V} {v : V} (hl : l.length < mostLen) (q : Q .none (h.set r (.list (l ++ [v])))) : wE (objMeth "append" r (.list l) [v] h) Q Y := by
  simp only [objMeth]; rw [if_pos hl]; exact q
/-! operators -/
theorem b_add {a b : Int} (q : Q (.int (a + b)) h) : wE (binop .add (.int a) (.int b) h) Q Y := q
theorem b_sub {a b : Int} (q : Q (.int (a - b)) h) : wE (binop .sub (.int a) (.int b) h) Q Y := q
theorem b_fdiv {a b : Int} (c : 0 < b ∧ b < 1073741824) (q : Q (.int (a.fdiv b)) h) : wE (binop .fdiv (.int a) (.int b) h) Q Y := by
  simp only [binop]; rw [if_neg (by omega)]; exact q
theorem b_mod {a b : Int} (c : 0 < b) (q : Q (.int (a.fmod b)) h) : wE (binop .mod (.int a) (.int b) h) Q Y := by simp only [binop]; rw [if_neg (by omega)]; exact q
theorem c_eq {a b : Int} (q : Q (.bool (a == b)) h) : wE (cmpop .eq (.int a) (.int b) h) Q Y := by
  simp only [cmpop, veq, data, deep, D.eqv, okO]; exact q
end
section
variable {P : Pg} {cl : CallT} {g : Gm} {h : Hp} {N : Gm → Hp → Prop} {T : V → Hp → Prop} {X : Nat → Gm → Hp → Prop}
end
end Mine
end

section
namespace Mine

/-! whole numbers of two digits -/
theorem bits_lt {i : Int} {k : Nat} (h : i.natAbs < 2 ^ k) : bitsOf i ≤ k := by
  unfold bitsOf
  split
  · omega
  · have := (Nat.log2_lt (by assumption)).mpr h
    omega
theorem lt_bits (n : Nat) : n < 2 ^ bitsOf (n : Int) := by
  unfold bitsOf
  rw [Int.natAbs_natCast]
  split
  · omega
  · exact Nat.lt_log2_self
theorem bits_half {n : Nat} (h : 0 < n) : bitsOf (n : Int) = bitsOf ((n / 2 : Nat) : Int) + 1 := by
  unfold bitsOf
  rw [Int.natAbs_natCast, Int.natAbs_natCast, if_neg (by omega)]
  split
  · have : n = 1 := by omega
    subst this; decide
  · rw [Nat.log2_def n, if_pos (by omega)]

/-- the blocks below a height -/
noncomputable def pts (c : Nat) : Nat → List (Nat × Nat)
  | 0 => []
  | h + 1 => (if c / 2 ^ h % 2 = 1 then [(h, c / 2 ^ (h + 1) * 2)] else []) ++ pts c h
noncomputable def base (c h : Nat) : Nat := c / 2 ^ h * 2 ^ h
theorem base_zero (c : Nat) : base c 0 = c := by simp [base]
theorem base_le (c h : Nat) : base c h ≤ c := Nat.div_mul_le_self _ _
theorem base_two (c h : Nat) : base c h = base c (h + 1) + (if c / 2 ^ h % 2 = 1 then 2 ^ h else 0) := by
  unfold base
  have e : c / 2 ^ (h + 1) = c / 2 ^ h / 2 := by rw [Nat.pow_succ, Nat.div_div_eq_div_mul]
  rw [e, Nat.pow_succ]
  have := Nat.div_add_mod (c / 2 ^ h) 2
  generalize c / 2 ^ h = x at this ⊢
  have e2 : x / 2 * (2 ^ h * 2) = (2 * (x / 2)) * 2 ^ h := by rw [Nat.mul_comm (2 ^ h) 2, ← Nat.mul_assoc, Nat.mul_comm (x / 2) 2]
  rw [e2]
  split
  · rw [show x = 2 * (x / 2) + 1 from by omega]
    rw [Nat.add_mul, Nat.one_mul, show (2 * (x / 2) + 1) / 2 = x / 2 from by omega]
  · rw [Nat.add_zero, show 2 * (x / 2) = x from by omega]
theorem base_fit (c h : Nat) : (base c (h + 1) + 2 ^ h ≤ c) ↔ c / 2 ^ h % 2 = 1 := by
  constructor
  · intro q
    apply Classical.byContradiction
    intro n
    have e := base_two c h
    rw [if_neg n] at e
    have l := Nat.div_add_mod c (2 ^ h)
    have m := Nat.mod_lt c (Nat.pow_pos (n := h) (show 0 < 2 by decide))
    unfold base at e q
    rw [Nat.mul_comm] at e
    omega
  · intro q
    have e := base_two c h
    rw [if_pos q] at e
    have := base_le c h
    omega
theorem base_high {c h : Nat} (q : c < 2 ^ h) : base c h = 0 := by unfold base; rw [Nat.div_eq_of_lt q, Nat.zero_mul]
theorem base_over (c h : Nat) : base c (h + 1) / 2 ^ h = c / 2 ^ (h + 1) * 2 := by
  unfold base
  rw [Nat.pow_succ, Nat.mul_comm (2 ^ h) 2, ← Nat.mul_assoc, Nat.mul_div_cancel _ (Nat.pow_pos (by decide))]
theorem pts_cases (c : Nat) : ∀ hh, (pts c hh = [] ∧ base c hh = c) ∨ ∃ h, h < hh ∧ c / 2 ^ h % 2 = 1 ∧ pts c hh = (h, c / 2 ^ (h + 1) * 2) :: pts c h ∧ base c hh = base c (h + 1) := by
  intro hh
  induction hh with
  | zero => exact .inl ⟨rfl, base_zero c⟩
  | succ k ih =>
    by_cases q : c / 2 ^ k % 2 = 1
    · exact .inr ⟨k, by omega, q, by simp [pts, q], rfl⟩
    · have e := base_two c k
      rw [if_neg q, Nat.add_zero] at e
      rcases ih with ⟨a, b⟩ | ⟨h, l, a, b, d⟩
      · exact .inl ⟨by simp [pts, q, a], by omega⟩
      · exact .inr ⟨h, by omega, a, by simp [pts, q, b], by omega⟩
theorem pts_len (c : Nat) : ∀ h, (pts c h).length ≤ h := by
  intro h
  induction h with
  | zero => exact Nat.le_refl _
  | succ k ih => unfold pts; split <;> simp <;> omega
noncomputable def tl (p : Nat × Nat) : V := .tup [.int p.1, .int p.2]

theorem mapO_tl (h : Hp) : ∀ l : List (Nat × Nat), mapO (data 7 h) (l.map tl) = some (l.map fun p => D.tup [.int p.1, .int p.2]) := by
  intro l
  induction l with
  | nil => rfl
  | cons p r ih =>
    have e : data 7 h (tl p) = some (D.tup [.int p.1, .int p.2]) := rfl
    rw [List.map_cons, mapO, e, ih]; rfl
theorem eqvs_self : ∀ l : List (Nat × Nat), D.eqvs (l.map fun p => D.tup [.int p.1, .int p.2]) (l.map fun p => D.tup [.int p.1, .int p.2]) = true := by
  intro l
  induction l with
  | nil => rfl
  | cons p r ih => simp only [List.map_cons, D.eqvs, ih, D.eqv]; simp
theorem veq_tl {h : Hp} {a b : Nat} {l : List (Nat × Nat)} (ha : h[a]? = some (.list (l.map tl))) (hb : h[b]? = some (.list (l.map tl))) : veq h (.ref a) (.ref b) = some true := by
  simp only [veq, ha, hb, data, deep, mapO_tl, Option.map]
  simp only [D.eqv, eqvs_self]

theorem two_pow (k : Nat) : (2 : Int) ^ ((k : Int).toNat) = ((2 ^ k : Nat) : Int) := by simp
theorem fdiv_pow {a k : Nat} {h : Hp} {Q : V → Hp → Prop} {Y : Nat → Hp → Prop} (hk : k < 30) (q : Q (.int (a / 2 ^ k : Nat)) h) : wE (binop .fdiv (.int a) (.int (2 ^ k : Nat)) h) Q Y := by
  simp only [binop]
  have p : (2 : Nat) ^ k > 0 := Nat.pow_pos (by decide)
  have l : (2 : Nat) ^ k < 2 ^ 30 := Nat.pow_lt_pow_right (by decide) hk
  rw [if_neg (by rw [Int.natAbs_natCast]; omega)]
  refine wE_ok ?_
  rw [Int.fdiv_eq_ediv_of_nonneg _ (by omega)]
  exact q
section
variable {Q : V → Hp → Prop} {Y : Nat → Hp → Prop} {h : Hp} {n : Nat}

theorem size_law {k : Int} (h0 : 0 ≤ k) (h1 : k < 900) (q : Q (.int (2 ^ k.toNat)) h) : wE (run P01 (n + 1) ("", "_law_size") [.int k] h) Q Y := by
  obtain ⟨m, rfl⟩ := Int.eq_ofNat_of_zero_le h0
  refine w_run (d := f_law_size) rfl rfl (w_cons (w_asg (e_int ?_)))
  refine w_cons (w_for_up (fun j g h' => h' = h ∧ ∃ t, g = [some (.int m), some (.int (2 ^ j)), t]) (e_bi (e_cons (e_var rfl (e_nil ?_)))))
  simp only [bfn]
  rw [if_pos (by omega)]
  refine ⟨0, m, m, rfl, by omega, by unfold LF; omega, ⟨rfl, none, rfl⟩, fun j g h' hj ⟨e1, t, e2⟩ => ?_, fun g h' ⟨e1, t, e2⟩ => ?_⟩
  · subst e1 e2
    refine w_cons (w_asg (e_bin (e_var rfl (e_int ?_))))
    simp only [binop]
    rw [if_pos ⟨bits_pow j (by omega), by decide⟩]
    refine wE_ok (w_nil ?_)
    exact ⟨rfl, some (.int (0 + j)), by simp [Int.pow_succ, List.set]⟩
  · subst e1 e2
    exact w_cons (w_ret (e_var rfl q))
theorem size_of {k : Int} (h0 : 0 ≤ k) (h1 : k < 900) (q : Q (.int (2 ^ k.toNat)) h) : wE (run P01 (n + 1) ("", "size_of") [.int k] h) Q Y := by
  obtain ⟨m, rfl⟩ := Int.eq_ofNat_of_zero_le h0
  refine w_run (d := f_size_of) rfl rfl (w_cons (w_asg (e_int ?_)))
  refine w_cons (w_for_up (fun j g h' => h' = h ∧ ∃ t, g = [some (.int m), some (.int (2 ^ j)), t]) (e_bi (e_cons (e_var rfl (e_nil ?_)))))
  simp only [bfn]
  rw [if_pos (by omega)]
  refine ⟨0, m, m, rfl, by omega, by unfold LF; omega, ⟨rfl, none, rfl⟩, fun j g h' hj ⟨e1, t, e2⟩ => ?_, fun g h' ⟨e1, t, e2⟩ => ?_⟩
  · subst e1 e2
    refine w_cons (w_asg (e_bin (e_var rfl (e_int ?_))))
    simp only [binop]
    rw [if_pos ⟨bits_pow j (by omega), by decide⟩]
    refine wE_ok (w_nil ?_)
    exact ⟨rfl, some (.int (0 + j)), by simp [Int.pow_succ, List.set]⟩
  · subst e1 e2
    exact w_cons (w_ret (e_var rfl q))

theorem run_digits (c : Int) : run P01 (n + 1) ("", "digits") [.int c] h = .ok (.int (bitsOf c)) h := rfl
theorem run_whole (c : Int) : run P01 (n + 1) ("", "_law_whole") [.int c] h = .ok (.bool true) h := rfl

theorem law_digits {c : Nat} (h1 : bitsOf (c : Int) < 900) (q : Q (.int (bitsOf (c : Int))) h) : wE (run P01 (n + 1) ("", "_law_digits") [.int c] h) Q Y := by
  refine w_run (d := f_law_digits) rfl rfl (w_cons (w_asg (e_int ?_)))
  refine w_cons (w_while (fun k g h' => h' = h ∧ ∃ (c' : Nat) (f : Int), g = [some (.int c'), some (.int f)] ∧ k = bitsOf (c' : Int) ∧ (bitsOf (c' : Int) : Int) + f = bitsOf (c : Int)) (bitsOf (c : Int)) (by unfold LF; omega) ⟨rfl, c, 0, rfl, rfl, by omega⟩ ?_)
  rintro k g h' ⟨rfl, c', f, rfl, rfl, e⟩
  refine e_cmp (e_var rfl (e_int ?_))
  refine wE_ok ⟨_, rfl, ?_⟩
  by_cases z : c' = 0
  · subst z
    rw [if_neg (by simp)]
    refine w_cons (w_ret (e_var rfl ?_))
    have e3 : bitsOf ((0 : Nat) : Int) = 0 := rfl
    rw [e3] at e
    rw [show f = bitsOf (c : Int) from by omega]
    exact q
  · rw [if_pos (by simp; omega)]
    refine w_cons (w_asg (e_bin (e_var rfl (e_int ?_))))
    simp only [binop]
    rw [if_neg (by decide)]
    refine wE_ok (w_cons (w_asg (e_bin (e_var rfl (e_int ?_)))))
    refine wE_ok (w_nil ?_)
    have b := bits_half (n := c') (by omega)
    have e4 : (c' : Int).fdiv 2 = ((c' / 2 : Nat) : Int) := by rw [Int.fdiv_eq_ediv_of_nonneg _ (by decide)]; omega
    rw [e4]
    exact ⟨_, by omega, rfl, c' / 2, f + 1, rfl, rfl, by omega⟩

theorem parted {c : Nat} (h1 : bitsOf (c : Int) < 30) (q : Q (.ref h.length) (h ++ [.list ((pts c (bitsOf (c : Int))).map tl)])) : wE (run P01 (n + 2) ("", "parted") [.int c] h) Q Y := by
  refine w_run (d := f_parted) rfl rfl (w_cons (w_asg (e_list (e_nil ⟨by decide, w_cons (w_asg (e_int ?_))⟩))))
  generalize hd : bitsOf (c : Int) = d at *
  have hcd : c < 2 ^ d := by rw [← hd]; exact lt_bits c
  refine w_cons (w_for_up (fun j g h' => j ≤ d ∧ ∃ (l : List (Nat × Nat)) (t1 t2 t3 : Option V), g = [some (.int c), some (.ref h.length), some (.int (base c (d - j) : Nat)), t1, t2, t3] ∧ h' = h ++ [.list (l.map tl)] ∧ l ++ pts c (d - j) = pts c d)
    (e_bi (e_cons (e_call (e_cons (e_var rfl (e_nil ?_)))))))
  rw [run_digits, hd]
  refine wE_ok (e_nil ?_)
  simp only [bfn]
  rw [if_pos (by omega)]
  refine ⟨0, d, d, rfl, by omega, by unfold LF; omega, ⟨by omega, [], none, none, none, by rw [Nat.sub_zero, base_high hcd]; rfl, rfl, rfl⟩, ?_, ?_⟩
  · rintro j g h' hj ⟨-, l, t1, t2, t3, rfl, rfl, el⟩
    refine w_cons (w_asg (e_bin (e_bin (e_call (e_cons (e_var rfl (e_nil ?_)))))))
    rw [run_digits, hd]
    refine wE_ok (e_int (wE_ok (e_var rfl (wE_ok ?_))))
    obtain ⟨k, rfl⟩ : ∃ k, d = j + 1 + k := ⟨d - (j + 1), by omega⟩
    have e1 : (((j + 1 + k : Nat) : Int) - 1 - (0 + (j : Int))) = (k : Nat) := by omega
    have e2 : j + 1 + k - j = k + 1 := by omega
    have e3 : j + 1 + k - (j + 1) = k := by omega
    rw [e2] at el ⊢
    rw [e1]
    refine w_cons (w_asg (e_call (e_cons (e_var rfl (e_nil (size_of (by omega) (by omega) ?_))))))
    refine w_cons (w_if (e_cmp (e_bin (e_var rfl (e_var rfl (wE_ok (e_var rfl ?_)))))))
    refine wE_ok ⟨_, rfl, ?_⟩
    rw [two_pow k]
    have fit := base_fit c k
    have two := base_two c k
    have ble := base_le c (k + 1)
    have ll : l.length ≤ 30 := by
      have := pts_len c (j + 1 + k)
      rw [← el, List.length_append] at this
      omega
    by_cases b : c / 2 ^ k % 2 = 1
    · rw [if_pos (by simp only [ge_iff_le, decide_eq_true_eq]; have := fit.mpr b; omega)]
      refine w_cons (w_expr (e_lmeth rfl (e_var rfl ⟨h.length, _, rfl, List.getElem?_concat_length .., ?_⟩)))
      refine e_cons (e_tup (e_cons (e_var rfl (e_cons (e_bin (e_var rfl (e_var rfl ?_)))))))
      refine fdiv_pow (by omega) ?_
      refine e_nil ⟨by simp [mostLen], e_nil ⟨_, List.getElem?_concat_length .., m_append (by simp [mostLen]; omega) ?_⟩⟩
      refine w_cons (w_asg (e_bin (e_var rfl (e_var rfl (wE_ok (w_nil (w_nil ?_)))))))
      refine ⟨by omega, l ++ [(k, c / 2 ^ (k + 1) * 2)], some (.int (0 + (j : Int))), some (.int k), some (.int (2 ^ k : Nat)), ?_, ?_, ?_⟩
      · rw [e3, two, if_pos b, Int.natCast_add]; rfl
      · rw [List.set_append_right _ _ (Nat.le_refl _), Nat.sub_self, base_over]; simp [tl]
      · rw [e3, ← el]; simp [pts, b]
    · rw [if_neg (by simp only [ge_iff_le, decide_eq_true_eq]; intro x; exact b (fit.mp (by omega)))]
      refine w_nil (w_nil ⟨by omega, l, some (.int (0 + (j : Int))), some (.int k), some (.int (2 ^ k : Nat)), ?_, rfl, ?_⟩)
      · rw [e3, two, if_neg b, Nat.add_zero]; rfl
      · rw [e3, ← el]; simp [pts, b]
  · rintro g h' ⟨-, l, t1, t2, t3, rfl, rfl, el⟩
    refine w_cons (w_ret (e_var rfl ?_))
    rw [Nat.sub_self] at el
    simp only [pts, List.append_nil] at el
    rw [el]; exact q
theorem law_parted {c : Nat} (h1 : bitsOf (c : Int) < 29) (q : Q (.ref h.length) (h ++ [.list ((pts c (bitsOf (c : Int))).map tl)])) : wE (run P01 (n + 2) ("", "_law_parted") [.int c] h) Q Y := by
  refine w_run (d := f_law_parted) rfl rfl (w_cons (w_asg (e_list (e_nil ⟨by decide, w_cons (w_asg (e_int ?_))⟩))))
  have hb0 : pts c (bitsOf (c : Int)) = pts c (bitsOf (c : Int) + 1) := by
    have : c / 2 ^ bitsOf (c : Int) = 0 := Nat.div_eq_of_lt (lt_bits c)
    simp [pts, this]
  rw [hb0] at q
  have hh : bitsOf (c : Int) < 900 := by omega
  have hld : ∀ {Q : V → Hp → Prop} {Y : Nat → Hp → Prop} {h : Hp} {n : Nat}, Q (.int (bitsOf (c : Int))) h → wE (run P01 (n + 1) ("", "_law_digits") [.int c] h) Q Y := fun q => law_digits hh q
  have hcd : c < 2 ^ (bitsOf (c : Int) + 1) := by have := lt_bits c; rw [Nat.pow_succ]; omega
  generalize bitsOf (c : Int) = d' at *
  obtain ⟨d, hdd⟩ : ∃ d, d = d' + 1 := ⟨_, rfl⟩
  refine w_cons (w_for_down (fun j g h' => j ≤ d ∧ ∃ (l : List (Nat × Nat)) (t1 : Option V), g = [some (.int c), some (.ref h.length), some (.int (base c (d - j) : Nat)), t1] ∧ h' = h ++ [.list (l.map tl)] ∧ l ++ pts c (d - j) = pts c d)
    (e_bi (e_cons (e_call (e_cons (e_var rfl (e_nil ?_)))))))
  refine hld (e_cons (e_neg (e_int ⟨1, rfl, e_cons (e_neg (e_int ⟨1, rfl, e_nil ?_⟩))⟩)))
  simp only [bfn]
  rw [if_pos ⟨trivial, by omega, by decide⟩]
  refine ⟨d', -1, d, rfl, by omega, by unfold LF; omega, ⟨by omega, [], none, by rw [Nat.sub_zero, hdd, base_high hcd]; rfl, rfl, rfl⟩, ?_, ?_⟩
  · rintro j g h' hj ⟨-, l, t1, rfl, rfl, el⟩
    obtain ⟨k, hk⟩ : ∃ k, d = j + 1 + k := ⟨d - (j + 1), by omega⟩
    have e1 : ((d' : Int) - (j : Int)) = (k : Nat) := by omega
    have e2 : d - j = k + 1 := by omega
    have e3 : d - (j + 1) = k := by omega
    rw [e2] at el ⊢
    rw [e1]
    refine w_cons (w_if (e_cmp (e_bin (e_var rfl (e_call (e_cons (e_var rfl (e_nil (size_law (by omega) (by omega) (wE_ok (e_var rfl ?_))))))))))) 
    refine wE_ok ⟨_, rfl, ?_⟩
    rw [two_pow k]
    have fit := base_fit c k
    have two := base_two c k
    have ble := base_le c (k + 1)
    have ll : l.length ≤ 30 := by
      have := pts_len c d
      rw [← el, List.length_append] at this
      omega
    by_cases b : c / 2 ^ k % 2 = 1
    · rw [if_pos (by simp only [decide_eq_true_eq]; have := fit.mpr b; omega)]
      refine w_cons (w_expr (e_lmeth rfl (e_var rfl ⟨h.length, _, rfl, List.getElem?_concat_length .., ?_⟩)))
      refine e_cons (e_tup (e_cons (e_var rfl (e_cons (e_bin (e_var rfl (e_call (e_cons (e_var rfl (e_nil (size_law (by omega) (by omega) ?_)))))))))))
      rw [two_pow k]
      refine fdiv_pow (by omega) ?_
      refine e_nil ⟨by simp [mostLen], e_nil ⟨_, List.getElem?_concat_length .., m_append (by simp [mostLen]; omega) ?_⟩⟩
      refine w_cons (w_asg (e_bin (e_var rfl (e_call (e_cons (e_var rfl (e_nil (size_law (by omega) (by omega) ?_))))))))
      rw [two_pow k]
      refine wE_ok (w_nil (w_nil ?_))
      refine ⟨by omega, l ++ [(k, c / 2 ^ (k + 1) * 2)], some (.int k), ?_, ?_, ?_⟩
      · rw [e3, two, if_pos b, Int.natCast_add]; rfl
      · rw [List.set_append_right _ _ (Nat.le_refl _), Nat.sub_self, base_over]; simp [tl]
      · rw [e3, ← el]; simp [pts, b]
    · rw [if_neg (by simp only [decide_eq_true_eq]; intro x; exact b (fit.mp (by omega)))]
      refine w_nil (w_nil ⟨by omega, l, some (.int k), ?_, rfl, ?_⟩)
      · rw [e3, two, if_neg b, Nat.add_zero]; rfl
      · rw [e3, ← el]; simp [pts, b]
  · rintro g h' ⟨-, l, t1, rfl, rfl, el⟩
    refine w_cons (w_ret (e_var rfl ?_))
    rw [Nat.sub_self] at el
    simp only [pts, List.append_nil] at el
    rw [el, hdd]; exact q

/-- the law behind its count -/
theorem law_back {sc cell : V} {c : Nat} (h1 : bitsOf (c : Int) < 29) (t3 t4 t5 t6 t7 : Option V) :
    wS (exs P01 (run P01 (n + 3)) (f_law.body.drop 4) [some sc, some cell, some (.int c), t3, t4, t5, t6, t7] h) (fun _ _ => False) (fun v _ => v = .bool true) (fun _ _ _ => False) := by
  show wS (exs P01 _ (_ :: _) _ _) _ _ _
  refine w_cons (w_asg (e_call (e_cons (e_var rfl (e_nil ?_)))))
  rw [run_digits]
  refine wE_ok (w_cons (w_asg (e_call (e_cons (e_var rfl (e_nil (parted (by omega) ?_)))))))
  refine w_cons (w_if (e_or (o_cons (e_not (e_call (e_cons (e_var rfl (e_nil ?_))))))))
  rw [run_whole]
  refine wE_ok ⟨_, rfl, _, rfl, ?_⟩
  refine o_cons (e_cmp (e_var rfl (e_call (e_cons (e_var rfl (e_nil (law_digits (by omega) ?_)))))))
  refine (show wE (R.ok (V.bool (!(((bitsOf (c : Int) : Nat) : Int) == ((bitsOf (c : Int) : Nat) : Int)))) _) _ _ from ⟨_, rfl, ?_⟩)
  rw [if_neg (by simp)]
  refine o_one (e_not (e_isa (e_var rfl ?_)))
  simp only [isa, List.getElem?_concat_length]
  refine wE_ok ⟨_, rfl, _, rfl, ?_⟩
  rw [if_neg (by simp)]
  refine w_nil (w_cons (w_asg (e_int (w_cons (w_asg (e_var rfl ?_))))))
  have hh := h1
  have hld : ∀ {Q : V → Hp → Prop} {Y : Nat → Hp → Prop} {h : Hp} {n : Nat}, Q (.ref h.length) (h ++ [.list ((pts c (bitsOf (c : Int))).map tl)]) → wE (run P01 (n + 2) ("", "parted") [.int c] h) Q Y := fun q => parted (by omega) q
  have hlp : ∀ {Q : V → Hp → Prop} {Y : Nat → Hp → Prop} {h : Hp} {n : Nat}, Q (.ref h.length) (h ++ [.list ((pts c (bitsOf (c : Int))).map tl)]) → wE (run P01 (n + 2) ("", "_law_parted") [.int c] h) Q Y := fun q => law_parted hh q
  have hcd := lt_bits c
  generalize bitsOf (c : Int) = d at *
  refine w_cons (w_for_list (fun j g h' => h' = h ++ [.list ((pts c d).map tl)] ∧ ∃ (hh : Nat) (la : Nat) (t7 : Option V), g = [some sc, some cell, some (.int c), some (.int d), some (.ref h.length), some (.int (base c hh : Nat)), some (.int la), t7] ∧ hh ≤ la ∧ la < 30 ∧ (pts c d).drop j = pts c hh)
    (e_var rfl ⟨h.length, (pts c d).map tl, rfl, ?_, ⟨rfl, d, d, t7, by rw [base_high hcd]; rfl, Nat.le_refl _, by omega, rfl⟩, ?_, ?_, ?_⟩))
  · rw [List.length_map]; have := pts_len c d; unfold LF; omega
  · rintro j g h' ⟨rfl, -⟩; exact List.getElem?_concat_length ..
  · rintro j v g h' hv ⟨rfl, hh, la, t7, rfl, hl, hl2, hp⟩
    rcases pts_cases c hh with ⟨a, b⟩ | ⟨k, hk, a, b, e⟩
    · rw [a] at hp
      rw [List.getElem?_map, List.getElem?_eq_none (by have := congrArg List.length hp; rw [List.length_drop] at this; simp at this; omega)] at hv
      cases hv
    · have hv' : v = tl (k, c / 2 ^ (k + 1) * 2) := by
        rw [List.getElem?_map] at hv
        have : (pts c d)[j]? = some (k, c / 2 ^ (k + 1) * 2) := by
          have := congrArg (fun l => l[0]?) (hp.trans b)
          simpa [List.getElem?_drop] using this
        rw [this] at hv
        exact (Option.some.inj hv).symm
      subst hv'
      have two := base_two c k
      rw [if_pos a] at two
      have ble := base_le c hh
      have bits : bitsOf ((c / 2 ^ (k + 1) * 2 : Nat) : Int) ≤ mostBits := by
        refine Nat.le_trans (bits_lt (k := d + 1) ?_) (by unfold mostBits; omega)
        rw [Int.natAbs_natCast, @Nat.pow_succ 2 d]
        have := Nat.div_le_self c (2 ^ (k + 1))
        omega
      refine ⟨_, rfl, ?_⟩
      refine w_cons (w_if (e_or (o_cons ?_)))
      refine e_not (e_isa ?_)
      refine e_var rfl ?_
      refine wE_ok ⟨_, rfl, _, rfl, ?_⟩
      rw [if_neg (by decide)]
      refine o_cons (e_cmp (e_bi (e_cons (e_var rfl (e_nil ?_)))))
      refine wE_ok (e_int ?_)
      refine wE_ok ⟨_, rfl, ?_⟩
      rw [if_neg (by simp [D.eqv])]
      refine o_cons (e_not (e_call (e_cons (e_sub (e_var rfl (e_int ?_))))))
      refine wE_ok (e_nil ?_)
      rw [run_whole]
      refine wE_ok ⟨_, rfl, _, rfl, ?_⟩
      rw [if_neg (by simp)]
      refine o_one (e_not (e_call (e_cons (e_sub (e_var rfl (e_int ?_))))))
      refine wE_ok (e_nil ?_)
      rw [run_whole]
      refine wE_ok ⟨_, rfl, _, rfl, ?_⟩
      rw [if_neg (by simp)]
      refine w_nil (w_cons (w_if (e_or (o_cons (e_not (e_cmp2 (e_int (e_sub (e_var rfl (e_int ?_)))))))))) 
      refine wE_ok (show wE (R.ok (V.bool (decide ((0 : Int) ≤ ((k : Nat) : Int)))) _) _ _ from ⟨_, rfl, ?_⟩)
      rw [if_pos (by simp)]
      refine e_var rfl (show wE (R.ok (V.bool (decide (((k : Nat) : Int) < ((la : Nat) : Int)))) _) _ _ from ⟨_, rfl, _, rfl, ?_⟩)
      rw [if_neg (by simp; omega)]
      refine o_one (e_cmp (e_bin (e_sub (e_var rfl (e_int ?_)))))
      refine wE_ok (e_call (e_cons (e_sub (e_var rfl (e_int ?_)))))
      refine wE_ok (e_nil (size_law (k := (k : Nat)) (by omega) (by omega) ?_))
      rw [two_pow k]
      simp only [binop]
      rw [if_pos ⟨bits, by rw [← two_pow k]; exact bits_pow _ (by omega)⟩]
      refine wE_ok (e_var rfl ?_)
      refine (show wE (R.ok (V.bool (!((((c / 2 ^ (k + 1) * 2 : Nat) : Int) * ((2 ^ k : Nat) : Int)) == ((base c hh : Nat) : Int)))) _) _ _ from ⟨_, rfl, ?_⟩)
      have em : (c / 2 ^ (k + 1) * 2) * 2 ^ k = base c hh := by
        rw [e]; unfold base; rw [Nat.pow_succ, Nat.mul_assoc, Nat.mul_comm 2 (2 ^ k)]
      rw [if_neg (by rw [← em]; simp)]
      refine w_nil (w_cons (w_asg (e_bin (e_var rfl (e_call (e_cons (e_sub (e_var rfl (e_int ?_)))))))))
      refine wE_ok (e_nil (size_law (k := (k : Nat)) (by omega) (by omega) ?_))
      rw [two_pow k]
      refine wE_ok (w_cons (w_asg (e_sub (e_var rfl (e_int ?_)))))
      refine wE_ok (w_nil ⟨rfl, k, k, some (tl (k, c / 2 ^ (k + 1) * 2)), ?_, Nat.le_refl _, by omega, ?_⟩)
      · rw [two, ← e, Int.natCast_add]; rfl
      · rw [← List.drop_drop, hp, b]; rfl
  · rintro g h' ⟨rfl, hh, la, t7, rfl, hl, hl2, hp⟩
    rw [List.length_map, List.drop_length] at hp
    have hb : base c hh = c := by
      rcases pts_cases c hh with ⟨a, b⟩ | ⟨k, hk, a, b, e⟩
      · exact b
      · rw [b] at hp; cases hp
    rw [hb]
    refine w_cons (w_expr (e_lmeth rfl (e_var rfl ⟨h.length, _, rfl, List.getElem?_concat_length .., ?_⟩)))
    refine e_cons (e_tup (e_cons (e_int (e_cons (e_int (e_nil ⟨by decide, e_nil ⟨_, List.getElem?_concat_length .., m_append ?_ ?_⟩⟩))))))
    · rw [List.length_map]; have := pts_len c d; unfold mostLen; omega
    refine w_cons (w_ret (e_and (a_cons (e_cmp (e_var rfl (e_var rfl ?_))))))
    refine (show wE (R.ok (V.bool ((c : Int) == (c : Int))) _) _ _ from ⟨_, rfl, ?_⟩)
    rw [if_pos (by simp)]
    refine a_one (e_cmp (e_call (e_cons (e_var rfl (e_nil (hld ?_))))))
    refine e_call (e_cons (e_var rfl (e_nil (hlp ?_))))
    simp only [cmpop]
    rw [veq_tl (l := pts c d) ?_ (List.getElem?_concat_length ..)]
    · rfl
    · rw [List.getElem?_append_left (by simp)]; exact List.getElem?_concat_length ..
theorem cell_at {ns : List Int} {k : Nat} (q : Q (.int (ns.getD k 0)) h) : wE (run P01 (n + 1) ("", "_law_cell_at") [.fz (ns.map .int), .int k] h) Q Y := by
  refine w_run (d := f_law_cell_at) rfl rfl (w_cons (w_if (e_cmp (e_var rfl (e_bi (e_cons (e_var rfl (e_nil ?_))))))))
  simp only [bfn]
  refine wE_ok (show wE (R.ok (V.bool (decide ((k : Int) < ((ns.map V.int).length : Int)))) _) _ _ from ⟨_, rfl, ?_⟩)
  rw [List.length_map]
  by_cases l : k < ns.length
  · rw [if_pos (by simpa using l)]
    refine w_cons (w_ret (e_sub (e_var rfl (e_var rfl ?_))))
    have e1 : idx (k : Int) (ns.map V.int).length = some k := by
      unfold idx; rw [if_pos (by omega), Int.toNat_natCast, List.length_map, if_pos l]
    have e2 : (ns.map V.int)[k]? = some (.int (ns.getD k 0)) := by
      rw [List.getElem?_map, List.getElem?_eq_getElem l, List.getD_eq_getElem?_getD, List.getElem?_eq_getElem l]; rfl
    simp only [getItem, e1, e2]
    exact q
  · rw [if_neg (by simpa using l)]
    refine w_nil (w_cons (w_ret (e_int ?_)))
    rw [List.getD_eq_getElem?_getD, List.getElem?_eq_none (by omega)] at q
    exact q

theorem law_core (ns : List Int) : wE (run P01 60 ("", "law") [.fz (ns.map .int)] []) (fun v _ => v = .bool true) (fun _ _ => False) := by
  refine w_run (n := 59) (d := f_law) rfl rfl (w_cons (w_asg (e_call (e_cons (e_var rfl (e_cons (e_int (e_nil ?_))))))))
  refine cell_at (k := 0) ?_
  generalize ns.getD 0 0 = x
  have fd : ∀ (b : Int) (hb : 0 < b), ∀ a : Int, 0 ≤ a.fmod b ∧ a.fmod b < b := fun b hb a => ⟨Int.fmod_nonneg_of_pos _ hb, Int.fmod_lt_of_pos _ hb⟩
  have back : ∀ (c : Int), 0 ≤ c → c < 2 ^ 28 → wS (exs P01 (run P01 59) (f_law.body.drop 4) [some (.fz (ns.map .int)), some (.int x), some (.int c), none, none, none, none, none] []) (fun _ h => V.none = V.bool true) (fun v _ => v = .bool true) (fun _ _ _ => False) := by
    intro c h0 h1
    obtain ⟨c, rfl⟩ := Int.eq_ofNat_of_zero_le h0
    refine wS_mono (law_back (n := 56) ?_ none none none none none) (fun _ _ f => f.elim) (fun _ _ f => f) (fun _ _ _ f => f)
    have := bits_lt (i := (c : Int)) (k := 28) (by rw [Int.natAbs_natCast]; exact_mod_cast h1)
    omega
  refine w_cons (w_asg (e_bin (e_bin (e_var rfl (e_int (b_fdiv (by decide) (e_int (b_mod (by decide) ?_))))))))
  have r1 := fd 71 (by decide) (x.fdiv 3)
  have r2 := fd 1000001 (by decide) (x.fdiv 3)
  have r3 := fd 20 (by decide) (x.fdiv 3)
  have r4 := fd 3 (by decide) (x.fdiv 60)
  refine w_cons (w_if (e_cmp (e_bin (e_var rfl (e_int (b_mod (by decide) (e_int (c_eq ⟨_, rfl, ?_⟩))))))))
  have step : ∀ (c : Int), 0 ≤ c → c < 2 ^ 28 → wS (exs P01 (run P01 59) (f_law.body.drop 3) [some (.fz (ns.map .int)), some (.int x), some (.int c), none, none, none, none, none] []) (fun _ h => V.none = V.bool true) (fun v _ => v = .bool true) (fun _ _ _ => False) := by
    intro c h0 h1
    show wS (exs P01 _ (_ :: _) _ _) _ _ _
    refine w_cons (w_if (e_cmp (e_bin (e_var rfl (e_int (b_mod (by decide) (e_int (c_eq ⟨_, rfl, ?_⟩))))))))
    by_cases t : x.fmod 3 = 2
    · rw [if_pos (by simpa using t)]
      refine w_cons (w_asg (e_bi (e_cons (e_int (e_cons (e_bin (e_bin (e_call (e_cons (e_bin (e_bin (e_var rfl (e_int (b_fdiv (by decide) (e_int (b_mod (by decide) (e_nil ?_)))))))))))))))))
      refine size_law (by omega) (by omega) (e_int (b_sub (e_bin (e_bin (e_var rfl (e_int (b_fdiv (by decide) (e_int (b_mod (by decide) (b_add (e_nil ?_)))))))))))
      obtain ⟨k, hk⟩ := Int.eq_ofNat_of_zero_le r3.1
      have pw : (2 : Nat) ^ k ≤ 2 ^ 20 := Nat.pow_le_pow_right (by decide) (by omega)
      have pp : 0 < (2 : Nat) ^ k := Nat.pow_pos (by decide)
      rw [hk, two_pow k]
      simp only [bfn]
      refine wE_ok (w_nil (back _ ?_ ?_))
      · split <;> omega
      · split <;> omega
    · rw [if_neg (by simpa using t)]
      exact w_nil (back c h0 h1)
  by_cases t : x.fmod 3 = 1
  · rw [if_pos (by simpa using t)]
    refine w_cons (w_asg (e_bin (e_bin (e_var rfl (e_int (b_fdiv (by decide) (e_bin (e_bin (e_int (e_int ?_))))))))))
    refine (show wE (R.ok (V.int 1000000) _) _ _ from wE_ok (e_int (b_add (b_mod (by decide) (w_nil ?_)))))
    exact step ((x.fdiv 3).fmod 1000001) (by omega) (by omega)
  · rw [if_neg (by simpa using t)]
    exact w_nil (step _ (by omega) (by omega))
theorem law01 (ns : List Int) (_ : ns.length ≤ 63) : ∃ H, run P01 60 ("", "law") [.fz (ns.map .int)] [] = .ok (.bool true) H := by
  have h := law_core ns
  cases e : run P01 60 ("", "law") [.fz (ns.map .int)] [] with
  | ok v H => rw [e] at h; exact ⟨H, by rw [show v = .bool true from h]⟩
  | exc x H => rw [e] at h; exact h.elim
  | bad => rw [e] at h; exact h.elim
end
end Mine
end

open PySem PySem.W PyProof.Rows
set_option Elab.async false
set_option maxRecDepth 100000
set_option maxHeartbeats 8000000
theorem PySem.Challenge.cw_uf040018_01_holds : PySem.Challenge.rw_uf040018_01.Holds := by
  w_on; o_law; k_head; (case hw => w_witness2)
  intro w s₀ s₁ mg mb G Y fa o pm cd doc dV kV ho hd hcd hD hmg hg args vals as hpre hlay hrd hwl hlo
  have KX := kIn_of Y
  clear hcd hd hD
  refine Ground.open G ?_
  intro T B D TE TW
  wrow_args hpre hlay hrd hwl hlo
  refine enter_call ?_
  refine codeAny_mono ?_ (fun _ _ g => GoodW.toG g)
  rename_i hL _ _ _ hI _ hc _
  refine Mine.law_top (P := Mine.P01) (fields := []) (cl := fun _ _ => none) KX T hmg (by kernel_rfl) (by kernel_rfl) (by kernel_rfl) (fun C D h => by cases h) hL hI (by omega) (by decide) (Mine.law01 _ (by omega)) fun s' k1 k2 k3 => ?_
  exact Mine.good_true k1 k2 hg k3 (raisesW_false (by wrow_none_raised)) (by wrow_post)
