import PyProof.Rows.All
import Wide.All
import OpenK.AllK
import Wide.FinOn
import KE.KStateDown
import Lean
import PyProof.ReprReads
import PyProof.P3Eq
import PyProof.EqLayable
import PyProof.RangeIter
import PySem.Syntax
import PySem.Names
import HandS.Comp
import HandS.Base
import HandS.Call
import HandS.List
import HandS.Exc
import HandS.Lambda
import HandS.Flow
import HandS.TupAny
import HandS.Wide
import HandS.Deep
import HandS.SetFor
import HandS.SortInts
import PyProof.ReprRoads
import HandS.Style
import HandS.FStr
import HandS.ExcOwn
import HandS.CallLocal
import HandS.Zip
import HandS.Iter
import PyProof.ExcBaseAll.ValueError
import HandS.Defaults
import HandS.Ends
import HandS.EndBits
import HandS.EndTab
import HandS.HeadWalk
import HandS.Head0
import HandS.Head1
import HandS.Head2
import HandS.HeadEnd
import HandS.HeadHook1
import HandS.HeadHook2
import HandS.HeadHook3
import HandS.HeadHook4
import PyProof.StrLawsRepr
import PyProof.FitsInt
import PySem.Challenge.RW_madeofprimes_k01_ratios
import HandS.Words
section
set_option Elab.async false
set_option linter.all false
set_option maxRecDepth 100000
/-! PD0: pure data, a small syntax, its evaluator by fuel. -/
namespace PD
open PySem
/-- data without addresses; fn: a def of the module; st: the law's stream -/
inductive D where
  | non | bl (b : Bool) | int (i : Int) | str (s : Str)
  | tup (ds : List D) | lst (ds : List D)
  | fn (x : Str) | st | frz (ds : List D)
  deriving Inhabited
mutual
def D.py : D → Option PyData
  | .non => some .none
  | .bl b => some (.bool b)
  | .int i => some (.int i)
  | .str s => some (.str s)
  | .tup ds => (D.pys ds).map .tuple
  | .lst ds => (D.pys ds).map .list
  | .fn _ => none
  | .st => none
  | .frz _ => none
def D.pys : List D → Option (List PyData)
  | [] => some []
  | d :: ds => match D.py d, D.pys ds with
    | some x, some xs => some (x :: xs)
    | _, _ => none
end
mutual
/-- no list within -/
def D.flat : D → Bool
  | .lst _ => false
  | .frz _ => false
  | .tup ds => D.flats ds
  | _ => true
def D.flats : List D → Bool
  | [] => true
  | d :: ds => D.flat d && D.flats ds
end
inductive Bop where | add | sub | mul | fdiv | mod | pow | shl | shr
  deriving DecidableEq, Repr
inductive Cop where | eq | ne | lt | le | gt | ge | isin | notin | isnon | notnon
  deriving DecidableEq, Repr
inductive Blt where | len | abs | min | max | sum | any | all | int | str | repr | tuple | list | sorted | sortedR | lenset | sortedset
  deriving DecidableEq, Repr
inductive Tgt where | v (i : Nat) | t (ts : List Tgt)
mutual
inductive E where
  | var (i : Nat) | con (d : D) | gv (x : Str)
  | bin (op : Bop) (a b : E) | neg (a : E) | not (a : E) | and (a b : E) | or (a b : E)
  | cmp (op : Cop) (a b : E) | chn (o p : Cop) (a b c : E) | ite (c a b : E)
  | tup (es : List E) | lst (es : List E) | tupS (es : List (Bool × E)) | lstS (es : List (Bool × E))
  | call (f : Str) (es : List E) | callv (i : Nat) (es : List E) | blt (b : Blt) (es : List E)
  | sub (a b : E) | slc (a : E) (lo hi : Option E) | rev (a : E)
  | comp (elt : E) (tg : Tgt) (it : It) (ifs : List E) (vs : List Nat)
  | comp2 (elt : E) (tg : Tgt) (it : It) (ifs : List E) (tg2 : Tgt) (it2 : It) (ifs2 : List E) (vs : List Nat)
  | told (e : E) | fstr (es : List E) | index (a b : E) | count (a b : E) | rngL (it : It)
inductive It where
  | e (a : E) | r1 (a : E) | r2 (a b : E) | r3 (a b c : E) | enum (a : E) | zip (a b : E)
end
inductive S where
  | asg (i : Nat) (e : E) | asgT (t : List Tgt) (e : E) | par (is : List Nat) (es : List E)
  | six (i : Nat) (ix e : E) | app (i : Nat) (e : E) | ext (i : Nat) (e : E) | pop (t : Tgt) (i : Nat)
  | ex (e : E) | ife (c : E) (a b : List S) | whl (c : E) (b : List S) | for_ (t : Tgt) (it : It) (b : List S)
  | ret (e : E) | retN | brk | pass | raise (c : Str) | mkst (i : Nat) (e : E)
  | tryE (r : Bool) (e : E) (c : Str) (h : List S)
inductive FnD where
  | user (np ns : Nat) (body : List S)
structure Pr where
  fns : List (Str × FnD)
  gl : List (Str × D)
  /-- the answer of _law_told to an error of a class -/
  told : List (Str × D)
  /-- sub classes: (class, class named in a clause) caught -/
  catches : List (Str × Str)
/-- the stream's numbers, how many were drawn -/
abbrev W := Option (List Int × Int)
inductive R (α : Type) where
  | ok (a : α) (w : W) | exc (c : Str) (w : W) | stk
def R.bind {α β : Type} : R α → (α → W → R β) → R β
  | .ok a w, f => f a w
  | .exc c w, _ => .exc c w
  | .stk, _ => .stk
/-- an error within is not told -/
def R.noexc {α : Type} : R α → R α
  | .exc _ _ => .stk
  | r => r
def R.opt {α : Type} (o : Option α) (w : W) : R α := match o with
  | some a => .ok a w
  | none => .stk
inductive Slot where
  | no | sh (d : D) | ow (ds : List D)
abbrev Env := List Slot
inductive Ctl where
  | nx | bk | rt (d : D)
structure Ev where
  e : E → Env → W → R D
  b : List S → Env → W → R (Env × Ctl)
/-! ### values -/
def szOk (n : Nat) : Bool := decide (n ≤ 16777216)
def truth : D → Option Bool
  | .non => some false
  | .bl b => some b
  | .int i => some (i != 0)
  | .str s => if szOk s.length = true then some (s.length != 0) else none
  | .tup ds => some (!ds.isEmpty)
  | .lst ds => some (!ds.isEmpty)
  | _ => none
def mulOk (i j : Int) : Bool := decide (i.natAbs.log2 + j.natAbs.log2 < 1000000)
def divOk (j : Int) : Bool := decide (j ≠ 0) && decide (j.natAbs.log2 < 9000)
def powOk (i j : Int) : Bool := decide (0 ≤ j) && decide (j ≤ 1000000) && decide (i.natAbs < 18446744073709551616)
def fdivI (i j : Int) : Int := if 0 < j then i / j else i.fdiv j
def fmodI (i j : Int) : Int := if 0 < j then i % j else i.fmod j
def guardO {α : Type} (b : Bool) (a : α) : Option α := if b = true then some a else none
def repD (ds : List D) (n : Int) : List D := (List.replicate n.toNat ds).flatten
def binD : Bop → D → D → Option D
  | .add, .int i, .int j => some (.int (i + j))
  | .add, .str s, .str t => guardO (szOk (s.length + t.length)) (.str (s ++ t))
  | .add, .lst a, .lst b => guardO (szOk (a.length + b.length)) (.lst (a ++ b))
  | .add, .tup a, .tup b => guardO (szOk (a.length + b.length)) (.tup (a ++ b))
  | .sub, .int i, .int j => some (.int (i - j))
  | .mul, .int i, .int j => guardO (mulOk i j) (.int (i * j))
  | .mul, .lst a, .int n => guardO (decide (-9223372036854775808 ≤ n) && decide (n < 9223372036854775808) && szOk (a.length * n.toNat)) (.lst (repD a n))
  | .fdiv, .int i, .int j => guardO (divOk j) (.int (fdivI i j))
  | .mod, .int i, .int j => guardO (decide (j ≠ 0)) (.int (fmodI i j))
  | .pow, .int i, .int j => guardO (powOk i j) (.int (i ^ j.toNat))
  | .shl, .int i, .int j => guardO (powOk i j) (.int (i * 2 ^ j.toNat))
  | .shr, .int i, .int j => guardO (decide (0 ≤ j)) (.int (i / 2 ^ j.toNat))
  | _, _, _ => none
def negD : D → Option D
  | .int i => some (.int (-i))
  | _ => none
def eqD : D → D → Option Bool
  | .int i, .int j => some (decide (i = j))
  | .bl i, .bl j => some (decide (i = j))
  | .str s, .str t => some (decide (s = t))
  | a, b => match D.py a, D.py b with
    | some x, some y => if (SeqAt.shaped x && SeqAt.shaped y) = true then some (PyData.eqv x y) else none
    | _, _ => none
/-- order: ints; tuples of ints -/
def ints? : List D → Option (List Int)
  | [] => some []
  | .int i :: ds => (ints? ds).map (i :: ·)
  | _ :: _ => none
def lexB : List Int → List Int → Bool
  | [], [] => false
  | [], _ :: _ => true
  | _ :: _, [] => false
  | x :: xs, y :: ys => if x = y then lexB xs ys else decide (x < y)
def ltD : D → D → Option Bool
  | .int i, .int j => some (decide (i < j))
  | .tup a, .tup b => match ints? a, ints? b with
    | some x, some y => some (lexB x y)
    | _, _ => none
  | _, _ => none
def flat1 : D → Bool
  | .non => true
  | .bl _ => true
  | .int _ => true
  | .str _ => true
  | _ => false
/-- x in y -/
def inD (x y : D) : Option Bool := match D.py x, y with
  | some d, .lst ds => (match D.pys ds with
    | some zs => if (SeqAt.shaped d && SeqAt.shaped (.list zs)) = true then some (zs.any fun z => PyData.eqv z d) else none
    | none => none)
  | some d, .tup ds => (match D.pys ds with
    | some zs => if (flat1 x && ds.all flat1) = true then some (zs.any fun z => PyData.eqv z d) else none
    | none => none)
  | _, _ => none
def items? : D → Option (List D)
  | .tup ds => some ds
  | .lst ds => some ds
  | _ => none
def isNonD : D → Bool
  | .non => true
  | _ => false
def cmpD : Cop → D → D → Option Bool
  | .eq, a, b => eqD a b
  | .ne, a, b => (eqD a b).map (!·)
  | .lt, a, b => ltD a b
  | .gt, .int i, .int j => some (decide (j < i))
  | .le, .int i, .int j => some (decide (i ≤ j))
  | .ge, .int i, .int j => some (decide (j ≤ i))
  | .isin, a, b => inD a b
  | .notin, a, b => (inD a b).map (!·)
  | .isnon, a, .non => some (isNonD a)
  | .notnon, a, .non => some (!isNonD a)
  | _, _, _ => none
def bools? : List D → Option (List Bool)
  | [] => some []
  | .bl b :: ds => (bools? ds).map (b :: ·)
  | _ :: _ => none
def maxI : Int → List Int → Int
  | m, [] => m
  | m, x :: xs => maxI (if x > m then x else m) xs
def minI : Int → List Int → Int
  | m, [] => m
  | m, x :: xs => minI (if x < m then x else m) xs
def reprD (d : D) : Option Str := match D.py d with
  | some x => if (SeqAt.shaped x && (PyData.showable x && szOk (PyData.shown x).length)) = true then some (PyData.shown x) else none
  | none => none
/-- sorted ints, the library's way is some rising order of the same: there is one alone -/
def insI (x : Int) : List Int → List Int
  | [] => [x]
  | y :: ys => if x ≤ y then x :: y :: ys else y :: insI x ys
def sortI : List Int → List Int
  | [] => []
  | x :: xs => insI x (sortI xs)
def bltD : Blt → List D → Option D
  | .len, [.lst ds] => guardO (szOk ds.length) (.int ds.length)
  | .len, [.tup ds] => guardO (szOk ds.length) (.int ds.length)
  | .len, [.str s] => guardO (szOk s.length) (.int s.length)
  | .abs, [.int i] => some (.int (if i < 0 then -i else i))
  | .max, [.int i, .int j] => some (.int (if j > i then j else i))
  | .min, [.int i, .int j] => some (.int (if j < i then j else i))
  | .max, [.lst ds] => match ints? ds with
    | some (x :: xs) => some (.int (maxI x xs))
    | _ => none
  | .min, [.lst ds] => match ints? ds with
    | some (x :: xs) => some (.int (minI x xs))
    | _ => none
  | .sum, [.lst ds] => (ints? ds).map fun xs => .int xs.sum
  | .any, [.lst ds] => (bools? ds).map fun xs => .bl (xs.any id)
  | .all, [.lst ds] => (bools? ds).map fun xs => .bl (xs.all id)
  | .int, [.int i] => some (.int i)
  | .int, [.bl b] => some (.int (if b then 1 else 0))
  | .str, [.int i] => guardO (decide (i.natAbs.log2 < 1920)) (.str (toString i))
  | .repr, [.lst ds] => (reprD (.lst ds)).map .str
  | .tuple, [.lst ds] => some (.tup ds)
  | .tuple, [.tup ds] => some (.tup ds)
  | .list, [.lst ds] => some (.lst ds)
  | .list, [.tup ds] => some (.lst ds)
  | .sorted, [.lst ds] => (ints? ds).map fun xs => .lst ((sortI xs).map .int)
  | _, _ => none
def seqIx (n : Nat) (i : Int) : Option Nat := if 0 ≤ i ∧ i < n then some i.toNat else if i < 0 ∧ -(n : Int) ≤ i then some (i + n).toNat else none
def subD : D → D → Option D
  | .lst ds, .int i => (seqIx ds.length i).bind fun k => ds[k]?
  | .tup ds, .int i => (seqIx ds.length i).bind fun k => ds[k]?
  | _, _ => none
/-- a slice's bound among n places (d where it is left out) -/
def cutIx (n d : Nat) : Option Int → Nat
  | none => d
  | some v => if v < 0 then (v + n).toNat else min v.toNat n
def cutL {α : Type} (xs : List α) (lo hi : Option Int) : List α := (xs.drop (cutIx xs.length 0 lo)).take (cutIx xs.length xs.length hi - cutIx xs.length 0 lo)
def slcD (a : D) (lo hi : Option Int) : Option D := match a with
  | .lst ds => some (.lst (cutL ds lo hi))
  | .frz ds => guardO (D.flats ds) (.lst (cutL ds lo hi))
  | .tup ds => some (.tup (cutL ds lo hi))
  | _ => none
def revD : D → Option D
  | .lst ds => some (.lst ds.reverse)
  | _ => none
def fpart : D → Option Str
  | .str s => some s
  | .int i => guardO (decide (i.natAbs.log2 < 1920)) (toString i)
  | _ => none
/-- the first place -/
def ixD (x y : D) : Option Nat := match D.py y, x with
  | some d, .lst ds => (match D.pys ds with
    | some zs => if (SeqAt.shaped d && SeqAt.shaped (.list zs)) = true then zs.findIdx? (fun z => PyData.eqv z d) else none
    | none => none)
  | _, _ => none
def cntD (x y : D) : Option Nat := match x, y with
  | .lst ds, .int k => (ints? ds).map fun ns => ns.count k
  | _, _ => none
/-- the numbers a, a + c, .. -/
def rngL (a c : Int) : Nat → List D
  | 0 => []
  | n + 1 => .int a :: rngL (a + c) c n
def in62 (a : Int) : Bool := decide (-4611686018427387904 ≤ a) && decide (a < 4611686018427387904)
def rngD (a b : Int) : Option (List D) := guardO (in62 a && in62 b) (rngL a 1 (b - a).toNat)
def rngD3 (a b c : Int) : Option (List D) := guardO (decide (c ≠ 0) && (decide (c.natAbs < 1073741824) && Builtin.Range.small a b c)) (rngL a c (Builtin.Range.rangeSize a b c).toNat)
def enumD : Int → List D → List D
  | _, [] => []
  | i, d :: ds => .tup [.int i, d] :: enumD (i + 1) ds
def zipD : List D → List D → List D
  | a :: as, b :: bs => .tup [a, b] :: zipD as bs
  | _, _ => []
/-! ### who holds what -/
/-- a plain name -/
def isVar : E → Bool
  | .var _ => true
  | _ => false
mutual
/-- the slots whose own list an expression's value may hold -/
def al : E → List Nat
  | .var i => [i]
  | .con _ | .gv _ | .neg _ | .not _ | .cmp .. | .chn .. | .fstr _ | .index .. | .count .. | .rngL _ => []
  | .sub a _ => if isVar a = true then [] else al a
  | .slc a _ _ => if isVar a = true then [] else al a
  | .rev a => if isVar a = true then [] else al a
  | .bin _ a b => (if isVar a = true then [] else al a) ++ (if isVar b = true then [] else al b)
  | .blt .tuple es => als es
  | .blt .list es => als es
  | .blt _ _ => []
  | .and a b => al a ++ al b
  | .or a b => al a ++ al b
  | .ite _ a b => al a ++ al b
  | .tup es => als es
  | .lst es => als es
  | .tupS es => alsS es
  | .lstS es => alsS es
  | .call _ es => als es
  | .callv _ es => als es
  | .comp elt _ it _ _ => al elt ++ alI it
  | .comp2 elt _ it _ _ it2 _ _ => al elt ++ (alI it ++ alI it2)
  | .told e => al e
def als : List E → List Nat
  | [] => []
  | e :: es => al e ++ als es
def alsS : List (Bool × E) → List Nat
  | [] => []
  | (s, e) :: es => (if (s && isVar e) = true then [] else al e) ++ alsS es
/-- those that a walked thing's items may hold -/
def alI : It → List Nat
  | .e a => if isVar a = true then [] else al a
  | .enum a => if isVar a = true then [] else al a
  | .zip a b => (if isVar a = true then [] else al a) ++ (if isVar b = true then [] else al b)
  | _ => []
end
def alE (e : E) : List Nat := if isVar e = true then [] else al e
/-- .. itself, too -/
def alW : It → List Nat
  | .e a => al a
  | .enum a => al a
  | .zip a b => al a ++ al b
  | _ => []
/-- a new list -/
def fr : E → Bool
  | .lst _ | .lstS _ | .bin .. | .slc .. | .rev _ | .comp .. | .comp2 .. | .rngL _ => true
  | .blt .list _ | .blt .sorted _ | .blt .sortedR _ | .blt .sortedset _ => true
  | .ite _ a b => fr a && fr b
  | _ => false
def isOw (env : Env) (i : Nat) : Bool := match env[i]? with
  | some (.ow _) => true
  | _ => false
def dropAt (env : Env) (i : Nat) : Env := match env[i]? with
  | some (.ow ds) => env.set i (.sh (.lst ds))
  | _ => env
def drops (l : List Nat) (env : Env) : Env := l.foldl dropAt env
def dropD (l : List Nat) (d : D) (env : Env) : Env := if (l.any (isOw env) && !d.flat) = true then drops l env else env
def putE (i : Nat) (e : E) (d : D) (env : Env) : Env := match fr e, d with
  | true, .lst ds => (dropD (al e) (.lst ds) env).set i (.ow ds)
  | _, d => (dropD (al e) d env).set i (.sh d)
def rd (env : Env) (i : Nat) : Option D := match env[i]? with
  | some (.sh d) => some d
  | some (.ow ds) => some (.lst ds)
  | _ => none
mutual
def bindT : Tgt → D → Env → Option Env
  | .v i, d, env => some (env.set i (.sh d))
  | .t ts, .tup ds, env => bindTs ts ds env
  | .t _, _, _ => none
def bindTs : List Tgt → List D → Env → Option Env
  | [], [], env => some env
  | t :: ts, d :: ds, env => (bindT t d env).bind fun env => bindTs ts ds env
  | _, _, _ => none
end
mutual
def tgI : Tgt → List Nat
  | .v i => [i]
  | .t ts => tgIs ts
def tgIs : List Tgt → List Nat
  | [] => []
  | t :: ts => tgI t ++ tgIs ts
end
/-- what the walker asks of the target -/
def itTg : It → Tgt → Bool
  | .enum _, .v _ => false
  | .zip _ _, .v _ => false
  | _, _ => true
def wipes (vs : List Nat) (env : Env) : Env := vs.foldl (fun env i => env.set i .no) env
/-! ### the evaluator's step -/
/-- a call of a def: u runs its body -/
def callF (P : Pr) (u : Ev) (f : Str) (ds : List D) (w : W) : R D := match P.fns.lookup f with
  | some (.user np ns body) => if ds.length = np then match u.b body (ds.map .sh ++ List.replicate (ns - np) .no) w with
      | .ok (_, .rt d) w => .ok d w
      | .ok (_, .nx) w => .ok .non w
      | .ok (_, .bk) _ => .stk
      | .exc c w => .exc c w
      | .stk => .stk
    else .stk
  | none => .stk
section
variable (P : Pr) (v : Ev) (cf : Str → List D → W → R D)
def evs : List E → Env → W → R (List D)
  | [], _, w => .ok [] w
  | e :: es, env, w => (v.e e env w).bind fun d w => (evs es env w).bind fun ds w => .ok (d :: ds) w
/-- the parts of a text, one behind the other -/
def evF : List E → Str → Env → W → R Str
  | [], out, _, w => .ok out w
  | e :: es, out, env, w => (v.e e env w).bind fun d w => match fpart d with
    | some s => if szOk (out.length + s.length) = true then evF es (out ++ s) env w else .stk
    | none => .stk
def evsS : List (Bool × E) → Env → W → R (List D)
  | [], _, w => .ok [] w
  | (s, e) :: es, env, w => (v.e e env w).bind fun d w => (if s = true then R.opt (items? d) w else .ok [d] w).bind fun xs w => (evsS es env w).bind fun ds w => .ok (xs ++ ds) w
def evOpt : Option E → Env → W → R (Option Int)
  | none, _, w => .ok none w
  | some e, env, w => (v.e e env w).bind fun d w => match d with
    | .int i => .ok (some i) w
    | _ => .stk
/-- the stream: its numbers, its count -/
def subW (x y : D) (w : W) : R D := match x, y, w with
  | .st, .int k, some (ns, c) => if k = 0 then .ok (.lst (ns.map .int)) w else if k = 1 then .ok (.int c) w else .stk
  | .st, _, _ => .stk
  | x, y, w => R.opt (subD x y) w
def evIt : It → Env → W → R (List D)
  | .e a, env, w => (v.e a env w).bind fun d w => R.opt (items? d) w
  | .r1 a, env, w => (v.e a env w).bind fun x w => match x with
    | .int n => R.opt (rngD 0 n) w
    | _ => .stk
  | .r2 a b, env, w => (v.e a env w).bind fun x w => (v.e b env w).bind fun y w => match x, y with
    | .int m, .int n => R.opt (rngD m n) w
    | _, _ => .stk
  | .r3 a b c, env, w => (v.e a env w).bind fun x w => (v.e b env w).bind fun y w => (v.e c env w).bind fun z w => match x, y, z with
    | .int m, .int n, .int k => R.opt (rngD3 m n k) w
    | _, _, _ => .stk
  | .enum a, env, w => (v.e a env w).bind fun d w => match d with
    | .lst ds => .ok (enumD 0 ds) w
    | _ => .stk
  | .zip a b, env, w => (v.e a env w).bind fun x w => (v.e b env w).bind fun y w => match x, y with
    | .lst xs, .lst ys => .ok (zipD xs ys) w
    | .tup xs, .tup ys => .ok (zipD xs ys) w
    | _, _ => .stk
def tests : List E → Env → W → R Bool
  | [], _, w => .ok true w
  | c :: cs, env, w => (v.e c env w).bind fun d w => match truth d with
    | some true => tests cs env w
    | some false => .ok false w
    | none => .stk
def compL (elt : E) (tg : Tgt) (ifs : List E) : List D → Env → W → R (List D)
  | [], _, w => .ok [] w
  | d :: ds, env, w => match bindT tg d env with
    | none => .stk
    | some env1 => (tests v ifs env1 w).noexc.bind fun b w => if b = true then (v.e elt env1 w).noexc.bind fun x w => (compL elt tg ifs ds env w).bind fun xs w => .ok (x :: xs) w
      else compL elt tg ifs ds env w
def comp2L (elt : E) (tg : Tgt) (ifs : List E) (tg2 : Tgt) (it2 : It) (ifs2 : List E) : List D → Env → W → R (List D)
  | [], _, w => .ok [] w
  | d :: ds, env, w => match bindT tg d env with
    | none => .stk
    | some env1 => (tests v ifs env1 w).noexc.bind fun b w => if b = true then (evIt v it2 env1 w).noexc.bind fun js w => (compL v elt tg2 ifs2 js (drops (alI it2) (wipes (tgI tg2) env1)) w).bind fun xs w =>
        (comp2L elt tg ifs tg2 it2 ifs2 ds env w).bind fun ys w => .ok (xs ++ ys) w
      else comp2L elt tg ifs tg2 it2 ifs2 ds env w
def exprStep : E → Env → W → R D
  | .var i, env, w => R.opt (rd env i) w
  | .con d, _, w => .ok d w
  | .gv x, _, w => R.opt (P.gl.lookup x) w
  | .bin op a b, env, w => (v.e a env w).bind fun x w => (v.e b env w).bind fun y w => R.opt (binD op x y) w
  | .neg a, env, w => (v.e a env w).bind fun x w => R.opt (negD x) w
  | .not a, env, w => (v.e a env w).bind fun x w => R.opt ((truth x).map fun b => .bl (!b)) w
  | .and a b, env, w => (v.e a env w).bind fun x w => match truth x with
    | some true => v.e b env w
    | some false => .ok x w
    | none => .stk
  | .or a b, env, w => (v.e a env w).bind fun x w => match truth x with
    | some true => .ok x w
    | some false => v.e b env w
    | none => .stk
  | .cmp op a b, env, w => (v.e a env w).bind fun x w => (v.e b env w).bind fun y w => R.opt ((cmpD op x y).map .bl) w
  | .chn o p a b c, env, w => (v.e a env w).bind fun x w => (v.e b env w).bind fun y w => match cmpD o x y with
    | some true => (v.e c env w).bind fun z w => R.opt ((cmpD p y z).map .bl) w
    | some false => .ok (.bl false) w
    | none => .stk
  | .ite c a b, env, w => (v.e c env w).bind fun x w => match truth x with
    | some true => v.e a env w
    | some false => v.e b env w
    | none => .stk
  | .tup es, env, w => (evs v es env w).bind fun ds w => if szOk ds.length = true then .ok (.tup ds) w else .stk
  | .lst es, env, w => (evs v es env w).bind fun ds w => if szOk ds.length = true then .ok (.lst ds) w else .stk
  | .tupS es, env, w => (evsS v es env w).bind fun ds w => if szOk ds.length = true then .ok (.tup ds) w else .stk
  | .lstS es, env, w => (evsS v es env w).bind fun ds w => if szOk ds.length = true then .ok (.lst ds) w else .stk
  | .call f es, env, w => (evs v es env w).bind fun ds w => cf f ds w
  | .callv i es, env, w => match rd env i with
    | some (.fn f) => if (P.fns.lookup f).isSome = true then (evs v es env w).bind fun ds w => cf f ds w else .stk
    | _ => .stk
  | .blt b es, env, w => (evs v es env w).bind fun ds w => R.opt (bltD b ds) w
  | .sub a b, env, w => (v.e a env w).bind fun x w => (v.e b env w).bind fun y w => subW x y w
  | .slc a lo hi, env, w => (v.e a env w).bind fun x w => (evOpt v lo env w).bind fun l w => (evOpt v hi env w).bind fun h w => R.opt (slcD x l h) w
  | .rev a, env, w => (v.e a env w).bind fun x w => R.opt (revD x) w
  | .comp elt tg it ifs vs, env, w => (evIt v it env w).bind fun ds w => (compL v elt tg ifs ds (drops (alI it) (wipes vs env)) w).bind fun xs w => if szOk xs.length = true then .ok (.lst xs) w else .stk
  | .comp2 elt tg it ifs tg2 it2 ifs2 vs, env, w => (evIt v it env w).bind fun ds w => (comp2L v elt tg ifs tg2 it2 ifs2 ds (drops (alI it) (wipes vs env)) w).bind fun xs w => if szOk xs.length = true then .ok (.lst xs) w else .stk
  | .told e, env, w => match v.e e env w with
    | .ok d w => .ok (.tup [.str "told", d]) w
    | .exc c w => R.opt (P.told.lookup c) w
    | .stk => .stk
  | .fstr es, env, w => (evF v es Str.empty env w).bind fun s w => .ok (.str s) w
  | .index a b, env, w => (v.e a env w).bind fun x w => (v.e b env w).bind fun y w => R.opt ((ixD x y).map fun n => .int n) w
  | .count a b, env, w => (v.e a env w).bind fun x w => (v.e b env w).bind fun y w => R.opt ((cntD x y).map fun n => .int n) w
  | .rngL it, env, w => (evIt v it env w).bind fun ds w => if szOk ds.length = true then .ok (.lst ds) w else .stk
def forL (t : Tgt) (b : List S) : List D → Env → W → R (Env × Ctl)
  | [], env, w => .ok (env, .nx) w
  | d :: ds, env, w => match bindT t d env with
    | none => .stk
    | some env => (v.b b env w).bind fun p w => match p with
      | (env, .nx) => forL t b ds env w
      | (env, .bk) => .ok (env, .nx) w
      | (env, .rt d) => .ok (env, .rt d) w
def parE : List Nat → List D → Env → Option Env
  | [], [], env => some env
  | i :: is, d :: ds, env => parE is ds (env.set i (.sh d))
  | _, _, _ => none
/-- each name by its own expression -/
def parP (all : List E) : List Nat → List E → List D → Env → Option Env
  | [], [], [], env => some env
  | i :: is, e :: es, d :: ds, env => parP all is es ds (match fr e, d with
    | true, .lst xs => env.set i (.ow xs)
    | _, d => env.set i (.sh d))
  | _, _, _, _ => none
def iso : List D → Bool
  | [] => true
  | .int _ :: ds => iso ds
  | _ :: _ => false
def stmtStep : S → Env → W → R (Env × Ctl)
  | .asg i e, env, w => (v.e e env w).bind fun d w => .ok (putE i e d env, .nx) w
  | .asgT ts e, env, w => (v.e e env w).bind fun d w => match d with
    | .tup ds => (match bindTs ts ds (dropD (al e) d env) with
      | some env => .ok (env, .nx) w
      | none => .stk)
    | _ => .stk
  | .par is es, env, w => (evs v es env w).bind fun ds w => match parP es is es ds (dropD (als es) (.tup ds) env) with
    | some env => .ok (env, .nx) w
    | none => .stk
  | .six i ix e, env, w => (v.e e env w).bind fun d w => match env[i]? with
    | some (.ow ds) => (v.e ix env w).bind fun k w => (match k with
      | .int k => (match seqIx ds.length k with
        | some k => if (al e).contains i = true then .stk else .ok ((dropD (al e) d env).set i (.ow (ds.set k d)), .nx) w
        | none => .stk)
      | _ => .stk)
    | some (.sh .st) => (v.e ix env w).bind fun k w => (match k, d, w with
      | .int k, .int c, some (ns, _) => if k = 1 then .ok (env, .nx) (some (ns, c)) else .stk
      | _, _, _ => .stk)
    | _ => .stk
  | .app i e, env, w => match env[i]? with
    | some (.ow ds) => (v.e e env w).bind fun d w => if ((al e).contains i || !decide (ds.length < 16777216)) = true then .stk else .ok ((dropD (al e) d env).set i (.ow (ds ++ [d])), .nx) w
    | _ => .stk
  | .ext i e, env, w => match env[i]? with
    | some (.ow ds) => (v.e e env w).bind fun d w => (match d with
      | .lst xs => if ((al e).contains i || !szOk (ds.length + xs.length)) = true then .stk else .ok ((dropD (al e) d env).set i (.ow (ds ++ xs)), .nx) w
      | _ => .stk)
    | _ => .stk
  | .pop t i, env, w => match env[i]? with
    | some (.ow ds) => (match ds.getLast? with
      | some d => (match bindT t d (env.set i (.ow ds.dropLast)) with
        | some env => .ok (env, .nx) w
        | none => .stk)
      | none => .stk)
    | _ => .stk
  | .ex e, env, w => (v.e e env w).bind fun _ w => .ok (env, .nx) w
  | .ife c a b, env, w => (v.e c env w).bind fun d w => match truth d with
    | some true => v.b a env w
    | some false => v.b b env w
    | none => .stk
  | .whl c b, env, w => (v.e c env w).bind fun d w => match truth d with
    | some true => (v.b b env w).bind fun p w => (match p with
      | (env, .nx) => v.b [.whl c b] env w
      | (env, .bk) => .ok (env, .nx) w
      | (env, .rt d) => .ok (env, .rt d) w)
    | some false => .ok (env, .nx) w
    | none => .stk
  | .for_ t it b, env, w => (evIt v it env w).bind fun ds w => forL v t b ds (drops (alW it) env) w
  | .ret e, env, w => (v.e e env w).bind fun d w => .ok (env, .rt d) w
  | .retN, env, w => .ok (env, .rt .non) w
  | .brk, env, w => .ok (env, .bk) w
  | .pass, env, w => .ok (env, .nx) w
  | .raise c, _, w => .exc c w
  | .mkst _ _, _, _ => .stk
  | .tryE r e c h, env, w => match v.e e env w with
    | .ok d w => .ok (env, if r = true then .rt d else .nx) w
    | .exc x w => if P.catches.contains (x, c) = true then v.b h env w else .exc x w
    | .stk => .stk
def blockStep : List S → Env → W → R (Env × Ctl)
  | [], env, w => .ok (env, .nx) w
  | s :: ss, env, w => (stmtStep P v s env w).bind fun p w => match p with
    | (env, .nx) => blockStep ss env w
    | (env, c) => .ok (env, c) w
end
def bot : Ev := ⟨fun _ _ _ => .stk, fun _ _ _ => .stk⟩
def evN (P : Pr) : Nat → Nat → Ev
  | 0, _ => bot
  | n + 1, d => ⟨fun e env w => exprStep P (evN P n d) (callF P (match d with | 0 => bot | d + 1 => evN P n d)) e env w, fun b env w => blockStep P (evN P n d) b env w⟩
/-- the law: its first row makes the stream -/
def lawN (P : Pr) (n d : Nat) (ns i : Nat) (e : E) (rest : List S) (script : List Int) : R (Env × Ctl) :=
  match (evN P n d).e e (.sh (.frz (script.map .int)) :: List.replicate (ns - 1) .no) none with
  | .ok (.lst xs) none => (match ints? xs with
    | some xs => (evN P n d).b rest ((.sh (.frz (script.map .int)) :: List.replicate (ns - 1) .no : Env).set i (.sh .st)) (some (xs, 0))
    | none => .stk)
  | _ => .stk
/-- a def's value: fuel n, d calls deep -/
def callN (P : Pr) (n d : Nat) (f : Str) (ds : List D) (w : W) : R D := callF P (evN P n d) f ds w
end PD
end
section
set_option Elab.async false
set_option linter.all false
set_option maxRecDepth 100000
/-! PDC: from the text's own terms to the small syntax. -/
namespace PD
open PySem
structure Cm where
  fns : List Str
  gls : List Str
  excs : List Str
  told : Bool
def okN (x : Str) : Bool := !(x == ("__debug__" : Str)) && (!(x == ("__classdict__" : Str)) && !(x == ("__name__" : Str)))
def visB (sc : Scope) (x : Str) : Bool := match sc.names.lookup x with
  | some .local => true
  | some .cell => true
  | some .free => true
  | _ => false
def locB (sc : Scope) (x : Str) : Bool := match sc.names.lookup x with
  | some .local => true
  | some .cell => true
  | _ => false
def loc1B (sc : Scope) (x : Str) : Bool := match sc.names.lookup x with
  | some .local => true
  | _ => false
def glbB (sc : Scope) (x : Str) : Bool := match sc.names.lookup x with
  | some .globalImplicit => true
  | _ => false
def ixOf (x : Str) : List Str → Nat → Option Nat
  | [], _ => none
  | y :: ys, n => if y = x then some n else ixOf x ys (n + 1)
def slotV (N : List Str) (sc : Scope) (x : Str) : Option Nat := if (visB sc x && okN x) = true then ixOf x N 0 else none
def slotL (N : List Str) (sc : Scope) (x : Str) : Option Nat := if locB sc x = true then ixOf x N 0 else none
def slotL1 (N : List Str) (sc : Scope) (x : Str) : Option Nat := if loc1B sc x = true then ixOf x N 0 else none
def bopOf : Operator → Option Bop
  | .Add => some .add
  | .Sub => some .sub
  | .Mult => some .mul
  | .FloorDiv => some .fdiv
  | .Mod => some .mod
  | .Pow => some .pow
  | .LShift => some .shl
  | .RShift => some .shr
  | _ => none
def copOf : CmpOp → Option Cop
  | .Eq => some .eq
  | .NotEq => some .ne
  | .Lt => some .lt
  | .LtE => some .le
  | .Gt => some .gt
  | .GtE => some .ge
  | .In => some .isin
  | .NotIn => some .notin
  | .Is => some .isnon
  | .IsNot => some .notnon
def bltOf (x : Str) : Option Blt :=
  if x = ("len" : Str) then some .len else if x = ("abs" : Str) then some .abs else if x = ("min" : Str) then some .min
  else if x = ("max" : Str) then some .max else if x = ("sum" : Str) then some .sum else if x = ("any" : Str) then some .any
  else if x = ("all" : Str) then some .all else if x = ("int" : Str) then some .int else if x = ("str" : Str) then some .str
  else if x = ("repr" : Str) then some .repr else if x = ("tuple" : Str) then some .tuple else if x = ("list" : Str) then some .list
  else if x = ("sorted" : Str) then some .sorted else none
def mapO {α β : Type} (f : α → Option β) : List α → Option (List β)
  | [] => some []
  | a :: as => match f a, mapO f as with
    | some b, some bs => some (b :: bs)
    | _, _ => none
def conOf : Const → Option D
  | .none => some .non
  | .bool b => some (.bl b)
  | .int i => some (.int i)
  | .str s => some (.str s)
  | _ => none
def starF (f : Expr → Option E) : Expr → Option (Bool × E)
  | .Starred e _ => (f e).map fun x => (true, x)
  | e => (f e).map fun x => (false, x)
def isStar : Expr → Bool
  | .Starred _ _ => true
  | _ => false
def cmpIt (f : Expr → Option E) (sc : Scope) (e : Expr) : Option It := match e with
  | .Call (.Name x p) args [] pos => match glbB sc x, args with
    | true, [a] => if x = ("range" : Str) then (f a).map .r1 else if x = ("enumerate" : Str) then (f a).map .enum else (f e).map .e
    | true, [a, b] => if x = ("range" : Str) then (match f a, f b with | some a, some b => some (.r2 a b) | _, _ => none)
      else if x = ("zip" : Str) then (match f a, f b with | some a, some b => some (.zip a b) | _, _ => none) else (f e).map .e
    | true, [a, b, c] => if x = ("range" : Str) then (match f a, f b, f c with | some a, some b, some c => some (.r3 a b c) | _, _, _ => none) else (f e).map .e
    | _, _ => (f e).map .e
  | e => (f e).map .e
def cmpT (N : List Str) (sc : Scope) : Nat → Expr → Option Tgt
  | 0, _ => none
  | m + 1, .Name x _ => (slotL N sc x).map .v
  | m + 1, .Tuple es _ _ => (mapO (cmpT N sc m) es).map .t
  | _ + 1, _ => none
def ownOf (N : List Str) (scope : Scope) : List (Str × Nat) := scope.names.filterMap fun (x, k) => match k with
  | .local => (ixOf x N 0).map fun i => (x, i)
  | .cell => (ixOf x N 0).map fun i => (x, i)
  | _ => none
def optF (f : Expr → Option E) : Option Expr → Option (Option E)
  | none => some none
  | some e => (f e).map some
def fpF (f : Expr → Option E) : Expr → Option E
  | .Constant (.str s) _ _ => some (.con (.str s))
  | .FormattedValue e c none _ => if c = -1 then f e else none
  | _ => none
def isNone : Expr → Bool
  | .Constant .none _ _ => true
  | _ => false
def isM1 : Expr → Bool
  | .UnaryOp .USub (.Constant (.int i) _ _) _ => decide (i = 1)
  | _ => false
section
variable (C : Cm) (N : List Str)
def cmpCall (f : Expr → Option E) (sc : Scope) (x : Str) (args : List Expr) : Option E :=
  if x = ("_law_told" : Str) then (match args with
    | [.Lambda params body scope _] => if (glbB sc x && C.told) = true then none else none
    | _ => none)
  else match visB sc x with
    | true => (match slotV N sc x, mapO f args with
      | some i, some (e :: es) => some (.callv i (e :: es))
      | _, _ => none)
    | false => if glbB sc x = true then (if (C.fns.contains x && okN x) = true then (mapO f args).map (.call x)
        else match bltOf x with
          | some b => (mapO f args).map (.blt b)
          | none => none) else none
def cmpE : Nat → Scope → Expr → Option E
  | 0, _, _ => none
  | m + 1, sc, .Name x _ => match visB sc x with
    | true => (slotV N sc x).map .var
    | false => if (glbB sc x && (C.gls.contains x && okN x)) = true then some (.gv x) else none
  | m + 1, _, .Constant c _ _ => (conOf c).map .con
  | m + 1, sc, .BinOp a op b _ => match bopOf op, cmpE m sc a, cmpE m sc b with
    | some o, some a, some b => some (.bin o a b)
    | _, _, _ => none
  | m + 1, sc, .UnaryOp op a _ => match op, cmpE m sc a with
    | .USub, some a => some (.neg a)
    | .Not, some a => some (.not a)
    | _, _ => none
  | m + 1, sc, .BoolOp op vs pos => match vs with
    | [] => none
    | [a] => cmpE m sc a
    | a :: b :: r => match cmpE m sc a, cmpE m sc (.BoolOp op (b :: r) pos) with
      | some x, some y => some (match op with | .And => .and x y | .Or => .or x y)
      | _, _ => none
  | m + 1, sc, .Compare a ops bs _ => match ops, bs with
    | [o], [b] => (match copOf o, cmpE m sc a, cmpE m sc b with
      | some o', some x, some y => if ((o == .Is || o == .IsNot) && !isNone b) = true then none else some (.cmp o' x y)
      | _, _, _ => none)
    | [o, p], [b, c] => (match copOf o, copOf p, cmpE m sc a, cmpE m sc b, cmpE m sc c with
      | some o', some p', some x, some y, some z => if (o == .Is || (o == .IsNot || (p == .Is || p == .IsNot))) = true then none else some (.chn o' p' x y z)
      | _, _, _, _, _ => none)
    | _, _ => none
  | m + 1, sc, .IfExp c a b _ => match cmpE m sc c, cmpE m sc a, cmpE m sc b with
    | some c, some a, some b => some (.ite c a b)
    | _, _, _ => none
  | m + 1, sc, .Tuple es _ _ => if es.any isStar = true then none else (mapO (cmpE m sc) es).map .tup
  | m + 1, sc, .List es _ => if es.any isStar = true then none else (mapO (cmpE m sc) es).map .lst
  | m + 1, sc, .Call f args kws _ => match f, kws with
    | .Name x _, [] => (match args with
      | [.Lambda params body scope _] => if (decide (x = ("_law_told" : Str)) && (glbB sc x && C.told)) = true then none else none
      | args => cmpCall C N (cmpE m sc) sc x args)
    | _, _ => none
  | m + 1, sc, .Subscript a s _ => match s with
    | .Slice lo hi none _ => (match cmpE m sc a, optF (cmpE m sc) lo, optF (cmpE m sc) hi with
      | some a, some l, some h => some (.slc a l h)
      | _, _, _ => none)
    | .Slice none none (some st) _ => if isM1 st = true then (cmpE m sc a).map .rev else none
    | .Slice _ _ _ _ => none
    | s => (match cmpE m sc a, cmpE m sc s with
      | some a, some s => some (.sub a s)
      | _, _ => none)
  | m + 1, sc, .ListComp elt gens scope _ => if L2.blkC N sc scope (ownOf N scope) = true then (match gens with
    | [⟨tg, it, ifs, 0⟩] => (match cmpIt (cmpE m sc) sc it, cmpT N scope 5 tg, mapO (cmpE m (L2.relS scope sc)) ifs, cmpE m (L2.relS scope sc) elt with
      | some it, some tg, some ifs, some elt => if (itTg it tg && (decide (ifs.length ≤ 1) && (tgI tg).all fun i => ((ownOf N scope).map (·.2)).contains i)) = true then some (.comp elt tg it ifs ((ownOf N scope).map (·.2))) else none
      | _, _, _, _ => none)
    | _ => none) else none
  | m + 1, sc, .JoinedStr vs _ => match vs with
    | a :: b :: r => (mapO (fpF (cmpE m sc)) (a :: b :: r)).map .fstr
    | _ => none
  | _ + 1, _, _ => none
end
end PD
end
section
set_option Elab.async false
set_option linter.all false
set_option maxRecDepth 100000
/-! PDS: statements, defs; how they are shown. -/
namespace PD
open PySem
section
variable (C : Cm) (N : List Str)
def namesS (sc : Scope) : List Expr → Option (List Nat)
  | [] => some []
  | .Name x _ :: r => match slotL1 N sc x, namesS sc r with
    | some i, some is => some (i :: is)
    | _, _ => none
  | _ :: _ => none
/-- x.pop() of a name of the def -/
def popOf (sc : Scope) : Expr → Option Nat
  | .Call (.Attribute (.Name x _) m _) [] [] _ => if m = ("pop" : Str) then slotV N sc x else none
  | _ => none
def isPop : Expr → Bool
  | .Call (.Attribute _ _ _) [] [] _ => true
  | _ => false
def nodupB : List Nat → Bool
  | [] => true
  | i :: is => !is.contains i && nodupB is
def stOf (f : Expr → Option E) (x : Str) : Expr → Option E
  | .List [e, .Constant (.int z) _ _] _ => if x = ("state" : Str) ∧ z = 0 then f e else none
  | _ => none
def lineN (l : Nat) : Expr → Bool
  | .Name _ p => p.line == l
  | _ => false
def line0 : List Expr → Nat
  | .Name _ p :: _ => p.line
  | _ => 0
/-- stored from the right -/
def parB (ts es : List Expr) : Bool := (ts.length == 2 || ts.length == 3) && (decide (es.length = ts.length) && (ts.all (lineN (line0 ts)) && (!es.any isStar && (!es.all (foldedForSure 8) && !es.all (constantsAlone 8)))))
def swNoneB (ts es : List Expr) : Bool := !(ts.length == 2 || ts.length == 3) || es.all (foldedForSure 8)
def cmpAsg (f : Expr → Option E) (sc : Scope) (tg e : Expr) : Option S := match tg with
  | .Name x _ => (match slotL N sc x with
    | none => none
    | some i => match stOf f x e with
      | some e => some (.mkst i e)
      | none => (f e).map (.asg i))
  | .Tuple ts k p => (match e with
    | .Tuple es k2 p2 => if parB ts es = true then (match namesS N sc ts, mapO f es with
        | some is, some es => if nodupB is = true then some (.par is es) else none
        | _, _ => none)
      else if swNoneB ts es = true then (match mapO (cmpT N sc 5) ts, f (.Tuple es k2 p2) with
        | some ts, some e => some (.asgT ts e)
        | _, _ => none) else none
    | e => (match mapO (cmpT N sc 5) ts, f e with
      | some ts, some e => some (.asgT ts e)
      | _, _ => none))
  | .Subscript (.Name x _) ix _ => (match ix with
    | .Slice _ _ _ _ => none
    | ix => (match slotV N sc x, f ix, f e with
      | some i, some ix, some e => some (.six i ix e)
      | _, _, _ => none))
  | _ => none
def cmpEx (f : Expr → Option E) (sc : Scope) : Expr → Option S
  | .Constant (.str _) _ _ => some .pass
  | .Call (.Attribute (.Name x p) m q) [a] [] pos => (match slotV N sc x, f a with
    | some i, some e => if (!isStar a && (q.endLine == pos.line)) = true then (if m = ("append" : Str) then some (.app i e) else if m = ("extend" : Str) then some (.ext i e) else none) else none
    | _, _ => none)
  | .Call f' as ks p => (f (.Call f' as ks p)).map .ex
  | _ => none
def cmpS : Nat → Scope → Stmt → Option S
  | 0, _, _ => none
  | m + 1, sc, .Assign tgs e _ => match tgs with
    | [tg] => cmpAsg N (cmpE C N 60 sc) sc tg e
    | _ => none
  | m + 1, sc, .Expr e _ => cmpEx N (cmpE C N 60 sc) sc e
  | m + 1, sc, .If c a b _ => match cmpE C N 60 sc c, mapO (cmpS m sc) a, mapO (cmpS m sc) b with
    | some c, some a, some b => some (.ife c a b)
    | _, _, _ => none
  | m + 1, sc, .While c a b _ => match b, cmpE C N 60 sc c, mapO (cmpS m sc) a with
    | [], some c, some a => some (.whl c a)
    | _, _, _ => none
  | m + 1, sc, .For tg it a b _ => match b, cmpT N sc 5 tg, cmpIt (cmpE C N 60 sc) sc it, mapO (cmpS m sc) a with
    | [], some tg, some it, some a => if itTg it tg = true then some (.for_ tg it a) else none
    | _, _, _, _ => none
  | _ + 1, sc, .Return v _ => match v with
    | none => some .retN
    | some e => (cmpE C N 60 sc e).map .ret
  | _ + 1, _, .Pass _ => some .pass
  | _ + 1, _, .Break _ => some .brk
  | _ + 1, sc, .Raise e c _ => match e, c with
    | some (.Call (.Name x _) [.Constant (.str _) _ _] [] _), none => if (glbB sc x && (okN x && C.excs.contains x)) = true then some (.raise x) else none
    | _, _ => none
  | _ + 1, _, _ => none
def cmpB (sc : Scope) (b : List Stmt) : Option (List S) := mapO (cmpS C N 40 sc) b
end
/-- a def: its names, its parameters -/
def fnScB (N ps : List Str) (sc : Scope) : Bool :=
  (match sc.kind with | .function => true | _ => false) && (!sc.isCoroutine && (!sc.isGenerator && (decide N.Nodup && (decide (N.take ps.length = ps) && ((ps.all fun x => locB sc x) && sc.names.all fun y => match y.2 with | .free => false | _ => true)))))
def argsB (ps : List Str) (a : Arguments) : Bool := a.posonlyargs.isEmpty && (a.vararg.isNone && (a.kwonlyargs.isEmpty && (a.kwarg.isNone && (a.defaults.isEmpty && (decide (a.args.map (·.arg) = ps))))))
def cmpDef (C : Cm) (N ps : List Str) (st : Stmt) : Option FnD := match st with
  | .FunctionDef _ a b _ _ _ sc _ _ _ => if (fnScB N ps sc && argsB ps a) = true then (cmpB C N sc b).map (.user ps.length N.length) else none
  | _ => none
end PD
end
section
set_option Elab.async false
set_option linter.all false
set_option maxRecDepth 100000
set_option maxHeartbeats 2000000
/-! PD1: data in the heap. -/
namespace PD
open PySem L2
/-- the stream's own list, its numbers' list, the numbers -/
abbrev Stp := Option (Addr × Addr × List Int)
/-- what is fixed through a law's run -/
structure G where
  K : PySem.W.Frag
  mg : Str → Option Value
  T : List (Addr × Str)
section
variable (g : G) (stp : Stp)
def Wr (a : Addr) : Prop := (∃ q, (a, q) ∈ g.T) ∨ ∃ q ns, stp = some (a, q, ns)
def KL (a : Addr) (xs : List V) : Prop := ∃ (o : Obj) (its : Array Value) (n : Nat), g.K.lookup a = some o ∧ o.cls = .type "list" ∧ o.dict = none ∧ o.data = .seq its n ∧ its.size ≤ sizeLine ∧ Vals xs its.toList
def KT (a : Addr) (xs : List V) : Prop := ∃ (o : Obj) (its : Array Value) (n : Nat), g.K.lookup a = some o ∧ o.cls = .type "tuple" ∧ o.data = .seq its n ∧ its.size ≤ sizeLine ∧ Vals xs its.toList
def FzA (av : Addr → Prop) (H : Hp) (a : Addr) (xs : List V) : Prop := (¬ av a ∧ Rd H a (.lst xs)) ∨ KL g a xs
def LsA (av : Addr → Prop) (H : Hp) (a : Addr) (xs : List V) : Prop := ¬ av a ∧ H a = some (.lst xs)
def TpA (av : Addr → Prop) (H : Hp) (a : Addr) (xs : List V) : Prop := (¬ av a ∧ H a = some (.tup xs)) ∨ KT g a xs
mutual
/-- v stands for the data; no address of it is in av -/
def Rep (av : Addr → Prop) (H : Hp) : V → D → Prop
  | v, .non => v = .non
  | v, .bl b => v = .bl b
  | v, .int i => v = .int i
  | v, .str s => v = .str s
  | v, .tup ds => ∃ a vs, v = .ref a ∧ TpA g av H a vs ∧ Reps av H vs ds
  | v, .lst ds => ∃ a vs, v = .ref a ∧ LsA av H a vs ∧ Reps av H vs ds
  | v, .fn x => ∃ f, v = .ref f ∧ g.mg x = some (.ref f)
  | v, .st => ∃ p q ns, v = .ref p ∧ stp = some (p, q, ns)
  | v, .frz ds => ∃ a vs, v = .ref a ∧ FzA g av H a vs ∧ Reps av H vs ds
def Reps (av : Addr → Prop) (H : Hp) : List V → List D → Prop
  | [], [] => True
  | v :: vs, d :: ds => Rep av H v d ∧ Reps av H vs ds
  | _, _ => False
end
/-- .. its own address not in av, those within it not in ae -/
def RepX (av ae : Addr → Prop) (H : Hp) (v : V) : D → Prop
  | .lst ds => ∃ a vs, v = .ref a ∧ LsA av H a vs ∧ Reps g stp ae H vs ds
  | .tup ds => ∃ a vs, v = .ref a ∧ TpA g av H a vs ∧ Reps g stp ae H vs ds
  | d => Rep g stp av H v d
def Keep (H H' : Hp) : Prop := ∀ a o, H a = some o → ¬ Wr g stp a → H' a = some o
/-- the tables and the stream -/
def GS (H : Hp) (w : W) : Prop := LamX.Tabs g.T H ∧ match stp, w with
  | none, none => True
  | some (p, q, ns), some (ns', k) => ns' = ns ∧ H p = some (.lst [.ref q, .int k])
  | _, _ => False
def GR (av : Addr → Prop) (H : Hp) (w : W) : Prop := GS g stp H w ∧ ∀ p q ns, stp = some (p, q, ns) → LsA av H q (ns.map V.int)
end
section
variable {g : G} {stp : Stp} {av av' ae ae' : Addr → Prop} {H H' H1 H2 : Hp} {v : V} {d : D} {a : Addr} {xs vs : List V} {ds : List D} {w w' : W}
theorem Keep.refl : Keep g stp H H := fun _ _ h _ => h
theorem Keep.trans (k1 : Keep g stp H H1) (k2 : Keep g stp H1 H2) : Keep g stp H H2 := fun a o h n => k2 a o (k1 a o h n) n
theorem Keep.same (s : ∀ a o, H a = some o → H' a = some o) : Keep g stp H H' := fun a o h _ => s a o h
/-- a heap that keeps what av does not hold -/
def KeepA (av : Addr → Prop) (H H' : Hp) : Prop := ∀ a o, H a = some o → ¬ av a → H' a = some o
theorem Keep.avs (k : Keep g stp H H') (hw : ∀ a, Wr g stp a → av a) : KeepA av H H' := fun a o h n => k a o h fun z => n (hw a z)
theorem rd_keep {u : HO} (k : KeepA av H H') (n : ¬ av a) (h : Rd H a u) : Rd H' a u := by
  rcases h with h | ⟨o, h⟩
  · exact .inl (k a _ h n)
  · exact .inr ⟨o, k a _ h n⟩
theorem FzA.keep (h : FzA g av H a xs) (k : KeepA av H H') : FzA g av H' a xs := h.elim (fun ⟨n, r⟩ => .inl ⟨n, rd_keep k n r⟩) .inr
theorem LsA.keep (h : LsA av H a xs) (k : KeepA av H H') : LsA av H' a xs := ⟨h.1, k _ _ h.2 h.1⟩
theorem TpA.keep (h : TpA g av H a xs) (k : KeepA av H H') : TpA g av H' a xs := h.elim (fun ⟨n, r⟩ => .inl ⟨n, k _ _ r n⟩) .inr
theorem FzA.weak (h : FzA g av H a xs) (s : ∀ a, av' a → av a) : FzA g av' H a xs := h.elim (fun ⟨n, r⟩ => .inl ⟨fun z => n (s _ z), r⟩) .inr
theorem LsA.weak (h : LsA av H a xs) (s : ∀ a, av' a → av a) : LsA av' H a xs := ⟨fun z => h.1 (s _ z), h.2⟩
theorem TpA.weak (h : TpA g av H a xs) (s : ∀ a, av' a → av a) : TpA g av' H a xs := h.elim (fun ⟨n, r⟩ => .inl ⟨fun z => n (s _ z), r⟩) .inr
theorem FzA.sq (h : FzA g av H a xs) : SqL g.K H a xs := h.elim (fun ⟨_, r⟩ => .inl r) .inr
theorem LsA.sq {K : PySem.W.Frag} (h : LsA av H a xs) : SqL K H a xs := .inl (.inl h.2)
theorem TpA.sq (h : TpA g av H a xs) : SqT g.K H a xs := h.elim (fun ⟨_, r⟩ => .inl (.inl r)) .inr
theorem LsA.len {prog : Program} {ww : World} {h : Heap} (hok : HOk prog ww H h) (l : LsA av H a xs) : xs.length ≤ sizeLine := (hok _ _ l.2).1
theorem TpA.len {prog : Program} {ww : World} {h : Heap} (hok : HOk prog ww H h) (l : TpA g av H a xs) : xs.length ≤ sizeLine := by
  rcases l with ⟨_, r⟩ | ⟨o, its, n, _, _, _, hz, rv⟩
  · exact (hok _ _ r).1
  · have e := rv.length
    simp only [Array.length_toList] at e
    omega
mutual
theorem Rep.map (hl : ∀ a xs, LsA av H a xs → LsA av' H' a xs) (ht : ∀ a xs, TpA g av H a xs → TpA g av' H' a xs) (hf : ∀ a xs, FzA g av H a xs → FzA g av' H' a xs) : ∀ {v : V} {d : D}, Rep g stp av H v d → Rep g stp av' H' v d
  | v, .non, h => h
  | v, .bl _, h => h
  | v, .int _, h => h
  | v, .str _, h => h
  | v, .tup ds, h => by
    obtain ⟨a, vs, e, l, r⟩ := (show ∃ a vs, v = .ref a ∧ TpA g av H a vs ∧ Reps g stp av H vs ds from h)
    exact ⟨a, vs, e, ht a vs l, Reps.map hl ht hf r⟩
  | v, .lst ds, h => by
    obtain ⟨a, vs, e, l, r⟩ := (show ∃ a vs, v = .ref a ∧ LsA av H a vs ∧ Reps g stp av H vs ds from h)
    exact ⟨a, vs, e, hl a vs l, Reps.map hl ht hf r⟩
  | v, .fn _, h => h
  | v, .st, h => h
  | v, .frz ds, h => by
    obtain ⟨a, vs, e, l, r⟩ := (show ∃ a vs, v = .ref a ∧ FzA g av H a vs ∧ Reps g stp av H vs ds from h)
    exact ⟨a, vs, e, hf a vs l, Reps.map hl ht hf r⟩
theorem Reps.map (hl : ∀ a xs, LsA av H a xs → LsA av' H' a xs) (ht : ∀ a xs, TpA g av H a xs → TpA g av' H' a xs) (hf : ∀ a xs, FzA g av H a xs → FzA g av' H' a xs) : ∀ {vs : List V} {ds : List D}, Reps g stp av H vs ds → Reps g stp av' H' vs ds
  | [], [], _ => trivial
  | v :: vs, d :: ds, h => ⟨Rep.map hl ht hf h.1, Reps.map hl ht hf h.2⟩
  | [], _ :: _, h => h.elim
  | _ :: _, [], h => h.elim
end
theorem Rep.keep (h : Rep g stp av H v d) (k : KeepA av H H') : Rep g stp av H' v d := h.map (fun _ _ l => l.keep k) (fun _ _ l => l.keep k) fun _ _ l => l.keep k
theorem Reps.keep (h : Reps g stp av H vs ds) (k : KeepA av H H') : Reps g stp av H' vs ds := h.map (fun _ _ l => l.keep k) (fun _ _ l => l.keep k) fun _ _ l => l.keep k
theorem Rep.weak (h : Rep g stp av H v d) (s : ∀ a, av' a → av a) : Rep g stp av' H v d := h.map (fun _ _ l => l.weak s) (fun _ _ l => l.weak s) fun _ _ l => l.weak s
theorem Reps.weak (h : Reps g stp av H vs ds) (s : ∀ a, av' a → av a) : Reps g stp av' H vs ds := h.map (fun _ _ l => l.weak s) (fun _ _ l => l.weak s) fun _ _ l => l.weak s
/-- a new address may be avoided as well -/
theorem LsA.fresh {p : Addr} {o : HO} (h : LsA av H a xs) (hp : H p = none) : LsA (fun b => av b ∨ b = p) (upd H p o) a xs := by
  have ne : a ≠ p := fun e => by
    have r := h.2
    rw [e, hp] at r
    cases r
  exact ⟨fun z => z.elim h.1 ne, by rw [upd_ne ne]; exact h.2⟩
theorem TpA.fresh {p : Addr} {o : HO} (h : TpA g av H a xs) (hp : H p = none) : TpA g (fun b => av b ∨ b = p) (upd H p o) a xs := by
  rcases h with ⟨n, r⟩ | h
  · have ne : a ≠ p := fun e => by
      rw [e, hp] at r
      cases r
    exact .inl ⟨fun z => z.elim n ne, by rw [upd_ne ne]; exact r⟩
  · exact .inr h
theorem FzA.fresh {p : Addr} {o : HO} (h : FzA g av H a xs) (hp : H p = none) : FzA g (fun b => av b ∨ b = p) (upd H p o) a xs := by
  rcases h with ⟨n, r⟩ | h
  · have ne : a ≠ p := fun e => by
      subst e
      rcases r with r | ⟨o, r⟩ <;> rw [hp] at r <;> cases r
    refine .inl ⟨fun z => z.elim n ne, ?_⟩
    rcases r with r | ⟨o, r⟩
    · exact .inl (by rw [upd_ne ne]; exact r)
    · exact .inr ⟨o, by rw [upd_ne ne]; exact r⟩
  · exact .inr h
theorem Rep.fresh {p : Addr} {o : HO} (h : Rep g stp av H v d) (hp : H p = none) : Rep g stp (fun b => av b ∨ b = p) (upd H p o) v d := h.map (fun _ _ l => l.fresh hp) (fun _ _ l => l.fresh hp) fun _ _ l => l.fresh hp
theorem Reps.fresh {p : Addr} {o : HO} (h : Reps g stp av H vs ds) (hp : H p = none) : Reps g stp (fun b => av b ∨ b = p) (upd H p o) vs ds := h.map (fun _ _ l => l.fresh hp) (fun _ _ l => l.fresh hp) fun _ _ l => l.fresh hp
mutual
/-- what av' holds besides are lists of H that do not come into flat data -/
theorem Rep.flat (s : ∀ a, av' a → av a ∨ ∃ xs, H a = some (.lst xs)) : ∀ {v : V} {d : D}, d.flat = true → Rep g stp av H v d → Rep g stp av' H v d
  | v, .non, _, h => h
  | v, .bl _, _, h => h
  | v, .int _, _, h => h
  | v, .str _, _, h => h
  | v, .tup ds, f, h => by
    obtain ⟨a, vs, e, l, r⟩ := (show ∃ a vs, v = .ref a ∧ TpA g av H a vs ∧ Reps g stp av H vs ds from h)
    refine ⟨a, vs, e, ?_, Reps.flat s (by simpa only [D.flat] using f) r⟩
    rcases l with ⟨n, q⟩ | l
    · refine .inl ⟨fun z => ?_, q⟩
      rcases s a z with z | ⟨xs, z⟩
      · exact n z
      · rw [z] at q; cases q
    · exact .inr l
  | v, .lst ds, f, h => by simp only [D.flat] at f; cases f
  | v, .frz ds, f, h => by simp only [D.flat] at f; cases f
  | v, .fn _, _, h => h
  | v, .st, _, h => h
theorem Reps.flat (s : ∀ a, av' a → av a ∨ ∃ xs, H a = some (.lst xs)) : ∀ {vs : List V} {ds : List D}, D.flats ds = true → Reps g stp av H vs ds → Reps g stp av' H vs ds
  | [], [], _, _ => trivial
  | v :: vs, d :: ds, f, h => by
    simp only [D.flats, Bool.and_eq_true] at f
    exact ⟨Rep.flat s f.1 h.1, Reps.flat s f.2 h.2⟩
  | [], _ :: _, _, h => h.elim
  | _ :: _, [], _, h => h.elim
end
theorem Reps.length : ∀ {vs : List V} {ds : List D}, Reps g stp av H vs ds → vs.length = ds.length
  | [], [], _ => rfl
  | v :: vs, d :: ds, h => congrArg (· + 1) (Reps.length h.2)
  | [], _ :: _, h => h.elim
  | _ :: _, [], h => h.elim
theorem Reps.get : ∀ {vs : List V} {ds : List D} {i : Nat} {d : D}, Reps g stp av H vs ds → ds[i]? = some d → ∃ v, vs[i]? = some v ∧ Rep g stp av H v d
  | v :: vs, d :: ds, 0, d', h, e => by
    simp at e; subst e; exact ⟨v, rfl, h.1⟩
  | v :: vs, d :: ds, i + 1, d', h, e => by
    obtain ⟨u, h1, h2⟩ := Reps.get (i := i) h.2 (by simpa using e)
    exact ⟨u, by simpa using h1, h2⟩
  | [], [], _, _, _, e => by simp at e
  | [], _ :: _, _, _, h, _ => h.elim
  | _ :: _, [], _, _, h, _ => h.elim
theorem Reps.append : ∀ {vs us : List V} {ds es : List D}, Reps g stp av H vs ds → Reps g stp av H us es → Reps g stp av H (vs ++ us) (ds ++ es)
  | [], _, [], _, _, h => h
  | v :: vs, us, d :: ds, es, h, h' => ⟨h.1, Reps.append h.2 h'⟩
  | [], _, _ :: _, _, h, _ => h.elim
  | _ :: _, _, [], _, h, _ => h.elim
theorem Reps.set {v : V} {d : D} : ∀ {vs : List V} {ds : List D} (i : Nat), Reps g stp av H vs ds → Rep g stp av H v d → Reps g stp av H (vs.set i v) (ds.set i d)
  | [], [], _, _, _ => trivial
  | _ :: _, _ :: _, 0, h, h' => ⟨h', h.2⟩
  | _ :: _, _ :: _, i + 1, h, h' => ⟨h.1, Reps.set i h.2 h'⟩
  | [], _ :: _, _, h, _ => h.elim
  | _ :: _, [], _, h, _ => h.elim
theorem Reps.drop : ∀ (n : Nat) {vs : List V} {ds : List D}, Reps g stp av H vs ds → Reps g stp av H (vs.drop n) (ds.drop n)
  | 0, _, _, h => h
  | n + 1, [], [], h => h
  | n + 1, _ :: _, _ :: _, h => Reps.drop n h.2
  | _ + 1, [], _ :: _, h => h.elim
  | _ + 1, _ :: _, [], h => h.elim
theorem Reps.take : ∀ (n : Nat) {vs : List V} {ds : List D}, Reps g stp av H vs ds → Reps g stp av H (vs.take n) (ds.take n)
  | 0, _, _, h => trivial
  | n + 1, [], [], h => h
  | n + 1, _ :: _, _ :: _, h => ⟨h.1, Reps.take n h.2⟩
  | _ + 1, [], _ :: _, h => h.elim
  | _ + 1, _ :: _, [], h => h.elim
theorem Reps.reverse : ∀ {vs : List V} {ds : List D}, Reps g stp av H vs ds → Reps g stp av H vs.reverse ds.reverse
  | [], [], h => h
  | v :: vs, d :: ds, h => by
    rw [List.reverse_cons, List.reverse_cons]
    exact Reps.append (Reps.reverse h.2) ⟨h.1, trivial⟩
  | [], _ :: _, h => h.elim
  | _ :: _, [], h => h.elim
theorem Reps.ints : ∀ {vs : List V} {ds : List D} {ns : List Int}, Reps g stp av H vs ds → ints? ds = some ns → vs = ns.map V.int
  | [], [], ns, _, e => by
    simp only [ints?, Option.some.injEq] at e; subst e; rfl
  | v :: vs, d :: ds, ns, h, e => by
    cases d with
    | int i =>
      simp only [ints?, Option.map_eq_some_iff] at e
      obtain ⟨ms, e1, rfl⟩ := e
      rw [show v = V.int i from h.1, Reps.ints h.2 e1]
      rfl
    | _ => simp [ints?] at e
  | [], _ :: _, _, h, _ => h.elim
  | _ :: _, [], _, h, _ => h.elim
theorem ints_map : ∀ ns : List Int, ints? (ns.map D.int) = some ns
  | [] => rfl
  | n :: ns => by simp only [List.map_cons, ints?, ints_map ns, Option.map_some]
theorem reps_ints : ∀ ns : List Int, Reps g stp av H (ns.map V.int) (ns.map D.int)
  | [] => trivial
  | _ :: ns => ⟨rfl, reps_ints ns⟩
theorem Reps.bools : ∀ {vs : List V} {ds : List D} {ns : List Bool}, Reps g stp av H vs ds → bools? ds = some ns → vs = ns.map V.bl
  | [], [], ns, _, e => by
    simp only [bools?, Option.some.injEq] at e; subst e; rfl
  | v :: vs, d :: ds, ns, h, e => by
    cases d with
    | bl i =>
      simp only [bools?, Option.map_eq_some_iff] at e
      obtain ⟨ms, e1, rfl⟩ := e
      rw [show v = V.bl i from h.1, Reps.bools h.2 e1]
      rfl
    | _ => simp [bools?] at e
  | [], _ :: _, _, h, _ => h.elim
  | _ :: _, [], _, h, _ => h.elim
/-! ### RepX -/
theorem RepX.of (h : Rep g stp av H v d) : RepX g stp av av H v d := by
  cases d <;> exact h
theorem RepX.rep (h : RepX g stp av ae H v d) (s : ∀ a, av a → ae a) : Rep g stp av H v d := by
  cases d with
  | lst ds =>
    obtain ⟨a, vs, e, l, r⟩ := h
    exact ⟨a, vs, e, l, r.weak s⟩
  | tup ds =>
    obtain ⟨a, vs, e, l, r⟩ := h
    exact ⟨a, vs, e, l, r.weak s⟩
  | _ => exact h
theorem RepX.keep (h : RepX g stp av ae H v d) (k : KeepA av H H') (k' : KeepA ae H H') : RepX g stp av ae H' v d := by
  cases d with
  | lst ds =>
    obtain ⟨a, vs, e, l, r⟩ := h
    exact ⟨a, vs, e, l.keep k, r.keep k'⟩
  | tup ds =>
    obtain ⟨a, vs, e, l, r⟩ := h
    exact ⟨a, vs, e, l.keep k, r.keep k'⟩
  | _ => exact Rep.keep h k
theorem RepX.weak (h : RepX g stp av ae H v d) (s : ∀ a, av' a → av a) (s' : ∀ a, ae' a → ae a) : RepX g stp av' ae' H v d := by
  cases d with
  | lst ds =>
    obtain ⟨a, vs, e, l, r⟩ := h
    exact ⟨a, vs, e, l.weak s, r.weak s'⟩
  | tup ds =>
    obtain ⟨a, vs, e, l, r⟩ := h
    exact ⟨a, vs, e, l.weak s, r.weak s'⟩
  | _ => exact Rep.weak h s
/-- the items of a list or a tuple -/
theorem RepX.items (h : RepX g stp av ae H v d) (e : items? d = some ds) : ∃ a vs, v = .ref a ∧ (LsA av H a vs ∨ TpA g av H a vs) ∧ Reps g stp ae H vs ds := by
  cases d with
  | lst xs =>
    obtain ⟨a, vs, e1, l, r⟩ := h
    simp only [items?, Option.some.injEq] at e
    subst e
    exact ⟨a, vs, e1, .inl l, r⟩
  | tup xs =>
    obtain ⟨a, vs, e1, l, r⟩ := h
    simp only [items?, Option.some.injEq] at e
    subst e
    exact ⟨a, vs, e1, .inr l, r⟩
  | _ => simp [items?] at e
/-! ### the stream and the tables -/
theorem GR.keep (h : GR g stp av H w) (k : KeepA av H H') (h' : GS g stp H' w') : GR g stp av H' w' := ⟨h', fun p q ns e => (h.2 p q ns e).keep k⟩
theorem GR.weak (h : GR g stp av H w) (s : ∀ a, av' a → av a) : GR g stp av' H w := ⟨h.1, fun p q ns e => (h.2 p q ns e).weak s⟩
/-- all that is tracked stays -/
theorem GS.same (h : GS g stp H w) (s : ∀ a o, H a = some o → H' a = some o) : GS g stp H' w := by
  obtain ⟨h1, h2⟩ := h
  refine ⟨h1.ext s, ?_⟩
  cases stp with
  | none =>
    cases w with
    | none => trivial
    | some _ => exact h2
  | some p =>
    obtain ⟨p, q, ns⟩ := p
    cases w with
    | none => exact h2
    | some x =>
      obtain ⟨ns', k⟩ := x
      exact ⟨h2.1, s _ _ h2.2⟩
/-- a write beside the stream and the tables -/
theorem tabs_beside {T : List (Addr × Str)} {p : Addr} {o : HO} (h : LamX.Tabs T H) (hp : (∃ xs, H p = some (.lst xs))) : LamX.Tabs T (upd H p o) := fun t ht => by
  obtain ⟨xs, hx⟩ := hp
  obtain ⟨ps, h1, h2, h3⟩ := h t ht
  have ne : t.1 ≠ p := fun e => by rw [e, hx] at h1; cases h1
  refine ⟨ps, by rw [upd_ne ne]; exact h1, h2, fun pos cv hc => ?_⟩
  obtain ⟨c, e1, e2⟩ := h3 pos cv hc
  refine ⟨c, e1, ?_⟩
  have nc : c ≠ p := fun e => by
    rw [e, hx] at e2
    unfold LamX.CodeO at e2
    cases e2
  rw [upd_ne nc]
  exact e2
end
end PD
end
section
set_option Elab.async false
set_option linter.all false
set_option maxRecDepth 100000
set_option maxHeartbeats 2000000
/-! PD2: states, readings by the evaluator, the contexts. -/
namespace PD
open PySem L2
theorem GS.there {g : G} {stp : Stp} {H : Hp} {w : W} {a : Addr} (h : GS g stp H w) (n : Wr g stp a) : H a ≠ none := by
  rcases n with ⟨q, hq⟩ | ⟨q, ns, e⟩
  · obtain ⟨ps, e, _⟩ := h.1 _ hq
    have e' : H a = some (.tbl ps) := e
    rw [e']
    simp
  · subst e
    cases w with
    | none => exact h.2.elim
    | some x =>
      obtain ⟨ns', k⟩ := x
      rw [h.2.2]
      simp
theorem Keep.there {g : G} {stp : Stp} {H H' : Hp} {w : W} {a : Addr} (k : Keep g stp H H') (h : GS g stp H' w) (n : H a ≠ none) : H' a ≠ none := by
  by_cases z : Wr g stp a
  · exact h.there z
  · cases e : H a with
    | none => exact absurd e n
    | some o =>
      rw [k a o e z]
      simp
/-- what is avoided: the caller's, the slots' own lists but those of l -/
def Av (M : Addr → Prop) (o : Nat → Option Addr) (l : List Nat) : Addr → Prop := fun a => M a ∨ ∃ i, i ∉ l ∧ o i = some a
def SlotR (g : G) (stp : Stp) (M : Addr → Prop) (o : Nat → Option Addr) (σ : L2.St) (H : Hp) (i : Nat) : Slot → Prop
  | .no => True
  | .sh d => ∃ v, σ[i]? = some (some v) ∧ Rep g stp (Av M o []) H v d
  | .ow ds => ∃ p vs, o i = some p ∧ σ[i]? = some (some (.ref p)) ∧ H p = some (.lst vs) ∧ Reps g stp (Av M o []) H vs ds
/-- a def's state: ent, the heap at its entry -/
structure SI (g : G) (ent : Hp) (stp : Stp) (M : Addr → Prop) (o : Nat → Option Addr) (σ : L2.St) (env : Env) (w : W) (H : Hp) : Prop where
  wr : ∀ a, Wr g stp a → M a
  mt : ∀ a, M a → H a ≠ none
  gr : GR g stp (Av M o []) H w
  he : ∀ a u, ent a = some u → ¬ Wr g stp a → H a = some u
  len : σ.length = env.length
  inj : ∀ i j p, o i = some p → o j = some p → i = j
  own : ∀ i p, o i = some p → ¬ M p ∧ ∃ ds, env[i]? = some (.ow ds)
  sl : ∀ i s, env[i]? = some s → SlotR g stp M o σ H i s
section
variable {g : G} {ent : Hp} {stp : Stp} {M : Addr → Prop} {o : Nat → Option Addr} {σ : L2.St} {env : Env} {w w' : W} {H H' H1 H2 : Hp} {l l' : List Nat}
theorem Av.sub (h : ∀ i, i ∈ l' → i ∈ l) : ∀ a, Av M o l a → Av M o l' a := fun a z => z.elim .inl fun ⟨i, n, e⟩ => .inr ⟨i, fun q => n (h i q), e⟩
theorem Av.nil : ∀ a, Av M o l a → Av M o [] a := Av.sub fun _ h => nomatch h
theorem Av.ofM : ∀ a, M a → Av M o l a := fun _ h => .inl h
theorem SI.wr' (S : SI g ent stp M o σ env w H) : ∀ a, Wr g stp a → Av M o l a := fun a h => .inl (S.wr a h)
theorem SI.ka (S : SI g ent stp M o σ env w H) (k : Keep g stp H H') : KeepA (Av M o l) H H' := k.avs S.wr'
theorem SI.step (S : SI g ent stp M o σ env w H) (k : Keep g stp H H') (h : GS g stp H' w') : SI g ent stp M o σ env w' H' := by
  refine ⟨S.wr, fun a m => ?_, S.gr.keep (S.ka k) h, fun a u e n => k a u (S.he a u e n) n, S.len, S.inj, S.own, fun i s e => ?_⟩
  · exact Keep.there k h (S.mt a m)
  have q := S.sl i s e
  cases s with
  | no => trivial
  | sh d =>
    obtain ⟨v, e1, r⟩ := q
    exact ⟨v, e1, r.keep (S.ka k)⟩
  | ow ds =>
    obtain ⟨p, vs, e1, e2, e3, r⟩ := q
    exact ⟨p, vs, e1, e2, k p _ e3 fun z => (S.own i p e1).1 (S.wr p z), r.keep (S.ka k)⟩
/-- a name is read -/
theorem SI.rd (S : SI g ent stp M o σ env w H) {i : Nat} {d : D} (e : rd env i = some d) : ∃ v, σ[i]? = some (some v) ∧ RepX g stp (Av M o [i]) (Av M o []) H v d := by
  unfold PD.rd at e
  cases q : env[i]? with
  | none => rw [q] at e; cases e
  | some s =>
    rw [q] at e
    have h := S.sl i s q
    cases s with
    | no => cases e
    | sh d' =>
      cases e
      obtain ⟨v, e1, r⟩ := h
      exact ⟨v, e1, (RepX.of r).weak (fun a z => Av.nil a z) fun a z => z⟩
    | ow ds =>
      cases e
      obtain ⟨p, vs, e1, e2, e3, r⟩ := h
      refine ⟨.ref p, e2, p, vs, rfl, ⟨?_, e3⟩, r⟩
      rintro (z | ⟨j, n, z⟩)
      · exact (S.own i p e1).1 z
      · exact n (by rw [S.inj j i p z e1]; exact List.mem_singleton_self i)
end
section
variable {g : G} {ent : Hp} {stp : Stp} {M : Addr → Prop} {o : Nat → Option Addr} {σ : L2.St} {env : Env} {w w' : W} {H H' H1 H2 : Hp} {l l' le : List Nat}
theorem SI.lst (S : SI g ent stp M o σ env w H) {i : Nat} {p : Addr} (e : o i = some p) : ∃ vs, H p = some (.lst vs) := by
  obtain ⟨_, ds, q⟩ := S.own i p e
  obtain ⟨p', vs, e1, _, e3, _⟩ := S.sl i _ q
  rw [e] at e1
  cases e1
  exact ⟨vs, e3⟩
theorem SI.avt (S : SI g ent stp M o σ env w H) {a : Addr} (h : Av M o l a) : H a ≠ none := by
  rcases h with h | ⟨i, _, e⟩
  · exact S.mt a h
  · obtain ⟨vs, q⟩ := S.lst e
    rw [q]
    simp
theorem SI.frsh (S : SI g ent stp M o σ env w H) {p : Addr} (hp : H p = none) : ¬ Av M o l p := fun z => S.avt z hp
/-- a tuple is no slot's list -/
theorem SI.tp (S : SI g ent stp M o σ env w H) {a : Addr} {xs : List V} (h : TpA g (Av M o l) H a xs) : TpA g (Av M o l') H a xs := by
  rcases h with ⟨n, r⟩ | h
  · refine .inl ⟨fun z => ?_, r⟩
    rcases z with z | ⟨i, _, e⟩
    · exact n (.inl z)
    · obtain ⟨vs, q⟩ := S.lst e
      rw [r] at q
      cases q
  · exact .inr h
theorem SI.flat (S : SI g ent stp M o σ env w H) {v : V} {d : D} (h : Rep g stp (Av M o l) H v d) (f : d.flat = true) : Rep g stp (Av M o l') H v d := Rep.flat (fun a z => by
  rcases z with z | ⟨i, _, e⟩
  · exact .inl (.inl z)
  · exact .inr (S.lst e)) f h
end
/-- an end told by the evaluator: rel says what stands for what -/
def Po {α β : Type} (g : G) (stp : Stp) (Wx : WX) (rel : Hp → β → α → Prop) (r : R α) (σ : L2.St) (H : Hp) (Q : β → Hp → Prop) : Prop := match r with
  | .ok a w' => ∀ v H', Keep g stp H H' → GS g stp H' w' → rel H' v a → Q v H'
  | .exc c w' => ∀ H' cl, Keep g stp H H' → GS g stp H' w' → g.mg c = some (.ref cl) → Wx (.ref cl) none σ H'
  | .stk => False
section
variable {g : G} {ent : Hp} {stp : Stp} {M : Addr → Prop} {o : Nat → Option Addr} {σ : L2.St} {env : Env} {w w' : W} {H H' H1 H2 : Hp} {Wx : WX}
variable {α β γ δ : Type} {rel : Hp → β → α → Prop} {rel2 : Hp → δ → γ → Prop}
theorem Po.mono {r : R α} {Q : β → Hp → Prop} (k : Keep g stp H H1) (h : Po g stp Wx rel r σ H Q) : Po g stp Wx rel r σ H1 Q := by
  cases r with
  | ok a w' => exact fun v H' k' gs rv => h v H' (k.trans k') gs rv
  | exc c w' => exact fun H' cl k' gs e => h H' cl (k.trans k') gs e
  | stk => exact h
theorem Po.bind (S : SI g ent stp M o σ env w H) {r : R α} {f : α → W → R γ} {Q : δ → Hp → Prop} {Q1 : β → Hp → Prop} (h : Po g stp Wx rel2 (r.bind f) σ H Q)
    (k : ∀ a w' v H', r = .ok a w' → SI g ent stp M o σ env w' H' → Keep g stp H H' → rel H' v a → Po g stp Wx rel2 (f a w') σ H' Q → Q1 v H') : Po g stp Wx rel r σ H Q1 := by
  cases r with
  | ok a w' => exact fun v H' kp gs rv => k a w' v H' rfl (S.step kp gs) kp rv (Po.mono kp h)
  | exc c w' => exact h
  | stk => exact h
/-- the evaluator came to a value: use it -/
theorem Po.use {a : α} {Q : β → Hp → Prop} (h : Po g stp Wx rel (.ok a w) σ H Q) (S : SI g ent stp M o σ env w H) {v : β} (rv : rel H v a) : Q v H := h v H Keep.refl S.gr.1 rv
/-- .. a new object -/
theorem Po.new {a : α} {Q : β → Hp → Prop} (h : Po g stp Wx rel (.ok a w) σ H Q) (S : SI g ent stp M o σ env w H) {p : Addr} {u : HO} (hp : H p = none) {v : β} (rv : rel (upd H p u) v a) : Q v (upd H p u) := by
  have s : ∀ b x, H b = some x → upd H p u b = some x := fun b x e => by rw [upd_ne (ne_of_none e hp)]; exact e
  exact h v _ (Keep.same s) (S.gr.1.same s) rv
theorem Po.opt_some {o : Option α} {Q : β → Hp → Prop} (h : Po g stp Wx rel (R.opt o w) σ H Q) : ∃ a, o = some a ∧ Po g stp Wx rel (.ok a w) σ H Q := by
  cases o with
  | none => exact h.elim
  | some a => exact ⟨a, rfl, h⟩
end
/-- the relation of an expression's value -/
abbrev relE (g : G) (stp : Stp) (M : Addr → Prop) (o : Nat → Option Addr) (l le : List Nat) : Hp → V → D → Prop := fun H v d => RepX g stp (Av M o l) (Av M o le) H v d
abbrev relL (g : G) (stp : Stp) (M : Addr → Prop) (o : Nat → Option Addr) (l : List Nat) : Hp → List V → List D → Prop := fun H vs ds => Reps g stp (Av M o l) H vs ds
/-- a reading by a result -/
def tR (g : G) (Wx : WX) (l le : List Nat) (r : Env → W → R D) : TE := fun σ H Q => ∃ ent stp M o env w, SI g ent stp M o σ env w H ∧ Po g stp Wx (relE g stp M o l le) (r env w) σ H Q
/-- an expression's reading by the evaluator v -/
abbrev tD (g : G) (v : Ev) (Wx : WX) (e : E) : TE := tR g Wx (al e) (alE e) (v.e e)
section
variable {g : G} {ent : Hp} {stp : Stp} {M : Addr → Prop} {o : Nat → Option Addr} {σ : L2.St} {env : Env} {w w' : W} {H H' H1 H2 : Hp} {Wx : WX} {l le : List Nat} {Q : VK} {ds : List D} {vs : List V} {p : Addr}
theorem Po.int {rel : Hp → V → D → Prop} {i : Int} (h : Po g stp Wx rel (.ok (.int i) w) σ H Q) (S : SI g ent stp M o σ env w H) (hr : rel H (.int i) (.int i) := by first | exact rfl | exact ⟨rfl, fun _ _ h => nomatch h⟩) : Q (.int i) H := h.use S (v := .int i) hr
theorem Po.bl {rel : Hp → V → D → Prop} {i : Bool} (h : Po g stp Wx rel (.ok (.bl i) w) σ H Q) (S : SI g ent stp M o σ env w H) (hr : rel H (.bl i) (.bl i) := by first | exact rfl | exact ⟨rfl, fun _ _ h => nomatch h⟩) : Q (.bl i) H := h.use S (v := .bl i) hr
theorem Po.str {rel : Hp → V → D → Prop} {i : Str} (h : Po g stp Wx rel (.ok (.str i) w) σ H Q) (S : SI g ent stp M o σ env w H) (hr : rel H (.str i) (.str i) := by first | exact rfl | exact ⟨rfl, fun _ _ h => nomatch h⟩) : Q (.str i) H := h.use S (v := .str i) hr
theorem Po.newL (h : Po g stp Wx (relE g stp M o l le) (.ok (.lst ds) w) σ H Q) (S : SI g ent stp M o σ env w H) (r : Reps g stp (Av M o le) H vs ds) (hp : H p = none) : Q (.ref p) (upd H p (.lst vs)) :=
  h.new S hp ⟨p, vs, rfl, ⟨S.frsh hp, upd_same⟩, (r.fresh hp).weak fun _ z => .inl z⟩
theorem Po.newT (h : Po g stp Wx (relE g stp M o l le) (.ok (.tup ds) w) σ H Q) (S : SI g ent stp M o σ env w H) (r : Reps g stp (Av M o le) H vs ds) (hp : H p = none) : Q (.ref p) (upd H p (.tup vs)) :=
  h.new S hp ⟨p, vs, rfl, .inl ⟨S.frsh hp, upd_same⟩, (r.fresh hp).weak fun _ z => .inl z⟩
/-- .. and a new list, where f asks for one -/
def relF (g : G) (ent : Hp) (f : Bool) (stp : Stp) (M : Addr → Prop) (o : Nat → Option Addr) (l le : List Nat) : Hp → V → D → Prop := fun H v d => RepX g stp (Av M o l) (Av M o le) H v d ∧
  (f = true → ∀ ds, d = .lst ds → ∃ p vs, v = .ref p ∧ ent p = none ∧ H p = some (.lst vs) ∧ Reps g stp (fun a => Av M o le a ∨ a = p) H vs ds)
theorem SI.entn (S : SI g ent stp M o σ env w H) {a : Addr} (h : H a = none) : ent a = none := by
  cases e : ent a with
  | none => rfl
  | some u =>
    by_cases z : Wr g stp a
    · exact absurd h (S.gr.1.there z)
    · rw [S.he a u e z] at h
      cases h
theorem Po.newLF {f : Bool} (h : Po g stp Wx (relF g ent f stp M o l le) (.ok (.lst ds) w) σ H Q) (S : SI g ent stp M o σ env w H) (r : Reps g stp (Av M o le) H vs ds) (hp : H p = none) : Q (.ref p) (upd H p (.lst vs)) :=
  h.new S hp ⟨⟨p, vs, rfl, ⟨S.frsh hp, upd_same⟩, (r.fresh hp).weak fun _ z => .inl z⟩, fun _ ds' e => by
    cases e
    exact ⟨p, vs, rfl, S.entn hp, upd_same, r.fresh hp⟩⟩
theorem Po.newTF {f : Bool} (h : Po g stp Wx (relF g ent f stp M o l le) (.ok (.tup ds) w) σ H Q) (S : SI g ent stp M o σ env w H) (r : Reps g stp (Av M o le) H vs ds) (hp : H p = none) : Q (.ref p) (upd H p (.tup vs)) :=
  h.new S hp ⟨⟨p, vs, rfl, .inl ⟨S.frsh hp, upd_same⟩, (r.fresh hp).weak fun _ z => .inl z⟩, fun _ _ e => nomatch e⟩
theorem Po.useT {f : Bool} {v : V} (h : Po g stp Wx (relF g ent f stp M o l le) (.ok (.tup ds) w) σ H Q) (S : SI g ent stp M o σ env w H) (rv : RepX g stp (Av M o l) (Av M o le) H v (.tup ds)) : Q v H := h.use S ⟨rv, fun _ _ e => nomatch e⟩
/-- a reading that asks for a new list, too -/
def tRf (g : G) (Wx : WX) (f : Bool) (l le : List Nat) (r : Env → W → R D) : TE := fun σ H Q => ∃ ent stp M o env w, SI g ent stp M o σ env w H ∧ Po g stp Wx (relF g ent f stp M o l le) (r env w) σ H Q
abbrev tF (g : G) (v : Ev) (Wx : WX) (e : E) : TE := tRf g Wx true (al e) (alE e) (v.e e)
theorem Po.post {α β : Type} {rel : Hp → β → α → Prop} {r : R α} {Q Q' : β → Hp → Prop} (h : Po g stp Wx rel r σ H Q) (i : ∀ v H', Q v H' → Q' v H') : Po g stp Wx rel r σ H Q' := by
  cases r with
  | ok a w' => exact fun v H' k gs rv => i v H' (h v H' k gs rv)
  | exc c w' => exact h
  | stk => exact h
theorem Po.imp {α β : Type} {rel rel' : Hp → β → α → Prop} {r : R α} {Q : β → Hp → Prop} (h : Po g stp Wx rel r σ H Q) (i : ∀ H v a, rel' H v a → rel H v a) : Po g stp Wx rel' r σ H Q := by
  cases r with
  | ok a w' => exact fun v H' k gs rv => h v H' k gs (i H' v a rv)
  | exc c w' => exact h
  | stk => exact h
end
theorem tRf.of {g : G} {Wx : WX} {l le : List Nat} {r : Env → W → R D} {σ : L2.St} {H : Hp} {Q : VK} (h : tR g Wx l le r σ H Q) : tRf g Wx false l le r σ H Q := by
  obtain ⟨ent, stp, M, o, env, w, S, p⟩ := h
  exact ⟨ent, stp, M, o, env, w, S, p.imp fun _ _ _ q => q.1⟩
/-- as a test -/
def tDT (g : G) (v : Ev) (Wx : WX) (e : E) : TT := fun σ H Q => ∃ ent stp M o env w, SI g ent stp M o σ env w H ∧
  Po g stp Wx (fun _ b (x : Bool) => b = x) ((v.e e env w).bind fun d w => R.opt (truth d) w) σ H Q
def tDL (g : G) (v : Ev) (Wx : WX) (es : List E) : TA := fun σ H Q => ∃ ent stp M o env w, SI g ent stp M o σ env w H ∧ Po g stp Wx (relL g stp M o (als es)) (evs v es env w) σ H Q
/-- the context's g -/
abbrev gX (T : List (Addr × Str)) (X : Cx) : G := ⟨X.K, X.mg, T⟩
/-- a def's contract, over every stack that shows nothing -/
def FnG (P : Program) (w : World) (K : PySem.W.Frag) (mg : Str → Option Value) (base : Heap) (k : Nat) (f : Addr) (fd : FuncData) (ps : List Str) (sp : Sp) : Prop :=
  (∀ vs H Q E, sp vs H Q E → vs.length = ps.length) ∧ ∀ (A : Around) (outer : List PySem.Env) (s : Shared) (H : Hp) (args : Args) (us : List Value) (vs : List V) (Q : VK) (E : XK), Room k A → A.guards = some [] → Env0 P w K mg base A outer s H →
    BindsTo s fd args (ps.zip us) → Vals vs us → sp vs H Q E → codeAny (model P w) A (.call (.ref f) args) (CR (CX P w) outer P w H s Q E) s
/-- what a def promises by its value -/
def spD (g : G) (r : List D → W → R D) (np : Nat) : Sp := fun vs H Q E => vs.length = np ∧ ∃ stp M w ds, (∀ a, Wr g stp a → M a) ∧ (∀ a, M a → H a ≠ none) ∧ GR g stp M H w ∧ Reps g stp M H vs ds ∧
  Po g stp (fun c d _ H' => E c d H') (fun H' v d => Rep g stp M H' v d) (r ds w) [] H Q
/-- the defs' contracts for calls -/
def FnsOk (P : Program) (w : World) (K : PySem.W.Frag) (mg : Str → Option Value) (base : Heap) (T : List (Addr × Str)) (pr : Pr) (k : Nat) (r : Str → List D → W → R D) : Prop :=
  ∀ x np ns b, pr.fns.lookup x = some (.user np ns b) → ∃ fa fd ps, mg x = some (.ref fa) ∧ PySem.W.keepIn K (.ref fa) = true ∧ ps.length = np ∧ L2.Binds K fd ps [] ∧ FnG P w K mg base k fa fd ps (spD ⟨K, mg, T⟩ (r x) np)
/-- an own class of ValueErrors -/
structure OwnX (K : PySem.W.Frag) (mg : Str → Option Value) (x : Str) (cl : Addr) : Prop where
  mg : mg x = some (.ref cl)
  exc : PySem.W.excIn K cl [.type "ValueError", .type "Exception", .type "BaseException", .type "object"] "ValueError.__new__" = true
  keep : PySem.W.keepIn K (.ref cl) = true
  sub : PySem.W.subIn K (.ref cl) (.type "BaseException") = some true
  typ : PySem.W.typeIn K (.ref cl) = some (.type "type")
/-- what the module's names hold -/
structure Nam (K : PySem.W.Frag) (mg : Str → Option Value) (pr : Pr) (C : Cm) : Prop where
  blt : ∀ x b, bltOf x = some b → mg x = none
  rng : mg "range" = none ∧ mg "enumerate" = none ∧ mg "zip" = none
  exc : ∀ x, C.excs.contains x = true → ∃ cl, OwnX K mg x cl
  fns : ∀ x, C.fns.contains x = true → ∃ fa, mg x = some (.ref fa) ∧ PySem.W.keepIn K (.ref fa) = true
  gl : ∀ x d, pr.gl.lookup x = some d → ∃ u v, mg x = some u ∧ RelV v u ∧ ∀ g : G, g.K = K → g.mg = mg → ∀ stp H, Rep g stp (fun _ => True) H v d
structure XOk (T : List (Addr × Str)) (pr : Pr) (C : Cm) (N : List Str) (d : Nat) (X : Cx) (sc : Scope) : Prop where
  hN : X.N = N
  nd : N.Nodup
  hsc : X.env.scope = sc
  calm : X.calm = true
  room : Room d X.A
  guards : X.A.guards = some []
  nam : Nam X.K X.mg pr C
end PD
end
section
set_option Elab.async false
set_option linter.all false
set_option maxRecDepth 100000
set_option maxHeartbeats 2000000
/-! PD3: expressions, one rule a form. -/
namespace PD
open PySem L2 PyProof.Rows
theorem _root_.L2.PE.imp {X : Cx} {e : Expr} {t t' : TE} (h : PE X e t) (i : ∀ σ H Q, t' σ H Q → t σ H Q) : PE X e t' := ⟨fun pins s σ H Q I q => h.run pins s σ H Q I (i σ H Q q)⟩
theorem PEf.plain {g : G} {X : Cx} {e : Expr} {Wx : WX} {l le : List Nat} {r : Env → W → R D} (h : PE X e (tRf g Wx false l le r)) : PE X e (tR g Wx l le r) := h.imp fun _ _ _ q => tRf.of q
theorem _root_.L2.PT.imp {X : Cx} {e : Expr} {t t' : TT} (h : PT X e t) (i : ∀ σ H Q, t' σ H Q → t σ H Q) : PT X e t' := ⟨fun pins s σ H Q I q => h.run pins s σ H Q I (i σ H Q q)⟩
theorem _root_.L2.PA.imp {X : Cx} {e : List Expr} {t t' : TA} (h : PA X e t) (i : ∀ σ H Q, t' σ H Q → t σ H Q) : PA X e t' := ⟨fun pos pins s σ H Q I q => h.run pos pins s σ H Q I (i σ H Q q)⟩
theorem ixOf_get {x : Str} : ∀ {N : List Str} {n i : Nat}, ixOf x N n = some i → n ≤ i ∧ N[i - n]? = some x
  | [], _, _, h => by cases h
  | y :: ys, n, i, h => by
    unfold ixOf at h
    by_cases e : y = x
    · rw [if_pos e] at h
      have q := Option.some.inj h
      subst q
      exact ⟨Nat.le_refl _, by rw [Nat.sub_self]; exact congrArg some e⟩
    · rw [if_neg e] at h
      obtain ⟨h1, h2⟩ := ixOf_get h
      refine ⟨by omega, ?_⟩
      rw [show i - n = (i - (n + 1)) + 1 by omega]
      exact h2
theorem ixOf0 {x : Str} {N : List Str} {i : Nat} (h : ixOf x N 0 = some i) : N[i]? = some x := (ixOf_get h).2
theorem visB_ok {sc : Scope} {x : Str} (h : visB sc x = true) : Vis sc x := by
  unfold visB at h
  unfold Vis
  split at h
  · exact .inl (by assumption)
  · exact .inr (.inl (by assumption))
  · exact .inr (.inr (by assumption))
  · cases h
theorem locB_ok {sc : Scope} {x : Str} (h : locB sc x = true) : L2.Loc sc x := by
  unfold locB at h
  unfold L2.Loc
  split at h
  · exact .inl (by assumption)
  · exact .inr (by assumption)
  · cases h
theorem glbB_ok {sc : Scope} {x : Str} (h : glbB sc x = true) : sc.names.lookup x = some .globalImplicit := by
  unfold glbB at h
  split at h
  · assumption
  · cases h
theorem okN_ok {x : Str} (h : okN x = true) : (x == ("__debug__" : Str)) = false ∧ (x == ("__classdict__" : Str)) = false ∧ x ≠ "__name__" := by
  unfold okN at h
  simp only [Bool.and_eq_true, Bool.not_eq_true'] at h
  exact ⟨h.1, h.2.1, fun e => by rw [e] at h; simp at h⟩
theorem slotV_ok {N : List Str} {sc : Scope} {x : Str} {i : Nat} (h : slotV N sc x = some i) : N[i]? = some x ∧ Vis sc x ∧ okN x = true := by
  unfold slotV at h
  split at h
  · rename_i q
    rw [Bool.and_eq_true] at q
    exact ⟨ixOf0 h, visB_ok q.1, q.2⟩
  · cases h
theorem slotL_ok {N : List Str} {sc : Scope} {x : Str} {i : Nat} (h : slotL N sc x = some i) : N[i]? = some x ∧ L2.Loc sc x := by
  unfold slotL at h
  split at h
  · rename_i q
    exact ⟨ixOf0 h, locB_ok q⟩
  · cases h
section
variable {T : List (Addr × Str)} {pr : Pr} {C : Cm} {N : List Str} {dp : Nat} {X : Cx} {sc : Scope} {Wx : WX} {pos : Pos}
theorem XOk.gl (ok : XOk T pr C N dp X sc) {x : Str} (h : glbB sc x = true) : Gl X x := by
  show X.env.scope.names.lookup x = _
  rw [ok.hsc]
  exact glbB_ok h
theorem se_var (ok : XOk T pr C N dp X sc) {x : Str} {i : Nat} (h : slotV N sc x = some i) : PE X (.Name x pos) (tR (gX T X) Wx [i] [] fun env w => R.opt (rd env i) w) := by
  obtain ⟨h1, h2, h3⟩ := slotV_ok h
  obtain ⟨o1, o2, o3⟩ := okN_ok h3
  refine (pe_var (X := X) (i := i) (by rw [ok.hN]; exact h1) (by rw [ok.hsc]; exact h2) o1 o2).imp ?_
  rintro σ H Q ⟨ent, stp, M, o, env, w, S, p⟩
  obtain ⟨d, e, p⟩ := p.opt_some
  obtain ⟨v, e1, r⟩ := S.rd e
  exact ⟨v, e1, p.use S r⟩
theorem se_con {c : Const} {k : Nat} {d : D} (h : conOf c = some d) : PE X (.Constant c k pos) (tR (gX T X) Wx [] [] fun _ w => .ok d w) := by
  cases c with
  | none =>
    cases h
    exact pe_non.imp fun σ H Q ⟨ent, stp, M, o, env, w, S, p⟩ => p.use S (v := .non) rfl
  | bool b =>
    cases h
    exact pe_bl.imp fun σ H Q ⟨ent, stp, M, o, env, w, S, p⟩ => p.use S (v := .bl b) rfl
  | int b =>
    cases h
    exact pe_int.imp fun σ H Q ⟨ent, stp, M, o, env, w, S, p⟩ => p.use S (v := .int b) rfl
  | str b =>
    cases h
    exact pe_str.imp fun σ H Q ⟨ent, stp, M, o, env, w, S, p⟩ => p.use S (v := .str b) rfl
  | _ => cases h
theorem se_gv (ok : XOk T pr C N dp X sc) {x : Str} (hg : glbB sc x = true) (hn : okN x = true) : PE X (.Name x pos) (tR (gX T X) Wx [] [] fun _ w => R.opt (pr.gl.lookup x) w) := by
  obtain ⟨o1, _, _⟩ := okN_ok hn
  refine ⟨fun pins s σ H Q I h => ?_⟩
  obtain ⟨ent, stp, M, o, env, w, S, p⟩ := h
  obtain ⟨d, e, p⟩ := p.opt_some
  obtain ⟨u, v, e1, rv, rep⟩ := ok.nam.gl x d e
  exact (pe_glob (ok.gl hg) e1 rv o1).run pins s σ H Q I (p.use S (RepX.of ((rep (gX T X) rfl rfl stp H).weak fun _ _ => trivial)))
/-! ### two values -/
/-- by values: l1, l2 what the operands' items may hold -/
def rBin (g : G) (Wx : WX) (q : Bool) (f : D → D → Option D) (l1 e1 l2 e2 l : List Nat) : R2 := fun x y H Q => ∃ ent stp M o σ env w dx dy, SI g ent stp M o σ env w H ∧
  RepX g stp (Av M o l1) (Av M o e1) H x dx ∧ RepX g stp (Av M o l2) (Av M o e2) H y dy ∧ (∀ i, i ∈ e1 → i ∈ l) ∧ (∀ i, i ∈ e2 → i ∈ l) ∧ Po g stp Wx (relF g ent q stp M o l l) (R.opt (f dx dy) w) σ H Q
theorem se_two {q : Bool} {pe : Expr} {ea eb : E} {v : Ev} {f : D → D → Option D} {l : List Nat} (h1 : ∀ i, i ∈ alE ea → i ∈ l) (h2 : ∀ i, i ∈ alE eb → i ∈ l)
    (h : PE X pe (tOp (rBin (gX T X) Wx q f (al ea) (alE ea) (al eb) (alE eb) l) (tD (gX T X) v Wx ea) (tD (gX T X) v Wx eb))) :
    PE X pe (tRf (gX T X) Wx q l l fun env w => (v.e ea env w).bind fun x w => (v.e eb env w).bind fun y w => R.opt (f x y) w) := by
  refine h.imp ?_
  rintro σ H Q ⟨ent, stp, M, o, env, w, S, p⟩
  refine ⟨ent, stp, M, o, env, w, S, Po.bind S p fun dx w1 x H1 _ S1 k1 rx p1 => ?_⟩
  refine ⟨ent, stp, M, o, env, w1, S1, Po.bind S1 p1 fun dy w2 y H2 _ S2 k2 ry p2 => ?_⟩
  exact ⟨ent, stp, M, o, σ, env, w2, dx, dy, S2, rx.keep (S1.ka k2) (S1.ka k2), ry, h1, h2, p2⟩
theorem guardO_some {α : Type} {b : Bool} {a c : α} (h : guardO b a = some c) : b = true ∧ a = c := by
  unfold guardO at h
  split at h
  · rename_i q
    exact ⟨q, Option.some.inj h⟩
  · cases h
theorem szOk_le {n : Nat} (h : szOk n = true) : n ≤ sizeLine := by
  rw [sizeLine_eq]
  exact of_decide_eq_true h
theorem fdivI_eq (i j : Int) : fdivI i j = i.fdiv j := by
  unfold fdivI
  split
  · rename_i h
    rw [Int.fdiv_eq_ediv_of_nonneg i (by omega)]
  · rfl
theorem fmodI_eq (i j : Int) : fmodI i j = i.fmod j := by
  unfold fmodI
  split
  · rename_i h
    rw [Int.fmod_eq_emod_of_nonneg i (by omega)]
  · rfl
/-- // by a divisor that is not 0, below 2 ^ 9000 -/
theorem op_fdivA : OpR X (binaryOp .FloorDiv) (rI (fun _ j => j ≠ 0 ∧ j.natAbs.log2 < 9000) fun i j => .int (fdivI i j)) := opI fun i j _ _ _ _ _ hc q =>
  floordiv_int hc.1 (by rw [← fdivI_eq]; exact q) (.inl (PyProof.noPylong_of_log2 hc.2))
theorem op_modA : OpR X (binaryOp .Mod) (rI (fun _ j => j ≠ 0) fun i j => .int (fmodI i j)) := opI fun i j _ _ _ _ _ hc q => mod_int' hc (by rw [← fmodI_eq]; exact q)
variable {l1 e1 l2 e2 l : List Nat} {qf : Bool}
theorem bop_add : OpR X (binaryOp .Add) (rBin (gX T X) Wx qf (binD .add) l1 e1 l2 e2 l) := by
  intro pins s σ H x y v u Q I rx ry h
  obtain ⟨ent, stp, M, o, σ1, env, w, dx, dy, S, hx, hy, s1, s2, p⟩ := h
  obtain ⟨dz, e, p⟩ := p.opt_some
  cases dx with
  | int i =>
    cases dy with
    | int j =>
      have ex : x = .int i := hx
      have ey : y = .int j := hy
      cases e
      exact op_add pins s σ H x y v u Q I rx ry ⟨i, j, ex, ey, p.int S⟩
    | _ => simp [binD] at e
  | str i =>
    cases dy with
    | str j =>
      have ex : x = .str i := hx
      have ey : y = .str j := hy
      obtain ⟨q, e⟩ := guardO_some (show guardO _ _ = some dz from e)
      subst e
      exact op_add_str pins s σ H x y v u Q I rx ry ⟨i, j, ex, ey, szOk_le q, p.str S⟩
    | _ => simp [binD] at e
  | lst a =>
    cases dy with
    | lst b =>
      obtain ⟨pa, va, ex, la, ra⟩ := hx
      obtain ⟨pb, vb, ey, lb, rb⟩ := hy
      obtain ⟨q, e⟩ := guardO_some (show guardO _ _ = some dz from e)
      subst e
      refine op_cat pins s σ H x y v u Q I rx ry ⟨pa, pb, va, vb, ex, ey, la.2, lb.2, by rw [ra.length, rb.length]; exact szOk_le q, fun p0 hp => ?_⟩
      exact p.newLF S (Reps.append (ra.weak (Av.sub s1)) (rb.weak (Av.sub s2))) hp
    | _ => simp [binD] at e
  | tup a =>
    cases dy with
    | tup b =>
      obtain ⟨pa, va, ex, la, ra⟩ := hx
      obtain ⟨pb, vb, ey, lb, rb⟩ := hy
      obtain ⟨q, e⟩ := guardO_some (show guardO _ _ = some dz from e)
      subst e
      have rz := Reps.append (ra.weak (Av.sub s1)) (rb.weak (Av.sub s2))
      refine op_catA pins s σ H x y v u Q I rx ry ⟨pa, pb, va, vb, ex, ey, la.sq, lb.sq, by rw [ra.length, rb.length]; exact szOk_le q, ?_⟩
      refine ⟨fun z => ?_, fun _ z => ?_, fun z z' p0 hp => p.newTF S rz hp⟩
      · subst z
        refine p.useT S ⟨pb, vb, rfl, S.tp lb, ?_⟩
        simpa using rz
      · subst z
        refine p.useT S ⟨pa, va, rfl, S.tp la, ?_⟩
        simpa using rz
    | _ => simp [binD] at e
  | _ => simp [binD] at e
theorem opt_i2 {f : Bop} {i : Int} {d z : D} (h : binD f (.int i) d = some z) (h1 : f = .sub ∨ f = .fdiv ∨ f = .mod ∨ f = .pow ∨ f = .shl ∨ f = .shr ∨ f = .mul) : ∃ j, d = .int j := by
  rcases h1 with rfl | rfl | rfl | rfl | rfl | rfl | rfl <;> cases d <;> first | exact ⟨_, rfl⟩ | simp [binD] at h
theorem op2_int {e3 : List Nat} {op : Operator} {b : Bop} {f : Int → Int → Int} {c : Int → Int → Bool} {Cc : Int → Int → Prop} (rule : OpR X (binaryOp op) (rI Cc fun i j => .int (f i j)))
    (hb : b = .sub ∨ b = .fdiv ∨ b = .mod ∨ b = .pow ∨ b = .shl ∨ b = .shr) (e0 : ∀ d z, binD b d z ≠ none → ∃ i, d = .int i) (e1 : ∀ i j, binD b (.int i) (.int j) = guardO (c i j) (.int (f i j))) (hc : ∀ i j, c i j = true → Cc i j) :
    OpR X (binaryOp op) (rBin (gX T X) Wx qf (binD b) l1 e3 l2 e2 l) := by
  intro pins s σ H x y v u Q I rx ry h
  obtain ⟨ent, stp, M, o, σ1, env, w, dx, dy, S, hx, hy, s1, s2, p⟩ := h
  obtain ⟨dz, e, p⟩ := p.opt_some
  obtain ⟨i, rfl⟩ := e0 dx dy (by rw [e]; simp)
  obtain ⟨j, rfl⟩ := opt_i2 e (by rcases hb with h | h | h | h | h | h <;> simp [h])
  have ex : x = .int i := hx
  have ey : y = .int j := hy
  rw [e1] at e
  obtain ⟨q, e⟩ := guardO_some e
  subst e
  exact rule pins s σ H x y v u Q I rx ry ⟨i, j, ex, ey, hc i j q, p.int S⟩
theorem bop_sub : OpR X (binaryOp .Sub) (rBin (gX T X) Wx qf (binD .sub) l1 e1 l2 e2 l) :=
  op2_int (c := fun _ _ => true) (Cc := fun _ _ => True) (f := fun i j => i - j) (opI fun _ _ _ _ _ _ _ _ q => sub_int q) (.inl rfl) (fun d z h => by cases d <;> first | exact ⟨_, rfl⟩ | exact absurd rfl h) (fun _ _ => rfl) fun _ _ _ => trivial
theorem bop_fdiv : OpR X (binaryOp .FloorDiv) (rBin (gX T X) Wx qf (binD .fdiv) l1 e1 l2 e2 l) :=
  op2_int (c := fun _ j => divOk j) op_fdivA (.inr (.inl rfl)) (fun d z h => by cases d <;> first | exact ⟨_, rfl⟩ | exact absurd rfl h) (fun _ _ => rfl) fun _ j h => by
    unfold divOk at h
    rw [Bool.and_eq_true] at h
    exact ⟨of_decide_eq_true h.1, of_decide_eq_true h.2⟩
theorem bop_mod : OpR X (binaryOp .Mod) (rBin (gX T X) Wx qf (binD .mod) l1 e1 l2 e2 l) :=
  op2_int (c := fun _ j => decide (j ≠ 0)) op_modA (.inr (.inr (.inl rfl))) (fun d z h => by cases d <;> first | exact ⟨_, rfl⟩ | exact absurd rfl h) (fun _ _ => rfl) fun _ j h => of_decide_eq_true h
theorem powOk_ok {i j : Int} (h : powOk i j = true) : CPow i j := by
  unfold powOk at h
  rw [Bool.and_eq_true, Bool.and_eq_true] at h
  exact ⟨of_decide_eq_true h.1.1, of_decide_eq_true h.1.2, of_decide_eq_true h.2⟩
theorem bop_pow : OpR X (binaryOp .Pow) (rBin (gX T X) Wx qf (binD .pow) l1 e1 l2 e2 l) :=
  op2_int (c := powOk) op_pow (.inr (.inr (.inr (.inl rfl)))) (fun d z h => by cases d <;> first | exact ⟨_, rfl⟩ | exact absurd rfl h) (fun _ _ => rfl) fun _ _ => powOk_ok
theorem bop_shl : OpR X (binaryOp .LShift) (rBin (gX T X) Wx qf (binD .shl) l1 e1 l2 e2 l) :=
  op2_int (c := powOk) op_shl (.inr (.inr (.inr (.inr (.inl rfl))))) (fun d z h => by cases d <;> first | exact ⟨_, rfl⟩ | exact absurd rfl h) (fun _ _ => rfl) fun _ _ => powOk_ok
theorem bop_shr : OpR X (binaryOp .RShift) (rBin (gX T X) Wx qf (binD .shr) l1 e1 l2 e2 l) :=
  op2_int (c := fun _ j => decide (0 ≤ j)) op_shr (.inr (.inr (.inr (.inr (.inr rfl))))) (fun d z h => by cases d <;> first | exact ⟨_, rfl⟩ | exact absurd rfl h) (fun _ _ => rfl) fun _ _ h => of_decide_eq_true h
theorem reps_rep {g : G} {stp : Stp} {av : Addr → Prop} {H : Hp} {vs : List V} {ds : List D} (h : Reps g stp av H vs ds) : ∀ n : Nat, Reps g stp av H (List.replicate n vs).flatten (List.replicate n ds).flatten
  | 0 => trivial
  | n + 1 => by
    rw [List.replicate_succ, List.replicate_succ, List.flatten_cons, List.flatten_cons]
    exact Reps.append h (reps_rep h n)
theorem bop_mul : OpR X (binaryOp .Mult) (rBin (gX T X) Wx qf (binD .mul) l1 e1 l2 e2 l) := by
  intro pins s σ H x y v u Q I rx ry h
  obtain ⟨ent, stp, M, o, σ1, env, w, dx, dy, S, hx, hy, s1, s2, p⟩ := h
  obtain ⟨dz, e, p⟩ := p.opt_some
  cases dx with
  | int i =>
    cases dy with
    | int j =>
      have ex : x = .int i := hx
      have ey : y = .int j := hy
      obtain ⟨q, e⟩ := guardO_some (show guardO _ _ = some dz from e)
      subst e
      exact op_mulW pins s σ H x y v u Q I rx ry ⟨i, j, ex, ey, (show i.natAbs.log2 + j.natAbs.log2 < 1000000 from of_decide_eq_true (show decide (i.natAbs.log2 + j.natAbs.log2 < 1000000) = true from q)), p.int S⟩
    | _ => simp [binD] at e
  | lst a =>
    cases dy with
    | int n =>
      obtain ⟨pa, va, ex, la, ra⟩ := hx
      have ey : y = .int n := hy
      obtain ⟨q, e⟩ := guardO_some (show guardO _ _ = some dz from e)
      subst e
      rw [Bool.and_eq_true, Bool.and_eq_true] at q
      obtain ⟨⟨q1, q2⟩, q3⟩ := q
      refine op_rep pins s σ H x y v u Q I rx ry ⟨pa, n, va, ex, ey, la.2, of_decide_eq_true q1, of_decide_eq_true q2, by rw [ra.length]; exact szOk_le q3, fun p0 hp => ?_⟩
      exact p.newLF S (reps_rep (ra.weak (Av.sub s1)) _) hp
    | _ => simp [binD] at e
  | _ => simp [binD] at e
theorem bop_ok {op : Operator} {b : Bop} (h : bopOf op = some b) : OpR X (binaryOp op) (rBin (gX T X) Wx qf (binD b) l1 e1 l2 e2 l) := by
  cases op <;> simp only [bopOf, Option.some.injEq, reduceCtorEq] at h <;> subst h
  · exact bop_add
  · exact bop_sub
  · exact bop_mul
  · exact bop_mod
  · exact bop_pow
  · exact bop_shl
  · exact bop_shr
  · exact bop_fdiv
theorem alE_eq (e : E) : alE e = if isVar e = true then [] else al e := rfl
theorem se_bin {op : Operator} {b : Bop} {a c : Expr} {ea ec : E} {v : Ev} (h : bopOf op = some b) (ha : PE X a (tD (gX T X) v Wx ea)) (hc : PE X c (tD (gX T X) v Wx ec)) :
    PE X (.BinOp a op c pos) (tRf (gX T X) Wx qf (al (.bin b ea ec)) (alE (.bin b ea ec)) fun env w => (v.e ea env w).bind fun x w => (v.e ec env w).bind fun y w => R.opt (binD b x y) w) := by
  have e : alE (.bin b ea ec) = al (.bin b ea ec) := rfl
  rw [e]
  have e2 : al (.bin b ea ec) = alE ea ++ alE ec := by simp only [al, alE]
  rw [e2]
  exact se_two (fun i h => List.mem_append_left _ h) (fun i h => List.mem_append_right _ h) (pe_op (bop_ok h) ha hc)
end
end PD
end
section
set_option Elab.async false
set_option linter.all false
set_option maxRecDepth 100000
set_option maxHeartbeats 2000000
/-! PD4: tests, comparisons, displays, items. -/
namespace PD
open PySem L2 PyProof.Rows
section
variable {T : List (Addr × Str)} {pr : Pr} {C : Cm} {N : List Str} {dp : Nat} {X : Cx} {sc : Scope} {Wx : WX} {pos : Pos} {v : Ev}
theorem iteT {p q : Prop} (h : p) : if true = true then p else q := by rw [if_pos rfl]; exact h
theorem iteF {p q : Prop} (h : q) : if false = true then p else q := by rw [if_neg Bool.false_ne_true]; exact h
theorem ne0 (n : Nat) : (n != 0) = ((n : Int) != 0) := by
  cases n with
  | zero => rfl
  | succ n =>
    have h : ((n + 1 : Nat) : Int) ≠ 0 := by omega
    simp [bne, h]
    omega
theorem isE {stp : Stp} {g : G} {av : Addr → Prop} {H : Hp} {vs : List V} {ds : List D} (r : Reps g stp av H vs ds) : (!ds.isEmpty) = !vs.isEmpty := by
  cases vs <;> cases ds <;> first | rfl | exact r.elim
theorem tru_of {g : G} {stp : Stp} {av ae : Addr → Prop} {H : Hp} {x : V} {d : D} {b : Bool} (h : truth d = some b) (r : RepX g stp av ae H x d) : TruV g.K x H b := by
  cases d with
  | non => have e : x = .non := r; subst e; cases h; rfl
  | bl k => have e : x = .bl k := r; subst e; cases h; rfl
  | int k => have e : x = .int k := r; subst e; cases h; rfl
  | str k =>
    have e : x = .str k := r
    subst e
    simp only [truth] at h
    split at h
    · rename_i q
      cases h
      exact ⟨szOk_le q, ne0 _⟩
    · cases h
  | tup ds =>
    cases h
    obtain ⟨a, vs, e, l, rr⟩ := r
    subst e
    exact .inr (.inl ⟨vs, l.sq, isE rr⟩)
  | lst ds =>
    cases h
    obtain ⟨a, vs, e, l, rr⟩ := r
    subst e
    exact .inl ⟨vs, l.sq, isE rr⟩
  | _ => cases h
theorem se_not {a : Expr} {ea : E} (ha : PE X a (tD (gX T X) v Wx ea)) : PE X (.UnaryOp .Not a pos) (tR (gX T X) Wx [] [] fun env w => (v.e ea env w).bind fun x w => R.opt ((truth x).map fun b => .bl (!b)) w) := by
  refine (pe_notT ha).imp ?_
  rintro σ H Q ⟨ent, stp, M, o, env, w, S, p⟩
  refine ⟨ent, stp, M, o, env, w, S, Po.bind S p fun dx w1 x H1 _ S1 k1 rx p1 => ?_⟩
  obtain ⟨d, e, p1⟩ := p1.opt_some
  obtain ⟨b, e1, rfl⟩ := Option.map_eq_some_iff.mp e
  exact ⟨b, tru_of e1 rx, p1.bl S1⟩
theorem se_neg {a : Expr} {ea : E} (ha : PE X a (tD (gX T X) v Wx ea)) : PE X (.UnaryOp .USub a pos) (tR (gX T X) Wx [] [] fun env w => (v.e ea env w).bind fun x w => R.opt (negD x) w) := by
  refine (pe_un un_neg ha).imp ?_
  rintro σ H Q ⟨ent, stp, M, o, env, w, S, p⟩
  refine ⟨ent, stp, M, o, env, w, S, Po.bind S p fun dx w1 x H1 _ S1 k1 rx p1 => ?_⟩
  obtain ⟨d, e, p1⟩ := p1.opt_some
  cases dx with
  | int i =>
    cases e
    have ex : x = .int i := rx
    exact ⟨i, ex, p1.int S1⟩
  | _ => cases e
/-- a reading by a wider list -/
theorem Po.wide {g : G} {stp : Stp} {M : Addr → Prop} {o : Nat → Option Addr} {σ : L2.St} {H : Hp} {r : R D} {Q : VK} {l l' le le' : List Nat} (h1 : ∀ i, i ∈ l → i ∈ l') (h2 : ∀ i, i ∈ le → i ∈ le')
    (h : Po g stp Wx (relE g stp M o l' le') r σ H Q) : Po g stp Wx (relE g stp M o l le) r σ H Q := by
  cases r with
  | ok a w' => exact fun x H' k gs rv => h x H' k gs (rv.weak (Av.sub h1) (Av.sub h2))
  | exc c w' => exact h
  | stk => exact h
theorem alE_sub {e : E} {i : Nat} (h : i ∈ alE e) : i ∈ al e := by
  unfold alE at h
  split at h
  · cases h
  · exact h
theorem se_and {a b : Expr} {rest : List Expr} {ea eb : E} (ha : PE X a (tD (gX T X) v Wx ea)) (hb : PE X (.BoolOp .And (b :: rest) pos) (tD (gX T X) v Wx eb)) :
    PE X (.BoolOp .And (a :: b :: rest) pos) (tR (gX T X) Wx (al (.and ea eb)) (alE (.and ea eb)) fun env w => (v.e ea env w).bind fun x w => match truth x with
      | some true => v.e eb env w
      | some false => .ok x w
      | none => .stk) := by
  refine (pe_andT ha hb).imp ?_
  rintro σ H Q ⟨ent, stp, M, o, env, w, S, p⟩
  refine ⟨ent, stp, M, o, env, w, S, Po.bind S p fun dx w1 x H1 _ S1 k1 rx p1 => ?_⟩
  cases e : truth dx with
  | none => rw [e] at p1; exact p1.elim
  | some k =>
    rw [e] at p1
    refine ⟨k, tru_of e rx, ?_⟩
    cases k with
    | true => exact iteT ⟨ent, stp, M, o, env, w1, S1, p1.wide (fun i h => List.mem_append_right _ h) fun i h => List.mem_append_right _ (alE_sub h)⟩
    | false => exact iteF (p1.use S1 (rx.weak (Av.sub fun i h => List.mem_append_left _ h) (Av.sub fun i h => List.mem_append_left _ (alE_sub h))))
theorem se_or {a b : Expr} {rest : List Expr} {ea eb : E} (ha : PE X a (tD (gX T X) v Wx ea)) (hb : PE X (.BoolOp .Or (b :: rest) pos) (tD (gX T X) v Wx eb)) :
    PE X (.BoolOp .Or (a :: b :: rest) pos) (tR (gX T X) Wx (al (.or ea eb)) (alE (.or ea eb)) fun env w => (v.e ea env w).bind fun x w => match truth x with
      | some true => .ok x w
      | some false => v.e eb env w
      | none => .stk) := by
  refine (pe_orT ha hb).imp ?_
  rintro σ H Q ⟨ent, stp, M, o, env, w, S, p⟩
  refine ⟨ent, stp, M, o, env, w, S, Po.bind S p fun dx w1 x H1 _ S1 k1 rx p1 => ?_⟩
  cases e : truth dx with
  | none => rw [e] at p1; exact p1.elim
  | some k =>
    rw [e] at p1
    refine ⟨k, tru_of e rx, ?_⟩
    cases k with
    | false => exact iteF ⟨ent, stp, M, o, env, w1, S1, p1.wide (fun i h => List.mem_append_right _ h) fun i h => List.mem_append_right _ (alE_sub h)⟩
    | true => exact iteT (p1.use S1 (rx.weak (Av.sub fun i h => List.mem_append_left _ h) (Av.sub fun i h => List.mem_append_left _ (alE_sub h))))
/-! ### tests -/
theorem st_val {a : Expr} {ea : E} (ha : PE X a (tD (gX T X) v Wx ea)) (he : ∀ whole, isTrue a X.env whole = (do let v ← whole; standAt a.pos; holding [v] (truthy v))) : PT X a (tDT (gX T X) v Wx ea) := by
  refine (pt_truth ha he).imp ?_
  rintro σ H Q ⟨ent, stp, M, o, env, w, S, p⟩
  refine ⟨ent, stp, M, o, env, w, S, Po.bind S p fun dx w1 x H1 _ S1 k1 rx p1 => ?_⟩
  obtain ⟨b, e, p1⟩ := p1.opt_some
  exact ⟨b, tru_of e rx, p1.use S1 rfl⟩
/-- a test by its result -/
def tRT (g : G) (Wx : WX) (r : Env → W → R D) : TT := fun σ H Q => ∃ ent stp M o env w, SI g ent stp M o σ env w H ∧ Po g stp Wx (fun _ b (x : Bool) => b = x) ((r env w).bind fun d w => R.opt (truth d) w) σ H Q
theorem R.bind_assoc {α β γ : Type} (r : R α) (f : α → W → R β) (k : β → W → R γ) : (r.bind f).bind k = r.bind fun a w => (f a w).bind k := by
  cases r <;> rfl
theorem st_not {a : Expr} {ea : E} (ha : PT X a (tDT (gX T X) v Wx ea)) : PT X (.UnaryOp .Not a pos) (tRT (gX T X) Wx fun env w => (v.e ea env w).bind fun x w => R.opt ((truth x).map fun b => .bl (!b)) w) := by
  refine (pt_not ha).imp ?_
  rintro σ H Q ⟨ent, stp, M, o, env, w, S, p⟩
  refine ⟨ent, stp, M, o, env, w, S, ?_⟩
  rw [R.bind_assoc] at p
  have e : (v.e ea env w).bind (fun a w => (R.opt (Option.map (fun b => D.bl (!b)) (truth a)) w).bind fun d w => R.opt (truth d) w) = ((v.e ea env w).bind fun d w => R.opt (truth d) w).bind fun b w => .ok (!b) w := by
    rw [R.bind_assoc]
    congr 1
    funext d w
    cases truth d <;> rfl
  rw [e] at p
  exact Po.bind S p fun b w1 c H1 _ S1 k1 rx p1 => by
    subst rx
    exact p1.use S1 rfl
theorem sw_and1 {op : BoolOp} {a : Expr} {ea : E} (ha : PT X a (tDT (gX T X) v Wx ea)) : PW X (.BoolOp op [a] pos) (tDT (gX T X) v Wx ea) := by
  cases op
  · exact pw_and1 ha
  · exact pw_or1 ha
theorem Po.truth_bind {g : G} {ent : Hp} {stp : Stp} {M : Addr → Prop} {o : Nat → Option Addr} {σ : L2.St} {env : PD.Env} {w : W} {H : Hp} {r : R D} {Q : Bool → Hp → Prop} {ft ff : D → W → R Bool} (S : SI g ent stp M o σ env w H)
    (h : Po g stp Wx (fun _ b (x : Bool) => b = x) (r.bind fun d w => match truth d with | some true => ft d w | some false => ff d w | none => .stk) σ H Q) {Q1 : Bool → Hp → Prop}
    (kt : ∀ d w1 H1, truth d = some true → SI g ent stp M o σ env w1 H1 → Po g stp Wx (fun _ b (x : Bool) => b = x) (ft d w1) σ H1 Q → Q1 true H1) (kf : ∀ d w1 H1, truth d = some false → SI g ent stp M o σ env w1 H1 → Po g stp Wx (fun _ b (x : Bool) => b = x) (ff d w1) σ H1 Q → Q1 false H1) :
    Po g stp Wx (fun _ b (x : Bool) => b = x) (r.bind fun d w => R.opt (truth d) w) σ H Q1 := by
  cases r with
  | exc c w' => exact h
  | stk => exact h
  | ok d w' =>
    show Po g stp Wx _ (R.opt (truth d) w') σ H Q1
    have h : Po g stp Wx (fun _ b (x : Bool) => b = x) (match truth d with | some true => ft d w' | some false => ff d w' | none => .stk) σ H Q := h
    cases e : truth d with
    | none => rw [e] at h; exact h.elim
    | some b =>
      rw [e] at h
      intro c H' k gs rc
      subst rc
      cases c with
      | true => exact kt d w' H' e (S.step k gs) (Po.mono k h)
      | false => exact kf d w' H' e (S.step k gs) (Po.mono k h)
theorem sw_and {a b : Expr} {rest : List Expr} {ea eb : E} (ha : PT X a (tDT (gX T X) v Wx ea)) (hb : PW X (.BoolOp .And (b :: rest) pos) (tDT (gX T X) v Wx eb)) :
    PW X (.BoolOp .And (a :: b :: rest) pos) (tRT (gX T X) Wx fun env w => (v.e ea env w).bind fun x w => match truth x with
      | some true => v.e eb env w
      | some false => .ok x w
      | none => .stk) := by
  refine ⟨fun wh pins s σ H Q I h => (pw_and ha hb).run wh pins s σ H Q I ?_⟩
  obtain ⟨ent, stp, M, o, env, w, S, p⟩ := h
  refine ⟨ent, stp, M, o, env, w, S, ?_⟩
  rw [R.bind_assoc] at p
  refine Po.truth_bind (ft := fun _ w => (v.e eb env w).bind fun d w => R.opt (truth d) w) (ff := fun x w => R.opt (truth x) w) S (by
    refine cast ?_ p
    congr 2
    funext d w
    cases e : truth d with
    | none => rfl
    | some b => cases b <;> simp only [R.bind, e]) (fun d w1 H1 _ S1 p1 => ?_) fun d w1 H1 e S1 p1 => ?_
  · exact iteT ⟨ent, stp, M, o, env, w1, S1, p1⟩
  · rw [e] at p1
    exact iteF (p1.use S1 rfl)
theorem sw_or {a b : Expr} {rest : List Expr} {ea eb : E} (ha : PT X a (tDT (gX T X) v Wx ea)) (hb : PW X (.BoolOp .Or (b :: rest) pos) (tDT (gX T X) v Wx eb)) :
    PW X (.BoolOp .Or (a :: b :: rest) pos) (tRT (gX T X) Wx fun env w => (v.e ea env w).bind fun x w => match truth x with
      | some true => .ok x w
      | some false => v.e eb env w
      | none => .stk) := by
  refine ⟨fun wh pins s σ H Q I h => (pw_or ha hb).run wh pins s σ H Q I ?_⟩
  obtain ⟨ent, stp, M, o, env, w, S, p⟩ := h
  refine ⟨ent, stp, M, o, env, w, S, ?_⟩
  rw [R.bind_assoc] at p
  refine Po.truth_bind (ff := fun _ w => (v.e eb env w).bind fun d w => R.opt (truth d) w) (ft := fun x w => R.opt (truth x) w) S (by
    refine cast ?_ p
    congr 2
    funext d w
    cases e : truth d with
    | none => rfl
    | some b => cases b <;> simp only [R.bind, e]) (fun d w1 H1 e S1 p1 => ?_) fun d w1 H1 e S1 p1 => ?_
  · rw [e] at p1
    exact iteT (p1.use S1 rfl)
  · exact iteF ⟨ent, stp, M, o, env, w1, S1, p1⟩
theorem Po.wideF {f : Bool} {g : G} {ent : Hp} {stp : Stp} {M : Addr → Prop} {o : Nat → Option Addr} {σ : L2.St} {H : Hp} {r : R D} {Q : VK} {l l' le le' : List Nat} (h1 : ∀ i, i ∈ l → i ∈ l') (h2 : ∀ i, i ∈ le → i ∈ le')
    (h : Po g stp Wx (relF g ent f stp M o l' le') r σ H Q) : Po g stp Wx (relF g ent f stp M o l le) r σ H Q := h.imp fun _ _ _ q => ⟨q.1.weak (Av.sub h1) (Av.sub h2), fun hf ds e => by
  obtain ⟨p, vs, a1, a2, a3, a4⟩ := q.2 hf ds e
  exact ⟨p, vs, a1, a2, a3, a4.weak fun a z => z.elim (fun z => .inl (Av.sub h2 a z)) .inr⟩⟩
theorem se_ite {c a b : Expr} {ec ea eb : E} {f : Bool} (hc : PT X c (tDT (gX T X) v Wx ec)) (ha : PE X a (tRf (gX T X) Wx f (al ea) (alE ea) (v.e ea))) (hb : PE X b (tRf (gX T X) Wx f (al eb) (alE eb) (v.e eb))) :
    PE X (.IfExp c a b pos) (tRf (gX T X) Wx f (al (.ite ec ea eb)) (alE (.ite ec ea eb)) fun env w => (v.e ec env w).bind fun x w => match truth x with
      | some true => v.e ea env w
      | some false => v.e eb env w
      | none => .stk) := by
  refine (pe_ifExp hc ha hb).imp ?_
  rintro σ H Q ⟨ent, stp, M, o, env, w, S, p⟩
  refine ⟨ent, stp, M, o, env, w, S, ?_⟩
  dsimp only at p
  cases hr : v.e ec env w with
  | exc c w' => rw [hr] at p; exact p
  | stk => rw [hr] at p; exact p
  | ok d w' =>
    rw [hr] at p
    have p : Po (gX T X) stp Wx _ (match truth d with | some true => v.e ea env w' | some false => v.e eb env w' | none => .stk) σ H Q := p
    show Po (gX T X) stp Wx _ (R.opt (truth d) w') σ H _
    cases e : truth d with
    | none => rw [e] at p; exact p.elim
    | some k =>
      rw [e] at p
      intro b H' kp gs rb
      subst rb
      have p1 := Po.mono kp p
      cases b with
      | true => exact iteT ⟨ent, stp, M, o, env, w', S.step kp gs, p1.wideF (fun i h => List.mem_append_left _ h) fun i h => List.mem_append_left _ (alE_sub h)⟩
      | false => exact iteF ⟨ent, stp, M, o, env, w', S.step kp gs, p1.wideF (fun i h => List.mem_append_right _ h) fun i h => List.mem_append_right _ (alE_sub h)⟩
end
end PD
end
section
set_option Elab.async false
set_option linter.all false
set_option maxRecDepth 100000
set_option maxHeartbeats 2000000
/-! PD5: comparisons, displays, items. -/
namespace PD
open PySem L2 PyProof.Rows
section
variable {T : List (Addr × Str)} {pr : Pr} {C : Cm} {N : List Str} {dp : Nat} {X : Cx} {sc : Scope} {Wx : WX} {pos : Pos} {v : Ev}
mutual
theorem dp_of {g : G} {stp : Stp} {av : Addr → Prop} {H : Hp} : ∀ {x : V} {d : D} {z : PyData}, D.py d = some z → Rep g stp av H x d → Dp g.K H x z
  | x, .non, z, e, r => by simp only [D.py, Option.some.injEq] at e; subst e; rw [show x = .non from r]; exact .non
  | x, .bl _, z, e, r => by simp only [D.py, Option.some.injEq] at e; subst e; rw [show x = .bl _ from r]; exact .bl _
  | x, .int _, z, e, r => by simp only [D.py, Option.some.injEq] at e; subst e; rw [show x = .int _ from r]; exact .int _
  | x, .str _, z, e, r => by simp only [D.py, Option.some.injEq] at e; subst e; rw [show x = .str _ from r]; exact .str _
  | x, .tup ds, z, e, r => by
    simp only [D.py, Option.map_eq_some_iff] at e
    obtain ⟨zs, e1, rfl⟩ := e
    obtain ⟨a, vs, ex, l, rr⟩ := (show ∃ a vs, x = .ref a ∧ TpA g av H a vs ∧ Reps g stp av H vs ds from r)
    subst ex
    exact .tup l.sq (dps_of e1 rr)
  | x, .lst ds, z, e, r => by
    simp only [D.py, Option.map_eq_some_iff] at e
    obtain ⟨zs, e1, rfl⟩ := e
    obtain ⟨a, vs, ex, l, rr⟩ := (show ∃ a vs, x = .ref a ∧ LsA av H a vs ∧ Reps g stp av H vs ds from r)
    subst ex
    exact .lst l.sq (dps_of e1 rr)
  | x, .fn _, z, e, r => by simp [D.py] at e
  | x, .st, z, e, r => by simp [D.py] at e
  | x, .frz _, z, e, r => by simp [D.py] at e
theorem dps_of {g : G} {stp : Stp} {av : Addr → Prop} {H : Hp} : ∀ {xs : List V} {ds : List D} {zs : List PyData}, D.pys ds = some zs → Reps g stp av H xs ds → DpAll g.K H xs zs
  | [], [], zs, e, _ => by simp only [D.pys, Option.some.injEq] at e; subst e; exact .nil
  | x :: xs, d :: ds, zs, e, r => by
    simp only [D.pys] at e
    cases h1 : D.py d with
    | none => rw [h1] at e; cases h2 : D.pys ds <;> rw [h2] at e <;> cases e
    | some z =>
      cases h2 : D.pys ds with
      | none => rw [h1, h2] at e; cases e
      | some zs' =>
        rw [h1, h2] at e
        cases e
        exact .cons (dp_of h1 r.1) (dps_of h2 r.2)
  | [], _ :: _, _, _, r => r.elim
  | _ :: _, [], _, _, r => r.elim
end
/-- RepX to Rep over less -/
theorem RepX.lo {g : G} {stp : Stp} {av ae : Addr → Prop} {H : Hp} {x : V} {d : D} (r : RepX g stp av ae H x d) : Rep g stp (fun a => av a ∧ ae a) H x d :=
  (r.weak (av' := fun a => av a ∧ ae a) (ae' := fun a => av a ∧ ae a) (fun _ h => h.1) fun _ h => h.2).rep fun _ h => h
theorem dpx {g : G} {stp : Stp} {av ae : Addr → Prop} {H : Hp} {x : V} {d : D} {z : PyData} (e : D.py d = some z) (r : RepX g stp av ae H x d) : Dp g.K H x z := dp_of e r.lo
def rCmp (g : G) (Wx : WX) (f : D → D → Option Bool) : R2 := fun x y H Q => ∃ ent stp M o σ env w dx dy l1 e1 l2 e2, SI g ent stp M o σ env w H ∧
  RepX g stp (Av M o l1) (Av M o e1) H x dx ∧ RepX g stp (Av M o l2) (Av M o e2) H y dy ∧ Po g stp Wx (relE g stp M o [] []) (R.opt ((f dx dy).map .bl) w) σ H Q
theorem Po.cmp {g : G} {ent : Hp} {stp : Stp} {M : Addr → Prop} {o : Nat → Option Addr} {σ : L2.St} {env : PD.Env} {w : W} {H : Hp} {Q : VK} {r : Option Bool}
    (h : Po g stp Wx (relE g stp M o [] []) (R.opt (r.map .bl) w) σ H Q) (S : SI g ent stp M o σ env w H) : ∃ b, r = some b ∧ Q (.bl b) H := by
  obtain ⟨d, e, p⟩ := h.opt_some
  obtain ⟨b, e1, rfl⟩ := Option.map_eq_some_iff.mp e
  exact ⟨b, e1, p.bl S⟩
theorem eq_vals {dx dy : D} {b : Bool} (e : eqD dx dy = some b) {g : G} {stp : Stp} {a1 a2 a3 a4 : Addr → Prop} {H : Hp} {x y : V} (hx : RepX g stp a1 a2 H x dx) (hy : RepX g stp a3 a4 H y dy) :
    (scal x y = true ∧ decide (x = y) = b) ∨ ∃ z1 z2, Dp g.K H x z1 ∧ Dp g.K H y z2 ∧ SeqAt.shaped z1 = true ∧ SeqAt.shaped z2 = true ∧ PyData.eqv z1 z2 = b := by
  unfold eqD at e
  split at e
  · rename_i i j
    have ex : x = .int i := hx
    have ey : y = .int j := hy
    subst ex ey
    cases e
    exact .inl ⟨rfl, by simp⟩
  · rename_i i j
    have ex : x = .bl i := hx
    have ey : y = .bl j := hy
    subst ex ey
    cases e
    exact .inl ⟨rfl, by simp⟩
  · rename_i i j
    have ex : x = .str i := hx
    have ey : y = .str j := hy
    subst ex ey
    cases e
    exact .inl ⟨rfl, by simp⟩
  · cases h1 : D.py dx with
    | none => rw [h1] at e; cases e
    | some z1 =>
      cases h2 : D.py dy with
      | none => rw [h1, h2] at e; cases e
      | some z2 =>
        rw [h1, h2] at e
        dsimp only at e
        split at e
        · rename_i q
          rw [Bool.and_eq_true] at q
          cases e
          exact .inr ⟨z1, z2, dpx h1 hx, dpx h2 hy, q.1, q.2, rfl⟩
        · cases e
theorem cop_eq (hu : X.A.units + 64 < cLine) : OpR X (compareOp .Eq) (rCmp (gX T X) Wx eqD) := by
  intro pins s σ H x y v u Q I rx ry h
  obtain ⟨ent, stp, M, o, σ1, env, w, dx, dy, l1, e1, l2, e2, S, hx, hy, p⟩ := h
  obtain ⟨b, e, q⟩ := p.cmp S
  rcases eq_vals e hx hy with ⟨h1, h2⟩ | ⟨z1, z2, h1, h2, h3, h4, h5⟩
  · exact op_eq pins s σ H x y v u Q I rx ry ⟨h1, by rw [h2]; exact q⟩
  · exact op_eqD hu pins s σ H x y v u Q I rx ry ⟨z1, z2, h1, h2, h3, h4, by rw [h5]; exact q⟩
theorem cop_ne (hu : X.A.units + 64 < cLine) : OpR X (compareOp .NotEq) (rCmp (gX T X) Wx fun a b => (eqD a b).map (!·)) := by
  intro pins s σ H x y v u Q I rx ry h
  obtain ⟨ent, stp, M, o, σ1, env, w, dx, dy, l1, e1, l2, e2, S, hx, hy, p⟩ := h
  obtain ⟨b, e, q⟩ := p.cmp S
  obtain ⟨b', e', rfl⟩ := Option.map_eq_some_iff.mp e
  rcases eq_vals e' hx hy with ⟨h1, h2⟩ | ⟨z1, z2, h1, h2, h3, h4, h5⟩
  · exact op_ne pins s σ H x y v u Q I rx ry ⟨h1, by rw [h2]; exact q⟩
  · exact op_neD hu pins s σ H x y v u Q I rx ry ⟨z1, z2, h1, h2, h3, h4, by rw [h5]; exact q⟩
theorem lexB_eq : ∀ xs ys : List Int, lexB xs ys = HT.lexLt xs ys
  | [], [] => rfl
  | [], _ :: _ => rfl
  | _ :: _, [] => rfl
  | x :: xs, y :: ys => by
    show (if x = y then lexB xs ys else decide (x < y)) = _
    rw [HT.lexLt_cons, lexB_eq xs ys]
theorem cop_lt (hu : X.A.units < cLine) : OpR X (compareOp .Lt) (rCmp (gX T X) Wx ltD) := by
  intro pins s σ H x y v u Q I rx ry h
  obtain ⟨ent, stp, M, o, σ1, env, w, dx, dy, l1, e1, l2, e2, S, hx, hy, p⟩ := h
  obtain ⟨b, e, q⟩ := p.cmp S
  unfold ltD at e
  split at e
  · rename_i i j
    have ex : x = .int i := hx
    have ey : y = .int j := hy
    cases e
    exact op_lt pins s σ H x y v u Q I rx ry ⟨i, j, ex, ey, q⟩
  · rename_i a b'
    split at e
    · rename_i ns ms h1 h2
      cases e
      obtain ⟨pa, va, ex, la, ra⟩ := hx
      obtain ⟨pb, vb, ey, lb, rb⟩ := hy
      rw [ra.ints h1] at la
      rw [rb.ints h2] at lb
      exact op_ltT hu pins s σ H x y v u Q I rx ry ⟨pa, pb, ns, ms, ex, ey, la.sq, lb.sq, by rw [← lexB_eq]; exact q⟩
    · cases e
  · cases e
theorem cop_int {op : CmpOp} {c : Cop} {f : Int → Int → Bool} (rule : OpR X (compareOp op) (rI0 fun i j => .bl (f i j))) (h : c = .le ∨ c = .ge ∨ c = .gt) (e0 : ∀ i j, cmpD c (.int i) (.int j) = some (f i j)) :
    OpR X (compareOp op) (rCmp (gX T X) Wx (cmpD c)) := by
  intro pins s σ H x y v u Q I rx ry h'
  obtain ⟨ent, stp, M, o, σ1, env, w, dx, dy, l1, e1, l2, e2, S, hx, hy, p⟩ := h'
  obtain ⟨b, e, q⟩ := p.cmp S
  obtain ⟨i, j, rfl, rfl⟩ : ∃ i j, dx = .int i ∧ dy = .int j := by
    rcases h with rfl | rfl | rfl <;> cases dx <;> cases dy <;> first | exact ⟨_, _, rfl, rfl⟩ | simp [cmpD] at e
  rw [e0] at e
  cases e
  exact rule pins s σ H x y v u Q I rx ry ⟨i, j, hx, hy, q⟩
theorem eqV_py {g : G} {stp : Stp} {av ae : Addr → Prop} {H : Hp} {x y : V} {dx dy : D} {zx zy : PyData} (fx : flat1 dx = true) (fy : flat1 dy = true) (h1 : D.py dx = some zx) (h2 : D.py dy = some zy) (hx : Rep g stp av H x dx) (hy : Rep g stp ae H y dy) :
    flatV x = true ∧ flatV y = true ∧ eqV y x = PyData.eqv zy zx := by
  cases dx <;> simp only [flat1, reduceCtorEq, Bool.false_eq_true] at fx <;> cases dy <;> simp only [flat1, reduceCtorEq, Bool.false_eq_true] at fy <;> simp only [D.py, Option.some.injEq] at h1 h2 <;> subst h1 h2 <;>
    simp only [Rep] at hx hy <;> subst hx hy <;> refine ⟨rfl, rfl, ?_⟩ <;> simp [eqV, PyData.eqv]
theorem inV_py {g : G} {stp : Stp} {av ae : Addr → Prop} {H : Hp} {x : V} {dx : D} {zx : PyData} (fx : flat1 dx = true) (h1 : D.py dx = some zx) (hx : Rep g stp av H x dx) : ∀ {ys : List V} {ds : List D} {zs : List PyData}, ds.all flat1 = true → D.pys ds = some zs → Reps g stp ae H ys ds →
    ys.all flatV = true ∧ inV x ys = zs.any fun z => PyData.eqv z zx
  | [], [], zs, _, e, _ => by
    simp only [D.pys, Option.some.injEq] at e; subst e; exact ⟨rfl, rfl⟩
  | y :: ys, d :: ds, zs, f, e, r => by
    rw [List.all_cons, Bool.and_eq_true] at f
    simp only [D.pys] at e
    cases h2 : D.py d with
    | none => rw [h2] at e; cases h3 : D.pys ds <;> rw [h3] at e <;> cases e
    | some z =>
      cases h3 : D.pys ds with
      | none => rw [h2, h3] at e; cases e
      | some zs' =>
        rw [h2, h3] at e
        cases e
        obtain ⟨q1, q2, q3⟩ := eqV_py fx f.1 h1 h2 hx r.1
        obtain ⟨i1, i2⟩ := inV_py fx h1 hx f.2 h3 r.2
        refine ⟨by rw [List.all_cons, q2, i1]; rfl, ?_⟩
        unfold inV at i2 ⊢
        rw [List.any_cons, List.any_cons, q3, i2]
  | [], _ :: _, _, _, _, r => r.elim
  | _ :: _, [], _, _, _, r => r.elim
theorem in_vals {dx dy : D} {b : Bool} (e : inD dx dy = some b) {g : G} {stp : Stp} {a1 a2 a3 a4 : Addr → Prop} {H : Hp} {x y : V} (hx : RepX g stp a1 a2 H x dx) (hy : RepX g stp a3 a4 H y dy) :
    (∃ d ds, Dp g.K H x d ∧ Dp g.K H y (.list ds) ∧ SeqAt.shaped d = true ∧ SeqAt.shaped (.list ds) = true ∧ (ds.any fun z => PyData.eqv z d) = b) ∨
      ∃ p xs, y = .ref p ∧ (SqL g.K H p xs ∨ SqT g.K H p xs) ∧ flatV x = true ∧ xs.all flatV = true ∧ inV x xs = b := by
  unfold inD at e
  cases h1 : D.py dx with
  | none => rw [h1] at e; cases e
  | some zx =>
    rw [h1] at e
    cases dy with
    | lst ds =>
      cases h2 : D.pys ds with
      | none => simp only [h2] at e; cases e
      | some zs =>
        simp only [h2] at e
        split at e
        · rename_i q
          rw [Bool.and_eq_true] at q
          cases e
          have h3 : D.py (.lst ds) = some (.list zs) := by simp only [D.py, h2, Option.map_some]
          exact .inl ⟨zx, zs, dpx h1 hx, dpx h3 hy, q.1, q.2, rfl⟩
        · cases e
    | tup ds =>
      cases h2 : D.pys ds with
      | none => simp only [h2] at e; cases e
      | some zs =>
        simp only [h2] at e
        split at e
        · rename_i q
          rw [Bool.and_eq_true] at q
          cases e
          obtain ⟨pb, vb, ey, lb, rb⟩ := hy
          obtain ⟨i1, i2⟩ := inV_py q.1 h1 hx.lo q.2 h2 rb
          refine .inr ⟨pb, vb, ey, .inr lb.sq, ?_, i1, i2⟩
          have hx' := hx.lo
          cases dx <;> simp only [flat1, reduceCtorEq, Bool.false_eq_true, false_and] at q <;> simp only [Rep] at hx' <;> subst hx' <;> rfl
        · cases e
    | _ => cases e
theorem cop_in (hu : X.A.units + 65 < cLine) : OpR X (compareOp .In) (rCmp (gX T X) Wx inD) := by
  intro pins s σ H x y v u Q I rx ry h
  obtain ⟨ent, stp, M, o, σ1, env, w, dx, dy, l1, e1, l2, e2, S, hx, hy, p⟩ := h
  obtain ⟨b, e, q⟩ := p.cmp S
  rcases in_vals e hx hy with ⟨d, ds, h1, h2, h3, h4, h5⟩ | ⟨p0, xs, h1, h2, h3, h4, h5⟩
  · exact op_inD hu pins s σ H x y v u Q I rx ry ⟨d, ds, h1, h2, h3, h4, by rw [h5]; exact q⟩
  · exact op_in_seq pins s σ H x y v u Q I rx ry ⟨p0, xs, h1, h2, h3, h4, by
      show Q (.bl (inV x xs)) H
      rw [h5]; exact q⟩
theorem cop_notin (hu : X.A.units + 65 < cLine) : OpR X (compareOp .NotIn) (rCmp (gX T X) Wx fun a b => (inD a b).map (!·)) := by
  intro pins s σ H x y v u Q I rx ry h
  obtain ⟨ent, stp, M, o, σ1, env, w, dx, dy, l1, e1, l2, e2, S, hx, hy, p⟩ := h
  obtain ⟨b, e, q⟩ := p.cmp S
  obtain ⟨b', e', rfl⟩ := Option.map_eq_some_iff.mp e
  rcases in_vals e' hx hy with ⟨d, ds, h1, h2, h3, h4, h5⟩ | ⟨p0, xs, h1, h2, h3, h4, h5⟩
  · exact op_notInD hu pins s σ H x y v u Q I rx ry ⟨d, ds, h1, h2, h3, h4, by rw [h5]; exact q⟩
  · exact op_notIn_seq pins s σ H x y v u Q I rx ry ⟨p0, xs, h1, h2, h3, h4, by
      show Q (.bl (!inV x xs)) H
      rw [h5]; exact q⟩
theorem rep_non {g : G} {stp : Stp} {av ae : Addr → Prop} {H : Hp} {x : V} {d : D} (r : RepX g stp av ae H x d) : decide (x = .non) = isNonD d := by
  cases d with
  | non => have e : x = .non := r; subst e; rfl
  | bl _ => have e : x = .bl _ := r; subst e; rfl
  | int _ => have e : x = .int _ := r; subst e; rfl
  | str _ => have e : x = .str _ := r; subst e; rfl
  | tup _ => obtain ⟨a, vs, e, _⟩ := r; subst e; rfl
  | lst _ => obtain ⟨a, vs, e, _⟩ := r; subst e; rfl
  | fn _ => obtain ⟨a, e, _⟩ := r; subst e; rfl
  | st => obtain ⟨a, q, ns, e, _⟩ := r; subst e; rfl
  | frz _ => obtain ⟨a, vs, e, _⟩ := r; subst e; rfl
theorem cop_isN : OpR X (compareOp .Is) (rCmp (gX T X) Wx (cmpD .isnon)) := by
  intro pins s σ H x y v u Q I rx ry h
  obtain ⟨ent, stp, M, o, σ1, env, w, dx, dy, l1, e1, l2, e2, S, hx, hy, p⟩ := h
  obtain ⟨b, e, q⟩ := p.cmp S
  cases dy with
  | non =>
    have ey : y = .non := hy
    refine op_isN pins s σ H x y v u Q I rx ry ⟨ey, ?_⟩
    rw [rep_non hx]
    have e' : some (isNonD dx) = some b := e
    rw [Option.some.inj e']
    exact q
  | _ => cases dx <;> cases e
theorem cop_notN : OpR X (compareOp .IsNot) (rCmp (gX T X) Wx (cmpD .notnon)) := by
  intro pins s σ H x y v u Q I rx ry h
  obtain ⟨ent, stp, M, o, σ1, env, w, dx, dy, l1, e1, l2, e2, S, hx, hy, p⟩ := h
  obtain ⟨b, e, q⟩ := p.cmp S
  cases dy with
  | non =>
    have ey : y = .non := hy
    refine op_notN pins s σ H x y v u Q I rx ry ⟨ey, ?_⟩
    rw [rep_non hx]
    have e' : some (!isNonD dx) = some b := e
    rw [Option.some.inj e']
    exact q
  | _ => cases dx <;> cases e
theorem rCmp.congr {op : CmpOp} {f f' : D → D → Option Bool} (h : OpR X (compareOp op) (rCmp (gX T X) Wx f)) (e : ∀ a b, f' a b = f a b) : OpR X (compareOp op) (rCmp (gX T X) Wx f') := by
  have q : f' = f := funext fun a => funext fun b => e a b
  rw [q]
  exact h
theorem cop_ok (hu : X.A.units + 65 < cLine) {op : CmpOp} {c : Cop} (h : copOf op = some c) : OpR X (compareOp op) (rCmp (gX T X) Wx (cmpD c)) := by
  cases op <;> simp only [copOf, Option.some.injEq] at h <;> subst h
  · exact rCmp.congr (cop_eq (by omega)) fun a b => by cases a <;> cases b <;> rfl
  · exact rCmp.congr (cop_ne (by omega)) fun a b => by cases a <;> cases b <;> rfl
  · exact rCmp.congr (cop_lt (by omega)) fun a b => by cases a <;> cases b <;> rfl
  · exact cop_int op_le (.inl rfl) fun _ _ => rfl
  · exact cop_int op_gt (.inr (.inr rfl)) fun _ _ => rfl
  · exact cop_int op_ge (.inr (.inl rfl)) fun _ _ => rfl
  · exact cop_isN
  · exact cop_notN
  · exact rCmp.congr (cop_in hu) fun a b => by cases a <;> cases b <;> rfl
  · exact rCmp.congr (cop_notin hu) fun a b => by cases a <;> cases b <;> rfl
end
end PD
end
section
set_option Elab.async false
set_option linter.all false
set_option maxRecDepth 100000
set_option maxHeartbeats 2000000
/-! PD6: comparisons in place, displays, lists of arguments, items, slices. -/
namespace PD
open PySem L2 PyProof.Rows
section
variable {T : List (Addr × Str)} {pr : Pr} {C : Cm} {N : List Str} {dp : Nat} {X : Cx} {sc : Scope} {Wx : WX} {pos : Pos} {v : Ev}
theorem cmp_in {op : Cop} {ea eb : E} {σ : L2.St} {H : Hp} {Q : VK} (h : tR (gX T X) Wx [] [] (fun env w => (v.e ea env w).bind fun x w => (v.e eb env w).bind fun y w => R.opt ((cmpD op x y).map .bl) w) σ H Q) :
    tOp (rCmp (gX T X) Wx (cmpD op)) (tD (gX T X) v Wx ea) (tD (gX T X) v Wx eb) σ H Q := by
  obtain ⟨ent, stp, M, o, env, w, S, p⟩ := h
  refine ⟨ent, stp, M, o, env, w, S, Po.bind S p fun dx w1 x H1 _ S1 k1 rx p1 => ?_⟩
  refine ⟨ent, stp, M, o, env, w1, S1, Po.bind S1 p1 fun dy w2 y H2 _ S2 k2 ry p2 => ?_⟩
  exact ⟨ent, stp, M, o, σ, env, w2, dx, dy, _, _, _, _, S2, rx.keep (S1.ka k2) (S1.ka k2), ry, p2⟩
theorem se_cmp (hu : X.A.units + 65 < cLine) {op : CmpOp} {c : Cop} {a b : Expr} {ea eb : E} (h : copOf op = some c) (hm : behindInMarks op b = false) (ha : PE X a (tD (gX T X) v Wx ea)) (hb : PE X b (tD (gX T X) v Wx eb)) :
    PE X (.Compare a [op] [b] pos) (tR (gX T X) Wx [] [] fun env w => (v.e ea env w).bind fun x w => (v.e eb env w).bind fun y w => R.opt ((cmpD c x y).map .bl) w) :=
  (pe_cmpR (cop_ok hu h) ha hb hm).imp fun σ H Q q => cmp_in q
/-- a result that is a bool, as a test -/
theorem Po.testB {g : G} {ent : Hp} {stp : Stp} {M : Addr → Prop} {o : Nat → Option Addr} {σ : L2.St} {env : PD.Env} {w : W} {H : Hp} {r : R D} {Q : Bool → Hp → Prop} {l le : List Nat}
    (h : Po g stp Wx (fun _ b (x : Bool) => b = x) (r.bind fun d w => R.opt (truth d) w) σ H Q) (hb : ∀ d w, r = .ok d w → ∃ b, d = .bl b) : Po g stp Wx (relE g stp M o l le) r σ H fun x H' => ∃ k, x = .bl k ∧ Q k H' := by
  cases r with
  | exc c w' => exact h
  | stk => exact h
  | ok d w' =>
    obtain ⟨b, rfl⟩ := hb d w' rfl
    intro x H' k gs rx
    have ex : x = .bl b := rx
    exact ⟨b, ex, h b H' k gs rfl⟩
theorem cmp_bl {r : R D} {op : Cop} {ea eb : E} {env : PD.Env} {w w' : W} {d : D} (h : ((v.e ea env w).bind fun x w => (v.e eb env w).bind fun y w => R.opt ((cmpD op x y).map .bl) w) = .ok d w') : ∃ b, d = .bl b := by
  cases h1 : v.e ea env w with
  | exc _ _ => rw [h1] at h; cases h
  | stk => rw [h1] at h; cases h
  | ok x w1 =>
    rw [h1] at h
    have h : ((v.e eb env w1).bind fun y w => R.opt ((cmpD op x y).map .bl) w) = .ok d w' := h
    cases h2 : v.e eb env w1 with
    | exc _ _ => rw [h2] at h; cases h
    | stk => rw [h2] at h; cases h
    | ok y w2 =>
      rw [h2] at h
      have h : R.opt ((cmpD op x y).map .bl) w2 = .ok d w' := h
      cases h3 : cmpD op x y with
      | none => rw [h3] at h; cases h
      | some b => rw [h3] at h; cases h; exact ⟨b, rfl⟩
theorem st_cmp (hu : X.A.units + 65 < cLine) {op : CmpOp} {c : Cop} {a b : Expr} {ea eb : E} (h : copOf op = some c) (hm : behindInMarks op b = false) (ha : PE X a (tD (gX T X) v Wx ea)) (hb : PE X b (tD (gX T X) v Wx eb)) :
    PT X (.Compare a [op] [b] pos) (tRT (gX T X) Wx fun env w => (v.e ea env w).bind fun x w => (v.e eb env w).bind fun y w => R.opt ((cmpD c x y).map .bl) w) := by
  refine (pt_cmpR (cop_ok (T := T) (Wx := Wx) hu h) ha hb hm).imp ?_
  rintro σ H Q ⟨ent, stp, M, o, env, w, S, p⟩
  exact cmp_in ⟨ent, stp, M, o, env, w, S, p.testB (env := env) (w := w) (ent := ent) fun d w' e => cmp_bl (r := .stk) e⟩
theorem chn_in {o1 o2 : Cop} {ea eb ec : E} {σ : L2.St} {H : Hp} {Q : VK} (h : tR (gX T X) Wx [] [] (fun env w => (v.e ea env w).bind fun x w => (v.e eb env w).bind fun y w => match cmpD o1 x y with
    | some true => (v.e ec env w).bind fun z w => R.opt ((cmpD o2 y z).map .bl) w
    | some false => .ok (.bl false) w
    | none => .stk) σ H Q) :
    tChain (rCmp (gX T X) Wx (cmpD o1)) (rCmp (gX T X) Wx (cmpD o2)) (tD (gX T X) v Wx ea) (tD (gX T X) v Wx eb) (tD (gX T X) v Wx ec) σ H Q := by
  obtain ⟨ent, stp, M, o, env, w, S, p⟩ := h
  refine ⟨ent, stp, M, o, env, w, S, Po.bind S p fun dx w1 x H1 _ S1 k1 rx p1 => ?_⟩
  refine ⟨ent, stp, M, o, env, w1, S1, Po.bind S1 p1 fun dy w2 y H2 _ S2 k2 ry p2 => ?_⟩
  cases e : cmpD o1 dx dy with
  | none => rw [e] at p2; exact p2.elim
  | some k =>
    rw [e] at p2
    refine ⟨ent, stp, M, o, σ, env, w2, dx, dy, _, _, _, _, S2, rx.keep (S1.ka k2) (S1.ka k2), ry, ?_⟩
    rw [e]
    intro z H3 k3 gs rz
    have ez : z = .bl k := rz
    refine ⟨k, ez, ?_⟩
    have S3 := S2.step k3 gs
    have p3 := Po.mono k3 p2
    cases k with
    | true =>
      refine iteT ⟨ent, stp, M, o, env, w2, S3, Po.bind S3 p3 fun dz w4 z H4 _ S4 k4 rz p4 => ?_⟩
      exact ⟨ent, stp, M, o, σ, env, w4, dy, dz, _, _, _, _, S4, (ry.keep (S2.ka k3) (S2.ka k3)).keep (S3.ka k4) (S3.ka k4), rz, p4⟩
    | false => exact iteF (Po.bl p3 S3)
theorem se_chn (hu : X.A.units + 65 < cLine) {p q : CmpOp} {o1 o2 : Cop} {a b c : Expr} {ea eb ec : E} (h : copOf p = some o1) (h' : copOf q = some o2) (hm : lastMarks [p, q] [b, c] = false) (ha : PE X a (tD (gX T X) v Wx ea)) (hb : PE X b (tD (gX T X) v Wx eb))
    (hc : PE X c (tD (gX T X) v Wx ec)) : PE X (.Compare a [p, q] [b, c] pos) (tR (gX T X) Wx [] [] fun env w => (v.e ea env w).bind fun x w => (v.e eb env w).bind fun y w => match cmpD o1 x y with
    | some true => (v.e ec env w).bind fun z w => R.opt ((cmpD o2 y z).map .bl) w
    | some false => .ok (.bl false) w
    | none => .stk) := (pe_chain (cop_ok hu h) (cop_ok hu h') ha hb hc hm).imp fun σ H Q q => chn_in q
theorem opt_bl {r : Option Bool} {w w' : W} {d : D} (h : R.opt (r.map D.bl) w = .ok d w') : ∃ b, d = .bl b := by
  cases r with
  | none => cases h
  | some b => cases h; exact ⟨b, rfl⟩
theorem chn_bl {o1 o2 : Cop} {ea eb ec : E} {env : PD.Env} {w w' : W} {d : D} (h : ((v.e ea env w).bind fun x w => (v.e eb env w).bind fun y w => match cmpD o1 x y with
    | some true => (v.e ec env w).bind fun z w => R.opt ((cmpD o2 y z).map .bl) w
    | some false => .ok (.bl false) w
    | none => .stk) = .ok d w') : ∃ b, d = .bl b := by
  cases h1 : v.e ea env w with
  | exc _ _ => rw [h1] at h; cases h
  | stk => rw [h1] at h; cases h
  | ok x w1 =>
    rw [h1] at h
    dsimp only [R.bind] at h
    cases h2 : v.e eb env w1 with
    | exc _ _ => rw [h2] at h; cases h
    | stk => rw [h2] at h; cases h
    | ok y w2 =>
      rw [h2] at h
      dsimp only at h
      cases h3 : cmpD o1 x y with
      | none => rw [h3] at h; cases h
      | some b =>
        rw [h3] at h
        cases b with
        | false => cases h; exact ⟨_, rfl⟩
        | true =>
          dsimp only at h
          cases h4 : v.e ec env w2 with
          | exc _ _ => rw [h4] at h; cases h
          | stk => rw [h4] at h; cases h
          | ok z w3 => rw [h4] at h; exact opt_bl h
theorem st_chn (hu : X.A.units + 65 < cLine) {p q : CmpOp} {o1 o2 : Cop} {a b c : Expr} {ea eb ec : E} (h : copOf p = some o1) (h' : copOf q = some o2) (hm : lastMarks [p, q] [b, c] = false) (ha : PE X a (tD (gX T X) v Wx ea)) (hb : PE X b (tD (gX T X) v Wx eb))
    (hc : PE X c (tD (gX T X) v Wx ec)) : PT X (.Compare a [p, q] [b, c] pos) (tRT (gX T X) Wx fun env w => (v.e ea env w).bind fun x w => (v.e eb env w).bind fun y w => match cmpD o1 x y with
    | some true => (v.e ec env w).bind fun z w => R.opt ((cmpD o2 y z).map .bl) w
    | some false => .ok (.bl false) w
    | none => .stk) := by
  refine (pt_chain (cop_ok (T := T) (Wx := Wx) hu h) (cop_ok (T := T) (Wx := Wx) hu h') ha hb hc hm).imp ?_
  rintro σ H Q ⟨ent, stp, M, o, env, w, S, p⟩
  exact chn_in ⟨ent, stp, M, o, env, w, S, p.testB (env := env) (w := w) (ent := ent) fun d w' e => chn_bl e⟩
/-! ### argument lists -/
inductive PEL (T : List (Addr × Str)) (X : Cx) (v : Ev) (Wx : WX) : List Expr → List E → Prop
  | nil : PEL T X v Wx [] []
  | cons {e : Expr} {es : List Expr} {ee : E} {ees : List E} : isStar e = false → PE X e (tD (gX T X) v Wx ee) → PEL T X v Wx es ees → PEL T X v Wx (e :: es) (ee :: ees)
theorem star_no {e : Expr} (h : isStar e = false) (es : List Expr) (env : PySem.Env) : starEach (e :: es) env = (false, eval e env) :: starEach es env := by
  cases e <;> first | rfl | cases h
theorem PEL.star {es : List Expr} {ees : List E} (h : PEL T X v Wx es ees) (env : PySem.Env) (p : Pos) : (backTo p (starEach es env)).any (·.1) = false := by
  induction h with
  | nil => rfl
  | cons h1 _ _ ih =>
    rw [star_no h1]
    show (false || _) = false
    rw [Bool.false_or]
    exact ih
theorem se_args {es : List Expr} {ees : List E} (h : PEL T X v Wx es ees) : PA X es (tDL (gX T X) v Wx ees) := by
  induction h with
  | nil =>
    refine pa_nil.imp ?_
    rintro σ H Q ⟨ent, stp, M, o, env, w, S, p⟩
    exact p.use S (v := []) trivial
  | cons h1 h2 _ ih =>
    refine (pa_cons h2 ih (star_no h1 _ _)).imp ?_
    rintro σ H Q ⟨ent, stp, M, o, env, w, S, p⟩
    refine ⟨ent, stp, M, o, env, w, S, Po.bind S p fun dx w1 x H1 _ S1 k1 rx p1 => ?_⟩
    refine ⟨ent, stp, M, o, env, w1, S1, Po.bind S1 p1 fun ds w2 xs H2 _ S2 k2 rxs p2 => ?_⟩
    refine p2.use S2 ⟨?_, rxs.weak (Av.sub fun i q => List.mem_append_right _ q)⟩
    refine ((rx.keep (S1.ka k2) (S1.ka k2)).weak (Av.sub fun i q => List.mem_append_left _ q) (Av.sub fun i q => List.mem_append_left _ (alE_sub q))).rep fun _ q => q
theorem se_tup {es : List Expr} {ees : List E} {k : Nat} (h : PEL T X v Wx es ees) : PE X (.Tuple es k pos) (tR (gX T X) Wx (als ees) (als ees) fun env w => (evs v ees env w).bind fun ds w => if szOk ds.length = true then .ok (.tup ds) w else .stk) := by
  refine (pe_tup (se_args h)).imp ?_
  rintro σ H Q ⟨ent, stp, M, o, env, w, S, p⟩
  refine ⟨ent, stp, M, o, env, w, S, Po.bind S p fun ds w1 xs H1 _ S1 k1 rx p1 => ?_⟩
  split at p1
  · rename_i q
    exact ⟨by rw [rx.length]; exact szOk_le q, fun p0 hp => p1.newT S1 rx hp⟩
  · exact p1.elim
theorem se_lst {es : List Expr} {ees : List E} {f : Bool} (h : PEL T X v Wx es ees) : PE X (.List es pos) (tRf (gX T X) Wx f (als ees) (als ees) fun env w => (evs v ees env w).bind fun ds w => if szOk ds.length = true then .ok (.lst ds) w else .stk) := by
  refine (pe_lst (se_args h)).imp ?_
  rintro σ H Q ⟨ent, stp, M, o, env, w, S, p⟩
  refine ⟨ent, stp, M, o, env, w, S, Po.bind S p fun ds w1 xs H1 _ S1 k1 rx p1 => ?_⟩
  split at p1
  · rename_i q
    exact ⟨by rw [rx.length]; exact szOk_le q, fun p0 hp => p1.newLF S1 rx hp⟩
  · exact p1.elim
/-! ### items -/
theorem seqIx_at {α : Type} {xs : List α} {i : Int} {k : Nat} {z : α} (h : seqIx xs.length i = some k) (hz : xs[k]? = some z) : atI xs i = some z := by
  unfold seqIx at h
  unfold atI ixN
  split at h
  · rename_i q
    cases h
    rw [if_pos q.1, if_pos q.2]
    exact hz
  · split at h
    · rename_i q1 q2
      cases h
      rw [if_neg (by omega), if_pos q2.2]
      exact hz
    · cases h
/-- the stream's two items -/
theorem GR.st {g : G} {stp : Stp} {av : Addr → Prop} {H : Hp} {w : W} {x : V} (h : GR g stp av H w) (r : Rep g stp av H x .st) : ∃ p q ns k, x = .ref p ∧ stp = some (p, q, ns) ∧ w = some (ns, k) ∧ H p = some (.lst [.ref q, .int k]) ∧ LsA av H q (ns.map V.int) := by
  obtain ⟨p, q, ns, e, es⟩ := r
  subst es
  obtain ⟨⟨h1, h2⟩, h3⟩ := h
  cases w with
  | none => exact h2.elim
  | some y =>
    obtain ⟨ns', k⟩ := y
    obtain ⟨e2, h4⟩ := h2
    subst e2
    exact ⟨p, q, ns', k, e, rfl, rfl, h4, h3 p q ns' rfl⟩
theorem se_sub {a b : Expr} {ea eb : E} (hs : PlainIx b) (ha : PE X a (tD (gX T X) v Wx ea)) (hb : PE X b (tD (gX T X) v Wx eb)) :
    PE X (.Subscript a b pos) (tR (gX T X) Wx (alE ea) (alE ea) fun env w => (v.e ea env w).bind fun x w => (v.e eb env w).bind fun y w => subW x y w) := by
  refine (pe_ix (ix_list.or ix_tup) ha hb hs).imp ?_
  rintro σ H Q ⟨ent, stp, M, o, env, w, S, p⟩
  refine ⟨ent, stp, M, o, env, w, S, Po.bind S p fun dx w1 x H1 _ S1 k1 rx p1 => ?_⟩
  refine ⟨ent, stp, M, o, env, w1, S1, Po.bind S1 p1 fun dy w2 y H2 _ S2 k2 ry p2 => ?_⟩
  have rx := rx.keep (S1.ka k2) (S1.ka k2)
  cases dx with
  | lst ds =>
    obtain ⟨dz, e, p3⟩ := Po.opt_some (show Po _ _ _ _ (R.opt (subD (.lst ds) dy) w2) σ H2 Q from p2)
    cases dy with
    | int i =>
      have ey : y = .int i := ry
      obtain ⟨k, e1, e2⟩ := Option.bind_eq_some_iff.mp (show (seqIx ds.length i).bind _ = some dz from e)
      obtain ⟨pa, vs, ex, la, ra⟩ := rx
      obtain ⟨z, e3, rz⟩ := ra.get e2
      refine .inl ⟨pa, vs, i, z, ex, ey, la.sq, seqIx_at (k := k) (by rw [ra.length]; exact e1) e3, p3.use S2 (RepX.of rz)⟩
    | _ => cases e
  | tup ds =>
    obtain ⟨dz, e, p3⟩ := Po.opt_some (show Po _ _ _ _ (R.opt (subD (.tup ds) dy) w2) σ H2 Q from p2)
    cases dy with
    | int i =>
      have ey : y = .int i := ry
      obtain ⟨k, e1, e2⟩ := Option.bind_eq_some_iff.mp (show (seqIx ds.length i).bind _ = some dz from e)
      obtain ⟨pa, vs, ex, la, ra⟩ := rx
      obtain ⟨z, e3, rz⟩ := ra.get e2
      refine .inr ⟨pa, vs, i, z, ex, ey, la.sq, seqIx_at (k := k) (by rw [ra.length]; exact e1) e3, p3.use S2 (RepX.of rz)⟩
    | _ => cases e
  | st =>
    obtain ⟨pp, q, ns, k, ex, es, ew, hp, hq⟩ := S2.gr.st (x := x) rx
    subst ew
    cases dy with
    | int i =>
      have ey : y = .int i := ry
      have p3 : Po (gX T X) stp Wx (relE (gX T X) stp M o (alE ea) (alE ea)) (if i = 0 then .ok (.lst (ns.map .int)) (some (ns, k)) else if i = 1 then .ok (.int k) (some (ns, k)) else .stk) σ H2 Q := p2
      split at p3
      · rename_i h0
        refine .inl ⟨pp, _, i, .ref q, ex, ey, .of hp, by rw [h0]; rfl, p3.use S2 ⟨q, _, rfl, hq.weak Av.nil, reps_ints ns⟩⟩
      · split at p3
        · rename_i h1
          refine .inl ⟨pp, _, i, .int k, ex, ey, .of hp, by rw [h1]; rfl, p3.int S2⟩
        · exact p3.elim
    | _ => exact (show False from p2).elim
  | _ => exact (show False from p2).elim
end
end PD
end
section
set_option Elab.async false
set_option linter.all false
set_option maxRecDepth 100000
set_option maxHeartbeats 2000000
/-! PD7: built-in functions by values. -/
namespace PD
open PySem L2 PyProof.Rows
section
variable {T : List (Addr × Str)} {pr : Pr} {C : Cm} {N : List Str} {dp : Nat} {X : Cx} {sc : Scope} {Wx : WX} {pos : Pos} {v : Ev} {l l' : List Nat} {qf : Bool}
def rBlt (g : G) (Wx : WX) (q : Bool) (b : Blt) (l l' : List Nat) : List V → Hp → VK → Prop := fun vs H Q => ∃ ent stp M o σ env w ds, SI g ent stp M o σ env w H ∧ Reps g stp (Av M o l) H vs ds ∧ Po g stp Wx (relF g ent q stp M o l' l') (R.opt (bltD b ds) w) σ H Q
theorem reps1 {g : G} {stp : Stp} {av : Addr → Prop} {H : Hp} {vs : List V} {d : D} (h : Reps g stp av H vs [d]) : ∃ x, vs = [x] ∧ Rep g stp av H x d := by
  cases vs with
  | nil => exact h.elim
  | cons x r =>
    cases r with
    | nil => exact ⟨x, rfl, h.1⟩
    | cons _ _ => exact h.2.elim
theorem reps2 {g : G} {stp : Stp} {av : Addr → Prop} {H : Hp} {vs : List V} {d e : D} (h : Reps g stp av H vs [d, e]) : ∃ x y, vs = [x, y] ∧ Rep g stp av H x d ∧ Rep g stp av H y e := by
  cases vs with
  | nil => exact h.elim
  | cons x r =>
    obtain ⟨y, rfl, h2⟩ := reps1 h.2
    exact ⟨x, y, rfl, h.1, h2⟩
theorem blt_case {b : Blt} {ds : List D} {d : D} (e : bltD b ds = some d) : (∃ x, ds = [x]) ∨ ∃ i j, ds = [.int i, .int j] ∧ (b = .max ∨ b = .min) := by
  rcases ds with _ | ⟨x, _ | ⟨y, _ | ⟨z, r⟩⟩⟩
  · cases b <;> cases e
  · exact .inl ⟨x, rfl⟩
  · cases b <;> cases x <;> cases y <;> first | exact .inr ⟨_, _, rfl, .inl rfl⟩ | exact .inr ⟨_, _, rfl, .inr rfl⟩ | cases e
  · cases b <;> cases x <;> try cases y
    all_goals cases e
theorem rb_of {b : Blt} {f : Value} {r : List V → Hp → VK → Prop} (hr : CallR X f r)
    (h1 : ∀ ent stp M o σ env w d z vs H Q, SI (gX T X) ent stp M o σ env w H → bltD b [d] = some z → Reps (gX T X) stp (Av M o l) H vs [d] → Po (gX T X) stp Wx (relF (gX T X) ent qf stp M o l' l') (.ok z w) σ H Q → r vs H Q)
    (h2 : b ≠ .max ∧ b ≠ .min) : CallR X f (rBlt (gX T X) Wx qf b l l') := by
  intro pins s σ H xs us Q I rv h
  obtain ⟨ent, stp, M, o, σ1, env, w, ds, S, rx, p⟩ := h
  obtain ⟨d, e, p'⟩ := p.opt_some
  rcases blt_case e with ⟨x, rfl⟩ | ⟨i, j, rfl, q | q⟩
  · exact hr pins s σ H xs us Q I rv (h1 ent stp M o σ1 env w x d xs H Q S e rx p')
  · exact absurd q h2.1
  · exact absurd q h2.2
theorem rb_len : CallR X (.builtin "len") (rBlt (gX T X) Wx qf .len l l') := rb_of call_len (fun ent stp M o σ env w d z vs H Q S e rv p => by
  obtain ⟨x, rfl, rx⟩ := reps1 rv
  cases d with
  | lst ds =>
    obtain ⟨a, vs, ex, la, ra⟩ := rx
    subst ex
    obtain ⟨q, rfl⟩ := guardO_some (show guardO _ _ = some z from e)
    exact ⟨_, ds.length, rfl, .inl ⟨vs, la.sq, ra.length.symm⟩, p.int S⟩
  | tup ds =>
    obtain ⟨a, vs, ex, la, ra⟩ := rx
    subst ex
    obtain ⟨q, rfl⟩ := guardO_some (show guardO _ _ = some z from e)
    exact ⟨_, ds.length, rfl, .inr ⟨vs, la.sq, ra.length.symm⟩, p.int S⟩
  | str y =>
    have ex : x = .str y := rx
    subst ex
    obtain ⟨q, rfl⟩ := guardO_some (show guardO _ _ = some z from e)
    exact ⟨_, y.length, rfl, ⟨szOk_le q, rfl⟩, p.int S⟩
  | _ => cases e) ⟨nofun, nofun⟩
theorem rb_abs : CallR X (.builtin "abs") (rBlt (gX T X) Wx qf .abs l l') := rb_of call_abs (fun ent stp M o σ env w d z vs H Q S e rv p => by
  obtain ⟨x, rfl, rx⟩ := reps1 rv
  cases d with
  | int i => have ex : x = .int i := rx; subst ex; cases e; exact ⟨i, rfl, p.int S⟩
  | _ => cases e) ⟨nofun, nofun⟩
theorem rb_int : CallR X (.type "int") (rBlt (gX T X) Wx qf .int l l') := rb_of call_int1 (fun ent stp M o σ env w d z vs H Q S e rv p => by
  obtain ⟨x, rfl, rx⟩ := reps1 rv
  cases d with
  | int i => have ex : x = .int i := rx; subst ex; cases e; exact .inl ⟨i, rfl, p.int S⟩
  | bl i => have ex : x = .bl i := rx; subst ex; cases e; exact .inr ⟨i, rfl, p.int S⟩
  | _ => cases e) ⟨nofun, nofun⟩
theorem rb_str : CallR X (.type "str") (rBlt (gX T X) Wx qf .str l l') := rb_of call_str_int (fun ent stp M o σ env w d z vs H Q S e rv p => by
  obtain ⟨x, rfl, rx⟩ := reps1 rv
  cases d with
  | int i =>
    have ex : x = .int i := rx
    subst ex
    obtain ⟨q, rfl⟩ := guardO_some (show guardO _ _ = some z from e)
    exact ⟨i, rfl, of_decide_eq_true q, p.str S⟩
  | _ => cases e) ⟨nofun, nofun⟩
theorem rb_sum (hc : X.calm = true) : CallR X (.builtin "sum") (rBlt (gX T X) Wx qf .sum l l') := rb_of (cr_sum hc) (fun ent stp M o σ env w d z vs H Q S e rv p => by
  obtain ⟨x, rfl, rx⟩ := reps1 rv
  cases d with
  | lst ds =>
    obtain ⟨a, vs, ex, la, ra⟩ := rx
    subst ex
    obtain ⟨ns, e1, rfl⟩ := Option.map_eq_some_iff.mp (show (ints? ds).map _ = some z from e)
    rw [ra.ints e1] at la
    exact ⟨a, ns, rfl, la.sq, p.int S⟩
  | _ => cases e) ⟨nofun, nofun⟩
theorem rb_any (hc : X.calm = true) : CallR X (.builtin "any") (rBlt (gX T X) Wx qf .any l l') := rb_of (cr_any hc) (fun ent stp M o σ env w d z vs H Q S e rv p => by
  obtain ⟨x, rfl, rx⟩ := reps1 rv
  cases d with
  | lst ds =>
    obtain ⟨a, vs, ex, la, ra⟩ := rx
    subst ex
    obtain ⟨ns, e1, rfl⟩ := Option.map_eq_some_iff.mp (show (bools? ds).map _ = some z from e)
    rw [ra.bools e1] at la
    exact ⟨a, ns, rfl, la.sq, p.bl S⟩
  | _ => cases e) ⟨nofun, nofun⟩
theorem rb_all (hc : X.calm = true) : CallR X (.builtin "all") (rBlt (gX T X) Wx qf .all l l') := rb_of (cr_all hc) (fun ent stp M o σ env w d z vs H Q S e rv p => by
  obtain ⟨x, rfl, rx⟩ := reps1 rv
  cases d with
  | lst ds =>
    obtain ⟨a, vs, ex, la, ra⟩ := rx
    subst ex
    obtain ⟨ns, e1, rfl⟩ := Option.map_eq_some_iff.mp (show (bools? ds).map _ = some z from e)
    rw [ra.bools e1] at la
    exact ⟨a, ns, rfl, la.sq, p.bl S⟩
  | _ => cases e) ⟨nofun, nofun⟩
theorem maxI_ge : ∀ (xs : List Int) (m : Int), m ≤ maxI m xs
  | [], m => Int.le_refl _
  | x :: xs, m => by
    have h := maxI_ge xs (if x > m then x else m)
    show m ≤ maxI (if x > m then x else m) xs
    split at h <;> rename_i q
    · rw [if_pos q]; omega
    · rw [if_neg q]; exact h
theorem maxI_ub : ∀ (xs : List Int) (m y : Int), y ∈ xs → y ≤ maxI m xs
  | x :: xs, m, y, h => by
    show y ≤ maxI (if x > m then x else m) xs
    rcases List.mem_cons.mp h with rfl | h
    · have h := maxI_ge xs (if y > m then y else m)
      split at h <;> rename_i q
      · rw [if_pos q]; exact h
      · rw [if_neg q]; omega
    · exact maxI_ub xs _ y h
theorem maxI_mem : ∀ (xs : List Int) (m : Int), maxI m xs ∈ m :: xs
  | [], m => List.mem_singleton_self m
  | x :: xs, m => by
    show maxI (if x > m then x else m) xs ∈ _
    have h := maxI_mem xs (if x > m then x else m)
    rcases List.mem_cons.mp h with h | h
    · rw [h]
      split
      · exact List.mem_cons_of_mem _ List.mem_cons_self
      · exact List.mem_cons_self
    · exact List.mem_cons_of_mem _ (List.mem_cons_of_mem _ h)
theorem minI_le : ∀ (xs : List Int) (m : Int), minI m xs ≤ m
  | [], m => Int.le_refl _
  | x :: xs, m => by
    have h := minI_le xs (if x < m then x else m)
    show minI (if x < m then x else m) xs ≤ m
    split at h <;> rename_i q
    · rw [if_pos q]; omega
    · rw [if_neg q]; exact h
theorem minI_lb : ∀ (xs : List Int) (m y : Int), y ∈ xs → minI m xs ≤ y
  | x :: xs, m, y, h => by
    show minI (if x < m then x else m) xs ≤ y
    rcases List.mem_cons.mp h with rfl | h
    · have h := minI_le xs (if y < m then y else m)
      split at h <;> rename_i q
      · rw [if_pos q]; exact h
      · rw [if_neg q]; omega
    · exact minI_lb xs _ y h
theorem minI_mem : ∀ (xs : List Int) (m : Int), minI m xs ∈ m :: xs
  | [], m => List.mem_singleton_self m
  | x :: xs, m => by
    show minI (if x < m then x else m) xs ∈ _
    have h := minI_mem xs (if x < m then x else m)
    rcases List.mem_cons.mp h with h | h
    · rw [h]
      split
      · exact List.mem_cons_of_mem _ List.mem_cons_self
      · exact List.mem_cons_self
    · exact List.mem_cons_of_mem _ (List.mem_cons_of_mem _ h)
theorem rb_max (hc : X.calm = true) : CallR X (.builtin "max") (rBlt (gX T X) Wx qf .max l l') := by
  intro pins s σ H xs us Q I rv h
  obtain ⟨ent, stp, M, o, σ1, env, w, ds, S, rx, p⟩ := h
  obtain ⟨z, e, p'⟩ := p.opt_some
  rcases blt_case e with ⟨d, rfl⟩ | ⟨i, j, rfl, _⟩
  · clear p
    have p := p'
    obtain ⟨x, rfl, ry⟩ := reps1 rx
    clear rx
    have rx := ry
    cases d with
    | lst ds =>
      obtain ⟨a, vs, ex, la, ra⟩ := rx
      subst ex
      have e : (match ints? ds with | some (x :: xs) => some (D.int (maxI x xs)) | _ => none) = some z := e
      cases e1 : ints? ds with
      | none => rw [e1] at e; cases e
      | some ns =>
        rw [e1] at e
        cases ns with
        | nil => cases e
        | cons n ns =>
          cases e
          rw [ra.ints e1] at la
          refine cr_max hc pins s σ H _ us Q I rv ⟨a, n :: ns, rfl, la.sq, Nat.succ_pos _, fun m hm hu => ?_⟩
          have k : m = maxI n ns := by
            have h1 := hu _ (maxI_mem ns n)
            have h2 : m ≤ maxI n ns := by
              rcases List.mem_cons.mp hm with rfl | hm
              · exact maxI_ge _ _
              · exact maxI_ub _ _ _ hm
            omega
          rw [k]
          exact p.int S
    | _ => cases e
  · clear p
    have p := p'
    obtain ⟨x, y, rfl, r1, r2⟩ := reps2 rx
    have ex : x = .int i := r1
    have ey : y = .int j := r2
    subst ex ey
    cases e
    exact call_max2 hc pins s σ H _ us Q I rv ⟨i, j, rfl, p.int S⟩
theorem rb_min (hc : X.calm = true) : CallR X (.builtin "min") (rBlt (gX T X) Wx qf .min l l') := by
  intro pins s σ H xs us Q I rv h
  obtain ⟨ent, stp, M, o, σ1, env, w, ds, S, rx, p⟩ := h
  obtain ⟨z, e, p'⟩ := p.opt_some
  rcases blt_case e with ⟨d, rfl⟩ | ⟨i, j, rfl, _⟩
  · clear p
    have p := p'
    obtain ⟨x, rfl, ry⟩ := reps1 rx
    clear rx
    have rx := ry
    cases d with
    | lst ds =>
      obtain ⟨a, vs, ex, la, ra⟩ := rx
      subst ex
      have e : (match ints? ds with | some (x :: xs) => some (D.int (minI x xs)) | _ => none) = some z := e
      cases e1 : ints? ds with
      | none => rw [e1] at e; cases e
      | some ns =>
        rw [e1] at e
        cases ns with
        | nil => cases e
        | cons n ns =>
          cases e
          rw [ra.ints e1] at la
          refine cr_min hc pins s σ H _ us Q I rv ⟨a, n :: ns, rfl, la.sq, Nat.succ_pos _, fun m hm hu => ?_⟩
          have k : m = minI n ns := by
            have h1 := hu _ (minI_mem ns n)
            have h2 : minI n ns ≤ m := by
              rcases List.mem_cons.mp hm with rfl | hm
              · exact minI_le _ _
              · exact minI_lb _ _ _ hm
            omega
          rw [k]
          exact p.int S
    | _ => cases e
  · clear p
    have p := p'
    obtain ⟨x, y, rfl, r1, r2⟩ := reps2 rx
    have ex : x = .int i := r1
    have ey : y = .int j := r2
    subst ex ey
    cases e
    exact call_min2 hc pins s σ H _ us Q I rv ⟨i, j, rfl, p.int S⟩
theorem rb_tuple (hl : ∀ i, i ∈ l → i ∈ l') : CallR X (.type "tuple") (rBlt (gX T X) Wx qf .tuple l l') := rb_of call_tuple_of (fun ent stp M o σ env w d z vs H Q S e rv p => by
  obtain ⟨x, rfl, rx⟩ := reps1 rv
  cases d with
  | lst ds =>
    obtain ⟨a, vs, ex, la, ra⟩ := rx
    subst ex
    cases e
    exact ⟨a, vs, rfl, .inl ⟨la.sq, fun q hq => p.newTF S (ra.weak (Av.sub hl)) hq⟩⟩
  | tup ds =>
    obtain ⟨a, vs, ex, la, ra⟩ := rx
    subst ex
    cases e
    exact ⟨a, vs, rfl, .inr ⟨la.sq, p.useT S ⟨a, vs, rfl, S.tp la, ra.weak (Av.sub hl)⟩⟩⟩
  | _ => cases e) ⟨nofun, nofun⟩
theorem rb_list (hl : ∀ i, i ∈ l → i ∈ l') : CallR X (.type "list") (rBlt (gX T X) Wx qf .list l l') := rb_of call_list_of (fun ent stp M o σ env w d z vs H Q S e rv p => by
  obtain ⟨x, rfl, rx⟩ := reps1 rv
  cases d with
  | lst ds =>
    obtain ⟨a, vs, ex, la, ra⟩ := rx
    subst ex
    cases e
    exact ⟨a, vs, rfl, .inl la.sq, fun q hq => p.newLF S (ra.weak (Av.sub hl)) hq⟩
  | tup ds =>
    obtain ⟨a, vs, ex, la, ra⟩ := rx
    subst ex
    cases e
    exact ⟨a, vs, rfl, .inr la.sq, fun q hq => p.newLF S (ra.weak (Av.sub hl)) hq⟩
  | _ => cases e) ⟨nofun, nofun⟩
theorem insI_perm (x : Int) : ∀ xs : List Int, (insI x xs).Perm (x :: xs)
  | [] => .refl _
  | y :: ys => by
    show (if x ≤ y then x :: y :: ys else y :: insI x ys).Perm _
    split
    · exact .refl _
    · exact ((insI_perm x ys).cons y).trans (.swap _ _ _)
theorem sortI_perm : ∀ xs : List Int, (sortI xs).Perm xs
  | [] => .refl _
  | x :: xs => (insI_perm x (sortI xs)).trans ((sortI_perm xs).cons x)
theorem insI_sorted (x : Int) : ∀ xs : List Int, xs.Pairwise (· ≤ ·) → (insI x xs).Pairwise (· ≤ ·)
  | [], _ => .cons (fun _ h => nomatch h) .nil
  | y :: ys, h => by
    show (if x ≤ y then x :: y :: ys else y :: insI x ys).Pairwise _
    obtain ⟨h1, h2⟩ := List.pairwise_cons.mp h
    split <;> rename_i q
    · refine .cons (fun z hz => ?_) h
      rcases List.mem_cons.mp hz with rfl | hz
      · exact q
      · exact Int.le_trans q (h1 z hz)
    · refine .cons (fun z hz => ?_) (insI_sorted x ys h2)
      rcases List.mem_cons.mp ((insI_perm x ys).mem_iff.mp hz) with rfl | hz
      · omega
      · exact h1 z hz
theorem sortI_sorted : ∀ xs : List Int, (sortI xs).Pairwise (· ≤ ·)
  | [] => .nil
  | x :: xs => insI_sorted x _ (sortI_sorted xs)
theorem sorted_uniq {xs ys : List Int} (hp : xs.Perm ys) (h1 : xs.Pairwise (· ≤ ·)) (h2 : ys.Pairwise (· ≤ ·)) : xs = ys :=
  hp.eq_of_pairwise (fun a b _ _ h h' => Int.le_antisymm h h') h1 h2
theorem rb_sorted : CallR X (.builtin "sorted") (rBlt (gX T X) Wx qf .sorted l l') := rb_of cr_sortedI (fun ent stp M o σ env w d z vs H Q S e rv p => by
  obtain ⟨x, rfl, rx⟩ := reps1 rv
  cases d with
  | lst ds =>
    obtain ⟨a, vs, ex, la, ra⟩ := rx
    subst ex
    obtain ⟨ns, e1, rfl⟩ := Option.map_eq_some_iff.mp (show (ints? ds).map _ = some z from e)
    rw [ra.ints e1] at la
    refine ⟨a, ns, rfl, la.sq, fun ns' q hp hs hq => ?_⟩
    have k : ns' = sortI ns := sorted_uniq (hp.trans (sortI_perm ns).symm) hs (sortI_sorted ns)
    subst k
    exact p.newLF S (reps_ints _) hq
  | _ => cases e) ⟨nofun, nofun⟩
theorem rb_repr (hg : X.A.guards = some []) (hu : X.A.units + 65 < cLine) : CallR X (.builtin "repr") (rBlt (gX T X) Wx qf .repr l l') := by
  intro pins s σ H xs us Q I rv h
  obtain ⟨ent, stp, M, o, σ1, env, w, ds, S, rx, p⟩ := h
  obtain ⟨z, e, p'⟩ := p.opt_some
  rcases blt_case e with ⟨d, rfl⟩ | ⟨i, j, rfl, q | q⟩
  · clear p
    have p := p'
    obtain ⟨x, rfl, ry⟩ := reps1 rx
    clear rx
    have rx := ry
    cases d with
    | lst ds =>
      obtain ⟨y, e1, rfl⟩ := Option.map_eq_some_iff.mp (show (reprD (.lst ds)).map _ = some z from e)
      unfold reprD at e1
      cases e2 : D.py (.lst ds) with
      | none => rw [e2] at e1; cases e1
      | some d =>
        rw [e2] at e1
        dsimp only at e1
        split at e1
        · rename_i q
          cases e1
          rw [Bool.and_eq_true, Bool.and_eq_true] at q
          have hd := dp_of e2 rx
          obtain ⟨a, vs, ex, la, ra⟩ := rx
          subst ex
          rw [Vals.ref1 rv]
          obtain ⟨as, hr⟩ := Dp.reads I d _ (.ref a) hd rfl
          have hdep := SeqAt.depth_of_shaped q.1
          refine repr_of_reads' hr q.2.1 (PyData.noDict_hsm (PyData.hasDict_of_canLay d (SeqAt.canLay_of_shaped q.1))) hg (by omega) (fun _ _ h => h) (fun h' u tk hk => ?_) (szOk_le q.2.2)
          exact ⟨.str _, H, I.kept hk, ⟨_, rfl⟩, p.str S⟩
        · cases e1
    | _ => cases e
  · cases q
  · cases q
end
end PD
end
section
set_option Elab.async false
set_option linter.all false
set_option maxRecDepth 100000
set_option maxHeartbeats 2000000
/-! PD8: calls of built-ins, slices, texts, calls of defs. -/
namespace PD
open PySem L2 PyProof.Rows
section
variable {T : List (Addr × Str)} {pr : Pr} {C : Cm} {N : List Str} {dp : Nat} {X : Cx} {sc : Scope} {Wx : WX} {p pos : Pos} {v u : Ev} {l l' : List Nat} {qf : Bool}
theorem cb_in {b : Blt} {ees : List E} {l' : List Nat} {σ : L2.St} {H : Hp} {Q : VK} {g : G} (h : tRf g Wx qf l' l' (fun env w => (evs v ees env w).bind fun ds w => R.opt (bltD b ds) w) σ H Q) : tCB (rBlt g Wx qf b (als ees) l') (tDL g v Wx ees) σ H Q := by
  obtain ⟨ent, stp, M, o, env, w, S, p⟩ := h
  exact ⟨ent, stp, M, o, env, w, S, Po.bind S p fun ds w1 xs H1 _ S1 k1 rx p1 => ⟨ent, stp, M, o, σ, env, w1, ds, S1, rx, p1⟩⟩
theorem blt_b (ok : XOk T pr C N dp X sc) {x id : Str} {i : String} {b : Blt} (hb : bltOf x = some b) (hg : glbB sc x = true) {e : Expr} {es : List Expr} {ees : List E} (hv : bootBuiltins x = some (.builtin i)) (h : PEL T X v Wx (e :: es) ees)
    (hn : x ≠ "__name__") (hdb : (x == ("__debug__" : Str)) = false) (hr : CallR X (.builtin i) (rBlt (gX T X) Wx qf b (als ees) l')) :
    PE X (.Call (.Name x p) (e :: es) [] pos) (tRf (gX T X) Wx qf l' l' fun env w => (evs v ees env w).bind fun ds w => R.opt (bltD b ds) w) := by
  have hs : isStar e = false := by cases h; assumption
  have hp : (backTo pos (starEach es X.env)).any (·.1) = false := by cases h with | cons _ _ r => exact r.star _ _
  exact (pe_callB hr (ok.gl hg) (ok.nam.blt x b hb) hv (se_args h) hn hdb (star_no hs _ _) hp).imp fun σ H Q q => cb_in q
theorem blt_t (ok : XOk T pr C N dp X sc) {x id : Str} {i : String} {b : Blt} (hb : bltOf x = some b) (hg : glbB sc x = true) {e : Expr} {es : List Expr} {ees : List E} (hv : bootBuiltins x = some (.type i)) (h : PEL T X v Wx (e :: es) ees)
    (hn : x ≠ "__name__") (hdb : (x == ("__debug__" : Str)) = false) (hr : CallR X (.type i) (rBlt (gX T X) Wx qf b (als ees) l')) :
    PE X (.Call (.Name x p) (e :: es) [] pos) (tRf (gX T X) Wx qf l' l' fun env w => (evs v ees env w).bind fun ds w => R.opt (bltD b ds) w) := by
  have hs : isStar e = false := by cases h; assumption
  have hp : (backTo pos (starEach es X.env)).any (·.1) = false := by cases h with | cons _ _ r => exact r.star _ _
  exact (pe_callTy hr (ok.gl hg) (ok.nam.blt x b hb) hv (se_args h) hn hdb (star_no hs _ _) hp).imp fun σ H Q q => cb_in q
theorem se_blt (ok : XOk T pr C N dp X sc) (hu : X.A.units + 65 < cLine) {x : Str} {b : Blt} (hb : bltOf x = some b) (hg : glbB sc x = true) {e : Expr} {es : List Expr} {ees : List E} (h : PEL T X v Wx (e :: es) ees) :
    PE X (.Call (.Name x p) (e :: es) [] pos) (tRf (gX T X) Wx qf (al (.blt b ees)) (alE (.blt b ees)) fun env w => (evs v ees env w).bind fun ds w => R.opt (bltD b ds) w) := by
  have hb' := hb
  have key : ∀ i, i ∈ als ees → i ∈ als ees := fun _ h => h
  unfold bltOf at hb
  by_cases q : x = ("len" : Str)
  · rw [if_pos q] at hb; subst q; cases hb; exact blt_b (id := "") ok hb' hg boot_len h (by decide) (by decide) rb_len
  rw [if_neg q] at hb; clear q
  by_cases q : x = ("abs" : Str)
  · rw [if_pos q] at hb; subst q; cases hb; exact blt_b (id := "") ok hb' hg boot_abs h (by decide) (by decide) rb_abs
  rw [if_neg q] at hb; clear q
  by_cases q : x = ("min" : Str)
  · rw [if_pos q] at hb; subst q; cases hb; exact blt_b (id := "") ok hb' hg boot_min h (by decide) (by decide) (rb_min ok.calm)
  rw [if_neg q] at hb; clear q
  by_cases q : x = ("max" : Str)
  · rw [if_pos q] at hb; subst q; cases hb; exact blt_b (id := "") ok hb' hg boot_max h (by decide) (by decide) (rb_max ok.calm)
  rw [if_neg q] at hb; clear q
  by_cases q : x = ("sum" : Str)
  · rw [if_pos q] at hb; subst q; cases hb; exact blt_b (id := "") ok hb' hg boot_sum h (by decide) (by decide) (rb_sum ok.calm)
  rw [if_neg q] at hb; clear q
  by_cases q : x = ("any" : Str)
  · rw [if_pos q] at hb; subst q; cases hb; exact blt_b (id := "") ok hb' hg boot_any h (by decide) (by decide) (rb_any ok.calm)
  rw [if_neg q] at hb; clear q
  by_cases q : x = ("all" : Str)
  · rw [if_pos q] at hb; subst q; cases hb; exact blt_b (id := "") ok hb' hg boot_all h (by decide) (by decide) (rb_all ok.calm)
  rw [if_neg q] at hb; clear q
  by_cases q : x = ("int" : Str)
  · rw [if_pos q] at hb; subst q; cases hb; exact blt_t (id := "") ok hb' hg boot_int h (by decide) (by decide) rb_int
  rw [if_neg q] at hb; clear q
  by_cases q : x = ("str" : Str)
  · rw [if_pos q] at hb; subst q; cases hb; exact blt_t (id := "") ok hb' hg boot_str h (by decide) (by decide) rb_str
  rw [if_neg q] at hb; clear q
  by_cases q : x = ("repr" : Str)
  · rw [if_pos q] at hb; subst q; cases hb; exact blt_b (id := "") ok hb' hg boot_repr h (by decide) (by decide) (rb_repr ok.guards hu)
  rw [if_neg q] at hb; clear q
  by_cases q : x = ("tuple" : Str)
  · rw [if_pos q] at hb; subst q; cases hb; exact blt_t (id := "") ok hb' hg boot_tuple h (by decide) (by decide) (rb_tuple key)
  rw [if_neg q] at hb; clear q
  by_cases q : x = ("list" : Str)
  · rw [if_pos q] at hb; subst q; cases hb; exact blt_t (id := "") ok hb' hg boot_list h (by decide) (by decide) (rb_list key)
  rw [if_neg q] at hb; clear q
  by_cases q : x = ("sorted" : Str)
  · rw [if_pos q] at hb; subst q; cases hb; exact blt_b (id := "") ok hb' hg boot_sorted h (by decide) (by decide) rb_sorted
  rw [if_neg q] at hb; clear q
  cases hb
/-! ### slices -/
def tDO (g : G) (v : Ev) (Wx : WX) (e : Option E) : TO := fun σ H Q => ∃ ent stp M o env w, SI g ent stp M o σ env w H ∧ Po g stp Wx (fun _ b (x : Option Int) => b = x) (evOpt v e env w) σ H Q
theorem _root_.L2.PO.imp {X : Cx} {e : Option Expr} {t t' : TO} (h : PO X e t) (i : ∀ σ H Q, t' σ H Q → t σ H Q) : PO X e t' := ⟨fun pins s σ H Q I q => h.run pins s σ H Q I (i σ H Q q)⟩
inductive POpt (T : List (Addr × Str)) (X : Cx) (v : Ev) (Wx : WX) : Option Expr → Option E → Prop
  | none : POpt T X v Wx none none
  | some {e : Expr} {ee : E} : PE X e (tD (gX T X) v Wx ee) → POpt T X v Wx (some e) (some ee)
theorem POpt.po {e : Option Expr} {ee : Option E} (h : POpt T X v Wx e ee) : PO X e (tDO (gX T X) v Wx ee) := by
  cases h with
  | none => exact po_none.imp fun σ H Q ⟨ent, stp, M, o, env, w, S, p⟩ => p.use S rfl
  | some h =>
    refine (po_some h).imp ?_
    rintro σ H Q ⟨ent, stp, M, o, env, w, S, p⟩
    refine ⟨ent, stp, M, o, env, w, S, Po.bind S p fun dx w1 x H1 _ S1 k1 rx p1 => ?_⟩
    cases dx with
    | int i => exact ⟨i, rx, p1.use S1 rfl⟩
    | _ => exact (show False from p1).elim
theorem cutIx_eq (n d : Nat) (o : Option Int) : HT.sIx n d o = cutIx n d o := by cases o <;> rfl
theorem Reps.cut {g : G} {stp : Stp} {av : Addr → Prop} {H : Hp} {vs : List V} {ds : List D} (h : Reps g stp av H vs ds) (lo hi : Option Int) : Reps g stp av H (cutV vs lo hi) (cutL ds lo hi) := by
  unfold cutV cutL
  rw [cutIx_eq, cutIx_eq, h.length]
  exact (h.drop _).take _
theorem cut_whole {vs : List V} {lo hi : Option Int} (h : HT.sIx vs.length 0 lo = 0 ∧ HT.sIx vs.length vs.length hi = vs.length) : cutV vs lo hi = vs := by
  unfold cutV
  rw [h.1, h.2]
  simp
theorem se_slc {a : Expr} {lo hi : Option Expr} {ea : E} {elo ehi : Option E} {p2 : Pos} (ha : PE X a (tD (gX T X) v Wx ea)) (hl : POpt T X v Wx lo elo) (hh : POpt T X v Wx hi ehi) :
    PE X (.Subscript a (.Slice lo hi none p2) pos) (tRf (gX T X) Wx qf (alE ea) (alE ea) fun env w => (v.e ea env w).bind fun x w => (evOpt v elo env w).bind fun l w => (evOpt v ehi env w).bind fun h w => R.opt (slcD x l h) w) := by
  refine (pe_slice (sl_list.or sl_tupA) ha hl.po hh.po).imp ?_
  rintro σ H Q ⟨ent, stp, M, o, env, w, S, p⟩
  refine ⟨ent, stp, M, o, env, w, S, Po.bind S p fun dx w1 x H1 _ S1 k1 rx p1 => ?_⟩
  refine ⟨ent, stp, M, o, env, w1, S1, Po.bind S1 p1 fun l w2 l' H2 _ S2 k2 rl p2 => ?_⟩
  subst rl
  refine ⟨ent, stp, M, o, env, w2, S2, Po.bind S2 p2 fun h w3 h' H3 _ S3 k3 rh p3 => ?_⟩
  subst rh
  obtain ⟨dz, e, p4⟩ := p3.opt_some
  have rx := (rx.keep (S1.ka k2) (S1.ka k2)).keep (S2.ka k3) (S2.ka k3)
  cases dx with
  | lst ds =>
    obtain ⟨pa, vs, ex, la, ra⟩ := rx
    cases e
    exact .inl ⟨pa, vs, ex, la.sq, fun q hq => p4.newLF S3 (ra.cut l' h') hq⟩
  | frz ds =>
    obtain ⟨pa, vs, ex, la, ra⟩ := rx
    obtain ⟨qf, rfl⟩ := guardO_some (show guardO _ _ = some dz from e)
    have ra : Reps (gX T X) stp (Av M o (alE ea)) H3 vs ds := Reps.flat (fun a z => by
      rcases z with z | ⟨i, _, e⟩
      · exact .inl (.inl z)
      · exact .inr (S3.lst e)) qf ra
    exact .inl ⟨pa, vs, ex, la.sq, fun q hq => p4.newLF S3 (ra.cut l' h') hq⟩
  | tup ds =>
    obtain ⟨pa, vs, ex, la, ra⟩ := rx
    cases e
    refine .inr ⟨pa, vs, ex, la.sq, fun hw => p4.useT S3 ⟨pa, vs, rfl, S3.tp la, ?_⟩, fun _ q hq => p4.newTF S3 (ra.cut l' h') hq⟩
    have q := ra.cut l' h'
    rw [cut_whole hw] at q
    exact q
  | _ => cases e
theorem se_rev {a : Expr} {ea : E} {k : Nat} {p1 p2 p3 : Pos} (ha : PE X a (tD (gX T X) v Wx ea)) :
    PE X (.Subscript a (.Slice none none (some (.UnaryOp .USub (.Constant (.int 1) k p1) p2)) p3) pos) (tRf (gX T X) Wx qf (alE ea) (alE ea) fun env w => (v.e ea env w).bind fun x w => R.opt (revD x) w) := by
  refine (pe_revL ha).imp ?_
  rintro σ H Q ⟨ent, stp, M, o, env, w, S, p⟩
  refine ⟨ent, stp, M, o, env, w, S, Po.bind S p fun dx w1 x H1 _ S1 k1 rx p1 => ?_⟩
  obtain ⟨dz, e, p2⟩ := p1.opt_some
  cases dx with
  | lst ds =>
    obtain ⟨pa, vs, ex, la, ra⟩ := rx
    cases e
    exact ⟨pa, vs, ex, la.sq, fun q hq => p2.newLF S1 ra.reverse hq⟩
  | _ => cases e
/-! ### texts -/
inductive PFL (T : List (Addr × Str)) (X : Cx) (v : Ev) (Wx : WX) : List Expr → List E → Prop
  | nil : PFL T X v Wx [] []
  | con {s : Str} {k : Nat} {ps : Pos} {es : List Expr} {ees : List E} : PE X (.Constant (.str s) k ps) (tD (gX T X) v Wx (.con (.str s))) → (∀ env w d w', v.e (.con (.str s)) env w = .ok d w' → d = .str s) → PFL T X v Wx es ees → PFL T X v Wx (.Constant (.str s) k ps :: es) (.con (.str s) :: ees)
  | fmt {e : Expr} {ee : E} {ps : Pos} {es : List Expr} {ees : List E} : PE X e (tD (gX T X) v Wx ee) → PFL T X v Wx es ees → PFL T X v Wx (.FormattedValue e (-1) none ps :: es) (ee :: ees)
theorem PFL.pj {es : List Expr} {ees : List E} (h : PFL T X v Wx es ees) : ∃ ts, PJ X es ts ∧ ∀ (ent : Hp) (stp : Stp) (M : Addr → Prop) (o : Nat → Option Addr) (env : PD.Env) (w : W) (σ : L2.St) (H : Hp) (Q : Str → Hp → Prop) (out : Str), SI (gX T X) ent stp M o σ env w H →
    Po (gX T X) stp Wx (fun _ b (x : Str) => b = x) (evF v ees out env w) σ H Q → tJs ts out σ H Q := by
  induction h with
  | nil => exact ⟨[], .nil, fun ent stp M o env w σ H Q out S p => p.use S rfl⟩
  | @con s k ps es ees h1 hcon _ ih =>
    obtain ⟨ts, h2, h3⟩ := ih
    refine ⟨_, .cons h1 h2, fun ent stp M o env w σ H Q out S p => ?_⟩
    refine ⟨ent, stp, M, o, env, w, S, Po.bind S p fun dx w1 x H1 hdx S1 k1 rx p1 => ?_⟩
    obtain rfl := hcon _ _ _ _ hdx
    dsimp only [fpart] at p1
    split at p1
    · rename_i q
      exact ⟨_, rx, by rw [Str.length_append]; exact szOk_le q, h3 ent stp M o env w1 σ H1 Q _ S1 p1⟩
    · exact p1.elim
  | @fmt e ee ps es ees h1 _ ih =>
    obtain ⟨ts, h2, h3⟩ := ih
    refine ⟨_, .cons (pe_fmt h1) h2, fun ent stp M o env w σ H Q out S p => ?_⟩
    refine ⟨ent, stp, M, o, env, w, S, Po.bind S p fun dx w1 x H1 _ S1 k1 rx p1 => ?_⟩
    cases e : fpart dx with
    | none => rw [e] at p1; exact p1.elim
    | some y =>
      rw [e] at p1
      dsimp only at p1
      split at p1
      · rename_i q
        cases dx with
        | str z =>
          cases e
          have hz := szOk_le q
          exact .inl ⟨_, rx, by omega, y, rfl, by rw [Str.length_append]; exact hz, h3 ent stp M o env w1 σ H1 Q _ S1 p1⟩
        | int z =>
          obtain ⟨q2, rfl⟩ := guardO_some (show guardO _ _ = some y from e)
          have hz := szOk_le q
          exact .inr ⟨_, rx, of_decide_eq_true q2, _, rfl, by rw [Str.length_append]; exact hz, h3 ent stp M o env w1 σ H1 Q _ S1 p1⟩
        | _ => cases e
      · exact p1.elim
end
end PD
end
section
set_option Elab.async false
set_option linter.all false
set_option maxRecDepth 100000
set_option maxHeartbeats 2000000
/-! PD9: texts, calls of defs. -/
namespace PD
open PySem L2 PyProof.Rows
section
variable {T : List (Addr × Str)} {pr : Pr} {C : Cm} {N : List Str} {dp : Nat} {X : Cx} {sc : Scope} {Wx : WX} {p pos : Pos} {v u : Ev} {l l' : List Nat}
theorem se_fstr {e1 e2 : Expr} {es : List Expr} {ees : List E} (h : PFL T X v Wx (e1 :: e2 :: es) ees) : PE X (.JoinedStr (e1 :: e2 :: es) pos) (tR (gX T X) Wx [] [] fun env w => (evF v ees Str.empty env w).bind fun s w => .ok (.str s) w) := by
  obtain ⟨ts, h1, h2⟩ := h.pj
  refine (pe_joined h1).imp ?_
  rintro σ H Q ⟨ent, stp, M, o, env, w, S, p⟩
  exact h2 ent stp M o env w σ H _ Str.empty S (Po.bind S p fun s w1 s' H1 _ S1 k1 rs p1 => by
    subst rs
    exact p1.str S1)
/-! ### calls of defs -/
theorem run_fnG {k : Nat} {fa : Addr} {fd : FuncData} {ps : List Str} {sp : Sp} {pins : List (Addr × Obj)} {σ : L2.St} {H : Hp} {s : Shared} {Q : VK} {us : List Value} {vs : List V} (F : FnG X.prog X.w X.K X.mg X.base k fa fd ps sp) (hr : Room k X.A) (hg : X.A.guards = some []) (hb : L2.Binds X.K fd ps [])
    (tk : Takes X Wx) (I : Inv X pins σ H s) (r : Vals vs us) (h : sp vs H Q (WE Wx σ)) : wpAny (model X.prog X.w) X.A (call (.ref fa) us) (EP X pins σ Q) X.xe s := by
  have hl : us.length = ps.length := by rw [← r.length]; exact F.1 _ _ _ _ h
  have b := hb s us I.kIn (by rw [List.append_nil]; exact hl)
  rw [List.append_nil] at b
  refine wpAny_call (codeAny_mono (F.2 X.A X.stack s H ⟨us, []⟩ us vs Q (WE Wx σ) hr hg I.env0 b r h) fun r s' hq => ?_)
  cases r with
  | error e => exact passAt tk σ pins H s e s' I hq
  | ok fl =>
    cases fl with
    | ret u => exact I.after hq
    | next => exact False.elim hq
    | brk => exact False.elim hq
    | cont => exact False.elim hq
/-- what a call of x asks -/
def tFn (g : G) (pr : Pr) (u : Ev) (Wx : WX) (x : Str) (l l' : List Nat) (t : TA) : TE := fun σ H Q => t σ H fun vs H1 => ∃ ent stp M o env w ds, SI g ent stp M o σ env w H1 ∧ Reps g stp (Av M o l) H1 vs ds ∧ Po g stp Wx (relE g stp M o l l) (callF pr u x ds w) σ H1 Q
theorem fn_sp {g : G} {ent : Hp} {stp : Stp} {M : Addr → Prop} {o : Nat → Option Addr} {σ : L2.St} {env : PD.Env} {w : W} {H : Hp} {Q : VK} {x : Str} {vs : List V} {ds : List D} {np ns : Nat} {b : List S} (hf : pr.fns.lookup x = some (.user np ns b)) (S : SI g ent stp M o σ env w H)
    (r : Reps g stp (Av M o l) H vs ds) (p : Po g stp Wx (relE g stp M o l l) (callF pr u x ds w) σ H Q) : spD g (callF pr u x) np vs H Q (WE Wx σ) := by
  have hl : ds.length = np := by
    by_cases h : ds.length = np
    · exact h
    · unfold callF at p
      rw [hf] at p
      dsimp only at p
      rw [if_neg h] at p
      exact p.elim
  refine ⟨by rw [r.length]; exact hl, stp, Av M o l, w, ds, fun a h => .inl (S.wr a h), fun a h => S.avt h, S.gr.weak Av.nil, r, ?_⟩
  generalize callF pr u x ds w = rr at p
  cases rr with
  | ok d w' => exact fun v' H' k gs rv => p v' H' k gs (RepX.of rv)
  | exc c w' => exact fun H' cl k gs e => p H' cl k gs e
  | stk => exact p.elim
theorem fn_no {g : G} {stp : Stp} {M : Addr → Prop} {o : Nat → Option Addr} {σ : L2.St} {w : W} {H : Hp} {Q : VK} {x : Str} {ds : List D} (p : Po g stp Wx (relE g stp M o l l) (callF pr u x ds w) σ H Q) : ∃ np ns b, pr.fns.lookup x = some (.user np ns b) := by
  unfold callF at p
  cases e : pr.fns.lookup x with
  | none => rw [e] at p; exact p.elim
  | some f =>
    cases f with
    | user np ns b => exact ⟨np, ns, b, rfl⟩
theorem tFn_in {ees : List E} {x : Str} {σ : L2.St} {H : Hp} {Q : VK} {g : G} (h : tR g Wx (als ees) (als ees) (fun env w => (evs v ees env w).bind fun ds w => callF pr u x ds w) σ H Q) : tFn g pr u Wx x (als ees) (als ees) (tDL g v Wx ees) σ H Q := by
  obtain ⟨ent, stp, M, o, env, w, S, p⟩ := h
  exact ⟨ent, stp, M, o, env, w, S, Po.bind S p fun ds w1 xs H1 _ S1 k1 rx p1 => ⟨ent, stp, M, o, env, w1, ds, S1, rx, p1⟩⟩
variable {k : Nat}
theorem se_call (ok : XOk T pr C N dp X sc) (F : FnsOk X.prog X.w X.K X.mg X.base T pr k (callF pr u)) (hr : Room k X.A) (tk : Takes X Wx) {x : Str} (hg : glbB sc x = true) (hn : okN x = true) (hmg : ∃ fa, X.mg x = some (.ref fa) ∧ PySem.W.keepIn X.K (.ref fa) = true) {es : List Expr} {ees : List E} (h : PEL T X v Wx es ees) :
    PE X (.Call (.Name x p) es [] pos) (tR (gX T X) Wx (als ees) (als ees) fun env w => (evs v ees env w).bind fun ds w => callF pr u x ds w) := by
  have o1 := (okN_ok hn).1
  obtain ⟨fa, hm, hk⟩ := hmg
  have fin : ∀ (pins : List (Addr × Obj)) (s : Shared) (σ : L2.St) (H : Hp) (Q : VK) (vs : List V) (us : List Value), Inv X pins σ H s → Vals vs us → (∃ ent stp M o env w ds, SI (gX T X) ent stp M o σ env w H ∧ Reps (gX T X) stp (Av M o (als ees)) H vs ds ∧ Po (gX T X) stp Wx (relE (gX T X) stp M o (als ees) (als ees)) (callF pr u x ds w) σ H Q) →
      wpAny (model X.prog X.w) X.A (call (.ref fa) us) (EP X pins σ Q) X.xe s := by
    rintro pins s σ H Q vs us I r ⟨ent, stp, M, o, env, w, ds, S, rx, q⟩
    obtain ⟨np, ns, b, e⟩ := fn_no q
    obtain ⟨fa', fd, ps, hm', hk', hl, hb, FG⟩ := F x np ns b e
    rw [hm] at hm'
    cases hm'
    exact run_fnG FG hr ok.guards hb tk I r (fn_sp e S rx q)
  cases h with
  | nil =>
    refine ⟨fun pins s σ H Q I h => ?_⟩
    obtain ⟨ent, stp, M, o, env, w, S, q⟩ := h
    refine wpAny_Call_Name_kw (ld_glob I (ok.gl hg) hm ?_ o1)
    exact PySem.W.callWith_K0 I.kIn hk (fin pins s σ H Q [] [] I .nil ⟨ent, stp, M, o, env, w, [], S, trivial, q⟩)
  | @cons e es ee ees hs h1 h2 =>
    refine ⟨fun pins s σ H Q I h => ?_⟩
    have h := tFn_in h
    refine wpAny_Call_Name_kw (ld_glob I (ok.gl hg) hm ?_ o1)
    refine PySem.W.callWith_K (h₀ := X.base) I.ok.mod.kin hk (thn ((se_args (.cons hs h1 h2)).run pos pins s σ H _ I h) fun us s1 ⟨vs, H1, I1, r, q⟩ => ⟨I1.kIn, ?_⟩) (star_no hs _ _) (h2.star _ _)
    exact fin pins s1 σ H1 Q vs us I1 r q
/-- a local name that holds a def -/
theorem se_callv (ok : XOk T pr C N dp X sc) (F : FnsOk X.prog X.w X.K X.mg X.base T pr k (callF pr u)) (hr : Room k X.A) (tk : Takes X Wx) {x : Str} {i : Nat} (hi : slotV N sc x = some i) {e : Expr} {es : List Expr} {ees : List E} (h : PEL T X v Wx (e :: es) ees) :
    PE X (.Call (.Name x p) (e :: es) [] pos) (tR (gX T X) Wx (als ees) (als ees) fun env w => match rd env i with
      | some (.fn f) => if (pr.fns.lookup f).isSome = true then (evs v ees env w).bind fun ds w => callF pr u f ds w else .stk
      | _ => .stk) := by
  obtain ⟨h1, h2, h3⟩ := slotV_ok hi
  obtain ⟨o1, o2, o3⟩ := okN_ok h3
  refine ⟨fun pins s σ H Q I hh => ?_⟩
  obtain ⟨ent, stp, M, o, env, w, S, q⟩ := hh
  dsimp only at q
  cases e1 : rd env i with
  | none => rw [e1] at q; exact q.elim
  | some dd =>
    rw [e1] at q
    cases dd with
    | fn f =>
      obtain ⟨vv, hv1, hv2⟩ := S.rd e1
      obtain ⟨fa, e2, hm⟩ := (show ∃ fa, vv = .ref fa ∧ X.mg f = some (.ref fa) from hv2)
      subst e2
      dsimp only at q
      obtain ⟨hso, q⟩ : (pr.fns.lookup f).isSome = true ∧ Po (gX T X) stp Wx (relE (gX T X) stp M o (als ees) (als ees)) ((evs v ees env w).bind fun ds w => callF pr u f ds w) σ H Q := by
        split at q
        · exact ⟨by assumption, q⟩
        · exact q.elim
      have hk : PySem.W.keepIn X.K (.ref fa) = true := by
        obtain ⟨⟨np, ns, b⟩, e⟩ := Option.isSome_iff_exists.mp hso
        obtain ⟨fa', fd, ps, hm', hk', _⟩ := F f np ns b e
        rw [show X.mg f = some (.ref fa) from hm] at hm'
        cases hm'
        exact hk'
      refine wpAny_Call_Name_kw (thn ((pe_var (X := X) (pos := p) (i := i) (by rw [ok.hN]; exact h1) (by rw [ok.hsc]; exact h2) o1 o2).run pins s σ H (fun v H1 => v = .ref fa ∧ H1 = H) I ⟨.ref fa, hv1, rfl, rfl⟩) fun uu s1 ⟨v1, H1, I1, r1, q1⟩ => ?_)
      obtain ⟨rfl, rfl⟩ := q1
      cases r1
      have hs : isStar e = false := by cases h; assumption
      have hp : (backTo pos (starEach es X.env)).any (·.1) = false := by cases h with | cons _ _ r => exact r.star _ _
      refine PySem.W.callWith_K (h₀ := X.base) I1.ok.mod.kin hk (thn ((se_args h).run pos pins s1 σ H1 _ I1 (tFn_in (x := f) ⟨ent, stp, M, o, env, w, S, q⟩)) fun us s2 ⟨vs, H2, I2, r, ent2, stp2, M2, o2', env2, w2, ds, S2, rx, q2⟩ => ⟨I2.kIn, ?_⟩) (star_no hs _ _) hp
      obtain ⟨np, ns, b, e⟩ := fn_no q2
      obtain ⟨fa', fd, ps, hm', hk', hl, hb, FG⟩ := F f np ns b e
      rw [show X.mg f = some (.ref fa) from hm] at hm'
      cases hm'
      exact run_fnG FG hr ok.guards hb tk I2 r (fn_sp e S2 rx q2)
    | _ => exact (show False from q).elim
end
end PD
end
section
set_option Elab.async false
set_option linter.all false
set_option maxRecDepth 100000
set_option maxHeartbeats 2000000
/-! PD10: states that change; targets. -/
namespace PD
open PySem L2 PyProof.Rows
section
variable {g : G} {ent : Hp} {stp : Stp} {M : Addr → Prop} {o o' : Nat → Option Addr} {σ σ' : L2.St} {env env' : Env} {w w' : W} {H H' : Hp} {l l' le : List Nat} {av av' : Addr → Prop}
/-- what is there avoids what is not there -/
theorem Rep.pres {v : V} {d : D} (h : Rep g stp av H v d) (s : ∀ a, av' a → av a ∨ H a = none) : Rep g stp av' H v d := by
  refine h.map (fun a xs q => ⟨fun z => (s a z).elim q.1 fun e => ?_, q.2⟩) (fun a xs q => ?_) fun a xs q => ?_
  · have r := q.2
    rw [e] at r
    cases r
  · rcases q with ⟨n, r⟩ | q
    · exact .inl ⟨fun z => (s a z).elim n fun e => (by rw [e] at r; cases r), r⟩
    · exact .inr q
  · rcases q with ⟨n, r⟩ | q
    · exact .inl ⟨fun z => (s a z).elim n fun e => (by rcases r with r | ⟨_, r⟩ <;> rw [e] at r <;> cases r), r⟩
    · exact .inr q
theorem Reps.pres {vs : List V} {ds : List D} (h : Reps g stp av H vs ds) (s : ∀ a, av' a → av a ∨ H a = none) : Reps g stp av' H vs ds := by
  have q : Rep g stp av H (.non) .non := rfl
  refine h.map (fun a xs q => ⟨fun z => (s a z).elim q.1 fun e => ?_, q.2⟩) (fun a xs q => ?_) fun a xs q => ?_
  · have r := q.2
    rw [e] at r
    cases r
  · rcases q with ⟨n, r⟩ | q
    · exact .inl ⟨fun z => (s a z).elim n fun e => (by rw [e] at r; cases r), r⟩
    · exact .inr q
  · rcases q with ⟨n, r⟩ | q
    · exact .inl ⟨fun z => (s a z).elim n fun e => (by rcases r with r | ⟨_, r⟩ <;> rw [e] at r <;> cases r), r⟩
    · exact .inr q
mutual
/-- before there is a stream -/
theorem Rep.stp {stp' : Stp} : ∀ {v : V} {d : D}, Rep g none av H v d → Rep g stp' av H v d
  | v, .non, h => h
  | v, .bl _, h => h
  | v, .int _, h => h
  | v, .str _, h => h
  | v, .tup ds, h => by
    obtain ⟨a, vs, e, l, r⟩ := (show ∃ a vs, v = .ref a ∧ TpA g av H a vs ∧ Reps g none av H vs ds from h)
    exact ⟨a, vs, e, l, Reps.stp r⟩
  | v, .lst ds, h => by
    obtain ⟨a, vs, e, l, r⟩ := (show ∃ a vs, v = .ref a ∧ LsA av H a vs ∧ Reps g none av H vs ds from h)
    exact ⟨a, vs, e, l, Reps.stp r⟩
  | v, .fn _, h => h
  | v, .st, h => by obtain ⟨_, _, _, _, e⟩ := h; cases e
  | v, .frz ds, h => by
    obtain ⟨a, vs, e, l, r⟩ := (show ∃ a vs, v = .ref a ∧ FzA g av H a vs ∧ Reps g none av H vs ds from h)
    exact ⟨a, vs, e, l, Reps.stp r⟩
theorem Reps.stp {stp' : Stp} : ∀ {vs : List V} {ds : List D}, Reps g none av H vs ds → Reps g stp' av H vs ds
  | [], [], _ => trivial
  | v :: vs, d :: ds, h => ⟨Rep.stp h.1, Reps.stp h.2⟩
  | [], _ :: _, h => h.elim
  | _ :: _, [], h => h.elim
end
/-- fewer own lists -/
def Less (o' o : Nat → Option Addr) : Prop := ∀ i p, o' i = some p → o i = some p
theorem Less.refl : Less o o := fun _ _ h => h
theorem Less.trans {o1 o2 o3 : Nat → Option Addr} (h : Less o1 o2) (h' : Less o2 o3) : Less o1 o3 := fun i p e => h' i p (h i p e)
theorem Less.avs (h : Less o' o) : ∀ a, Av M o' [] a → Av M o [] a := fun a z => z.elim .inl fun ⟨i, _, e⟩ => .inr ⟨i, nofun, h i a e⟩
/-- .. none of the places l -/
def LessL (o' o : Nat → Option Addr) (l : List Nat) : Prop := ∀ i p, o' i = some p → o i = some p ∧ i ∉ l
theorem LessL.less (h : LessL o' o l) : Less o' o := fun i p e => (h i p e).1
theorem LessL.avs (h : LessL o' o l) : ∀ a, Av M o' [] a → Av M o l a := fun a z => z.elim .inl fun ⟨i, _, e⟩ => .inr ⟨i, (h i a e).2, (h i a e).1⟩
theorem SI.chg (S : SI g ent stp M o σ env w H) (ho : Less o' o) (hl : σ'.length = env'.length) (hw : ∀ i p, o' i = some p → ∃ ds, env'[i]? = some (.ow ds)) (hs : ∀ i s, env'[i]? = some s → SlotR g stp M o' σ' H i s) : SI g ent stp M o' σ' env' w H :=
  ⟨S.wr, S.mt, S.gr.weak (Less.avs ho), S.he, hl, fun i j p e e' => S.inj i j p (ho i p e) (ho j p e'), fun i p e => ⟨(S.own i p (ho i p e)).1, hw i p e⟩, hs⟩
theorem SlotR.less (ho : Less o' o) {i : Nat} {s : Slot} (hi : ∀ ds, s = .ow ds → o' i = o i) (h : SlotR g stp M o σ H i s) : SlotR g stp M o' σ H i s := by
  cases s with
  | no => trivial
  | sh d =>
    obtain ⟨v, e, r⟩ := h
    exact ⟨v, e, r.weak (Less.avs ho)⟩
  | ow ds =>
    obtain ⟨p, vs, e1, e2, e3, r⟩ := h
    exact ⟨p, vs, by rw [hi ds rfl]; exact e1, e2, e3, r.weak (Less.avs ho)⟩
def offO (i : Nat) (o : Nat → Option Addr) : Nat → Option Addr := fun j => if j = i then none else o j
theorem offO_less (i : Nat) : LessL (offO i o) o [i] := fun j p e => by
  unfold offO at e
  split at e
  · cases e
  · exact ⟨e, by simpa using (by assumption)⟩
theorem offO_ne {i j : Nat} (h : j ≠ i) : offO i o j = o j := if_neg h
theorem SI.dropAt (S : SI g ent stp M o σ env w H) (i : Nat) : SI g ent stp M (offO i o) σ (dropAt env i) w H := by
  unfold PD.dropAt
  cases q : env[i]? with
  | none =>
    refine S.chg (offO_less i).less S.len (fun j p e => (S.own j p ((offO_less i).less j p e)).2) fun j s e => (S.sl j s e).less (offO_less i).less fun ds _ => offO_ne fun z => ?_
    rw [z, q] at e
    cases e
  | some s =>
    cases s with
    | ow ds =>
      refine S.chg (offO_less i).less (by simp [S.len]) (fun j p e => ?_) fun j s e => ?_
      · have h := offO_less i j p e
        obtain ⟨_, ds', e'⟩ := S.own j p h.1
        have ne : i ≠ j := fun z => h.2 (by rw [z]; exact List.mem_singleton_self _)
        exact ⟨ds', by rw [List.getElem?_set_ne ne]; exact e'⟩
      · by_cases hj : j = i
        · subst hj
          obtain ⟨p, vs, e1, e2, e3, r⟩ := S.sl j _ q
          rw [List.getElem?_set_self (by rw [List.getElem?_eq_some_iff] at q; exact q.1)] at e
          cases e
          refine ⟨.ref p, e2, p, vs, rfl, ⟨fun z => ?_, e3⟩, r.weak (Less.avs (offO_less j).less)⟩
          rcases z with z | ⟨k, _, z⟩
          · exact (S.own j p e1).1 z
          · have h := offO_less j k p z
            exact h.2 (by rw [S.inj k j p h.1 e1]; exact List.mem_singleton_self _)
        · rw [List.getElem?_set_ne (Ne.symm hj)] at e
          exact (S.sl j s e).less (offO_less i).less fun _ _ => offO_ne hj
    | _ =>
      refine S.chg (offO_less i).less S.len (fun j p e => (S.own j p ((offO_less i).less j p e)).2) fun j s e => (S.sl j s e).less (offO_less i).less fun ds ed => offO_ne fun z => ?_
      rw [z, q, ed] at e
      cases e
theorem SI.drops : ∀ (l : List Nat) {o : Nat → Option Addr} {env : Env}, SI g ent stp M o σ env w H → ∃ o', SI g ent stp M o' σ (drops l env) w H ∧ LessL o' o l
  | [], o, env, S => ⟨o, S, fun i p e => ⟨e, nofun⟩⟩
  | i :: l, o, env, S => by
    obtain ⟨o', S', h⟩ := SI.drops l (S.dropAt i)
    refine ⟨o', S', fun j p e => ?_⟩
    obtain ⟨e1, n1⟩ := h j p e
    obtain ⟨e2, n2⟩ := offO_less i j p e1
    exact ⟨e2, fun z => (List.mem_cons.mp z).elim (fun z => n2 (by rw [z]; exact List.mem_singleton_self _)) n1⟩
theorem isOw_o (S : SI g ent stp M o σ env w H) {i : Nat} {p : Addr} (e : o i = some p) : isOw env i = true := by
  obtain ⟨_, ds, q⟩ := S.own i p e
  unfold isOw
  rw [q]
theorem SI.dropD (S : SI g ent stp M o σ env w H) (l : List Nat) {v : V} {d : D} (r : Rep g stp (Av M o l) H v d) : ∃ o', SI g ent stp M o' σ (dropD l d env) w H ∧ Rep g stp (Av M o' []) H v d ∧ Less o' o := by
  unfold PD.dropD
  split
  · obtain ⟨o', S', h⟩ := S.drops l
    exact ⟨o', S', r.weak h.avs, h.less⟩
  · rename_i q
    refine ⟨o, S, ?_, Less.refl⟩
    cases q1 : d.flat with
    | true => exact S.flat r q1
    | false =>
      rw [q1, Bool.not_false, Bool.and_true] at q
      refine r.weak fun a z => z.elim .inl fun ⟨i, _, e⟩ => .inr ⟨i, fun hi => q (List.any_eq_true.mpr ⟨i, hi, isOw_o S e⟩), e⟩
/-- a name is stored -/
theorem SI.setSh (S : SI g ent stp M o σ env w H) (i : Nat) {v : V} {d : D} (r : Rep g stp (Av M o []) H v d) : SI g ent stp M (offO i o) (σ.set i (some v)) (env.set i (.sh d)) w H := by
  refine S.chg (offO_less i).less (by simp [S.len]) (fun j p e => ?_) fun j s e => ?_
  · have h := offO_less i j p e
    obtain ⟨_, ds', e'⟩ := S.own j p h.1
    have ne : i ≠ j := fun z => h.2 (by rw [z]; exact List.mem_singleton_self _)
    exact ⟨ds', by rw [List.getElem?_set_ne ne]; exact e'⟩
  · by_cases hj : j = i
    · subst hj
      have hlt : j < env.length := by
        have := (List.getElem?_eq_some_iff.mp e).1
        simpa using this
      rw [List.getElem?_set_self hlt] at e
      cases e
      exact ⟨v, by rw [List.getElem?_set_self (by rw [S.len]; exact hlt)], r.weak (Less.avs (offO_less j).less)⟩
    · rw [List.getElem?_set_ne (Ne.symm hj)] at e
      have h := (S.sl j s e).less (offO_less i).less fun _ _ => offO_ne hj
      cases s with
      | no => trivial
      | sh d =>
        obtain ⟨u, e1, r1⟩ := h
        exact ⟨u, by rw [List.getElem?_set_ne (Ne.symm hj)]; exact e1, r1⟩
      | ow ds =>
        obtain ⟨p, vs, e1, e2, e3, r1⟩ := h
        exact ⟨p, vs, e1, by rw [List.getElem?_set_ne (Ne.symm hj)]; exact e2, e3, r1⟩
theorem SI.wipe : ∀ (vs : List Nat) {env : Env} {o : Nat → Option Addr} {σ : L2.St}, SI g ent stp M o σ env w H → ∃ o', SI g ent stp M o' (L2.wipe σ vs) (wipes vs env) w H ∧ Less o' o := by
  have one : ∀ (i : Nat) {env : Env} {o : Nat → Option Addr} {σ : L2.St}, SI g ent stp M o σ env w H → SI g ent stp M (offO i o) (σ.set i none) (env.set i .no) w H := by
    intro i env o σ S
    refine S.chg (offO_less i).less (by simp [S.len]) (fun j p e => ?_) fun j s e => ?_
    · have h := offO_less i j p e
      obtain ⟨_, ds', e'⟩ := S.own j p h.1
      have ne : i ≠ j := fun z => h.2 (by rw [z]; exact List.mem_singleton_self _)
      exact ⟨ds', by rw [List.getElem?_set_ne ne]; exact e'⟩
    · by_cases hj : j = i
      · subst hj
        have hlt : j < env.length := by
          have := (List.getElem?_eq_some_iff.mp e).1
          simpa using this
        rw [List.getElem?_set_self hlt] at e
        cases e
        trivial
      · rw [List.getElem?_set_ne (Ne.symm hj)] at e
        have h := (S.sl j s e).less (offO_less i).less fun _ _ => offO_ne hj
        cases s with
        | no => trivial
        | sh d =>
          obtain ⟨u, e1, r1⟩ := h
          exact ⟨u, by rw [List.getElem?_set_ne (Ne.symm hj)]; exact e1, r1⟩
        | ow ds =>
          obtain ⟨p, vs, e1, e2, e3, r1⟩ := h
          exact ⟨p, vs, e1, by rw [List.getElem?_set_ne (Ne.symm hj)]; exact e2, e3, r1⟩
  have comm : ∀ (vs : List Nat) (σ : L2.St), L2.wipe σ vs = vs.foldr (fun v σ => σ.set v none) σ := by
    intro vs
    induction vs with
    | nil => intro σ; rfl
    | cons v vs ih => intro σ; show (L2.wipe σ vs).set v none = _; rw [ih]; rfl
  have comm2 : ∀ (vs : List Nat) (env : Env), wipes vs env = vs.foldr (fun v e => e.set v .no) env := by
    intro vs
    induction vs with
    | nil => intro σ; rfl
    | cons v vs ih =>
      intro env
      show wipes vs (env.set v .no) = _
      rw [ih]
      clear ih
      induction vs with
      | nil => rfl
      | cons u vs ih2 =>
        show (List.foldr _ (env.set v .no) vs).set u .no = _
        rw [ih2]
        show ((List.foldr _ env vs).set v .no).set u .no = ((List.foldr _ env vs).set u .no).set v .no
        by_cases h : u = v
        · subst h; rfl
        · exact List.set_comm _ _ (Ne.symm h)
  intro vs
  induction vs with
  | nil => exact fun {env o σ} S => ⟨o, S, Less.refl⟩
  | cons v vs ih =>
    intro env o σ S
    obtain ⟨o', S', h⟩ := ih S
    refine ⟨offO v o', ?_, (offO_less v).less.trans h⟩
    have q := one v S'
    rw [comm2] at q ⊢
    exact q
/-! ### targets -/
theorem wipe_set {σ : L2.St} {i : Nat} {x : Option V} : ∀ {vs : List Nat}, i ∈ vs → L2.wipe (σ.set i x) vs = L2.wipe σ vs
  | v :: vs, h => by
    show (L2.wipe (σ.set i x) vs).set v none = (L2.wipe σ vs).set v none
    by_cases hi : i ∈ vs
    · rw [wipe_set hi]
    · have e : v = i := (List.mem_cons.mp h).elim (fun z => z.symm) fun z => absurd z hi
      subst e
      have : ∀ us : List Nat, v ∉ us → L2.wipe (σ.set v x) us = (L2.wipe σ us).set v x := by
        intro us
        induction us with
        | nil => exact fun _ => rfl
        | cons u us ih =>
          intro hn
          show (L2.wipe (σ.set v x) us).set u none = ((L2.wipe σ us).set u none).set v x
          rw [ih fun z => hn (List.mem_cons_of_mem _ z)]
          exact List.set_comm _ _ fun z => hn (by rw [z]; exact List.mem_cons_self)
      rw [this vs hi]
      exact List.set_set ..
/-- where a target's store leads -/
def gEnd (g : G) (ent : Hp) (stp : Stp) (M : Addr → Prop) (o : Nat → Option Addr) (σ : L2.St) (env : Env) (is : List Nat) (w : W) (H : Hp) (Q : L2.St → Hp → Prop) : Prop :=
  ∀ o' σ', Less o' o → (∀ vs : List Nat, (∀ i, i ∈ is → i ∈ vs) → L2.wipe σ' vs = L2.wipe σ vs) → SI g ent stp M o' σ' env w H → Q σ' H
def gT (g : G) (t : Tgt) : TG := fun v σ H Q => ∃ ent stp M o env w d env', SI g ent stp M o σ env w H ∧ Rep g stp (Av M o []) H v d ∧ bindT t d env = some env' ∧
  ∀ o' σ', Less o' o → (∀ vs : List Nat, (∀ i, i ∈ tgI t → i ∈ vs) → L2.wipe σ' vs = L2.wipe σ vs) → SI g ent stp M o' σ' env' w H → Q σ' H
def gTs (g : G) (ts : List Tgt) : TGs := fun vs σ H Q => ∃ ent stp M o env w ds env', SI g ent stp M o σ env w H ∧ Reps g stp (Av M o []) H vs ds ∧ bindTs ts ds env = some env' ∧
  ∀ o' σ', Less o' o → (∀ vs : List Nat, (∀ i, i ∈ tgIs ts → i ∈ vs) → L2.wipe σ' vs = L2.wipe σ vs) → SI g ent stp M o' σ' env' w H → Q σ' H
theorem _root_.L2.PG.imp {X : Cx} {e : Expr} {t t' : TG} (h : PG X e t) (i : ∀ v σ H Q, t' v σ H Q → t v σ H Q) : PG X e t' := ⟨fun pins s σ H v u Q I r q => h.run pins s σ H v u Q I r (i v σ H Q q)⟩
theorem _root_.L2.PGs.imp {X : Cx} {e : List Expr} {t t' : TGs} (h : PGs X e t) (i : ∀ v σ H Q, t' v σ H Q → t v σ H Q) : PGs X e t' := ⟨fun pins s σ H v u Q I r q => h.run pins s σ H v u Q I r (i v σ H Q q)⟩
end
section
variable {T : List (Addr × Str)} {pr : Pr} {C : Cm} {N : List Str} {dp : Nat} {X : Cx} {sc : Scope} {Wx : WX} {p pos : Pos} {v u : Ev}
theorem sg_name (ok : XOk T pr C N dp X sc) {sc0 : Scope} (hf : ∀ x, L2.Loc sc0 x → L2.Loc X.env.scope x ∧ (X.fn x = true ∨ X.env.scope.names.lookup x = some .local)) {x : Str} {i : Nat} (h : slotL N sc0 x = some i) : PG X (.Name x pos) (gT (gX T X) (.v i)) := by
  obtain ⟨h1, h2⟩ := slotL_ok h
  refine (pg_name (X := X) (i := i) (by rw [ok.hN]; exact ok.nd) (by rw [ok.hN]; exact h1) (hf x h2).1 (hf x h2).2).imp ?_
  rintro v σ H Q ⟨ent, stp, M, o, env, w, d, env', S, r, e, k⟩
  cases e
  exact k (offO i o) _ (offO_less i).less (fun vs h => wipe_set (h i (List.mem_singleton_self i))) (S.setSh i r)
theorem starT_no {e : Expr} (h : (match e with | .Starred _ _ => false | _ => true) = true) (es : List Expr) (env : PySem.Env) : assignEach (e :: es) env = (false, assign e env) :: assignEach es env := by
  cases e <;> first | rfl | cases h
theorem sg_all (ok : XOk T pr C N dp X sc) {sc0 : Scope} (hf : ∀ x, L2.Loc sc0 x → L2.Loc X.env.scope x ∧ (X.fn x = true ∨ X.env.scope.names.lookup x = some .local)) : ∀ (m : Nat),
    (∀ (e : Expr) (t : Tgt), cmpT N sc0 m e = some t → PG X e (gT (gX T X) t)) ∧ ∀ (es : List Expr) (ts : List Tgt), mapO (cmpT N sc0 m) es = some ts → PGs X es (gTs (gX T X) ts) ∧ (assignEach es X.env).length = ts.length ∧ (assignEach es X.env).findIdx? (·.1) = none := by
  intro m
  induction m with
  | zero =>
    refine ⟨fun e t h => (by cases e <;> cases h), fun es ts h => ?_⟩
    cases es with
    | nil =>
      cases h
      refine ⟨pgs_nil.imp ?_, rfl, rfl⟩
      rintro vs σ H Q ⟨ent, stp, M, o, env, w, ds, env', S, r, e, k⟩
      cases ds with
      | nil =>
        cases e
        cases vs with
        | nil => exact ⟨rfl, k o σ Less.refl (fun _ _ => rfl) S⟩
        | cons _ _ => exact r.elim
      | cons _ _ => cases e
    | cons e es => simp [mapO, cmpT] at h
  | succ m ih =>
    have one : ∀ (e : Expr) (t : Tgt), cmpT N sc0 (m + 1) e = some t → PG X e (gT (gX T X) t) ∧ (match e with | .Starred _ _ => false | _ => true) = true := by
      intro e t h
      cases e with
      | Name x p =>
        obtain ⟨i, e1, rfl⟩ := Option.map_eq_some_iff.mp (show (slotL N sc0 x).map _ = some t from h)
        exact ⟨sg_name ok hf e1, rfl⟩
      | Tuple es k p =>
        obtain ⟨ts, e1, rfl⟩ := Option.map_eq_some_iff.mp (show (mapO (cmpT N sc0 m) es).map _ = some t from h)
        obtain ⟨h1, h2, h3⟩ := ih.2 es ts e1
        refine ⟨(pg_tup ok.calm h1 h2 h3).imp ?_, rfl⟩
        rintro v σ H Q ⟨ent, stp, M, o, env, w, d, env', S, r, e, k⟩
        cases d with
        | tup ds =>
          obtain ⟨a, vs, ev, la, ra⟩ := (show ∃ a vs, v = .ref a ∧ TpA (gX T X) (Av M o []) H a vs ∧ Reps (gX T X) stp (Av M o []) H vs ds from r)
          have e : bindTs ts ds env = some env' := e
          have hl : ∀ (ts : List Tgt) (ds : List D) (env env' : Env), bindTs ts ds env = some env' → ds.length = ts.length := by
            intro ts
            induction ts with
            | nil => intro ds env env' e; cases ds with | nil => rfl | cons _ _ => cases e
            | cons t ts ih =>
              intro ds env env' e
              cases ds with
              | nil => cases e
              | cons d ds =>
                obtain ⟨env1, _, e2⟩ := Option.bind_eq_some_iff.mp (show (bindT t d env).bind _ = some env' from e)
                exact congrArg (· + 1) (ih ds env1 env' e2)
          exact ⟨a, vs, ev, la.sq, by rw [ra.length, hl ts ds env env' e], ent, stp, M, o, env, w, ds, env', S, ra, e, k⟩
        | _ => cases e
      | _ => cases h
    refine ⟨fun e t h => (one e t h).1, ?_⟩
    intro es
    induction es with
    | nil =>
      intro ts h
      cases h
      refine ⟨pgs_nil.imp ?_, rfl, rfl⟩
      rintro vs σ H Q ⟨ent, stp, M, o, env, w, ds, env', S, r, e, k⟩
      cases ds with
      | nil =>
        cases e
        cases vs with
        | nil => exact ⟨rfl, k o σ Less.refl (fun _ _ => rfl) S⟩
        | cons _ _ => exact r.elim
      | cons _ _ => cases e
    | cons e es ih2 =>
      intro ts h
      simp only [mapO] at h
      cases h1 : cmpT N sc0 (m + 1) e with
      | none => rw [h1] at h; cases h
      | some t =>
        cases h2 : mapO (cmpT N sc0 (m + 1)) es with
        | none => rw [h1, h2] at h; cases h
        | some ts' =>
          rw [h1, h2] at h
          cases h
          obtain ⟨g1, n1⟩ := one e t h1
          obtain ⟨g2, l2, f2⟩ := ih2 ts' h2
          have hs := starT_no n1 es X.env
          refine ⟨(pgs_cons g1 g2 (by rw [hs]; rfl)).imp ?_, by rw [hs]; exact congrArg (· + 1) l2, by rw [hs, List.findIdx?_cons]; simp [f2]⟩
          rintro vs σ H Q ⟨ent, stp, M, o, env, w, ds, env', S, r, e, k⟩
          cases ds with
          | nil => cases e
          | cons d ds =>
            cases vs with
            | nil => exact r.elim
            | cons v vs =>
              obtain ⟨env1, e1, e2⟩ := Option.bind_eq_some_iff.mp (show (bindT t d env).bind _ = some env' from e)
              refine ⟨v, vs, rfl, ent, stp, M, o, env, w, d, env1, S, r.1, e1, fun o1 σ1 L1 W1 S1 => ?_⟩
              refine ⟨ent, stp, M, o1, env1, w, ds, env', S1, r.2.weak (Less.avs L1), e2, fun o2 σ2 L2 W2 S2 => ?_⟩
              refine k o2 σ2 (L2.trans L1) (fun us hu => ?_) S2
              rw [W2 us fun i hi => hu i (List.mem_append_right _ hi), W1 us fun i hi => hu i (List.mem_append_left _ hi)]
end
end PD
end
section
set_option Elab.async false
set_option linter.all false
set_option maxRecDepth 100000
set_option maxHeartbeats 2000000
/-! PD11: what loops and comprehensions walk. -/
namespace PD
open PySem L2 PyProof.Rows
/-- J yields ds, from the heap H0 on; a1: what may change, a2: what the items avoid -/
structure ItOk (g : G) (stp : Stp) (a1 a2 : Addr → Prop) (J : L2.It) (ds : List D) (H0 : Hp) : Prop where
  go : ∀ H i, KeepA a1 H0 H → i < ds.length → J.go i H
  stop : ∀ H i, KeepA a1 H0 H → ds.length ≤ i → J.stop i H
  yld : ∀ H i d x H' a3, KeepA a1 H0 H → (∀ a, a3 a → a2 a ∨ H0 a = none) → (∀ a, a3 a → H a ≠ none) → ds[i]? = some d → J.yld i H x H' → Rep g stp a3 H' x d ∧ (H' = H ∨ ∃ p u, H p = none ∧ H' = upd H p u)
section
variable {g : G} {stp : Stp} {a1 a2 : Addr → Prop} {ds es : List D} {vs us : List V} {H0 H : Hp} {a b : Addr} {w : W}
theorem sqL_eq {K : PySem.W.Frag} {xs ys : List V} (h : H a = some (.lst xs)) (h' : SqL K H a ys) (hk : K.lookup a = none) : xs = ys := by
  rcases h' with (h' | ⟨o, h'⟩) | ⟨o, its, n, h', _⟩
  · rw [h] at h'; cases h'; rfl
  · rw [h] at h'; cases h'
  · rw [hk] at h'; cases h'
/-- the first things of a list -/
theorem Reps.all_keep (r : Reps g stp a2 H0 vs ds) (hs : ∀ x, a1 x → a2 x) (k : KeepA a1 H0 H) {a3 : Addr → Prop} (h : ∀ a, a3 a → a2 a ∨ H0 a = none) {i : Nat} {d : D} (e : ds[i]? = some d) : ∃ v, vs[i]? = some v ∧ Rep g stp a3 H v d := by
  obtain ⟨v, e1, r1⟩ := r.get e
  have kk : KeepA (fun a => a3 a ∨ a2 a) H0 H := fun b o hb n => k b o hb fun z => n (.inr (hs b z))
  exact ⟨v, e1, ((r1.pres (av' := fun a => a3 a ∨ a2 a) fun a z => z.elim (h a) .inl).keep kk).weak fun _ z => .inl z⟩
theorem getI {α : Type} {xs : List α} {i : Nat} (h : i < xs.length) : ∃ x, xs[i]? = some x := ⟨xs[i], by simp [h]⟩
theorem itok_list (la : LsA a1 H0 a vs) (r : Reps g stp a2 H0 vs ds) (hs : ∀ x, a1 x → a2 x) : ItOk g stp a1 a2 (Itl g.K a) ds H0 := by
  have at_ : ∀ {H}, KeepA a1 H0 H → H a = some (.lst vs) := fun k => k a _ la.2 la.1
  refine ⟨fun H i k hi => ?_, fun H i k hi => ?_, fun H i d x H' a3 k h1 h2 e y => ?_⟩
  · obtain ⟨x, hx⟩ := getI (xs := vs) (i := i) (by rw [r.length]; exact hi)
    exact ⟨vs, x, .of (at_ k), hx⟩
  · exact ⟨vs, .of (at_ k), by rw [r.length]; exact hi⟩
  · obtain ⟨rfl, y⟩ := y
    obtain ⟨v, e1, r1⟩ := r.all_keep hs k h1 e
    have q := y vs (.of (at_ k))
    rw [e1] at q
    cases q
    exact ⟨r1, .inl rfl⟩
theorem itok_tup (la : TpA g a1 H0 a vs) (r : Reps g stp a2 H0 vs ds) (hs : ∀ x, a1 x → a2 x) : ItOk g stp a1 a2 (Itt g.K a) ds H0 := by
  have at_ : ∀ {H}, KeepA a1 H0 H → SqT g.K H a vs := fun k => (la.keep k).sq
  refine ⟨fun H i k hi => ?_, fun H i k hi => ?_, fun H i d x H' a3 k h1 h2 e y => ?_⟩
  · obtain ⟨x, hx⟩ := getI (xs := vs) (i := i) (by rw [r.length]; exact hi)
    exact ⟨vs, x, at_ k, hx⟩
  · exact ⟨vs, at_ k, by rw [r.length]; exact hi⟩
  · obtain ⟨rfl, y⟩ := y
    obtain ⟨v, e1, r1⟩ := r.all_keep hs k h1 e
    have q := y vs (at_ k)
    rw [e1] at q
    cases q
    exact ⟨r1, .inl rfl⟩
theorem rngL_len (c : Int) : ∀ (n : Nat) (a : Int), (rngL a c n).length = n
  | 0, _ => rfl
  | n + 1, a => congrArg (· + 1) (rngL_len c n (a + c))
theorem rngL_get (c : Int) : ∀ (n : Nat) (a : Int) (i : Nat), i < n → (rngL a c n)[i]? = some (.int (a + (i : Nat) * c))
  | n + 1, a, 0, _ => by
    show some (D.int a) = _
    have e : a + ((0 : Nat) : Int) * c = a := by simp
    rw [e]
  | n + 1, a, i + 1, h => by
    show (rngL (a + c) c n)[i]? = _
    rw [rngL_get c n (a + c) i (by omega)]
    have e : a + c + (i : Nat) * c = a + ((i + 1 : Nat) : Int) * c := by
      rw [Int.natCast_add, Int.add_mul]
      simp
      omega
    rw [e]
theorem itok_rng (lo : Int) (n : Nat) : ItOk g stp a1 a2 (Itr lo n) (rngL lo 1 n) H0 := by
  refine ⟨fun H i k hi => by rw [rngL_len] at hi; exact hi, fun H i k hi => by rw [rngL_len] at hi; exact hi, fun H i d x H' a3 k h1 h2 e y => ?_⟩
  obtain ⟨rfl, rfl⟩ := y
  have hi : i < n := by
    have q := (List.getElem?_eq_some_iff.mp e).1
    rw [rngL_len] at q
    exact q
  rw [rngL_get 1 n lo i hi] at e
  cases e
  exact ⟨by show V.int _ = V.int _; rw [Int.mul_one], .inl rfl⟩
theorem itok_rng3 (lo c : Int) (n : Nat) : ItOk g stp a1 a2 (Itc lo c n) (rngL lo c n) H0 := by
  refine ⟨fun H i k hi => by rw [rngL_len] at hi; exact hi, fun H i k hi => by rw [rngL_len] at hi; exact hi, fun H i d x H' a3 k h1 h2 e y => ?_⟩
  obtain ⟨rfl, rfl⟩ := y
  have hi : i < n := by
    have q := (List.getElem?_eq_some_iff.mp e).1
    rw [rngL_len] at q
    exact q
  rw [rngL_get c n lo i hi] at e
  cases e
  exact ⟨rfl, .inl rfl⟩
theorem enumD_get : ∀ (ds : List D) (k : Int) (i : Nat), (enumD k ds)[i]? = ds[i]?.map fun d => .tup [.int (k + (i : Nat)), d]
  | [], _, _ => by simp [enumD]
  | d :: ds, k, 0 => by simp [enumD]
  | d :: ds, k, i + 1 => by
    show (enumD (k + 1) ds)[i]? = _
    rw [enumD_get ds (k + 1) i]
    have e : k + 1 + ((i : Nat) : Int) = k + ((i + 1 : Nat) : Int) := by omega
    rw [e]
    rfl
theorem enumD_len : ∀ (ds : List D) (k : Int), (enumD k ds).length = ds.length
  | [], _ => rfl
  | _ :: ds, k => congrArg (· + 1) (enumD_len ds (k + 1))
theorem itok_enum (la : LsA a1 H0 a vs) (r : Reps g stp a2 H0 vs ds) (hs : ∀ x, a1 x → a2 x) : ItOk g stp a1 a2 (Ite g.K a) (enumD 0 ds) H0 := by
  have at_ : ∀ {H}, KeepA a1 H0 H → H a = some (.lst vs) := fun k => k a _ la.2 la.1
  refine ⟨fun H i k hi => ?_, fun H i k hi => ?_, fun H i d x H' a3 k h1 h2 e y => ?_⟩
  · rw [enumD_len] at hi
    obtain ⟨x, hx⟩ := getI (xs := vs) (i := i) (by rw [r.length]; exact hi)
    exact ⟨vs, x, .of (at_ k), hx⟩
  · rw [enumD_len] at hi
    exact ⟨vs, .of (at_ k), by rw [r.length]; exact hi⟩
  · obtain ⟨p, x', rfl, hp, rfl, y⟩ := y
    rw [enumD_get] at e
    obtain ⟨d', e', rfl⟩ := Option.map_eq_some_iff.mp e
    obtain ⟨v, e1, r1⟩ := r.all_keep hs k h1 e'
    have q := y vs (.of (at_ k))
    rw [e1] at q
    cases q
    refine ⟨⟨p, _, rfl, .inl ⟨fun z => h2 p z hp, upd_same⟩, ?_, (r1.fresh hp).weak fun _ z => .inl z, trivial⟩, .inr ⟨p, _, hp, rfl⟩⟩
    first | rfl | (show V.int _ = V.int _; rw [Int.zero_add])
theorem zipD_get : ∀ (ds es : List D) (i : Nat) (d : D), (zipD ds es)[i]? = some d → ∃ x y, ds[i]? = some x ∧ es[i]? = some y ∧ d = .tup [x, y]
  | [], _, i, d, h => by simp [zipD] at h
  | _ :: _, [], i, d, h => by simp [zipD] at h
  | a :: as, b :: bs, 0, d, h => by
    simp only [zipD, List.getElem?_cons_zero, Option.some.injEq] at h
    exact ⟨a, b, rfl, rfl, h.symm⟩
  | a :: as, b :: bs, i + 1, d, h => zipD_get as bs i d (by simpa [zipD] using h)
theorem zipD_len : ∀ (ds es : List D), (zipD ds es).length = min ds.length es.length
  | [], es => by simp [zipD]
  | _ :: _, [] => by simp [zipD]
  | a :: as, b :: bs => by simp [zipD, zipD_len as bs]
theorem itok_zip (la : LsA a1 H0 a vs) (lb : LsA a1 H0 b us) (r : Reps g stp a2 H0 vs ds) (r' : Reps g stp a2 H0 us es) (hs : ∀ x, a1 x → a2 x) : ItOk g stp a1 a2 (Itz g.K a b) (zipD ds es) H0 := by
  have at_ : ∀ {H}, KeepA a1 H0 H → H a = some (.lst vs) := fun k => k a _ la.2 la.1
  have bt_ : ∀ {H}, KeepA a1 H0 H → H b = some (.lst us) := fun k => k b _ lb.2 lb.1
  refine ⟨fun H i k hi => ?_, fun H i k hi => ?_, fun H i d x H' a3 k h1 h2 e y => ?_⟩
  · rw [zipD_len] at hi
    obtain ⟨x, hx⟩ := getI (xs := vs) (i := i) (by rw [r.length]; omega)
    obtain ⟨y, hy⟩ := getI (xs := us) (i := i) (by rw [r'.length]; omega)
    exact ⟨vs, us, x, y, .of (at_ k), .of (bt_ k), hx, hy⟩
  · rw [zipD_len] at hi
    exact ⟨vs, us, .of (at_ k), .of (bt_ k), by rw [r.length, r'.length]; omega⟩
  · obtain ⟨p, x1, y1, rfl, hp, rfl, yx, yy⟩ := y
    obtain ⟨d1, d2, e1, e2, rfl⟩ := zipD_get ds es i d e
    obtain ⟨v1, f1, r1⟩ := r.all_keep hs k h1 e1
    obtain ⟨v2, f2, r2⟩ := r'.all_keep hs k h1 e2
    have q := yx vs (.of (at_ k))
    rw [f1] at q
    cases q
    have q := yy us (.of (bt_ k))
    rw [f2] at q
    cases q
    exact ⟨⟨p, _, rfl, .inl ⟨fun z => h2 p z hp, upd_same⟩, (r1.fresh hp).weak fun _ z => .inl z, (r2.fresh hp).weak fun _ z => .inl z, trivial⟩, .inr ⟨p, _, hp, rfl⟩⟩
theorem itok_zipT (la : TpA g a1 H0 a vs) (lb : TpA g a1 H0 b us) (r : Reps g stp a2 H0 vs ds) (r' : Reps g stp a2 H0 us es) (hs : ∀ x, a1 x → a2 x) : ItOk g stp a1 a2 (RZ.ItzT g.K a b) (zipD ds es) H0 := by
  have at_ : ∀ {H}, KeepA a1 H0 H → SqT g.K H a vs := fun k => (la.keep k).sq
  have bt_ : ∀ {H}, KeepA a1 H0 H → SqT g.K H b us := fun k => (lb.keep k).sq
  refine ⟨fun H i k hi => ?_, fun H i k hi => ?_, fun H i d x H' a3 k h1 h2 e y => ?_⟩
  · rw [zipD_len] at hi
    obtain ⟨x, hx⟩ := getI (xs := vs) (i := i) (by rw [r.length]; omega)
    obtain ⟨y, hy⟩ := getI (xs := us) (i := i) (by rw [r'.length]; omega)
    exact ⟨vs, us, x, y, at_ k, bt_ k, hx, hy⟩
  · rw [zipD_len] at hi
    exact ⟨vs, us, at_ k, bt_ k, by rw [r.length, r'.length]; omega⟩
  · obtain ⟨p, x1, y1, rfl, hp, rfl, yx, yy⟩ := y
    obtain ⟨d1, d2, e1, e2, rfl⟩ := zipD_get ds es i d e
    obtain ⟨v1, f1, r1⟩ := r.all_keep hs k h1 e1
    obtain ⟨v2, f2, r2⟩ := r'.all_keep hs k h1 e2
    have q := yx vs (at_ k)
    rw [f1] at q
    cases q
    have q := yy us (bt_ k)
    rw [f2] at q
    cases q
    exact ⟨⟨p, _, rfl, .inl ⟨fun z => h2 p z hp, upd_same⟩, (r1.fresh hp).weak fun _ z => .inl z, (r2.fresh hp).weak fun _ z => .inl z, trivial⟩, .inr ⟨p, _, hp, rfl⟩⟩
end
/-- an iterator's reading -/
def tI (g : G) (v : Ev) (Wx : WX) (it : It) : TI := fun σ H R => ∃ ent stp M o env w, SI g ent stp M o σ env w H ∧ Po g stp Wx (fun H' J ds => ItOk g stp (Av M o (alW it)) (Av M o (alI it)) J ds H') (evIt v it env w) σ H R
theorem _root_.L2.PI.imp {X : Cx} {tg e : Expr} {t t' : TI} (h : PI X tg e t) (i : ∀ σ H R, t' σ H R → t σ H R) : PI X tg e t' := ⟨fun pins s σ H R I q => h.run pins s σ H R I (i σ H R q)⟩
def iSeq (K : PySem.W.Frag) (tl : TE) : TI := fun σ H R => tl σ H fun x H1 => ∃ a, x = .ref a ∧ (((∃ xs, SqL K H1 a xs) ∧ R (Itl K a) H1) ∨ ((∃ xs, SqT K H1 a xs) ∧ R (Itt K a) H1))
section
variable {T : List (Addr × Str)} {pr : Pr} {C : Cm} {N : List Str} {dp : Nat} {X : Cx} {sc : Scope} {Wx : WX} {p pos : Pos} {v u : Ev}
theorem pi_seqA {tg l : Expr} {tl : TE} (hl : PE X l tl) : PI X tg l (iSeq X.K tl) := by
  refine ⟨fun pins s σ H R I h => ?_⟩
  refine thn (hl.run pins s σ H _ I h) fun v s1 ⟨x, H1, I1, r1, a, e, q1⟩ => ?_
  subst e
  cases r1
  have fp : ∀ b ∈ [s1.heap.objs.size], FpOk X pins H1 b := fun b hb => by
    have e : b = s1.heap.objs.size := by simpa using hb
    subst e
    exact I1.fpOk (Nat.le_refl _) (I1.hok.fresh (Nat.le_refl _))
  rcases q1 with ⟨⟨xs, hq⟩, q⟩ | ⟨⟨xs, hq⟩, q⟩
  · obtain ⟨its, rv, p, hz⟩ := I1.list hq
    refine wpAny_pyIter_list p.isList ?_
    exact ⟨s1.heap.objs.size, [s1.heap.objs.size], _, _, H1, rfl, I1.kept (t' := s1.toks) fun b o e => Heap.get?_push_of_some _ e, turn_list a _, ⟨_, Heap.get?_push_size _ rfl, rfl, rfl⟩, fp, q⟩
  · obtain ⟨its, rv, p, hz⟩ := I1.tuple hq
    refine wpAny_pyIter_tuple (show s1.heap.IsTuple a its.toArray from p) ?_
    exact ⟨s1.heap.objs.size, [s1.heap.objs.size], _, _, H1, rfl, I1.kept (t' := s1.toks) fun b o e => Heap.get?_push_of_some _ e, turn_tuple a _, ⟨_, Heap.get?_push_size _ rfl, rfl, rfl⟩, fp, q⟩
theorem alI_sub (it : PD.It) : ∀ i, i ∈ alI it → i ∈ alW it := by
  intro i h
  cases it with
  | e a => exact alE_sub (e := a) h
  | enum a => exact alE_sub (e := a) h
  | zip a b =>
    rcases List.mem_append.mp (show i ∈ alE a ++ alE b from h) with h | h
    · exact List.mem_append_left _ (alE_sub h)
    · exact List.mem_append_right _ (alE_sub h)
  | _ => exact h
theorem av_it {M : Addr → Prop} {o : Nat → Option Addr} (it : PD.It) : ∀ a, Av M o (alW it) a → Av M o (alI it) a := Av.sub (alI_sub it)
theorem RepX.itd {g : G} {stp : Stp} {M : Addr → Prop} {o : Nat → Option Addr} {H : Hp} {x : V} {d : D} {e : E} {l l' : List Nat} (r : RepX g stp (Av M o (al e)) (Av M o (alE e)) H x d) (h1 : ∀ i, i ∈ al e → i ∈ l) (h2 : ∀ i, i ∈ alE e → i ∈ l') : RepX g stp (Av M o l) (Av M o l') H x d := r.weak (Av.sub h1) (Av.sub h2)
theorem si_e {tg e : Expr} {ee : E} (h : PE X e (tD (gX T X) v Wx ee)) : PI X tg e (tI (gX T X) v Wx (.e ee)) := by
  refine (pi_seqA h).imp ?_
  rintro σ H R ⟨ent, stp, M, o, env, w, S, q⟩
  refine ⟨ent, stp, M, o, env, w, S, Po.bind S q fun dx w1 x H1 _ S1 k1 rx q1 => ?_⟩
  obtain ⟨ds, e1, q2⟩ := Po.opt_some q1
  obtain ⟨a, vs, ex, la, ra⟩ := rx.items e1
  refine ⟨a, ex, ?_⟩
  rcases la with la | la
  · exact .inl ⟨⟨vs, la.sq⟩, q2.use S1 (itok_list la ra (av_it (.e ee)))⟩
  · exact .inr ⟨⟨vs, la.sq⟩, q2.use S1 (itok_tup la ra (av_it (.e ee)))⟩
theorem Po.args1 {α : Type} {g : G} {ent : Hp} {stp : Stp} {M : Addr → Prop} {o : Nat → Option Addr} {σ : L2.St} {H : Hp} {env : PD.Env} {w : W} {ea : E} {f : D → W → R α} : ((evs v [ea] env w).bind fun ds w => match ds with | [d] => f d w | _ => .stk) = (v.e ea env w).bind f := by
  show (((v.e ea env w).bind fun d w => ((R.ok [] w : R (List D)).bind fun ds w => R.ok (d :: ds) w)).bind _) = _
  rw [R.bind_assoc]
  rfl
theorem si_r1 (ok : XOk T pr C N dp X sc) {tg e : Expr} {ee : E} (hg : glbB sc "range" = true) (h : PE X e (tD (gX T X) v Wx ee)) (hs : isStar e = false) : PI X tg (.Call (.Name "range" p) [e] [] pos) (tI (gX T X) v Wx (.r1 ee)) := by
  refine (pi_range1 (ok.gl hg) ok.nam.rng.1 (pa_cons h pa_nil (star_no hs _ _)) (star_no hs _ _)).imp ?_
  rintro σ H R ⟨ent, stp, M, o, env, w, S, q⟩
  refine ⟨ent, stp, M, o, env, w, S, Po.bind S q fun dx w1 x H1 _ S1 k1 rx q1 => ?_⟩
  cases dx with
  | int n =>
    have ex : x = .int n := rx
    obtain ⟨ds, e1, q2⟩ := Po.opt_some (show Po _ _ _ _ (PD.R.opt (rngD 0 n) w1) σ H1 R from q1)
    obtain ⟨e2, rfl⟩ := guardO_some (show guardO _ _ = some ds from e1)
    simp only [Bool.and_eq_true, in62, decide_eq_true_eq] at e2
    refine ⟨n, by rw [ex], e2.2.1, e2.2.2, q2.use S1 ?_⟩
    rw [Int.sub_zero]
    exact itok_rng 0 n.toNat
  | _ => exact (show False from q1).elim
theorem si_r2 (ok : XOk T pr C N dp X sc) {tg e1 e2 : Expr} {ee1 ee2 : E} (hg : glbB sc "range" = true) (h1 : PE X e1 (tD (gX T X) v Wx ee1)) (h2 : PE X e2 (tD (gX T X) v Wx ee2)) (hs1 : isStar e1 = false) (hs2 : isStar e2 = false) : PI X tg (.Call (.Name "range" p) [e1, e2] [] pos) (tI (gX T X) v Wx (.r2 ee1 ee2)) := by
  refine (pi_range2 (ok.gl hg) ok.nam.rng.1 (pa_cons h1 (pa_cons h2 pa_nil (star_no hs2 _ _)) (star_no hs1 _ _)) (by rw [star_no hs1, star_no hs2]; rfl) (star_no hs2 _ _)).imp ?_
  rintro σ H R ⟨ent, stp, M, o, env, w, S, q⟩
  refine ⟨ent, stp, M, o, env, w, S, Po.bind S q fun dx w1 x H1 _ S1 k1 rx q1 => ?_⟩
  refine ⟨ent, stp, M, o, env, w1, S1, Po.bind S1 q1 fun dy w2 y H2 _ S2 k2 ry q2 => ?_⟩
  cases dx with
  | int m =>
    cases dy with
    | int n =>
      have ex : x = .int m := rx
      have ey : y = .int n := ry
      obtain ⟨ds, e3, q3⟩ := Po.opt_some (show Po _ _ _ _ (PD.R.opt (rngD m n) w2) σ H2 R from q2)
      obtain ⟨e4, rfl⟩ := guardO_some (show guardO _ _ = some ds from e3)
      simp only [Bool.and_eq_true, in62, decide_eq_true_eq] at e4
      exact ⟨m, n, by rw [ex, ey], ⟨e4.1.1, e4.1.2, e4.2.1, e4.2.2⟩, q3.use S2 (itok_rng m _)⟩
    | _ => exact (show False from q2).elim
  | _ => exact (show False from q2).elim
theorem si_r3 (ok : XOk T pr C N dp X sc) {tg e1 e2 e3 : Expr} {ee1 ee2 ee3 : E} (hg : glbB sc "range" = true) (h1 : PE X e1 (tD (gX T X) v Wx ee1)) (h2 : PE X e2 (tD (gX T X) v Wx ee2)) (h3 : PE X e3 (tD (gX T X) v Wx ee3)) (hs1 : isStar e1 = false) (hs2 : isStar e2 = false) (hs3 : isStar e3 = false) :
    PI X tg (.Call (.Name "range" p) [e1, e2, e3] [] pos) (tI (gX T X) v Wx (.r3 ee1 ee2 ee3)) := by
  refine (pi_range3 (ok.gl hg) ok.nam.rng.1 (pa_cons h1 (pa_cons h2 (pa_cons h3 pa_nil (star_no hs3 _ _)) (star_no hs2 _ _)) (star_no hs1 _ _)) (star_no hs1 _ _) (by rw [star_no hs2, star_no hs3]; rfl)).imp ?_
  rintro σ H R ⟨ent, stp, M, o, env, w, S, q⟩
  refine ⟨ent, stp, M, o, env, w, S, Po.bind S q fun dx w1 x H1 _ S1 k1 rx q1 => ?_⟩
  refine ⟨ent, stp, M, o, env, w1, S1, Po.bind S1 q1 fun dy w2 y H2 _ S2 k2 ry q2 => ?_⟩
  refine ⟨ent, stp, M, o, env, w2, S2, Po.bind S2 q2 fun dz w3 z H3 _ S3 k3 rz q3 => ?_⟩
  cases dx with
  | int m =>
    cases dy with
    | int n =>
      cases dz with
      | int k =>
        have ex : x = .int m := rx
        have ey : y = .int n := ry
        have ez : z = .int k := rz
        obtain ⟨ds, e4, q4⟩ := Po.opt_some (show Po _ _ _ _ (PD.R.opt (rngD3 m n k) w3) σ H3 R from q3)
        obtain ⟨e5, rfl⟩ := guardO_some (show guardO _ _ = some ds from e4)
        simp only [Bool.and_eq_true, decide_eq_true_eq] at e5
        refine ⟨m, n, k, (Builtin.Range.rangeSize m n k).toNat, by rw [ex, ey, ez], ⟨e5.1, e5.2.1, e5.2.2, ?_⟩, q4.use S3 (itok_rng3 m k _)⟩
        rw [Int.toNat_of_nonneg]
        unfold Builtin.Range.rangeSize
        split
        · split
          · rename_i hk hl
            have : 0 ≤ (n - m - 1) / k := Int.ediv_nonneg (by omega) (by omega)
            omega
          · exact Int.le_refl _
        · split
          · rename_i hk hl
            have : 0 ≤ (m - n - 1) / (-k) := Int.ediv_nonneg (by omega) (by omega)
            omega
          · exact Int.le_refl _
      | _ => exact (show False from q3).elim
    | _ => exact (show False from q3).elim
  | _ => exact (show False from q3).elim
theorem si_enum (ok : XOk T pr C N dp X sc) {e : Expr} {ee : E} {elts : List Expr} {kk : Nat} {tpos : Pos} (hg : glbB sc "enumerate" = true) (h : PE X e (tD (gX T X) v Wx ee)) (hs : isStar e = false) : PI X (.Tuple elts kk tpos) (.Call (.Name "enumerate" p) [e] [] pos) (tI (gX T X) v Wx (.enum ee)) := by
  refine (pi_enum (ok.gl hg) ok.nam.rng.2.1 (pa_cons h pa_nil (star_no hs _ _)) (star_no hs _ _)).imp ?_
  rintro σ H R ⟨ent, stp, M, o, env, w, S, q⟩
  refine ⟨ent, stp, M, o, env, w, S, Po.bind S q fun dx w1 x H1 _ S1 k1 rx q1 => ?_⟩
  cases dx with
  | lst ds =>
    obtain ⟨a, vs, ex, la, ra⟩ := rx
    exact ⟨a, vs, by rw [ex], la.sq, Po.use (show Po _ _ _ _ (PD.R.ok (enumD 0 ds) w1) σ H1 R from q1) S1 (itok_enum la ra (av_it (.enum ee)))⟩
  | _ => exact (show False from q1).elim
theorem si_zip (ok : XOk T pr C N dp X sc) {e1 e2 : Expr} {ee1 ee2 : E} {elts : List Expr} {kk : Nat} {tpos : Pos} (hg : glbB sc "zip" = true) (h1 : PE X e1 (tD (gX T X) v Wx ee1)) (h2 : PE X e2 (tD (gX T X) v Wx ee2)) (hs1 : isStar e1 = false) (hs2 : isStar e2 = false) :
    PI X (.Tuple elts kk tpos) (.Call (.Name "zip" p) [e1, e2] [] pos) (tI (gX T X) v Wx (.zip ee1 ee2)) := by
  refine (RZ.pi_zipA (ok.gl hg) ok.nam.rng.2.2 (pa_cons h1 (pa_cons h2 pa_nil (star_no hs2 _ _)) (star_no hs1 _ _)) (star_no hs1 _ _) (by rw [star_no hs2]; rfl)).imp ?_
  rintro σ H R ⟨ent, stp, M, o, env, w, S, q⟩
  refine ⟨ent, stp, M, o, env, w, S, Po.bind S q fun dx w1 x H1 _ S1 k1 rx q1 => ?_⟩
  refine ⟨ent, stp, M, o, env, w1, S1, Po.bind S1 q1 fun dy w2 y H2 _ S2 k2 ry q2 => ?_⟩
  have rx := RepX.itd (l := alW (.zip ee1 ee2)) (l' := alI (.zip ee1 ee2)) (rx.keep (S1.ka k2) (S1.ka k2)) (fun i h => List.mem_append_left _ h) fun i h => List.mem_append_left _ h
  have ry := RepX.itd (l := alW (.zip ee1 ee2)) (l' := alI (.zip ee1 ee2)) ry (fun i h => List.mem_append_right _ h) fun i h => List.mem_append_right _ h
  cases dx with
  | lst ds =>
    cases dy with
    | lst es =>
      obtain ⟨a, vs, ex, la, ra⟩ := rx
      obtain ⟨b, us, ey, lb, rb⟩ := ry
      exact ⟨a, b, vs, us, by rw [ex, ey], .inl ⟨la.sq, lb.sq, Po.use (show Po _ _ _ _ (PD.R.ok (zipD ds es) w2) σ H2 R from q2) S2 (itok_zip la lb ra rb (av_it (.zip ee1 ee2)))⟩⟩
    | _ => exact (show False from q2).elim
  | tup ds =>
    cases dy with
    | tup es =>
      obtain ⟨a, vs, ex, la, ra⟩ := rx
      obtain ⟨b, us, ey, lb, rb⟩ := ry
      exact ⟨a, b, vs, us, by rw [ex, ey], .inr ⟨la.sq, lb.sq, Po.use (show Po _ _ _ _ (PD.R.ok (zipD ds es) w2) σ H2 R from q2) S2 (itok_zipT la lb ra rb (av_it (.zip ee1 ee2)))⟩⟩
    | _ => exact (show False from q2).elim
  | _ => exact (show False from q2).elim
end
end PD
end
section
set_option Elab.async false
set_option linter.all false
set_option maxRecDepth 100000
set_option maxHeartbeats 2000000
/-! PD12: list comprehensions. -/
namespace PD
open PySem L2 PyProof.Rows
/-- nothing is let out -/
abbrev F0 : WX := fun _ _ _ _ => False
theorem wipes_len : ∀ (vs : List Nat) (env : Env), (wipes vs env).length = env.length
  | [], _ => rfl
  | v :: vs, env => by
    show (wipes vs (env.set v .no)).length = _
    rw [wipes_len vs]
    simp
theorem wipes_out {i : Nat} : ∀ {vs : List Nat} {env : Env}, i ∉ vs → (wipes vs env)[i]? = env[i]?
  | [], _, _ => rfl
  | v :: vs, env, h => by
    show (wipes vs (env.set v .no))[i]? = _
    rw [wipes_out fun z => h (List.mem_cons_of_mem _ z), List.getElem?_set_ne fun z => h (by rw [z]; exact List.mem_cons_self)]
theorem wipes_in {i : Nat} {s : Slot} : ∀ {vs : List Nat} {env : Env}, i ∈ vs → (wipes vs env)[i]? = some s → s = .no
  | v :: vs, env, h, e => by
    have e : (wipes vs (env.set v .no))[i]? = some s := e
    by_cases hi : i ∈ vs
    · exact wipes_in hi e
    · have ev : i = v := (List.mem_cons.mp h).elim id fun z => absurd z hi
      subst ev
      rw [wipes_out hi] at e
      by_cases hl : i < env.length
      · rw [List.getElem?_set_self hl] at e
        cases e; rfl
      · rw [List.getElem?_eq_none (by simpa using hl)] at e
        cases e
theorem dropAt_out {i j : Nat} {env : Env} (h : j ≠ i) : (dropAt env i)[j]? = env[j]? := by
  unfold dropAt
  split
  · rw [List.getElem?_set_ne (Ne.symm h)]
  · rfl
theorem drops_out {j : Nat} : ∀ {l : List Nat} {env : Env}, j ∉ l → (drops l env)[j]? = env[j]?
  | [], _, _ => rfl
  | i :: l, env, h => by
    show (drops l (dropAt env i))[j]? = _
    rw [drops_out fun z => h (List.mem_cons_of_mem _ z), dropAt_out fun z => h (by rw [z]; exact List.mem_cons_self)]
mutual
theorem bindT_out {j : Nat} : ∀ {t : Tgt} {d : D} {env env' : Env}, bindT t d env = some env' → j ∉ tgI t → env'[j]? = env[j]?
  | .v i, d, env, env', e, h => by
    cases e
    exact List.getElem?_set_ne fun z => h (by rw [z]; exact List.mem_singleton_self _)
  | .t ts, .tup ds, env, env', e, h => bindTs_out (show bindTs ts ds env = some env' from e) h
  | .t _, .non, _, _, e, _ | .t _, .bl _, _, _, e, _ | .t _, .int _, _, _, e, _ | .t _, .str _, _, _, e, _ | .t _, .lst _, _, _, e, _ | .t _, .fn _, _, _, e, _ | .t _, .st, _, _, e, _ | .t _, .frz _, _, _, e, _ => by cases e
theorem bindTs_out {j : Nat} : ∀ {ts : List Tgt} {ds : List D} {env env' : Env}, bindTs ts ds env = some env' → j ∉ tgIs ts → env'[j]? = env[j]?
  | [], [], env, env', e, _ => by cases e; rfl
  | t :: ts, d :: ds, env, env', e, h => by
    obtain ⟨env1, e1, e2⟩ := Option.bind_eq_some_iff.mp (show (bindT t d env).bind _ = some env' from e)
    rw [bindTs_out e2 fun z => h (List.mem_append_right _ z), bindT_out e1 fun z => h (List.mem_append_left _ z)]
  | [], _ :: _, _, _, e, _ => by cases e
  | _ :: _, [], _, _, e, _ => by cases e
end
section
variable {g : G} {ent : Hp} {stp : Stp} {M M' : Addr → Prop} {o o' o2 : Nat → Option Addr} {σ σ' σ2 : L2.St} {env env' env2 : PD.Env} {w w' : W} {H H' H0 : Hp} {l l' le : List Nat} {Wx : WX} {Dd : Addr}
theorem R.noexc_bind {α γ δ : Type} {rel2 : Hp → δ → γ → Prop} {r : R α} {f : α → W → R γ} {Q : δ → Hp → Prop} (h : Po g stp Wx rel2 (r.noexc.bind f) σ H Q) : ∃ a w', r = .ok a w' ∧ Po g stp Wx rel2 (f a w') σ H Q := by
  cases r with
  | ok a w' => exact ⟨a, w', rfl, h⟩
  | exc c w' => exact h.elim
  | stk => exact h.elim
/-- a value got within a block -/
theorem Po.blk {α β : Type} {rel : Hp → β → α → Prop} {r : R α} {a : α} {w' : W} (e : r = .ok a w') {Q1 : β → Hp → Prop} (S : SI g ent stp M o σ env w H) (k : ∀ v H', SI g ent stp M o σ env w' H' → Keep g stp H H' → rel H' v a → Q1 v H') : Po g stp F0 rel r σ H Q1 := by
  subst e
  exact fun v H' kp gs rv => k v H' (S.step kp gs) kp rv
theorem SI.own_at (S : SI g ent stp M o σ env w H) (S2 : SI g ent stp M' o2 σ2 env2 w' H') {i : Nat} {p : Addr} (e : o i = some p) (h1 : σ2[i]? = σ[i]?) (h2 : env2[i]? = env[i]?) : o2 i = some p := by
  obtain ⟨_, ds, q⟩ := S.own i p e
  obtain ⟨p1, vs1, a1, a2, _⟩ := S.sl i _ q
  rw [e] at a1
  cases a1
  rw [← h2] at q
  obtain ⟨p2, vs2, b1, b2, _⟩ := S2.sl i _ q
  rw [h1, a2] at b2
  cases b2
  exact b1
/-- the set of a block: the new list, what the block's names own -/
def MB (M : Addr → Prop) (o : Nat → Option Addr) (vs l : List Nat) (Dd : Addr) : Addr → Prop := fun a => M a ∨ (∃ j, j ∈ vs ∧ j ∉ l ∧ o j = some a) ∨ a = Dd
/-- a block's state -/
theorem SI.blk (S : SI g ent stp M o σ env w H) (vs l : List Nat) (hD : H Dd = none) : ∃ o', SI g ent stp (MB M o vs l Dd) o' (L2.wipe σ vs) (PD.drops l (wipes vs env)) w (upd H Dd (.lst [])) ∧ ∀ i p, o' i = some p → o i = some p ∧ i ∉ vs ∧ i ∉ l := by
  have ho : ∀ i p, o i = some p → p ≠ Dd := fun i p e z => by
    obtain ⟨xs, q⟩ := S.lst e
    rw [z, hD] at q
    cases q
  have hM : ∀ a, M a → a ≠ Dd := fun a m z => S.mt a m (by rw [z]; exact hD)
  have same : ∀ a u, H a = some u → upd H Dd (.lst []) a = some u := fun a u e => by rw [upd_ne (ne_of_none e hD)]; exact e
  have pre : ∀ a, Av (MB M o vs l Dd) (fun j => if j ∈ vs then none else o j) [] a → Av M o [] a ∨ H a = none := fun a z => by
    rcases z with (z | ⟨j, _, _, z⟩ | z) | ⟨j, _, z⟩
    · exact .inl (.inl z)
    · exact .inl (.inr ⟨j, nofun, z⟩)
    · exact .inr (by rw [z]; exact hD)
    · dsimp only at z
      split at z
      · cases z
      · exact .inl (.inr ⟨j, nofun, z⟩)
  have S1 : SI g ent stp (MB M o vs l Dd) (fun j => if j ∈ vs then none else o j) (L2.wipe σ vs) (wipes vs env) w (upd H Dd (.lst [])) := by
    refine ⟨fun a h => .inl (S.wr a h), fun a h => ?_, ⟨S.gr.1.same same, fun p q ns e => ?_⟩, fun a u e n => same a u (S.he a u e n), by rw [L2.wipe_length, wipes_len]; exact S.len, fun i j p e e' => ?_, fun i p e => ?_, fun i s e => ?_⟩
    · rcases h with h | ⟨j, _, _, h⟩ | h
      · rw [upd_ne (hM a h)]
        exact S.mt a h
      · obtain ⟨xs, q⟩ := S.lst h
        rw [same _ _ q]
        simp
      · rw [h, upd_same]
        simp
    · have q1 := S.gr.2 p q ns e
      refine ⟨fun z => ?_, same _ _ q1.2⟩
      rcases pre q z with z | z
      · exact q1.1 z
      · rw [q1.2] at z
        cases z
    · split at e
      · cases e
      · split at e'
        · cases e'
        · exact S.inj i j p e e'
    · split at e
      · cases e
      · rename_i hi
        refine ⟨fun z => ?_, ?_⟩
        · rcases z with z | ⟨j, hj, _, z⟩ | z
          · exact (S.own i p e).1 z
          · exact hi (by rw [S.inj i j p e z]; exact hj)
          · exact ho i p e z
        · obtain ⟨_, ds, q⟩ := S.own i p e
          exact ⟨ds, by rw [wipes_out hi]; exact q⟩
    · by_cases hi : i ∈ vs
      · rw [wipes_in hi e]
        trivial
      · rw [wipes_out hi] at e
        have q := S.sl i s e
        cases s with
        | no => trivial
        | sh d =>
          obtain ⟨v, e1, r⟩ := q
          exact ⟨v, by rw [wipe_out hi]; exact e1, (r.pres pre).keep fun a u ha _ => same a u ha⟩
        | ow ds =>
          obtain ⟨p, xs, e1, e2, e3, r⟩ := q
          exact ⟨p, xs, by show (if i ∈ vs then none else o i) = some p; rw [if_neg hi]; exact e1, by rw [wipe_out hi]; exact e2, same _ _ e3, (r.pres pre).keep fun a u ha _ => same a u ha⟩
  obtain ⟨o', S', h⟩ := S1.drops l
  refine ⟨o', S', fun i p e => ?_⟩
  obtain ⟨e1, n1⟩ := h i p e
  dsimp only at e1
  split at e1
  · cases e1
  · exact ⟨e1, by assumption, n1⟩
/-- within a block, the new list told apart -/
theorem SI.stepB {vs : List Nat} (S : SI g ent stp (MB M o vs l Dd) o2 σ env w (upd H0 Dd (.lst []))) (h0 : ent Dd = none) (k : Keep g stp H0 H') (hD : H' Dd ≠ none) (gs : GS g stp H' w') : SI g ent stp (MB M o vs l Dd) o2 σ env w' H' := by
  have ka : ∀ {l'}, KeepA (Av (MB M o vs l Dd) o2 l') (upd H0 Dd (.lst [])) H' := fun {l'} a u ha n => by
    have ne : a ≠ Dd := fun z => n (.inl (.inr (.inr z)))
    rw [upd_ne ne] at ha
    exact k a u ha fun z => n (.inl (S.wr a z))
  refine ⟨S.wr, fun a m => ?_, S.gr.keep ka gs, fun a u e n => ?_, S.len, S.inj, S.own, fun i s e => ?_⟩
  · by_cases ne : a = Dd
    · rw [ne]
      exact hD
    · refine Keep.there k gs ?_
      have q := S.mt a m
      rw [upd_ne ne] at q
      exact q
  · have q := S.he a u e n
    by_cases ne : a = Dd
    · rw [ne, h0] at e
      cases e
    · rw [upd_ne ne] at q
      exact k a u q n
  · have q := S.sl i s e
    cases s with
    | no => trivial
    | sh d =>
      obtain ⟨v, e1, r⟩ := q
      exact ⟨v, e1, r.keep ka⟩
    | ow ds =>
      obtain ⟨p, xs, e1, e2, e3, r⟩ := q
      have np : ¬ MB M o vs l Dd p := (S.own i p e1).1
      exact ⟨p, xs, e1, e2, ka (l' := [i]) p _ e3 fun z => z.elim np fun ⟨j, n, z⟩ => n (by rw [S.inj j i p z e1]; exact List.mem_singleton_self i), r.keep ka⟩
end
end PD
end
section
set_option Elab.async false
set_option linter.all false
set_option maxRecDepth 100000
set_option maxHeartbeats 2000000
/-! PD13: list comprehensions, one clause, two clauses. -/
namespace PD
open PySem L2 PyProof.Rows
def tTs (g : G) (v : Ev) (es : List E) : TT := fun σ H Q => ∃ ent stp M o env w, SI g ent stp M o σ env w H ∧ Po g stp F0 (fun _ b (x : Bool) => b = x) (tests v es env w) σ H Q
theorem _root_.L2.PTs.imp {X : Cx} {e : List Expr} {t t' : TT} (h : PTs X e t) (i : ∀ σ H Q, t' σ H Q → t σ H Q) : PTs X e t' := ⟨fun pins s σ H Q I q => h.run pins s σ H Q I (i σ H Q q)⟩
theorem GS.upd {g : G} {stp : Stp} {H : Hp} {w : W} {D : Addr} {u : HO} (h : GS g stp H w) (hD : ∃ xs, H D = some (.lst xs)) (n : ¬ Wr g stp D) : GS g stp (upd H D u) w := by
  refine ⟨tabs_beside h.1 hD, ?_⟩
  have q2 := h.2
  cases stp with
  | none => cases w with | none => trivial | some _ => exact q2
  | some pq =>
    obtain ⟨p, q, ns⟩ := pq
    cases w with
    | none => exact q2
    | some x =>
      obtain ⟨ns', k⟩ := x
      refine ⟨q2.1, ?_⟩
      have np : p ≠ D := fun z => n (.inr ⟨q, ns, by rw [z]⟩)
      rw [upd_ne np]
      exact q2.2
theorem wipe_idem (σ : L2.St) (vs : List Nat) : L2.wipe (L2.wipe σ vs) vs = L2.wipe σ vs := by
  have h : ∀ us : List Nat, (∀ i, i ∈ us → i ∈ vs) → L2.wipe (L2.wipe σ us) vs = L2.wipe σ vs := by
    intro us
    induction us with
    | nil => exact fun _ => rfl
    | cons u us ih =>
      intro hu
      show L2.wipe ((L2.wipe σ us).set u none) vs = _
      rw [wipe_set (hu u List.mem_cons_self), ih fun i hi => hu i (List.mem_cons_of_mem _ hi)]
  exact h vs fun _ h => h
section
variable {T : List (Addr × Str)} {pr : Pr} {C : Cm} {N : List Str} {dp : Nat} {X : Cx} {sc : Scope} {Wx : WX} {p pos : Pos} {v u : Ev} {f : Bool}
theorem pts_no {g : G} : PTs X [] (tTs g v []) := pts_nil.imp fun σ H Q ⟨ent, stp, M, o, env, w, S, p⟩ => p.use S rfl
theorem pts_c {g : G} {c : Expr} {ec : E} (h : PT X c (tDT g v F0 ec)) : PTs X [c] (tTs g v [ec]) := (pts_one h).imp fun σ H Q ⟨ent, stp, M, o, env, w, S, p⟩ => ⟨ent, stp, M, o, env, w, S, by
  refine cast ?_ p
  congr 1
  show ((v.e ec env w).bind fun d w => match truth d with | some true => tests v [] env w | some false => .ok false w | none => .stk) = _
  congr 1
  funext d w
  cases truth d with
  | none => rfl
  | some b => cases b <;> rfl⟩
theorem compL_ok {elt : E} {t : Tgt} {ifs : List E} {env : PD.Env} : ∀ {ds : List D} {w : W} {c : Str} {w' : W}, compL v elt t ifs ds env w ≠ .exc c w'
  | [], w, c, w' => nofun
  | d :: ds, w, c, w' => by
    show (match bindT t d env with | none => R.stk | some env1 => _) ≠ _
    cases bindT t d env with
    | none => exact nofun
    | some env1 =>
      show R.bind (R.noexc (tests v ifs env1 w)) _ ≠ _
      cases tests v ifs env1 w with
      | stk => exact nofun
      | exc _ _ => exact nofun
      | ok b w1 =>
        show (if b = true then _ else _) ≠ _
        cases b with
        | false => rw [if_neg Bool.false_ne_true]; exact compL_ok
        | true =>
          rw [if_pos rfl]
          show R.bind (R.noexc (v.e elt env1 w1)) _ ≠ _
          cases v.e elt env1 w1 with
          | stk => exact nofun
          | exc _ _ => exact nofun
          | ok x w2 =>
            show R.bind (compL v elt t ifs ds env w2) _ ≠ _
            cases h : compL v elt t ifs ds env w2 with
            | stk => exact nofun
            | exc _ _ => exact absurd h compL_ok
            | ok xs w3 => exact nofun
/-- a target's store within a block leaves what lies beside it -/
theorem SI.aft {g : G} {ent : Hp} {stp : Stp} {M : Addr → Prop} {o o' : Nat → Option Addr} {σ σ' : L2.St} {env env' : PD.Env} {w : W} {H : Hp} {vs : List Nat} {t : Tgt} {d : D} (S : SI g ent stp M o σ env w H) (S' : SI g ent stp M o' σ' env' w H) (e : bindT t d env = some env') (ht : ∀ i, i ∈ tgI t → i ∈ vs)
    (W3 : L2.wipe σ' vs = L2.wipe σ vs) {i : Nat} {p : Addr} (hi : i ∉ vs) (h : o i = some p) : o' i = some p := by
  refine S.own_at S' h ?_ (bindT_out e fun z => hi (ht i z))
  rw [← wipe_out (σ := σ') hi, W3, wipe_out hi]
theorem comp_in {it : PD.It} {t : Tgt} {eifs : List E} {ee : E} {vs : List Nat} {σ : L2.St} {H : Hp} {Q : VK} (htg : ∀ i, i ∈ tgI t → i ∈ vs)
    (h : tRf (gX T X) Wx f (al ee ++ alI it) (al ee ++ alI it) (fun env w => (evIt v it env w).bind fun ds w => (compL v ee t eifs ds (drops (alI it) (wipes vs env)) w).bind fun xs w => if szOk xs.length = true then .ok (.lst xs) w else .stk) σ H Q) :
    tLc (tI (gX T X) v Wx it) (gT (gX T X) t) (tTs (gX T X) v eifs) (tD (gX T X) v F0 ee) vs σ H Q := by
  obtain ⟨ent, stp, M, o, env, w, S, q⟩ := h
  refine ⟨ent, stp, M, o, env, w, S, Po.bind S q fun ds w1 J H1 _ S1 k1 itok q1 => fun D hD => ?_⟩
  obtain ⟨o2, S2, ho2⟩ := S1.blk vs (alI it) hD
  have entD : ent D = none := S1.entn hD
  have same : ∀ a u, H1 a = some u → upd H1 D (.lst []) a = some u := fun a u e => by rw [upd_ne (ne_of_none e hD)]; exact e
  -- the loop's invariant
  refine ⟨fun i m Hc => m = ds.length - i ∧ i ≤ ds.length ∧ ∃ w accv accd, Hc D = some (.lst accv) ∧ Keep (gX T X) stp H1 Hc ∧ GS (gX T X) stp Hc w ∧ Reps (gX T X) stp (fun a => Av M o (al ee ++ alI it) a ∨ a = D) Hc accv accd ∧
    Po (gX T X) stp Wx (relF (gX T X) ent f stp M o (al ee ++ alI it) (al ee ++ alI it)) ((compL v ee t eifs (ds.drop i) (drops (alI it) (wipes vs env)) w).bind fun xs w => if szOk (accd ++ xs).length = true then .ok (.lst (accd ++ xs)) w else .stk) σ H1 Q,
    ⟨ds.length, by simp, Nat.zero_le _, w1, [], [], upd_same, Keep.same same, S1.gr.1.same same, trivial, q1⟩, ?_⟩
  rintro i m Hc ⟨rfl, hile, wc, accv, accd, hcD, kc, gsc, racc, qc⟩
  have Sc : SI (gX T X) ent stp (MB M o vs (alI it) D) o2 (L2.wipe σ vs) (drops (alI it) (wipes vs env)) wc Hc := S2.stepB entD kc (by rw [hcD]; simp) gsc
  have ka : KeepA (Av M o (alW it)) H1 Hc := S1.ka kc
  by_cases hlt : i < ds.length
  · refine .inr ⟨itok.go Hc i ka hlt, ?_⟩
    obtain ⟨d, hd⟩ := getI hlt
    have hdrop : ds.drop i = d :: ds.drop (i + 1) := by
      rw [List.drop_eq_getElem_cons hlt]
      rw [List.getElem?_eq_getElem hlt] at hd
      rw [Option.some.inj hd]
    rw [hdrop] at qc
    refine ⟨fun H' => ∃ w accv accd, H' D = some (.lst accv) ∧ Keep (gX T X) stp H1 H' ∧ GS (gX T X) stp H' w ∧ Reps (gX T X) stp (fun a => Av M o (al ee ++ alI it) a ∨ a = D) H' accv accd ∧
      Po (gX T X) stp Wx (relF (gX T X) ent f stp M o (al ee ++ alI it) (al ee ++ alI it)) ((compL v ee t eifs (ds.drop (i + 1)) (drops (alI it) (wipes vs env)) w).bind fun xs w => if szOk (accd ++ xs).length = true then .ok (.lst (accd ++ xs)) w else .stk) σ H1 Q,
      fun H' h' => ⟨ds.length - (i + 1), by omega, rfl, hlt, h'⟩, fun x H' hy => ?_⟩
    -- the item
    obtain ⟨rx, hH'⟩ := itok.yld Hc i d x H' (Av (MB M o vs (alI it) D) o2 []) ka (fun a z => by
      rcases z with (z | ⟨j, _, hj, z⟩ | z) | ⟨j, _, z⟩
      · exact .inl (.inl z)
      · exact .inl (.inr ⟨j, hj, z⟩)
      · exact .inr (by rw [z]; exact hD)
      · exact .inl (.inr ⟨j, (ho2 j a z).2.2, (ho2 j a z).1⟩)) (fun a z => Sc.avt z) hd hy
    have ext : ∀ a u, Hc a = some u → H' a = some u := fun a u e => by
      rcases hH' with rfl | ⟨p, u', hp, rfl⟩
      · exact e
      · rw [upd_ne (ne_of_none e hp)]; exact e
    have k' : Keep (gX T X) stp Hc H' := Keep.same ext
    have S' := Sc.step k' (gsc.same ext)
    -- the target's store
    have qc : Po (gX T X) stp Wx (relF (gX T X) ent f stp M o (al ee ++ alI it) (al ee ++ alI it)) ((match bindT t d (drops (alI it) (wipes vs env)) with
      | none => (R.stk : R (List PD.D))
      | some env1 => (tests v eifs env1 wc).noexc.bind fun b w => if b = true then (v.e ee env1 w).noexc.bind fun x w => (compL v ee t eifs (ds.drop (i + 1)) (drops (alI it) (wipes vs env)) w).bind fun xs w => .ok (x :: xs) w
        else compL v ee t eifs (ds.drop (i + 1)) (drops (alI it) (wipes vs env)) w).bind fun xs w => if szOk (accd ++ xs).length = true then .ok (.lst (accd ++ xs)) w else .stk) σ H1 Q := qc
    cases hb : bindT t d (drops (alI it) (wipes vs env)) with
    | none => rw [hb] at qc; exact qc.elim
    | some env3 =>
      rw [hb] at qc
      dsimp only at qc
      rw [R.bind_assoc] at qc
      refine ⟨ent, stp, _, o2, _, wc, d, env3, S', rx, hb, fun o3 σ3 L3 W3 S3 => ⟨(W3 vs htg).trans (wipe_idem σ vs), ?_⟩⟩
      obtain ⟨b, w4, hbt, qc⟩ := R.noexc_bind qc
      refine ⟨ent, stp, _, o3, env3, wc, S3, Po.blk hbt S3 fun b' H4 S4 k4 rb => ?_⟩
      subst rb
      have kc4 := kc.trans (k'.trans k4)
      have dD : ∀ {H''}, Keep (gX T X) stp Hc H'' → H'' D = some (.lst accv) := fun k => k D _ hcD fun z => S1.gr.1.there z hD
      have hcD4 : H4 D = some (.lst accv) := dD (k'.trans k4)
      have racc4 : Reps (gX T X) stp (fun a => Av M o (al ee ++ alI it) a ∨ a = D) H4 accv accd := racc.keep fun a u ha n => (k'.trans k4) a u ha fun z => n (.inl (S1.wr' a z))
      cases b' with
      | false =>
        rw [if_neg Bool.false_ne_true] at qc
        exact iteF ⟨w4, accv, accd, hcD4, kc4, S4.gr.1, racc4, qc⟩
      | true =>
        rw [if_pos rfl, R.bind_assoc] at qc
        refine iteT ?_
        obtain ⟨y, w5, hy5, qc⟩ := R.noexc_bind qc
        refine ⟨ent, stp, _, o3, env3, w4, S4, Po.blk hy5 S4 fun yv H5 S5 k5 ry => ?_⟩
        have kc5 := kc4.trans k5
        have hcD5 : H5 D = some (.lst accv) := dD ((k'.trans k4).trans k5)
        have racc5 : Reps (gX T X) stp (fun a => Av M o (al ee ++ alI it) a ∨ a = D) H5 accv accd := racc4.keep fun a u ha n => k5 a u ha fun z => n (.inl (S1.wr' a z))
        rw [R.bind_assoc] at qc
        -- how long the list may grow
        have hlen : accd.length < sizeLine := by
          rw [sizeLine_eq]
          cases hr : compL v ee t eifs (ds.drop (i + 1)) (drops (alI it) (wipes vs env)) w5 with
          | stk => rw [hr] at qc; exact qc.elim
          | exc _ _ => exact absurd hr compL_ok
          | ok xs w6 =>
            rw [hr] at qc
            dsimp only [R.bind] at qc
            split at qc
            · rename_i qz
              have qz := of_decide_eq_true (show decide ((accd ++ (y :: xs)).length ≤ 16777216) = true from qz)
              simp only [List.length_append, List.length_cons] at qz
              omega
            · exact qc.elim
        have avy : ∀ a, (Av M o (al ee ++ alI it) a ∨ a = D) → Av (MB M o vs (alI it) D) o3 (al ee) a := fun a z => by
          rcases z with (z | ⟨j, hj, z⟩) | z
          · exact .inl (.inl z)
          · have h1 : j ∉ al ee := fun h => hj (List.mem_append_left _ h)
            have h2 : j ∉ alI it := fun h => hj (List.mem_append_right _ h)
            by_cases hv : j ∈ vs
            · exact .inl (.inr (.inl ⟨j, hv, h2, z⟩))
            · have z2 : o2 j = some a := S1.own_at S2 z (wipe_out hv) (by rw [drops_out h2, wipes_out hv])
              exact .inr ⟨j, h1, S'.aft S3 hb htg (W3 vs htg) hv z2⟩
          · exact .inl (.inr (.inr z))
        have ryr : Rep (gX T X) stp (fun a => Av M o (al ee ++ alI it) a ∨ a = D) H5 yv y := (ry.rep (Av.sub fun i h => alE_sub h)).weak avy
        have kD : KeepA (fun a => Av M o (al ee ++ alI it) a ∨ a = D) H5 (upd H5 D (.lst (accv ++ [yv]))) := fun a u ha n => by
          rw [upd_ne fun z => n (.inr z)]
          exact ha
        refine ⟨accv, hcD5, by rw [racc5.length]; exact hlen, w5, accv ++ [yv], accd ++ [y], upd_same, fun a u ha n => ?_, ?_, ?_, ?_⟩
        · rw [upd_ne (ne_of_none ha hD)]
          exact kc5 a u ha n
        · exact S5.gr.1.upd ⟨_, hcD5⟩ fun z => S1.gr.1.there z hD
        · exact Reps.append (racc5.keep kD) ⟨ryr.keep kD, trivial⟩
        · refine cast ?_ qc
          congr 2
          funext xs w
          dsimp only [R.bind]
          rw [List.append_assoc]
          rfl
  · have hi : i = ds.length := by omega
    subst hi
    refine .inl ⟨itok.stop Hc _ ka (Nat.le_refl _), ?_⟩
    rw [List.drop_length] at qc
    have qc : Po (gX T X) stp Wx (relF (gX T X) ent f stp M o (al ee ++ alI it) (al ee ++ alI it)) (if szOk (accd ++ []).length = true then .ok (.lst (accd ++ [])) wc else .stk) σ H1 Q := qc
    rw [List.append_nil] at qc
    split at qc
    · refine qc (.ref D) Hc kc gsc ⟨⟨D, accv, rfl, ⟨S1.frsh hD, hcD⟩, racc.weak fun _ z => .inl z⟩, fun _ ds' e => ?_⟩
      cases e
      exact ⟨D, accv, rfl, entD, hcD, racc⟩
    · exact qc.elim
theorem se_comp {elt tg iter : Expr} {ifs : List Expr} {scope : Scope} {own : List (Str × Nat)} {it : PD.It} {t : Tgt} {eifs : List E} {ee : E} (hc : X.calm = true) (hN : X.N.Nodup) (hi : PI X tg iter (tI (gX T X) v Wx it)) (okb : BlkOk X.N X.env.scope scope own) (htg : ∀ i, i ∈ tgI t → i ∈ own.map (·.2))
    (hg : ∀ (s : Shared) (H : Hp) (C : Addr) (cl : List (Str × Addr)) (fp : List Addr), PG (X.blk s H scope (compEnvC scope cl C X.env) fp) tg (gT (gX T X) t))
    (ht : ∀ (s : Shared) (H : Hp) (C : Addr) (cl : List (Str × Addr)) (fp : List Addr), PTs (X.blk s H scope (compEnvC scope cl C X.env) fp) ifs (tTs (gX T X) v eifs))
    (he : ∀ (s : Shared) (H : Hp) (C : Addr) (cl : List (Str × Addr)) (fp : List Addr), PE (X.blk s H scope (compEnvC scope cl C X.env) fp) elt (tD (gX T X) v F0 ee)) (hs : ∀ x, foldedSetIterable iter X.env x = pure x) :
    PE X (.ListComp elt [⟨tg, iter, ifs, 0⟩] scope pos) (tRf (gX T X) Wx f (al ee ++ alI it) (al ee ++ alI it) fun env w => (evIt v it env w).bind fun ds w => (compL v ee t eifs ds (drops (alI it) (wipes (own.map (·.2)) env)) w).bind fun xs w => if szOk xs.length = true then .ok (.lst xs) w else .stk) :=
  (pe_lc hc hN hi okb hg ht he hs).imp fun σ H Q q => comp_in htg q
end
end PD
end
section
set_option Elab.async false
set_option linter.all false
set_option maxRecDepth 100000
set_option maxHeartbeats 2000000
/-! PD14: statements. -/
namespace PD
open PySem L2 PyProof.Rows
/-- a def's state between its statements -/
structure SS (g : G) (ent : Hp) (stp : Stp) (M : Addr → Prop) (o : Nat → Option Addr) (σ : L2.St) (env : Env) (w : W) (H : Hp) : Prop where
  si : SI g ent stp M o σ env w H
  new : ∀ i p, o i = some p → ent p = none
def EK (g : G) (ent : Hp) (stp : Stp) (H : Hp) : Prop := ∀ a u, ent a = some u → ¬ Wr g stp a → H a = some u
/-- a block's end told by the evaluator -/
def PoS (g : G) (ent : Hp) (stp : Stp) (M : Addr → Prop) (Wx : WX) (r : R (Env × Ctl)) (D : Ends) : Prop := match r with
  | .ok (env', .nx) w' => ∀ o' σ' H', SS g ent stp M o' σ' env' w' H' → D.nx σ' H'
  | .ok (env', .bk) w' => ∀ o' σ' H', SS g ent stp M o' σ' env' w' H' → D.bk σ' H'
  | .ok (_, .rt d) w' => ∀ v H', EK g ent stp H' → GS g stp H' w' → Rep g stp M H' v d → D.rt v H'
  | .exc c w' => ∀ σ' H' cl, EK g ent stp H' → GS g stp H' w' → g.mg c = some (.ref cl) → Wx (.ref cl) none σ' H'
  | .stk => False
def tS (g : G) (Wx : WX) (r : Env → W → R (Env × Ctl)) : TS := fun D σ H => ∃ ent stp M o env w, SS g ent stp M o σ env w H ∧ PoS g ent stp M Wx (r env w) D
theorem _root_.L2.PS.imp {X : Cx} {e : Stmt} {t t' : TS} (h : PS X e t) (i : ∀ D σ H, t' D σ H → t D σ H) : PS X e t' := ⟨fun pins s σ H D I q => h.run pins s σ H D I (i D σ H q)⟩
theorem _root_.L2.PSs.imp {X : Cx} {e : List Stmt} {t t' : TS} (h : PSs X e t) (i : ∀ D σ H, t' D σ H → t D σ H) : PSs X e t' := ⟨fun pins s σ H D I q => h.run pins s σ H D I (i D σ H q)⟩
section
variable {g : G} {ent : Hp} {stp : Stp} {M : Addr → Prop} {o o' : Nat → Option Addr} {σ σ' : L2.St} {env env' : Env} {w w' : W} {H H' H1 : Hp} {l l' le : List Nat} {Wx : WX} {Dn : Ends}
theorem SI.ek (S : SI g ent stp M o σ env w H) : EK g ent stp H := S.he
theorem SI.ekK (S : SI g ent stp M o σ env w H) (k : Keep g stp H H') : EK g ent stp H' := fun a u e n => k a u (S.he a u e n) n
/-- from a statement's result to its expression's -/
theorem PoS.bind {α β : Type} {rel : Hp → β → α → Prop} (S : SI g ent stp M o σ env w H) {r : R α} {f : α → W → R (Env × Ctl)} {Q1 : β → Hp → Prop} (h : PoS g ent stp M Wx (r.bind f) Dn)
    (k : ∀ a w' v H', r = .ok a w' → SI g ent stp M o σ env w' H' → Keep g stp H H' → rel H' v a → PoS g ent stp M Wx (f a w') Dn → Q1 v H') : Po g stp Wx rel r σ H Q1 := by
  cases r with
  | ok a w' => exact fun v H' kp gs rv => k a w' v H' rfl (S.step kp gs) kp rv h
  | exc c w' => exact fun H' cl kp gs e => h σ H' cl (S.ekK kp) gs e
  | stk => exact h
/-- new lists that wait for their slots -/
theorem SI.pendP (S : SI g ent stp M o σ env w H) (k : Keep g stp H H1) (gs : GS g stp H1 w') {P : Addr → Prop} (hp : ∀ a, P a → H a = none) (hp1 : ∀ a, P a → H1 a ≠ none) : SI g ent stp (fun a => M a ∨ P a) o σ env w' H1 := by
  have pre : ∀ a, Av (fun a => M a ∨ P a) o [] a → Av M o [] a ∨ H a = none := fun a z => by
    rcases z with (z | z) | z
    · exact .inl (.inl z)
    · exact .inr (hp a z)
    · exact .inl (.inr z)
  have S1 := S.step k gs
  refine ⟨fun a h => .inl (S.wr a h), fun a h => h.elim (S1.mt a) (hp1 a), ⟨gs, fun q1 q ns e => ?_⟩, S1.he, S.len, S.inj, fun i q e => ⟨fun z => ?_, (S.own i q e).2⟩, fun i s e => ?_⟩
  · have z := S.gr.2 q1 q ns e
    refine LsA.keep (av := Av (fun a => M a ∨ P a) o []) (H := H) ⟨fun y => ?_, z.2⟩ fun a u ha n => k a u ha fun y => n (.inl (.inl (S.wr a y)))
    rcases pre q y with y | y
    · exact z.1 y
    · rw [z.2] at y; cases y
  · rcases z with z | z
    · exact (S.own i q e).1 z
    · obtain ⟨xs, y⟩ := S.lst e
      rw [hp q z] at y
      cases y
  · have q := S.sl i s e
    have ka : KeepA (Av (fun a => M a ∨ P a) o []) H H1 := fun a u ha n => k a u ha fun y => n (.inl (.inl (S.wr a y)))
    cases s with
    | no => trivial
    | sh d =>
      obtain ⟨v, e1, r⟩ := q
      exact ⟨v, e1, (r.pres pre).keep ka⟩
    | ow ds =>
      obtain ⟨q1, vs, e1, e2, e3, r⟩ := q
      exact ⟨q1, vs, e1, e2, k q1 _ e3 fun z => (S.own i q1 e1).1 (S.wr q1 z), (r.pres pre).keep ka⟩
theorem SI.pend (S : SI g ent stp M o σ env w H) (k : Keep g stp H H1) (gs : GS g stp H1 w') {p : Addr} (hp : H p = none) (hp1 : H1 p ≠ none) : SI g ent stp (fun a => M a ∨ a = p) o σ env w' H1 :=
  S.pendP k gs (P := fun a => a = p) (fun a e => by rw [e]; exact hp) fun a e => by rw [e]; exact hp1
theorem SI.dropDq (S : SI g ent stp M o σ env w H) (l : List Nat) (d : D) : ∃ o', SI g ent stp M o' σ (PD.dropD l d env) w H ∧ Less o' o ∧ ∀ {vs : List V} {ds : List D}, (d.flat = true → D.flats ds = true) → Reps g stp (Av M o l) H vs ds → Reps g stp (Av M o' []) H vs ds := by
  unfold PD.dropD
  split
  · obtain ⟨o', S', h⟩ := S.drops l
    exact ⟨o', S', h.less, fun _ r => r.weak h.avs⟩
  · rename_i q
    refine ⟨o, S, Less.refl, fun hf r => ?_⟩
    cases q1 : d.flat with
    | true =>
      exact Reps.flat (fun a z => by
        rcases z with z | ⟨i, _, e⟩
        · exact .inl (.inl z)
        · exact .inr (S.lst e)) (hf q1) r
    | false =>
      rw [q1, Bool.not_false, Bool.and_true] at q
      refine r.weak fun a z => z.elim .inl fun ⟨i, _, e⟩ => .inr ⟨i, fun hi => q (List.any_eq_true.mpr ⟨i, hi, isOw_o S e⟩), e⟩
def onO (i : Nat) (p : Addr) (o : Nat → Option Addr) : Nat → Option Addr := fun j => if j = i then some p else o j
/-- a waiting list comes into a slot -/
theorem SI.setOw {p : Addr} {ws : List V} {xs : List D} (S : SI g ent stp (fun a => M a ∨ a = p) o σ env w H) (i : Nat) (hlt : i < env.length) (hp : H p = some (.lst ws)) (r : Reps g stp (Av (fun a => M a ∨ a = p) o []) H ws xs) (hn : ¬ M p) (hw : ∀ a, Wr g stp a → M a) :
    SI g ent stp M (onO i p o) (σ.set i (some (.ref p))) (env.set i (.ow xs)) w H := by
  have av : ∀ a, Av M (onO i p o) [] a → Av (fun a => M a ∨ a = p) o [] a := fun a z => by
    rcases z with z | ⟨j, _, z⟩
    · exact .inl (.inl z)
    · unfold onO at z
      split at z
      · cases z; exact .inl (.inr rfl)
      · exact .inr ⟨j, nofun, z⟩
  have np : ∀ j, o j ≠ some p := fun j e => (S.own j p e).1 (.inr rfl)
  refine ⟨hw, fun a h => S.mt a (.inl h), S.gr.weak av, S.he, by simp [S.len], fun j k q e e' => ?_, fun j q e => ?_, fun j s e => ?_⟩
  · unfold onO at e e'
    split at e
    · cases e
      split at e'
      · rename_i h1 h2; rw [h1, h2]
      · exact absurd e' (np k)
    · split at e'
      · cases e'; exact absurd e (np j)
      · exact S.inj j k q e e'
  · unfold onO at e
    split at e
    · rename_i h1
      cases e
      subst h1
      exact ⟨hn, xs, by rw [List.getElem?_set_self hlt]⟩
    · rename_i h1
      obtain ⟨a1, ds, a2⟩ := S.own j q e
      exact ⟨fun z => a1 (.inl z), ds, by rw [List.getElem?_set_ne (Ne.symm h1)]; exact a2⟩
  · by_cases hj : j = i
    · subst hj
      rw [List.getElem?_set_self hlt] at e
      cases e
      exact ⟨p, ws, by unfold onO; rw [if_pos rfl], by rw [List.getElem?_set_self (by rw [S.len]; exact hlt)], hp, r.weak av⟩
    · rw [List.getElem?_set_ne (Ne.symm hj)] at e
      have q := S.sl j s e
      cases s with
      | no => trivial
      | sh d =>
        obtain ⟨v, e1, r1⟩ := q
        exact ⟨v, by rw [List.getElem?_set_ne (Ne.symm hj)]; exact e1, r1.weak av⟩
      | ow ds =>
        obtain ⟨q1, vs, e1, e2, e3, r1⟩ := q
        exact ⟨q1, vs, by unfold onO; rw [if_neg hj]; exact e1, by rw [List.getElem?_set_ne (Ne.symm hj)]; exact e2, e3, r1.weak av⟩
/-- a slot's list is written -/
theorem SI.wrOw {i : Nat} {p : Addr} {ds es : List D} {us : List V} (S : SI g ent stp M o σ env w H) (he : ent p = none) (e : env[i]? = some (.ow ds)) (ho : o i = some p) (r : Reps g stp (Av M o []) H us es) :
    SI g ent stp M o σ (env.set i (.ow es)) w (upd H p (.lst us)) ∧ Keep g stp H H := by
  refine ⟨?_, Keep.refl⟩
  have hlt : i < env.length := (List.getElem?_eq_some_iff.mp e).1
  have nM : ¬ M p := (S.own i p ho).1
  obtain ⟨xs, hp⟩ := S.lst ho
  have ka : KeepA (Av M o []) H (upd H p (.lst us)) := fun a u ha n => by
    rw [upd_ne fun z => n (.inr ⟨i, nofun, by rw [z]; exact ho⟩)]
    exact ha
  have gs : GS g stp (upd H p (.lst us)) w := S.gr.1.upd ⟨_, hp⟩ fun z => nM (S.wr p z)
  refine ⟨S.wr, fun a h => ?_, ⟨gs, fun q1 q ns e => (S.gr.2 q1 q ns e).keep ka⟩, fun a u ea n => ?_, by simp [S.len], S.inj, fun j q eq => ?_, fun j s ej => ?_⟩
  · rw [upd_ne fun z => nM (by rw [← z]; exact h)]
    exact S.mt a h
  · rw [upd_ne fun z => by rw [z, he] at ea; cases ea]
    exact S.he a u ea n
  · obtain ⟨a1, ds', a2⟩ := S.own j q eq
    by_cases hj : i = j
    · subst hj
      exact ⟨a1, es, by rw [List.getElem?_set_self hlt]⟩
    · exact ⟨a1, ds', by rw [List.getElem?_set_ne hj]; exact a2⟩
  · by_cases hj : i = j
    · subst hj
      rw [List.getElem?_set_self hlt] at ej
      cases ej
      obtain ⟨q, vs, e1, e2, e3, _⟩ := S.sl i _ e
      rw [ho] at e1
      cases e1
      exact ⟨p, us, ho, e2, upd_same, r.keep ka⟩
    · rw [List.getElem?_set_ne hj] at ej
      have q := S.sl j s ej
      cases s with
      | no => trivial
      | sh d =>
        obtain ⟨v, e1, r1⟩ := q
        exact ⟨v, e1, r1.keep ka⟩
      | ow ds =>
        obtain ⟨q1, vs, e1, e2, e3, r1⟩ := q
        exact ⟨q1, vs, e1, e2, by rw [upd_ne fun z => hj (S.inj i j p ho (by rw [← z]; exact e1))]; exact e3, r1.keep ka⟩
end
end PD
end
section
set_option Elab.async false
set_option linter.all false
set_option maxRecDepth 100000
set_option maxHeartbeats 2000000
/-! PD15: statements, one rule a form. -/
namespace PD
open PySem L2 PyProof.Rows
section
variable {T : List (Addr × Str)} {pr : Pr} {C : Cm} {N : List Str} {dp : Nat} {X : Cx} {sc : Scope} {Wx : WX} {p pos : Pos} {v u : Ev} {f : Bool} {g : G} {Dn : Ends} {σ : L2.St} {H : Hp}
theorem SS.enn {ent : Hp} {stp : Stp} {M : Addr → Prop} {o : Nat → Option Addr} {env : PD.Env} {w : W} (S : SI g ent stp M o σ env w H) {a : Addr} (h : H a = none) : ent a = none := S.entn h
theorem Less.new {ent : Hp} {o o' : Nat → Option Addr} (h : ∀ i p, o i = some p → ent p = none) (l : Less o' o) : ∀ i p, o' i = some p → ent p = none := fun i p e => h i p (l i p e)
/-- the value is stored as it is -/
theorem asg_sh {i : Nat} {ee : E} {l : List Nat} {ent : Hp} {stp : Stp} {M : Addr → Prop} {o : Nat → Option Addr} {env : PD.Env} {w : W} {x : V} {d : D} (S : SI g ent stp M o σ env w H) (hn : ∀ i p, o i = some p → ent p = none) (r : RepX g stp (Av M o (al ee)) (Av M o (alE ee)) H x d) :
    ∃ o', SS g ent stp M o' (σ.set i (some x)) ((dropD (al ee) d env).set i (.sh d)) w H := by
  obtain ⟨o', S', r', hl⟩ := S.dropD (al ee) (r.rep (Av.sub fun i h => alE_sub h))
  exact ⟨offO i o', S'.setSh i r', Less.new hn ((offO_less i).less.trans hl)⟩
theorem putE_no {i : Nat} {e : E} {d : D} {env : PD.Env} (h : fr e = false) : putE i e d env = (dropD (al e) d env).set i (.sh d) := by
  unfold putE
  rw [h]
theorem putE_sh {i : Nat} {e : E} {d : D} {env : PD.Env} (h : ∀ ds, d ≠ .lst ds) : putE i e d env = (dropD (al e) d env).set i (.sh d) := by
  unfold putE
  split
  · exact absurd rfl (h _)
  · rfl
theorem putE_ow {i : Nat} {e : E} {ds : List D} {env : PD.Env} (h : fr e = true) : putE i e (.lst ds) env = (dropD (al e) (.lst ds) env).set i (.ow ds) := by
  unfold putE
  rw [h]
theorem asg_in {i : Nat} {ee : E} (hfr : fr ee = false) (h : tS g Wx (fun env w => (v.e ee env w).bind fun d w => .ok (putE i ee d env, .nx) w) Dn σ H) : tAsg (tD g v Wx ee) (gName i) Dn σ H := by
  obtain ⟨ent, stp, M, o, env, w, S, q⟩ := h
  refine ⟨ent, stp, M, o, env, w, S.si, PoS.bind S.si q fun d w1 x H1 _ S1 k1 rx q1 => ?_⟩
  rw [putE_no hfr] at q1
  obtain ⟨o', S'⟩ := asg_sh (i := i) (l := []) S1 S.new rx
  exact q1 o' _ H1 S'
theorem asgF_in {i : Nat} {ee : E} (hfr : fr ee = true) (hlt : i < σ.length) (h : tS g Wx (fun env w => (v.e ee env w).bind fun d w => .ok (putE i ee d env, .nx) w) Dn σ H) : tAsg (tF g v Wx ee) (gName i) Dn σ H := by
  obtain ⟨ent, stp, M, o, env, w, S, q⟩ := h
  have SH : SI g H stp M o σ env w H := ⟨S.si.wr, S.si.mt, S.si.gr, fun a u e _ => e, S.si.len, S.si.inj, S.si.own, S.si.sl⟩
  refine ⟨H, stp, M, o, env, w, SH, PoS.bind S.si q fun d w1 x H1 _ S1 k1 rx q1 => ?_⟩
  by_cases hd : ∃ ds, d = .lst ds
  · obtain ⟨ds, rfl⟩ := hd
    obtain ⟨p, ws, ex, hp, hp1, rw⟩ := rx.2 rfl ds rfl
    subst ex
    rw [putE_ow hfr] at q1
    have SP := S.si.pend k1 S1.gr.1 hp (by rw [hp1]; simp)
    obtain ⟨o', S', hl, hr⟩ := SP.dropDq (al ee) (.lst ds)
    have hlt' : i < (PD.dropD (al ee) (.lst ds) env).length := by rw [← S'.len]; exact hlt
    have nM : ¬ M p := fun z => S.si.mt p z hp
    have r2 : Reps g stp (Av (fun a => M a ∨ a = p) o (al ee)) H1 ws ds := rw.weak fun a z => by
      rcases z with (z | z) | ⟨j, n, z⟩
      · exact .inl (.inl z)
      · exact .inr z
      · exact .inl (.inr ⟨j, fun h => n (alE_sub h), z⟩)
    have fin := S'.setOw i hlt' hp1 (hr (fun h => by simp [D.flat] at h) r2) nM S.si.wr
    refine q1 (onO i p o') _ H1 ⟨fin, fun j a e => ?_⟩
    unfold onO at e
    split at e
    · cases e; exact S.si.entn hp
    · exact S.new j a (hl j a e)
  · rw [putE_sh fun ds e => hd ⟨ds, e⟩] at q1
    obtain ⟨o', S'⟩ := asg_sh (i := i) (l := []) S1 S.new rx.1
    exact q1 o' _ H1 S'
theorem ex_in {ee : E} (h : tS g Wx (fun env w => (v.e ee env w).bind fun _ w => .ok (env, .nx) w) Dn σ H) : tDrop (tD g v Wx ee) Dn σ H := by
  obtain ⟨ent, stp, M, o, env, w, S, q⟩ := h
  exact ⟨ent, stp, M, o, env, w, S.si, PoS.bind S.si q fun d w1 x H1 _ S1 k1 rx q1 => q1 o σ H1 ⟨S1, S.new⟩⟩
theorem ret_in {ee : E} (h : tS g Wx (fun env w => (v.e ee env w).bind fun d w => .ok (env, .rt d) w) Dn σ H) : tRet (tD g v Wx ee) Dn σ H := by
  obtain ⟨ent, stp, M, o, env, w, S, q⟩ := h
  exact ⟨ent, stp, M, o, env, w, S.si, PoS.bind S.si q fun d w1 x H1 _ S1 k1 rx q1 => q1 x H1 S1.ek S1.gr.1 ((rx.rep (Av.sub fun i h => alE_sub h)).weak Av.ofM)⟩
theorem retN_in (h : tS g Wx (fun env w => .ok (env, .rt .non) w) Dn σ H) : tRetN Dn σ H := by
  obtain ⟨ent, stp, M, o, env, w, S, q⟩ := h
  exact q .non H S.si.ek S.si.gr.1 rfl
theorem pass_in (h : tS g Wx (fun env w => .ok (env, .nx) w) Dn σ H) : tNext Dn σ H := by
  obtain ⟨ent, stp, M, o, env, w, S, q⟩ := h
  exact q o σ H S
theorem brk_in (h : tS g Wx (fun env w => .ok (env, .bk) w) Dn σ H) : tBreak Dn σ H := by
  obtain ⟨ent, stp, M, o, env, w, S, q⟩ := h
  exact q o σ H S
theorem ss_raise (ok : XOk T pr C N dp X sc) (tk : Takes X Wx) {x m : Str} {j : Nat} {p2 pos' : Pos} (hg : glbB sc x = true) (hn : okN x = true) (hx : C.excs.contains x = true) :
    PS X (.Raise (some (.Call (.Name x p) [.Constant (.str m) j p2] [] pos)) none pos') (tS (gX T X) Wx fun _ w => .exc x w) := by
  obtain ⟨cl, E⟩ := ok.nam.exc x hx
  refine (ps_raise ok.calm tk (pmk_own PySem.F.excBase_ValueError E.exc E.mg E.keep (raises_own E.sub E.typ) (ok.gl hg) (okN_ok hn).1)).imp ?_
  rintro D σ H ⟨ent, stp, M, o, env, w, S, q⟩
  exact q σ H cl S.si.ek S.si.gr.1 E.mg
/-! ### tests -/
theorem PoS.test {ent : Hp} {stp : Stp} {M : Addr → Prop} {o : Nat → Option Addr} {env : PD.Env} {w : W} {r : R D} {ft ff : D → W → R (PD.Env × Ctl)} (S : SI g ent stp M o σ env w H) (h : PoS g ent stp M Wx (r.bind fun d w => match truth d with | some true => ft d w | some false => ff d w | none => .stk) Dn) {Q1 : Bool → Hp → Prop}
    (kt : ∀ d w1 H1, truth d = some true → SI g ent stp M o σ env w1 H1 → PoS g ent stp M Wx (ft d w1) Dn → Q1 true H1) (kf : ∀ d w1 H1, truth d = some false → SI g ent stp M o σ env w1 H1 → PoS g ent stp M Wx (ff d w1) Dn → Q1 false H1) :
    Po g stp Wx (fun _ b (x : Bool) => b = x) (r.bind fun d w => R.opt (truth d) w) σ H Q1 := by
  cases r with
  | exc c w' => exact fun H' cl kp gs e => h σ H' cl (S.ekK kp) gs e
  | stk => exact h
  | ok d w' =>
    have h : PoS g ent stp M Wx (match truth d with | some true => ft d w' | some false => ff d w' | none => .stk) Dn := h
    show Po g stp Wx _ (R.opt (truth d) w') σ H Q1
    cases e : truth d with
    | none => rw [e] at h; exact h.elim
    | some b =>
      rw [e] at h
      intro c H' k gs rc
      subst rc
      cases c with
      | true => exact kt d w' H' e (S.step k gs) h
      | false => exact kf d w' H' e (S.step k gs) h
theorem ife_in {ec : E} {a b : List S} (h : tS g Wx (fun env w => (v.e ec env w).bind fun d w => match truth d with
    | some true => v.b a env w
    | some false => v.b b env w
    | none => .stk) Dn σ H) : tIfS (tDT g v Wx ec) (tS g Wx (v.b a)) (tS g Wx (v.b b)) Dn σ H := by
  obtain ⟨ent, stp, M, o, env, w, S, q⟩ := h
  refine ⟨ent, stp, M, o, env, w, S.si, PoS.test S.si q (fun d w1 H1 _ S1 q1 => ?_) fun d w1 H1 _ S1 q1 => ?_⟩
  · exact iteT ⟨ent, stp, M, o, env, w1, ⟨S1, S.new⟩, q1⟩
  · exact iteF ⟨ent, stp, M, o, env, w1, ⟨S1, S.new⟩, q1⟩
/-! ### a block -/
theorem blk_nil : PSs X [] (tS g Wx fun env w => .ok (env, .nx) w) := pss_nil.imp fun D σ H h => pass_in h
theorem blk_cons {st : Stmt} {rest : List Stmt} {r1 r2 : PD.Env → W → R (PD.Env × Ctl)} (h1 : PS X st (tS g Wx r1)) (h2 : PSs X rest (tS g Wx r2)) : PSs X (st :: rest) (tS g Wx fun env w => (r1 env w).bind fun p w => match p with
    | (env, .nx) => r2 env w
    | (env, c) => .ok (env, c) w) := by
  refine (pss_cons h1 h2).imp ?_
  rintro D σ H ⟨ent, stp, M, o, env, w, S, q⟩
  refine ⟨ent, stp, M, o, env, w, S, ?_⟩
  dsimp only at q
  cases hr : r1 env w with
  | stk => rw [hr] at q; exact q
  | exc c w' => rw [hr] at q; exact q
  | ok p w' =>
    rw [hr] at q
    obtain ⟨env', c⟩ := p
    cases c with
    | nx => exact fun o' σ' H' S' => ⟨ent, stp, M, o', env', w', S', q⟩
    | bk => exact q
    | rt d => exact q
/-! ### loops -/
/-- a while's result -/
def whlR (v : Ev) (ec : E) (b : List S) : PD.Env → W → R (PD.Env × Ctl) := fun env w => (v.e ec env w).bind fun d w => match truth d with
    | some true => (v.b b env w).bind fun p w => (match p with
      | (env, .nx) => v.b [.whl ec b] env w
      | (env, .bk) => .ok (env, .nx) w
      | (env, .rt d) => .ok (env, .rt d) w)
    | some false => .ok (env, .nx) w
    | none => .stk
theorem ss_whl {c : Expr} {body : List Stmt} {ec : E} {eb : List S} (V : Nat → Ev) (n : Nat) (hp : PassesOwn (model X.prog X.w) X.A X.env X.xe) (hc : ∀ m, m ≤ n → PT X c (tDT g (V m) Wx ec)) (hb : ∀ m, m ≤ n → PSs X body (tS g Wx ((V m).b eb)))
    (hV : ∀ m env w, (V (m + 1)).b [.whl ec eb] env w = whlR (V m) ec eb env w) (h0 : ∀ env w, (V 0).e ec env w = .stk) : PS X (.While c body [] pos) (tS g Wx (whlR (V n) ec eb)) := by
  have hc' : PT X c (fun σ H Q => ∃ m, m ≤ n ∧ tDT g (V m) Wx ec σ H Q) := ⟨fun pins s σ H Q I ⟨m, hm, q⟩ => (hc m hm).run pins s σ H Q I q⟩
  have hb' : PSs X body (fun D σ H => ∃ m, m ≤ n ∧ tS g Wx ((V m).b eb) D σ H) := ⟨fun pins s σ H Q I ⟨m, hm, q⟩ => (hb m hm).run pins s σ H Q I q⟩
  refine (ps_while hp hc' hb').imp ?_
  rintro D σ H ⟨ent, stp, M, o, env, w, S, q⟩
  refine ⟨fun m σ H => m ≤ n ∧ ∃ o env w, SS g ent stp M o σ env w H ∧ PoS g ent stp M Wx (whlR (V m) ec eb env w) D, ⟨n, Nat.le_refl _, o, env, w, S, q⟩, ?_⟩
  rintro m σ H ⟨hm, o, env, w, S, q⟩
  refine ⟨m, hm, ent, stp, M, o, env, w, S.si, PoS.test S.si q (fun d w1 H1 _ S1 q1 => ?_) fun d w1 H1 _ S1 q1 => ?_⟩
  · refine iteT ?_
    cases m with
    | zero =>
      unfold whlR at q
      rw [h0] at q
      exact q.elim
    | succ k =>
      refine ⟨fun σ' H' => ∃ o env w, SS g ent stp M o σ' env w H' ∧ PoS g ent stp M Wx (whlR (V k) ec eb env w) D, fun σ' H' h => ⟨k, Nat.lt_succ_self k, by omega, h⟩, k + 1, hm, ent, stp, M, o, env, w1, ⟨S1, S.new⟩, ?_⟩
      cases hr : (V (k + 1)).b eb env w1 with
      | stk => rw [hr] at q1; exact q1
      | exc c w' => rw [hr] at q1; exact q1
      | ok p w' =>
        rw [hr] at q1
        obtain ⟨env', c⟩ := p
        cases c with
        | nx =>
          intro o' σ' H' S'
          have q1 : PoS g ent stp M Wx ((V (k + 1)).b [.whl ec eb] env' w') D := q1
          rw [hV] at q1
          exact ⟨o', env', w', S', q1⟩
        | bk => exact q1
        | rt d => exact q1
  · exact iteF (q1 o σ H1 ⟨S1, S.new⟩)
theorem PoS.up {ent ent' : Hp} {stp : Stp} {M : Addr → Prop} {r : R (PD.Env × Ctl)} (h1 : ∀ o σ env w H, SS g ent' stp M o σ env w H → SS g ent stp M o σ env w H) (h2 : ∀ H, EK g ent' stp H → EK g ent stp H) (q : PoS g ent stp M Wx r Dn) : PoS g ent' stp M Wx r Dn := by
  cases r with
  | stk => exact q
  | exc c w' => exact fun σ' H' cl a b c => q σ' H' cl (h2 H' a) b c
  | ok p w' =>
    obtain ⟨env', c⟩ := p
    cases c with
    | nx => exact fun o' σ' H' S' => q o' σ' H' (h1 _ _ _ _ _ S')
    | bk => exact fun o' σ' H' S' => q o' σ' H' (h1 _ _ _ _ _ S')
    | rt d => exact fun v H' a b c => q v H' (h2 H' a) b c
theorem for_in {it : PD.It} {t : Tgt} {b : List S} (h : tS g Wx (fun env w => (evIt v it env w).bind fun ds w => forL v t b ds (drops (alW it) env) w) Dn σ H) : tFor (tI g v Wx it) (gT g t) (tS g Wx (v.b b)) Dn σ H := by
  obtain ⟨ent, stp, M, o, env, w, S, q⟩ := h
  refine ⟨ent, stp, M, o, env, w, S.si, PoS.bind S.si q fun ds w1 J H1 _ S1 k1 itok q1 => ?_⟩
  obtain ⟨o1, S2, ho1⟩ := S1.drops (alW it)
  obtain ⟨e1, he1⟩ : ∃ e1 : Hp, ∀ a, e1 a = (open Classical in if ∃ i, o1 i = some a then none else H1 a) := ⟨_, fun _ => rfl⟩
  have own1 : ∀ i p, o1 i = some p → e1 p = none := fun i p e => by
    rw [he1]
    exact if_pos ⟨i, e⟩
  have e1H : ∀ a u, e1 a = some u → H1 a = some u ∧ ∀ i, o1 i ≠ some a := fun a u e => by
    rw [he1] at e
    split at e
    · cases e
    · rename_i hno
      exact ⟨e, fun i z => hno ⟨i, z⟩⟩
  have He1 : ∀ a u, H1 a = some u → (∀ i, o1 i ≠ some a) → e1 a = some u := fun a u e n => by
    rw [he1, if_neg fun ⟨i, z⟩ => n i z]
    exact e
  have low : ∀ a, e1 a = none → H1 a = none ∨ ∃ i, o1 i = some a := fun a e => by
    rw [he1] at e
    split at e
    · exact .inr (by assumption)
    · exact .inl e
  have ek : ∀ H, EK g e1 stp H → EK g ent stp H := fun H k a u e n => by
    refine k a u (He1 a u (S1.he a u e n) fun i z => ?_) n
    have q := S.new i a ((ho1 i a z).1)
    rw [q] at e
    cases e
  have ss : ∀ o σ env w H, SS g e1 stp M o σ env w H → SS g ent stp M o σ env w H := fun o' σ' env' w' H' Z => ⟨⟨Z.si.wr, Z.si.mt, Z.si.gr, ek H' Z.si.he, Z.si.len, Z.si.inj, Z.si.own, Z.si.sl⟩, fun i p e => by
    rcases low p (Z.new i p e) with z | ⟨j, z⟩
    · exact S1.entn z
    · exact S.new j p (ho1 j p z).1⟩
  have S3 : SS g e1 stp M o1 σ (drops (alW it) env) w1 H1 := ⟨⟨S2.wr, S2.mt, S2.gr, fun a u e _ => (e1H a u e).1, S2.len, S2.inj, S2.own, S2.sl⟩, own1⟩
  refine ⟨fun i m σ H => m = ds.length - i ∧ i ≤ ds.length ∧ ∃ o env w, SS g e1 stp M o σ env w H ∧ PoS g e1 stp M Wx (forL v t b (ds.drop i) env w) Dn, ⟨ds.length, by simp, Nat.zero_le _, o1, _, w1, S3, q1.up ss ek⟩, ?_⟩
  rintro i m σ H ⟨rfl, hile, oc, envc, wc, Sc, qc⟩
  have ka : KeepA (Av M o (alW it)) H1 H := fun a u ha n => Sc.si.he a u (He1 a u ha fun j z => n (.inr ⟨j, (ho1 j a z).2, (ho1 j a z).1⟩)) fun z => n (.inl (S1.wr a z))
  by_cases hlt : i < ds.length
  · refine .inr ⟨itok.go H i ka hlt, fun σ' H' => ∃ o env w, SS g e1 stp M o σ' env w H' ∧ PoS g e1 stp M Wx (forL v t b (ds.drop (i + 1)) env w) Dn, fun σ' H' h => ⟨ds.length - (i + 1), by omega, rfl, hlt, h⟩, fun x H' hy => ?_⟩
    obtain ⟨d, hd⟩ := getI hlt
    have hdrop : ds.drop i = d :: ds.drop (i + 1) := by
      rw [List.drop_eq_getElem_cons hlt]
      rw [List.getElem?_eq_getElem hlt] at hd
      rw [Option.some.inj hd]
    rw [hdrop] at qc
    obtain ⟨rx, hH'⟩ := itok.yld H i d x H' (Av M oc []) ka (fun a z => by
      rcases z with z | ⟨j, _, z⟩
      · exact .inl (.inl z)
      · rcases low a (Sc.new j a z) with y | ⟨k, y⟩
        · exact .inr y
        · exact .inl (.inr ⟨k, fun h => (ho1 k a y).2 (alI_sub it k h), (ho1 k a y).1⟩)) (fun a z => Sc.si.avt z) hd hy
    have ext : ∀ a u, H a = some u → H' a = some u := fun a u e => by
      rcases hH' with rfl | ⟨p, u', hp, rfl⟩
      · exact e
      · rw [upd_ne (ne_of_none e hp)]; exact e
    have S' := Sc.si.step (Keep.same ext) (Sc.si.gr.1.same ext)
    have qc : PoS g e1 stp M Wx (match bindT t d envc with
      | none => (R.stk : R (PD.Env × Ctl))
      | some env => (v.b b env wc).bind fun p w => match p with
        | (env, .nx) => forL v t b (ds.drop (i + 1)) env w
        | (env, .bk) => .ok (env, .nx) w
        | (env, .rt d) => .ok (env, .rt d) w) Dn := qc
    cases hb : bindT t d envc with
    | none => rw [hb] at qc; exact qc.elim
    | some env3 =>
      rw [hb] at qc
      refine ⟨e1, stp, M, oc, envc, wc, d, env3, S', rx, hb, fun o3 σ3 L3 W3 S3 => ⟨e1, stp, M, o3, env3, wc, ⟨S3, Less.new Sc.new L3⟩, ?_⟩⟩
      dsimp only at qc
      cases hr : v.b b env3 wc with
      | stk => rw [hr] at qc; exact qc
      | exc c w' => rw [hr] at qc; exact qc
      | ok p w' =>
        rw [hr] at qc
        obtain ⟨env', c⟩ := p
        cases c with
        | nx => exact fun o' σ' H' S' => ⟨o', env', w', S', qc⟩
        | bk => exact qc
        | rt d => exact qc
  · have hi : i = ds.length := by omega
    subst hi
    refine .inl ⟨itok.stop H _ ka (Nat.le_refl _), ?_⟩
    rw [List.drop_length] at qc
    exact qc oc σ H Sc
end
end PD
end
section
set_option Elab.async false
set_option linter.all false
set_option maxRecDepth 100000
set_option maxHeartbeats 2000000
/-! PD16: stores into lists, of several names. -/
namespace PD
open PySem L2 PyProof.Rows
section
variable {T : List (Addr × Str)} {pr : Pr} {C : Cm} {N : List Str} {dp : Nat} {X : Cx} {sc : Scope} {Wx : WX} {p pos : Pos} {v u : Ev} {f : Bool} {g : G} {Dn : Ends} {σ : L2.St} {H : Hp}
theorem swaps_call {f' : Expr} {as : List Expr} {ks : List Keyword} {q : Pos} {l : Nat} {env : PySem.Env} : swapsWith (.Call f' as ks q) none l env = pure false := rfl
/-- the slot's own list, read -/
theorem SI.ow {ent : Hp} {stp : Stp} {M : Addr → Prop} {o : Nat → Option Addr} {env : PD.Env} {w : W} (S : SI g ent stp M o σ env w H) {i : Nat} {ds : List D} (e : env[i]? = some (.ow ds)) : ∃ p vs, o i = some p ∧ σ[i]? = some (some (.ref p)) ∧ H p = some (.lst vs) ∧ Reps g stp (Av M o []) H vs ds := S.sl i _ e
/-- a write behind the drops -/
theorem SI.wrote {ent : Hp} {stp : Stp} {M : Addr → Prop} {o : Nat → Option Addr} {env : PD.Env} {w : W} (S : SI g ent stp M o σ env w H) (hn : ∀ i p, o i = some p → ent p = none) {i : Nat} {p : Addr} {ds es : List D} {us : List V} {l : List Nat} {d : D} (hi : i ∉ l) (e : env[i]? = some (.ow ds)) (ho : o i = some p)
    (r : ∀ o', SI g ent stp M o' σ (PD.dropD l d env) w H → o' i = some p → Less o' o → (∀ {vs : List V} {ds : List D}, (d.flat = true → D.flats ds = true) → Reps g stp (Av M o l) H vs ds → Reps g stp (Av M o' []) H vs ds) → Reps g stp (Av M o' []) H us es) :
    ∃ o', SS g ent stp M o' σ ((PD.dropD l d env).set i (.ow es)) w (upd H p (.lst us)) := by
  obtain ⟨o', S', hl, hr⟩ := S.dropDq l d
  have e' : (PD.dropD l d env)[i]? = some (.ow ds) := by
    unfold PD.dropD
    split
    · rw [drops_out hi]; exact e
    · exact e
  have ho' : o' i = some p := S.own_at S' ho rfl (by rw [e', e])
  exact ⟨o', (S'.wrOw (hn i p ho) e' ho' (r o' S' ho' hl hr)).1, fun j q ej => hn j q (hl j q ej)⟩
theorem ss_app (ok : XOk T pr C N dp X sc) {x : Str} {i : Nat} (hi : slotV N sc x = some i) {a : Expr} {ea : E} {q pos' : Pos} (ha : PE X a (tD (gX T X) v Wx ea)) (hs : isStar a = false) (hl : (q.endLine == pos.line) = true) :
    PS X (.Expr (.Call (.Attribute (.Name x p) "append" q) [a] [] pos) pos') (tS (gX T X) Wx fun env w => match env[i]? with
      | some (.ow ds) => (v.e ea env w).bind fun d w => if ((al ea).contains i || !decide (ds.length < 16777216)) = true then .stk else .ok ((dropD (al ea) d env).set i (.ow (ds ++ [d])), .nx) w
      | _ => .stk) := by
  obtain ⟨h1, h2, h3⟩ := slotV_ok hi
  obtain ⟨o1, o2, o3⟩ := okN_ok h3
  have hv := pe_var (X := X) (pos := p) (i := i) (by rw [ok.hN]; exact h1) (by rw [ok.hsc]; exact h2) o1 o2
  refine (ps_expr (pe_bm PySem.F.plainAttrs_list PySem.F.slot_list_append (by rfl) mt_append hv (pa_cons ha pa_nil (star_no hs _ _)) rfl (by rw [star_no hs]; rfl) hl (star_no hs _ _) rfl) swaps_call).imp ?_
  rintro Dn σ H ⟨ent, stp, M, o, env, w, S, q⟩
  dsimp only at q
  split at q
  · rename_i ds e
    obtain ⟨p0, vs, a1, a2, a3, a4⟩ := S.si.ow e
    refine ⟨.ref p0, a2, .inl ⟨rfl, vs, .of a3⟩, ent, stp, M, o, env, w, S.si, PoS.bind S.si q fun d w1 xv H1 _ S1 k1 rx q1 => ?_⟩
    split at q1
    · exact q1.elim
    · rename_i hc
      simp only [Bool.or_eq_true, List.contains_iff_mem, Bool.not_eq_true', decide_eq_false_iff_not, not_or, Decidable.not_not] at hc
      obtain ⟨p1, vs1, b1, b2, b3, b4⟩ := S1.ow e
      rw [a1] at b1
      cases b1
      refine ⟨p0, vs1, xv, rfl, rfl, b3, by rw [b4.length, sizeLine_eq]; exact hc.2, ?_⟩
      obtain ⟨o', S'⟩ := S1.wrote S.new (us := vs1 ++ [xv]) (es := ds ++ [d]) (d := d) hc.1 e a1 fun o' S2 ho' hle hr => Reps.append (b4.weak (Less.avs hle)) (by
        have z : Reps (gX T X) stp (Av M o (al ea)) H1 [xv] [d] := ⟨rx.rep (Av.sub fun i h => alE_sub h), trivial⟩
        exact hr (fun h => by simp [D.flats, h]) z)
      exact q1 o' σ _ S'
  · exact q.elim
theorem ss_ext (ok : XOk T pr C N dp X sc) {x : Str} {i : Nat} (hi : slotV N sc x = some i) {a : Expr} {ea : E} {q pos' : Pos} (ha : PE X a (tD (gX T X) v Wx ea)) (hs : isStar a = false) (hl : (q.endLine == pos.line) = true) :
    PS X (.Expr (.Call (.Attribute (.Name x p) "extend" q) [a] [] pos) pos') (tS (gX T X) Wx fun env w => match env[i]? with
      | some (.ow ds) => (v.e ea env w).bind fun d w => (match d with
        | .lst xs => if ((al ea).contains i || !szOk (ds.length + xs.length)) = true then .stk else .ok ((dropD (al ea) d env).set i (.ow (ds ++ xs)), .nx) w
        | _ => .stk)
      | _ => .stk) := by
  obtain ⟨h1, h2, h3⟩ := slotV_ok hi
  obtain ⟨o1, o2, o3⟩ := okN_ok h3
  have hv := pe_var (X := X) (pos := p) (i := i) (by rw [ok.hN]; exact h1) (by rw [ok.hsc]; exact h2) o1 o2
  refine (ps_expr (pe_bm PySem.F.plainAttrs_list PySem.F.slot_list_extend (by rfl) mt_extend hv (pa_cons ha pa_nil (star_no hs _ _)) rfl (by rw [star_no hs]; rfl) hl (star_no hs _ _) rfl) swaps_call).imp ?_
  rintro Dn σ H ⟨ent, stp, M, o, env, w, S, q⟩
  dsimp only at q
  split at q
  · rename_i ds e
    obtain ⟨p0, vs, a1, a2, a3, a4⟩ := S.si.ow e
    refine ⟨.ref p0, a2, .inl ⟨rfl, vs, .of a3⟩, ent, stp, M, o, env, w, S.si, PoS.bind S.si q fun d w1 xv H1 _ S1 k1 rx q1 => ?_⟩
    cases d with
    | lst xs =>
      dsimp only at q1
      split at q1
      · exact q1.elim
      · rename_i hc
        simp only [Bool.or_eq_true, List.contains_iff_mem, Bool.not_eq_true', not_or, Bool.not_eq_false] at hc
        obtain ⟨p1, vs1, b1, b2, b3, b4⟩ := S1.ow e
        rw [a1] at b1
        cases b1
        obtain ⟨pb, ws, ex, lb, rb⟩ := rx
        refine ⟨p0, pb, vs1, ws, rfl, by rw [ex], b3, lb.2, by rw [b4.length, rb.length]; exact szOk_le hc.2, ?_⟩
        obtain ⟨o', S'⟩ := S1.wrote S.new (us := vs1 ++ ws) (es := ds ++ xs) (d := .lst xs) hc.1 e a1 fun o' S2 ho' hle hr => Reps.append (b4.weak (Less.avs hle)) (hr (fun h => by simp [D.flat] at h) (rb.weak (Av.sub fun i h => alE_sub h)))
        exact q1 o' σ _ S'
    | _ => exact (show False from q1).elim
  · exact q.elim
theorem seqIx_ixN {n : Nat} {i : Int} {k : Nat} (h : seqIx n i = some k) : ixN n i = some k ∧ k < n := by
  unfold seqIx at h
  unfold ixN
  split at h
  · rename_i q
    cases h
    rw [if_pos q.1, if_pos q.2]
    exact ⟨rfl, by omega⟩
  · split at h
    · rename_i q1 q2
      cases h
      rw [if_neg (by omega), if_pos q2.2]
      exact ⟨rfl, by omega⟩
    · cases h
theorem swaps_sub {e a b : Expr} {q : Pos} {l : Nat} {env : PySem.Env} : swapsWithSole [.Subscript a b q] e l env = pure false := by
  show swapsWith e (some (.Subscript a b q)) l env = pure false
  cases e <;> rfl
theorem swapped_sub {e a b : Expr} {q : Pos} {env : PySem.Env} : swappedStores [.Subscript a b q] e env = pure none := by
  cases e <;> rfl
/-- the stream's count is set -/
theorem SI.count {ent : Hp} {stp : Stp} {M : Addr → Prop} {o : Nat → Option Addr} {env : PD.Env} {ns : List Int} {k c : Int} {pp q : Addr} {us : List V} (S : SI g ent stp M o σ env (some (ns, k)) H) (es : stp = some (pp, q, ns)) (hp : H pp = some (.lst [.ref q, .int k])) (hu : us = [.ref q, .int c]) :
    SI g ent stp M o σ env (some (ns, c)) (upd H pp (.lst us)) := by
  subst hu
  have k1 : Keep g stp H (upd H pp (.lst [.ref q, .int c])) := fun a u e n => by
    rw [upd_ne fun z => n (.inr ⟨q, ns, by rw [z]; exact es⟩)]
    exact e
  refine S.step k1 ⟨tabs_beside S.gr.1.1 ⟨_, hp⟩, ?_⟩
  subst es
  exact ⟨rfl, upd_same⟩
theorem ss_six (ok : XOk T pr C N dp X sc) {x : Str} {i : Nat} (hi : slotV N sc x = some i) {ix e : Expr} {eix ee : E} {q pos' : Pos} (hx : PlainIx ix) (hix : PE X ix (tD (gX T X) v Wx eix)) (he : PE X e (tD (gX T X) v Wx ee))
    (ha : ∀ v, assign (.Subscript (.Name x p) ix q) X.env v = (do
      let ov ← holding [v] (eval (.Name x p) X.env)
      let iv ← holding [v, ov] (eval ix X.env)
      standAt q
      holding [v, ov, iv] (setItem ov iv v)
      release [v, ov, iv] [])) :
    PS X (.Assign [.Subscript (.Name x p) ix q] e pos') (tS (gX T X) Wx fun env w => (v.e ee env w).bind fun d w => match env[i]? with
    | some (.ow ds) => (v.e eix env w).bind fun k w => (match k with
      | .int k => (match seqIx ds.length k with
        | some k => if (al ee).contains i = true then .stk else .ok ((dropD (al ee) d env).set i (.ow (ds.set k d)), .nx) w
        | none => .stk)
      | _ => .stk)
    | some (.sh .st) => (v.e eix env w).bind fun k w => (match k, d, w with
      | .int k, .int c, some (ns, _) => if k = 1 then .ok (env, .nx) (some (ns, c)) else .stk
      | _, _, _ => .stk)
    | _ => .stk) := by
  obtain ⟨h1, h2, h3⟩ := slotV_ok hi
  obtain ⟨o1, o2, o3⟩ := okN_ok h3
  have hv := pe_var (X := X) (pos := p) (i := i) (by rw [ok.hN]; exact h1) (by rw [ok.hsc]; exact h2) o1 o2
  refine (ps_asg he (pg_sub hv hix set_list ha) swaps_sub swapped_sub rfl).imp ?_
  rintro Dn σ H ⟨ent, stp, M, o, env, w, S, q⟩
  refine ⟨ent, stp, M, o, env, w, S.si, PoS.bind S.si q fun d w1 xv H1 _ S1 k1 rx q1 => ?_⟩
  split at q1
  · rename_i ds e
    obtain ⟨p0, vs, a1, a2, a3, a4⟩ := S1.ow e
    refine ⟨.ref p0, a2, ent, stp, M, o, env, w1, S1, PoS.bind S1 q1 fun dk w2 y H2 _ S2 k2 ry q2 => ?_⟩
    cases dk with
    | int k =>
      have ey : y = .int k := ry
      dsimp only at q2
      cases ej : seqIx ds.length k with
      | none => rw [ej] at q2; exact q2.elim
      | some j =>
        rw [ej] at q2
        dsimp only at q2
        split at q2
        · exact q2.elim
        · rename_i hc
          simp only [List.contains_iff_mem] at hc
          obtain ⟨p1, vs1, b1, b2, b3, b4⟩ := S2.ow e
          rw [a1] at b1
          cases b1
          obtain ⟨j1, j2⟩ := seqIx_ixN ej
          refine ⟨p0, vs1, k, j, rfl, ey, b3, by rw [b4.length]; exact j1, ?_⟩
          have rx2 := rx.keep (S1.ka k2) (S1.ka k2)
          obtain ⟨o', S'⟩ := S2.wrote S.new (us := vs1.set j xv) (es := ds.set j d) (d := d) hc e a1 fun o' S2 ho' hle hr => Reps.set j (b4.weak (Less.avs hle)) (by
            have z : Reps (gX T X) stp (Av M o (al ee)) H2 [xv] [d] := ⟨rx2.rep (Av.sub fun i h => alE_sub h), trivial⟩
            exact (hr (fun h => by simp [D.flats, h]) z).1)
          exact q2 o' σ _ S'
    | _ => exact (show False from q2).elim
  · rename_i e
    obtain ⟨v0, a2, a3⟩ := S1.sl i _ e
    obtain ⟨pp, qq, ns, k, ex, es, ew, hp, hq⟩ := S1.gr.st a3
    subst ex
    refine ⟨.ref pp, a2, ent, stp, M, o, env, w1, S1, PoS.bind S1 q1 fun dk w2 y H2 _ S2 k2 ry q2 => ?_⟩
    have a3' : Rep (gX T X) stp (Av M o []) H2 (.ref pp) .st := ⟨pp, qq, ns, rfl, es⟩
    obtain ⟨pp', qq', ns', k', ex', es', ew', hp', hq'⟩ := S2.gr.st a3'
    cases ex'
    rw [es] at es'
    cases es'
    subst ew'
    cases dk with
    | int kk =>
      cases d with
      | int c =>
        have q2 : PoS (gX T X) ent stp M Wx (if kk = 1 then .ok (env, .nx) (some (ns, c)) else .stk) Dn := q2
        split at q2
        · rename_i hk
          have ey : y = .int kk := ry
          have ex : xv = .int c := rx
          subst hk
          refine ⟨pp, _, 1, 1, rfl, ey, hp', rfl, ?_⟩
          exact q2 o σ _ ⟨S2.count es hp' (by rw [ex]; rfl), S.new⟩
        · exact q2.elim
      | _ => exact (show False from q2).elim
    | _ => cases d <;> exact (show False from q2).elim
  · exact q1.elim
/-- (a, (b, c)) = a tuple -/
theorem asgT_in {ts : List Tgt} {ee : E} (h : tS g Wx (fun env w => (v.e ee env w).bind fun d w => match d with
    | .tup ds => (match bindTs ts ds (dropD (al ee) d env) with
      | some env => .ok (env, .nx) w
      | none => .stk)
    | _ => .stk) Dn σ H) : tAsg (tD g v Wx ee) (gT g (.t ts)) Dn σ H := by
  obtain ⟨ent, stp, M, o, env, w, S, q⟩ := h
  refine ⟨ent, stp, M, o, env, w, S.si, PoS.bind S.si q fun d w1 xv H1 _ S1 k1 rx q1 => ?_⟩
  cases d with
  | tup ds =>
    dsimp only at q1
    obtain ⟨o', S', r', hl⟩ := S1.dropD (al ee) (d := .tup ds) (rx.rep (Av.sub fun i h => alE_sub h))
    cases hb : bindTs ts ds (PD.dropD (al ee) (.tup ds) env) with
    | none => rw [hb] at q1; exact q1.elim
    | some env' =>
      rw [hb] at q1
      exact ⟨ent, stp, M, o', _, w1, .tup ds, env', S', r', hb, fun o2 σ2 L2 W2 S2 => q1 o2 σ2 H1 ⟨S2, Less.new S.new (L2.trans hl)⟩⟩
  | _ => exact (show False from q1).elim
end
end PD
end
section
set_option Elab.async false
set_option linter.all false
set_option maxRecDepth 100000
set_option maxHeartbeats 2000000
/-! PD17: several names at once. -/
namespace PD
open PySem L2 PyProof.Rows
/-- values of expressions, the new lists at P -/
def RP (g : G) (stp : Stp) (A : Addr → Prop) (H : Hp) : List E → List V → List D → (Addr → Prop) → Prop
  | [], [], [], P => ∀ a, ¬ P a
  | e :: es, v :: vs, d :: ds, P => (fr e = true ∧ ∃ xs p ws P', d = .lst xs ∧ v = .ref p ∧ (∀ a, P a ↔ a = p ∨ P' a) ∧ ¬ P' p ∧ H p = some (.lst ws) ∧ Reps g stp A H ws xs ∧ RP g stp A H es vs ds P') ∨
    ((fr e = true → ∀ xs, d ≠ .lst xs) ∧ Rep g stp A H v d ∧ RP g stp A H es vs ds P)
  | _, _, _, _ => False
section
variable {g : G} {ent : Hp} {stp : Stp} {M : Addr → Prop} {o o' : Nat → Option Addr} {σ σ' : L2.St} {env env' : Env} {w w' : W} {H H' H1 : Hp} {l l' le : List Nat} {Wx : WX} {Dn : Ends} {A A' : Addr → Prop}
theorem RP.map (h : ∀ v d, Rep g stp A H v d → Rep g stp A' H' v d) (h2 : ∀ vs ds, Reps g stp A H vs ds → Reps g stp A' H' vs ds) (h3 : ∀ p ws, H p = some (.lst ws) → H' p = some (.lst ws)) : ∀ {es : List E} {vs : List V} {ds : List D} {P : Addr → Prop}, RP g stp A H es vs ds P → RP g stp A' H' es vs ds P
  | [], [], [], P, q => q
  | e :: es, v :: vs, d :: ds, P, .inl ⟨f, xs, p, ws, P', a1, a2, a3, a4, a5, a6, a7⟩ => .inl ⟨f, xs, p, ws, P', a1, a2, a3, a4, h3 p ws a5, h2 _ _ a6, RP.map h h2 h3 a7⟩
  | e :: es, v :: vs, d :: ds, P, .inr ⟨a1, a2, a3⟩ => .inr ⟨a1, h _ _ a2, RP.map h h2 h3 a3⟩
def relPar (g : G) (stp : Stp) (M : Addr → Prop) (o : Nat → Option Addr) (l : List Nat) (H0 : Hp) (es : List E) : Hp → List V → List D → Prop := fun H vs ds => ∃ P : Addr → Prop, (∀ a, P a → H0 a = none ∧ H a ≠ none) ∧ RP g stp (fun a => Av M o l a ∨ P a) H es vs ds P
def tPV (g : G) (v : Ev) (Wx : WX) (es : List E) (l : List Nat) : TA := fun σ H Q => ∃ ent stp M o env w, SI g ent stp M o σ env w H ∧ Po g stp Wx (relPar g stp M o l H es) (evs v es env w) σ H Q
def PEF (g : G) (X : Cx) (v : Ev) (Wx : WX) (e : Expr) (ee : E) : Prop := PE X e (tRf g Wx (fr ee) (al ee) (alE ee) (v.e ee))
inductive PEFL (g : G) (X : Cx) (v : Ev) (Wx : WX) : List Expr → List E → Prop
  | nil : PEFL g X v Wx [] []
  | cons {e : Expr} {es : List Expr} {ee : E} {ees : List E} : isStar e = false → PEF g X v Wx e ee → PEFL g X v Wx es ees → PEFL g X v Wx (e :: es) (ee :: ees)
theorem se_par {X : Cx} {v : Ev} {es : List Expr} {ees : List E} (h : PEFL g X v Wx es ees) : (∀ i, i ∈ als ees → i ∈ l) → PA X es (tPV g v Wx ees l) := by
  induction h with
  | nil =>
    intro _
    refine pa_nil.imp ?_
    rintro σ H Q ⟨ent, stp, M, o, env, w, S, p⟩
    exact p.use S (v := []) ⟨fun _ => False, fun _ z => z.elim, fun _ z => z⟩
  | @cons e es ee ees h1 h2 _ ih =>
    intro hl
    refine (pa_cons h2 (ih fun i h => hl i (List.mem_append_right _ h)) (star_no h1 _ _)).imp ?_
    rintro σ H Q ⟨ent, stp, M, o, env, w, S, p⟩
    have le : ∀ i, i ∈ al ee → i ∈ l := fun i h => hl i (List.mem_append_left _ h)
    have SH : SI g H stp M o σ env w H := ⟨S.wr, S.mt, S.gr, fun a u e _ => e, S.len, S.inj, S.own, S.sl⟩
    refine ⟨H, stp, M, o, env, w, SH, Po.bind S p fun d w1 x H1 _ S1 k1 rx p1 => ?_⟩
    by_cases hd : fr ee = true ∧ ∃ xs, d = .lst xs
    · obtain ⟨hf, xs, rfl⟩ := hd
      obtain ⟨p0, ws, ex, hp, hp1, rw'⟩ := rx.2 hf xs rfl
      subst ex
      have SP := S.pend k1 S1.gr.1 hp (by rw [hp1]; simp)
      refine ⟨ent, stp, _, o, env, w1, SP, Po.bind SP p1 fun ds w2 vs H2 _ S2 k2 rv p2 => ?_⟩
      obtain ⟨P', hP', rp⟩ := rv
      have ka : ∀ {A : Addr → Prop}, (∀ a, Av M o l a → A a) → KeepA A H1 H2 := fun hA a u ha n => k2 a u ha fun z => n (hA a (.inl (S.wr a z)))
      refine p2 (.ref p0 :: vs) H2 Keep.refl S2.gr.1 ⟨fun a => a = p0 ∨ P' a, fun a z => ?_, .inl ⟨hf, xs, p0, ws, P', rfl, rfl, fun a => Iff.rfl, fun z => (by rw [(hP' p0 z).1] at hp1; cases hp1), k2 p0 _ hp1 fun z => S.gr.1.there z hp, ?_, ?_⟩⟩
      · rcases z with z | z
        · rw [z]
          exact ⟨hp, by rw [k2 p0 _ hp1 fun z => S.gr.1.there z hp]; simp⟩
        · refine ⟨?_, (hP' a z).2⟩
          cases e : H a with
          | none => rfl
          | some u => exact absurd (hP' a z).1 (Keep.there k1 S1.gr.1 (by rw [e]; simp))
      · have r1 : Reps g stp (fun a => Av M o l a ∨ a = p0) H1 ws xs := rw'.weak fun a z => z.imp (Av.sub (fun i h => le i (alE_sub h)) a) id
        refine (r1.pres (av' := fun a => Av M o l a ∨ a = p0 ∨ P' a) fun a z => ?_).keep (ka fun a z => .inl z)
        · rcases z with z | z | z
          · exact .inl (.inl z)
          · exact .inl (.inr z)
          · exact .inr (hP' a z).1
      · refine rp.map (fun v d r => r.weak fun a z => ?_) (fun vs ds r => r.weak fun a z => ?_) fun p ws h => h
        · rcases z with (z | ⟨j, n, z⟩) | z | z
          · exact .inl (.inl (.inl z))
          · exact .inl (.inr ⟨j, n, z⟩)
          · exact .inl (.inl (.inr z))
          · exact .inr z
        · rcases z with (z | ⟨j, n, z⟩) | z | z
          · exact .inl (.inl (.inl z))
          · exact .inl (.inr ⟨j, n, z⟩)
          · exact .inl (.inl (.inr z))
          · exact .inr z
    · refine ⟨ent, stp, M, o, env, w1, S1, Po.bind S1 p1 fun ds w2 vs H2 _ S2 k2 rv p2 => ?_⟩
      obtain ⟨P', hP', rp⟩ := rv
      refine p2 (x :: vs) H2 Keep.refl S2.gr.1 ⟨P', fun a z => ⟨?_, (hP' a z).2⟩, .inr ⟨fun hf xs e => hd ⟨hf, xs, e⟩, ?_, rp⟩⟩
      · cases e : H a with
        | none => rfl
        | some u => exact absurd (hP' a z).1 (Keep.there k1 S1.gr.1 (by rw [e]; simp))
      · have r0 : Rep g stp (Av M o l) H1 x d := (rx.1.rep (Av.sub fun i h => alE_sub h)).weak (Av.sub le)
        refine (r0.pres (av' := fun a => Av M o l a ∨ P' a) fun a z => z.imp id fun z => (hP' a z).1).keep fun a u ha n => k2 a u ha fun z => n (.inl (.inl (S.wr a z)))
def sets : L2.St → List Nat → List V → L2.St
  | σ, i :: is, v :: vs => sets (σ.set i (some v)) is vs
  | σ, _, _ => σ
theorem SI.congrM {M' : Addr → Prop} (S : SI g ent stp M o σ env w H) (h : ∀ a, M a ↔ M' a) : SI g ent stp M' o σ env w H := by
  have e : M = M' := funext fun a => propext (h a)
  rw [← e]
  exact S
theorem RP.store {all : List E} (hw : ∀ a, Wr g stp a → M a) : ∀ {es : List E} {vs : List V} {ds : List D} {is : List Nat} {P : Addr → Prop} {o : Nat → Option Addr} {σ : L2.St} {env env' : Env}, RP g stp A H es vs ds P → SI g ent stp (fun a => M a ∨ P a) o σ env w H → (∀ a, Av (fun a => M a ∨ P a) o [] a → A a) →
    (∀ i p, o i = some p → ent p = none) → (∀ a, P a → ent a = none ∧ ¬ M a) → (∀ i, i ∈ is → i < σ.length) → parP all is es ds env = some env' → ∃ o', SS g ent stp M o' (sets σ is vs) env' w H
  | [], [], [], [], P, o, σ, env, env', hr, S, hA, hn, hP, hi, e => by
    cases e
    exact ⟨o, S.congrM fun a => ⟨fun z => z.elim id fun z => absurd z (hr a), .inl⟩, hn⟩
  | e :: es, v :: vs, d :: ds, i :: is, P, o, σ, env, env', hr, S, hA, hn, hP, hi, ee => by
    rcases hr with ⟨hf, xs, p, ws, P', rfl, rfl, a3, a4, a5, a6, a7⟩ | ⟨a1, a2, a3⟩
    · have ee : parP all is es ds (env.set i (.ow xs)) = some env' := by
        have q : parP all is es ds (match fr e, D.lst xs with
          | true, .lst xs => env.set i (.ow xs)
          | _, d => env.set i (.sh d)) = some env' := ee
        rw [hf] at q
        exact q
      have S' : SI g ent stp (fun a => (M a ∨ P' a) ∨ a = p) o σ env w H := S.congrM fun a => by
        rw [a3]
        constructor
        · rintro (z | z | z)
          · exact .inl (.inl z)
          · exact .inr z
          · exact .inl (.inr z)
        · rintro ((z | z) | z)
          · exact .inl z
          · exact .inr (.inr z)
          · exact .inr (.inl z)
      have Pp : P p := (a3 p).mpr (.inl rfl)
      have S2 := S'.setOw i (by rw [← S.len]; exact hi i List.mem_cons_self) a5 (a6.weak fun a z => hA a (by
        rcases z with ((z | z) | z) | z
        · exact .inl (.inl z)
        · exact .inl (.inr ((a3 a).mpr (.inr z)))
        · exact .inl (.inr ((a3 a).mpr (.inl z)))
        · exact .inr z)) (fun z => z.elim (hP p Pp).2 a4) fun a z => .inl (hw a z)
      refine RP.store hw (is := is) a7 S2 (fun a z => hA a ?_) (fun j q z => ?_) (fun a z => hP a ((a3 a).mpr (.inr z))) (fun j hj => by simp; exact hi j (List.mem_cons_of_mem _ hj)) ee
      · rcases z with (z | z) | ⟨j, _, z⟩
        · exact .inl (.inl z)
        · exact .inl (.inr ((a3 a).mpr (.inr z)))
        · unfold onO at z
          split at z
          · cases z; exact .inl (.inr Pp)
          · exact .inr ⟨j, nofun, z⟩
      · unfold onO at z
        split at z
        · cases z; exact (hP p Pp).1
        · exact hn j q z
    · have ee : parP all is es ds (env.set i (.sh d)) = some env' := by
        unfold parP at ee
        split at ee
        · rename_i xs h1
          exact absurd rfl (a1 h1 xs)
        · exact ee
      have S2 := S.setSh i (a2.weak fun a z => hA a z)
      exact RP.store hw (is := is) a3 S2 (fun a z => hA a (Less.avs (offO_less i).less a z)) (fun j q z => hn j q ((offO_less i).less j q z)) hP (fun j hj => by simp; exact hi j (List.mem_cons_of_mem _ hj)) ee
  | [], [], [], _ :: _, _, _, _, _, _, _, _, _, _, _, _, e => by cases e
  | _ :: _, _ :: _, _ :: _, [], _, _, _, _, _, _, _, _, _, _, _, e => by cases e
theorem RP.flats : ∀ {es : List E} {vs : List V} {ds : List D} {P : Addr → Prop}, RP g stp A H es vs ds P → D.flats ds = true → (∀ a, ¬ P a) ∧ ∀ B, (∀ v d, d.flat = true → Rep g stp A H v d → Rep g stp B H v d) → RP g stp B H es vs ds P
  | [], [], [], P, q, _ => ⟨q, fun _ _ => q⟩
  | e :: es, v :: vs, d :: ds, P, .inl ⟨f, xs, p, ws, P', a1, a2, a3, a4, a5, a6, a7⟩, h => by
    subst a1
    simp [D.flats, D.flat] at h
  | e :: es, v :: vs, d :: ds, P, .inr ⟨a1, a2, a3⟩, h => by
    simp only [D.flats, Bool.and_eq_true] at h
    obtain ⟨b1, b2⟩ := RP.flats a3 h.2
    exact ⟨b1, fun B hB => .inr ⟨a1, hB v d h.1 a2, b2 B hB⟩⟩
theorem RP.len : ∀ {es : List E} {vs : List V} {ds : List D} {P : Addr → Prop}, RP g stp A H es vs ds P → vs.length = es.length
  | [], [], [], P, q => rfl
  | e :: es, v :: vs, d :: ds, P, .inl ⟨f, xs, p, ws, P', a1, a2, a3, a4, a5, a6, a7⟩ => congrArg (· + 1) (RP.len a7)
  | e :: es, v :: vs, d :: ds, P, .inr ⟨a1, a2, a3⟩ => congrArg (· + 1) (RP.len a3)
theorem par_in {v : Ev} {is : List Nat} {es : List E} {σ : L2.St} {H : Hp} (hi : ∀ i, i ∈ is → i < σ.length) (h : tS g Wx (fun env w => (evs v es env w).bind fun ds w => match parP es is es ds (dropD (als es) (.tup ds) env) with
    | some env => .ok (env, .nx) w
    | none => .stk) Dn σ H) : tPV g v Wx es (als es) σ H fun vs H1 => vs.length = es.length ∧ Dn.nx (sets σ is vs) H1 := by
  obtain ⟨ent, stp, M, o, env, w, S, q⟩ := h
  refine ⟨ent, stp, M, o, env, w, S.si, PoS.bind S.si q fun ds w1 vs H1 _ S1 k1 rx q1 => ⟨?_, ?_⟩⟩
  · obtain ⟨P, hP, rp⟩ := rx
    exact rp.len
  obtain ⟨P, hP, rp⟩ := rx
  have SP := S.si.pendP k1 S1.gr.1 (P := P) (fun a z => (hP a z).1) fun a z => (hP a z).2
  have pav : ∀ a, Av (fun a => M a ∨ P a) o (als es) a → Av M o (als es) a ∨ P a := fun a z => by
    rcases z with (z | z) | z
    · exact .inl (.inl z)
    · exact .inr z
    · exact .inl (.inr z)
  obtain ⟨o', S', hl, hA⟩ : ∃ o', SI g ent stp (fun a => M a ∨ P a) o' σ (PD.dropD (als es) (.tup ds) env) w1 H1 ∧ Less o' o ∧ RP g stp (Av (fun a => M a ∨ P a) o' []) H1 es vs ds P := by
    unfold PD.dropD
    split
    · obtain ⟨o', S', h⟩ := SP.drops (als es)
      refine ⟨o', S', h.less, rp.map (fun v d r => r.weak fun a z => pav a (h.avs a z)) (fun v d r => r.weak fun a z => pav a (h.avs a z)) fun _ _ h => h⟩
    · rename_i qq
      refine ⟨o, SP, Less.refl, ?_⟩
      cases q1 : (D.tup ds).flat with
      | true =>
        have q1 : D.flats ds = true := q1
        refine (rp.flats q1).2 _ fun v d hf r => Rep.flat (fun a z => ?_) hf r
        rcases z with (z | z) | ⟨j, _, z⟩
        · exact .inl (.inl (.inl z))
        · exact .inl (.inr z)
        · exact .inr (SP.lst z)
      | false =>
        rw [q1, Bool.not_false, Bool.and_true] at qq
        have sub : ∀ a, Av (fun a => M a ∨ P a) o [] a → Av M o (als es) a ∨ P a := fun a z => pav a (z.elim .inl fun ⟨i, _, e⟩ => .inr ⟨i, fun hi => qq (List.any_eq_true.mpr ⟨i, hi, isOw_o SP e⟩), e⟩)
        exact rp.map (fun v d r => r.weak sub) (fun v d r => r.weak sub) fun _ _ h => h
  cases hb : parP es is es ds (PD.dropD (als es) (.tup ds) env) with
  | none => rw [hb] at q1; exact q1.elim
  | some env' =>
    rw [hb] at q1
    obtain ⟨o2, S2⟩ := RP.store (ent := ent) S.si.wr hA S' (fun a z => z) (Less.new S.new hl) (fun a z => ⟨S.si.entn (hP a z).1, fun m => S.si.mt a m (hP a z).1⟩) hi hb
    exact q1 o2 _ H1 S2
end
end PD
end
section
set_option Elab.async false
set_option linter.all false
set_option maxRecDepth 100000
set_option maxHeartbeats 4000000
/-! PD18: every expression. -/
namespace PD
open PySem L2 PyProof.Rows
/-- the calls' evaluator at depth d -/
def U (pr : Pr) : Nat → Nat → Ev
  | 0, _ => bot
  | d + 1, n => evN pr n d
structure Cxt (T : List (Addr × Str)) (pr : Pr) (C : Cm) (N : List Str) (k d : Nat) (X : Cx) (sc : Scope) (Wx : WX) : Prop where
  ok : XOk T pr C N k X sc
  tk : Takes X Wx
  call : ∀ n, FnsOk X.prog X.w X.K X.mg X.base T pr k (callF pr (U pr d n))
theorem evN_e (pr : Pr) (n d : Nat) (e : E) : (evN pr (n + 1) d).e e = exprStep pr (evN pr n d) (callF pr (U pr d n)) e := by
  cases d <;> rfl
section
variable {T : List (Addr × Str)} {pr : Pr} {C : Cm} {N : List Str} {k d n m : Nat} {X : Cx} {sc : Scope} {Wx : WX} {p pos : Pos} {v u : Ev} {f : Bool} {g : G}
theorem PE.ofR {e : Expr} {l le : List Nat} {r : Env → W → R D} (h : PE X e (tR g Wx l le r)) : PE X e (tRf g Wx false l le r) := h.imp fun σ H Q ⟨ent, stp, M, o, env, w, S, q⟩ => ⟨ent, stp, M, o, env, w, S, q.imp fun _ _ _ z => ⟨z, fun h => by cases h⟩⟩
theorem PE.le {f f' : Bool} {e : Expr} {l le : List Nat} {r : Env → W → R D} (h : PE X e (tRf g Wx f l le r)) (hf : f' = true → f = true) : PE X e (tRf g Wx f' l le r) := h.imp fun σ H Q ⟨ent, stp, M, o, env, w, S, q⟩ => ⟨ent, stp, M, o, env, w, S, q.imp fun _ _ _ z => ⟨z.1, fun h => z.2 (hf h)⟩⟩
theorem PE.toR {f : Bool} {e : Expr} {l le : List Nat} {r : Env → W → R D} (h : PE X e (tRf g Wx f l le r)) : PE X e (tR g Wx l le r) := h.imp fun σ H Q ⟨ent, stp, M, o, env, w, S, q⟩ => ⟨ent, stp, M, o, env, w, S, q.imp fun _ _ _ z => z.1⟩
end
section
theorem ne_names {x y : Str} (h : x ≠ y) : [x, y].eraseDups = [x, y] := by
  have : (y == x) = false := beq_eq_false_iff_ne.mpr (Ne.symm h)
  simp [List.eraseDups, List.eraseDupsBy, List.eraseDupsBy.loop, this]
theorem swapped2 {x y : Str} {px py pt p2 : Pos} {kt k2 : Nat} {a b : Expr} {env : PySem.Env} (hk : env.scope.kind = .function) (hx : env.scope.names.lookup x = some .local) (hy : env.scope.names.lookup y = some .local) (hxy : x ≠ y)
    (hl : (py.line == px.line) = true) (ha : isStar a = false) (hb : isStar b = false) (hf : [a, b].all (foldedForSure 8) = false) (hc : [a, b].all (constantsAlone 8) = false) :
    swappedStores [.Tuple [.Name x px, .Name y py] kt pt] (.Tuple [a, b] k2 p2) env = pure (some [x, y]) := by
  have hb' : env.blockKind = .function := by unfold Env.blockKind; rw [hk]; rfl
  have kx : env.kindOf x = some .local := hx
  have ky : env.kindOf y = some .local := hy
  unfold swappedStores
  simp only [hb', kx, ky, hf, hc, List.any_cons, List.any_nil, List.filterMap_cons, List.filterMap_nil, hl, List.head?_cons, Option.map_some, Option.getD_some, List.length_cons, List.length_nil, ne_names hxy]
  simp [Expr.pos, hl]
  rw [if_neg, ne_names hxy]
  · rfl
  · rintro (h | h)
    · cases a <;> first | (cases h; done) | (cases ha; done)
    · cases b <;> first | (cases h; done) | (cases hb; done)
theorem ne_names3 {x y z : Str} (h1 : x ≠ y) (h2 : x ≠ z) (h3 : y ≠ z) : [x, y, z].eraseDups = [x, y, z] := by
  have e1 : (y == x) = false := beq_eq_false_iff_ne.mpr (Ne.symm h1)
  have e2 : (z == x) = false := beq_eq_false_iff_ne.mpr (Ne.symm h2)
  have e3 : (z == y) = false := beq_eq_false_iff_ne.mpr (Ne.symm h3)
  simp [List.eraseDups, List.eraseDupsBy, List.eraseDupsBy.loop, e1, e2, e3]
theorem swapped3 {x y z : Str} {px py pz pt p2 : Pos} {kt k2 : Nat} {a b c : Expr} {env : PySem.Env} (hk : env.scope.kind = .function) (hx : env.scope.names.lookup x = some .local) (hy : env.scope.names.lookup y = some .local) (hz : env.scope.names.lookup z = some .local) (h1 : x ≠ y) (h2 : x ≠ z) (h3 : y ≠ z)
    (hl : (py.line == px.line) = true) (hl2 : (pz.line == px.line) = true) (ha : isStar a = false) (hb : isStar b = false) (hcc : isStar c = false) (hf : [a, b, c].all (foldedForSure 8) = false) (hc : [a, b, c].all (constantsAlone 8) = false) :
    swappedStores [.Tuple [.Name x px, .Name y py, .Name z pz] kt pt] (.Tuple [a, b, c] k2 p2) env = pure (some [x, y, z]) := by
  have hb' : env.blockKind = .function := by unfold Env.blockKind; rw [hk]; rfl
  have kx : env.kindOf x = some .local := hx
  have ky : env.kindOf y = some .local := hy
  have kz : env.kindOf z = some .local := hz
  unfold swappedStores
  simp only [hb', kx, ky, kz, hf, hc, List.any_cons, List.any_nil, List.filterMap_cons, List.filterMap_nil, hl, hl2, List.head?_cons, Option.map_some, Option.getD_some, List.length_cons, List.length_nil]
  simp [Expr.pos, hl, hl2]
  rw [if_neg, ne_names3 h1 h2 h3]
  · rfl
  · rintro (h | h | h)
    · cases a <;> first | (cases h; done) | (cases ha; done)
    · cases b <;> first | (cases h; done) | (cases hb; done)
    · cases c <;> first | (cases h; done) | (cases hcc; done)
theorem swNone {ts es : List Expr} {kt k2 : Nat} {pt p2 : Pos} {env : PySem.Env} (h : (!(ts.length == 2 || ts.length == 3) || es.all (foldedForSure 8)) = true) : swappedStores [.Tuple ts kt pt] (.Tuple es k2 p2) env = pure none := by
  unfold swappedStores
  dsimp only
  rw [Bool.or_eq_true] at h
  rcases h with h | h
  · rw [h]; rfl
  · rw [h]
    simp
theorem swNoneE {ts : List Expr} {e : Expr} {kt : Nat} {pt : Pos} {env : PySem.Env} (h : ∀ es k p, e ≠ .Tuple es k p) : swappedStores [.Tuple ts kt pt] e env = pure none := by
  cases e <;> first | rfl | exact absurd rfl (h _ _ _)
theorem swapsT {ts : List Expr} {e : Expr} {kt l : Nat} {pt : Pos} {env : PySem.Env} : swapsWithSole [.Tuple ts kt pt] e l env = pure false := by
  show swapsWith e (some (.Tuple ts kt pt)) l env = pure false
  cases e <;> rfl
end
/-- an expression, as a value and as a test -/
structure GE (T : List (Addr × Str)) (X : Cx) (v : Ev) (Wx : WX) (pe : Expr) (e : E) : Prop where
  val : PE X pe (tRf (gX T X) Wx (fr e) (al e) (alE e) (v.e e))
  tst : PT X pe (tDT (gX T X) v Wx e)
  wh : ∀ op vs p, pe = .BoolOp op vs p → PW X pe (tDT (gX T X) v Wx e)
  lc : ∀ elt gens scope p, pe = .ListComp elt gens scope p → ∀ (i : Nat) (y : Str) (py spos : Pos), X.N[i]? = some y → X.env.scope.names.lookup y = some .local → swapsWith pe (some (.Name y py)) spos.line X.env = pure true →
    PS X (.Assign [.Name y py] pe spos) (tAsg (tRf (gX T X) Wx (fr e) (al e) (alE e) (v.e e)) (gName i))
section
variable {T : List (Addr × Str)} {pr : Pr} {C : Cm} {N : List Str} {k d n m : Nat} {X : Cx} {sc : Scope} {Wx : WX} {p pos : Pos} {v u : Ev} {f : Bool} {g : G} {pe : Expr} {e : E}
theorem GE.vl (h : GE T X v Wx pe e) : PE X pe (tD (gX T X) v Wx e) := PE.toR h.val
/-- of a value whose test is its truth -/
theorem GE.of (h : PE X pe (tRf (gX T X) Wx (fr e) (al e) (alE e) (v.e e))) (he : ∀ whole, isTrue pe X.env whole = (do let v ← whole; standAt pe.pos; holding [v] (truthy v))) (hb : ∀ op vs p, pe ≠ .BoolOp op vs p) (hl : ∀ elt gens scope p, pe ≠ .ListComp elt gens scope p := by intros; exact nofun) : GE T X v Wx pe e :=
  ⟨h, st_val (PE.toR h) he, fun op vs p z => absurd z (hb op vs p), fun elt gens scope p z => absurd z (hl elt gens scope p)⟩
theorem mapO_cons {α β : Type} {f : α → Option β} {a : α} {as : List α} {r : List β} (h : mapO f (a :: as) = some r) : ∃ b bs, f a = some b ∧ mapO f as = some bs ∧ r = b :: bs := by
  simp only [mapO] at h
  cases h1 : f a with
  | none => rw [h1] at h; cases h
  | some b =>
    cases h2 : mapO f as with
    | none => rw [h1, h2] at h; cases h
    | some bs =>
      rw [h1, h2] at h
      cases h
      exact ⟨b, bs, rfl, rfl, rfl⟩
theorem cmp_star (h : cmpE C N m sc pe = some e) : isStar pe = false := by
  cases m with
  | zero => cases h
  | succ m => cases pe <;> first | rfl | cases h
theorem cmp_marks {op : CmpOp} (h : cmpE C N m sc pe = some e) : behindInMarks op pe = false := by
  cases m with
  | zero => cases h
  | succ m => cases pe <;> first | rfl | cases h
theorem cmp_plain (h : cmpE C N m sc pe = some e) : PlainIx pe := by
  cases m with
  | zero => cases h
  | succ m => cases pe <;> first | (intro _ _; rfl) | cases h
theorem cmp_fold {x : Value} (h : cmpE C N m sc pe = some e) : foldedSetIterable pe X.env x = pure x := by
  cases m with
  | zero => cases h
  | succ m => cases pe <;> first | rfl | cases h
theorem pel_of {es : List Expr} {ees : List E} (ih : ∀ pe e, cmpE C N m sc pe = some e → GE T X v Wx pe e) (h : mapO (cmpE C N m sc) es = some ees) : PEL T X v Wx es ees := by
  induction es generalizing ees with
  | nil => cases h; exact .nil
  | cons a as ih2 =>
    obtain ⟨b, bs, h1, h2, rfl⟩ := mapO_cons h
    exact .cons (cmp_star h1) (ih a b h1).vl (ih2 h2)
theorem pefl_of {es : List Expr} {ees : List E} (ih : ∀ pe e, cmpE C N m sc pe = some e → GE T X v Wx pe e) (h : mapO (cmpE C N m sc) es = some ees) : PEFL (gX T X) X v Wx es ees := by
  induction es generalizing ees with
  | nil => cases h; exact .nil
  | cons a as ih2 =>
    obtain ⟨b, bs, h1, h2, rfl⟩ := mapO_cons h
    exact .cons (cmp_star h1) (ih a b h1).val (ih2 h2)
theorem pfl_of {es : List Expr} {ees : List E} (ih : ∀ pe e, cmpE C N m sc pe = some e → GE T X v Wx pe e) (hcon : ∀ s env w d w', v.e (.con (.str s)) env w = .ok d w' → d = .str s) (hc : ∀ s k p, PE X (.Constant (.str s) k p) (tD (gX T X) v Wx (.con (.str s))))
    (h : mapO (fpF (cmpE C N m sc)) es = some ees) : PFL T X v Wx es ees := by
  induction es generalizing ees with
  | nil => cases h; exact .nil
  | cons a as ih2 =>
    obtain ⟨b, bs, h1, h2, rfl⟩ := mapO_cons h
    cases a with
    | Constant c kk pp =>
      cases c with
      | str s => cases h1; exact .con (hc s kk pp) (hcon s) (ih2 h2)
      | _ => cases h1
    | FormattedValue ex c fs pp =>
      cases fs with
      | none =>
        simp only [fpF] at h1
        split at h1
        · rename_i q
          subst q
          exact .fmt (ih ex b h1).vl (ih2 h2)
        · cases h1
      | some _ => cases h1
    | _ => cases h1
theorem popt_of {oe : Option Expr} {ee : Option E} (ih : ∀ pe e, cmpE C N m sc pe = some e → GE T X v Wx pe e) (h : optF (cmpE C N m sc) oe = some ee) : POpt T X v Wx oe ee := by
  cases oe with
  | none => cases h; exact .none
  | some a =>
    obtain ⟨b, h1, rfl⟩ := Option.map_eq_some_iff.mp (show ((cmpE C N m sc) a).map some = some ee from h)
    exact .some (ih a b h1).vl
/-- a single operand -/
theorem pe_bool1 {op : BoolOp} {t : TE} (h : PE X pe t) : PE X (.BoolOp op [pe] pos) t := ⟨fun pins s σ H Q I q => h.run pins s σ H Q I q⟩
theorem st_ite {c a b : Expr} {ec ea eb : E} (hc : PT X c (tDT (gX T X) v Wx ec)) (ha : PT X a (tDT (gX T X) v Wx ea)) (hb : PT X b (tDT (gX T X) v Wx eb)) :
    PT X (.IfExp c a b pos) (tRT (gX T X) Wx fun env w => (v.e ec env w).bind fun x w => match truth x with
      | some true => v.e ea env w
      | some false => v.e eb env w
      | none => .stk) := by
  refine ⟨fun pins s σ H Q I h => ?_⟩
  obtain ⟨ent, stp, M, o, env, w, S, p⟩ := h
  rw [R.bind_assoc] at p
  refine isTrue_IfExp (thn (hc.run pins s σ H (fun b H1 => if b = true then tDT (gX T X) v Wx ea σ H1 Q else tDT (gX T X) v Wx eb σ H1 Q) I ⟨ent, stp, M, o, env, w, S, ?_⟩) fun b s1 ⟨H1, I1, q1⟩ => ?_)
  · refine Po.truth_bind (ft := fun _ w => (v.e ea env w).bind fun d w => R.opt (truth d) w) (ff := fun _ w => (v.e eb env w).bind fun d w => R.opt (truth d) w) S (by
      refine cast ?_ p
      congr 2
      funext d w
      cases truth d with
      | none => rfl
      | some b => cases b <;> rfl) (fun d w1 H1 _ S1 p1 => ?_) fun d w1 H1 _ S1 p1 => ?_
    · exact iteT ⟨ent, stp, M, o, env, w1, S1, p1⟩
    · exact iteF ⟨ent, stp, M, o, env, w1, S1, p1⟩
  · cases b with
    | true => exact ha.run pins s1 σ H1 Q I1 q1
    | false => exact hb.run pins s1 σ H1 Q I1 q1
theorem XOk.hu (ok : XOk T pr C N k X sc) : X.A.units + 65 < cLine := by
  have := ok.room.un
  omega
/-- nothing is told of stk -/
theorem GE.no (h : ∀ env w, v.e e env w = .stk) : GE T X v Wx pe e := by
  have hp : PE X pe (tRf (gX T X) Wx (fr e) (al e) (alE e) (v.e e)) := ⟨fun pins s σ H Q I ⟨ent, stp, M, o, env, w, S, q⟩ => by rw [h] at q; exact q.elim⟩
  have hw : PW X pe (tDT (gX T X) v Wx e) := ⟨fun wh pins s σ H Q I ⟨ent, stp, M, o, env, w, S, q⟩ => by rw [h] at q; exact q.elim⟩
  refine ⟨hp, hw.pt, fun _ _ _ _ => hw, fun _ _ _ _ _ i y py spos _ _ _ => ⟨fun pins s σ H D I ⟨ent, stp, M, o, env, w, S, q⟩ => ?_⟩⟩
  rw [h] at q
  exact q.elim
theorem blk_ok (ok : XOk T pr C N k X sc) (s : Shared) (H : Hp) (scope : Scope) (cl : List (Str × Addr)) (c : Addr) (fp : List Addr) : XOk T pr C N k (X.blk s H scope (compEnvC scope cl c X.env) fp) (relS scope sc) := by
  refine ⟨ok.hN, ok.nd, ?_, ok.calm, ok.room, ok.guards, ok.nam⟩
  rw [← ok.hsc]
  rfl
theorem blk_loc (ok : XOk T pr C N k X sc) (s : Shared) (H : Hp) (scope : Scope) (cl : List (Str × Addr)) (c : Addr) (fp : List Addr) (x : Str) (h : L2.Loc scope x) :
    L2.Loc (X.blk s H scope (compEnvC scope cl c X.env) fp).env.scope x ∧ ((X.blk s H scope (compEnvC scope cl c X.env) fp).fn x = true ∨ (X.blk s H scope (compEnvC scope cl c X.env) fp).env.scope.names.lookup x = some .local) := by
  rcases h with h | h
  · have q : (relS scope X.env.scope).names.lookup x = some .local := lookup_relS_keep (by simp) h
    exact ⟨.inl q, .inr q⟩
  · have q : (relS scope X.env.scope).names.lookup x = some .cell := lookup_relS_keep (by simp) h
    exact ⟨.inr q, .inl (by show (scope.names.lookup x == some .cell) = true; rw [h]; rfl)⟩
end
end PD
end
section
set_option Elab.async false
set_option linter.all false
set_option maxRecDepth 100000
set_option maxHeartbeats 4000000
/-! PD19: every expression, by the fuel. -/
namespace PD
open PySem L2 PyProof.Rows
section
variable {T : List (Addr × Str)} {pr : Pr} {C : Cm} {N : List Str} {k d n m : Nat} {X : Cx} {sc : Scope} {Wx : WX} {p pos : Pos} {v u : Ev} {f : Bool} {g : G} {pe : Expr} {e : E}
theorem tup_tg {sc0 : Scope} {tg : Expr} {ts : List Tgt} (h : cmpT N sc0 5 tg = some (.t ts)) : ∃ es kk pp, tg = .Tuple es kk pp := by
  cases tg with
  | Name x p =>
    obtain ⟨i, _, z⟩ := Option.map_eq_some_iff.mp (show (slotL N sc0 x).map Tgt.v = some (.t ts) from h)
    cases z
  | Tuple es kk pp => exact ⟨es, kk, pp, rfl⟩
  | _ => cases h
theorem itE {ie : Expr} {it : PD.It} (ih : ∀ pe e, cmpE C N m sc pe = some e → GE T X v Wx pe e) {tg : Expr} (h : (cmpE C N m sc ie).map PD.It.e = some it) : PI X tg ie (tI (gX T X) v Wx it) ∧ ∀ x, foldedSetIterable ie X.env x = pure x := by
  obtain ⟨e, h1, rfl⟩ := Option.map_eq_some_iff.mp h
  exact ⟨si_e (ih ie e h1).vl, fun x => cmp_fold h1⟩
theorem it_ok (ok : XOk T pr C N k X sc) {ie tg : Expr} {it : PD.It} {t : Tgt} {sc0 : Scope} (ih : ∀ pe e, cmpE C N m sc pe = some e → GE T X v Wx pe e) (hit : cmpIt (cmpE C N m sc) sc ie = some it) (hT : itTg it t = true) (ht : cmpT N sc0 5 tg = some t) :
    PI X tg ie (tI (gX T X) v Wx it) ∧ ∀ x, foldedSetIterable ie X.env x = pure x := by
  unfold cmpIt at hit
  split at hit
  · rename_i x p args pos
    split at hit
    · rename_i a hg
      split at hit
      · rename_i q
        subst q
        obtain ⟨ea, h1, rfl⟩ := Option.map_eq_some_iff.mp hit
        exact ⟨si_r1 ok hg (ih a ea h1).vl (cmp_star h1), fun x => rfl⟩
      · split at hit
        · rename_i q
          subst q
          obtain ⟨ea, h1, rfl⟩ := Option.map_eq_some_iff.mp hit
          cases t with
          | v i => cases hT
          | t ts =>
            obtain ⟨es, kk, pp, rfl⟩ := tup_tg ht
            exact ⟨si_enum ok hg (ih a ea h1).vl (cmp_star h1), fun x => rfl⟩
        · exact itE ih hit
    · rename_i a b hg
      split at hit
      · rename_i q
        subst q
        split at hit
        · rename_i ea eb h1 h2
          cases hit
          exact ⟨si_r2 ok hg (ih a ea h1).vl (ih b eb h2).vl (cmp_star h1) (cmp_star h2), fun x => rfl⟩
        · cases hit
      · split at hit
        · rename_i q
          subst q
          split at hit
          · rename_i ea eb h1 h2
            cases hit
            cases t with
            | v i => cases hT
            | t ts =>
              obtain ⟨es, kk, pp, rfl⟩ := tup_tg ht
              exact ⟨si_zip ok hg (ih a ea h1).vl (ih b eb h2).vl (cmp_star h1) (cmp_star h2), fun x => rfl⟩
          · cases hit
        · exact itE ih hit
    · rename_i a b c hg
      split at hit
      · rename_i q
        subst q
        split at hit
        · rename_i ea eb ec h1 h2 h3
          cases hit
          exact ⟨si_r3 ok hg (ih a ea h1).vl (ih b eb h2).vl (ih c ec h3).vl (cmp_star h1) (cmp_star h2) (cmp_star h3), fun x => rfl⟩
        · cases hit
      · exact itE ih hit
    · exact itE ih hit
  · exact itE ih hit
theorem Cxt.blk (c : Cxt T pr C N k d X sc Wx) (s : Shared) (H : Hp) (scope : Scope) (cl : List (Str × Addr)) (a : Addr) (fp : List Addr) : Cxt T pr C N k d (X.blk s H scope (compEnvC scope cl a X.env) fp) (relS scope sc) F0 :=
  ⟨blk_ok c.ok s H scope cl a fp, LamX.takes0, c.call⟩
theorem own_mem {i : Nat} {scope : Scope} (h : ((ownOf N scope).map (·.2)).contains i = true) : i ∈ (ownOf N scope).map (·.2) := List.contains_iff_mem.mp h
theorem main_call (ih : ∀ pe e, cmpE C N m sc pe = some e → GE T X (evN pr n d) Wx pe e) (c : Cxt T pr C N k d X sc Wx) {x : Str} {args : List Expr} (h : cmpCall C N (cmpE C N m sc) sc x args = some e) : GE T X (evN pr (n + 1) d) Wx (.Call (.Name x p) args [] pos) e := by
  have fin : ∀ {e : E}, PE X (.Call (.Name x p) args [] pos) (tRf (gX T X) Wx (fr e) (al e) (alE e) ((evN pr (n + 1) d).e e)) → GE T X (evN pr (n + 1) d) Wx (.Call (.Name x p) args [] pos) e := fun h => .of h (fun _ => rfl) fun _ _ _ => nofun
  unfold cmpCall at h
  split at h
  · split at h
    · split at h <;> cases h
    · cases h
  · split at h
    · split at h
      · rename_i i e1 es h1 h2
        cases h
        cases args with
        | nil => cases h2
        | cons a as =>
          refine fin (PE.ofR ?_)
          rw [evN_e]
          exact se_callv c.ok (c.call n) c.ok.room c.tk h1 (pel_of ih h2)
      · cases h
    · split at h
      · rename_i hg
        split at h
        · rename_i hf
          rw [Bool.and_eq_true] at hf
          obtain ⟨es, h2, rfl⟩ := Option.map_eq_some_iff.mp h
          refine fin (PE.ofR ?_)
          rw [evN_e]
          exact se_call c.ok (c.call n) c.ok.room c.tk hg hf.2 (c.ok.nam.fns x hf.1) (pel_of ih h2)
        · split at h
          · rename_i b hb
            obtain ⟨es, h2, rfl⟩ := Option.map_eq_some_iff.mp h
            cases args with
            | nil =>
              cases h2
              refine .no fun env w => ?_
              rw [evN_e]
              show R.opt (bltD b []) w = .stk
              cases b <;> rfl
            | cons a as =>
              refine fin ?_
              rw [evN_e]
              exact se_blt c.ok c.ok.hu hb hg (pel_of ih h2)
          · cases h
      · cases h
theorem main_e : ∀ (n m : Nat) (sc : Scope) (X : Cx) (Wx : WX) (pe : Expr) (e : E), Cxt T pr C N k d X sc Wx → cmpE C N m sc pe = some e → GE T X (evN pr n d) Wx pe e := by
  intro n
  induction n with
  | zero => exact fun m sc X Wx pe e _ _ => .no fun _ _ => rfl
  | succ n ihn =>
    intro m
    induction m with
    | zero => intro sc X Wx pe e c h; cases h
    | succ m ihm =>
      intro sc X Wx pe e c h
      have ih : ∀ pe e, cmpE C N m sc pe = some e → GE T X (evN pr n d) Wx pe e := fun pe e h => ihn m sc X Wx pe e c h
      cases pe with
      | Name x p =>
        simp only [cmpE] at h
        split at h
        · obtain ⟨i, h1, rfl⟩ := Option.map_eq_some_iff.mp h
          refine .of (PE.ofR ?_) (fun _ => rfl) fun _ _ _ => nofun
          rw [evN_e]
          exact se_var c.ok h1
        · split at h
          · rename_i q
            simp only [Bool.and_eq_true] at q
            cases h
            refine .of (PE.ofR ?_) (fun _ => rfl) fun _ _ _ => nofun
            rw [evN_e]
            exact se_gv c.ok q.1 q.2.2
          · cases h
      | Constant cc kk p =>
        obtain ⟨dd, h1, rfl⟩ := Option.map_eq_some_iff.mp (show (conOf cc).map E.con = some e from h)
        refine .of (PE.ofR ?_) (fun _ => rfl) fun _ _ _ => nofun
        rw [evN_e]
        exact se_con h1
      | BinOp a op b p =>
        simp only [cmpE] at h
        split at h
        · rename_i o ea eb h0 h1 h2
          cases h
          refine .of ?_ (fun _ => rfl) fun _ _ _ => nofun
          rw [evN_e]
          exact se_bin h0 (ih a ea h1).vl (ih b eb h2).vl
        · cases h
      | UnaryOp op a p =>
        simp only [cmpE] at h
        split at h
        · rename_i ea h1
          cases h
          refine .of (PE.ofR ?_) (fun _ => rfl) fun _ _ _ => nofun
          rw [evN_e]
          exact se_neg (ih a ea h1).vl
        · rename_i ea h1
          cases h
          refine ⟨PE.ofR ?_, ?_, fun _ _ _ => nofun, fun _ _ _ _ => nofun⟩
          · rw [evN_e]
            exact se_not (ih a ea h1).vl
          · unfold tDT
            rw [evN_e]
            exact st_not (ih a ea h1).tst
        · cases h
      | BoolOp op vs p =>
        simp only [cmpE] at h
        split at h
        · cases h
        · rename_i a
          have g1 := ihm sc X Wx a e c h
          exact ⟨pe_bool1 g1.val, (sw_and1 g1.tst).pt, fun op' vs' p' z => (by cases z; exact sw_and1 g1.tst), fun _ _ _ _ => nofun⟩
        · rename_i a b r
          split at h
          · rename_i x y h1 h2
            cases h
            have g1 := ih a x h1
            have g2 := ih _ y h2
            cases op with
            | And =>
              have hw : PW X (.BoolOp .And (a :: b :: r) p) (tDT (gX T X) (evN pr (n + 1) d) Wx (.and x y)) := by
                unfold tDT
                rw [evN_e]
                exact sw_and g1.tst (g2.wh _ _ _ rfl)
              refine ⟨PE.ofR ?_, hw.pt, fun op' vs' p' z => (by cases z; exact hw), fun _ _ _ _ => nofun⟩
              rw [evN_e]
              exact se_and g1.vl g2.vl
            | Or =>
              have hw : PW X (.BoolOp .Or (a :: b :: r) p) (tDT (gX T X) (evN pr (n + 1) d) Wx (.or x y)) := by
                unfold tDT
                rw [evN_e]
                exact sw_or g1.tst (g2.wh _ _ _ rfl)
              refine ⟨PE.ofR ?_, hw.pt, fun op' vs' p' z => (by cases z; exact hw), fun _ _ _ _ => nofun⟩
              rw [evN_e]
              exact se_or g1.vl g2.vl
          · cases h
      | Compare a ops bs p =>
        simp only [cmpE] at h
        split at h
        · rename_i o b
          split at h
          · rename_i o' x y h0 h1 h2
            split at h
            · cases h
            · cases h
              refine ⟨PE.ofR ?_, ?_, fun _ _ _ => nofun, fun _ _ _ _ => nofun⟩
              · rw [evN_e]
                exact se_cmp c.ok.hu h0 (cmp_marks h2) (ih a x h1).vl (ih b y h2).vl
              · unfold tDT
                rw [evN_e]
                exact st_cmp c.ok.hu h0 (cmp_marks h2) (ih a x h1).vl (ih b y h2).vl
          · cases h
        · rename_i o q b cc
          split at h
          · rename_i o' q' x y z h0 h0' h1 h2 h3
            split at h
            · cases h
            · cases h
              refine ⟨PE.ofR ?_, ?_, fun _ _ _ => nofun, fun _ _ _ _ => nofun⟩
              · rw [evN_e]
                exact se_chn c.ok.hu h0 h0' (cmp_marks h3) (ih a x h1).vl (ih b y h2).vl (ih cc z h3).vl
              · unfold tDT
                rw [evN_e]
                exact st_chn c.ok.hu h0 h0' (cmp_marks h3) (ih a x h1).vl (ih b y h2).vl (ih cc z h3).vl
          · cases h
        · cases h
      | IfExp cc a b p =>
        simp only [cmpE] at h
        split at h
        · rename_i x y z h1 h2 h3
          cases h
          refine ⟨?_, ?_, fun _ _ _ => nofun, fun _ _ _ _ => nofun⟩
          · rw [evN_e]
            refine se_ite (ih cc x h1).tst (PE.le (ih a y h2).val fun q => ?_) (PE.le (ih b z h3).val fun q => ?_)
            · have q : (fr y && fr z) = true := q
              rw [Bool.and_eq_true] at q
              exact q.1
            · have q : (fr y && fr z) = true := q
              rw [Bool.and_eq_true] at q
              exact q.2
          · unfold tDT
            rw [evN_e]
            exact st_ite (ih cc x h1).tst (ih a y h2).tst (ih b z h3).tst
        · cases h
      | Tuple es kk p =>
        simp only [cmpE] at h
        split at h
        · cases h
        · obtain ⟨ees, h1, rfl⟩ := Option.map_eq_some_iff.mp h
          refine .of (PE.ofR ?_) (fun _ => rfl) fun _ _ _ => nofun
          rw [evN_e]
          exact se_tup (pel_of ih h1)
      | List es p =>
        simp only [cmpE] at h
        split at h
        · cases h
        · obtain ⟨ees, h1, rfl⟩ := Option.map_eq_some_iff.mp h
          refine .of ?_ (fun _ => rfl) fun _ _ _ => nofun
          rw [evN_e]
          exact se_lst (pel_of ih h1)
      | Call f args kws p =>
        simp only [cmpE] at h
        split at h
        · rename_i x p'
          split at h
          · split at h <;> cases h
          · exact main_call ih c h
        · cases h
      | Subscript a s p =>
        simp only [cmpE] at h
        split at h
        · rename_i lo hi p2
          split at h
          · rename_i ea el eh h1 h2 h3
            cases h
            refine .of ?_ (fun _ => rfl) fun _ _ _ => nofun
            rw [evN_e]
            exact se_slc (ih a ea h1).vl (popt_of ih h2) (popt_of ih h3)
          · cases h
        · rename_i st p2
          split at h
          · rename_i q
            obtain ⟨ea, h1, rfl⟩ := Option.map_eq_some_iff.mp h
            unfold isM1 at q
            split at q
            · have q := of_decide_eq_true q
              subst q
              refine .of ?_ (fun _ => rfl) fun _ _ _ => nofun
              rw [evN_e]
              exact se_rev (ih a ea h1).vl
            · cases q
          · cases h
        · cases h
        · split at h
          · rename_i ea es h1 h2
            cases h
            refine .of (PE.ofR ?_) (fun _ => rfl) fun _ _ _ => nofun
            rw [evN_e]
            exact se_sub (cmp_plain h2) (ih a ea h1).vl (ih _ es h2).vl
          · cases h
      | ListComp elt gens scope p =>
        simp only [cmpE] at h
        split at h
        · rename_i hb
          split at h
          · rename_i tg it ifs
            split at h
            · rename_i it' tg' ifs' elt' h1 h2 h3 h4
              split at h
              · rename_i q
                simp only [Bool.and_eq_true, List.all_eq_true, decide_eq_true_eq] at q
                cases h
                obtain ⟨a1, a2⟩ := it_ok c.ok ih h1 q.1 h2
                have ihb : ∀ (s : Shared) (H : Hp) (CC : Addr) (cl : List (Str × Addr)) (fp : List Addr) (pe : Expr) (e : E), cmpE C N m (relS scope sc) pe = some e → GE T (X.blk s H scope (compEnvC scope cl CC X.env) fp) (evN pr n d) F0 pe e :=
                  fun s H CC cl fp pe e h => ihn m (relS scope sc) _ F0 pe e (c.blk s H scope cl CC fp) h
                have hn : X.N.Nodup := by rw [c.ok.hN]; exact c.ok.nd
                have hbk : BlkOk X.N X.env.scope scope (ownOf N scope) := by rw [c.ok.hN, c.ok.hsc]; exact blkOk_by hb
                have hto : ∀ i, i ∈ tgI tg' → i ∈ (ownOf N scope).map (·.2) := fun i hi => own_mem (q.2.2 i hi)
                have hg : ∀ (s : Shared) (H : Hp) (CC : Addr) (cl : List (Str × Addr)) (fp : List Addr), PG (X.blk s H scope (compEnvC scope cl CC X.env) fp) tg (gT (gX T X) tg') := fun s H CC cl fp => (sg_all (c.blk s H scope cl CC fp).ok (blk_loc c.ok s H scope cl CC fp) 5).1 tg tg' h2
                have he : ∀ (s : Shared) (H : Hp) (CC : Addr) (cl : List (Str × Addr)) (fp : List Addr), PE (X.blk s H scope (compEnvC scope cl CC X.env) fp) elt (tD (gX T X) (evN pr n d) F0 elt') := fun s H CC cl fp => (ihb s H CC cl fp elt elt' h4).vl
                have ht : ∀ (s : Shared) (H : Hp) (CC : Addr) (cl : List (Str × Addr)) (fp : List Addr), PTs (X.blk s H scope (compEnvC scope cl CC X.env) fp) ifs (tTs (gX T X) (evN pr n d) ifs') := fun s H CC cl fp => by
                  cases ifs with
                  | nil => cases h3; exact pts_no
                  | cons i1 ir =>
                    obtain ⟨b, bs, e1, e2, rfl⟩ := mapO_cons h3
                    cases ir with
                    | nil => cases e2; exact pts_c (ihb s H CC cl fp i1 b e1).tst
                    | cons _ _ =>
                      obtain ⟨b2, bs2, _, _, rfl⟩ := mapO_cons e2
                      simp at q
                have hv : PE X (.ListComp elt [⟨tg, it, ifs, 0⟩] scope p) (tRf (gX T X) Wx (fr (.comp elt' tg' it' ifs' ((ownOf N scope).map (·.2)))) (al (.comp elt' tg' it' ifs' ((ownOf N scope).map (·.2)))) (alE (.comp elt' tg' it' ifs' ((ownOf N scope).map (·.2)))) ((evN pr (n + 1) d).e (.comp elt' tg' it' ifs' ((ownOf N scope).map (·.2))))) := by
                  rw [evN_e]
                  exact se_comp c.ok.calm hn a1 hbk hto hg ht he a2
                refine ⟨hv, st_val (PE.toR hv) fun _ => rfl, fun _ _ _ => nofun, fun elt0 gens0 scope0 p0 z i y py spos hy hyl hsw => ?_⟩
                refine (ps_setLc c.ok.calm hn hy hyl hsw a1 hbk hg ht he a2).imp fun D σ H q => ?_
                rw [evN_e] at q
                exact comp_in hto q
              · cases h
            · cases h
          · cases h
        · cases h
      | JoinedStr vs p =>
        simp only [cmpE] at h
        split at h
        · rename_i a b r
          obtain ⟨es, h1, rfl⟩ := Option.map_eq_some_iff.mp h
          refine .of (PE.ofR ?_) (fun _ => rfl) fun _ _ _ => nofun
          rw [evN_e]
          refine se_fstr (pfl_of ih (fun s env w dd w' hh => ?_) (fun s kk pp => ?_) h1)
          · cases n with
            | zero => cases hh
            | succ n => rw [evN_e] at hh; cases hh; rfl
          · cases n with
            | zero => exact ⟨fun pins s σ H Q I ⟨ent, stp, M, o, env, w, S, q⟩ => q.elim⟩
            | succ n =>
              unfold tD
              rw [evN_e]
              exact se_con rfl
        · cases h
      | _ => cases h
end
end PD
end
section
set_option Elab.async false
set_option linter.all false
set_option maxRecDepth 100000
set_option maxHeartbeats 4000000
/-! PD20: every statement. -/
namespace PD
open PySem L2 PyProof.Rows
theorem evN_b (pr : Pr) (n d : Nat) (b : List S) : (evN pr (n + 1) d).b b = blockStep pr (evN pr n d) b := by
  cases d <;> rfl
structure CxS (T : List (Addr × Str)) (pr : Pr) (C : Cm) (N : List Str) (k d : Nat) (X : Cx) (sc : Scope) (Wx : WX) : Prop where
  cx : Cxt T pr C N k d X sc Wx
  loc : ∀ x, L2.Loc sc x → L2.Loc X.env.scope x ∧ (X.fn x = true ∨ X.env.scope.names.lookup x = some .local)
  pass : PassesOwn (model X.prog X.w) X.A X.env X.xe
section
variable {T : List (Addr × Str)} {pr : Pr} {C : Cm} {N : List Str} {k d n m : Nat} {X : Cx} {sc : Scope} {Wx : WX} {p pos : Pos} {v u : Ev} {f : Bool} {g : G} {pe : Expr} {e : E} {st : Stmt} {s : S}
theorem CxS.hN (c : CxS T pr C N k d X sc Wx) : X.N.Nodup := by rw [c.cx.ok.hN]; exact c.cx.ok.nd
theorem slotL1_ok {x : Str} {i : Nat} (h : slotL1 N sc x = some i) : N[i]? = some x ∧ sc.names.lookup x = some .local := by
  unfold slotL1 at h
  split at h
  · rename_i q
    refine ⟨ixOf0 h, ?_⟩
    unfold loc1B at q
    split at q
    · assumption
    · cases q
  · cases h
/-- name = value -/
theorem s_asg (c : CxS T pr C N k d X sc Wx) {x : Str} {i : Nat} {e : Expr} {ee : E} (hi : slotL N sc x = some i) (hcmp : cmpE C N m sc e = some ee) (h : GE T X v Wx e ee) : PS X (.Assign [.Name x p] e pos) (tS (gX T X) Wx fun env w => (v.e ee env w).bind fun d w => .ok (putE i ee d env, .nx) w) := by
  obtain ⟨h1, h2⟩ := slotL_ok hi
  have hXi : X.N[i]? = some x := by rw [c.cx.ok.hN]; exact h1
  obtain ⟨hl, hf⟩ := c.loc x h2
  have fin : PS X (.Assign [.Name x p] e pos) (tAsg (tRf (gX T X) Wx (fr ee) (al ee) (alE ee) (v.e ee)) (gName i)) → PS X (.Assign [.Name x p] e pos) (tS (gX T X) Wx fun env w => (v.e ee env w).bind fun d w => .ok (putE i ee d env, .nx) w) := by
    intro hp
    refine ⟨fun pins s σ H D I q => hp.run pins s σ H D I ?_⟩
    cases hfr : fr ee with
    | false => exact tRf.of (asg_in hfr q)
    | true =>
      have hlt : i < σ.length := by
        rw [I.len]
        exact (List.getElem?_eq_some_iff.mp hXi).1
      exact asgF_in hfr hlt q
  by_cases hlc : ∃ elt gens scope p, e = .ListComp elt gens scope p
  · obtain ⟨elt, gens, scope, p2, rfl⟩ := hlc
    refine ⟨fun pins s σ H D I q => ?_⟩
    have hbk : X.env.blockKind = .function := by unfold Env.blockKind; rw [I.ok.kind]; rfl
    have hsw : swapsWith (.ListComp elt gens scope p2) (some (.Name x p)) pos.line X.env = pure (X.env.kindOf x == some .local && p.line == p2.line && !(scope.names.any fun (n, k) => n == x && (k == .local || k == .cell))) := by
      unfold swapsWith
      simp only [hbk, Expr.pos]
      rfl
    by_cases hlo : X.env.scope.names.lookup x = some .local
    · generalize (X.env.kindOf x == some .local && p.line == p2.line && !(scope.names.any fun (n, k) => n == x && (k == .local || k == .cell))) = b at hsw
      cases b with
      | false => exact (fin (ps_set c.hN hXi hl h.val hsw hf)).run pins s σ H D I q
      | true => exact (fin (h.lc _ _ _ _ rfl i x p pos hXi hlo hsw)).run pins s σ H D I q
    · have kx : ¬ X.env.kindOf x = some .local := hlo
      have e0 : (X.env.kindOf x == some NameKind.local) = false := beq_eq_false_iff_ne.mpr kx
      rw [e0] at hsw
      exact (fin (ps_set c.hN hXi hl h.val hsw hf)).run pins s σ H D I q
  · refine fin (ps_set c.hN hXi hl h.val ?_ hf)
    cases m with
    | zero => cases hcmp
    | succ m => cases e <;> first | rfl | exact absurd ⟨_, _, _, _, rfl⟩ hlc | cases hcmp
/-- a, b = x, y -/
theorem s_par (c : CxS T pr C N k d X sc Wx) {ts es : List Expr} {ees : List E} {is : List Nat} {kt k2 : Nat} {pt p2 : Pos} (hb : parB ts es = true) (hn : namesS N sc ts = some is) (hd : nodupB is = true) (hp : PEFL (gX T X) X v Wx es ees) :
    PS X (.Assign [.Tuple ts kt pt] (.Tuple es k2 p2) pos) (tS (gX T X) Wx fun env w => (evs v ees env w).bind fun ds w => match parP ees is ees ds (dropD (als ees) (.tup ds) env) with
    | some env => .ok (env, .nx) w
    | none => .stk) := by
  unfold parB at hb
  simp only [Bool.and_eq_true, Bool.or_eq_true, beq_iff_eq, decide_eq_true_eq, Bool.not_eq_true'] at hb
  obtain ⟨hl, hel, hln, hst, hf, hc⟩ := hb
  have ha := se_par hp fun _ h => h
  have one : ∀ {t : Expr} {r : List Expr} {is : List Nat}, namesS N sc (t :: r) = some is → ∃ x px i is', t = .Name x px ∧ slotL1 N sc x = some i ∧ namesS N sc r = some is' ∧ is = i :: is' := by
    intro t r is h
    cases t with
    | Name x px =>
      simp only [namesS] at h
      split at h
      · rename_i i is' h1 h2
        cases h
        exact ⟨x, px, i, is', rfl, h1, h2, rfl⟩
      · cases h
    | _ => cases h
  have nil : ∀ {is : List Nat}, namesS N sc [] = some is → is = [] := by
    intro is h; cases h; rfl
  have nin : ∀ {i : Nat} {is : List Nat}, nodupB (i :: is) = true → i ∉ is ∧ nodupB is = true := by
    intro i is h
    simp only [nodupB, Bool.and_eq_true, Bool.not_eq_true'] at h
    exact ⟨fun z => (by have q := List.contains_iff_mem.mpr z; rw [q] at h; cases h.1), h.2⟩
  have ndN : ∀ {i j : Nat} {x y : Str}, N[i]? = some x → N[j]? = some y → i ≠ j → x ≠ y := by
    intro i j x y h1 h2 h3 h4
    subst h4
    exact h3 ((List.getElem?_inj (List.getElem?_eq_some_iff.mp h1).1 c.cx.ok.nd).mp (h1.trans h2.symm))
  have hNi : ∀ {i : Nat} {x : Str}, N[i]? = some x → X.N[i]? = some x := fun h => by rw [c.cx.ok.hN]; exact h
  rcases hl with hl | hl
  · match ts, es, hl, hel with
    | [t1, t2], [a1, a2], _, _ =>
      obtain ⟨x, px, i, is1, rfl, e1, hn1, rfl⟩ := one hn
      obtain ⟨y, py, j, is2, rfl, e2, hn2, rfl⟩ := one hn1
      have := nil hn2
      subst this
      obtain ⟨m1, l1⟩ := slotL1_ok e1
      obtain ⟨m2, l2⟩ := slotL1_ok e2
      have hij : i ≠ j := fun z => (nin hd).1 (by rw [z]; exact List.mem_singleton_self _)
      have lx : X.env.scope.names.lookup x = some .local := by rw [c.cx.ok.hsc]; exact l1
      have ly : X.env.scope.names.lookup y = some .local := by rw [c.cx.ok.hsc]; exact l2
      simp only [List.all_cons, List.all_nil, Bool.and_true, Bool.and_eq_true, lineN, line0, List.any_cons, List.any_nil, Bool.or_false, Bool.or_eq_false_iff] at hln hst
      refine ⟨fun pins s σ H D I q => ?_⟩
      refine (ps_par c.cx.ok.calm c.hN (hNi m1) (hNi m2) hij lx ly ha (swapped2 I.ok.kind lx ly (ndN m1 m2 hij) hln.2 hst.1 hst.2 hf hc) swapsT).run pins s σ H D I ?_
      have hlt : ∀ a, a ∈ [i, j] → a < σ.length := fun a ha => by
        rw [I.len]
        rcases List.mem_cons.mp ha with rfl | ha
        · exact (List.getElem?_eq_some_iff.mp (hNi m1)).1
        · rw [List.mem_singleton.mp ha]
          exact (List.getElem?_eq_some_iff.mp (hNi m2)).1
      obtain ⟨ent, stp, M, o, env, w, S, q1⟩ := par_in hlt q
      refine ⟨ent, stp, M, o, env, w, S, q1.post fun vs H1 z => ?_⟩
      cases hp with | cons _ _ r => cases r with | cons _ _ r2 => cases r2 with | nil =>
        match vs, z with
        | [v1, v2], z => exact ⟨v1, v2, rfl, z.2⟩
        | [], z => exact absurd z.1 (by simp)
        | [_], z => exact absurd z.1 (by simp)
        | _ :: _ :: _ :: _, z => exact absurd z.1 (by simp)
  · match ts, es, hl, hel with
    | [t1, t2, t3], [a1, a2, a3], _, _ =>
      obtain ⟨x, px, i, is1, rfl, e1, hn1, rfl⟩ := one hn
      obtain ⟨y, py, j, is2, rfl, e2, hn2, rfl⟩ := one hn1
      obtain ⟨z, pz, l, is3, rfl, e3, hn3, rfl⟩ := one hn2
      have := nil hn3
      subst this
      obtain ⟨m1, l1⟩ := slotL1_ok e1
      obtain ⟨m2, l2⟩ := slotL1_ok e2
      obtain ⟨m3, l3⟩ := slotL1_ok e3
      have n1 := nin hd
      have n2 := nin n1.2
      have hij : i ≠ j := fun z => n1.1 (by rw [z]; simp)
      have hil : i ≠ l := fun z => n1.1 (by rw [z]; simp)
      have hjl : j ≠ l := fun z => n2.1 (by rw [z]; simp)
      have lx : X.env.scope.names.lookup x = some .local := by rw [c.cx.ok.hsc]; exact l1
      have ly : X.env.scope.names.lookup y = some .local := by rw [c.cx.ok.hsc]; exact l2
      have lz : X.env.scope.names.lookup z = some .local := by rw [c.cx.ok.hsc]; exact l3
      simp only [List.all_cons, List.all_nil, Bool.and_true, Bool.and_eq_true, lineN, line0, List.any_cons, List.any_nil, Bool.or_false, Bool.or_eq_false_iff] at hln hst
      refine ⟨fun pins s σ H D I q => ?_⟩
      refine (ps_par3 c.cx.ok.calm c.hN (hNi m1) (hNi m2) (hNi m3) hij hil hjl lx ly lz ha (swapped3 I.ok.kind lx ly lz (ndN m1 m2 hij) (ndN m1 m3 hil) (ndN m2 m3 hjl) hln.2.1 hln.2.2 hst.1 hst.2.1 hst.2.2 hf hc) swapsT).run pins s σ H D I ?_
      have hlt : ∀ a, a ∈ [i, j, l] → a < σ.length := fun a ha => by
        rw [I.len]
        rcases List.mem_cons.mp ha with rfl | ha
        · exact (List.getElem?_eq_some_iff.mp (hNi m1)).1
        · rcases List.mem_cons.mp ha with rfl | ha
          · exact (List.getElem?_eq_some_iff.mp (hNi m2)).1
          · rw [List.mem_singleton.mp ha]
            exact (List.getElem?_eq_some_iff.mp (hNi m3)).1
      obtain ⟨ent, stp, M, o, env, w, S, q1⟩ := par_in hlt q
      refine ⟨ent, stp, M, o, env, w, S, q1.post fun vs H1 z => ?_⟩
      cases hp with | cons _ _ r => cases r with | cons _ _ r2 => cases r2 with | cons _ _ r3 => cases r3 with | nil =>
        match vs, z with
        | [v1, v2, v3], z => exact ⟨v1, v2, v3, rfl, z.2⟩
        | [], z => exact absurd z.1 (by simp)
        | [_], z => exact absurd z.1 (by simp)
        | [_, _], z => exact absurd z.1 (by simp)
        | _ :: _ :: _ :: _ :: _, z => exact absurd z.1 (by simp)
/-- .. a tuple taken apart -/
theorem s_asgT (c : CxS T pr C N k d X sc Wx) {ts : List Expr} {tgs : List Tgt} {e : Expr} {ee : E} {kt : Nat} {pt : Pos} (ht : mapO (cmpT N sc 5) ts = some tgs) (h : GE T X v Wx e ee) (hw : swappedStores [.Tuple ts kt pt] e X.env = pure none) :
    PS X (.Assign [.Tuple ts kt pt] e pos) (tS (gX T X) Wx fun env w => (v.e ee env w).bind fun d w => match d with
    | .tup ds => (match bindTs tgs ds (dropD (al ee) d env) with
      | some env => .ok (env, .nx) w
      | none => .stk)
    | _ => .stk) := by
  have hc : cmpT N sc 6 (.Tuple ts kt pt) = some (.t tgs) := by show (mapO (cmpT N sc 5) ts).map Tgt.t = _; rw [ht]; rfl
  exact (ps_asg h.vl ((sg_all c.cx.ok c.loc 6).1 _ _ hc) swapsT hw rfl).imp fun D σ H q => asgT_in q
end
end PD
end
section
set_option Elab.async false
set_option linter.all false
set_option maxRecDepth 100000
set_option maxHeartbeats 4000000
/-! PD21: blocks, by the fuel. -/
namespace PD
open PySem L2 PyProof.Rows
section
variable {T : List (Addr × Str)} {pr : Pr} {C : Cm} {N : List Str} {k d n m : Nat} {X : Cx} {sc : Scope} {Wx : WX} {p pos : Pos} {v u : Ev} {f : Bool} {g : G} {pe : Expr} {e : E} {st : Stmt} {s : S}
theorem ps_no {r : Env → W → R (Env × Ctl)} (h : ∀ env w, r env w = .stk) : PS X st (tS g Wx r) := ⟨fun pins s σ H D I ⟨ent, stp, M, o, env, w, S, q⟩ => by rw [h] at q; exact q.elim⟩
theorem asg_sub {ix : Expr} {eix : E} {x : Str} {q : Pos} (h : cmpE C N m sc ix = some eix) : ∀ v, assign (.Subscript (.Name x p) ix q) X.env v = (do
      let ov ← holding [v] (eval (.Name x p) X.env)
      let iv ← holding [v, ov] (eval ix X.env)
      standAt q
      holding [v, ov, iv] (setItem ov iv v)
      release [v, ov, iv] []) := by
  intro v
  cases m with
  | zero => cases h
  | succ m => cases ix <;> first | rfl | cases h
theorem main_asg (c : CxS T pr C N k d X sc Wx) {tg e : Expr} {s : S} (h : cmpAsg N (cmpE C N m sc) sc tg e = some s) : PS X (.Assign [tg] e pos) (tS (gX T X) Wx (stmtStep pr (evN pr n d) s)) := by
  have ih : ∀ pe e, cmpE C N m sc pe = some e → GE T X (evN pr n d) Wx pe e := fun pe e h => main_e n m sc X Wx pe e c.cx h
  unfold cmpAsg at h
  split at h
  · rename_i x p
    split at h
    · cases h
    · rename_i i hi
      split at h
      · cases h
        exact ps_no fun _ _ => rfl
      · obtain ⟨ee, h1, rfl⟩ := Option.map_eq_some_iff.mp h
        exact s_asg c hi h1 (ih e ee h1)
  · rename_i ts kt pt
    split at h
    · rename_i es k2 p2
      split at h
      · rename_i hb
        split at h
        · rename_i is ees h1 h2
          split at h
          · rename_i hd
            cases h
            exact s_par c hb h1 hd (pefl_of ih h2)
          · cases h
        · cases h
      · split at h
        · rename_i hw
          split at h
          · rename_i tgs ee h1 h2
            cases h
            exact s_asgT c h1 (ih _ ee h2) (swNone hw)
          · cases h
        · cases h
    · rename_i hne
      split at h
      · rename_i tgs ee h1 h2
        cases h
        exact s_asgT c h1 (ih _ ee h2) (swNoneE fun es k p => hne es k p)
      · cases h
  · rename_i x p ix q
    split at h
    · cases h
    · split at h
      · rename_i i eix ee h1 h2 h3
        cases h
        exact ss_six c.cx.ok h1 (cmp_plain h2) (ih _ eix h2).vl (ih e ee h3).vl (asg_sub h2)
      · cases h
  · cases h
theorem main_ex (c : CxS T pr C N k d X sc Wx) {e : Expr} {s : S} (h : cmpEx N (cmpE C N m sc) sc e = some s) : PS X (.Expr e pos) (tS (gX T X) Wx (stmtStep pr (evN pr n d) s)) := by
  have ih : ∀ pe e, cmpE C N m sc pe = some e → GE T X (evN pr n d) Wx pe e := fun pe e h => main_e n m sc X Wx pe e c.cx h
  unfold cmpEx at h
  split at h
  · cases h
    exact ps_doc.imp fun D σ H q => pass_in q
  · rename_i x p mm q a pos'
    split at h
    · rename_i i ea h1 h2
      split at h
      · rename_i hq
        rw [Bool.and_eq_true, Bool.not_eq_true'] at hq
        split at h
        · rename_i hm
          subst hm
          cases h
          exact ss_app c.cx.ok h1 (ih a ea h2).vl hq.1 hq.2
        · split at h
          · rename_i hm
            subst hm
            cases h
            exact ss_ext c.cx.ok h1 (ih a ea h2).vl hq.1 hq.2
          · cases h
      · cases h
    · cases h
  · obtain ⟨ee, h1, rfl⟩ := Option.map_eq_some_iff.mp h
    exact (ps_expr (ih _ ee h1).vl swaps_call).imp fun D σ H q => ex_in q
  · cases h
/-- the blocks of fuel n -/
def GB (T : List (Addr × Str)) (pr : Pr) (C : Cm) (N : List Str) (k d n : Nat) : Prop := ∀ (m : Nat) (sc : Scope) (X : Cx) (Wx : WX) (b : List Stmt) (bs : List S), CxS T pr C N k d X sc Wx → mapO (cmpS C N m sc) b = some bs → PSs X b (tS (gX T X) Wx ((evN pr n d).b bs))
theorem main_st (hB : ∀ j, j ≤ n → GB T pr C N k d j) (c : CxS T pr C N k d X sc Wx) {s : S} (h : cmpS C N m sc st = some s) : PS X st (tS (gX T X) Wx (stmtStep pr (evN pr n d) s)) := by
  cases m with
  | zero => cases h
  | succ m =>
    have ih : ∀ pe e, cmpE C N 60 sc pe = some e → GE T X (evN pr n d) Wx pe e := fun pe e h => main_e n 60 sc X Wx pe e c.cx h
    have hb : ∀ b bs, mapO (cmpS C N m sc) b = some bs → PSs X b (tS (gX T X) Wx ((evN pr n d).b bs)) := fun b bs h => hB n (Nat.le_refl _) m sc X Wx b bs c h
    cases st with
    | Assign tgs e p =>
      simp only [cmpS] at h
      split at h
      · exact main_asg c h
      · cases h
    | Expr e p => exact main_ex c h
    | If cc a b p =>
      simp only [cmpS] at h
      split at h
      · rename_i ec ea eb h1 h2 h3
        cases h
        exact (ps_if (ih cc ec h1).tst (hb a ea h2) (hb b eb h3)).imp fun D σ H q => ife_in q
      · cases h
    | While cc a b p =>
      simp only [cmpS] at h
      split at h
      · rename_i _ _ _ ec ea h1 h2
        cases h
        refine ss_whl (fun j => evN pr j d) n c.pass (fun j hj => (main_e j 60 sc X Wx cc ec c.cx h1).tst) (fun j hj => hB j hj m sc X Wx a ea c h2) (fun j env w => ?_) fun _ _ => rfl
        show (evN pr (j + 1) d).b [.whl ec ea] env w = _
        rw [evN_b]
        show ((whlR (evN pr j d) ec ea env w).bind fun p w => match p with
          | (env, .nx) => blockStep pr (evN pr j d) [] env w
          | (env, c) => .ok (env, c) w) = _
        cases whlR (evN pr j d) ec ea env w with
        | stk => rfl
        | exc _ _ => rfl
        | ok p w' =>
          obtain ⟨env', ct⟩ := p
          cases ct <;> rfl
      · cases h
    | For tg it a b p =>
      simp only [cmpS] at h
      split at h
      · rename_i _ _ _ _ t' it' ea h1 h2 h3
        split at h
        · rename_i hT
          cases h
          obtain ⟨a1, a2⟩ := it_ok c.cx.ok ih h2 hT h1
          exact (ps_for c.pass c.cx.ok.calm a1 ((sg_all c.cx.ok c.loc 5).1 _ _ h1) (hb a ea h3) a2).imp fun D σ H q => for_in q
        · cases h
      · cases h
    | Return val p =>
      simp only [cmpS] at h
      split at h
      · cases h
        exact ps_retN.imp fun D σ H q => retN_in q
      · rename_i e
        obtain ⟨ee, h1, rfl⟩ := Option.map_eq_some_iff.mp h
        exact (ps_ret (ih e ee h1).vl).imp fun D σ H q => ret_in q
    | Pass p =>
      cases h
      exact ps_pass.imp fun D σ H q => pass_in q
    | Break p =>
      cases h
      exact ps_break.imp fun D σ H q => brk_in q
    | Raise ex cs p =>
      simp only [cmpS] at h
      split at h
      · rename_i x p0 m0 j0 p1 p2
        split at h
        · rename_i q
          simp only [Bool.and_eq_true] at q
          cases h
          exact ss_raise c.cx.ok c.cx.tk q.1 q.2.1 q.2.2
        · cases h
      · cases h
    | _ => cases h
theorem main_b : ∀ n, ∀ j, j ≤ n → GB T pr C N k d j := by
  have step : ∀ n, (∀ j, j ≤ n → GB T pr C N k d j) → GB T pr C N k d (n + 1) := by
    intro n hB m sc X Wx b
    induction b with
    | nil =>
      intro bs c h
      cases h
      rw [evN_b]
      exact blk_nil
    | cons st rest ihb =>
      intro bs c h
      obtain ⟨s, ss, h1, h2, rfl⟩ := mapO_cons h
      have q := ihb ss c h2
      rw [evN_b] at q ⊢
      exact blk_cons (main_st hB c h1) q
  intro n
  induction n with
  | zero =>
    intro j hj
    obtain rfl : j = 0 := by omega
    intro m sc X Wx b bs c h
    exact ⟨fun pins s σ H D I ⟨ent, stp, M, o, env, w, S, q⟩ => q.elim⟩
  | succ n ih =>
    intro j hj
    by_cases hq : j ≤ n
    · exact ih j hq
    · obtain rfl : j = n + 1 := by omega
      exact step n ih
end
end PD
end
section
set_option Elab.async false
set_option linter.all false
set_option maxRecDepth 100000
set_option maxHeartbeats 4000000
/-! PD22: the defs keep what the evaluator says. -/
namespace PD
open PySem L2 PyProof.Rows
/-- a def: its names N, its parameters ps, its text, what it was compiled to -/
structure DefX where
  x : Str
  N : List Str
  ps : List Str
  params : Arguments
  body : List Stmt
  scope : Scope
  bs : List S
structure DefOk (K : PySem.W.Frag) (mg : Str → Option Value) (C : Cm) (q : DefX) : Prop where
  at_ : ∃ f fd, mg q.x = some (.ref f) ∧ L2.FunD K q.x q.x q.params q.body q.scope [] [] f fd
  bind : ∀ (kV doc pm : Value) (an : Option Addr) (cdv ct : Value) (us : List Value), us.length = q.ps.length → bindArgs (PySem.W.fnOf q.x q.x q.params q.body q.scope .none kV doc pm an cdv ct) ⟨us, []⟩ = pure (q.ps.zip us)
  sc : L2.FnScope q.N q.ps q.scope
  cmp : mapO (cmpS C q.N 40 q.scope) q.body = some q.bs
theorem scopeOf {N ps : List Str} {sc : Scope} (h : fnScB N ps sc = true) : L2.FnScope N ps sc := by
  unfold fnScB at h
  simp only [Bool.and_eq_true, Bool.not_eq_true', decide_eq_true_eq, List.all_eq_true] at h
  obtain ⟨h1, h2, h3, h4, h5, h6, h7⟩ := h
  refine ⟨?_, h2, h3, h4, h5, fun x hx => locB_ok (h6 x hx), fun y hy e => ?_⟩
  · split at h1
    · assumption
    · cases h1
  · have q := h7 y hy
    rw [e] at q
    cases q
section
variable {P : Program} {w : World} {K : PySem.W.Frag} {mg : Str → Option Value} {base : Heap} {T : List (Addr × Str)} {pr : Pr} {C : Cm}
theorem start_get {N : List Str} {vs : List V} {i : Nat} {v : V} (h : vs[i]? = some v) : (L2.start N vs)[i]? = some (some v) := by
  unfold L2.start
  have hi := (List.getElem?_eq_some_iff.mp h).1
  rw [List.getElem?_append_left (by simpa using hi), List.getElem?_map, h]
  rfl
/-- a def's state at its entry -/
theorem SS.start {g : G} {stp : Stp} {M : Addr → Prop} {w : W} {H : Hp} {N : List Str} {vs : List V} {ds : List D} {np : Nat} (hwr : ∀ a, Wr g stp a → M a) (hmt : ∀ a, M a → H a ≠ none) (gr : GR g stp M H w) (r : Reps g stp M H vs ds) (hnp : ds.length = np) (hle : np ≤ N.length) :
    SS g H stp M (fun _ => none) (L2.start N vs) (ds.map Slot.sh ++ List.replicate (N.length - np) Slot.no) w H := by
  have av : ∀ a, Av M (fun _ => none) [] a → M a := fun a z => z.elim id fun ⟨_, _, e⟩ => by cases e
  have hl := r.length
  refine ⟨⟨hwr, hmt, gr.weak av, fun a u e _ => e, ?_, fun i j p e => (by cases e), fun i p e => (by cases e), fun i s e => ?_⟩, fun i p e => (by cases e)⟩
  · unfold L2.start
    simp
    omega
  · by_cases hi : i < ds.length
    · rw [List.getElem?_append_left (by simpa using hi), List.getElem?_map] at e
      obtain ⟨d, e1, rfl⟩ := Option.map_eq_some_iff.mp e
      obtain ⟨v, e2, rv⟩ := r.get e1
      exact ⟨v, start_get e2, rv.weak av⟩
    · rw [List.getElem?_append_right (by simpa using hi)] at e
      rw [List.getElem?_replicate] at e
      split at e
      · cases e; trivial
      · cases e
theorem fn_g {d n : Nat} {q : DefX} (hq : DefOk K mg C q) (nam : Nam K mg pr C) (hpr : pr.fns.lookup q.x = some (.user q.ps.length q.N.length q.bs)) (hc : ∀ n, FnsOk P w K mg base T pr (d + 1) (callF pr (U pr d n))) {f : Addr} {fd : FuncData} (F : L2.FunD K q.x q.x q.params q.body q.scope [] [] f fd) :
    FnG P w K mg base (d + 2) f fd q.ps (spD ⟨K, mg, T⟩ (callF pr (U pr (d + 1) n) q.x) q.ps.length) := by
  refine ⟨fun vs H Q E h => h.1, fun A outer s H args us vs Q E hr hg e0 hb rv hsp => ?_⟩
  obtain ⟨oc, od, dV, kV, doc, pm, an, cdv, ct, osl, rfl, lk, hcd, _, _⟩ := F.ex
  obtain ⟨hl, stp, M, w0, ds, hwr, hmt, gr, rds, po⟩ := hsp
  refine LamX.run_ofS (N := q.N) (ps := q.ps) (k := d + 1) lk hcd hq.sc hr e0 hb rv hl fun hr' => ?_
  have hlen : ds.length = q.ps.length := by rw [← rds.length]; exact hl
  have hle : q.ps.length ≤ q.N.length := by
    have z := congrArg List.length hq.sc.pre
    rw [List.length_take] at z
    omega
  have hX : CxS T pr C q.N (d + 1) d (cxOf (L2.CX P w) P w K mg base q.N q.x q.scope f cdv A outer s H E) q.scope (fun cls d _ H => E cls d H) := by
    refine ⟨⟨⟨rfl, hq.sc.nd, rfl, rfl, hr', hg, nam⟩, takes_of rfl rfl rfl rfl, hc⟩, fun x hx => ⟨hx, .inl rfl⟩, passes_of rfl⟩
  have hB := main_b n n (Nat.le_refl _) 40 q.scope _ _ q.body q.bs hX hq.cmp
  refine ⟨_, hB, H, stp, M, fun _ => none, _, w0, SS.start hwr hmt gr rds hlen hle, ?_⟩
  have e1 : callF pr (U pr (d + 1) n) q.x ds w0 = match (evN pr n d).b q.bs (ds.map .sh ++ List.replicate (q.N.length - q.ps.length) .no) w0 with
      | .ok (_, .rt d) w => .ok d w
      | .ok (_, .nx) w => .ok .non w
      | .ok (_, .bk) _ => .stk
      | .exc c w => .exc c w
      | .stk => .stk := by
    unfold callF
    rw [hpr]
    dsimp only
    rw [if_pos hlen]
    rfl
  rw [e1] at po
  show PoS _ _ _ _ _ ((evN pr n d).b q.bs (ds.map .sh ++ List.replicate (q.N.length - q.ps.length) .no) w0) _
  cases hr : (evN pr n d).b q.bs (ds.map .sh ++ List.replicate (q.N.length - q.ps.length) .no) w0 with
  | stk => rw [hr] at po; exact po.elim
  | exc c w' => rw [hr] at po; exact fun σ' H' cl a b e => po H' cl a b e
  | ok p w' =>
    rw [hr] at po
    obtain ⟨env', c⟩ := p
    cases c with
    | nx => exact fun o' σ' H' S' => po .non H' S'.si.he S'.si.gr.1 rfl
    | bk => exact po.elim
    | rt dd => exact fun v H' a b r => po v H' a b r
theorem callF_bot {x : Str} {ds : List D} {w : W} : callF pr bot x ds w = .stk := by
  unfold callF
  split
  · split
    · rfl
    · rfl
  · rfl
/-- all of them, at every depth -/
theorem fns_ok (qs : List DefX) (hq : ∀ q, q ∈ qs → DefOk K mg C q) (nam : Nam K mg pr C) (hpr : pr.fns = qs.map fun q => (q.x, .user q.ps.length q.N.length q.bs)) : ∀ d n, FnsOk P w K mg base T pr (d + 1) (callF pr (U pr d n)) := by
  have find : ∀ (qs : List DefX) x f, (qs.map fun q => (q.x, FnD.user q.ps.length q.N.length q.bs)).lookup x = some f → ∃ q, q ∈ qs ∧ q.x = x ∧ f = .user q.ps.length q.N.length q.bs := by
    intro qs x f h
    induction qs with
    | nil => cases h
    | cons q qs ih =>
      rw [List.map_cons, List.lookup_cons] at h
      split at h
      · rename_i z
        cases h
        exact ⟨q, List.mem_cons_self, (eq_of_beq z).symm, rfl⟩
      · obtain ⟨q', h1, h2, h3⟩ := ih h
        exact ⟨q', List.mem_cons_of_mem _ h1, h2, h3⟩
  intro d
  induction d with
  | zero =>
    intro n x np ns b hx
    obtain ⟨q, h1, h2, h3⟩ := find qs x _ (by rw [← hpr]; exact hx)
    cases h3
    subst h2
    have ok := hq q h1
    obtain ⟨f, fd, hm, F⟩ := ok.at_
    refine ⟨f, fd, q.ps, hm, F.kp, rfl, F.bindsN ok.bind, fun vs H Q E h => h.1, fun A outer s H args us vs Q E hr hg e0 hb rv hsp => ?_⟩
    obtain ⟨hl, stp, M, w0, ds, hwr, hmt, gr, rds, po⟩ := hsp
    have z : callF pr (U pr 0 n) q.x ds w0 = .stk := callF_bot
    rw [z] at po
    exact po.elim
  | succ d ih =>
    intro n x np ns b hx
    obtain ⟨q, h1, h2, h3⟩ := find qs x _ (by rw [← hpr]; exact hx)
    cases h3
    subst h2
    have ok := hq q h1
    obtain ⟨f, fd, hm, F⟩ := ok.at_
    exact ⟨f, fd, q.ps, hm, F.kp, rfl, F.bindsN ok.bind, fn_g ok nam hx ih F⟩
end
end PD
end
section
set_option Elab.async false
set_option linter.all false
set_option maxRecDepth 100000
set_option maxHeartbeats 4000000
/-! PD23: the law's own def. -/
namespace PD
open PySem L2 PyProof.Rows
section
variable {P : Program} {w : World} {K : PySem.W.Frag} {mg : Str → Option Value} {base : Heap} {T : List (Addr × Str)} {pr : Pr} {C : Cm}
/-- what the law's text is -/
structure LawX where
  N : List Str
  params : Arguments
  body : List Stmt
  scope : Scope
  i : Nat
  e : E
  rest : List S
structure LawOk (C : Cm) (q : LawX) : Prop where
  txt : ∃ x p ea kk p0 p1 p2 rs, q.body = .Assign [.Name x p] (.List [ea, .Constant (.int 0) kk p0] p1) p2 :: rs ∧ slotL q.N q.scope x = some q.i ∧ cmpE C q.N 60 q.scope ea = some q.e ∧ mapO (cmpS C q.N 40 q.scope) rs = some q.rest
  sc : L2.FnScope q.N ["script"] q.scope
theorem law_fn {d n : Nat} {q : LawX} (hq : LawOk C q) (nam : Nam K mg pr C) (hc : ∀ n, FnsOk P w K mg base T pr (d + 1) (callF pr (U pr d n))) {f a : Addr} {fd : FuncData} (F : L2.FunD K "law" "law" q.params q.body q.scope [] [] f fd) {ns : List Int} {env' : Env} {w' : W}
    (hev : lawN pr n d q.N.length q.i q.e q.rest ns = .ok (env', .rt (.bl true)) w') {A : Around} {outer : List PySem.Env} {s : Shared} {H : Hp} (hr : Room (d + 2) A) (hg : A.guards = some []) (e0 : Env0 P w K mg base A outer s H) (hb : BindsTo s fd ⟨[.ref a], []⟩ [("script", .ref a)])
    (hS : SqL K H a (ns.map V.int)) (hT : LamX.Tabs T H) : codeAny (model P w) A (.call (.ref f) ⟨[.ref a], []⟩) (CR (L2.CX P w) outer P w H s (fun v _ => v = .bl true) (fun _ _ _ => False)) s := by
  obtain ⟨oc, od, dV, kV, doc, pm, an, cdv, ct, osl, rfl, lk, hcd, _, _⟩ := F.ex
  obtain ⟨x, p, ea, kk, p0, p1, p2, rs, hbody, hslot, he, hrs⟩ := hq.txt
  have hb' : BindsTo s (PySem.W.fnOf "law" "law" q.params q.body q.scope dV kV doc pm an cdv ct) ⟨[.ref a], []⟩ ((["script"] : List Str).zip [Value.ref a]) := hb
  refine LamX.run_ofS (N := q.N) (ps := ["script"]) (k := d + 1) (vs := [.ref a]) (us := [.ref a]) lk hcd hq.sc hr e0 hb' (.cons rfl .nil) rfl fun hr' => ?_
  have hX : CxS T pr C q.N (d + 1) d (cxOf (L2.CX P w) P w K mg base q.N "law" q.scope f cdv A outer s H (fun _ _ _ => False)) q.scope (fun cls d _ H => False) := by
    refine ⟨⟨⟨rfl, hq.sc.nd, rfl, rfl, hr', hg, nam⟩, takes_of (E := fun _ _ _ => False) rfl rfl rfl rfl, hc⟩, fun x hx => ⟨hx, .inl rfl⟩, passes_of rfl⟩
  obtain ⟨hN, hloc⟩ := slotL_ok hslot
  have hle : 1 ≤ q.N.length := by
    have z := congrArg List.length hq.sc.pre
    rw [List.length_take] at z
    simp at z
    omega
  have ge := main_e n 60 q.scope _ _ ea q.e hX.cx he
  have hB := main_b n n (Nat.le_refl _) 40 q.scope _ _ rs q.rest hX hrs
  have hset := ps_set (X := cxOf (L2.CX P w) P w K mg base q.N "law" q.scope f cdv A outer s H (fun _ _ _ => False)) (pos' := p) (pos := p2) (i := q.i) (x := x) (e := .List [ea, .Constant (.int 0) kk p0] p1) hX.hN hN hloc (pe_lst (pa_cons ge.vl (pa_cons pe_int pa_nil) (star_no (cmp_star he) _ _))) rfl (.inl rfl)
  rw [hbody]
  refine ⟨_, pss_cons hset hB, ?_⟩
  -- the state
  obtain ⟨g, hgE⟩ : ∃ g : G, g = ⟨K, mg, T⟩ := ⟨_, rfl⟩
  have wrT : ∀ b, Wr g none b → ∃ z, (b, z) ∈ T := fun b z => by
    subst hgE
    rcases z with z | ⟨_, _, z⟩
    · exact z
    · cases z
  have hrep : Rep g none (Wr g none) H (.ref a) (.frz (ns.map .int)) := by
    refine ⟨a, _, rfl, ?_, reps_ints ns⟩
    rcases hS with hS | ⟨o, its, m, h1, h2, h3, h4, h5, h6⟩
    · refine .inl ⟨fun z => ?_, hS⟩
      obtain ⟨t, ht⟩ := wrT a z
      obtain ⟨ps, e1, _⟩ := hT _ ht
      have e1 : H a = some (.tbl ps) := e1
      rcases hS with hS | ⟨_, hS⟩ <;> rw [hS] at e1 <;> cases e1
    · subst hgE
      exact .inr ⟨o, its, m, h1, h2, h3, h4, h5, h6⟩
  have hgs : GS g none H none := by subst hgE; exact ⟨hT, trivial⟩
  have S0 : SS g H none (Wr g none) (fun _ => none) (L2.start q.N [V.ref a]) ([D.frz (ns.map .int)].map Slot.sh ++ List.replicate (q.N.length - 1) Slot.no) none H :=
    SS.start (fun _ h => h) (fun b h => hgs.there h) ⟨hgs, fun _ _ _ e => by cases e⟩ ⟨hrep, trivial⟩ rfl hle
  have henv : (lawN pr n d q.N.length q.i q.e q.rest ns) = match (evN pr n d).e q.e ([D.frz (ns.map .int)].map Slot.sh ++ List.replicate (q.N.length - 1) Slot.no) none with
    | .ok (.lst xs) none => (match ints? xs with
      | some xs => (evN pr n d).b q.rest (([D.frz (ns.map .int)].map Slot.sh ++ List.replicate (q.N.length - 1) Slot.no).set q.i (.sh .st)) (some (xs, 0))
      | none => .stk)
    | _ => .stk := rfl
  rw [henv] at hev
  generalize hE : ([D.frz (ns.map .int)].map Slot.sh ++ List.replicate (q.N.length - 1) Slot.no : Env) = env0 at hev S0
  split at hev
  · rename_i xs hval
    split at hev
    · rename_i is hints
      have fin : tR g (fun cls d _ H => False) (al q.e) (alE q.e) ((evN pr n d).e q.e) (L2.start q.N [V.ref a]) H (fun v H1 => ∃ qa vs, v = .ref qa ∧ LsA (Wr g none) H1 qa vs ∧ vs = is.map V.int ∧ SI g H none (Wr g none) (fun _ => none) (L2.start q.N [V.ref a]) env0 none H1) := by
        refine ⟨H, none, Wr g none, fun _ => none, env0, none, S0.si, ?_⟩
        rw [hval]
        intro v H1 k gs rv
        obtain ⟨qa, vs, e1, la, ra⟩ := rv
        have S1 := S0.si.step k gs
        exact ⟨qa, vs, e1, la.weak fun b z => .inl z, ra.ints hints, S1⟩
      subst hgE
      obtain ⟨ent, stp, M, o, env, w1, S, po⟩ := fin
      refine ⟨ent, stp, M, o, env, w1, S, po.post fun v H1 hv => ?_⟩
      obtain ⟨qa, vs, rfl, la, rfl, S1⟩ := hv
      refine ⟨by show 2 ≤ sizeLine; decide, fun p hp => ?_⟩
      have np : ¬ Wr (⟨K, mg, T⟩ : G) none p := fun z => S1.gr.1.there z hp
      have same : ∀ b u, H1 b = some u → upd H1 p (.lst [.ref qa, .int 0]) b = some u := fun b u e => by rw [upd_ne (ne_of_none e hp)]; exact e
      have wr2 : ∀ b, Wr (⟨K, mg, T⟩ : G) (some (p, qa, is)) b → Wr (⟨K, mg, T⟩ : G) none b ∨ b = p := fun b z => by
        rcases z with z | ⟨_, _, z⟩
        · exact .inl (.inl z)
        · cases z; exact .inr rfl
      have pre : ∀ b, Av (fun b => Wr (⟨K, mg, T⟩ : G) none b ∨ b = p) (fun _ => none) [] b → Av (Wr (⟨K, mg, T⟩ : G) none) (fun _ => none) [] b ∨ H1 b = none := fun b z => by
        rcases z with (z | z) | ⟨_, _, z⟩
        · exact .inl (.inl z)
        · exact .inr (by rw [z]; exact hp)
        · cases z
      have tabs : LamX.Tabs T (upd H1 p (.lst [.ref qa, .int 0])) := S1.gr.1.1.ext same
      have kp : ∀ {B : Addr → Prop}, KeepA B H1 (upd H1 p (.lst [.ref qa, .int 0])) := fun b u ha _ => same b u ha
      -- the data's own readings do not ask for the stream
      have strep : ∀ {M' : Addr → Prop} {v : V} {dd : D}, Rep (⟨K, mg, T⟩ : G) none M' H1 v dd → Rep (⟨K, mg, T⟩ : G) (some (p, qa, is)) M' H1 v dd := fun {M' v dd} r => r.stp
      have SI2 : SI (⟨K, mg, T⟩ : G) (upd H1 p (.lst [.ref qa, .int 0])) (some (p, qa, is)) (fun b => Wr (⟨K, mg, T⟩ : G) none b ∨ b = p) (fun _ => none) ((L2.start q.N [V.ref a]).set q.i (some (.ref p))) (env0.set q.i (.sh .st)) (some (is, 0)) (upd H1 p (.lst [.ref qa, .int 0])) := by
        refine ⟨wr2, fun b z => ?_, ⟨⟨tabs, rfl, upd_same⟩, fun p' q' ns' e => ?_⟩, fun b u e _ => e, by simp [S1.len], fun _ _ _ e => (by cases e), fun _ _ e => (by cases e), fun j s e => ?_⟩
        · rcases z with z | z
          · obtain ⟨u, hu⟩ := Option.isSome_iff_exists.mp (Option.isSome_iff_ne_none.mpr (S1.gr.1.there z))
            rw [same b u hu]
            simp
          · rw [z, upd_same]
            simp
        · cases e
          refine ⟨fun z => ?_, same _ _ la.2⟩
          rcases pre qa z with z | z
          · exact la.1 (z.elim id fun ⟨_, _, y⟩ => by cases y)
          · rw [la.2] at z
            cases z
        · by_cases hj : j = q.i
          · subst hj
            have hlt : q.i < env0.length := by
              have z := (List.getElem?_eq_some_iff.mp e).1
              simpa using z
            rw [List.getElem?_set_self hlt] at e
            cases e
            exact ⟨.ref p, by rw [List.getElem?_set_self (by rw [S1.len]; exact hlt)], p, qa, is, rfl, rfl⟩
          · rw [List.getElem?_set_ne (Ne.symm hj)] at e
            have z := S1.sl j s e
            cases s with
            | no => trivial
            | sh dd =>
              obtain ⟨v, e1, r⟩ := z
              exact ⟨v, by rw [List.getElem?_set_ne (Ne.symm hj)]; exact e1, ((strep r).pres pre).keep kp⟩
            | ow ds =>
              obtain ⟨_, _, e1, _⟩ := z
              cases e1
      refine ⟨_, some (p, qa, is), _, fun _ => none, _, some (is, 0), ⟨SI2, fun _ _ e => (by cases e)⟩, ?_⟩
      show PoS _ _ _ _ _ ((evN pr n d).b q.rest (env0.set q.i (.sh .st)) (some (is, 0))) _
      rw [hev]
      exact fun v H' _ _ r => r
    · cases hev
  · cases hev
end
end PD
end
section
set_option Elab.async false
set_option linter.all false
set_option maxRecDepth 100000
set_option maxHeartbeats 4000000
/-! PD24: the claim's caller calls the law's def (no guards stand there). -/
namespace PD
open PySem PySem.Spec PyProof.Rows L2
/-- what the caller tracks: the script, where it is no object of the module -/
def scriptH (a : Addr) (k : Bool) (ob : Obj) (xs : List V) : Hp := fun b => if k = true ∧ b = a then some (.frz ob (.lst xs)) else none
theorem scriptH_some {a b : Addr} {k : Bool} {ob : Obj} {xs : List V} {u : HO} (h : scriptH a k ob xs b = some u) : k = true ∧ b = a ∧ u = .frz ob (.lst xs) := by
  unfold scriptH at h
  split at h
  · rename_i c
    exact ⟨c.1, c.2, (Option.some.inj h).symm⟩
  · cases h
theorem law_end {P : Program} {w : World} {K : PySem.W.Frag} {mg mb : Str → Option Value} {fa a : Addr} {t : Shared} {vs : List Value} {ns : List Int}
    (kin : K.In t.heap) (hmg : t.heap.Ns mainGlobals mg) (hmb : t.heap.Ns builtinsNs mb) (hboot : ∀ x : Str, x ≠ "__name__" → mb x = bootBuiltins x) (hlim : t.heap.NoLimit) (hgens : t.gens = #[])
    (hscr : t.heap.get? a = some { cls := .type "list", data := .seq vs.toArray }) (hints : IntsAre vs ns) (hlen : ns.length ≤ sizeLine)
    (F : ∀ (base : Heap) (H : Hp), K.In base → base.Ns mainGlobals mg → Env0 P w K mg base callerA [] t H → SqL K H a (ns.map V.int) → codeAny (model P w) callerA (.call (.ref fa) ⟨[.ref a], []⟩) (CR (L2.CX P w) [] P w H t (fun v _ => v = .bl true) fun _ _ _ => False) t) :
    codeAny (model P w) callerA (.call (.ref fa) ⟨[.ref a], []⟩) (fun r t' => r = .ok (.ret (.bool true)) ∧ OldK t.heap t'.heap ∧ t'.os = t.os ∧ AllBare t'.gens) t := by
  have vals := vals_ints hints
  obtain ⟨k, hk1, hk2⟩ : ∃ k : Bool, (k = true → K.lookup a = none) ∧ (k = false → ∃ o, K.lookup a = some o) := by
    cases h : K.lookup a with
    | none => exact ⟨true, fun _ => rfl, fun z => by cases z⟩
    | some o => exact ⟨false, fun z => (by cases z), fun _ => ⟨o, rfl⟩⟩
  obtain ⟨H, hH⟩ : ∃ H, H = scriptH a k { cls := .type "list", data := .seq vs.toArray } (ns.map V.int) := ⟨_, rfl⟩
  have only : ∀ {b : Addr} {u : HO}, H b = some u → k = true ∧ b = a ∧ u = .frz { cls := .type "list", data := .seq vs.toArray } (.lst (ns.map V.int)) := fun {b u} e => by
    rw [hH] at e
    exact scriptH_some e
  have seq : SqL K H a (ns.map V.int) := by
    cases hk : k with
    | true =>
      refine .inl (.inr ⟨{ cls := .type "list", data := .seq vs.toArray }, ?_⟩)
      rw [hH]
      exact if_pos ⟨hk, rfl⟩
    | false =>
      obtain ⟨o, ho⟩ := hk2 hk
      have z := kin a o ho
      rw [hscr] at z
      cases z
      refine .inr ⟨_, vs.toArray, _, ho, rfl, rfl, rfl, ?_, by simpa using vals⟩
      rw [List.size_toArray, hints.length]
      exact hlen
  have objs : HOk P w H t.heap := fun b u e => by
    obtain ⟨_, rfl, rfl⟩ := only e
    exact ⟨hscr, (by rw [List.length_map]; exact hlen), vs, _, vals, hscr⟩
  -- what is not the script's own object is in the base
  have inB : ∀ {b : Addr} {o : Obj}, t.heap.get? b = some o → (b = a → k = false) → (hidT t.heap H).get? b = some o := fun {b o} e n => hidT_get e (by
    cases q : H b with
    | none => rfl
    | some u =>
      obtain ⟨c1, c2, _⟩ := only q
      rw [n c2] at c1
      cases c1)
  have dicts : ∀ {b : Addr} {m : Str → Option Value}, t.heap.Ns b m → (hidT t.heap H).Ns b m := fun {b m} ⟨o, es, ep, e, dd, r⟩ => ⟨o, es, ep, inB e (fun z => by
    rw [z, hscr] at e
    cases e
    cases dd), dd, r⟩
  have kb : K.In (hidT t.heap H) := fun b o e => inB (kin b o e) fun z => by
    cases q : k with
    | false => rfl
    | true =>
      rw [z, hk1 q] at e
      cases e
  obtain ⟨mc, l1, l2⟩ := hlim
  have entry : Env0 P w K mg (hidT t.heap H) callerA [] t H :=
    { frames := rfl, mod := ⟨kb, dicts hmg, ⟨mb, dicts hmb, hboot⟩, ⟨mc, dicts l1, l2⟩⟩, bs := fun b o e => of_hidT e, bsz := Nat.le_of_eq (hidT_size _ _), funs := trivial, frf := fun b z => (by cases z), hok := objs, bare := .of_eq hgens }
  refine codeAny_mono (F _ H kb (dicts hmg) entry seq) fun r t' e => ?_
  match r, e with
  | .error _, e =>
    obtain ⟨_, _, _, _, _, _, _, _, _, _, _, _, z⟩ := e
    exact z.elim
  | .ok .next, e => exact (show False from e).elim
  | .ok .brk, e => exact (show False from e).elim
  | .ok .cont, e => exact (show False from e).elim
  | .ok (.ret u), e =>
    obtain ⟨v, H', hos, hbare, un, hok', hrel, hv⟩ := e
    have hv : v = .bl true := hv
    rw [hv] at hrel
    have hu : u = Value.bool true := hrel
    rw [hu]
    refine ⟨rfl, OldK.of_keep fun b o e => ?_, hos, hbare⟩
    cases q : H b with
    | none => exact un.keep b o e q (fun z => by cases z) (fun z => by cases z)
    | some u' =>
      obtain ⟨_, rfl, rfl⟩ := only q
      have z := (hok' b _ (un.frzs b _ _ q)).1
      rw [hscr] at e
      cases e
      exact z
/-- the open law's walk, from what the evaluator says -/
theorem law_walk {l : PySem.W.OpenLaw} {n : Nat} {q : Program} {loose : List Str} {XP : (Str → Option Value) → Heap → Prop} {YP : World → Heap → Prop} {dr : DefRec} (hn : l.most = some n) (hn2 : n ≤ sizeLine) (hdf : dr.params.defaults = [])
    (F : ∀ (w : World) (mg : Str → Option Value) (fa : Addr) (h : Heap) (ns : List Int), YP w h → h.Ns mainGlobals mg → mg dr.name = some (.ref fa) → ns.length ≤ n → ∃ K : PySem.W.Frag, K.In h ∧ ∀ (base : Heap) (H : Hp) (a : Addr) (t : Shared), K.In base → base.Ns mainGlobals mg →
      Env0 l.prog w K mg base callerA [] t H → SqL K H a (ns.map V.int) → codeAny (model l.prog w) callerA (.call (.ref fa) ⟨[.ref a], []⟩) (CR (L2.CX l.prog w) [] l.prog w H t (fun v _ => v = .bl true) fun _ _ _ => False) t) :
    PySem.W.WalkO q loose XP YP l.row.toRowW dr [] (fun f vs => PySem.call f vs) := by
  refine Att.attach_callB hn hdf fun w s₀ t mg mb fa o pm cd doc a vs ns G Y ho hd hcd hmg hobj hints hlen hbits hg => ?_
  obtain ⟨K, kin, hF⟩ := F w mg fa _ ns Y G.T.g hmg hlen
  exact law_end kin G.T.g G.T.b G.T.builtins G.T.nolimit hg hobj hints (Nat.le_trans hlen hn2) fun base H kb nb e0 hS => hF base H a t kb nb e0 hS
end PD
end
section
set_option Elab.async false
set_option linter.all false
set_option maxRecDepth 100000
set_option maxHeartbeats 4000000
/-! PD25: from the head's facts to the law. -/
namespace PD
open PySem PySem.Spec PyProof.Rows L2
def bnames : List Str := ["len", "abs", "min", "max", "sum", "any", "all", "int", "str", "repr", "tuple", "list", "sorted", "range", "enumerate", "zip"]
theorem blt_in {x : Str} {b : Blt} (h : bltOf x = some b) : x ∈ bnames := by
  unfold bltOf at h
  by_cases q : x = ("len" : Str)
  · subst q; simp [bnames]
  rw [if_neg q] at h; clear q
  by_cases q : x = ("abs" : Str)
  · subst q; simp [bnames]
  rw [if_neg q] at h; clear q
  by_cases q : x = ("min" : Str)
  · subst q; simp [bnames]
  rw [if_neg q] at h; clear q
  by_cases q : x = ("max" : Str)
  · subst q; simp [bnames]
  rw [if_neg q] at h; clear q
  by_cases q : x = ("sum" : Str)
  · subst q; simp [bnames]
  rw [if_neg q] at h; clear q
  by_cases q : x = ("any" : Str)
  · subst q; simp [bnames]
  rw [if_neg q] at h; clear q
  by_cases q : x = ("all" : Str)
  · subst q; simp [bnames]
  rw [if_neg q] at h; clear q
  by_cases q : x = ("int" : Str)
  · subst q; simp [bnames]
  rw [if_neg q] at h; clear q
  by_cases q : x = ("str" : Str)
  · subst q; simp [bnames]
  rw [if_neg q] at h; clear q
  by_cases q : x = ("repr" : Str)
  · subst q; simp [bnames]
  rw [if_neg q] at h; clear q
  by_cases q : x = ("tuple" : Str)
  · subst q; simp [bnames]
  rw [if_neg q] at h; clear q
  by_cases q : x = ("list" : Str)
  · subst q; simp [bnames]
  rw [if_neg q] at h; clear q
  by_cases q : x = ("sorted" : Str)
  · subst q; simp [bnames]
  rw [if_neg q] at h; clear q
  cases h
def faOf (qs : List DefX) (excs : List Str) : List He.Fa := qs.map (fun q => He.Fa.glo q.x) ++ (bnames.map He.Fa.free ++ (excs.map He.Fa.glo ++ (excs.map He.Fa.exc ++ [He.Fa.glo "law"])))
def fnOf (qs : List DefX) (lw : LawX) : List He.DefD := qs.map (fun q => ⟨(q.x, none), q.x, q.x, q.params, q.body, q.scope, [], []⟩) ++ [⟨("law", none), "law", "law", lw.params, lw.body, lw.scope, [], []⟩]
/-- what is checked of the defs' texts -/
structure TxtOk (C : Cm) (pr : Pr) (qs : List DefX) (lw : LawX) : Prop where
  fns : C.fns = qs.map (·.x)
  prf : pr.fns = qs.map fun q => (q.x, .user q.ps.length q.N.length q.bs)
  gl : pr.gl = []
  bind : ∀ q, q ∈ qs → ∀ (kV doc pm : Value) (an : Option Addr) (cdv ct : Value) (us : List Value), us.length = q.ps.length → bindArgs (PySem.W.fnOf q.x q.x q.params q.body q.scope .none kV doc pm an cdv ct) ⟨us, []⟩ = pure (q.ps.zip us)
  sc : ∀ q, q ∈ qs → fnScB q.N q.ps q.scope = true
  cmp : ∀ q, q ∈ qs → mapO (cmpS C q.N 40 q.scope) q.body = some q.bs
  law : LawOk C lw
  lbind : ∀ (kV doc pm : Value) (an : Option Addr) (cdv ct : Value) (us : List Value), us.length = 1 → bindArgs (PySem.W.fnOf "law" "law" lw.params lw.body lw.scope .none kV doc pm an cdv ct) ⟨us, []⟩ = pure ((["script"] : List Str).zip us)
theorem nam_of {P : Program} {w : World} {K : PySem.W.Frag} {h : Heap} {mg : Str → Option Value} {C : Cm} {pr : Pr} {qs : List DefX} {lw : LawX} {ex : PySem.W.Frag → Bool} (KX : K.In h) (G : h.Ns mainGlobals mg) (c : He.SaysX (faOf qs C.excs) (fnOf qs lw) [] [] ex w h K) (t : TxtOk C pr qs lw) :
    Nam K mg pr C ∧ (∀ q, q ∈ qs → DefOk K mg C q) := by
  have fact : ∀ {f : He.Fa}, f ∈ faOf qs C.excs → f.ok K = true := fun hf => c.t.d.facts hf
  have free : ∀ x, x ∈ bnames → mg x = none := fun x hx => He.free_ok KX G (fact (List.mem_append_right _ (List.mem_append_left _ (List.mem_map.mpr ⟨x, hx, rfl⟩))))
  have defs : ∀ q, q ∈ qs → DefOk K mg C q := fun q hq => by
    obtain ⟨fd, F⟩ := c.t.d.defs (d := ⟨(q.x, none), q.x, q.x, q.params, q.body, q.scope, [], []⟩) (List.mem_append_left _ (List.mem_map.mpr ⟨q, hq, rfl⟩))
    have g := He.glo_ok KX G (fact (f := .glo q.x) (List.mem_append_left _ (List.mem_map.mpr ⟨q, hq, rfl⟩)))
    exact ⟨⟨_, fd, g, F⟩, t.bind q hq, scopeOf (t.sc q hq), t.cmp q hq⟩
  refine ⟨⟨fun x b hb => free x (blt_in hb), ⟨free _ (by simp [bnames]), free _ (by simp [bnames]), free _ (by simp [bnames])⟩, fun x hx => ?_, fun x hx => ?_, fun x d hx => ?_⟩, defs⟩
  · have hx := List.contains_iff_mem.mp hx
    obtain ⟨e1, e2, e3, e4⟩ := He.exc_ok (fact (f := .exc x) (List.mem_append_right _ (List.mem_append_right _ (List.mem_append_right _ (List.mem_append_left _ (List.mem_map.mpr ⟨x, hx, rfl⟩))))))
    exact ⟨_, He.glo_ok KX G (fact (f := .glo x) (List.mem_append_right _ (List.mem_append_right _ (List.mem_append_left _ (List.mem_map.mpr ⟨x, hx, rfl⟩))))), e1, e2, e3, e4⟩
  · have hx := List.contains_iff_mem.mp hx
    rw [t.fns] at hx
    obtain ⟨q, hq, rfl⟩ := List.mem_map.mp hx
    obtain ⟨f, fd, hm, F⟩ := (defs q hq).at_
    exact ⟨f, hm, F.kp⟩
  · rw [t.gl] at hx
    cases hx
theorem law_all {l : PySem.W.OpenLaw} {C : Cm} {pr : Pr} {qs : List DefX} {lw : LawX} {ex : PySem.W.Frag → Bool} (t : TxtOk C pr qs lw) (d : Nat) (hroom : Room (d + 2) callerA)
    (hev : ∀ ns : List Int, ns.length ≤ 63 → ∃ n env' w', lawN pr n d lw.N.length lw.i lw.e lw.rest ns = .ok (env', .rt (.bl true)) w') :
    ∀ (w : World) (mg : Str → Option Value) (fa : Addr) (h : Heap) (ns : List Int), (∃ K : PySem.W.Frag, K.In h ∧ He.SaysX (faOf qs C.excs) (fnOf qs lw) [] [] ex w h K) → h.Ns mainGlobals mg → mg ("law" : Str) = some (.ref fa) → ns.length ≤ 63 → ∃ K : PySem.W.Frag, K.In h ∧
      ∀ (base : Heap) (H : Hp) (a : Addr) (s : Shared), K.In base → base.Ns mainGlobals mg → Env0 l.prog w K mg base callerA [] s H → SqL K H a (ns.map V.int) → codeAny (model l.prog w) callerA (.call (.ref fa) ⟨[.ref a], []⟩) (CR (L2.CX l.prog w) [] l.prog w H s (fun v _ => v = .bl true) fun _ _ _ => False) s := by
  rintro w mg fa h ns ⟨K, KX, c⟩ G hmg hlen
  obtain ⟨nam, defs⟩ := nam_of (P := l.prog) KX G c t
  obtain ⟨fd, F⟩ := c.t.d.defs (d := ⟨("law", none), "law", "law", lw.params, lw.body, lw.scope, [], []⟩) (List.mem_append_right _ (List.mem_singleton_self _))
  have g := He.glo_ok KX G (c.t.d.facts (f := .glo "law") (List.mem_append_right _ (List.mem_append_right _ (List.mem_append_right _ (List.mem_append_right _ (List.mem_singleton_self _))))))
  have e := hmg.symm.trans g
  cases e
  obtain ⟨n, env', w', hn⟩ := hev ns hlen
  refine ⟨K, KX, fun base H a s kb nb e0 hS => ?_⟩
  have fo := fns_ok (P := l.prog) (w := w) (base := base) (T := []) qs defs nam t.prf d
  exact law_fn t.law nam fo F hn hroom rfl e0 (F.bindsA (ps := ["script"]) t.lbind s [.ref a] rfl) hS fun p hp => by cases hp
end PD
end
section
set_option Elab.async false
set_option linter.all false
set_option maxRecDepth 100000
set_option maxHeartbeats 4000000
/-! PE1: the evaluator's limits. -/
namespace PD
open PySem
/-- from some fuel on -/
def Lim {α : Type} (r : Nat → α) (x : α) : Prop := ∃ n0, ∀ n, n0 ≤ n → r n = x
theorem Lim.uniq {α : Type} {r : Nat → α} {x y : α} (h : Lim r x) (h' : Lim r y) : x = y := by
  obtain ⟨n, h⟩ := h
  obtain ⟨m, h'⟩ := h'
  rw [← h (max n m) (Nat.le_max_left ..), ← h' (max n m) (Nat.le_max_right ..)]
theorem Lim.const {α : Type} {x : α} : Lim (fun _ => x) x := ⟨0, fun _ _ => rfl⟩
theorem Lim.shift {α : Type} {r : Nat → α} {x : α} (h : Lim (fun n => r (n + 1)) x) : Lim r x := by
  obtain ⟨n0, h⟩ := h
  refine ⟨n0 + 1, fun n hn => ?_⟩
  obtain ⟨m, rfl⟩ : ∃ m, n = m + 1 := ⟨n - 1, by omega⟩
  exact h m (by omega)
/-- x is stk, or what the r n come to -/
def LS {α : Type} (r : Nat → R α) (x : R α) : Prop := x ≠ .stk → Lim r x
section
variable {α β : Type}
theorem LS.const {x : R α} : LS (fun _ => x) x := fun _ => Lim.const
theorem LS.stk {r : Nat → R α} : LS r .stk := fun h => absurd rfl h
theorem LS.shift {r : Nat → R α} {x : R α} (h : LS (fun n => r (n + 1)) x) : LS r x := fun hx => (h hx).shift
theorem LS.bind {r : Nat → R α} {x : R α} {f : Nat → α → W → R β} {g : α → W → R β} (h : LS r x) (hf : ∀ a w, LS (fun n => f n a w) (g a w)) : LS (fun n => (r n).bind (f n)) (x.bind g) := by
  cases x with
  | stk => exact LS.stk
  | exc c w =>
    intro _
    obtain ⟨n0, h⟩ := h (by simp)
    exact ⟨n0, fun n hn => by show (r n).bind (f n) = _; rw [h n hn]; rfl⟩
  | ok a w =>
    intro hx
    obtain ⟨n0, h⟩ := h (by simp)
    obtain ⟨m0, h'⟩ := hf a w hx
    refine ⟨max n0 m0, fun n hn => ?_⟩
    show (r n).bind (f n) = _
    rw [h n (by omega)]
    exact h' n (by omega)
theorem LS.noexc {r : Nat → R α} {x : R α} (h : LS r x) : LS (fun n => (r n).noexc) x.noexc := by
  cases x with
  | stk => exact LS.stk
  | exc c w => exact LS.stk
  | ok a w =>
    intro _
    obtain ⟨n0, h⟩ := h (by simp)
    exact ⟨n0, fun n hn => by show (r n).noexc = _; rw [h n hn]⟩
end
section
variable {P : Pr} {vs : Nat → Ev} {v : Ev} {CF : Nat → Str → List D → W → R D} {cf : Str → List D → W → R D}
variable (hv : ∀ e env w, LS (fun n => (vs n).e e env w) (v.e e env w)) (hb : ∀ b env w, LS (fun n => (vs n).b b env w) (v.b b env w)) (hc : ∀ f ds w, LS (fun n => CF n f ds w) (cf f ds w))
include hv
theorem evs_ls : ∀ (es : List E) (env : Env) (w : W), LS (fun n => evs (vs n) es env w) (evs v es env w)
  | [], _, _ => LS.const
  | e :: es, env, w => LS.bind (hv e env w) fun _ w => LS.bind (evs_ls es env w) fun _ _ => LS.const
theorem evF_ls : ∀ (es : List E) (out : Str) (env : Env) (w : W), LS (fun n => evF (vs n) es out env w) (evF v es out env w)
  | [], _, _, _ => LS.const
  | e :: es, out, env, w => LS.bind (hv e env w) fun d w => by
    show LS (fun n => match fpart d with
      | some s => if szOk (out.length + s.length) = true then evF (vs n) es (out ++ s) env w else .stk
      | none => .stk) (match fpart d with
      | some s => if szOk (out.length + s.length) = true then evF v es (out ++ s) env w else .stk
      | none => .stk)
    cases fpart d with
    | none => exact LS.stk
    | some s =>
      dsimp only
      split
      · exact evF_ls es _ env w
      · exact LS.stk
theorem evsS_ls : ∀ (es : List (Bool × E)) (env : Env) (w : W), LS (fun n => evsS (vs n) es env w) (evsS v es env w)
  | [], _, _ => LS.const
  | (s, e) :: es, env, w => LS.bind (hv e env w) fun d w => by
    refine LS.bind ?_ fun _ w => LS.bind (evsS_ls es env w) fun _ _ => LS.const
    exact LS.const
theorem evOpt_ls (oe : Option E) (env : Env) (w : W) : LS (fun n => evOpt (vs n) oe env w) (evOpt v oe env w) := by
  cases oe with
  | none => exact LS.const
  | some e => exact LS.bind (hv e env w) fun _ _ => LS.const
theorem evIt_ls (it : It) (env : Env) (w : W) : LS (fun n => evIt (vs n) it env w) (evIt v it env w) := by
  cases it with
  | e a => exact LS.bind (hv a env w) fun _ _ => LS.const
  | r1 a => exact LS.bind (hv a env w) fun _ _ => LS.const
  | r2 a b => exact LS.bind (hv a env w) fun _ w => LS.bind (hv b env w) fun _ _ => LS.const
  | r3 a b c => exact LS.bind (hv a env w) fun _ w => LS.bind (hv b env w) fun _ w => LS.bind (hv c env w) fun _ _ => LS.const
  | enum a => exact LS.bind (hv a env w) fun _ _ => LS.const
  | zip a b => exact LS.bind (hv a env w) fun _ w => LS.bind (hv b env w) fun _ _ => LS.const
theorem tests_ls : ∀ (cs : List E) (env : Env) (w : W), LS (fun n => tests (vs n) cs env w) (tests v cs env w)
  | [], _, _ => LS.const
  | c :: cs, env, w => LS.bind (hv c env w) fun d w => by
    show LS (fun n => match truth d with
      | some true => tests (vs n) cs env w
      | some false => .ok false w
      | none => .stk) (match truth d with
      | some true => tests v cs env w
      | some false => .ok false w
      | none => .stk)
    cases truth d with
    | none => exact LS.stk
    | some b => cases b with
      | true => exact tests_ls cs env w
      | false => exact LS.const
theorem compL_ls (elt : E) (tg : Tgt) (ifs : List E) : ∀ (ds : List D) (env : Env) (w : W), LS (fun n => compL (vs n) elt tg ifs ds env w) (compL v elt tg ifs ds env w)
  | [], _, _ => LS.const
  | d :: ds, env, w => by
    show LS (fun n => match bindT tg d env with
      | none => .stk
      | some env1 => (tests (vs n) ifs env1 w).noexc.bind fun b w => if b = true then ((vs n).e elt env1 w).noexc.bind fun x w => (compL (vs n) elt tg ifs ds env w).bind fun xs w => .ok (x :: xs) w
        else compL (vs n) elt tg ifs ds env w) (match bindT tg d env with
      | none => .stk
      | some env1 => (tests v ifs env1 w).noexc.bind fun b w => if b = true then (v.e elt env1 w).noexc.bind fun x w => (compL v elt tg ifs ds env w).bind fun xs w => .ok (x :: xs) w
        else compL v elt tg ifs ds env w)
    cases bindT tg d env with
    | none => exact LS.stk
    | some env1 =>
      refine LS.bind (tests_ls hv ifs env1 w).noexc fun b w => ?_
      split
      · exact LS.bind (hv elt env1 w).noexc fun x w => LS.bind (compL_ls elt tg ifs ds env w) fun _ _ => LS.const
      · exact compL_ls elt tg ifs ds env w
theorem comp2L_ls (elt : E) (tg : Tgt) (ifs : List E) (tg2 : Tgt) (it2 : It) (ifs2 : List E) : ∀ (ds : List D) (env : Env) (w : W), LS (fun n => comp2L (vs n) elt tg ifs tg2 it2 ifs2 ds env w) (comp2L v elt tg ifs tg2 it2 ifs2 ds env w)
  | [], _, _ => LS.const
  | d :: ds, env, w => by
    unfold comp2L
    cases bindT tg d env with
    | none => exact LS.stk
    | some env1 =>
      refine LS.bind (tests_ls hv ifs env1 w).noexc fun b w => ?_
      split
      · exact LS.bind (evIt_ls hv it2 env1 w).noexc fun js w => LS.bind (compL_ls hv elt tg2 ifs2 js _ w) fun _ w => LS.bind (comp2L_ls elt tg ifs tg2 it2 ifs2 ds env w) fun _ _ => LS.const
      · exact comp2L_ls elt tg ifs tg2 it2 ifs2 ds env w
theorem exc_ls {α : Type} {r : Nat → R D} {x : R D} (h : LS r x) (f : R D → R α) (hf : f .stk = .stk) : LS (fun n => f (r n)) (f x) := by
  cases x with
  | stk => rw [hf]; exact LS.stk
  | exc c w =>
    intro _
    obtain ⟨n0, h⟩ := h (by simp)
    exact ⟨n0, fun n hn => by show f (r n) = _; rw [h n hn]⟩
  | ok a w =>
    intro _
    obtain ⟨n0, h⟩ := h (by simp)
    exact ⟨n0, fun n hn => by show f (r n) = _; rw [h n hn]⟩
include hc
theorem expr_ls (e : E) (env : Env) (w : W) : LS (fun n => exprStep P (vs n) (CF n) e env w) (exprStep P v cf e env w) := by
  cases e with
  | var i => exact LS.const
  | con d => exact LS.const
  | gv x => exact LS.const
  | bin op a b => exact LS.bind (hv a env w) fun _ w => LS.bind (hv b env w) fun _ _ => LS.const
  | neg a => exact LS.bind (hv a env w) fun _ _ => LS.const
  | not a => exact LS.bind (hv a env w) fun _ _ => LS.const
  | and a b =>
    refine LS.bind (hv a env w) fun x w => ?_
    cases truth x with
    | none => exact LS.stk
    | some k => cases k with
      | true => exact hv b env w
      | false => exact LS.const
  | or a b =>
    refine LS.bind (hv a env w) fun x w => ?_
    cases truth x with
    | none => exact LS.stk
    | some k => cases k with
      | true => exact LS.const
      | false => exact hv b env w
  | cmp op a b => exact LS.bind (hv a env w) fun _ w => LS.bind (hv b env w) fun _ _ => LS.const
  | chn o p a b c =>
    refine LS.bind (hv a env w) fun x w => LS.bind (hv b env w) fun y w => ?_
    cases cmpD o x y with
    | none => exact LS.stk
    | some k => cases k with
      | true => exact LS.bind (hv c env w) fun _ _ => LS.const
      | false => exact LS.const
  | ite c a b =>
    refine LS.bind (hv c env w) fun x w => ?_
    cases truth x with
    | none => exact LS.stk
    | some k => cases k with
      | true => exact hv a env w
      | false => exact hv b env w
  | tup es => exact LS.bind (evs_ls hv es env w) fun _ _ => LS.const
  | lst es => exact LS.bind (evs_ls hv es env w) fun _ _ => LS.const
  | tupS es => exact LS.bind (evsS_ls hv es env w) fun _ _ => LS.const
  | lstS es => exact LS.bind (evsS_ls hv es env w) fun _ _ => LS.const
  | call f es => exact LS.bind (evs_ls hv es env w) fun ds w => hc f ds w
  | callv i es =>
    show LS (fun n => match rd env i with
      | some (.fn f) => if (P.fns.lookup f).isSome = true then (evs (vs n) es env w).bind fun ds w => CF n f ds w else .stk
      | _ => .stk) (match rd env i with
      | some (.fn f) => if (P.fns.lookup f).isSome = true then (evs v es env w).bind fun ds w => cf f ds w else .stk
      | _ => .stk)
    cases rd env i with
    | none => exact LS.stk
    | some d => cases d with
      | fn f =>
        cases hq : (P.fns.lookup f).isSome with
        | true =>
          simp only [hq, if_true]
          exact LS.bind (evs_ls hv es env w) fun ds w => hc f ds w
        | false =>
          simp only [hq, Bool.false_eq_true, if_false]
          exact LS.stk
      | _ => exact LS.stk
  | blt b es => exact LS.bind (evs_ls hv es env w) fun _ _ => LS.const
  | sub a b => exact LS.bind (hv a env w) fun _ w => LS.bind (hv b env w) fun _ _ => LS.const
  | slc a lo hi => exact LS.bind (hv a env w) fun _ w => LS.bind (evOpt_ls hv lo env w) fun _ w => LS.bind (evOpt_ls hv hi env w) fun _ _ => LS.const
  | rev a => exact LS.bind (hv a env w) fun _ _ => LS.const
  | comp elt tg it ifs us => exact LS.bind (evIt_ls hv it env w) fun ds w => LS.bind (compL_ls hv elt tg ifs ds _ w) fun _ _ => LS.const
  | comp2 elt tg it ifs tg2 it2 ifs2 us => exact LS.bind (evIt_ls hv it env w) fun ds w => LS.bind (comp2L_ls hv elt tg ifs tg2 it2 ifs2 ds _ w) fun _ _ => LS.const
  | told e => exact exc_ls hv (hv e env w) (fun r => match r with
    | .ok d w => .ok (.tup [.str "told", d]) w
    | .exc c w => R.opt (P.told.lookup c) w
    | .stk => .stk) rfl
  | fstr es => exact LS.bind (evF_ls hv es _ env w) fun _ _ => LS.const
  | index a b => exact LS.bind (hv a env w) fun _ w => LS.bind (hv b env w) fun _ _ => LS.const
  | count a b => exact LS.bind (hv a env w) fun _ w => LS.bind (hv b env w) fun _ _ => LS.const
  | rngL it => exact LS.bind (evIt_ls hv it env w) fun _ _ => LS.const
end
section
variable {P : Pr} {vs : Nat → Ev} {v : Ev}
variable (hv : ∀ e env w, LS (fun n => (vs n).e e env w) (v.e e env w)) (hb : ∀ b env w, LS (fun n => (vs n).b b env w) (v.b b env w))
include hb
theorem forL_ls (t : Tgt) (b : List S) : ∀ (ds : List D) (env : Env) (w : W), LS (fun n => forL (vs n) t b ds env w) (forL v t b ds env w)
  | [], _, _ => LS.const
  | d :: ds, env, w => by
    unfold forL
    cases bindT t d env with
    | none => exact LS.stk
    | some env1 =>
      refine LS.bind (hb b env1 w) fun p w => ?_
      obtain ⟨env2, c⟩ := p
      cases c with
      | nx => exact forL_ls t b ds env2 w
      | bk => exact LS.const
      | rt d => exact LS.const
include hv
theorem stmt_ls (s : S) (env : Env) (w : W) : LS (fun n => stmtStep P (vs n) s env w) (stmtStep P v s env w) := by
  cases s with
  | asg i e => exact LS.bind (hv e env w) fun _ _ => LS.const
  | asgT ts e => exact LS.bind (hv e env w) fun _ _ => LS.const
  | par is es => exact LS.bind (evs_ls hv es env w) fun _ _ => LS.const
  | six i ix e =>
    refine LS.bind (hv e env w) fun d w => ?_
    generalize env[i]? = o
    cases o with
    | none => exact LS.stk
    | some s => cases s with
      | no => exact LS.stk
      | ow ds => exact LS.bind (hv ix env w) fun _ _ => LS.const
      | sh d => cases d <;> first | exact LS.stk | exact LS.bind (hv ix env w) fun _ _ => LS.const
  | app i e =>
    simp only [stmtStep]
    generalize env[i]? = o
    cases o with
    | none => exact LS.stk
    | some s => cases s with
      | no => exact LS.stk
      | ow ds => exact LS.bind (hv e env w) fun _ _ => LS.const
      | sh d => exact LS.stk
  | ext i e =>
    simp only [stmtStep]
    generalize env[i]? = o
    cases o with
    | none => exact LS.stk
    | some s => cases s with
      | no => exact LS.stk
      | ow ds => exact LS.bind (hv e env w) fun _ _ => LS.const
      | sh d => exact LS.stk
  | pop t i => exact LS.const
  | ex e => exact LS.bind (hv e env w) fun _ _ => LS.const
  | ife c a b =>
    refine LS.bind (hv c env w) fun d w => ?_
    cases truth d with
    | none => exact LS.stk
    | some k => cases k with
      | true => exact hb a env w
      | false => exact hb b env w
  | whl c b =>
    refine LS.bind (hv c env w) fun d w => ?_
    cases truth d with
    | none => exact LS.stk
    | some k => cases k with
      | true =>
        refine LS.bind (hb b env w) fun p w => ?_
        obtain ⟨env2, ct⟩ := p
        cases ct with
        | nx => exact hb _ env2 w
        | bk => exact LS.const
        | rt d => exact LS.const
      | false => exact LS.const
  | for_ t it b => exact LS.bind (evIt_ls hv it env w) fun ds w => forL_ls hb t b ds _ w
  | ret e => exact LS.bind (hv e env w) fun _ _ => LS.const
  | retN => exact LS.const
  | brk => exact LS.const
  | pass => exact LS.const
  | raise c => exact LS.const
  | mkst i e => exact LS.stk
  | tryE r e c h =>
    simp only [stmtStep]
    have q := hv e env w
    generalize v.e e env w = x at q
    cases x with
    | stk => exact LS.stk
    | ok d w' =>
      intro _
      obtain ⟨n0, q⟩ := q (by simp)
      exact ⟨n0, fun n hn => by simp only [q n hn]⟩
    | exc x w' =>
      obtain ⟨n0, q⟩ := q (by simp)
      cases hc : P.catches.contains (x, c) with
      | true =>
        simp only [hc, if_true]
        intro hne
        obtain ⟨m0, q'⟩ := hb h env w' hne
        exact ⟨max n0 m0, fun n hn => by simp only [q n (by omega), hc, if_true]; exact q' n (by omega)⟩
      | false =>
        simp only [hc, Bool.false_eq_true, if_false]
        intro _
        exact ⟨n0, fun n hn => by simp only [q n hn, hc, Bool.false_eq_true, if_false]⟩
end
/-! ### the evaluator over calls and whiles already known -/
section
variable (P : Pr) (cf : Str → List D → W → R D) (wf : E → List S → Env → W → R (Env × Ctl))
def stmtK (v : Ev) : S → Env → W → R (Env × Ctl)
  | .whl c b, env, w => wf c b env w
  | s, env, w => stmtStep P v s env w
def blockK (v : Ev) : List S → Env → W → R (Env × Ctl)
  | [], env, w => .ok (env, .nx) w
  | s :: ss, env, w => (stmtK P wf v s env w).bind fun p w => match p with
    | (env, .nx) => blockK v ss env w
    | (env, c) => .ok (env, c) w
def evK : Nat → Ev
  | 0 => bot
  | k + 1 => ⟨fun e env w => exprStep P (evK k) cf e env w, fun b env w => blockK P wf (evK k) b env w⟩
end
/-- a while's result -/
def whlV (v : Ev) (ec : E) (b : List S) : Env → W → R (Env × Ctl) := fun env w => (v.e ec env w).bind fun d w => match truth d with
    | some true => (v.b b env w).bind fun p w => (match p with
      | (env, .nx) => v.b [.whl ec b] env w
      | (env, .bk) => .ok (env, .nx) w
      | (env, .rt d) => .ok (env, .rt d) w)
    | some false => .ok (env, .nx) w
    | none => .stk
/-- the calls' evaluator at depth d -/
def UN (pr : Pr) : Nat → Nat → Ev
  | 0, _ => bot
  | d + 1, n => evN pr n d
theorem evN_e' (pr : Pr) (n d : Nat) : (evN pr (n + 1) d).e = fun e env w => exprStep pr (evN pr n d) (callF pr (UN pr d n)) e env w := by
  cases d <;> rfl
theorem evN_b' (pr : Pr) (n d : Nat) : (evN pr (n + 1) d).b = fun b env w => blockStep pr (evN pr n d) b env w := by
  cases d <;> rfl
open Classical in
/-- what a call comes to, d deep -/
noncomputable def cfL (pr : Pr) (d : Nat) (f : Str) (ds : List D) (w : W) : R D := if h : ∃ r, Lim (fun n => callF pr (UN pr d n) f ds w) r then Classical.choose h else .stk
open Classical in
noncomputable def wfL (pr : Pr) (d : Nat) (c : E) (b : List S) (env : Env) (w : W) : R (Env × Ctl) := if h : ∃ r, Lim (fun n => whlV (evN pr n d) c b env w) r then Classical.choose h else .stk
section
variable {pr : Pr} {d : Nat}
theorem cfL_ls (f : Str) (ds : List D) (w : W) : LS (fun n => callF pr (UN pr d n) f ds w) (cfL pr d f ds w) := by
  intro h
  unfold cfL at h ⊢
  split
  · rename_i q
    exact Classical.choose_spec q
  · rename_i q
    rw [dif_neg q] at h
    exact absurd rfl h
theorem wfL_ls (c : E) (b : List S) (env : Env) (w : W) : LS (fun n => whlV (evN pr n d) c b env w) (wfL pr d c b env w) := by
  intro h
  unfold wfL at h ⊢
  split
  · rename_i q
    exact Classical.choose_spec q
  · rename_i q
    rw [dif_neg q] at h
    exact absurd rfl h
theorem cfL_eq {f : Str} {ds : List D} {w : W} {r : R D} (h : Lim (fun n => callF pr (UN pr d n) f ds w) r) : cfL pr d f ds w = r := by
  unfold cfL
  rw [dif_pos ⟨r, h⟩]
  exact (Classical.choose_spec (p := fun r => Lim (fun n => callF pr (UN pr d n) f ds w) r) ⟨r, h⟩).uniq h
theorem wfL_eq {c : E} {b : List S} {env : Env} {w : W} {r : R (Env × Ctl)} (h : Lim (fun n => whlV (evN pr n d) c b env w) r) : wfL pr d c b env w = r := by
  unfold wfL
  rw [dif_pos ⟨r, h⟩]
  exact (Classical.choose_spec (p := fun r => Lim (fun n => whlV (evN pr n d) c b env w) r) ⟨r, h⟩).uniq h
/-- the evaluator over the limits of depth d -/
noncomputable abbrev vL (pr : Pr) (d k : Nat) : Ev := evK pr (cfL pr d) (wfL pr d) k
theorem vL_ls : ∀ k, (∀ e env w, LS (fun n => (evN pr n d).e e env w) ((vL pr d k).e e env w)) ∧ ∀ b env w, LS (fun n => (evN pr n d).b b env w) ((vL pr d k).b b env w)
  | 0 => ⟨fun _ _ _ => LS.stk, fun _ _ _ => LS.stk⟩
  | k + 1 => by
    obtain ⟨hv, hb⟩ := vL_ls k
    refine ⟨fun e env w => LS.shift ?_, fun b env w => LS.shift ?_⟩
    · simp only [evN_e']
      exact expr_ls (CF := fun n => callF pr (UN pr d n)) hv (fun f ds w => cfL_ls f ds w) e env w
    · simp only [evN_b']
      show LS _ (blockK pr (wfL pr d) (vL pr d k) b env w)
      induction b generalizing env w with
      | nil => exact LS.const
      | cons s ss ih =>
        show LS (fun n => (stmtStep pr (evN pr n d) s env w).bind fun p w => match p with
          | (env, .nx) => blockStep pr (evN pr n d) ss env w
          | (env, c) => .ok (env, c) w) ((stmtK pr (wfL pr d) (vL pr d k) s env w).bind _)
        refine LS.bind ?_ fun p w => ?_
        · by_cases hs : ∃ c b, s = .whl c b
          · obtain ⟨c, b, rfl⟩ := hs
            exact wfL_ls c b env w
          · have e : stmtK pr (wfL pr d) (vL pr d k) s env w = stmtStep pr (vL pr d k) s env w := by
              cases s <;> first | rfl | exact absurd ⟨_, _, rfl⟩ hs
            rw [e]
            exact stmt_ls hv hb s env w
        · obtain ⟨env', c⟩ := p
          cases c with
          | nx => exact ih env' w
          | bk => exact LS.const
          | rt dd => exact LS.const
theorem callF_ls {vs : Nat → Ev} {v : Ev} (hb : ∀ b env w, LS (fun n => (vs n).b b env w) (v.b b env w)) (f : Str) (ds : List D) (w : W) : LS (fun n => callF pr (vs n) f ds w) (callF pr v f ds w) := by
  unfold callF
  cases pr.fns.lookup f with
  | none => exact LS.stk
  | some x =>
    obtain ⟨np, ns, body⟩ := x
    dsimp only
    split
    · have q := hb body (ds.map Slot.sh ++ List.replicate (ns - np) Slot.no) w
      generalize v.b body (ds.map Slot.sh ++ List.replicate (ns - np) Slot.no) w = x at q
      cases x with
      | stk => exact LS.stk
      | exc c w' =>
        intro _
        obtain ⟨n0, q⟩ := q (by simp)
        exact ⟨n0, fun n hn => by have z := q n hn; dsimp only at z ⊢; rw [z]⟩
      | ok p w' =>
        intro _
        obtain ⟨n0, q⟩ := q (by simp)
        exact ⟨n0, fun n hn => by have z := q n hn; dsimp only at z ⊢; rw [z]⟩
    · exact LS.stk
/-- a call, by its body over the limits one less deep -/
theorem cfL_step (k : Nat) {f : Str} {ds : List D} {w : W} {r : R D} (h : callF pr (vL pr d k) f ds w = r) (hr : r ≠ .stk) : cfL pr (d + 1) f ds w = r := by
  subst h
  exact cfL_eq (callF_ls (vL_ls k).2 f ds w hr)
/-- a while, one turn -/
theorem wfL_step (k : Nat) {c : E} {b : List S} {env : Env} {w : W} {r : R (Env × Ctl)} (h : whlV (vL pr d k) c b env w = r) (hr : r ≠ .stk) : wfL pr d c b env w = r := by
  subst h
  refine wfL_eq ?_
  have q : LS (fun n => stmtStep pr (evN pr n d) (.whl c b) env w) (stmtStep pr (vL pr d k) (.whl c b) env w) := stmt_ls (vL_ls k).1 (vL_ls k).2 (.whl c b) env w
  exact q hr
/-- the law, by the limits -/
theorem lawN_step (k : Nat) {ns i : Nat} {e : E} {rest : List S} {script : List Int} {xs : List D} {is : List Int} {env' : Env} {w' : W} (h1 : (vL pr d k).e e (.sh (.frz (script.map .int)) :: List.replicate (ns - 1) .no) none = .ok (.lst xs) none) (h2 : ints? xs = some is)
    (h3 : (vL pr d k).b rest ((.sh (.frz (script.map .int)) :: List.replicate (ns - 1) .no : Env).set i (.sh .st)) (some (is, 0)) = .ok (env', .rt (.bl true)) w') : ∃ n, lawN pr n d ns i e rest script = .ok (env', .rt (.bl true)) w' := by
  obtain ⟨n0, q1⟩ := (vL_ls (pr := pr) (d := d) k).1 e _ _ (by rw [h1]; simp)
  obtain ⟨m0, q2⟩ := (vL_ls (pr := pr) (d := d) k).2 rest _ _ (by rw [h3]; simp)
  refine ⟨max n0 m0, ?_⟩
  unfold lawN
  have z1 := q1 (max n0 m0) (by omega)
  have z2 := q2 (max n0 m0) (by omega)
  dsimp only at z1 z2
  rw [z1, h1]
  dsimp only
  rw [h2]
  dsimp only
  rw [z2, h3]
end
end PD
end
section
set_option Elab.async false
set_option linter.all false
set_option maxRecDepth 100000
set_option maxHeartbeats 4000000
/-! PE2: the evaluator's rows, one a form. -/
namespace PD
open PySem
section
variable {P : Pr} {cf : Str → List D → W → R D} {wf : E → List S → Env → W → R (Env × Ctl)} {k : Nat} {env : Env} {w : W}
/-- marks an argument that a rewriting leaves alone -/
class Tg {γ : Type} (f : γ) where
instance {γ : Type} (f : γ) : Tg f := ⟨⟩
/-- first r, then f; f waits -/
@[reducible] def R.bnd {α β : Type} (r : R α) (f : α → W → R β) [Tg f] (_ : True := trivial) : R β := r.bind f
theorem r_ok {α β : Type} {a : α} {f : α → W → R β} : (R.ok a w).bnd f = f a w := rfl
theorem r_exc {α β : Type} {c : Str} {f : α → W → R β} : (R.exc c w : R α).bnd f = .exc c w := rfl
theorem r_okb {α β : Type} {a : α} {f : α → W → R β} : (R.ok a w).bind f = f a w := rfl
theorem r_some {α : Type} {a : α} : R.opt (some a) w = .ok a w := rfl
theorem r_nok {α : Type} {a : α} : (R.ok a w).noexc = .ok a w := rfl
theorem v_var {i : Nat} : (evK P cf wf (k + 1)).e (.var i) env w = R.opt (rd env i) w := rfl
theorem v_con {d : D} : (evK P cf wf (k + 1)).e (.con d) env w = .ok d w := rfl
theorem v_gv {x : Str} : (evK P cf wf (k + 1)).e (.gv x) env w = R.opt (P.gl.lookup x) w := rfl
theorem v_bin {op : Bop} {a b : E} : (evK P cf wf (k + 1)).e (.bin op a b) env w = ((evK P cf wf k).e a env w).bnd fun x w => ((evK P cf wf k).e b env w).bnd fun y w => R.opt (binD op x y) w := rfl
theorem v_neg {a : E} : (evK P cf wf (k + 1)).e (.neg a) env w = ((evK P cf wf k).e a env w).bnd fun x w => R.opt (negD x) w := rfl
theorem v_not {a : E} : (evK P cf wf (k + 1)).e (.not a) env w = ((evK P cf wf k).e a env w).bnd fun x w => R.opt ((truth x).map fun b => .bl (!b)) w := rfl
/-- a branch by a truth -/
def brT {α : Type} (t : Option Bool) (a b : R α) [Tg a] [Tg b] (_ : True := trivial) : R α := match t with
  | some true => a
  | some false => b
  | none => .stk
theorem br_t {α : Type} {a b : R α} : brT (some true) a b = a := rfl
theorem br_f {α : Type} {a b : R α} : brT (some false) a b = b := rfl
theorem br_b {α : Type} {c : Bool} {a b : R α} : brT (some c) a b = if c = true then a else b := by cases c <;> rfl
theorem v_and {a b : E} : (evK P cf wf (k + 1)).e (.and a b) env w = ((evK P cf wf k).e a env w).bnd fun x w => brT (truth x) ((evK P cf wf k).e b env w) (.ok x w) := rfl
theorem v_or {a b : E} : (evK P cf wf (k + 1)).e (.or a b) env w = ((evK P cf wf k).e a env w).bnd fun x w => brT (truth x) (.ok x w) ((evK P cf wf k).e b env w) := rfl
theorem v_cmp {op : Cop} {a b : E} : (evK P cf wf (k + 1)).e (.cmp op a b) env w = ((evK P cf wf k).e a env w).bnd fun x w => ((evK P cf wf k).e b env w).bnd fun y w => R.opt ((cmpD op x y).map .bl) w := rfl
theorem v_chn {o p : Cop} {a b c : E} : (evK P cf wf (k + 1)).e (.chn o p a b c) env w = ((evK P cf wf k).e a env w).bnd fun x w => ((evK P cf wf k).e b env w).bnd fun y w => brT (cmpD o x y) (((evK P cf wf k).e c env w).bnd fun z w => R.opt ((cmpD p y z).map .bl) w) (.ok (.bl false) w) := by
  show R.bind _ _ = R.bind _ _
  congr 1
theorem v_ite {c a b : E} : (evK P cf wf (k + 1)).e (.ite c a b) env w = ((evK P cf wf k).e c env w).bnd fun x w => brT (truth x) ((evK P cf wf k).e a env w) ((evK P cf wf k).e b env w) := rfl
theorem v_tup {es : List E} : (evK P cf wf (k + 1)).e (.tup es) env w = (evs (evK P cf wf k) es env w).bnd fun ds w => if szOk ds.length = true then .ok (.tup ds) w else .stk := rfl
theorem v_lst {es : List E} : (evK P cf wf (k + 1)).e (.lst es) env w = (evs (evK P cf wf k) es env w).bnd fun ds w => if szOk ds.length = true then .ok (.lst ds) w else .stk := rfl
theorem v_call {f : Str} {es : List E} : (evK P cf wf (k + 1)).e (.call f es) env w = (evs (evK P cf wf k) es env w).bnd fun ds w => cf f ds w := rfl
theorem v_blt {b : Blt} {es : List E} : (evK P cf wf (k + 1)).e (.blt b es) env w = (evs (evK P cf wf k) es env w).bnd fun ds w => R.opt (bltD b ds) w := rfl
theorem v_sub {a b : E} : (evK P cf wf (k + 1)).e (.sub a b) env w = ((evK P cf wf k).e a env w).bnd fun x w => ((evK P cf wf k).e b env w).bnd fun y w => subW x y w := rfl
theorem v_slc {a : E} {lo hi : Option E} : (evK P cf wf (k + 1)).e (.slc a lo hi) env w = ((evK P cf wf k).e a env w).bnd fun x w => (evOpt (evK P cf wf k) lo env w).bnd fun l w => (evOpt (evK P cf wf k) hi env w).bnd fun h w => R.opt (slcD x l h) w := rfl
theorem v_rev {a : E} : (evK P cf wf (k + 1)).e (.rev a) env w = ((evK P cf wf k).e a env w).bnd fun x w => R.opt (revD x) w := rfl
theorem v_comp {elt : E} {tg : Tgt} {it : It} {ifs : List E} {vs : List Nat} : (evK P cf wf (k + 1)).e (.comp elt tg it ifs vs) env w = (evIt (evK P cf wf k) it env w).bnd fun ds w => (compL (evK P cf wf k) elt tg ifs ds (drops (alI it) (wipes vs env)) w).bnd fun xs w => if szOk xs.length = true then .ok (.lst xs) w else .stk := rfl
theorem v_fstr {es : List E} : (evK P cf wf (k + 1)).e (.fstr es) env w = (evF (evK P cf wf k) es Str.empty env w).bnd fun s w => .ok (.str s) w := rfl
theorem b_nil : (evK P cf wf (k + 1)).b [] env w = .ok (env, .nx) w := rfl
/-- behind a statement -/
def nxt (f : Env → W → R (Env × Ctl)) (p : Env × Ctl) (w : W) [Tg f] (_ : True := trivial) : R (Env × Ctl) := match p with
  | (env, .nx) => f env w
  | (env, c) => .ok (env, c) w
theorem n_nx {f : Env → W → R (Env × Ctl)} : nxt f (env, .nx) w = f env w := rfl
theorem n_bk {f : Env → W → R (Env × Ctl)} : nxt f (env, .bk) w = .ok (env, .bk) w := rfl
theorem n_rt {f : Env → W → R (Env × Ctl)} {d : D} : nxt f (env, .rt d) w = .ok (env, .rt d) w := rfl
theorem b_cons {s : S} {ss : List S} : (evK P cf wf (k + 1)).b (s :: ss) env w = (stmtK P wf (evK P cf wf k) s env w).bnd fun p w => nxt (fun env w => (evK P cf wf (k + 1)).b ss env w) p w := rfl
variable {v : Ev}
theorem s_asg' {i : Nat} {e : E} : stmtK P wf v (.asg i e) env w = (v.e e env w).bnd fun d w => .ok (putE i e d env, .nx) w := rfl
theorem s_asgT' {ts : List Tgt} {e : E} : stmtK P wf v (.asgT ts e) env w = (v.e e env w).bnd fun d w => match d with
    | .tup ds => (match bindTs ts ds (dropD (al e) d env) with
      | some env => .ok (env, .nx) w
      | none => .stk)
    | _ => .stk := rfl
theorem s_par' {is : List Nat} {es : List E} : stmtK P wf v (.par is es) env w = (evs v es env w).bnd fun ds w => match parP es is es ds (dropD (als es) (.tup ds) env) with
    | some env => .ok (env, .nx) w
    | none => .stk := rfl
/-- several names at once -/
def parK (es : List E) (is : List Nat) (env : Env) (ds : List D) (w : W) : R (Env × Ctl) := match parP es is es ds (dropD (als es) (.tup ds) env) with
    | some env => .ok (env, .nx) w
    | none => .stk
theorem s_parK {is : List Nat} {es : List E} : stmtK P wf v (.par is es) env w = (evs v es env w).bnd fun ds w => parK es is env ds w := rfl
theorem s_ex {e : E} : stmtK P wf v (.ex e) env w = (v.e e env w).bnd fun _ w => .ok (env, .nx) w := rfl
theorem s_ife {c : E} {a b : List S} : stmtK P wf v (.ife c a b) env w = (v.e c env w).bnd fun d w => brT (truth d) (v.b a env w) (v.b b env w) := rfl
theorem s_whl {c : E} {b : List S} : stmtK P wf v (.whl c b) env w = wf c b env w := rfl
theorem s_for {t : Tgt} {it : It} {b : List S} : stmtK P wf v (.for_ t it b) env w = (evIt v it env w).bnd fun ds w => forL v t b ds (drops (alW it) env) w := rfl
theorem s_ret {e : E} : stmtK P wf v (.ret e) env w = (v.e e env w).bnd fun d w => .ok (env, .rt d) w := rfl
theorem s_retN : stmtK P wf v .retN env w = .ok (env, .rt .non) w := rfl
theorem s_brk : stmtK P wf v .brk env w = .ok (env, .bk) w := rfl
theorem s_pass : stmtK P wf v .pass env w = .ok (env, .nx) w := rfl
theorem s_raise {c : Str} : stmtK P wf v (.raise c) env w = .exc c w := rfl
theorem s_app {i : Nat} {e : E} {ds : List D} (h : env[i]? = some (.ow ds)) : stmtK P wf v (.app i e) env w = (v.e e env w).bnd fun d w => if ((al e).contains i || !decide (ds.length < 16777216)) = true then .stk else .ok ((dropD (al e) d env).set i (.ow (ds ++ [d])), .nx) w := by
  show stmtStep P v (.app i e) env w = _
  simp only [stmtStep, h]
theorem s_sixW {i : Nat} {ix e : E} (h : env[i]? = some (.sh .st)) : stmtK P wf v (.six i ix e) env w = (v.e e env w).bnd fun d w => (v.e ix env w).bnd fun k w => (match k, d, w with
      | .int k, .int c, some (ns, _) => if k = 1 then .ok (env, .nx) (some (ns, c)) else .stk
      | _, _, _ => .stk) := by
  show stmtStep P v (.six i ix e) env w = _
  simp only [stmtStep, h]
  all_goals rfl
theorem es_nil : evs v [] env w = .ok [] w := rfl
theorem es_cons {e : E} {es : List E} : evs v (e :: es) env w = (v.e e env w).bnd fun d w => (evs v es env w).bnd fun ds w => .ok (d :: ds) w := rfl
theorem rd_0 {d : D} : rd (.sh d :: env) 0 = some d := rfl
theorem rd_o {ds : List D} : rd (.ow ds :: env) 0 = some (.lst ds) := rfl
theorem rd_s {s : Slot} {i : Nat} : rd (s :: env) (i + 1) = rd env i := rfl
theorem ow_0 {d : D} : isOw (.sh d :: env) 0 = false := rfl
theorem ow_n : isOw (.no :: env) 0 = false := rfl
theorem ow_o {ds : List D} : isOw (.ow ds :: env) 0 = true := rfl
theorem ow_s {s : Slot} {i : Nat} : isOw (s :: env) (i + 1) = isOw env i := rfl
theorem put_s {i : Nat} {e : E} {d : D} (h : fr e = false) : putE i e d env = (dropD (al e) d env).set i (.sh d) := by
  unfold putE
  rw [h]
theorem put_o {i : Nat} {e : E} {ds : List D} (h : fr e = true) : putE i e (.lst ds) env = (dropD (al e) (.lst ds) env).set i (.ow ds) := by
  unfold putE
  rw [h]
theorem put_int {i : Nat} {e : E} {n : Int} : putE i e (.int n) env = env.set i (.sh (.int n)) := by
  unfold putE
  cases fr e <;> (show (dropD _ _ _).set _ _ = _; unfold dropD; simp [D.flat])
theorem put_bl {i : Nat} {e : E} {n : Bool} : putE i e (.bl n) env = env.set i (.sh (.bl n)) := by
  unfold putE
  cases fr e <;> (show (dropD _ _ _).set _ _ = _; unfold dropD; simp [D.flat])
theorem put_str {i : Nat} {e : E} {n : Str} : putE i e (.str n) env = env.set i (.sh (.str n)) := by
  unfold putE
  cases fr e <;> (show (dropD _ _ _).set _ _ = _; unfold dropD; simp [D.flat])
theorem put_tup {i : Nat} {e : E} {ds : List D} (h : D.flats ds = true) : putE i e (.tup ds) env = env.set i (.sh (.tup ds)) := by
  have h2 : (D.tup ds).flat = true := h
  unfold putE
  cases fr e <;> (show (dropD _ _ _).set _ _ = _; unfold dropD; rw [h2]; simp)
theorem fl_n : D.flats [] = true := rfl
theorem fl_i {n : Int} {ds : List D} : D.flats (.int n :: ds) = D.flats ds := by simp [D.flats, D.flat]
theorem fl_t {es ds : List D} : D.flats (.tup es :: ds) = (D.flats es && D.flats ds) := by simp [D.flats, D.flat]
theorem drop_n {d : D} : dropD [] d env = env := rfl
theorem drop_f {l : List Nat} {d : D} (h : l.any (isOw env) = false) : dropD l d env = env := by
  unfold dropD
  rw [h]
  rfl
theorem drop_i {l : List Nat} {d : D} (h : d.flat = true) : dropD l d env = env := by
  unfold dropD
  rw [h]
  simp
theorem drops_n : drops [] env = env := rfl
theorem drops_0 {l : List Nat} {d : D} : drops (0 :: l) (.sh d :: env) = drops l (.sh d :: env) := rfl
theorem x_add {i j : Int} : binD .add (.int i) (.int j) = some (.int (i + j)) := rfl
theorem x_sub {i j : Int} : binD .sub (.int i) (.int j) = some (.int (i - j)) := rfl
theorem x_mul {i j : Int} (h : mulOk i j = true) : binD .mul (.int i) (.int j) = some (.int (i * j)) := by
  show guardO _ _ = _
  rw [h]; rfl
theorem x_fdiv {i j : Int} (h : divOk j = true) : binD .fdiv (.int i) (.int j) = some (.int (fdivI i j)) := by
  show guardO _ _ = _
  rw [h]; rfl
theorem x_mod {i j : Int} (h : j ≠ 0) : binD .mod (.int i) (.int j) = some (.int (fmodI i j)) := by
  show guardO _ _ = _
  rw [decide_eq_true h]; rfl
theorem x_neg {i : Int} : negD (.int i) = some (.int (-i)) := rfl
theorem c_eq {i j : Int} : cmpD .eq (.int i) (.int j) = some (decide (i = j)) := rfl
theorem c_ne {i j : Int} : cmpD .ne (.int i) (.int j) = some (!decide (i = j)) := rfl
theorem c_lt {i j : Int} : cmpD .lt (.int i) (.int j) = some (decide (i < j)) := rfl
theorem c_gt {i j : Int} : cmpD .gt (.int i) (.int j) = some (decide (j < i)) := rfl
theorem c_le {i j : Int} : cmpD .le (.int i) (.int j) = some (decide (i ≤ j)) := rfl
theorem c_ge {i j : Int} : cmpD .ge (.int i) (.int j) = some (decide (j ≤ i)) := rfl
theorem t_bl {b : Bool} : truth (.bl b) = some b := rfl
theorem t_int {i : Int} : truth (.int i) = some (i != 0) := rfl
theorem l_abs {i : Int} : bltD .abs [.int i] = some (.int (if i < 0 then -i else i)) := rfl
theorem l_int {i : Int} : bltD .int [.int i] = some (.int i) := rfl
theorem l_bl {b : Bool} : bltD .int [.bl b] = some (.int (if b = true then 1 else 0)) := rfl
theorem l_max {i j : Int} : bltD .max [.int i, .int j] = some (.int (if j > i then j else i)) := rfl
theorem l_str {i : Int} (h : i.natAbs.log2 < 1920) : bltD .str [.int i] = some (.str (toString i)) := by
  show guardO _ _ = _
  rw [decide_eq_true h]; rfl
theorem l_lenL {ds : List D} (h : szOk ds.length = true) : bltD .len [.lst ds] = some (.int ds.length) := by
  show guardO _ _ = _
  rw [h]; rfl
theorem l_lenT {ds : List D} (h : szOk ds.length = true) : bltD .len [.tup ds] = some (.int ds.length) := by
  show guardO _ _ = _
  rw [h]; rfl
theorem u_t {ds : List D} {i : Int} : subW (.tup ds) (.int i) w = R.opt (subD (.tup ds) (.int i)) w := rfl
theorem u_l {ds : List D} {i : Int} : subW (.lst ds) (.int i) w = R.opt (subD (.lst ds) (.int i)) w := rfl
theorem u_t0 {d : D} {ds : List D} : subD (.tup (d :: ds)) (.int 0) = some d := by
  show (seqIx (ds.length + 1) 0).bind _ = _
  unfold seqIx
  rw [if_pos ⟨Int.le_refl _, by omega⟩]
  rfl
theorem u_t1 {d e : D} {ds : List D} : subD (.tup (d :: e :: ds)) (.int 1) = some e := by
  show (seqIx (ds.length + 1 + 1) 1).bind _ = _
  unfold seqIx
  rw [if_pos ⟨by omega, by omega⟩]
  rfl
theorem u_l0 {d : D} {ds : List D} : subD (.lst (d :: ds)) (.int 0) = some d := by
  show (seqIx (ds.length + 1) 0).bind _ = _
  unfold seqIx
  rw [if_pos ⟨Int.le_refl _, by omega⟩]
  rfl
theorem u_l1 {d e : D} {ds : List D} : subD (.lst (d :: e :: ds)) (.int 1) = some e := by
  show (seqIx (ds.length + 1 + 1) 1).bind _ = _
  unfold seqIx
  rw [if_pos ⟨by omega, by omega⟩]
  rfl
theorem u_st0 {ns : List Int} {c : Int} : subW .st (.int 0) (some (ns, c)) = .ok (.lst (ns.map .int)) (some (ns, c)) := rfl
theorem u_st1 {ns : List Int} {c : Int} : subW .st (.int 1) (some (ns, c)) = .ok (.int c) (some (ns, c)) := rfl
/-- a bound of a slice -/
def intO (d : D) (w : W) : R (Option Int) := match d with
  | .int i => .ok (some i) w
  | _ => .stk
theorem o_none : evOpt v none env w = .ok none w := rfl
theorem o_some {e : E} : evOpt v (some e) env w = (v.e e env w).bnd intO := rfl
theorem o_i {i : Int} : intO (.int i) w = .ok (some i) w := rfl
theorem i_l {ds : List D} : items? (.lst ds) = some ds := rfl
theorem i_t {ds : List D} : items? (.tup ds) = some ds := rfl
theorem it_e {a : E} : evIt v (.e a) env w = (v.e a env w).bnd fun d w => R.opt (items? d) w := rfl
theorem it_r1 {a : E} : evIt v (.r1 a) env w = (v.e a env w).bnd fun x w => match x with
    | .int n => R.opt (rngD 0 n) w
    | _ => .stk := rfl
theorem it_zip {a b : E} : evIt v (.zip a b) env w = (v.e a env w).bnd fun x w => (v.e b env w).bnd fun y w => match x, y with
    | .lst xs, .lst ys => .ok (zipD xs ys) w
    | .tup xs, .tup ys => .ok (zipD xs ys) w
    | _, _ => .stk := rfl
theorem g_some {α : Type} {a : α} : guardO true a = some a := rfl
theorem callF_of {x : Str} {np ns : Nat} {b : List S} {ds : List D} {env' : Env} {r : D} {w' : W} (h : P.fns.lookup x = some (.user np ns b)) (hl : ds.length = np) (hb : v.b b (ds.map .sh ++ List.replicate (ns - np) .no) w = .ok (env', .rt r) w') : callF P v x ds w = .ok r w' := by
  unfold callF
  rw [h]
  dsimp only
  rw [if_pos hl, hb]
theorem callF_exc {x c : Str} {np ns : Nat} {b : List S} {ds : List D} {w' : W} (h : P.fns.lookup x = some (.user np ns b)) (hl : ds.length = np) (hb : v.b b (ds.map .sh ++ List.replicate (ns - np) .no) w = .exc c w') : callF P v x ds w = .exc c w' := by
  unfold callF
  rw [h]
  dsimp only
  rw [if_pos hl, hb]
end
theorem par_ii {env : Env} {w : W} {i j : Nat} {e1 e2 : E} {a b : Int} : parK [e1, e2] [i, j] env [.int a, .int b] w = .ok ((env.set i (.sh (.int a))).set j (.sh (.int b)), .nx) w := by
  unfold parK
  rw [drop_i (by simp [D.flat, D.flats])]
  unfold parP parP parP
  cases fr e1 <;> cases fr e2 <;> rfl
/-- what a def's body gives -/
def retOf : R (Env × Ctl) → R D
  | .ok (_, .rt d) w => .ok d w
  | .ok (_, .nx) w => .ok .non w
  | .ok (_, .bk) _ => .stk
  | .exc c w => .exc c w
  | .stk => .stk
theorem ret_rt {env : Env} {d : D} {w : W} : retOf (.ok (env, .rt d) w) = .ok d w := rfl
theorem ret_exc {c : Str} {w : W} : retOf (.exc c w) = .exc c w := rfl
/-- a call's value, from its body -/
theorem cf_of {pr : Pr} {d : Nat} (k : Nat) {x : Str} {np ns : Nat} {b : List S} {ds : List D} {w : W} {r : R D} (h : pr.fns.lookup x = some (.user np ns b)) (hl : ds.length = np) (hb : retOf ((vL pr d k).b b (ds.map .sh ++ List.replicate (ns - np) .no) w) = r) (hr : r ≠ .stk) : cfL pr (d + 1) x ds w = r := by
  refine cfL_step k ?_ hr
  unfold callF
  rw [h]
  dsimp only
  rw [if_pos hl]
  subst hb
  cases (vL pr d k).b b (ds.map .sh ++ List.replicate (ns - np) .no) w with
  | ok p w' => obtain ⟨env', c⟩ := p; cases c <;> rfl
  | exc c w' => rfl
  | stk => rfl
end PD
end
section
set_option Elab.async false
set_option linter.all false
set_option maxRecDepth 100000
set_option maxHeartbeats 4000000
/-! PE3: texts of data that fit. -/
namespace PD
open PySem
mutual
def okI : D → Bool
  | .non => true
  | .bl _ => true
  | .int i => decide (i.natAbs.log2 < 1920)
  | .str s => PyData.strOk s
  | .tup ds => okIs ds
  | .lst ds => okIs ds
  | _ => false
def okIs : List D → Bool
  | [] => true
  | d :: ds => okI d && okIs ds
end
mutual
def rz : D → Nat
  | .str s => 10 * s.length + 2
  | .tup ds => rzs ds + 3
  | .lst ds => rzs ds + 3
  | _ => 1921
def rzs : List D → Nat
  | [] => 0
  | d :: ds => rz d + 2 + rzs ds
end
mutual
def dpD : D → Nat
  | .tup ds => dpDs ds + 1
  | .lst ds => dpDs ds + 1
  | _ => 0
def dpDs : List D → Nat
  | [] => 0
  | d :: ds => max (dpD d) (dpDs ds)
end
theorem textFrom_le : ∀ (ts : List Str) (k : Nat) (acc : Str), (textFrom k acc ts).length ≤ acc.length + piled ts
  | [], k, acc => by simp [textFrom, piled]
  | t :: ts, k, acc => by
    have h := textFrom_le ts (k + 1) (acc ++ (if k > 0 then ", " else "" : String) ++ t)
    show (textFrom (k + 1) _ ts).length ≤ _
    rw [piled_cons]
    have e : (acc ++ (if k > 0 then ", " else "" : String) ++ t).length ≤ acc.length + 2 + t.length := by
      rw [strLen_append, strLen_append]
      split <;> (have : ∀ n : Nat, True := fun _ => trivial) <;> first | (show acc.length + 2 + t.length ≤ _; omega) | (show acc.length + 0 + t.length ≤ _; omega)
    omega
theorem listText_le (ts : List Str) : (listText ts).length ≤ piled ts + 3 := by
  unfold listText
  rw [strLen_append]
  have h := textFrom_le ts 0 "["
  have e : (Str.ofString "[").length = 1 := rfl
  have e2 : (Str.ofString "]").length = 1 := rfl
  omega
theorem tupleText_le (ts : List Str) : (tupleText ts).length ≤ piled ts + 3 := by
  unfold tupleText
  rw [strLen_append, strLen_append]
  have e : (Str.ofString "(").length = 1 := rfl
  have e1 : (Str.join (Str.ofString ", ") ts).length ≤ piled ts := by
    cases ts with
    | nil => exact Nat.le_refl _
    | cons t r =>
      have := join_length_add (t :: r) (by simp)
      omega
  have e2 : (Str.ofString (if ts.length == 1 then ",)" else ")")).length ≤ 2 := by
    split
    · exact Nat.le_refl _
    · exact Nat.le_succ _
  omega
mutual
theorem rep_fit : ∀ d : D, okI d = true → ∃ x, D.py d = some x ∧ x.canLay0 = true ∧ x.depth = dpD d ∧ x.showable = true ∧ x.shown.length ≤ rz d
  | .non, _ => ⟨.none, rfl, rfl, rfl, rfl, by decide⟩
  | .bl b, _ => ⟨.bool b, rfl, rfl, rfl, rfl, by cases b <;> decide⟩
  | .int i, h => by
    have h := of_decide_eq_true (show decide (i.natAbs.log2 < 1920) = true from h)
    refine ⟨.int i, rfl, rfl, rfl, decide_eq_true h, ?_⟩
    have e := int_text_length_le (k := 1920) (by decide) h
    show (Str.ofString (toString i)).length ≤ 1921
    rw [ofString_length]
    exact e
  | .str s, h => by
    have h : PyData.strOk s = true := h
    refine ⟨.str s, rfl, h, rfl, rfl, ?_⟩
    refine StrLaws.reprText_len s fun c hc => ?_
    unfold PyData.strOk at h
    rw [Array.all_eq_true_iff_forall_mem] at h
    have q := h c (by simpa using hc)
    have q := of_decide_eq_true q
    omega
  | .tup ds, h => by
    obtain ⟨xs, h1, h2, h3, h4, h5⟩ := reps_fit ds h
    refine ⟨.tuple xs, by simp only [D.py, h1, Option.map_some], h2, by show PyData.depthAll xs + 1 = dpDs ds + 1; rw [h3], h4, ?_⟩
    exact Nat.le_trans (tupleText_le _) (by show _ ≤ rzs ds + 3; omega)
  | .lst ds, h => by
    obtain ⟨xs, h1, h2, h3, h4, h5⟩ := reps_fit ds h
    refine ⟨.list xs, by simp only [D.py, h1, Option.map_some], h2, by show PyData.depthAll xs + 1 = dpDs ds + 1; rw [h3], h4, ?_⟩
    exact Nat.le_trans (listText_le _) (by show _ ≤ rzs ds + 3; omega)
  | .fn _, h => by cases h
  | .st, h => by cases h
  | .frz _, h => by cases h
theorem reps_fit : ∀ ds : List D, okIs ds = true → ∃ xs, D.pys ds = some xs ∧ PyData.canLayAll0 xs = true ∧ PyData.depthAll xs = dpDs ds ∧ PyData.showableAll xs = true ∧ piled (PyData.shownAll xs) ≤ rzs ds
  | [], _ => ⟨[], rfl, rfl, rfl, rfl, Nat.le_refl _⟩
  | d :: ds, h => by
    have h := (Bool.and_eq_true_iff.mp (show (okI d && okIs ds) = true from h))
    obtain ⟨x, a1, a2, a3, a4, a5⟩ := rep_fit d h.1
    obtain ⟨xs, b1, b2, b3, b4, b5⟩ := reps_fit ds h.2
    refine ⟨x :: xs, by simp only [D.pys, a1, b1], ?_, ?_, ?_, ?_⟩
    · show (x.canLay0 && PyData.canLayAll0 xs) = true
      rw [a2, b2]; rfl
    · show max x.depth (PyData.depthAll xs) = max (dpD d) (dpDs ds)
      rw [a3, b3]
    · show (x.showable && PyData.showableAll xs) = true
      rw [a4, b4]; rfl
    · show piled (x.shown :: PyData.shownAll xs) ≤ rz d + 2 + rzs ds
      rw [piled_cons]
      omega
end
theorem repr_fit {d : D} (h : okI d = true) (hd : dpD d ≤ 64) (hz : rz d ≤ 16777216) : ∃ s, reprD d = some s := by
  obtain ⟨x, h1, h2, h3, h4, h5⟩ := rep_fit d h
  refine ⟨x.shown, ?_⟩
  unfold reprD
  rw [h1]
  dsimp only
  rw [if_pos]
  rw [Bool.and_eq_true, Bool.and_eq_true]
  refine ⟨?_, h4, decide_eq_true (Nat.le_trans h5 hz)⟩
  show (x.canLay0 && decide (x.depth ≤ 64)) = true
  rw [h2, h3, decide_eq_true hd]; rfl
end PD
end
section
set_option Elab.async false
set_option linter.all false
set_option maxRecDepth 100000
set_option maxHeartbeats 4000000
/-! PE4: what all laws' texts share: same, next. -/
namespace PD
open PySem
def bSame : List S := [.ret (.cmp .eq (.blt .repr [.lst [.var 0]]) (.blt .repr [.lst [.var 1]]))]
def bNext : List S := [
  .six 0 (.con (.int 1)) (.bin .add (.sub (.var 0) (.con (.int 1))) (.con (.int 1))),
  .asg 2 (.bin .fdiv (.sub (.var 0) (.con (.int 1))) (.blt .len [(.sub (.var 0) (.con (.int 0)))])),
  .ret (.bin .mod (.blt .int [(.bin .add (.bin .add (.sub (.sub (.var 0) (.con (.int 0))) (.bin .mod (.sub (.var 0) (.con (.int 1))) (.blt .len [(.sub (.var 0) (.con (.int 0)))]))) (.bin .mul (.var 2) (.con (.int 389)))) (.bin .mul (.bin .mul (.sub (.var 0) (.con (.int 1))) (.var 2)) (.con (.int 17))))]) (.var 1))]
/-- the def x is among them -/
abbrev Has (pr : Pr) (x : Str) (np ns : Nat) (b : List S) : Prop := pr.fns.lookup x = some (FnD.user np ns b)
theorem sz1 : szOk 1 = true := by decide
theorem sz2 : szOk 2 = true := by decide
theorem sz3 : szOk 3 = true := by decide
theorem sz4 : szOk 4 = true := by decide
theorem sz5 : szOk 5 = true := by decide
theorem same_sp {pr : Pr} {d : Nat} {w : W} {t : D} {s : Str} (h : Has pr "_law_same" 2 2 bSame) (hs : reprD (.lst [t]) = some s) : cfL pr (d + 1) "_law_same" [t, t] w = .ok (.bl true) w := by
  have e : bltD .repr [.lst [t]] = some (.str s) := by
    show (reprD (.lst [t])).map D.str = _
    rw [hs]; rfl
  have e2 : cmpD .eq (.str s) (.str s) = some true := by
    show some (decide (s = s)) = _
    simp
  refine cf_of 30 h rfl ?_ (by simp)
  simp only [bSame, b_cons, b_nil, s_ife, s_asg', s_asgT', s_parK, par_ii, s_ex, s_whl, s_for, s_ret, s_retN, s_brk, s_pass, s_raise, v_var, v_con, v_bin, v_neg, v_not, v_and, v_or, v_cmp, v_chn, v_ite, v_tup, v_lst, v_call, v_blt, v_sub, v_slc, v_rev, v_comp, v_fstr, es_nil, es_cons, o_none, o_some, o_i, i_l, i_t, it_e, it_r1, it_zip, r_ok, r_exc, r_some, r_nok, br_b, br_t, br_f, n_nx, n_bk, n_rt, ret_rt, ret_exc, rd_0, rd_o, rd_s, put_int, put_bl, put_str, x_add, x_sub, x_neg, c_eq, c_ne, c_lt, c_gt, c_le, c_ge, t_bl, t_int, l_abs, l_int, l_bl, l_max, u_t, u_l, u_t0, u_t1, u_l0, u_l1, u_st0, u_st1, List.map_cons, List.map_nil, List.replicate, List.cons_append, List.nil_append, List.set_cons_zero, List.set_cons_succ, Option.map_some, List.length_cons, List.length_nil, decide_true, if_true, Bool.false_eq_true, if_false, Bool.not_true, Bool.not_false, Nat.reduceAdd, Nat.reduceSub, sz1, e, e2]
/-- the stream may be drawn from -/
def StrOk (ns : List Int) : Prop := ns ≠ [] ∧ ns.length ≤ 4000
def nxV (ns : List Int) (c many : Int) : Int := fmodI (ns.getD ((c + 1) % ns.length).toNat 0 + fdivI (c + 1) ns.length * 389 + (c + 1) * fdivI (c + 1) ns.length * 17) many
theorem fmod_lo {a b : Int} (h : 0 < b) : 0 ≤ fmodI a b := by
  unfold fmodI
  rw [if_pos h]
  exact Int.emod_nonneg _ (by omega)
theorem fmod_hi {a b : Int} (h : 0 < b) : fmodI a b < b := by
  unfold fmodI
  rw [if_pos h]
  exact Int.emod_lt_of_pos _ h
theorem nxV_lo {ns : List Int} {c many : Int} (h : 0 < many) : 0 ≤ nxV ns c many := fmod_lo h
theorem nxV_hi {ns : List Int} {c many : Int} (h : 0 < many) : nxV ns c many < many := fmod_hi h
theorem log2_le {n k : Nat} (h : n < 2 ^ k) : n.log2 ≤ k := by
  by_cases h0 : n = 0
  · subst h0; simp
  · have := (Nat.log2_lt h0).mpr h
    omega
theorem mul_ok {i j : Int} (k l : Nat) (hi : i.natAbs < 2 ^ k) (hj : j.natAbs < 2 ^ l) (h : k + l < 1000000 := by decide) : mulOk i j = true := by
  unfold mulOk
  have h1 := log2_le hi
  have h2 := log2_le hj
  exact decide_eq_true (by omega)
theorem div_ok {j : Int} (k : Nat) (h0 : j ≠ 0) (hj : j.natAbs < 2 ^ k) (h : k < 9000 := by decide) : divOk j = true := by
  unfold divOk
  rw [Bool.and_eq_true]
  have h1 := log2_le hj
  exact ⟨decide_eq_true h0, decide_eq_true (by omega)⟩
theorem next_sp {pr : Pr} {d : Nat} {ns : List Int} {c many : Int} (h : Has pr "_law_next" 2 3 bNext) (hs : StrOk ns) (hc : 0 ≤ c) (hc2 : c < 1000000000) (hm : 0 < many) :
    cfL pr (d + 1) "_law_next" [.st, .int many] (some (ns, c)) = .ok (.int (nxV ns c many)) (some (ns, c + 1)) := by
  obtain ⟨h1, h2⟩ := hs
  have hl : 0 < ns.length := List.length_pos_iff.mpr h1
  have hL : (0 : Int) < ns.length := by omega
  have szL : szOk ns.length = true := by
    unfold szOk
    exact decide_eq_true (by omega)
  have dv : divOk (ns.length : Int) = true := div_ok 12 (by omega) (by omega)
  have tq : 0 ≤ fdivI (c + 1) ns.length ∧ fdivI (c + 1) ns.length ≤ c + 1 := by
    unfold fdivI
    rw [if_pos hL]
    exact ⟨Int.ediv_nonneg (by omega) (by omega), Int.ediv_le_self _ (by omega)⟩
  have e389 : mulOk (fdivI (c + 1) ns.length) 389 = true := mul_ok 40 40 (by omega) (by decide)
  have emm : mulOk (c + 1) (fdivI (c + 1) ns.length) = true := mul_ok 40 40 (by omega) (by omega)
  have e17 : mulOk ((c + 1) * fdivI (c + 1) ns.length) 17 = true := by
    refine mul_ok 80 40 ?_ (by decide)
    rw [Int.natAbs_mul]
    have a1 : (c + 1).natAbs < 2 ^ 40 := by omega
    have a2 : (fdivI (c + 1) ns.length).natAbs < 2 ^ 40 := by omega
    calc (c + 1).natAbs * (fdivI (c + 1) ns.length).natAbs < 2 ^ 40 * 2 ^ 40 := Nat.mul_lt_mul'' a1 a2
      _ = 2 ^ 80 := by decide
  have emod : fmodI (c + 1) (ns.length : Int) = (c + 1) % ns.length := by
    unfold fmodI
    rw [if_pos hL]
  have m0 : 0 ≤ (c + 1) % (ns.length : Int) := Int.emod_nonneg _ (by omega)
  have m1 : (c + 1) % (ns.length : Int) < ns.length := Int.emod_lt_of_pos _ hL
  have six : ∀ w, subW (.lst (ns.map .int)) (.int ((c + 1) % ns.length)) w = .ok (.int (ns.getD ((c + 1) % ns.length).toNat 0)) w := by
    intro w
    show R.opt (subD (.lst (ns.map .int)) (.int ((c + 1) % ns.length))) w = _
    have q : subD (.lst (ns.map .int)) (.int ((c + 1) % ns.length)) = some (.int (ns.getD ((c + 1) % ns.length).toNat 0)) := by
      show (seqIx (ns.map D.int).length _).bind _ = _
      unfold seqIx
      rw [List.length_map, if_pos ⟨m0, m1⟩]
      have lt : ((c + 1) % (ns.length : Int)).toNat < ns.length := by omega
      simp [List.getD, lt]
    rw [q]
    rfl
  refine cf_of 30 h rfl ?_ (by simp)
  have s6 : ∀ (v : Ev) (wf : E → List S → Env → W → R (Env × Ctl)) (ix e : E), stmtK pr wf v (.six 0 ix e) [.sh .st, .sh (.int many), .no] (some (ns, c)) = _ := fun v wf ix e => s_sixW rfl
  simp only [bNext, b_cons, List.map_cons, List.map_nil, List.replicate, List.cons_append, List.nil_append, Nat.reduceSub]
  rw [s6]
  simp only [b_cons, b_nil, s_ife, s_asg', s_asgT', s_parK, par_ii, s_ex, s_whl, s_for, s_ret, s_retN, s_brk, s_pass, s_raise, v_var, v_con, v_bin, v_neg, v_not, v_and, v_or, v_cmp, v_chn, v_ite, v_tup, v_lst, v_call, v_blt, v_sub, v_slc, v_rev, v_comp, v_fstr, es_nil, es_cons, o_none, o_some, o_i, i_l, i_t, it_e, it_r1, it_zip, r_ok, r_exc, r_some, r_nok, br_b, br_t, br_f, n_nx, n_bk, n_rt, ret_rt, ret_exc, rd_0, rd_o, rd_s, put_int, put_bl, put_str, x_add, x_sub, x_neg, c_eq, c_ne, c_lt, c_gt, c_le, c_ge, t_bl, t_int, l_abs, l_int, l_bl, l_max, u_t, u_l, u_t0, u_t1, u_l0, u_l1, u_st0, u_st1, List.map_cons, List.map_nil, List.replicate, List.cons_append, List.nil_append, List.set_cons_zero, List.set_cons_succ, Option.map_some, List.length_cons, List.length_nil, decide_true, if_true, Bool.false_eq_true, if_false, Bool.not_true, Bool.not_false, Nat.reduceAdd, Nat.reduceSub, six, szL, l_lenL, List.length_map, dv, x_fdiv, e389, emm, e17, x_mul, x_mod (show (ns.length : Int) ≠ 0 by omega), x_mod (show many ≠ 0 by omega), emod]
  rfl
end PD
end
section
set_option Elab.async false
set_option linter.all false
set_option maxRecDepth 100000
set_option maxHeartbeats 4000000
/-! PE5: what all laws' texts share: the stream. -/
namespace PD
open PySem
def bS60 : List S := [
        .app 1 (.bin .mod (.blt .int [(.var 3)]) (.con (.int 1009))),
        .asg 3 (.bin .fdiv (.var 3) (.con (.int 1009))),
        .ife (.cmp .eq (.var 3) (.con (.int 0))) [
          .brk] []]
def bS10 : List S := [
        .asg 5 (.bin .mod (.blt .int [(.bin .add (.bin .add (.bin .mul (.var 5) (.con (.int 48271))) (.bin .mul (.con (.int 7)) (.var 4))) (.con (.int 11)))]) (.con (.int 2147483647))),
        .app 1 (.bin .mod (.bin .mod (.blt .int [(.bin .add (.bin .mul (.var 5) (.con (.int 69621))) (.var 4))]) (.con (.int 2147483629))) (.con (.int 1009)))]
def bSCell : List S := [
    .asg 3 (.blt .abs [(.blt .int [(.var 2)])]),
    .ife (.cmp .ge (.var 3) (.bin .pow (.con (.int 10)) (.con (.int 18)))) [
      .for_ (.v 4) (.r1 (.con (.int 60))) bS60] [
      .asg 5 (.bin .mod (.blt .int [(.var 3)]) (.con (.int 2147483647))),
      .for_ (.v 4) (.r1 (.con (.int 10))) bS10]]
def bStream : List S := [
  .asg 1 (.lst []),
  .for_ (.v 2) (.e (.slc (.var 0) none (some (.con (.int 63))))) bSCell,
  .ife (.cmp .eq (.blt .len [(.var 1)]) (.con (.int 0))) [
    .app 1 (.con (.int 0))] [],
  .ret (.var 1)]
/-- numbers as they stand in the stream -/
def In1009 (xs : List Int) : Prop := ∀ x ∈ xs, 0 ≤ x ∧ x < 1009
theorem In1009.app {xs : List Int} {x : Int} (h : In1009 xs) (h1 : 0 ≤ x) (h2 : x < 1009) : In1009 (xs ++ [x]) := fun y hy => by
  rcases List.mem_append.mp hy with hy | hy
  · exact h y hy
  · rw [List.mem_singleton.mp hy]
    exact ⟨h1, h2⟩
theorem map_app {xs : List Int} {x : Int} : xs.map D.int ++ [D.int x] = (xs ++ [x]).map D.int := by simp
section
variable {P : Pr} {cf : Str → List D → W → R D} {wf : E → List S → Env → W → R (Env × Ctl)} {w : W}
theorem app1 {v : Ev} {e : E} {s0 : Slot} {ds : List D} {env : Env} {n : Int} (hv : v.e e (s0 :: .ow ds :: env) w = .ok (.int n) w) (ha : (al e).contains 1 = false) (hz : ds.length < 16777216) :
    stmtK P wf v (.app 1 e) (s0 :: .ow ds :: env) w = .ok (s0 :: .ow (ds ++ [.int n]) :: env, .nx) w := by
  rw [s_app rfl, hv, r_ok, ha, decide_eq_true hz]
  have q : dropD (al e) (.int n) (s0 :: .ow ds :: env) = s0 :: .ow ds :: env := drop_i rfl
  rw [q]
  rfl
theorem forL_cons {v : Ev} {t : Tgt} {b : List S} {d : D} {ds : List D} {env env1 : Env} (h : bindT t d env = some env1) : forL v t b (d :: ds) env w = (v.b b env1 w).bind fun p w => match p with
      | (env, .nx) => forL v t b ds env w
      | (env, .bk) => .ok (env, .nx) w
      | (env, .rt d) => .ok (env, .rt d) w := by
  conv => lhs; unfold forL; rw [h]
  all_goals (first | rfl | dsimp only)
theorem str60 (k : Nat) : ∀ (n : Nat) (a : Int) (xs : List Int) (r : Int) (s0 s2 s4 s5 : Slot), 0 ≤ r → In1009 xs → xs.length + n < 16777216 →
    ∃ ys r' s4', forL (evK P cf wf (k + 10)) (.v 4) bS60 (rngL a 1 n) [s0, .ow (xs.map .int), s2, .sh (.int r), s4, s5] w = .ok ([s0, .ow (ys.map .int), s2, .sh (.int r'), s4', s5], .nx) w ∧ In1009 ys ∧ ys.length ≤ xs.length + n ∧ xs.length ≤ ys.length ∧ (0 < n → xs.length < ys.length)
  | 0, a, xs, r, s0, s2, s4, s5, hr, hx, hl => ⟨xs, r, s4, rfl, hx, Nat.le_refl _, Nat.le_refl _, fun h => absurd h (Nat.lt_irrefl 0)⟩
  | n + 1, a, xs, r, s0, s2, s4, s5, hr, hx, hl => by
    have e : rngL a 1 (n + 1) = .int a :: rngL (a + 1) 1 n := rfl
    have dv : divOk 1009 = true := by decide
    have ap : stmtK P wf (evK P cf wf (k + 9)) (.app 1 (.bin .mod (.blt .int [(.var 3)]) (.con (.int 1009)))) [s0, .ow (xs.map .int), s2, .sh (.int r), .sh (.int a), s5] w = .ok ([s0, .ow (xs.map .int ++ [.int (fmodI r 1009)]), s2, .sh (.int r), .sh (.int a), s5], .nx) w :=
      app1 (by simp only [b_cons, b_nil, s_ife, s_asg', s_asgT', s_parK, par_ii, s_ex, s_whl, s_for, s_ret, s_retN, s_brk, s_pass, s_raise, v_var, v_con, v_bin, v_neg, v_not, v_and, v_or, v_cmp, v_chn, v_ite, v_tup, v_lst, v_call, v_blt, v_sub, v_slc, v_rev, v_comp, v_fstr, es_nil, es_cons, o_none, o_some, o_i, i_l, i_t, it_e, it_r1, it_zip, r_ok, r_exc, r_some, r_nok, br_b, br_t, br_f, n_nx, n_bk, n_rt, ret_rt, ret_exc, rd_0, rd_o, rd_s, put_int, put_bl, put_str, x_add, x_sub, x_neg, c_eq, c_ne, c_lt, c_gt, c_le, c_ge, t_bl, t_int, l_abs, l_int, l_bl, l_max, u_t, u_l, u_t0, u_t1, u_l0, u_l1, u_st0, u_st1, List.map_cons, List.map_nil, List.replicate, List.cons_append, List.nil_append, List.set_cons_zero, List.set_cons_succ, Option.map_some, List.length_cons, List.length_nil, decide_true, if_true, Bool.false_eq_true, if_false, Bool.not_true, Bool.not_false, Nat.reduceAdd, Nat.reduceSub, x_mod (show (1009 : Int) ≠ 0 by decide)]) rfl (by rw [List.length_map]; omega)
    have body : (evK P cf wf (k + 10)).b bS60 [s0, .ow (xs.map .int), s2, .sh (.int r), .sh (.int a), s5] w = .ok ([s0, .ow ((xs ++ [fmodI r 1009]).map .int), s2, .sh (.int (fdivI r 1009)), .sh (.int a), s5], if fdivI r 1009 = 0 then .bk else .nx) w := by
      unfold bS60
      rw [b_cons, ap, map_app]
      by_cases h0 : fdivI r 1009 = 0
      · simp only [b_cons, b_nil, s_ife, s_asg', s_asgT', s_parK, par_ii, s_ex, s_whl, s_for, s_ret, s_retN, s_brk, s_pass, s_raise, v_var, v_con, v_bin, v_neg, v_not, v_and, v_or, v_cmp, v_chn, v_ite, v_tup, v_lst, v_call, v_blt, v_sub, v_slc, v_rev, v_comp, v_fstr, es_nil, es_cons, o_none, o_some, o_i, i_l, i_t, it_e, it_r1, it_zip, r_ok, r_exc, r_some, r_nok, br_b, br_t, br_f, n_nx, n_bk, n_rt, ret_rt, ret_exc, rd_0, rd_o, rd_s, put_int, put_bl, put_str, x_add, x_sub, x_neg, c_eq, c_ne, c_lt, c_gt, c_le, c_ge, t_bl, t_int, l_abs, l_int, l_bl, l_max, u_t, u_l, u_t0, u_t1, u_l0, u_l1, u_st0, u_st1, List.map_cons, List.map_nil, List.replicate, List.cons_append, List.nil_append, List.set_cons_zero, List.set_cons_succ, Option.map_some, List.length_cons, List.length_nil, decide_true, if_true, Bool.false_eq_true, if_false, Bool.not_true, Bool.not_false, Nat.reduceAdd, Nat.reduceSub, x_fdiv, dv, h0]
      · simp only [b_cons, b_nil, s_ife, s_asg', s_asgT', s_parK, par_ii, s_ex, s_whl, s_for, s_ret, s_retN, s_brk, s_pass, s_raise, v_var, v_con, v_bin, v_neg, v_not, v_and, v_or, v_cmp, v_chn, v_ite, v_tup, v_lst, v_call, v_blt, v_sub, v_slc, v_rev, v_comp, v_fstr, es_nil, es_cons, o_none, o_some, o_i, i_l, i_t, it_e, it_r1, it_zip, r_ok, r_exc, r_some, r_nok, br_b, br_t, br_f, n_nx, n_bk, n_rt, ret_rt, ret_exc, rd_0, rd_o, rd_s, put_int, put_bl, put_str, x_add, x_sub, x_neg, c_eq, c_ne, c_lt, c_gt, c_le, c_ge, t_bl, t_int, l_abs, l_int, l_bl, l_max, u_t, u_l, u_t0, u_t1, u_l0, u_l1, u_st0, u_st1, List.map_cons, List.map_nil, List.replicate, List.cons_append, List.nil_append, List.set_cons_zero, List.set_cons_succ, Option.map_some, List.length_cons, List.length_nil, decide_true, if_true, Bool.false_eq_true, if_false, Bool.not_true, Bool.not_false, Nat.reduceAdd, Nat.reduceSub, x_fdiv, dv, h0, decide_false]
    have hx' : In1009 (xs ++ [fmodI r 1009]) := hx.app (fmod_lo (by decide)) (fmod_hi (by decide))
    rw [e, forL_cons (env1 := [s0, .ow (xs.map .int), s2, .sh (.int r), .sh (.int a), s5]) rfl, body]
    by_cases h0 : fdivI r 1009 = 0
    · rw [if_pos h0]
      exact ⟨xs ++ [fmodI r 1009], fdivI r 1009, .sh (.int a), rfl, hx', by simp, by simp, fun _ => by simp⟩
    · rw [if_neg h0]
      have hr' : 0 ≤ fdivI r 1009 := by
        unfold fdivI
        rw [if_pos (by decide)]
        exact Int.ediv_nonneg hr (by decide)
      obtain ⟨ys, r', s4', h1, h2, h3, h4, h5⟩ := str60 k n (a + 1) (xs ++ [fmodI r 1009]) (fdivI r 1009) s0 s2 (.sh (.int a)) s5 hr' hx' (by simp; omega)
      simp only [List.length_append, List.length_cons, List.length_nil] at h3 h4
      exact ⟨ys, r', s4', h1, h2, by omega, by omega, fun _ => by omega⟩
theorem str10 (k : Nat) : ∀ (n : Nat) (a : Int) (xs : List Int) (r : Int) (s0 s2 s3 s4 : Slot), 0 ≤ r → r < 2147483647 → 0 ≤ a → a + n ≤ 10 → In1009 xs → xs.length + n < 16777216 →
    ∃ ys r' s4', forL (evK P cf wf (k + 12)) (.v 4) bS10 (rngL a 1 n) [s0, .ow (xs.map .int), s2, s3, s4, .sh (.int r)] w = .ok ([s0, .ow (ys.map .int), s2, s3, s4', .sh (.int r')], .nx) w ∧ In1009 ys ∧ ys.length = xs.length + n
  | 0, a, xs, r, s0, s2, s3, s4, hr, hr2, ha, ha2, hx, hl => ⟨xs, r, s4, rfl, hx, rfl⟩
  | n + 1, a, xs, r, s0, s2, s3, s4, hr, hr2, ha, ha2, hx, hl => by
    have e : rngL a 1 (n + 1) = .int a :: rngL (a + 1) 1 n := rfl
    have m1 : mulOk r 48271 = true := mul_ok 40 40 (by omega) (by decide)
    have m2 : mulOk 7 a = true := mul_ok 40 40 (by decide) (by omega)
    obtain ⟨r2, hr2e⟩ : ∃ r2, r2 = fmodI (r * 48271 + 7 * a + 11) 2147483647 := ⟨_, rfl⟩
    have b1 : 0 ≤ r2 := by rw [hr2e]; exact fmod_lo (by decide)
    have b2 : r2 < 2147483647 := by rw [hr2e]; exact fmod_hi (by decide)
    have m3 : mulOk r2 69621 = true := mul_ok 40 40 (by omega) (by decide)
    have ap : stmtK P wf (evK P cf wf (k + 11)) (.app 1 (.bin .mod (.bin .mod (.blt .int [(.bin .add (.bin .mul (.var 5) (.con (.int 69621))) (.var 4))]) (.con (.int 2147483629))) (.con (.int 1009)))) [s0, .ow (xs.map .int), s2, s3, .sh (.int a), .sh (.int r2)] w =
        .ok ([s0, .ow (xs.map .int ++ [.int (fmodI (fmodI (r2 * 69621 + a) 2147483629) 1009)]), s2, s3, .sh (.int a), .sh (.int r2)], .nx) w :=
      app1 (by simp only [b_cons, b_nil, s_ife, s_asg', s_asgT', s_parK, par_ii, s_ex, s_whl, s_for, s_ret, s_retN, s_brk, s_pass, s_raise, v_var, v_con, v_bin, v_neg, v_not, v_and, v_or, v_cmp, v_chn, v_ite, v_tup, v_lst, v_call, v_blt, v_sub, v_slc, v_rev, v_comp, v_fstr, es_nil, es_cons, o_none, o_some, o_i, i_l, i_t, it_e, it_r1, it_zip, r_ok, r_exc, r_some, r_nok, br_b, br_t, br_f, n_nx, n_bk, n_rt, ret_rt, ret_exc, rd_0, rd_o, rd_s, put_int, put_bl, put_str, x_add, x_sub, x_neg, c_eq, c_ne, c_lt, c_gt, c_le, c_ge, t_bl, t_int, l_abs, l_int, l_bl, l_max, u_t, u_l, u_t0, u_t1, u_l0, u_l1, u_st0, u_st1, List.map_cons, List.map_nil, List.replicate, List.cons_append, List.nil_append, List.set_cons_zero, List.set_cons_succ, Option.map_some, List.length_cons, List.length_nil, decide_true, if_true, Bool.false_eq_true, if_false, Bool.not_true, Bool.not_false, Nat.reduceAdd, Nat.reduceSub, x_mul, m3, x_mod (show (1009 : Int) ≠ 0 by decide), x_mod (show (2147483629 : Int) ≠ 0 by decide)]) rfl (by rw [List.length_map]; omega)
    have body : (evK P cf wf (k + 12)).b bS10 [s0, .ow (xs.map .int), s2, s3, .sh (.int a), .sh (.int r)] w = .ok ([s0, .ow ((xs ++ [fmodI (fmodI (r2 * 69621 + a) 2147483629) 1009]).map .int), s2, s3, .sh (.int a), .sh (.int r2)], .nx) w := by
      unfold bS10
      simp only [b_cons, b_nil, s_ife, s_asg', s_asgT', s_parK, par_ii, s_ex, s_whl, s_for, s_ret, s_retN, s_brk, s_pass, s_raise, v_var, v_con, v_bin, v_neg, v_not, v_and, v_or, v_cmp, v_chn, v_ite, v_tup, v_lst, v_call, v_blt, v_sub, v_slc, v_rev, v_comp, v_fstr, es_nil, es_cons, o_none, o_some, o_i, i_l, i_t, it_e, it_r1, it_zip, r_ok, r_exc, r_some, r_nok, br_b, br_t, br_f, n_nx, n_bk, n_rt, ret_rt, ret_exc, rd_0, rd_o, rd_s, put_int, put_bl, put_str, x_add, x_sub, x_neg, c_eq, c_ne, c_lt, c_gt, c_le, c_ge, t_bl, t_int, l_abs, l_int, l_bl, l_max, u_t, u_l, u_t0, u_t1, u_l0, u_l1, u_st0, u_st1, List.map_cons, List.map_nil, List.replicate, List.cons_append, List.nil_append, List.set_cons_zero, List.set_cons_succ, Option.map_some, List.length_cons, List.length_nil, decide_true, if_true, Bool.false_eq_true, if_false, Bool.not_true, Bool.not_false, Nat.reduceAdd, Nat.reduceSub, x_mul, m1, m2, x_mod (show (2147483647 : Int) ≠ 0 by decide), ← hr2e, ap, map_app]
    rw [e, forL_cons (env1 := [s0, .ow (xs.map .int), s2, s3, .sh (.int a), .sh (.int r)]) rfl, body]
    obtain ⟨ys, r', s4', h1, h2, h3⟩ := str10 k n (a + 1) (xs ++ [fmodI (fmodI (r2 * 69621 + a) 2147483629) 1009]) r2 s0 s2 s3 (.sh (.int a)) b1 b2 (by omega) (by omega) (hx.app (fmod_lo (by decide)) (fmod_hi (by decide))) (by simp; omega)
    simp only [List.length_append, List.length_cons, List.length_nil] at h3
    exact ⟨ys, r', s4', h1, h2, by omega⟩
theorem x_pow18 : binD .pow (.int 10) (.int 18) = some (.int 1000000000000000000) := by
  show guardO (powOk 10 18) (D.int (10 ^ (18 : Int).toNat)) = _
  rw [show powOk 10 18 = true by decide +kernel, show (10 : Int) ^ (18 : Int).toNat = 1000000000000000000 by decide +kernel]
  rfl
theorem rngD_n (n : Nat) (h : (n : Int) < 4611686018427387904) : rngD 0 n = some (rngL 0 1 n) := by
  unfold rngD
  have e : (in62 0 && in62 (n : Int)) = true := by
    unfold in62
    simp
    omega
  rw [e]
  show some (rngL 0 1 ((n : Int) - 0).toNat) = _
  rw [show ((n : Int) - 0).toNat = n by omega]
theorem strCell (k : Nat) (xs : List Int) (z : Int) (s0 s3 s4 s5 : Slot) (hx : In1009 xs) (hl : xs.length + 60 < 16777216) :
    ∃ ys s3' s4' s5', (evK P cf wf (k + 20)).b bSCell [s0, .ow (xs.map .int), .sh (.int z), s3, s4, s5] w = .ok ([s0, .ow (ys.map .int), .sh (.int z), s3', s4', s5'], .nx) w ∧ In1009 ys ∧ ys.length ≤ xs.length + 60 ∧ xs.length < ys.length := by
  obtain ⟨r, hr⟩ : ∃ r : Int, r = if z < 0 then -z else z := ⟨_, rfl⟩
  have hr0 : 0 ≤ r := by rw [hr]; split <;> omega
  have e60 : rngD 0 60 = some (rngL 0 1 60) := rngD_n 60 (by decide)
  have e10 : rngD 0 10 = some (rngL 0 1 10) := rngD_n 10 (by decide)
  by_cases hbig : (1000000000000000000 : Int) ≤ r
  · obtain ⟨ys, r', s4', h1, h2, h3, h4, h5⟩ := str60 (P := P) (cf := cf) (wf := wf) (w := w) (k + 8) 60 0 xs r s0 (.sh (.int z)) s4 s5 hr0 hx hl
    refine ⟨ys, .sh (.int r'), s4', s5, ?_, h2, h3, h5 (by decide)⟩
    unfold bSCell
    simp only [b_cons, b_nil, s_ife, s_asg', s_asgT', s_parK, par_ii, s_ex, s_whl, s_for, s_ret, s_retN, s_brk, s_pass, s_raise, v_var, v_con, v_bin, v_neg, v_not, v_and, v_or, v_cmp, v_chn, v_ite, v_tup, v_lst, v_call, v_blt, v_sub, v_slc, v_rev, v_comp, v_fstr, es_nil, es_cons, o_none, o_some, o_i, i_l, i_t, it_e, it_r1, it_zip, r_ok, r_exc, r_some, r_nok, br_b, br_t, br_f, n_nx, n_bk, n_rt, ret_rt, ret_exc, rd_0, rd_o, rd_s, put_int, put_bl, put_str, x_add, x_sub, x_neg, c_eq, c_ne, c_lt, c_gt, c_le, c_ge, t_bl, t_int, l_abs, l_int, l_bl, l_max, u_t, u_l, u_t0, u_t1, u_l0, u_l1, u_st0, u_st1, List.map_cons, List.map_nil, List.replicate, List.cons_append, List.nil_append, List.set_cons_zero, List.set_cons_succ, Option.map_some, List.length_cons, List.length_nil, decide_true, if_true, Bool.false_eq_true, if_false, Bool.not_true, Bool.not_false, Nat.reduceAdd, Nat.reduceSub, ← hr, x_pow18, hbig, e60]
    have e : drops (alW (.r1 (.con (.int 60)))) [s0, Slot.ow (xs.map .int), .sh (.int z), .sh (.int r), s4, s5] = [s0, Slot.ow (xs.map .int), .sh (.int z), .sh (.int r), s4, s5] := rfl
    rw [e, h1]
    rfl
  · obtain ⟨ys, r', s4', h1, h2, h3⟩ := str10 (P := P) (cf := cf) (wf := wf) (w := w) (k + 6) 10 0 xs (fmodI r 2147483647) s0 (.sh (.int z)) (.sh (.int r)) s4 (fmod_lo (by decide)) (fmod_hi (by decide)) (by decide) (by decide) hx (by omega)
    refine ⟨ys, .sh (.int r), s4', .sh (.int r'), ?_, h2, by omega, by omega⟩
    unfold bSCell
    simp only [b_cons, b_nil, s_ife, s_asg', s_asgT', s_parK, par_ii, s_ex, s_whl, s_for, s_ret, s_retN, s_brk, s_pass, s_raise, v_var, v_con, v_bin, v_neg, v_not, v_and, v_or, v_cmp, v_chn, v_ite, v_tup, v_lst, v_call, v_blt, v_sub, v_slc, v_rev, v_comp, v_fstr, es_nil, es_cons, o_none, o_some, o_i, i_l, i_t, it_e, it_r1, it_zip, r_ok, r_exc, r_some, r_nok, br_b, br_t, br_f, n_nx, n_bk, n_rt, ret_rt, ret_exc, rd_0, rd_o, rd_s, put_int, put_bl, put_str, x_add, x_sub, x_neg, c_eq, c_ne, c_lt, c_gt, c_le, c_ge, t_bl, t_int, l_abs, l_int, l_bl, l_max, u_t, u_l, u_t0, u_t1, u_l0, u_l1, u_st0, u_st1, List.map_cons, List.map_nil, List.replicate, List.cons_append, List.nil_append, List.set_cons_zero, List.set_cons_succ, Option.map_some, List.length_cons, List.length_nil, decide_true, if_true, Bool.false_eq_true, if_false, Bool.not_true, Bool.not_false, Nat.reduceAdd, Nat.reduceSub, ← hr, x_pow18, hbig, decide_false, e10, x_mod (show (2147483647 : Int) ≠ 0 by decide)]
    have e : drops (alW (.r1 (.con (.int 10)))) [s0, Slot.ow (xs.map .int), .sh (.int z), .sh (.int r), s4, .sh (.int (fmodI r 2147483647))] = [s0, Slot.ow (xs.map .int), .sh (.int z), .sh (.int r), s4, .sh (.int (fmodI r 2147483647))] := rfl
    rw [e, h1]
    rfl
theorem strCells (k : Nat) : ∀ (zs : List Int) (xs : List Int) (s0 s2 s3 s4 s5 : Slot), In1009 xs → xs.length + 60 * zs.length < 16777216 →
    ∃ ys s2' s3' s4' s5', forL (evK P cf wf (k + 20)) (.v 2) bSCell (zs.map .int) [s0, .ow (xs.map .int), s2, s3, s4, s5] w = .ok ([s0, .ow (ys.map .int), s2', s3', s4', s5'], .nx) w ∧ In1009 ys ∧ ys.length ≤ xs.length + 60 * zs.length
  | [], xs, s0, s2, s3, s4, s5, hx, hl => ⟨xs, s2, s3, s4, s5, rfl, hx, Nat.le_add_right _ _⟩
  | z :: zs, xs, s0, s2, s3, s4, s5, hx, hl => by
    simp only [List.length_cons] at hl
    obtain ⟨ys, s3', s4', s5', h1, h2, h3, h4⟩ := strCell (P := P) (cf := cf) (wf := wf) (w := w) k xs z s0 s3 s4 s5 hx (by omega)
    obtain ⟨ys', t2, t3, t4, t5, g1, g2, g3⟩ := strCells k zs ys s0 (.sh (.int z)) s3' s4' s5' h2 (by omega)
    refine ⟨ys', t2, t3, t4, t5, ?_, g2, by simp only [List.length_cons]; omega⟩
    rw [List.map_cons, forL_cons (env1 := [s0, .ow (xs.map .int), .sh (.int z), s3, s4, s5]) rfl, h1]
    exact g1
end
theorem flats_ints : ∀ xs : List Int, D.flats (xs.map D.int) = true
  | [] => rfl
  | x :: xs => by rw [List.map_cons, fl_i]; exact flats_ints xs
theorem stream_sp {pr : Pr} {d : Nat} {script : List Int} (h : Has pr "_law_stream" 1 6 bStream) : ∃ ns, StrOk ns ∧ In1009 ns ∧ cfL pr (d + 1) "_law_stream" [.frz (script.map .int)] none = .ok (.lst (ns.map .int)) none := by
  have cut : cutL (script.map D.int) none (some 63) = (script.take 63).map D.int := by
    unfold cutL cutIx
    simp [List.map_take]
  have hlt : 0 + 60 * (script.take 63).length < 16777216 := by
    have : (script.take 63).length ≤ 63 := List.length_take_le ..
    omega
  obtain ⟨ys, s2, s3, s4, s5, h1, h2, h3⟩ := strCells (P := pr) (cf := cfL pr d) (wf := wfL pr d) (w := none) 19 (script.take 63) [] (.sh (.frz (script.map .int))) .no .no .no .no (fun _ h => nomatch h) (by rw [List.length_nil]; exact hlt)
  have hlen : (script.take 63).length ≤ 63 := List.length_take_le ..
  simp only [List.length_nil, Nat.zero_add] at h3
  have sl : slcD (.frz (script.map .int)) none (some 63) = some (.lst ((script.take 63).map .int)) := by
    show guardO (D.flats _) _ = _
    rw [flats_ints, cut]; rfl
  have szy : szOk ys.length = true := by
    unfold szOk
    exact decide_eq_true (by omega)
  have pl : ∀ env : Env, putE 1 (.lst []) (.lst []) env = env.set 1 (.ow []) := fun _ => rfl
  have dr : ∀ env : Env, drops (alW (.e (.slc (.var 0) none (some (.con (.int 63)))))) env = env := fun _ => rfl
  have it0 : ∀ ds : List D, items? (.lst ds) = some ds := fun _ => rfl
  have h1' : forL (evK pr (cfL pr d) (wfL pr d) 39) (.v 2) bSCell ((script.take 63).map .int) [.sh (.frz (script.map .int)), .ow [], .no, .no, .no, .no] none = .ok ([.sh (.frz (script.map .int)), .ow (ys.map .int), s2, s3, s4, s5], .nx) none := h1
  by_cases h0 : ys = []
  · subst h0
    refine ⟨[0], ⟨by simp, by simp⟩, fun x hx => by rw [List.mem_singleton.mp hx]; exact ⟨by decide, by decide⟩, ?_⟩
    refine cf_of 40 h rfl ?_ (by simp)
    have ap : stmtK pr (wfL pr d) (evK pr (cfL pr d) (wfL pr d) 38) (.app 1 (.con (.int 0))) [.sh (.frz (script.map .int)), .ow [], s2, s3, s4, s5] none = .ok ([.sh (.frz (script.map .int)), .ow [.int 0], s2, s3, s4, s5], .nx) none := app1 rfl rfl (by decide)
    simp only [bStream, b_cons, b_nil, s_ife, s_asg', s_asgT', s_parK, par_ii, s_ex, s_whl, s_for, s_ret, s_retN, s_brk, s_pass, s_raise, v_var, v_con, v_bin, v_neg, v_not, v_and, v_or, v_cmp, v_chn, v_ite, v_tup, v_lst, v_call, v_blt, v_sub, v_slc, v_rev, v_comp, v_fstr, es_nil, es_cons, o_none, o_some, o_i, i_l, i_t, it_e, it_r1, it_zip, r_ok, r_exc, r_some, r_nok, br_b, br_t, br_f, n_nx, n_bk, n_rt, ret_rt, ret_exc, rd_0, rd_o, rd_s, put_int, put_bl, put_str, x_add, x_sub, x_neg, c_eq, c_ne, c_lt, c_gt, c_le, c_ge, t_bl, t_int, l_abs, l_int, l_bl, l_max, u_t, u_l, u_t0, u_t1, u_l0, u_l1, u_st0, u_st1, List.map_cons, List.map_nil, List.replicate, List.cons_append, List.nil_append, List.set_cons_zero, List.set_cons_succ, Option.map_some, List.length_cons, List.length_nil, decide_true, if_true, Bool.false_eq_true, if_false, Bool.not_true, Bool.not_false, Nat.reduceAdd, Nat.reduceSub, pl, sl, it0, dr, h1', show szOk 0 = true from rfl, l_lenL, Int.ofNat_zero, ap, Int.natCast_zero, show ((0 : Nat) : Int) = 0 from rfl]
  · refine ⟨ys, ⟨h0, by omega⟩, h2, ?_⟩
    refine cf_of 40 h rfl ?_ (by simp)
    have hn : ¬ ((ys.length : Int) = 0) := by
      have := List.length_pos_iff.mpr h0
      omega
    simp only [bStream, b_cons, b_nil, s_ife, s_asg', s_asgT', s_parK, par_ii, s_ex, s_whl, s_for, s_ret, s_retN, s_brk, s_pass, s_raise, v_var, v_con, v_bin, v_neg, v_not, v_and, v_or, v_cmp, v_chn, v_ite, v_tup, v_lst, v_call, v_blt, v_sub, v_slc, v_rev, v_comp, v_fstr, es_nil, es_cons, o_none, o_some, o_i, i_l, i_t, it_e, it_r1, it_zip, r_ok, r_exc, r_some, r_nok, br_b, br_t, br_f, n_nx, n_bk, n_rt, ret_rt, ret_exc, rd_0, rd_o, rd_s, put_int, put_bl, put_str, x_add, x_sub, x_neg, c_eq, c_ne, c_lt, c_gt, c_le, c_ge, t_bl, t_int, l_abs, l_int, l_bl, l_max, u_t, u_l, u_t0, u_t1, u_l0, u_l1, u_st0, u_st1, List.map_cons, List.map_nil, List.replicate, List.cons_append, List.nil_append, List.set_cons_zero, List.set_cons_succ, Option.map_some, List.length_cons, List.length_nil, decide_true, if_true, Bool.false_eq_true, if_false, Bool.not_true, Bool.not_false, Nat.reduceAdd, Nat.reduceSub, pl, sl, it0, dr, h1', show szOk 0 = true from rfl, l_lenL, List.length_map, szy, hn, decide_false]
end PD
end
section
set_option Elab.async false
set_option linter.all false
set_option maxRecDepth 100000
set_option maxHeartbeats 4000000
/-! PE6: a check of two equal data; turns. -/
namespace PD
open PySem
section
variable {pr : Pr} {d k : Nat} {env : Env} {w w1 w2 : W}
theorem same_e {a b : E} {t : D} (h : Has pr "_law_same" 2 2 bSame) (h1 : (vL pr (d + 1) (k + 1)).e a env w = .ok t w1) (h2 : (vL pr (d + 1) (k + 1)).e b env w1 = .ok t w2) (ho : okI t = true) (hd : dpD t ≤ 60) (hz : rz t ≤ 16000000) :
    (vL pr (d + 1) (k + 3)).e (.not (.call "_law_same" [a, b])) env w = .ok (.bl false) w2 := by
  obtain ⟨s, hs⟩ := repr_fit (d := .lst [t]) (by show (okI t && true) = true; rw [ho]; rfl) (by show max (dpD t) 0 + 1 ≤ 64; omega) (by show rz t + 2 + 0 + 3 ≤ _; omega)
  have q := same_sp (d := d) (w := w2) h hs
  simp only [b_cons, b_nil, s_ife, s_asg', s_asgT', s_parK, par_ii, s_ex, s_whl, s_for, s_ret, s_retN, s_brk, s_pass, s_raise, v_var, v_con, v_bin, v_neg, v_not, v_and, v_or, v_cmp, v_chn, v_ite, v_tup, v_lst, v_call, v_blt, v_sub, v_slc, v_rev, v_comp, v_fstr, es_nil, es_cons, o_none, o_some, o_i, i_l, i_t, it_e, it_r1, it_zip, r_ok, r_exc, r_some, r_nok, br_b, br_t, br_f, n_nx, n_bk, n_rt, ret_rt, ret_exc, rd_0, rd_o, rd_s, put_int, put_bl, put_str, x_add, x_sub, x_neg, c_eq, c_ne, c_lt, c_gt, c_le, c_ge, t_bl, t_int, l_abs, l_int, l_bl, l_max, u_t, u_l, u_t0, u_t1, u_l0, u_l1, u_st0, u_st1, List.map_cons, List.map_nil, List.replicate, List.cons_append, List.nil_append, List.set_cons_zero, List.set_cons_succ, Option.map_some, List.length_cons, List.length_nil, decide_true, if_true, Bool.false_eq_true, if_false, Bool.not_true, Bool.not_false, Nat.reduceAdd, Nat.reduceSub, h1, h2, q]
theorem chk {a b : E} {t : D} {r : List S} (h : Has pr "_law_same" 2 2 bSame) (h1 : (vL pr (d + 1) (k + 1)).e a env w = .ok t w1) (h2 : (vL pr (d + 1) (k + 1)).e b env w1 = .ok t w2) (ho : okI t = true) (hd : dpD t ≤ 60) (hz : rz t ≤ 16000000) :
    stmtK pr (wfL pr (d + 1)) (vL pr (d + 1) (k + 3)) (.ife (.not (.call "_law_same" [a, b])) r []) env w = .ok (env, .nx) w2 := by
  have q := same_e h h1 h2 ho hd hz
  simp only [s_ife, q, r_ok, t_bl, br_f, b_nil]
end
theorem it_n {v : Ev} {env : Env} {w w' : W} {a : E} {i : Int} {n : Nat} (h : v.e a env w = .ok (.int i) w') (hi : i = n) (hn : n < 1000000) : evIt v (.r1 a) env w = .ok (rngL 0 1 n) w' := by
  rw [it_r1, h, r_ok]
  subst hi
  show R.opt (rngD 0 (n : Int)) w' = _
  rw [rngD_n n (by omega)]
  rfl
theorem comp_of {P : Pr} {cf : Str → List D → W → R D} {wf : E → List S → Env → W → R (Env × Ctl)} {k : Nat} {env env' : Env} {w w1 w2 : W} {elt : E} {tg : Tgt} {it : It} {ifs : List E} {vs : List Nat} {ds xs : List D} (h : evIt (evK P cf wf k) it env w = .ok ds w1) (he : drops (alI it) (wipes vs env) = env') (hc : compL (evK P cf wf k) elt tg ifs ds env' w1 = .ok xs w2) (hz : xs.length ≤ 1000000) : (evK P cf wf (k + 1)).e (.comp elt tg it ifs vs) env w = .ok (.lst xs) w2 := by
  rw [v_comp, h, r_ok, he, hc, r_ok, if_pos (show szOk xs.length = true from decide_eq_true (by omega))]
theorem rngL_ln : ∀ (n : Nat) (a : Int), (rngL a 1 n).length = n
  | 0, _ => rfl
  | n + 1, a => by show (rngL (a + 1) 1 n).length + 1 = _; rw [rngL_ln n]
theorem strOk_of (s : String) : PyData.strOk (Str.ofString s) = true := by
  rw [Str.ofString_eq_toList]
  unfold PyData.strOk
  rw [Array.all_eq_true_iff_forall_mem]
  intro c hc
  simp at hc
  obtain ⟨x, hx, rfl⟩ := hc
  have e : x.toNat < 1114112 := by
    rcases x.valid with h | h
    · have h : x.toNat < 0xd800 := h
      omega
    · exact h.2
  exact decide_eq_true e
theorem strOk_app {a b : Str} (ha : PyData.strOk a = true) (hb : PyData.strOk b = true) : PyData.strOk (a ++ b) = true := by
  unfold PyData.strOk at ha hb ⊢
  show (a.cps ++ b.cps).all _ = true
  rw [Array.all_append, ha, hb]; rfl
theorem okI_int {i : Int} {k : Nat} (h : i.natAbs < 2 ^ k) (hk : k < 1920) : okI (.int i) = true := by
  have := log2_le h
  exact decide_eq_true (by omega)
/-- a loop of turns, each of which goes on -/
theorem turns {v : Ev} {b : List S} {i : Nat} {ns : List Int} {m : Nat} {I : Env → Prop} (hset : ∀ env x, I env → I (env.set i (.sh x)) ∧ bindT (.v i) x env = some (env.set i (.sh x))) (hb : ∀ env (c : Int), I env → 0 ≤ c → c < 800000000 → ∃ env' c', v.b b env (some (ns, c)) = .ok (env', .nx) (some (ns, c')) ∧ I env' ∧ c ≤ c' ∧ c' ≤ c + m) :
    ∀ (ds : List D) (env : Env) (c : Int), I env → 0 ≤ c → c + m * ds.length < 800000000 → ∃ env' c', forL v (.v i) b ds env (some (ns, c)) = .ok (env', .nx) (some (ns, c')) ∧ I env' ∧ c ≤ c' ∧ c' ≤ c + m * ds.length
  | [], env, c, hI, hc, hl => ⟨env, c, rfl, hI, Int.le_refl _, by simp⟩
  | x :: ds, env, c, hI, hc, hl => by
    have e0 : ((x :: ds).length : Int) = ds.length + 1 := by simp
    have em : (m : Int) * ((x :: ds).length : Int) = m * ds.length + m := by rw [e0, Int.mul_add, Int.mul_one]
    rw [em] at hl
    have pos : 0 ≤ (m : Int) * ds.length := Int.mul_nonneg (by omega) (by omega)
    obtain ⟨i1, i2⟩ := hset env x hI
    obtain ⟨env1, c1, h1, h2, h3, h4⟩ := hb _ c i1 hc (by omega)
    obtain ⟨env2, c2, g1, g2, g3, g4⟩ := turns hset hb ds env1 c1 h2 (by omega) (by omega)
    refine ⟨env2, c2, ?_, g2, by omega, by rw [em]; omega⟩
    rw [forL_cons i2, h1]
    exact g1
end PD
end
section
set_option Elab.async false
set_option linter.all false
set_option maxRecDepth 100000
set_option maxHeartbeats 0
namespace Lw
open PySem PD L2
def topI (i : Nat) : Stmt := PySem.Challenge.pw_madeofprimes_k01_ratios.main.body.getD i (.Pass ⟨0, 0, 0, 0⟩)
def C : Cm := ⟨(["divisor", "ratio", "is_ratio", "added", "negative", "times", "over", "less", "greatest", "summed", "weighed", "ratio_text", "_law_same", "_law_stream", "_law_next", "_law_divisor", "_law_ratio", "_law_plus", "_law_sum", "_law_less", "_law_is_ratio", "_law_drawn"] : List Str), [], (["NotAllowed"] : List Str), false⟩
def b_divisor : List S := [
  .par [0, 1] [(.blt .abs [(.var 0)]), (.blt .abs [(.var 1)])],
  .whl (.cmp .gt (.var 1) (.con (.int 0))) [
    .par [0, 1] [(.var 1), (.bin .mod (.var 0) (.var 1))]],
  .ret (.var 0)]
def q_divisor : DefX := ⟨"divisor", (["first", "second"] : List Str), ["first", "second"], defArgs (topI 8), defBody (topI 8), defScope (topI 8), b_divisor⟩
def b_ratio : List S := [
  .ife (.cmp .eq (.var 1) (.con (.int 0))) [
    .raise "NotAllowed"] [],
  .asg 2 (.call "divisor" [(.var 0), (.var 1)]),
  .ife (.cmp .lt (.var 1) (.con (.int 0))) [
    .asg 2 (.neg (.var 2))] [],
  .ret (.tup [(.bin .fdiv (.var 0) (.var 2)), (.bin .fdiv (.var 1) (.var 2))])]
def q_ratio : DefX := ⟨"ratio", (["top", "below", "common"] : List Str), ["top", "below"], defArgs (topI 9), defBody (topI 9), defScope (topI 9), b_ratio⟩
def b_is_ratio : List S := [
  .ret (.and (.cmp .eq (.blt .len [(.var 0)]) (.con (.int 2))) (.and (.cmp .ge (.sub (.var 0) (.con (.int 1))) (.con (.int 1))) (.cmp .eq (.call "divisor" [(.sub (.var 0) (.con (.int 0))), (.sub (.var 0) (.con (.int 1)))]) (.con (.int 1)))))]
def q_is_ratio : DefX := ⟨"is_ratio", (["value"] : List Str), ["value"], defArgs (topI 10), defBody (topI 10), defScope (topI 10), b_is_ratio⟩
def b_added : List S := [
  .ret (.call "ratio" [(.bin .add (.bin .mul (.sub (.var 0) (.con (.int 0))) (.sub (.var 1) (.con (.int 1)))) (.bin .mul (.sub (.var 1) (.con (.int 0))) (.sub (.var 0) (.con (.int 1))))), (.bin .mul (.sub (.var 0) (.con (.int 1))) (.sub (.var 1) (.con (.int 1))))])]
def q_added : DefX := ⟨"added", (["first", "second"] : List Str), ["first", "second"], defArgs (topI 11), defBody (topI 11), defScope (topI 11), b_added⟩
def b_negative : List S := [
  .ret (.tup [(.neg (.sub (.var 0) (.con (.int 0)))), (.sub (.var 0) (.con (.int 1)))])]
def q_negative : DefX := ⟨"negative", (["value"] : List Str), ["value"], defArgs (topI 12), defBody (topI 12), defScope (topI 12), b_negative⟩
def b_times : List S := [
  .ret (.call "ratio" [(.bin .mul (.sub (.var 0) (.con (.int 0))) (.sub (.var 1) (.con (.int 0)))), (.bin .mul (.sub (.var 0) (.con (.int 1))) (.sub (.var 1) (.con (.int 1))))])]
def q_times : DefX := ⟨"times", (["first", "second"] : List Str), ["first", "second"], defArgs (topI 13), defBody (topI 13), defScope (topI 13), b_times⟩
def b_over : List S := [
  .ret (.call "ratio" [(.bin .mul (.sub (.var 0) (.con (.int 0))) (.sub (.var 1) (.con (.int 1)))), (.bin .mul (.sub (.var 0) (.con (.int 1))) (.sub (.var 1) (.con (.int 0))))])]
def q_over : DefX := ⟨"over", (["first", "second"] : List Str), ["first", "second"], defArgs (topI 14), defBody (topI 14), defScope (topI 14), b_over⟩
def b_less : List S := [
  .ret (.cmp .lt (.bin .mul (.sub (.var 0) (.con (.int 0))) (.sub (.var 1) (.con (.int 1)))) (.bin .mul (.sub (.var 1) (.con (.int 0))) (.sub (.var 0) (.con (.int 1)))))]
def q_less : DefX := ⟨"less", (["first", "second"] : List Str), ["first", "second"], defArgs (topI 15), defBody (topI 15), defScope (topI 15), b_less⟩
def b_greatest : List S := [
  .asg 1 (.sub (.var 0) (.con (.int 0))),
  .for_ (.v 2) (.e (.slc (.var 0) (some (.con (.int 1))) none)) [
    .asg 1 (.ite (.call "less" [(.var 1), (.var 2)]) (.var 2) (.var 1))],
  .ret (.var 1)]
def q_greatest : DefX := ⟨"greatest", (["values", "best", "value"] : List Str), ["values"], defArgs (topI 16), defBody (topI 16), defScope (topI 16), b_greatest⟩
def b_summed : List S := [
  .asg 1 (.tup [(.con (.int 0)), (.con (.int 1))]),
  .for_ (.v 2) (.e (.var 0)) [
    .asg 1 (.call "added" [(.var 1), (.var 2)])],
  .ret (.var 1)]
def q_summed : DefX := ⟨"summed", (["values", "total", "value"] : List Str), ["values"], defArgs (topI 17), defBody (topI 17), defScope (topI 17), b_summed⟩
def b_weighed : List S := [
  .ret (.call "summed" [(.comp (.call "times" [(.var 2), (.var 3)]) (.t [(.v 2), (.v 3)]) (.zip (.var 0) (.var 1)) [] [2, 3])])]
def q_weighed : DefX := ⟨"weighed", (["values", "others", "value", "other"] : List Str), ["values", "others"], defArgs (topI 18), defBody (topI 18), defScope (topI 18), b_weighed⟩
def b_ratio_text : List S := [
  .ret (.ite (.cmp .eq (.sub (.var 0) (.con (.int 1))) (.con (.int 1))) (.blt .str [(.sub (.var 0) (.con (.int 0)))]) (.fstr [(.sub (.var 0) (.con (.int 0))), (.con (.str "/")), (.sub (.var 0) (.con (.int 1)))]))]
def q_ratio_text : DefX := ⟨"ratio_text", (["value"] : List Str), ["value"], defArgs (topI 19), defBody (topI 19), defScope (topI 19), b_ratio_text⟩
def b__law_same : List S := [
  .ret (.cmp .eq (.blt .repr [(.lst [(.var 0)])]) (.blt .repr [(.lst [(.var 1)])]))]
def q__law_same : DefX := ⟨"_law_same", (["told", "due"] : List Str), ["told", "due"], defArgs (topI 21), defBody (topI 21), defScope (topI 21), b__law_same⟩
def b__law_stream : List S := [
  .asg 1 (.lst []),
  .for_ (.v 2) (.e (.slc (.var 0) none (some (.con (.int 63))))) [
    .asg 3 (.blt .abs [(.blt .int [(.var 2)])]),
    .ife (.cmp .ge (.var 3) (.bin .pow (.con (.int 10)) (.con (.int 18)))) [
      .for_ (.v 4) (.r1 (.con (.int 60))) [
        .app 1 (.bin .mod (.blt .int [(.var 3)]) (.con (.int 1009))),
        .asg 3 (.bin .fdiv (.var 3) (.con (.int 1009))),
        .ife (.cmp .eq (.var 3) (.con (.int 0))) [
          .brk] []]] [
      .asg 5 (.bin .mod (.blt .int [(.var 3)]) (.con (.int 2147483647))),
      .for_ (.v 4) (.r1 (.con (.int 10))) [
        .asg 5 (.bin .mod (.blt .int [(.bin .add (.bin .add (.bin .mul (.var 5) (.con (.int 48271))) (.bin .mul (.con (.int 7)) (.var 4))) (.con (.int 11)))]) (.con (.int 2147483647))),
        .app 1 (.bin .mod (.bin .mod (.blt .int [(.bin .add (.bin .mul (.var 5) (.con (.int 69621))) (.var 4))]) (.con (.int 2147483629))) (.con (.int 1009)))]]],
  .ife (.cmp .eq (.blt .len [(.var 1)]) (.con (.int 0))) [
    .app 1 (.con (.int 0))] [],
  .ret (.var 1)]
def q__law_stream : DefX := ⟨"_law_stream", (["script", "numbers", "cell", "rest", "k", "stirred"] : List Str), ["script"], defArgs (topI 22), defBody (topI 22), defScope (topI 22), b__law_stream⟩
def b__law_next : List S := [
  .six 0 (.con (.int 1)) (.bin .add (.sub (.var 0) (.con (.int 1))) (.con (.int 1))),
  .asg 2 (.bin .fdiv (.sub (.var 0) (.con (.int 1))) (.blt .len [(.sub (.var 0) (.con (.int 0)))])),
  .ret (.bin .mod (.blt .int [(.bin .add (.bin .add (.sub (.sub (.var 0) (.con (.int 0))) (.bin .mod (.sub (.var 0) (.con (.int 1))) (.blt .len [(.sub (.var 0) (.con (.int 0)))]))) (.bin .mul (.var 2) (.con (.int 389)))) (.bin .mul (.bin .mul (.sub (.var 0) (.con (.int 1))) (.var 2)) (.con (.int 17))))]) (.var 1))]
def q__law_next : DefX := ⟨"_law_next", (["state", "many", "turn"] : List Str), ["state", "many"], defArgs (topI 23), defBody (topI 23), defScope (topI 23), b__law_next⟩
def b__law_divisor : List S := [
  .asg 0 (.blt .max [(.var 0), (.bin .sub (.con (.int 0)) (.var 0))]),
  .asg 1 (.blt .max [(.var 1), (.bin .sub (.con (.int 0)) (.var 1))]),
  .whl (.cmp .gt (.var 1) (.con (.int 0))) [
    .par [0, 1] [(.var 1), (.bin .mod (.blt .int [(.var 0)]) (.var 1))]],
  .ret (.var 0)]
def q__law_divisor : DefX := ⟨"_law_divisor", (["first", "second"] : List Str), ["first", "second"], defArgs (topI 25), defBody (topI 25), defScope (topI 25), b__law_divisor⟩
def b__law_ratio : List S := [
  .asg 2 (.call "_law_divisor" [(.var 0), (.var 1)]),
  .ife (.cmp .lt (.var 1) (.con (.int 0))) [
    .asg 2 (.bin .sub (.con (.int 0)) (.var 2))] [],
  .ret (.tup [(.bin .fdiv (.var 0) (.var 2)), (.bin .fdiv (.var 1) (.var 2))])]
def q__law_ratio : DefX := ⟨"_law_ratio", (["top", "below", "common"] : List Str), ["top", "below"], defArgs (topI 26), defBody (topI 26), defScope (topI 26), b__law_ratio⟩
def b__law_plus : List S := [
  .ret (.call "_law_ratio" [(.bin .add (.bin .mul (.sub (.var 0) (.con (.int 0))) (.sub (.var 1) (.con (.int 1)))) (.bin .mul (.sub (.var 1) (.con (.int 0))) (.sub (.var 0) (.con (.int 1))))), (.bin .mul (.sub (.var 0) (.con (.int 1))) (.sub (.var 1) (.con (.int 1))))])]
def q__law_plus : DefX := ⟨"_law_plus", (["first", "second"] : List Str), ["first", "second"], defArgs (topI 27), defBody (topI 27), defScope (topI 27), b__law_plus⟩
def b__law_sum : List S := [
  .asg 1 (.tup [(.con (.int 0)), (.con (.int 1))]),
  .for_ (.v 2) (.e (.var 0)) [
    .asg 1 (.call "_law_plus" [(.var 1), (.var 2)])],
  .ret (.var 1)]
def q__law_sum : DefX := ⟨"_law_sum", (["values", "total", "value"] : List Str), ["values"], defArgs (topI 28), defBody (topI 28), defScope (topI 28), b__law_sum⟩
def b__law_less : List S := [
  .ret (.cmp .lt (.bin .mul (.sub (.var 0) (.con (.int 0))) (.sub (.var 1) (.con (.int 1)))) (.bin .mul (.sub (.var 1) (.con (.int 0))) (.sub (.var 0) (.con (.int 1)))))]
def q__law_less : DefX := ⟨"_law_less", (["first", "second"] : List Str), ["first", "second"], defArgs (topI 29), defBody (topI 29), defScope (topI 29), b__law_less⟩
def b__law_is_ratio : List S := [
  .ret (.and (.cmp .eq (.blt .len [(.var 0)]) (.con (.int 2))) (.and (.cmp .gt (.sub (.var 0) (.con (.int 1))) (.con (.int 0))) (.cmp .eq (.call "_law_divisor" [(.sub (.var 0) (.con (.int 0))), (.sub (.var 0) (.con (.int 1)))]) (.con (.int 1)))))]
def q__law_is_ratio : DefX := ⟨"_law_is_ratio", (["value"] : List Str), ["value"], defArgs (topI 30), defBody (topI 30), defScope (topI 30), b__law_is_ratio⟩
def b__law_drawn : List S := [
  .asg 1 (.bin .sub (.call "_law_next" [(.var 0), (.con (.int 400))]) (.con (.int 200))),
  .ret (.call "_law_ratio" [(.bin .mul (.var 1) (.sub (.lst [(.con (.int 1)), (.bin .pow (.con (.int 10)) (.con (.int 6)))]) (.blt .int [(.cmp .eq (.call "_law_next" [(.var 0), (.con (.int 5))]) (.con (.int 0)))]))), (.bin .add (.con (.int 1)) (.call "_law_next" [(.var 0), (.con (.int 60))]))])]
def q__law_drawn : DefX := ⟨"_law_drawn", (["state", "top"] : List Str), ["state"], defArgs (topI 31), defBody (topI 31), defScope (topI 31), b__law_drawn⟩
def qs : List DefX := [q_divisor, q_ratio, q_is_ratio, q_added, q_negative, q_times, q_over, q_less, q_greatest, q_summed, q_weighed, q_ratio_text, q__law_same, q__law_stream, q__law_next, q__law_divisor, q__law_ratio, q__law_plus, q__law_sum, q__law_less] ++ [q__law_is_ratio, q__law_drawn]
def pr : Pr := ⟨qs.map fun q => (q.x, FnD.user q.ps.length q.N.length q.bs), [], [], []⟩
def b_law : List S := [
  .for_ (.v 2) (.r1 (.con (.int 12))) [
    .asg 3 (.bin .sub (.call "_law_next" [(.var 1), (.con (.int 900))]) (.con (.int 450))),
    .asg 4 (.sub (.lst [(.bin .add (.con (.int 1)) (.call "_law_next" [(.var 1), (.con (.int 80))])), (.bin .sub (.bin .sub (.con (.int 0)) (.con (.int 1))) (.call "_law_next" [(.var 1), (.con (.int 80))]))]) (.call "_law_next" [(.var 1), (.con (.int 2))])),
    .asg 5 (.call "_law_drawn" [(.var 1)]),
    .asg 6 (.call "_law_drawn" [(.var 1)]),
    .asg 7 (.comp (.call "_law_drawn" [(.var 1)]) (.v 12) (.r1 (.bin .add (.con (.int 1)) (.call "_law_next" [(.var 1), (.con (.int 5))]))) [] [12]),
    .asg 8 (.comp (.call "_law_drawn" [(.var 1)]) (.v 14) (.e (.var 7)) [] [14]),
    .ife (.not (.call "_law_same" [(.lst [(.call "ratio" [(.var 3), (.var 4)]), (.call "is_ratio" [(.var 5)]), (.call "is_ratio" [(.tup [(.bin .mul (.con (.int 2)) (.sub (.var 5) (.con (.int 0)))), (.bin .mul (.con (.int 2)) (.sub (.var 5) (.con (.int 1))))])]), (.call "is_ratio" [(.tup [(.con (.int 1)), (.con (.int 0))])]), (.call "is_ratio" [(.tup [(.con (.int 3)), (.neg (.con (.int 1)))])])]), (.lst [(.call "_law_ratio" [(.var 3), (.var 4)]), (.con (.bl true)), (.con (.bl false)), (.con (.bl false)), (.con (.bl false))])])) [
      .ret (.con (.bl false))] [],
    .asg 9 (.lst [(.call "_law_plus" [(.var 5), (.var 6)]), (.tup [(.bin .sub (.con (.int 0)) (.sub (.var 5) (.con (.int 0)))), (.sub (.var 5) (.con (.int 1)))]), (.call "_law_ratio" [(.bin .mul (.sub (.var 5) (.con (.int 0))) (.sub (.var 6) (.con (.int 0)))), (.bin .mul (.sub (.var 5) (.con (.int 1))) (.sub (.var 6) (.con (.int 1))))]), (.call "_law_less" [(.var 5), (.var 6)])]),
    .ife (.not (.call "_law_same" [(.lst [(.call "added" [(.var 5), (.var 6)]), (.call "negative" [(.var 5)]), (.call "times" [(.var 5), (.var 6)]), (.call "less" [(.var 5), (.var 6)])]), (.var 9)])) [
      .ret (.con (.bl false))] [],
    .ife (.and (.cmp .ne (.sub (.var 6) (.con (.int 0))) (.con (.int 0))) (.not (.call "_law_same" [(.call "over" [(.var 5), (.var 6)]), (.call "_law_ratio" [(.bin .mul (.sub (.var 5) (.con (.int 0))) (.sub (.var 6) (.con (.int 1)))), (.bin .mul (.sub (.var 5) (.con (.int 1))) (.sub (.var 6) (.con (.int 0))))])]))) [
      .ret (.con (.bl false))] [],
    .asg 10 (.sub (.var 7) (.con (.int 0))),
    .asg 11 (.tup [(.con (.int 0)), (.con (.int 1))]),
    .for_ (.v 12) (.r1 (.blt .len [(.var 7)])) [
      .asg 10 (.sub (.lst [(.var 10), (.sub (.var 7) (.var 12))]) (.blt .int [(.call "_law_less" [(.var 10), (.sub (.var 7) (.var 12))])])),
      .asg 11 (.call "_law_plus" [(.var 11), (.call "_law_ratio" [(.bin .mul (.sub (.sub (.var 7) (.var 12)) (.con (.int 0))) (.sub (.sub (.var 8) (.var 12)) (.con (.int 0)))), (.bin .mul (.sub (.sub (.var 7) (.var 12)) (.con (.int 1))) (.sub (.sub (.var 8) (.var 12)) (.con (.int 1))))])])],
    .ife (.not (.call "_law_same" [(.lst [(.call "greatest" [(.var 7)]), (.call "summed" [(.var 7)]), (.call "weighed" [(.var 7), (.var 8)])]), (.lst [(.var 10), (.call "_law_sum" [(.var 7)]), (.var 11)])])) [
      .ret (.con (.bl false))] [],
    .asg 13 (.blt .str [(.sub (.var 5) (.con (.int 0)))]),
    .ife (.cmp .ne (.sub (.var 5) (.con (.int 1))) (.con (.int 1))) [
      .asg 13 (.bin .add (.bin .add (.var 13) (.con (.str "/"))) (.blt .str [(.sub (.var 5) (.con (.int 1)))]))] [],
    .ife (.not (.call "_law_same" [(.call "ratio_text" [(.var 5)]), (.var 13)])) [
      .ret (.con (.bl false))] []],
  .ret (.con (.bl true))]
def lw : LawX := ⟨(["script", "state", "turn", "top", "below", "one", "other", "rows", "more", "due", "best", "total", "k", "text", "row"] : List Str), defArgs (topI 32), defBody (topI 32), defScope (topI 32), 1, .call "_law_stream" [.var 0], b_law⟩
theorem all_c {α : Type} {p : α → Prop} {a : α} {l : List α} (h : p a) (t : ∀ q, q ∈ l → p q) : ∀ q, q ∈ a :: l → p q := fun q hq => (List.mem_cons.mp hq).elim (fun e => by rw [e]; exact h) (t q)
theorem all_n {α : Type} {p : α → Prop} : ∀ q, q ∈ ([] : List α) → p q := fun _ h => nomatch h
theorem txt : TxtOk C pr qs lw := by
  refine ⟨by kernel_rfl, by kernel_rfl, by kernel_rfl, ?_, ?_, ?_, ⟨⟨_, _, _, _, _, _, _, _, rfl, by kernel_rfl, by kernel_rfl, by kernel_rfl⟩, scopeOf (by kernel_rfl)⟩, fun _ _ _ _ _ _ us hl => match us, hl with | [_], _ => rfl⟩
  · exact all_c (fun _ _ _ _ _ _ us hl => match us, hl with | [_, _], _ => rfl) (all_c (fun _ _ _ _ _ _ us hl => match us, hl with | [_, _], _ => rfl) (all_c (fun _ _ _ _ _ _ us hl => match us, hl with | [_], _ => rfl) (all_c (fun _ _ _ _ _ _ us hl => match us, hl with | [_, _], _ => rfl) (all_c (fun _ _ _ _ _ _ us hl => match us, hl with | [_], _ => rfl) (all_c (fun _ _ _ _ _ _ us hl => match us, hl with | [_, _], _ => rfl) (all_c (fun _ _ _ _ _ _ us hl => match us, hl with | [_, _], _ => rfl) (all_c (fun _ _ _ _ _ _ us hl => match us, hl with | [_, _], _ => rfl) (all_c (fun _ _ _ _ _ _ us hl => match us, hl with | [_], _ => rfl) (all_c (fun _ _ _ _ _ _ us hl => match us, hl with | [_], _ => rfl) (all_c (fun _ _ _ _ _ _ us hl => match us, hl with | [_, _], _ => rfl) (all_c (fun _ _ _ _ _ _ us hl => match us, hl with | [_], _ => rfl) (all_c (fun _ _ _ _ _ _ us hl => match us, hl with | [_, _], _ => rfl) (all_c (fun _ _ _ _ _ _ us hl => match us, hl with | [_], _ => rfl) (all_c (fun _ _ _ _ _ _ us hl => match us, hl with | [_, _], _ => rfl) (all_c (fun _ _ _ _ _ _ us hl => match us, hl with | [_, _], _ => rfl) (all_c (fun _ _ _ _ _ _ us hl => match us, hl with | [_, _], _ => rfl) (all_c (fun _ _ _ _ _ _ us hl => match us, hl with | [_, _], _ => rfl) (all_c (fun _ _ _ _ _ _ us hl => match us, hl with | [_], _ => rfl) (all_c (fun _ _ _ _ _ _ us hl => match us, hl with | [_, _], _ => rfl) (all_c (fun _ _ _ _ _ _ us hl => match us, hl with | [_], _ => rfl) (all_c (fun _ _ _ _ _ _ us hl => match us, hl with | [_], _ => rfl) (all_n))))))))))))))))))))))
  · exact all_c (by kernel_rfl) (all_c (by kernel_rfl) (all_c (by kernel_rfl) (all_c (by kernel_rfl) (all_c (by kernel_rfl) (all_c (by kernel_rfl) (all_c (by kernel_rfl) (all_c (by kernel_rfl) (all_c (by kernel_rfl) (all_c (by kernel_rfl) (all_c (by kernel_rfl) (all_c (by kernel_rfl) (all_c (by kernel_rfl) (all_c (by kernel_rfl) (all_c (by kernel_rfl) (all_c (by kernel_rfl) (all_c (by kernel_rfl) (all_c (by kernel_rfl) (all_c (by kernel_rfl) (all_c (by kernel_rfl) (all_c (by kernel_rfl) (all_c (by kernel_rfl) (all_n))))))))))))))))))))))
  · exact all_c (by kernel_rfl) (all_c (by kernel_rfl) (all_c (by kernel_rfl) (all_c (by kernel_rfl) (all_c (by kernel_rfl) (all_c (by kernel_rfl) (all_c (by kernel_rfl) (all_c (by kernel_rfl) (all_c (by kernel_rfl) (all_c (by kernel_rfl) (all_c (by kernel_rfl) (all_c (by kernel_rfl) (all_c (by kernel_rfl) (all_c (by kernel_rfl) (all_c (by kernel_rfl) (all_c (by kernel_rfl) (all_c (by kernel_rfl) (all_c (by kernel_rfl) (all_c (by kernel_rfl) (all_c (by kernel_rfl) (all_c (by kernel_rfl) (all_c (by kernel_rfl) (all_n))))))))))))))))))))))
end Lw
end
section
set_option Elab.async false
set_option linter.all false
set_option maxRecDepth 100000
set_option maxHeartbeats 0
namespace Lw
open PySem PySem.Spec PyProof.Rows L2 PD
def faL : List He.Fa := faOf qs C.excs
def fnL : List He.DefD := fnOf qs lw
abbrev Rw : PySem.W.OpenRow := PySem.W.OpenLaw.row PySem.Challenge.rw_madeofprimes_k01_ratios
abbrev hkL : PySem.W.Hook := He.hookX 5 faL fnL [] [] (fun _ => true)
def obL (s : PySem.W.SharedT) : He.AlX := He.obsX 5 faL fnL [] [] (fun _ => true) (HandSHeadRun.getT s)
theorem obL_eq (s : PySem.W.SharedT) : obL s = hkL.obs s.abs := He.obsX_eq (HandSHeadRun.getT_eq s)
def looseL : List Str := (["PrimeError", "NotAllowed", "TooLarge", "Missing", "BadForm", "Broken", "divisor", "ratio", "is_ratio", "added", "negative", "times", "over", "less", "greatest", "summed", "weighed", "ratio_text", "_law_same", "_law_stream", "_law_next", "_law_told", "_law_divisor", "_law_ratio", "_law_plus", "_law_sum", "_law_less", "_law_is_ratio", "_law_drawn"] : List Str)
theorem runL (w : World) : HandSHeadRun.RunEq Rw (PySem.W.view Rw.prog [32]) hkL obL 20000 looseL w := by
  intro os
  kernel_rfl
end Lw
end
section
set_option Elab.async false
set_option linter.all false
set_option maxRecDepth 100000
set_option maxHeartbeats 4000000
namespace Lw
open PySem PD
theorem lk_divisor : Has pr "divisor" 2 2 b_divisor := by kernel_rfl
theorem lk_ldivisor : Has pr "_law_divisor" 2 2 b__law_divisor := by kernel_rfl
theorem lk_ratio : Has pr "ratio" 2 3 b_ratio := by kernel_rfl
theorem lk_lratio : Has pr "_law_ratio" 2 3 b__law_ratio := by kernel_rfl
theorem lk_is : Has pr "is_ratio" 1 1 b_is_ratio := by kernel_rfl
theorem lk_added : Has pr "added" 2 2 b_added := by kernel_rfl
theorem lk_negative : Has pr "negative" 1 1 b_negative := by kernel_rfl
theorem lk_times : Has pr "times" 2 2 b_times := by kernel_rfl
theorem lk_over : Has pr "over" 2 2 b_over := by kernel_rfl
theorem lk_less : Has pr "less" 2 2 b_less := by kernel_rfl
theorem lk_greatest : Has pr "greatest" 1 3 b_greatest := by kernel_rfl
theorem lk_summed : Has pr "summed" 1 3 b_summed := by kernel_rfl
theorem lk_weighed : Has pr "weighed" 2 4 b_weighed := by kernel_rfl
theorem lk_text : Has pr "ratio_text" 1 1 b_ratio_text := by kernel_rfl
theorem lk_same : Has pr "_law_same" 2 2 bSame := by kernel_rfl
theorem lk_stream : Has pr "_law_stream" 1 6 bStream := by kernel_rfl
theorem lk_next : Has pr "_law_next" 2 3 bNext := by kernel_rfl
theorem lk_plus : Has pr "_law_plus" 2 2 b__law_plus := by kernel_rfl
theorem lk_lsum : Has pr "_law_sum" 1 3 b__law_sum := by kernel_rfl
theorem lk_lless : Has pr "_law_less" 2 2 b__law_less := by kernel_rfl
theorem lk_drawn : Has pr "_law_drawn" 1 2 b__law_drawn := by kernel_rfl
variable {d : Nat} {w : W}
/-! ### the greatest common divisor -/
def cGt : E := .cmp .gt (.var 1) (.con (.int 0))
theorem gcd_loop {B : List S} (hB : ∀ (a b : Nat) (w : W), b ≠ 0 → (vL pr d 30).b B [.sh (.int a), .sh (.int b)] w = .ok ([.sh (.int b), .sh (.int ((a % b : Nat) : Int))], .nx) w) :
    ∀ (n b a : Nat) (w : W), b ≤ n → wfL pr d cGt B [.sh (.int a), .sh (.int b)] w = .ok ([.sh (.int (Nat.gcd a b : Nat)), .sh (.int 0)], .nx) w := by
  intro n
  induction n with
  | zero =>
    intro b a w hb
    obtain rfl : b = 0 := by omega
    refine wfL_step 30 ?_ (by simp)
    have e : (vL pr d 30).e cGt [.sh (.int a), .sh (.int (0 : Nat))] w = .ok (.bl false) w := by
      simp only [cGt, b_cons, b_nil, s_ife, s_asg', s_asgT', s_parK, par_ii, s_ex, s_whl, s_for, s_ret, s_retN, s_brk, s_pass, s_raise, v_var, v_con, v_bin, v_neg, v_not, v_and, v_or, v_cmp, v_chn, v_ite, v_tup, v_lst, v_call, v_blt, v_sub, v_slc, v_rev, v_comp, v_fstr, es_nil, es_cons, o_none, o_some, o_i, i_l, i_t, it_e, it_r1, it_zip, r_ok, r_exc, r_some, r_nok, br_b, br_t, br_f, n_nx, n_bk, n_rt, ret_rt, ret_exc, rd_0, rd_o, rd_s, put_int, put_bl, put_str, x_add, x_sub, x_neg, c_eq, c_ne, c_lt, c_gt, c_le, c_ge, t_bl, t_int, l_abs, l_int, l_bl, l_max, u_t, u_l, u_t0, u_t1, u_l0, u_l1, u_st0, u_st1, List.map_cons, List.map_nil, List.replicate, List.cons_append, List.nil_append, List.set_cons_zero, List.set_cons_succ, Option.map_some, List.length_cons, List.length_nil, decide_true, if_true, Bool.false_eq_true, if_false, Bool.not_true, Bool.not_false, Nat.reduceAdd, Nat.reduceSub]
      simp
    unfold whlV
    rw [e, r_okb]
    simp [truth]
  | succ n ih =>
    intro b a w hb
    by_cases h0 : b = 0
    · exact ih b a w (by omega)
    · refine wfL_step 30 ?_ (by simp)
      have e : (vL pr d 30).e cGt [.sh (.int a), .sh (.int b)] w = .ok (.bl true) w := by
        simp only [cGt, b_cons, b_nil, s_ife, s_asg', s_asgT', s_parK, par_ii, s_ex, s_whl, s_for, s_ret, s_retN, s_brk, s_pass, s_raise, v_var, v_con, v_bin, v_neg, v_not, v_and, v_or, v_cmp, v_chn, v_ite, v_tup, v_lst, v_call, v_blt, v_sub, v_slc, v_rev, v_comp, v_fstr, es_nil, es_cons, o_none, o_some, o_i, i_l, i_t, it_e, it_r1, it_zip, r_ok, r_exc, r_some, r_nok, br_b, br_t, br_f, n_nx, n_bk, n_rt, ret_rt, ret_exc, rd_0, rd_o, rd_s, put_int, put_bl, put_str, x_add, x_sub, x_neg, c_eq, c_ne, c_lt, c_gt, c_le, c_ge, t_bl, t_int, l_abs, l_int, l_bl, l_max, u_t, u_l, u_t0, u_t1, u_l0, u_l1, u_st0, u_st1, List.map_cons, List.map_nil, List.replicate, List.cons_append, List.nil_append, List.set_cons_zero, List.set_cons_succ, Option.map_some, List.length_cons, List.length_nil, decide_true, if_true, Bool.false_eq_true, if_false, Bool.not_true, Bool.not_false, Nat.reduceAdd, Nat.reduceSub]
        simp
        omega
      have hlt : a % b < b := Nat.mod_lt _ (by omega)
      have q := ih (a % b) b w (by omega)
      unfold whlV
      rw [e, r_okb]
      show R.bind ((vL pr d 30).b B _ w) _ = _
      rw [hB a b w h0, r_okb]
      show (vL pr d 30).b [.whl cGt B] _ w = _
      simp only [b_cons, s_whl, q, r_ok, n_nx, b_nil]
      rw [show Nat.gcd b (a % b) = Nat.gcd a b by rw [Nat.gcd_comm a b, Nat.gcd_rec b a, Nat.gcd_comm]]
theorem abs_n (i : Int) : (if i < 0 then -i else i) = (i.natAbs : Int) := by split <;> omega
theorem max_n (i : Int) : (if 0 - i > i then 0 - i else i) = (i.natAbs : Int) := by split <;> omega
theorem mod_n (a b : Nat) (h : b ≠ 0) : fmodI a b = ((a % b : Nat) : Int) := by
  unfold fmodI
  rw [if_pos (by omega)]
  omega
def gI (a b : Int) : Int := ((Nat.gcd a.natAbs b.natAbs : Nat) : Int)
theorem divisor_sp (a b : Int) : cfL pr (d + 1) "divisor" [.int a, .int b] w = .ok (.int (gI a b)) w := by
  refine cf_of 31 lk_divisor rfl ?_ (by simp)
  have q := gcd_loop (d := d) (B := [.par [0, 1] [(.var 1), (.bin .mod (.var 0) (.var 1))]]) (fun a b w h => by
    simp only [b_cons, b_nil, s_ife, s_asg', s_asgT', s_parK, par_ii, s_ex, s_whl, s_for, s_ret, s_retN, s_brk, s_pass, s_raise, v_var, v_con, v_bin, v_neg, v_not, v_and, v_or, v_cmp, v_chn, v_ite, v_tup, v_lst, v_call, v_blt, v_sub, v_slc, v_rev, v_comp, v_fstr, es_nil, es_cons, o_none, o_some, o_i, i_l, i_t, it_e, it_r1, it_zip, r_ok, r_exc, r_some, r_nok, br_b, br_t, br_f, n_nx, n_bk, n_rt, ret_rt, ret_exc, rd_0, rd_o, rd_s, put_int, put_bl, put_str, x_add, x_sub, x_neg, c_eq, c_ne, c_lt, c_gt, c_le, c_ge, t_bl, t_int, l_abs, l_int, l_bl, l_max, u_t, u_l, u_t0, u_t1, u_l0, u_l1, u_st0, u_st1, List.map_cons, List.map_nil, List.replicate, List.cons_append, List.nil_append, List.set_cons_zero, List.set_cons_succ, Option.map_some, List.length_cons, List.length_nil, decide_true, if_true, Bool.false_eq_true, if_false, Bool.not_true, Bool.not_false, Nat.reduceAdd, Nat.reduceSub, x_mod (show (b : Int) ≠ 0 by omega), mod_n a b h]) b.natAbs b.natAbs a.natAbs w (Nat.le_refl _)
  unfold cGt at q
  simp only [b_divisor, b_cons, b_nil, s_ife, s_asg', s_asgT', s_parK, par_ii, s_ex, s_whl, s_for, s_ret, s_retN, s_brk, s_pass, s_raise, v_var, v_con, v_bin, v_neg, v_not, v_and, v_or, v_cmp, v_chn, v_ite, v_tup, v_lst, v_call, v_blt, v_sub, v_slc, v_rev, v_comp, v_fstr, es_nil, es_cons, o_none, o_some, o_i, i_l, i_t, it_e, it_r1, it_zip, r_ok, r_exc, r_some, r_nok, br_b, br_t, br_f, n_nx, n_bk, n_rt, ret_rt, ret_exc, rd_0, rd_o, rd_s, put_int, put_bl, put_str, x_add, x_sub, x_neg, c_eq, c_ne, c_lt, c_gt, c_le, c_ge, t_bl, t_int, l_abs, l_int, l_bl, l_max, u_t, u_l, u_t0, u_t1, u_l0, u_l1, u_st0, u_st1, List.map_cons, List.map_nil, List.replicate, List.cons_append, List.nil_append, List.set_cons_zero, List.set_cons_succ, Option.map_some, List.length_cons, List.length_nil, decide_true, if_true, Bool.false_eq_true, if_false, Bool.not_true, Bool.not_false, Nat.reduceAdd, Nat.reduceSub, abs_n, q]
  rfl
theorem ldivisor_sp (a b : Int) : cfL pr (d + 1) "_law_divisor" [.int a, .int b] w = .ok (.int (gI a b)) w := by
  refine cf_of 31 lk_ldivisor rfl ?_ (by simp)
  have q := gcd_loop (d := d) (B := [.par [0, 1] [(.var 1), (.bin .mod (.blt .int [(.var 0)]) (.var 1))]]) (fun a b w h => by
    simp only [b_cons, b_nil, s_ife, s_asg', s_asgT', s_parK, par_ii, s_ex, s_whl, s_for, s_ret, s_retN, s_brk, s_pass, s_raise, v_var, v_con, v_bin, v_neg, v_not, v_and, v_or, v_cmp, v_chn, v_ite, v_tup, v_lst, v_call, v_blt, v_sub, v_slc, v_rev, v_comp, v_fstr, es_nil, es_cons, o_none, o_some, o_i, i_l, i_t, it_e, it_r1, it_zip, r_ok, r_exc, r_some, r_nok, br_b, br_t, br_f, n_nx, n_bk, n_rt, ret_rt, ret_exc, rd_0, rd_o, rd_s, put_int, put_bl, put_str, x_add, x_sub, x_neg, c_eq, c_ne, c_lt, c_gt, c_le, c_ge, t_bl, t_int, l_abs, l_int, l_bl, l_max, u_t, u_l, u_t0, u_t1, u_l0, u_l1, u_st0, u_st1, List.map_cons, List.map_nil, List.replicate, List.cons_append, List.nil_append, List.set_cons_zero, List.set_cons_succ, Option.map_some, List.length_cons, List.length_nil, decide_true, if_true, Bool.false_eq_true, if_false, Bool.not_true, Bool.not_false, Nat.reduceAdd, Nat.reduceSub, x_mod (show (b : Int) ≠ 0 by omega), mod_n a b h]) b.natAbs b.natAbs a.natAbs w (Nat.le_refl _)
  unfold cGt at q
  simp only [b__law_divisor, b_cons, b_nil, s_ife, s_asg', s_asgT', s_parK, par_ii, s_ex, s_whl, s_for, s_ret, s_retN, s_brk, s_pass, s_raise, v_var, v_con, v_bin, v_neg, v_not, v_and, v_or, v_cmp, v_chn, v_ite, v_tup, v_lst, v_call, v_blt, v_sub, v_slc, v_rev, v_comp, v_fstr, es_nil, es_cons, o_none, o_some, o_i, i_l, i_t, it_e, it_r1, it_zip, r_ok, r_exc, r_some, r_nok, br_b, br_t, br_f, n_nx, n_bk, n_rt, ret_rt, ret_exc, rd_0, rd_o, rd_s, put_int, put_bl, put_str, x_add, x_sub, x_neg, c_eq, c_ne, c_lt, c_gt, c_le, c_ge, t_bl, t_int, l_abs, l_int, l_bl, l_max, u_t, u_l, u_t0, u_t1, u_l0, u_l1, u_st0, u_st1, List.map_cons, List.map_nil, List.replicate, List.cons_append, List.nil_append, List.set_cons_zero, List.set_cons_succ, Option.map_some, List.length_cons, List.length_nil, decide_true, if_true, Bool.false_eq_true, if_false, Bool.not_true, Bool.not_false, Nat.reduceAdd, Nat.reduceSub, max_n, q]
  rfl
/-! ### ratios -/
abbrev Q := Int × Int
def tD (x : Q) : D := .tup [.int x.1, .int x.2]
def rt (a b : Int) : Q := (fdivI a (if b < 0 then -(gI a b) else gI a b), fdivI b (if b < 0 then -(gI a b) else gI a b))
/-- numbers of few bits -/
def Bd (k : Nat) (x : Q) : Prop := x.1.natAbs < 2 ^ k ∧ x.2.natAbs < 2 ^ k ∧ x.2 ≠ 0
theorem gI_pos {a b : Int} (h : b ≠ 0) : 0 < gI a b := by
  unfold gI
  have := Nat.gcd_pos_of_pos_right a.natAbs (show 0 < b.natAbs by omega)
  omega
theorem gI_le {a b : Int} (h : b ≠ 0) : (gI a b).natAbs ≤ b.natAbs := by
  unfold gI
  have := Nat.gcd_le_right a.natAbs (show 0 < b.natAbs by omega)
  omega
theorem gI_dv {a b : Int} {k : Nat} (h : b ≠ 0) (hb : b.natAbs < 2 ^ k) (hk : k < 9000) : divOk (gI a b) = true ∧ divOk (-(gI a b)) = true := by
  have h1 := gI_pos (a := a) h
  have h2 := gI_le (a := a) h
  exact ⟨div_ok k (by omega) (by omega) hk, div_ok k (by omega) (by rw [Int.natAbs_neg]; omega) hk⟩
theorem ratio_sp {a b : Int} {k : Nat} (hb : b ≠ 0) (hk : b.natAbs < 2 ^ k) (hk2 : k < 9000) : cfL pr (d + 2) "ratio" [.int a, .int b] w = .ok (tD (rt a b)) w := by
  obtain ⟨hg0, hg1⟩ := gI_dv (a := a) hb hk hk2
  have e0 : decide (b = 0) = false := by simpa using hb
  refine cf_of 30 lk_ratio rfl ?_ (by simp)
  unfold tD rt
  by_cases hb0 : b < 0
  · simp only [b_ratio, b_cons, b_nil, s_ife, s_asg', s_asgT', s_parK, par_ii, s_ex, s_whl, s_for, s_ret, s_retN, s_brk, s_pass, s_raise, v_var, v_con, v_bin, v_neg, v_not, v_and, v_or, v_cmp, v_chn, v_ite, v_tup, v_lst, v_call, v_blt, v_sub, v_slc, v_rev, v_comp, v_fstr, es_nil, es_cons, o_none, o_some, o_i, i_l, i_t, it_e, it_r1, it_zip, r_ok, r_exc, r_some, r_nok, br_b, br_t, br_f, n_nx, n_bk, n_rt, ret_rt, ret_exc, rd_0, rd_o, rd_s, put_int, put_bl, put_str, x_add, x_sub, x_neg, c_eq, c_ne, c_lt, c_gt, c_le, c_ge, t_bl, t_int, l_abs, l_int, l_bl, l_max, u_t, u_l, u_t0, u_t1, u_l0, u_l1, u_st0, u_st1, List.map_cons, List.map_nil, List.replicate, List.cons_append, List.nil_append, List.set_cons_zero, List.set_cons_succ, Option.map_some, List.length_cons, List.length_nil, decide_true, if_true, Bool.false_eq_true, if_false, Bool.not_true, Bool.not_false, Nat.reduceAdd, Nat.reduceSub, e0, divisor_sp, hb0, x_fdiv, hg0, hg1, sz2]
  · simp only [b_ratio, b_cons, b_nil, s_ife, s_asg', s_asgT', s_parK, par_ii, s_ex, s_whl, s_for, s_ret, s_retN, s_brk, s_pass, s_raise, v_var, v_con, v_bin, v_neg, v_not, v_and, v_or, v_cmp, v_chn, v_ite, v_tup, v_lst, v_call, v_blt, v_sub, v_slc, v_rev, v_comp, v_fstr, es_nil, es_cons, o_none, o_some, o_i, i_l, i_t, it_e, it_r1, it_zip, r_ok, r_exc, r_some, r_nok, br_b, br_t, br_f, n_nx, n_bk, n_rt, ret_rt, ret_exc, rd_0, rd_o, rd_s, put_int, put_bl, put_str, x_add, x_sub, x_neg, c_eq, c_ne, c_lt, c_gt, c_le, c_ge, t_bl, t_int, l_abs, l_int, l_bl, l_max, u_t, u_l, u_t0, u_t1, u_l0, u_l1, u_st0, u_st1, List.map_cons, List.map_nil, List.replicate, List.cons_append, List.nil_append, List.set_cons_zero, List.set_cons_succ, Option.map_some, List.length_cons, List.length_nil, decide_true, if_true, Bool.false_eq_true, if_false, Bool.not_true, Bool.not_false, Nat.reduceAdd, Nat.reduceSub, e0, divisor_sp, hb0, x_fdiv, hg0, hg1, sz2, decide_false]
theorem lratio_sp {a b : Int} {k : Nat} (hb : b ≠ 0) (hk : b.natAbs < 2 ^ k) (hk2 : k < 9000) : cfL pr (d + 2) "_law_ratio" [.int a, .int b] w = .ok (tD (rt a b)) w := by
  obtain ⟨hg0, hg1⟩ := gI_dv (a := a) hb hk hk2
  have ez : (0 : Int) - gI a b = -(gI a b) := by omega
  refine cf_of 30 lk_lratio rfl ?_ (by simp)
  unfold tD rt
  by_cases hb0 : b < 0
  · simp only [b__law_ratio, b_cons, b_nil, s_ife, s_asg', s_asgT', s_parK, par_ii, s_ex, s_whl, s_for, s_ret, s_retN, s_brk, s_pass, s_raise, v_var, v_con, v_bin, v_neg, v_not, v_and, v_or, v_cmp, v_chn, v_ite, v_tup, v_lst, v_call, v_blt, v_sub, v_slc, v_rev, v_comp, v_fstr, es_nil, es_cons, o_none, o_some, o_i, i_l, i_t, it_e, it_r1, it_zip, r_ok, r_exc, r_some, r_nok, br_b, br_t, br_f, n_nx, n_bk, n_rt, ret_rt, ret_exc, rd_0, rd_o, rd_s, put_int, put_bl, put_str, x_add, x_sub, x_neg, c_eq, c_ne, c_lt, c_gt, c_le, c_ge, t_bl, t_int, l_abs, l_int, l_bl, l_max, u_t, u_l, u_t0, u_t1, u_l0, u_l1, u_st0, u_st1, List.map_cons, List.map_nil, List.replicate, List.cons_append, List.nil_append, List.set_cons_zero, List.set_cons_succ, Option.map_some, List.length_cons, List.length_nil, decide_true, if_true, Bool.false_eq_true, if_false, Bool.not_true, Bool.not_false, Nat.reduceAdd, Nat.reduceSub, ldivisor_sp, hb0, x_fdiv, hg0, hg1, sz2, ez]
  · simp only [b__law_ratio, b_cons, b_nil, s_ife, s_asg', s_asgT', s_parK, par_ii, s_ex, s_whl, s_for, s_ret, s_retN, s_brk, s_pass, s_raise, v_var, v_con, v_bin, v_neg, v_not, v_and, v_or, v_cmp, v_chn, v_ite, v_tup, v_lst, v_call, v_blt, v_sub, v_slc, v_rev, v_comp, v_fstr, es_nil, es_cons, o_none, o_some, o_i, i_l, i_t, it_e, it_r1, it_zip, r_ok, r_exc, r_some, r_nok, br_b, br_t, br_f, n_nx, n_bk, n_rt, ret_rt, ret_exc, rd_0, rd_o, rd_s, put_int, put_bl, put_str, x_add, x_sub, x_neg, c_eq, c_ne, c_lt, c_gt, c_le, c_ge, t_bl, t_int, l_abs, l_int, l_bl, l_max, u_t, u_l, u_t0, u_t1, u_l0, u_l1, u_st0, u_st1, List.map_cons, List.map_nil, List.replicate, List.cons_append, List.nil_append, List.set_cons_zero, List.set_cons_succ, Option.map_some, List.length_cons, List.length_nil, decide_true, if_true, Bool.false_eq_true, if_false, Bool.not_true, Bool.not_false, Nat.reduceAdd, Nat.reduceSub, ldivisor_sp, hb0, x_fdiv, hg0, hg1, sz2, decide_false]
end Lw
end
section
set_option Elab.async false
set_option linter.all false
set_option maxRecDepth 100000
set_option maxHeartbeats 4000000
namespace Lw
open PySem PD
variable {d : Nat} {w : W}
theorem lt_mul {a b : Int} {k l : Nat} (ha : a.natAbs < 2 ^ k) (hb : b.natAbs < 2 ^ l) : (a * b).natAbs < 2 ^ (k + l) := by
  rw [Int.natAbs_mul, Nat.pow_add]
  exact Nat.mul_lt_mul'' ha hb
theorem lt_add {a b : Int} {k : Nat} (ha : a.natAbs < 2 ^ k) (hb : b.natAbs < 2 ^ k) : (a + b).natAbs < 2 ^ (k + 1) := by
  have := Int.natAbs_add_le a b
  rw [Nat.pow_succ]
  omega
/-- a normal form's laws -/
theorem rt_ok {a b : Int} (hb : b ≠ 0) : 0 < (rt a b).2 ∧ (rt a b).1.natAbs ≤ a.natAbs ∧ (rt a b).2.natAbs ≤ b.natAbs ∧ Nat.gcd (rt a b).1.natAbs (rt a b).2.natAbs = 1 := by
  have hpos : 0 < Nat.gcd a.natAbs b.natAbs := Nat.gcd_pos_of_pos_right _ (by omega)
  obtain ⟨x, hx⟩ : (gI a b) ∣ a := by
    unfold gI
    exact Int.ofNat_dvd_left.mpr (Nat.gcd_dvd_left ..)
  obtain ⟨y, hy⟩ : (gI a b) ∣ b := by
    unfold gI
    exact Int.ofNat_dvd_left.mpr (Nat.gcd_dvd_right ..)
  have hg : 0 < gI a b := gI_pos hb
  have hy0 : y ≠ 0 := fun h => hb (by rw [hy, h, Int.mul_zero])
  have ng : (gI a b).natAbs = Nat.gcd a.natAbs b.natAbs := by unfold gI; omega
  -- the quotients are coprime
  have cop : Nat.gcd x.natAbs y.natAbs = 1 := by
    have e1 : a.natAbs = Nat.gcd a.natAbs b.natAbs * x.natAbs := by rw [← ng, ← Int.natAbs_mul, ← hx]
    have e2 : b.natAbs = Nat.gcd a.natAbs b.natAbs * y.natAbs := by rw [← ng, ← Int.natAbs_mul, ← hy]
    have e3 : Nat.gcd (Nat.gcd a.natAbs b.natAbs * x.natAbs) (Nat.gcd a.natAbs b.natAbs * y.natAbs) = Nat.gcd a.natAbs b.natAbs * Nat.gcd x.natAbs y.natAbs := Nat.gcd_mul_left ..
    rw [← e1, ← e2] at e3
    have e4 : Nat.gcd a.natAbs b.natAbs * 1 = Nat.gcd a.natAbs b.natAbs * Nat.gcd x.natAbs y.natAbs := by rw [Nat.mul_one]; exact e3
    exact (Nat.eq_of_mul_eq_mul_left hpos e4).symm
  have la : x.natAbs ≤ a.natAbs := by
    have e1 : a.natAbs = (gI a b).natAbs * x.natAbs := by rw [← Int.natAbs_mul, ← hx]
    rw [e1]
    exact Nat.le_mul_of_pos_left _ (by omega)
  have lb : y.natAbs ≤ b.natAbs := by
    have e1 : b.natAbs = (gI a b).natAbs * y.natAbs := by rw [← Int.natAbs_mul, ← hy]
    rw [e1]
    exact Nat.le_mul_of_pos_left _ (by omega)
  by_cases hb0 : b < 0
  · have q1 : fdivI a (-(gI a b)) = -x := by
      unfold fdivI
      rw [if_neg (by omega)]
      have e : a = (-(gI a b)) * (-x) := by rw [Int.neg_mul_neg]; exact hx
      have z := Int.mul_fdiv_cancel_left (-x) (show -(gI a b) ≠ 0 by omega)
      rw [← e] at z
      exact z
    have q2 : fdivI b (-(gI a b)) = -y := by
      unfold fdivI
      rw [if_neg (by omega)]
      have e : b = (-(gI a b)) * (-y) := by rw [Int.neg_mul_neg]; exact hy
      have z := Int.mul_fdiv_cancel_left (-y) (show -(gI a b) ≠ 0 by omega)
      rw [← e] at z
      exact z
    have yn : y < 0 := by
      rcases Int.lt_or_le y 0 with h | h
      · exact h
      · have : 0 ≤ gI a b * y := Int.mul_nonneg (by omega) h
        omega
    unfold rt
    simp only [hb0, if_true, q1, q2, Int.natAbs_neg]
    exact ⟨by omega, la, lb, cop⟩
  · have q1 : fdivI a (gI a b) = x := by
      unfold fdivI
      rw [if_pos hg]
      have z := Int.mul_ediv_cancel_left x (show gI a b ≠ 0 by omega)
      rw [← hx] at z
      exact z
    have q2 : fdivI b (gI a b) = y := by
      unfold fdivI
      rw [if_pos hg]
      have z := Int.mul_ediv_cancel_left y (show gI a b ≠ 0 by omega)
      rw [← hy] at z
      exact z
    have yp : 0 < y := by
      rcases Int.lt_or_le 0 y with h | h
      · exact h
      · have : gI a b * y ≤ 0 := Int.mul_nonpos_of_nonneg_of_nonpos (by omega) h
        omega
    unfold rt
    simp only [hb0, if_false, q1, q2]
    exact ⟨yp, la, lb, cop⟩
theorem rt_bd {a b : Int} {k : Nat} (ha : a.natAbs < 2 ^ k) (hb : b.natAbs < 2 ^ k) (h0 : b ≠ 0) : Bd k (rt a b) := by
  obtain ⟨h1, h2, h3, _⟩ := rt_ok (a := a) h0
  exact ⟨by omega, by omega, by omega⟩
def pls (x y : Q) : Q := rt (x.1 * y.2 + y.1 * x.2) (x.2 * y.2)
def tms (x y : Q) : Q := rt (x.1 * y.1) (x.2 * y.2)
def ovr (x y : Q) : Q := rt (x.1 * y.2) (x.2 * y.1)
def lss (x y : Q) : Bool := decide (x.1 * y.2 < y.1 * x.2)
section
variable {x y : Q} {k l : Nat} (hx : Bd k x) (hy : Bd l y)
include hx hy
theorem pow_up {i : Int} (m n : Nat) (h : i.natAbs < 2 ^ m) (hmn : m ≤ n) : i.natAbs < 2 ^ n := Nat.lt_of_lt_of_le h (Nat.pow_le_pow_right (by decide) hmn)
theorem pls_bd : Bd (k + l + 1) (pls x y) := by
  have a1 := lt_mul hx.1 hy.2.1
  have a2 : (y.1 * x.2).natAbs < 2 ^ (k + l) := by have := lt_mul hy.1 hx.2.1; rwa [Nat.add_comm] at this
  have a3 := lt_mul hx.2.1 hy.2.1
  exact rt_bd (lt_add a1 a2) (Nat.lt_of_lt_of_le a3 (Nat.pow_le_pow_right (by decide) (Nat.le_succ _))) (Int.mul_ne_zero hx.2.2 hy.2.2)
theorem tms_bd : Bd (k + l) (tms x y) := rt_bd (lt_mul hx.1 hy.1) (lt_mul hx.2.1 hy.2.1) (Int.mul_ne_zero hx.2.2 hy.2.2)
theorem ovr_bd (h0 : y.1 ≠ 0) : Bd (k + l) (ovr x y) := rt_bd (lt_mul hx.1 hy.2.1) (lt_mul hx.2.1 hy.1) (Int.mul_ne_zero hx.2.2 h0)
theorem muls (hkl : k + l < 8000) : mulOk x.1 y.2 = true ∧ mulOk y.1 x.2 = true ∧ mulOk x.2 y.2 = true ∧ mulOk x.1 y.1 = true ∧ mulOk x.2 y.1 = true :=
  ⟨mul_ok k l hx.1 hy.2.1 (by omega), mul_ok l k hy.1 hx.2.1 (by omega), mul_ok k l hx.2.1 hy.2.1 (by omega), mul_ok k l hx.1 hy.1 (by omega), mul_ok k l hx.2.1 hy.1 (by omega)⟩
theorem added_sp (hkl : k + l < 8000) : cfL pr (d + 3) "added" [tD x, tD y] w = .ok (tD (pls x y)) w := by
  obtain ⟨m1, m2, m3, m4, m5⟩ := muls hx hy hkl
  have r := ratio_sp (d := d) (w := w) (a := x.1 * y.2 + y.1 * x.2) (Int.mul_ne_zero hx.2.2 hy.2.2) (lt_mul hx.2.1 hy.2.1) (by omega)
  refine cf_of 30 lk_added rfl ?_ (by simp)
  simp only [b_added, tD, b_cons, b_nil, s_ife, s_asg', s_asgT', s_parK, par_ii, s_ex, s_whl, s_for, s_ret, s_retN, s_brk, s_pass, s_raise, v_var, v_con, v_bin, v_neg, v_not, v_and, v_or, v_cmp, v_chn, v_ite, v_tup, v_lst, v_call, v_blt, v_sub, v_slc, v_rev, v_comp, v_fstr, es_nil, es_cons, o_none, o_some, o_i, i_l, i_t, it_e, it_r1, it_zip, r_ok, r_exc, r_some, r_nok, br_b, br_t, br_f, n_nx, n_bk, n_rt, ret_rt, ret_exc, rd_0, rd_o, rd_s, put_int, put_bl, put_str, x_add, x_sub, x_neg, c_eq, c_ne, c_lt, c_gt, c_le, c_ge, t_bl, t_int, l_abs, l_int, l_bl, l_max, u_t, u_l, u_t0, u_t1, u_l0, u_l1, u_st0, u_st1, List.map_cons, List.map_nil, List.replicate, List.cons_append, List.nil_append, List.set_cons_zero, List.set_cons_succ, Option.map_some, List.length_cons, List.length_nil, decide_true, if_true, Bool.false_eq_true, if_false, Bool.not_true, Bool.not_false, Nat.reduceAdd, Nat.reduceSub, x_mul, m1, m2, m3]
  exact congrArg (fun r => retOf (R.bind (R.bind r _) _)) r
theorem plus_sp (hkl : k + l < 8000) : cfL pr (d + 3) "_law_plus" [tD x, tD y] w = .ok (tD (pls x y)) w := by
  obtain ⟨m1, m2, m3, m4, m5⟩ := muls hx hy hkl
  have r := lratio_sp (d := d) (w := w) (a := x.1 * y.2 + y.1 * x.2) (Int.mul_ne_zero hx.2.2 hy.2.2) (lt_mul hx.2.1 hy.2.1) (by omega)
  refine cf_of 30 lk_plus rfl ?_ (by simp)
  simp only [b__law_plus, tD, b_cons, b_nil, s_ife, s_asg', s_asgT', s_parK, par_ii, s_ex, s_whl, s_for, s_ret, s_retN, s_brk, s_pass, s_raise, v_var, v_con, v_bin, v_neg, v_not, v_and, v_or, v_cmp, v_chn, v_ite, v_tup, v_lst, v_call, v_blt, v_sub, v_slc, v_rev, v_comp, v_fstr, es_nil, es_cons, o_none, o_some, o_i, i_l, i_t, it_e, it_r1, it_zip, r_ok, r_exc, r_some, r_nok, br_b, br_t, br_f, n_nx, n_bk, n_rt, ret_rt, ret_exc, rd_0, rd_o, rd_s, put_int, put_bl, put_str, x_add, x_sub, x_neg, c_eq, c_ne, c_lt, c_gt, c_le, c_ge, t_bl, t_int, l_abs, l_int, l_bl, l_max, u_t, u_l, u_t0, u_t1, u_l0, u_l1, u_st0, u_st1, List.map_cons, List.map_nil, List.replicate, List.cons_append, List.nil_append, List.set_cons_zero, List.set_cons_succ, Option.map_some, List.length_cons, List.length_nil, decide_true, if_true, Bool.false_eq_true, if_false, Bool.not_true, Bool.not_false, Nat.reduceAdd, Nat.reduceSub, x_mul, m1, m2, m3]
  exact congrArg (fun r => retOf (R.bind (R.bind r _) _)) r
theorem times_sp (hkl : k + l < 8000) : cfL pr (d + 3) "times" [tD x, tD y] w = .ok (tD (tms x y)) w := by
  obtain ⟨m1, m2, m3, m4, m5⟩ := muls hx hy hkl
  have r := ratio_sp (d := d) (w := w) (a := x.1 * y.1) (Int.mul_ne_zero hx.2.2 hy.2.2) (lt_mul hx.2.1 hy.2.1) (by omega)
  refine cf_of 30 lk_times rfl ?_ (by simp)
  simp only [b_times, tD, b_cons, b_nil, s_ife, s_asg', s_asgT', s_parK, par_ii, s_ex, s_whl, s_for, s_ret, s_retN, s_brk, s_pass, s_raise, v_var, v_con, v_bin, v_neg, v_not, v_and, v_or, v_cmp, v_chn, v_ite, v_tup, v_lst, v_call, v_blt, v_sub, v_slc, v_rev, v_comp, v_fstr, es_nil, es_cons, o_none, o_some, o_i, i_l, i_t, it_e, it_r1, it_zip, r_ok, r_exc, r_some, r_nok, br_b, br_t, br_f, n_nx, n_bk, n_rt, ret_rt, ret_exc, rd_0, rd_o, rd_s, put_int, put_bl, put_str, x_add, x_sub, x_neg, c_eq, c_ne, c_lt, c_gt, c_le, c_ge, t_bl, t_int, l_abs, l_int, l_bl, l_max, u_t, u_l, u_t0, u_t1, u_l0, u_l1, u_st0, u_st1, List.map_cons, List.map_nil, List.replicate, List.cons_append, List.nil_append, List.set_cons_zero, List.set_cons_succ, Option.map_some, List.length_cons, List.length_nil, decide_true, if_true, Bool.false_eq_true, if_false, Bool.not_true, Bool.not_false, Nat.reduceAdd, Nat.reduceSub, x_mul, m3, m4]
  exact congrArg (fun r => retOf (R.bind (R.bind r _) _)) r
theorem over_sp (hkl : k + l < 8000) (h0 : y.1 ≠ 0) : cfL pr (d + 3) "over" [tD x, tD y] w = .ok (tD (ovr x y)) w := by
  obtain ⟨m1, m2, m3, m4, m5⟩ := muls hx hy hkl
  have r := ratio_sp (d := d) (w := w) (a := x.1 * y.2) (Int.mul_ne_zero hx.2.2 h0) (lt_mul hx.2.1 hy.1) (by omega)
  refine cf_of 30 lk_over rfl ?_ (by simp)
  simp only [b_over, tD, b_cons, b_nil, s_ife, s_asg', s_asgT', s_parK, par_ii, s_ex, s_whl, s_for, s_ret, s_retN, s_brk, s_pass, s_raise, v_var, v_con, v_bin, v_neg, v_not, v_and, v_or, v_cmp, v_chn, v_ite, v_tup, v_lst, v_call, v_blt, v_sub, v_slc, v_rev, v_comp, v_fstr, es_nil, es_cons, o_none, o_some, o_i, i_l, i_t, it_e, it_r1, it_zip, r_ok, r_exc, r_some, r_nok, br_b, br_t, br_f, n_nx, n_bk, n_rt, ret_rt, ret_exc, rd_0, rd_o, rd_s, put_int, put_bl, put_str, x_add, x_sub, x_neg, c_eq, c_ne, c_lt, c_gt, c_le, c_ge, t_bl, t_int, l_abs, l_int, l_bl, l_max, u_t, u_l, u_t0, u_t1, u_l0, u_l1, u_st0, u_st1, List.map_cons, List.map_nil, List.replicate, List.cons_append, List.nil_append, List.set_cons_zero, List.set_cons_succ, Option.map_some, List.length_cons, List.length_nil, decide_true, if_true, Bool.false_eq_true, if_false, Bool.not_true, Bool.not_false, Nat.reduceAdd, Nat.reduceSub, x_mul, m1, m5]
  exact congrArg (fun r => retOf (R.bind (R.bind r _) _)) r
theorem less_sp (hkl : k + l < 8000) : cfL pr (d + 1) "less" [tD x, tD y] w = .ok (.bl (lss x y)) w := by
  obtain ⟨m1, m2, m3, m4, m5⟩ := muls hx hy hkl
  refine cf_of 30 lk_less rfl ?_ (by simp)
  simp only [b_less, tD, b_cons, b_nil, s_ife, s_asg', s_asgT', s_parK, par_ii, s_ex, s_whl, s_for, s_ret, s_retN, s_brk, s_pass, s_raise, v_var, v_con, v_bin, v_neg, v_not, v_and, v_or, v_cmp, v_chn, v_ite, v_tup, v_lst, v_call, v_blt, v_sub, v_slc, v_rev, v_comp, v_fstr, es_nil, es_cons, o_none, o_some, o_i, i_l, i_t, it_e, it_r1, it_zip, r_ok, r_exc, r_some, r_nok, br_b, br_t, br_f, n_nx, n_bk, n_rt, ret_rt, ret_exc, rd_0, rd_o, rd_s, put_int, put_bl, put_str, x_add, x_sub, x_neg, c_eq, c_ne, c_lt, c_gt, c_le, c_ge, t_bl, t_int, l_abs, l_int, l_bl, l_max, u_t, u_l, u_t0, u_t1, u_l0, u_l1, u_st0, u_st1, List.map_cons, List.map_nil, List.replicate, List.cons_append, List.nil_append, List.set_cons_zero, List.set_cons_succ, Option.map_some, List.length_cons, List.length_nil, decide_true, if_true, Bool.false_eq_true, if_false, Bool.not_true, Bool.not_false, Nat.reduceAdd, Nat.reduceSub, x_mul, m1, m2]
  rfl
theorem lless_sp (hkl : k + l < 8000) : cfL pr (d + 1) "_law_less" [tD x, tD y] w = .ok (.bl (lss x y)) w := by
  obtain ⟨m1, m2, m3, m4, m5⟩ := muls hx hy hkl
  refine cf_of 30 lk_lless rfl ?_ (by simp)
  simp only [b__law_less, tD, b_cons, b_nil, s_ife, s_asg', s_asgT', s_parK, par_ii, s_ex, s_whl, s_for, s_ret, s_retN, s_brk, s_pass, s_raise, v_var, v_con, v_bin, v_neg, v_not, v_and, v_or, v_cmp, v_chn, v_ite, v_tup, v_lst, v_call, v_blt, v_sub, v_slc, v_rev, v_comp, v_fstr, es_nil, es_cons, o_none, o_some, o_i, i_l, i_t, it_e, it_r1, it_zip, r_ok, r_exc, r_some, r_nok, br_b, br_t, br_f, n_nx, n_bk, n_rt, ret_rt, ret_exc, rd_0, rd_o, rd_s, put_int, put_bl, put_str, x_add, x_sub, x_neg, c_eq, c_ne, c_lt, c_gt, c_le, c_ge, t_bl, t_int, l_abs, l_int, l_bl, l_max, u_t, u_l, u_t0, u_t1, u_l0, u_l1, u_st0, u_st1, List.map_cons, List.map_nil, List.replicate, List.cons_append, List.nil_append, List.set_cons_zero, List.set_cons_succ, Option.map_some, List.length_cons, List.length_nil, decide_true, if_true, Bool.false_eq_true, if_false, Bool.not_true, Bool.not_false, Nat.reduceAdd, Nat.reduceSub, x_mul, m1, m2]
  rfl
end
theorem negative_sp {x : Q} : cfL pr (d + 1) "negative" [tD x] w = .ok (tD (-x.1, x.2)) w := by
  refine cf_of 30 lk_negative rfl ?_ (by simp)
  simp only [b_negative, tD, b_cons, b_nil, s_ife, s_asg', s_asgT', s_parK, par_ii, s_ex, s_whl, s_for, s_ret, s_retN, s_brk, s_pass, s_raise, v_var, v_con, v_bin, v_neg, v_not, v_and, v_or, v_cmp, v_chn, v_ite, v_tup, v_lst, v_call, v_blt, v_sub, v_slc, v_rev, v_comp, v_fstr, es_nil, es_cons, o_none, o_some, o_i, i_l, i_t, it_e, it_r1, it_zip, r_ok, r_exc, r_some, r_nok, br_b, br_t, br_f, n_nx, n_bk, n_rt, ret_rt, ret_exc, rd_0, rd_o, rd_s, put_int, put_bl, put_str, x_add, x_sub, x_neg, c_eq, c_ne, c_lt, c_gt, c_le, c_ge, t_bl, t_int, l_abs, l_int, l_bl, l_max, u_t, u_l, u_t0, u_t1, u_l0, u_l1, u_st0, u_st1, List.map_cons, List.map_nil, List.replicate, List.cons_append, List.nil_append, List.set_cons_zero, List.set_cons_succ, Option.map_some, List.length_cons, List.length_nil, decide_true, if_true, Bool.false_eq_true, if_false, Bool.not_true, Bool.not_false, Nat.reduceAdd, Nat.reduceSub, sz2]
theorem is_sp {p q : Int} : cfL pr (d + 2) "is_ratio" [.tup [.int p, .int q]] w = .ok (.bl (decide (1 ≤ q) && decide (gI p q = 1))) w := by
  refine cf_of 30 lk_is rfl ?_ (by simp)
  have l2 : bltD .len [.tup [.int p, .int q]] = some (.int 2) := rfl
  have e2 : decide ((2 : Int) = 2) = true := rfl
  by_cases h : (1 : Int) ≤ q
  · simp only [b_is_ratio, b_cons, b_nil, s_ife, s_asg', s_asgT', s_parK, par_ii, s_ex, s_whl, s_for, s_ret, s_retN, s_brk, s_pass, s_raise, v_var, v_con, v_bin, v_neg, v_not, v_and, v_or, v_cmp, v_chn, v_ite, v_tup, v_lst, v_call, v_blt, v_sub, v_slc, v_rev, v_comp, v_fstr, es_nil, es_cons, o_none, o_some, o_i, i_l, i_t, it_e, it_r1, it_zip, r_ok, r_exc, r_some, r_nok, br_b, br_t, br_f, n_nx, n_bk, n_rt, ret_rt, ret_exc, rd_0, rd_o, rd_s, put_int, put_bl, put_str, x_add, x_sub, x_neg, c_eq, c_ne, c_lt, c_gt, c_le, c_ge, t_bl, t_int, l_abs, l_int, l_bl, l_max, u_t, u_l, u_t0, u_t1, u_l0, u_l1, u_st0, u_st1, List.map_cons, List.map_nil, List.replicate, List.cons_append, List.nil_append, List.set_cons_zero, List.set_cons_succ, Option.map_some, List.length_cons, List.length_nil, decide_true, if_true, Bool.false_eq_true, if_false, Bool.not_true, Bool.not_false, Nat.reduceAdd, Nat.reduceSub, l2, e2, divisor_sp, h, Bool.true_and]
  · simp only [b_is_ratio, b_cons, b_nil, s_ife, s_asg', s_asgT', s_parK, par_ii, s_ex, s_whl, s_for, s_ret, s_retN, s_brk, s_pass, s_raise, v_var, v_con, v_bin, v_neg, v_not, v_and, v_or, v_cmp, v_chn, v_ite, v_tup, v_lst, v_call, v_blt, v_sub, v_slc, v_rev, v_comp, v_fstr, es_nil, es_cons, o_none, o_some, o_i, i_l, i_t, it_e, it_r1, it_zip, r_ok, r_exc, r_some, r_nok, br_b, br_t, br_f, n_nx, n_bk, n_rt, ret_rt, ret_exc, rd_0, rd_o, rd_s, put_int, put_bl, put_str, x_add, x_sub, x_neg, c_eq, c_ne, c_lt, c_gt, c_le, c_ge, t_bl, t_int, l_abs, l_int, l_bl, l_max, u_t, u_l, u_t0, u_t1, u_l0, u_l1, u_st0, u_st1, List.map_cons, List.map_nil, List.replicate, List.cons_append, List.nil_append, List.set_cons_zero, List.set_cons_succ, Option.map_some, List.length_cons, List.length_nil, decide_true, if_true, Bool.false_eq_true, if_false, Bool.not_true, Bool.not_false, Nat.reduceAdd, Nat.reduceSub, l2, e2, h, decide_false, Bool.false_and]
end Lw
end
section
set_option Elab.async false
set_option linter.all false
set_option maxRecDepth 100000
set_option maxHeartbeats 4000000
namespace Lw
open PySem PD
variable {d : Nat} {w : W}
theorem put_q {i : Nat} {e : E} {x : Q} {env : PD.Env} : putE i e (tD x) env = env.set i (.sh (tD x)) := put_tup rfl
theorem compL_cons {v : Ev} {elt : E} {t : Tgt} {x : D} {ds : List D} {dd : D} {env env1 : PD.Env} {w' : W} (h : bindT t dd env = some env1) (he : v.e elt env1 w = .ok x w') : compL v elt t [] (dd :: ds) env w = (compL v elt t [] ds env w').bind fun xs w => .ok (x :: xs) w := by
  conv => lhs; unfold compL; rw [h]
  dsimp only
  show R.bind (R.noexc (.ok true w)) _ = _
  rw [r_nok, r_okb, if_pos rfl, he, r_nok, r_okb]
def gst : Q → List Q → Q
  | b, [] => b
  | b, y :: ys => gst (if lss b y = true then y else b) ys
def smm : Q → List Q → Q
  | t, [] => t
  | t, y :: ys => smm (pls t y) ys
def wgh : List Q → List Q → List Q
  | x :: xs, y :: ys => tms x y :: wgh xs ys
  | _, _ => []
theorem gst_bd {k : Nat} : ∀ (ys : List Q) (b : Q), Bd k b → (∀ y ∈ ys, Bd k y) → Bd k (gst b ys)
  | [], b, hb, _ => hb
  | y :: ys, b, hb, hy => gst_bd ys _ (by split; exact hy y List.mem_cons_self; exact hb) fun z hz => hy z (List.mem_cons_of_mem _ hz)
theorem smm_bd {k : Nat} : ∀ (ys : List Q) (t : Q) (l : Nat), Bd l t → (∀ y ∈ ys, Bd k y) → Bd (l + (k + 1) * ys.length) (smm t ys)
  | [], t, l, ht, _ => by
    show Bd (l + (k + 1) * 0) t
    simpa using ht
  | y :: ys, t, l, ht, hy => by
    have h := smm_bd ys (pls t y) (l + k + 1) (pls_bd ht (hy y List.mem_cons_self)) fun z hz => hy z (List.mem_cons_of_mem _ hz)
    rw [show l + (k + 1) * (y :: ys).length = l + k + 1 + (k + 1) * ys.length by rw [List.length_cons, Nat.mul_succ]; omega]
    exact h
theorem wgh_bd {k : Nat} : ∀ (xs ys : List Q), (∀ y ∈ xs, Bd k y) → (∀ y ∈ ys, Bd k y) → ∀ z ∈ wgh xs ys, Bd (k + k) z
  | x :: xs, y :: ys, hx, hy, z, hz => by
    rcases List.mem_cons.mp (show z ∈ tms x y :: wgh xs ys from hz) with rfl | hz
    · exact tms_bd (hx x List.mem_cons_self) (hy y List.mem_cons_self)
    · exact wgh_bd xs ys (fun z hz => hx z (List.mem_cons_of_mem _ hz)) (fun z hz => hy z (List.mem_cons_of_mem _ hz)) z hz
theorem gst_loop {k : Nat} (hk : k < 4000) : ∀ (ys : List Q) (b : Q) (s0 s2 : Slot), Bd k b → (∀ y ∈ ys, Bd k y) →
    ∃ s2', forL (vL pr (d + 1) 30) (.v 2) [.asg 1 (.ite (.call "less" [(.var 1), (.var 2)]) (.var 2) (.var 1))] (ys.map tD) [s0, .sh (tD b), s2] w = .ok ([s0, .sh (tD (gst b ys)), s2'], .nx) w
  | [], b, s0, s2, hb, _ => ⟨s2, rfl⟩
  | y :: ys, b, s0, s2, hb, hy => by
    have l := less_sp (d := d) (w := w) hb (hy y List.mem_cons_self) (by omega)
    have q := gst_loop hk ys (if lss b y = true then y else b) s0 (.sh (tD y)) (by split; exact hy y List.mem_cons_self; exact hb) fun z hz => hy z (List.mem_cons_of_mem _ hz)
    obtain ⟨s2', q⟩ := q
    refine ⟨s2', ?_⟩
    have e : (vL pr (d + 1) 30).b [.asg 1 (.ite (.call "less" [(.var 1), (.var 2)]) (.var 2) (.var 1))] [s0, .sh (tD b), .sh (tD y)] w = .ok ([s0, .sh (tD (if lss b y = true then y else b)), .sh (tD y)], .nx) w := by
      by_cases h : lss b y = true
      · simp only [b_cons, b_nil, s_ife, s_asg', s_asgT', s_parK, par_ii, s_ex, s_whl, s_for, s_ret, s_retN, s_brk, s_pass, s_raise, v_var, v_con, v_bin, v_neg, v_not, v_and, v_or, v_cmp, v_chn, v_ite, v_tup, v_lst, v_call, v_blt, v_sub, v_slc, v_rev, v_comp, v_fstr, es_nil, es_cons, o_none, o_some, o_i, i_l, i_t, it_e, it_r1, it_zip, r_ok, r_exc, r_some, r_nok, br_b, br_t, br_f, n_nx, n_bk, n_rt, ret_rt, ret_exc, rd_0, rd_o, rd_s, put_int, put_bl, put_str, x_add, x_sub, x_neg, c_eq, c_ne, c_lt, c_gt, c_le, c_ge, t_bl, t_int, l_abs, l_int, l_bl, l_max, u_t, u_l, u_t0, u_t1, u_l0, u_l1, u_st0, u_st1, List.map_cons, List.map_nil, List.replicate, List.cons_append, List.nil_append, List.set_cons_zero, List.set_cons_succ, Option.map_some, List.length_cons, List.length_nil, decide_true, if_true, Bool.false_eq_true, if_false, Bool.not_true, Bool.not_false, Nat.reduceAdd, Nat.reduceSub, l, h, put_q]
      · have h : lss b y = false := by simpa using h
        simp only [b_cons, b_nil, s_ife, s_asg', s_asgT', s_parK, par_ii, s_ex, s_whl, s_for, s_ret, s_retN, s_brk, s_pass, s_raise, v_var, v_con, v_bin, v_neg, v_not, v_and, v_or, v_cmp, v_chn, v_ite, v_tup, v_lst, v_call, v_blt, v_sub, v_slc, v_rev, v_comp, v_fstr, es_nil, es_cons, o_none, o_some, o_i, i_l, i_t, it_e, it_r1, it_zip, r_ok, r_exc, r_some, r_nok, br_b, br_t, br_f, n_nx, n_bk, n_rt, ret_rt, ret_exc, rd_0, rd_o, rd_s, put_int, put_bl, put_str, x_add, x_sub, x_neg, c_eq, c_ne, c_lt, c_gt, c_le, c_ge, t_bl, t_int, l_abs, l_int, l_bl, l_max, u_t, u_l, u_t0, u_t1, u_l0, u_l1, u_st0, u_st1, List.map_cons, List.map_nil, List.replicate, List.cons_append, List.nil_append, List.set_cons_zero, List.set_cons_succ, Option.map_some, List.length_cons, List.length_nil, decide_true, if_true, Bool.false_eq_true, if_false, Bool.not_true, Bool.not_false, Nat.reduceAdd, Nat.reduceSub, l, h, put_q]
    rw [List.map_cons, forL_cons (env1 := [s0, .sh (tD b), .sh (tD y)]) rfl, e]
    exact q
theorem sz_map {xs : List Q} (h : xs.length ≤ 1000) : szOk xs.length = true := decide_eq_true (by omega)
theorem greatest_sp {k : Nat} {x : Q} {xs : List Q} (hk : k < 4000) (hx : ∀ y ∈ x :: xs, Bd k y) : cfL pr (d + 2) "greatest" [.lst ((x :: xs).map tD)] w = .ok (tD (gst x xs)) w := by
  obtain ⟨s2', q⟩ := gst_loop (d := d) (w := w) hk xs x (.sh (.lst ((x :: xs).map tD))) .no (hx x List.mem_cons_self) fun z hz => hx z (List.mem_cons_of_mem _ hz)
  have sl : slcD (.lst (tD x :: xs.map tD)) (some 1) none = some (.lst (xs.map tD)) := by
    show some (D.lst (cutL _ _ _)) = _
    have e : cutL (tD x :: xs.map tD) (some 1) none = xs.map tD := by
      unfold cutL cutIx
      simp
      exact List.take_of_length_le (by simp)
    rw [e]
  have dr : ∀ env : PD.Env, drops (alW (.e (.slc (.var 0) (some (.con (.int 1))) none))) env = env := fun _ => rfl
  refine cf_of 31 lk_greatest rfl ?_ (by simp)
  rw [List.map_cons] at q
  simp only [b_greatest, b_cons, b_nil, s_ife, s_asg', s_asgT', s_parK, par_ii, s_ex, s_whl, s_for, s_ret, s_retN, s_brk, s_pass, s_raise, v_var, v_con, v_bin, v_neg, v_not, v_and, v_or, v_cmp, v_chn, v_ite, v_tup, v_lst, v_call, v_blt, v_sub, v_slc, v_rev, v_comp, v_fstr, es_nil, es_cons, o_none, o_some, o_i, i_l, i_t, it_e, it_r1, it_zip, r_ok, r_exc, r_some, r_nok, br_b, br_t, br_f, n_nx, n_bk, n_rt, ret_rt, ret_exc, rd_0, rd_o, rd_s, put_int, put_bl, put_str, x_add, x_sub, x_neg, c_eq, c_ne, c_lt, c_gt, c_le, c_ge, t_bl, t_int, l_abs, l_int, l_bl, l_max, u_t, u_l, u_t0, u_t1, u_l0, u_l1, u_st0, u_st1, List.map_cons, List.map_nil, List.replicate, List.cons_append, List.nil_append, List.set_cons_zero, List.set_cons_succ, Option.map_some, List.length_cons, List.length_nil, decide_true, if_true, Bool.false_eq_true, if_false, Bool.not_true, Bool.not_false, Nat.reduceAdd, Nat.reduceSub, sl, put_q, dr, q]
theorem smm_loop {k : Nat} : ∀ (ys : List Q) (t : Q) (l : Nat) (s0 s2 : Slot), Bd l t → (∀ y ∈ ys, Bd k y) → l + (k + 1) * ys.length + k < 8000 →
    ∃ s2', forL (vL pr (d + 3) 30) (.v 2) [.asg 1 (.call "added" [(.var 1), (.var 2)])] (ys.map tD) [s0, .sh (tD t), s2] w = .ok ([s0, .sh (tD (smm t ys)), s2'], .nx) w
  | [], t, l, s0, s2, _, _, _ => ⟨s2, rfl⟩
  | y :: ys, t, l, s0, s2, ht, hy, hl => by
    rw [List.length_cons, Nat.mul_succ] at hl
    have a := added_sp (d := d) (w := w) ht (hy y List.mem_cons_self) (by omega)
    obtain ⟨s2', q⟩ := smm_loop ys (pls t y) (l + k + 1) s0 (.sh (tD y)) (pls_bd ht (hy y List.mem_cons_self)) (fun z hz => hy z (List.mem_cons_of_mem _ hz)) (by omega)
    refine ⟨s2', ?_⟩
    have e : (vL pr (d + 3) 30).b [.asg 1 (.call "added" [(.var 1), (.var 2)])] [s0, .sh (tD t), .sh (tD y)] w = .ok ([s0, .sh (tD (pls t y)), .sh (tD y)], .nx) w := by
      simp only [b_cons, b_nil, s_ife, s_asg', s_asgT', s_parK, par_ii, s_ex, s_whl, s_for, s_ret, s_retN, s_brk, s_pass, s_raise, v_var, v_con, v_bin, v_neg, v_not, v_and, v_or, v_cmp, v_chn, v_ite, v_tup, v_lst, v_call, v_blt, v_sub, v_slc, v_rev, v_comp, v_fstr, es_nil, es_cons, o_none, o_some, o_i, i_l, i_t, it_e, it_r1, it_zip, r_ok, r_exc, r_some, r_nok, br_b, br_t, br_f, n_nx, n_bk, n_rt, ret_rt, ret_exc, rd_0, rd_o, rd_s, put_int, put_bl, put_str, x_add, x_sub, x_neg, c_eq, c_ne, c_lt, c_gt, c_le, c_ge, t_bl, t_int, l_abs, l_int, l_bl, l_max, u_t, u_l, u_t0, u_t1, u_l0, u_l1, u_st0, u_st1, List.map_cons, List.map_nil, List.replicate, List.cons_append, List.nil_append, List.set_cons_zero, List.set_cons_succ, Option.map_some, List.length_cons, List.length_nil, decide_true, if_true, Bool.false_eq_true, if_false, Bool.not_true, Bool.not_false, Nat.reduceAdd, Nat.reduceSub, a, put_q]
    rw [List.map_cons, forL_cons (env1 := [s0, .sh (tD t), .sh (tD y)]) rfl, e]
    exact q
theorem lsmm_loop {k : Nat} : ∀ (ys : List Q) (t : Q) (l : Nat) (s0 s2 : Slot), Bd l t → (∀ y ∈ ys, Bd k y) → l + (k + 1) * ys.length + k < 8000 →
    ∃ s2', forL (vL pr (d + 3) 30) (.v 2) [.asg 1 (.call "_law_plus" [(.var 1), (.var 2)])] (ys.map tD) [s0, .sh (tD t), s2] w = .ok ([s0, .sh (tD (smm t ys)), s2'], .nx) w
  | [], t, l, s0, s2, _, _, _ => ⟨s2, rfl⟩
  | y :: ys, t, l, s0, s2, ht, hy, hl => by
    rw [List.length_cons, Nat.mul_succ] at hl
    have a := plus_sp (d := d) (w := w) ht (hy y List.mem_cons_self) (by omega)
    obtain ⟨s2', q⟩ := lsmm_loop ys (pls t y) (l + k + 1) s0 (.sh (tD y)) (pls_bd ht (hy y List.mem_cons_self)) (fun z hz => hy z (List.mem_cons_of_mem _ hz)) (by omega)
    refine ⟨s2', ?_⟩
    have e : (vL pr (d + 3) 30).b [.asg 1 (.call "_law_plus" [(.var 1), (.var 2)])] [s0, .sh (tD t), .sh (tD y)] w = .ok ([s0, .sh (tD (pls t y)), .sh (tD y)], .nx) w := by
      simp only [b_cons, b_nil, s_ife, s_asg', s_asgT', s_parK, par_ii, s_ex, s_whl, s_for, s_ret, s_retN, s_brk, s_pass, s_raise, v_var, v_con, v_bin, v_neg, v_not, v_and, v_or, v_cmp, v_chn, v_ite, v_tup, v_lst, v_call, v_blt, v_sub, v_slc, v_rev, v_comp, v_fstr, es_nil, es_cons, o_none, o_some, o_i, i_l, i_t, it_e, it_r1, it_zip, r_ok, r_exc, r_some, r_nok, br_b, br_t, br_f, n_nx, n_bk, n_rt, ret_rt, ret_exc, rd_0, rd_o, rd_s, put_int, put_bl, put_str, x_add, x_sub, x_neg, c_eq, c_ne, c_lt, c_gt, c_le, c_ge, t_bl, t_int, l_abs, l_int, l_bl, l_max, u_t, u_l, u_t0, u_t1, u_l0, u_l1, u_st0, u_st1, List.map_cons, List.map_nil, List.replicate, List.cons_append, List.nil_append, List.set_cons_zero, List.set_cons_succ, Option.map_some, List.length_cons, List.length_nil, decide_true, if_true, Bool.false_eq_true, if_false, Bool.not_true, Bool.not_false, Nat.reduceAdd, Nat.reduceSub, a, put_q]
    rw [List.map_cons, forL_cons (env1 := [s0, .sh (tD t), .sh (tD y)]) rfl, e]
    exact q
theorem bd01 (k : Nat) (h : 1 ≤ k) : Bd k (0, 1) := ⟨by simp; exact Nat.two_pow_pos k, by simp; omega, by decide⟩
theorem summed_sp {k : Nat} {xs : List Q} (hx : ∀ y ∈ xs, Bd k y) (hl : 1 + (k + 1) * xs.length + k < 8000) : cfL pr (d + 4) "summed" [.lst (xs.map tD)] w = .ok (tD (smm (0, 1) xs)) w := by
  obtain ⟨s2', q⟩ := smm_loop (d := d) (w := w) xs (0, 1) 1 (.sh (.lst (xs.map tD))) .no (bd01 1 (by decide)) hx hl
  have e01 : tD (0, 1) = .tup [.int 0, .int 1] := rfl
  have dr : ∀ (a : D) (env : PD.Env), drops (alW (.e (.var 0))) (.sh a :: env) = .sh a :: env := fun _ _ => rfl
  refine cf_of 31 lk_summed rfl ?_ (by simp)
  rw [e01] at q
  simp only [b_summed, b_cons, b_nil, s_ife, s_asg', s_asgT', s_parK, par_ii, s_ex, s_whl, s_for, s_ret, s_retN, s_brk, s_pass, s_raise, v_var, v_con, v_bin, v_neg, v_not, v_and, v_or, v_cmp, v_chn, v_ite, v_tup, v_lst, v_call, v_blt, v_sub, v_slc, v_rev, v_comp, v_fstr, es_nil, es_cons, o_none, o_some, o_i, i_l, i_t, it_e, it_r1, it_zip, r_ok, r_exc, r_some, r_nok, br_b, br_t, br_f, n_nx, n_bk, n_rt, ret_rt, ret_exc, rd_0, rd_o, rd_s, put_int, put_bl, put_str, x_add, x_sub, x_neg, c_eq, c_ne, c_lt, c_gt, c_le, c_ge, t_bl, t_int, l_abs, l_int, l_bl, l_max, u_t, u_l, u_t0, u_t1, u_l0, u_l1, u_st0, u_st1, List.map_cons, List.map_nil, List.replicate, List.cons_append, List.nil_append, List.set_cons_zero, List.set_cons_succ, Option.map_some, List.length_cons, List.length_nil, decide_true, if_true, Bool.false_eq_true, if_false, Bool.not_true, Bool.not_false, Nat.reduceAdd, Nat.reduceSub, sz2, put_tup (show D.flats [.int 0, .int 1] = true from rfl), dr, q]
theorem lsum_sp {k : Nat} {xs : List Q} (hx : ∀ y ∈ xs, Bd k y) (hl : 1 + (k + 1) * xs.length + k < 8000) : cfL pr (d + 4) "_law_sum" [.lst (xs.map tD)] w = .ok (tD (smm (0, 1) xs)) w := by
  obtain ⟨s2', q⟩ := lsmm_loop (d := d) (w := w) xs (0, 1) 1 (.sh (.lst (xs.map tD))) .no (bd01 1 (by decide)) hx hl
  have e01 : tD (0, 1) = .tup [.int 0, .int 1] := rfl
  have dr : ∀ (a : D) (env : PD.Env), drops (alW (.e (.var 0))) (.sh a :: env) = .sh a :: env := fun _ _ => rfl
  refine cf_of 31 lk_lsum rfl ?_ (by simp)
  rw [e01] at q
  simp only [b__law_sum, b_cons, b_nil, s_ife, s_asg', s_asgT', s_parK, par_ii, s_ex, s_whl, s_for, s_ret, s_retN, s_brk, s_pass, s_raise, v_var, v_con, v_bin, v_neg, v_not, v_and, v_or, v_cmp, v_chn, v_ite, v_tup, v_lst, v_call, v_blt, v_sub, v_slc, v_rev, v_comp, v_fstr, es_nil, es_cons, o_none, o_some, o_i, i_l, i_t, it_e, it_r1, it_zip, r_ok, r_exc, r_some, r_nok, br_b, br_t, br_f, n_nx, n_bk, n_rt, ret_rt, ret_exc, rd_0, rd_o, rd_s, put_int, put_bl, put_str, x_add, x_sub, x_neg, c_eq, c_ne, c_lt, c_gt, c_le, c_ge, t_bl, t_int, l_abs, l_int, l_bl, l_max, u_t, u_l, u_t0, u_t1, u_l0, u_l1, u_st0, u_st1, List.map_cons, List.map_nil, List.replicate, List.cons_append, List.nil_append, List.set_cons_zero, List.set_cons_succ, Option.map_some, List.length_cons, List.length_nil, decide_true, if_true, Bool.false_eq_true, if_false, Bool.not_true, Bool.not_false, Nat.reduceAdd, Nat.reduceSub, sz2, put_tup (show D.flats [.int 0, .int 1] = true from rfl), dr, q]
theorem wgh_loop {k : Nat} (hk : k < 4000) (s0 s1 s2 s3 : Slot) : ∀ (xs ys : List Q), (∀ y ∈ xs, Bd k y) → (∀ y ∈ ys, Bd k y) →
    compL (vL pr (d + 3) 28) (.call "times" [(.var 2), (.var 3)]) (.t [(.v 2), (.v 3)]) [] (zipD (xs.map tD) (ys.map tD)) [s0, s1, s2, s3] w = .ok ((wgh xs ys).map tD) w
  | [], ys, _, _ => rfl
  | x :: xs, [], _, _ => rfl
  | x :: xs, y :: ys, hx, hy => by
    have t := times_sp (d := d) (w := w) (hx x List.mem_cons_self) (hy y List.mem_cons_self) (by omega)
    have q := wgh_loop hk s0 s1 s2 s3 xs ys (fun z hz => hx z (List.mem_cons_of_mem _ hz)) fun z hz => hy z (List.mem_cons_of_mem _ hz)
    show compL _ _ _ [] (.tup [tD x, tD y] :: zipD (xs.map tD) (ys.map tD)) _ w = _
    rw [compL_cons (env1 := [s0, s1, .sh (tD x), .sh (tD y)]) rfl (x := tD (tms x y)) (w' := w) (by simp only [b_cons, b_nil, s_ife, s_asg', s_asgT', s_parK, par_ii, s_ex, s_whl, s_for, s_ret, s_retN, s_brk, s_pass, s_raise, v_var, v_con, v_bin, v_neg, v_not, v_and, v_or, v_cmp, v_chn, v_ite, v_tup, v_lst, v_call, v_blt, v_sub, v_slc, v_rev, v_comp, v_fstr, es_nil, es_cons, o_none, o_some, o_i, i_l, i_t, it_e, it_r1, it_zip, r_ok, r_exc, r_some, r_nok, br_b, br_t, br_f, n_nx, n_bk, n_rt, ret_rt, ret_exc, rd_0, rd_o, rd_s, put_int, put_bl, put_str, x_add, x_sub, x_neg, c_eq, c_ne, c_lt, c_gt, c_le, c_ge, t_bl, t_int, l_abs, l_int, l_bl, l_max, u_t, u_l, u_t0, u_t1, u_l0, u_l1, u_st0, u_st1, List.map_cons, List.map_nil, List.replicate, List.cons_append, List.nil_append, List.set_cons_zero, List.set_cons_succ, Option.map_some, List.length_cons, List.length_nil, decide_true, if_true, Bool.false_eq_true, if_false, Bool.not_true, Bool.not_false, Nat.reduceAdd, Nat.reduceSub, t]), q]
    rfl
theorem wgh_len : ∀ (xs ys : List Q), (wgh xs ys).length ≤ xs.length
  | [], _ => Nat.le_refl _
  | _ :: _, [] => Nat.zero_le _
  | _ :: xs, _ :: ys => Nat.succ_le_succ (wgh_len xs ys)
theorem weighed_sp {k : Nat} {xs ys : List Q} (hk : k < 100) (hl : xs.length ≤ 10) (hx : ∀ y ∈ xs, Bd k y) (hy : ∀ y ∈ ys, Bd k y) : cfL pr (d + 5) "weighed" [.lst (xs.map tD), .lst (ys.map tD)] w = .ok (tD (smm (0, 1) (wgh xs ys))) w := by
  have hw := wgh_len xs ys
  have q := wgh_loop (d := d + 1) (w := w) (by omega) (.sh (.lst (xs.map tD))) (.sh (.lst (ys.map tD))) .no .no xs ys hx hy
  have hm : (k + k + 1) * (wgh xs ys).length ≤ 201 * 10 := Nat.mul_le_mul (by omega) (by omega)
  have s := summed_sp (d := d) (w := w) (xs := wgh xs ys) (wgh_bd xs ys hx hy) (by omega)
  have dr : ∀ (a b : D), drops (alI (.zip (.var 0) (.var 1))) (wipes [2, 3] [.sh a, .sh b, .no, .no]) = [.sh a, .sh b, .no, .no] := fun _ _ => rfl
  refine cf_of 31 lk_weighed rfl ?_ (by simp)
  simp only [b_weighed, b_cons, b_nil, s_ife, s_asg', s_asgT', s_parK, par_ii, s_ex, s_whl, s_for, s_ret, s_retN, s_brk, s_pass, s_raise, v_var, v_con, v_bin, v_neg, v_not, v_and, v_or, v_cmp, v_chn, v_ite, v_tup, v_lst, v_call, v_blt, v_sub, v_slc, v_rev, v_comp, v_fstr, es_nil, es_cons, o_none, o_some, o_i, i_l, i_t, it_e, it_r1, it_zip, r_ok, r_exc, r_some, r_nok, br_b, br_t, br_f, n_nx, n_bk, n_rt, ret_rt, ret_exc, rd_0, rd_o, rd_s, put_int, put_bl, put_str, x_add, x_sub, x_neg, c_eq, c_ne, c_lt, c_gt, c_le, c_ge, t_bl, t_int, l_abs, l_int, l_bl, l_max, u_t, u_l, u_t0, u_t1, u_l0, u_l1, u_st0, u_st1, List.map_cons, List.map_nil, List.replicate, List.cons_append, List.nil_append, List.set_cons_zero, List.set_cons_succ, Option.map_some, List.length_cons, List.length_nil, decide_true, if_true, Bool.false_eq_true, if_false, Bool.not_true, Bool.not_false, Nat.reduceAdd, Nat.reduceSub, dr, q, List.length_map, sz_map (show (wgh xs ys).length ≤ 1000 by omega), s]
end Lw
end
section
set_option Elab.async false
set_option linter.all false
set_option maxRecDepth 100000
set_option maxHeartbeats 4000000
namespace Lw
open PySem PD
variable {d : Nat} {w : W}
/-- a drawn ratio -/
def Good (x : Q) : Prop := Bd 30 x ∧ 0 < x.2 ∧ Nat.gcd x.1.natAbs x.2.natAbs = 1
theorem next_ex {ns : List Int} {c many : Int} (hs : StrOk ns) (hc : 0 ≤ c) (hc2 : c < 1000000000) (hm : 0 < many) : ∃ v c', cfL pr (d + 1) "_law_next" [.st, .int many] (some (ns, c)) = .ok (.int v) (some (ns, c')) ∧ 0 ≤ v ∧ v < many ∧ c' = c + 1 :=
  ⟨_, _, next_sp lk_next hs hc hc2 hm, nxV_lo hm, nxV_hi hm, rfl⟩
theorem x_pow6 : binD .pow (.int 10) (.int 6) = some (.int 1000000) := by
  show guardO (powOk 10 6) (D.int (10 ^ (6 : Int).toNat)) = _
  rw [show powOk 10 6 = true by decide +kernel, show (10 : Int) ^ (6 : Int).toNat = 1000000 by decide +kernel]
  rfl
theorem drawn_ex {ns : List Int} {c : Int} (hs : StrOk ns) (hc : 0 ≤ c) (hc2 : c < 900000000) : ∃ x c', cfL pr (d + 3) "_law_drawn" [.st] (some (ns, c)) = .ok (tD x) (some (ns, c')) ∧ Good x ∧ c' = c + 3 := by
  obtain ⟨v1, c1, n1, a1, b1, e1⟩ := next_ex (d := d + 1) hs hc (by omega) (show (0 : Int) < 400 by decide)
  obtain ⟨v2, c2, n2, a2, b2, e2⟩ := next_ex (d := d + 1) (c := c1) hs (by omega) (by omega) (show (0 : Int) < 5 by decide)
  obtain ⟨v3, c3, n3, a3, b3, e3⟩ := next_ex (d := d + 1) (c := c2) hs (by omega) (by omega) (show (0 : Int) < 60 by decide)
  obtain ⟨m, hm⟩ : ∃ m : Int, m = if v2 = 0 then 1000000 else 1 := ⟨_, rfl⟩
  have hmb : m = 1000000 ∨ m = 1 := by rw [hm]; split <;> simp
  have hp : ((v1 - 200) * m).natAbs < 2 ^ 30 := by rcases hmb with h | h <;> rw [h] <;> omega
  have mo : mulOk (v1 - 200) m = true := mul_ok 30 30 (by omega) (by omega)
  have l := lratio_sp (d := d) (w := some (ns, c3)) (a := (v1 - 200) * m) (b := 1 + v3) (k := 30) (by omega) (by omega) (by decide)
  obtain ⟨r1, r2, r3, r4⟩ := rt_ok (a := (v1 - 200) * m) (b := 1 + v3) (by omega)
  refine ⟨rt ((v1 - 200) * m) (1 + v3), c3, ?_, ⟨⟨by omega, by omega, by omega⟩, r1, r4⟩, by omega⟩
  refine cf_of 30 lk_drawn rfl ?_ (by simp)
  by_cases hv : v2 = 0
  · rw [if_pos hv] at hm
    rw [hm] at l mo
    rw [hm]
    simp only [b__law_drawn, b_cons, b_nil, s_ife, s_asg', s_asgT', s_parK, par_ii, s_ex, s_whl, s_for, s_ret, s_retN, s_brk, s_pass, s_raise, v_var, v_con, v_bin, v_neg, v_not, v_and, v_or, v_cmp, v_chn, v_ite, v_tup, v_lst, v_call, v_blt, v_sub, v_slc, v_rev, v_comp, v_fstr, es_nil, es_cons, o_none, o_some, o_i, i_l, i_t, it_e, it_r1, it_zip, r_ok, r_exc, r_some, r_nok, br_b, br_t, br_f, n_nx, n_bk, n_rt, ret_rt, ret_exc, rd_0, rd_o, rd_s, put_int, put_bl, put_str, x_add, x_sub, x_neg, c_eq, c_ne, c_lt, c_gt, c_le, c_ge, t_bl, t_int, l_abs, l_int, l_bl, l_max, u_t, u_l, u_t0, u_t1, u_l0, u_l1, u_st0, u_st1, List.map_cons, List.map_nil, List.replicate, List.cons_append, List.nil_append, List.set_cons_zero, List.set_cons_succ, Option.map_some, List.length_cons, List.length_nil, decide_true, if_true, Bool.false_eq_true, if_false, Bool.not_true, Bool.not_false, Nat.reduceAdd, Nat.reduceSub, n1, n2, n3, hv, x_pow6, sz2, x_mul, mo, l]
  · rw [if_neg hv] at hm
    rw [hm] at l mo
    rw [hm]
    simp only [b__law_drawn, b_cons, b_nil, s_ife, s_asg', s_asgT', s_parK, par_ii, s_ex, s_whl, s_for, s_ret, s_retN, s_brk, s_pass, s_raise, v_var, v_con, v_bin, v_neg, v_not, v_and, v_or, v_cmp, v_chn, v_ite, v_tup, v_lst, v_call, v_blt, v_sub, v_slc, v_rev, v_comp, v_fstr, es_nil, es_cons, o_none, o_some, o_i, i_l, i_t, it_e, it_r1, it_zip, r_ok, r_exc, r_some, r_nok, br_b, br_t, br_f, n_nx, n_bk, n_rt, ret_rt, ret_exc, rd_0, rd_o, rd_s, put_int, put_bl, put_str, x_add, x_sub, x_neg, c_eq, c_ne, c_lt, c_gt, c_le, c_ge, t_bl, t_int, l_abs, l_int, l_bl, l_max, u_t, u_l, u_t0, u_t1, u_l0, u_l1, u_st0, u_st1, List.map_cons, List.map_nil, List.replicate, List.cons_append, List.nil_append, List.set_cons_zero, List.set_cons_succ, Option.map_some, List.length_cons, List.length_nil, decide_true, if_true, Bool.false_eq_true, if_false, Bool.not_true, Bool.not_false, Nat.reduceAdd, Nat.reduceSub, n1, n2, n3, hv, decide_false, x_pow6, sz2, x_mul, mo, l]
/-- a row of drawn ratios -/
theorem rows_ex {ns : List Int} (hs : StrOk ns) {t : Nat} {env : PD.Env} (he : ∀ x : D, rd (env.set t (.sh x)) 1 = some .st) : ∀ (ds : List D) (c : Int), 0 ≤ c → c + 3 * ds.length < 900000000 →
    ∃ (xs : List Q) (c' : Int), compL (vL pr (d + 5) 49) (.call "_law_drawn" [(.var 1)]) (.v t) [] ds env (some (ns, c)) = .ok (xs.map tD) (some (ns, c')) ∧ xs.length = ds.length ∧ (∀ x ∈ xs, Good x) ∧ c' = c + 3 * ds.length
  | [], c, hc, _ => ⟨[], c, rfl, rfl, (fun _ h => nomatch h), by simp⟩
  | x0 :: ds, c, hc, hl => by
    rw [List.length_cons] at hl
    obtain ⟨x, c1, h1, h2, h3⟩ := drawn_ex (d := d + 2) (c := c) hs hc (by omega)
    have h1 : cfL pr (d + 5) "_law_drawn" [.st] (some (ns, c)) = .ok (tD x) (some (ns, c1)) := h1
    obtain ⟨xs, c2, q1, q2, q3, q4⟩ := rows_ex hs he ds c1 (by omega) (by omega)
    refine ⟨x :: xs, c2, ?_, by simp [q2], fun y hy => (List.mem_cons.mp hy).elim (fun e => by rw [e]; exact h2) (q3 y), by rw [List.length_cons]; omega⟩
    rw [compL_cons (env1 := env.set t (.sh x0)) rfl (x := tD x) (w' := some (ns, c1)) (by simp only [b_cons, b_nil, s_ife, s_asg', s_asgT', s_parK, par_ii, s_ex, s_whl, s_for, s_ret, s_retN, s_brk, s_pass, s_raise, v_var, v_con, v_bin, v_neg, v_not, v_and, v_or, v_cmp, v_chn, v_ite, v_tup, v_lst, v_call, v_blt, v_sub, v_slc, v_rev, v_comp, v_fstr, es_nil, es_cons, o_none, o_some, o_i, i_l, i_t, it_e, it_r1, it_zip, r_ok, r_exc, r_some, r_nok, br_b, br_t, br_f, n_nx, n_bk, n_rt, ret_rt, ret_exc, rd_0, rd_o, rd_s, put_int, put_bl, put_str, x_add, x_sub, x_neg, c_eq, c_ne, c_lt, c_gt, c_le, c_ge, t_bl, t_int, l_abs, l_int, l_bl, l_max, u_t, u_l, u_t0, u_t1, u_l0, u_l1, u_st0, u_st1, List.map_cons, List.map_nil, List.replicate, List.cons_append, List.nil_append, List.set_cons_zero, List.set_cons_succ, Option.map_some, List.length_cons, List.length_nil, decide_true, if_true, Bool.false_eq_true, if_false, Bool.not_true, Bool.not_false, Nat.reduceAdd, Nat.reduceSub, he, h1]), q1]
    rfl
/-! ### texts -/
theorem str_e (a : Str) : Str.empty ++ a = a := by
  cases a with
  | mk cps =>
    show Str.mk (#[] ++ cps) = _
    simp
theorem slen {i : Int} (h : i.natAbs < 2 ^ 1000) : i.natAbs.log2 < 1920 ∧ (Str.ofString (toString i)).length ≤ 1921 := by
  have l : i.natAbs.log2 < 1920 := by have := log2_le h; omega
  refine ⟨l, ?_⟩
  rw [ofString_length]
  exact int_text_length_le (k := 1920) (by decide) l
def txt_ (x : Q) : Str := if x.2 = 1 then Str.ofString (toString x.1) else Str.ofString (toString x.1) ++ Str.ofString "/" ++ Str.ofString (toString x.2)
theorem f_int {i : Int} (h : i.natAbs.log2 < 1920) : fpart (.int i) = some (Str.ofString (toString i)) := by
  show guardO _ _ = _
  rw [decide_eq_true h]; rfl
theorem ef_cons {v : Ev} {e : E} {es : List E} {out : Str} {env : PD.Env} {x : D} {s : Str} {w' : W} (h : v.e e env w = .ok x w') (hs : fpart x = some s) (hz : szOk (out.length + s.length) = true) : evF v (e :: es) out env w = evF v es (out ++ s) env w' := by
  conv => lhs; unfold evF; rw [h, r_okb]
  rw [hs]
  dsimp only
  rw [if_pos hz]
theorem text_sp {x : Q} (hx : Bd 900 x) : cfL pr (d + 1) "ratio_text" [tD x] w = .ok (.str (txt_ x)) w := by
  obtain ⟨l1, z1⟩ := slen (pow_up hx hx 900 1000 hx.1 (by decide))
  obtain ⟨l2, z2⟩ := slen (pow_up hx hx 900 1000 hx.2.1 (by decide))
  refine cf_of 30 lk_text rfl ?_ (by simp)
  unfold txt_
  by_cases h : x.2 = 1
  · simp only [b_ratio_text, tD, b_cons, b_nil, s_ife, s_asg', s_asgT', s_parK, par_ii, s_ex, s_whl, s_for, s_ret, s_retN, s_brk, s_pass, s_raise, v_var, v_con, v_bin, v_neg, v_not, v_and, v_or, v_cmp, v_chn, v_ite, v_tup, v_lst, v_call, v_blt, v_sub, v_slc, v_rev, v_comp, v_fstr, es_nil, es_cons, o_none, o_some, o_i, i_l, i_t, it_e, it_r1, it_zip, r_ok, r_exc, r_some, r_nok, br_b, br_t, br_f, n_nx, n_bk, n_rt, ret_rt, ret_exc, rd_0, rd_o, rd_s, put_int, put_bl, put_str, x_add, x_sub, x_neg, c_eq, c_ne, c_lt, c_gt, c_le, c_ge, t_bl, t_int, l_abs, l_int, l_bl, l_max, u_t, u_l, u_t0, u_t1, u_l0, u_l1, u_st0, u_st1, List.map_cons, List.map_nil, List.replicate, List.cons_append, List.nil_append, List.set_cons_zero, List.set_cons_succ, Option.map_some, List.length_cons, List.length_nil, decide_true, if_true, Bool.false_eq_true, if_false, Bool.not_true, Bool.not_false, Nat.reduceAdd, Nat.reduceSub, h, l_str l1]
  · have s1 : szOk (Str.empty.length + (Str.ofString (toString x.1)).length) = true := decide_eq_true (by show 0 + _ ≤ _; omega)
    have sl : (Str.ofString "/").length = 1 := rfl
    have s2 : szOk ((Str.empty ++ Str.ofString (toString x.1)).length + (Str.ofString "/").length) = true := decide_eq_true (by rw [str_e, sl]; omega)
    have s3 : szOk ((Str.empty ++ Str.ofString (toString x.1) ++ Str.ofString "/").length + (Str.ofString (toString x.2)).length) = true := decide_eq_true (by rw [str_e, strLen_append, sl]; omega)
    have ef : evF (vL pr d 27) [(.sub (.var 0) (.con (.int 0))), (.con (.str "/")), (.sub (.var 0) (.con (.int 1)))] Str.empty [.sh (.tup [.int x.1, .int x.2])] w = .ok (Str.ofString (toString x.1) ++ Str.ofString "/" ++ Str.ofString (toString x.2)) w := by
      rw [ef_cons (x := .int x.1) (w' := w) (by simp only [b_cons, b_nil, s_ife, s_asg', s_asgT', s_parK, par_ii, s_ex, s_whl, s_for, s_ret, s_retN, s_brk, s_pass, s_raise, v_var, v_con, v_bin, v_neg, v_not, v_and, v_or, v_cmp, v_chn, v_ite, v_tup, v_lst, v_call, v_blt, v_sub, v_slc, v_rev, v_comp, v_fstr, es_nil, es_cons, o_none, o_some, o_i, i_l, i_t, it_e, it_r1, it_zip, r_ok, r_exc, r_some, r_nok, br_b, br_t, br_f, n_nx, n_bk, n_rt, ret_rt, ret_exc, rd_0, rd_o, rd_s, put_int, put_bl, put_str, x_add, x_sub, x_neg, c_eq, c_ne, c_lt, c_gt, c_le, c_ge, t_bl, t_int, l_abs, l_int, l_bl, l_max, u_t, u_l, u_t0, u_t1, u_l0, u_l1, u_st0, u_st1, List.map_cons, List.map_nil, List.replicate, List.cons_append, List.nil_append, List.set_cons_zero, List.set_cons_succ, Option.map_some, List.length_cons, List.length_nil, decide_true, if_true, Bool.false_eq_true, if_false, Bool.not_true, Bool.not_false, Nat.reduceAdd, Nat.reduceSub]) (f_int l1) s1, ef_cons (x := .str "/") (s := "/") (w' := w) (by simp only [b_cons, b_nil, s_ife, s_asg', s_asgT', s_parK, par_ii, s_ex, s_whl, s_for, s_ret, s_retN, s_brk, s_pass, s_raise, v_var, v_con, v_bin, v_neg, v_not, v_and, v_or, v_cmp, v_chn, v_ite, v_tup, v_lst, v_call, v_blt, v_sub, v_slc, v_rev, v_comp, v_fstr, es_nil, es_cons, o_none, o_some, o_i, i_l, i_t, it_e, it_r1, it_zip, r_ok, r_exc, r_some, r_nok, br_b, br_t, br_f, n_nx, n_bk, n_rt, ret_rt, ret_exc, rd_0, rd_o, rd_s, put_int, put_bl, put_str, x_add, x_sub, x_neg, c_eq, c_ne, c_lt, c_gt, c_le, c_ge, t_bl, t_int, l_abs, l_int, l_bl, l_max, u_t, u_l, u_t0, u_t1, u_l0, u_l1, u_st0, u_st1, List.map_cons, List.map_nil, List.replicate, List.cons_append, List.nil_append, List.set_cons_zero, List.set_cons_succ, Option.map_some, List.length_cons, List.length_nil, decide_true, if_true, Bool.false_eq_true, if_false, Bool.not_true, Bool.not_false, Nat.reduceAdd, Nat.reduceSub]) rfl s2, ef_cons (x := .int x.2) (w' := w) (by simp only [b_cons, b_nil, s_ife, s_asg', s_asgT', s_parK, par_ii, s_ex, s_whl, s_for, s_ret, s_retN, s_brk, s_pass, s_raise, v_var, v_con, v_bin, v_neg, v_not, v_and, v_or, v_cmp, v_chn, v_ite, v_tup, v_lst, v_call, v_blt, v_sub, v_slc, v_rev, v_comp, v_fstr, es_nil, es_cons, o_none, o_some, o_i, i_l, i_t, it_e, it_r1, it_zip, r_ok, r_exc, r_some, r_nok, br_b, br_t, br_f, n_nx, n_bk, n_rt, ret_rt, ret_exc, rd_0, rd_o, rd_s, put_int, put_bl, put_str, x_add, x_sub, x_neg, c_eq, c_ne, c_lt, c_gt, c_le, c_ge, t_bl, t_int, l_abs, l_int, l_bl, l_max, u_t, u_l, u_t0, u_t1, u_l0, u_l1, u_st0, u_st1, List.map_cons, List.map_nil, List.replicate, List.cons_append, List.nil_append, List.set_cons_zero, List.set_cons_succ, Option.map_some, List.length_cons, List.length_nil, decide_true, if_true, Bool.false_eq_true, if_false, Bool.not_true, Bool.not_false, Nat.reduceAdd, Nat.reduceSub]) (f_int l2) s3, str_e]
      rfl
    simp only [b_ratio_text, tD, b_cons, b_nil, s_ife, s_asg', s_asgT', s_parK, par_ii, s_ex, s_whl, s_for, s_ret, s_retN, s_brk, s_pass, s_raise, v_var, v_con, v_bin, v_neg, v_not, v_and, v_or, v_cmp, v_chn, v_ite, v_tup, v_lst, v_call, v_blt, v_sub, v_slc, v_rev, v_comp, v_fstr, es_nil, es_cons, o_none, o_some, o_i, i_l, i_t, it_e, it_r1, it_zip, r_ok, r_exc, r_some, r_nok, br_b, br_t, br_f, n_nx, n_bk, n_rt, ret_rt, ret_exc, rd_0, rd_o, rd_s, put_int, put_bl, put_str, x_add, x_sub, x_neg, c_eq, c_ne, c_lt, c_gt, c_le, c_ge, t_bl, t_int, l_abs, l_int, l_bl, l_max, u_t, u_l, u_t0, u_t1, u_l0, u_l1, u_st0, u_st1, List.map_cons, List.map_nil, List.replicate, List.cons_append, List.nil_append, List.set_cons_zero, List.set_cons_succ, Option.map_some, List.length_cons, List.length_nil, decide_true, if_true, Bool.false_eq_true, if_false, Bool.not_true, Bool.not_false, Nat.reduceAdd, Nat.reduceSub, h, decide_false, ef]
end Lw
end
section
set_option Elab.async false
set_option linter.all false
set_option maxRecDepth 100000
set_option maxHeartbeats 4000000
namespace Lw
open PySem PD
variable {d : Nat} {w : W}
theorem q_0 {x : Q} : subW (tD x) (.int 0) w = .ok (.int x.1) w := rfl
theorem q_1 {x : Q} : subW (tD x) (.int 1) w = .ok (.int x.2) w := rfl
theorem sub_nat {xs : List Q} {k : Nat} {x : Q} (h : xs[k]? = some x) : subD (.lst (xs.map tD)) (.int (k : Nat)) = some (tD x) := by
  have hlt := (List.getElem?_eq_some_iff.mp h).1
  show (seqIx (xs.map tD).length (k : Nat)).bind _ = _
  unfold seqIx
  rw [List.length_map, if_pos ⟨by omega, by omega⟩]
  simp [h]
def b13 : List S := [
      .asg 10 (.sub (.lst [(.var 10), (.sub (.var 7) (.var 12))]) (.blt .int [(.call "_law_less" [(.var 10), (.sub (.var 7) (.var 12))])])),
      .asg 11 (.call "_law_plus" [(.var 11), (.call "_law_ratio" [(.bin .mul (.sub (.sub (.var 7) (.var 12)) (.con (.int 0))) (.sub (.sub (.var 8) (.var 12)) (.con (.int 0)))), (.bin .mul (.sub (.sub (.var 7) (.var 12)) (.con (.int 1))) (.sub (.sub (.var 8) (.var 12)) (.con (.int 1))))])])]
theorem drop_get {xs : List Q} {k : Nat} {x : Q} (h : xs[k]? = some x) : xs.drop k = x :: xs.drop (k + 1) := by
  obtain ⟨h1, h2⟩ := List.getElem?_eq_some_iff.mp h
  rw [List.drop_eq_getElem_cons h1, h2]
theorem loop13 {rows more : List Q} (hr : ∀ x ∈ rows, Bd 30 x) (hm : ∀ x ∈ more, Bd 30 x) (hlm : more.length = rows.length) {e0 e1 e2 e3 e4 e5 e6 e9 e13 e14 : Slot} : ∀ (n k : Nat) (b t : Q) (l : Nat) (e12 : Slot), k + n = rows.length → Bd 30 b → Bd l t → l + 61 * n < 7000 →
    ∃ e12', forL (vL pr (d + 5) 50) (.v 12) b13 (rngL k 1 n) [e0, e1, e2, e3, e4, e5, e6, .ow (rows.map tD), .ow (more.map tD), e9, .sh (tD b), .sh (tD t), e12, e13, e14] w =
      .ok ([e0, e1, e2, e3, e4, e5, e6, .ow (rows.map tD), .ow (more.map tD), e9, .sh (tD (gst b (rows.drop k))), .sh (tD (smm t (wgh (rows.drop k) (more.drop k)))), e12', e13, e14], .nx) w
  | 0, k, b, t, l, e12, hk, hb, ht, hl => by
    have h1 : rows.drop k = [] := List.drop_eq_nil_of_le (by omega)
    rw [h1]
    exact ⟨e12, rfl⟩
  | n + 1, k, b, t, l, e12, hk, hb, ht, hl => by
    obtain ⟨x, hx⟩ : ∃ x, rows[k]? = some x := ⟨rows[k]'(by omega), by simp⟩
    obtain ⟨y, hy⟩ : ∃ y, more[k]? = some y := ⟨more[k]'(by omega), by simp⟩
    have bx := hr x (List.mem_of_getElem? hx)
    have bY := hm y (List.mem_of_getElem? hy)
    have ls := lless_sp (d := d + 4) (w := w) hb bx (by decide)
    obtain ⟨m1, m2, m3, m4, m5⟩ := muls bx bY (by decide)
    have lr : cfL pr (d + 5) "_law_ratio" [.int (x.1 * y.1), .int (x.2 * y.2)] w = .ok (tD (tms x y)) w := lratio_sp (d := d + 3) (Int.mul_ne_zero bx.2.2 bY.2.2) (lt_mul bx.2.1 bY.2.1) (by decide)
    have pl := plus_sp (d := d + 2) (w := w) ht (tms_bd bx bY) (by omega)
    have s7 := sub_nat hx
    have s8 := sub_nat hy
    have b' : Bd 30 (if lss b x = true then x else b) := by split; exact bx; exact hb
    obtain ⟨e12', q⟩ := loop13 hr hm hlm (e0 := e0) (e1 := e1) (e2 := e2) (e3 := e3) (e4 := e4) (e5 := e5) (e6 := e6) (e9 := e9) (e13 := e13) (e14 := e14) n (k + 1) (if lss b x = true then x else b) (pls t (tms x y)) (l + 61) (.sh (.int k)) (by omega) b' (pls_bd ht (tms_bd bx bY)) (by omega)
    have e : (vL pr (d + 5) 50).b b13 [e0, e1, e2, e3, e4, e5, e6, .ow (rows.map tD), .ow (more.map tD), e9, .sh (tD b), .sh (tD t), .sh (.int k), e13, e14] w =
        .ok ([e0, e1, e2, e3, e4, e5, e6, .ow (rows.map tD), .ow (more.map tD), e9, .sh (tD (if lss b x = true then x else b)), .sh (tD (pls t (tms x y))), .sh (.int k), e13, e14], .nx) w := by
      by_cases h : lss b x = true
      · simp only [b13, b_cons, b_nil, s_ife, s_asg', s_asgT', s_parK, par_ii, s_ex, s_whl, s_for, s_ret, s_retN, s_brk, s_pass, s_raise, v_var, v_con, v_bin, v_neg, v_not, v_and, v_or, v_cmp, v_chn, v_ite, v_tup, v_lst, v_call, v_blt, v_sub, v_slc, v_rev, v_comp, v_fstr, es_nil, es_cons, o_none, o_some, o_i, i_l, i_t, it_e, it_r1, it_zip, r_ok, r_exc, r_some, r_nok, br_b, br_t, br_f, n_nx, n_bk, n_rt, ret_rt, ret_exc, rd_0, rd_o, rd_s, put_int, put_bl, put_str, x_add, x_sub, x_neg, c_eq, c_ne, c_lt, c_gt, c_le, c_ge, t_bl, t_int, l_abs, l_int, l_bl, l_max, u_t, u_l, u_t0, u_t1, u_l0, u_l1, u_st0, u_st1, List.map_cons, List.map_nil, List.replicate, List.cons_append, List.nil_append, List.set_cons_zero, List.set_cons_succ, Option.map_some, List.length_cons, List.length_nil, decide_true, if_true, Bool.false_eq_true, if_false, Bool.not_true, Bool.not_false, Nat.reduceAdd, Nat.reduceSub, s7, s8, ls, h, sz2, put_q, q_0, q_1, x_mul, m3, m4, lr, pl]
      · have h : lss b x = false := by simpa using h
        simp only [b13, b_cons, b_nil, s_ife, s_asg', s_asgT', s_parK, par_ii, s_ex, s_whl, s_for, s_ret, s_retN, s_brk, s_pass, s_raise, v_var, v_con, v_bin, v_neg, v_not, v_and, v_or, v_cmp, v_chn, v_ite, v_tup, v_lst, v_call, v_blt, v_sub, v_slc, v_rev, v_comp, v_fstr, es_nil, es_cons, o_none, o_some, o_i, i_l, i_t, it_e, it_r1, it_zip, r_ok, r_exc, r_some, r_nok, br_b, br_t, br_f, n_nx, n_bk, n_rt, ret_rt, ret_exc, rd_0, rd_o, rd_s, put_int, put_bl, put_str, x_add, x_sub, x_neg, c_eq, c_ne, c_lt, c_gt, c_le, c_ge, t_bl, t_int, l_abs, l_int, l_bl, l_max, u_t, u_l, u_t0, u_t1, u_l0, u_l1, u_st0, u_st1, List.map_cons, List.map_nil, List.replicate, List.cons_append, List.nil_append, List.set_cons_zero, List.set_cons_succ, Option.map_some, List.length_cons, List.length_nil, decide_true, if_true, Bool.false_eq_true, if_false, Bool.not_true, Bool.not_false, Nat.reduceAdd, Nat.reduceSub, s7, s8, ls, h, sz2, put_q, q_0, q_1, x_mul, m3, m4, lr, pl]
    have er : rngL (k : Int) 1 (n + 1) = .int k :: rngL ((k + 1 : Nat) : Int) 1 n := by
      show D.int k :: rngL ((k : Int) + 1) 1 n = _
      rfl
    refine ⟨e12', ?_⟩
    rw [er, forL_cons (env1 := [e0, e1, e2, e3, e4, e5, e6, .ow (rows.map tD), .ow (more.map tD), e9, .sh (tD b), .sh (tD t), .sh (.int k), e13, e14]) rfl, e, drop_get hx, drop_get hy]
    exact q
end Lw
end
section
set_option Elab.async false
set_option linter.all false
set_option maxRecDepth 100000
set_option maxHeartbeats 4000000
namespace Lw
open PySem PD
variable {d : Nat} {w : W}
def bT1 : List S := [
    .asg 3 (.bin .sub (.call "_law_next" [(.var 1), (.con (.int 900))]) (.con (.int 450))),
    .asg 4 (.sub (.lst [(.bin .add (.con (.int 1)) (.call "_law_next" [(.var 1), (.con (.int 80))])), (.bin .sub (.bin .sub (.con (.int 0)) (.con (.int 1))) (.call "_law_next" [(.var 1), (.con (.int 80))]))]) (.call "_law_next" [(.var 1), (.con (.int 2))])),
    .asg 5 (.call "_law_drawn" [(.var 1)]),
    .asg 6 (.call "_law_drawn" [(.var 1)]),
    .asg 7 (.comp (.call "_law_drawn" [(.var 1)]) (.v 12) (.r1 (.bin .add (.con (.int 1)) (.call "_law_next" [(.var 1), (.con (.int 5))]))) [] [12]),
    .asg 8 (.comp (.call "_law_drawn" [(.var 1)]) (.v 14) (.e (.var 7)) [] [14])]
def t1a : E := .lst [(.call "ratio" [(.var 3), (.var 4)]), (.call "is_ratio" [(.var 5)]), (.call "is_ratio" [(.tup [(.bin .mul (.con (.int 2)) (.sub (.var 5) (.con (.int 0)))), (.bin .mul (.con (.int 2)) (.sub (.var 5) (.con (.int 1))))])]), (.call "is_ratio" [(.tup [(.con (.int 1)), (.con (.int 0))])]), (.call "is_ratio" [(.tup [(.con (.int 3)), (.neg (.con (.int 1)))])])]
def t1b : E := .lst [(.call "_law_ratio" [(.var 3), (.var 4)]), (.con (.bl true)), (.con (.bl false)), (.con (.bl false)), (.con (.bl false))]
def d2 : E := .lst [(.call "_law_plus" [(.var 5), (.var 6)]), (.tup [(.bin .sub (.con (.int 0)) (.sub (.var 5) (.con (.int 0)))), (.sub (.var 5) (.con (.int 1)))]), (.call "_law_ratio" [(.bin .mul (.sub (.var 5) (.con (.int 0))) (.sub (.var 6) (.con (.int 0)))), (.bin .mul (.sub (.var 5) (.con (.int 1))) (.sub (.var 6) (.con (.int 1))))]), (.call "_law_less" [(.var 5), (.var 6)])]
def t2 : E := .lst [(.call "added" [(.var 5), (.var 6)]), (.call "negative" [(.var 5)]), (.call "times" [(.var 5), (.var 6)]), (.call "less" [(.var 5), (.var 6)])]
def t3a : E := .call "over" [(.var 5), (.var 6)]
def t3b : E := .call "_law_ratio" [(.bin .mul (.sub (.var 5) (.con (.int 0))) (.sub (.var 6) (.con (.int 1)))), (.bin .mul (.sub (.var 5) (.con (.int 1))) (.sub (.var 6) (.con (.int 0))))]
def t4a : E := .lst [(.call "greatest" [(.var 7)]), (.call "summed" [(.var 7)]), (.call "weighed" [(.var 7), (.var 8)])]
def t4b : E := .lst [(.var 10), (.call "_law_sum" [(.var 7)]), (.var 11)]
abbrev no (a b : E) : E := .not (.call "_law_same" [a, b])
abbrev bad : List S := [.ret (.con (.bl false))]
def bT2 : List S := [
    .ife (no t1a t1b) bad [],
    .asg 9 d2,
    .ife (no t2 (.var 9)) bad [],
    .ife (.and (.cmp .ne (.sub (.var 6) (.con (.int 0))) (.con (.int 0))) (no t3a t3b)) bad [],
    .asg 10 (.sub (.var 7) (.con (.int 0))),
    .asg 11 (.tup [(.con (.int 0)), (.con (.int 1))]),
    .for_ (.v 12) (.r1 (.blt .len [(.var 7)])) b13,
    .ife (no t4a t4b) bad [],
    .asg 13 (.blt .str [(.sub (.var 5) (.con (.int 0)))]),
    .ife (.cmp .ne (.sub (.var 5) (.con (.int 1))) (.con (.int 1))) [
      .asg 13 (.bin .add (.bin .add (.var 13) (.con (.str "/"))) (.blt .str [(.sub (.var 5) (.con (.int 1)))]))] [],
    .ife (no (.call "ratio_text" [(.var 5)]) (.var 13)) bad []]
theorem body_eq : b_law = [.for_ (.v 2) (.r1 (.con (.int 12))) (bT1 ++ bT2), .ret (.con (.bl true))] := rfl
theorem asg_fr {v : Ev} {wf : E → List S → PD.Env → W → R (PD.Env × Ctl)} {env : PD.Env} {w w' : W} {i : Nat} {e : E} {ds : List D} (hf : fr e = true) (he : v.e e env w = .ok (.lst ds) w') (hd : (al e).any (isOw env) = false) : stmtK pr wf v (.asg i e) env w = .ok (env.set i (.ow ds), .nx) w' := by
  rw [s_asg', he, r_ok, put_o hf, drop_f hd]
theorem one1 {ns : List Int} (hs : StrOk ns) {c : Int} (hc : 0 ≤ c) (hc2 : c < 800000000) (s0 x2 x3 x4 x5 x6 x7 x8 x9 x10 x11 x12 x13 x14 : Slot) :
    ∃ (top below c' : Int) (one other : Q) (rows more : List Q), (vL pr (d + 5) 51).b bT1 [s0, .sh .st, x2, x3, x4, x5, x6, x7, x8, x9, x10, x11, x12, x13, x14] (some (ns, c)) =
      .ok ([s0, .sh .st, x2, .sh (.int top), .sh (.int below), .sh (tD one), .sh (tD other), .ow (rows.map tD), .ow (more.map tD), x9, x10, x11, x12, x13, x14], .nx) (some (ns, c')) ∧
      top.natAbs < 2 ^ 30 ∧ below.natAbs < 2 ^ 30 ∧ below ≠ 0 ∧ Good one ∧ Good other ∧ rows ≠ [] ∧ rows.length ≤ 5 ∧ more.length = rows.length ∧ (∀ x ∈ rows, Good x) ∧ (∀ x ∈ more, Good x) ∧ c ≤ c' ∧ c' ≤ c + 41 := by
  obtain ⟨v1, c1, n1, a1, b1, e1⟩ := next_ex (d := d + 4) hs hc (by omega) (show (0 : Int) < 900 by decide)
  obtain ⟨v2, c2, n2, a2, b2, e2⟩ := next_ex (d := d + 4) (c := c1) hs (by omega) (by omega) (show (0 : Int) < 80 by decide)
  obtain ⟨v3, c3, n3, a3, b3, e3⟩ := next_ex (d := d + 4) (c := c2) hs (by omega) (by omega) (show (0 : Int) < 80 by decide)
  obtain ⟨v4, c4, n4, a4, b4, e4⟩ := next_ex (d := d + 4) (c := c3) hs (by omega) (by omega) (show (0 : Int) < 2 by decide)
  obtain ⟨one, c5, n5, g5, e5⟩ := drawn_ex (d := d + 2) (c := c4) hs (by omega) (by omega)
  obtain ⟨other, c6, n6, g6, e6⟩ := drawn_ex (d := d + 2) (c := c5) hs (by omega) (by omega)
  obtain ⟨v7, c7, n7, a7, b7, e7⟩ := next_ex (d := d + 4) (c := c6) hs (by omega) (by omega) (show (0 : Int) < 5 by decide)
  obtain ⟨n, hn⟩ : ∃ n : Nat, 1 + v7 = (n : Int) := ⟨(1 + v7).toNat, by omega⟩
  have n5 : cfL pr (d + 5) "_law_drawn" [.st] (some (ns, c4)) = .ok (tD one) (some (ns, c5)) := n5
  have n6 : cfL pr (d + 5) "_law_drawn" [.st] (some (ns, c5)) = .ok (tD other) (some (ns, c6)) := n6
  obtain ⟨below, hbl⟩ : ∃ b : Int, b = if v4 = 0 then 1 + v2 else 0 - 1 - v3 := ⟨_, rfl⟩
  have ln : (rngL 0 1 n).length = n := rngL_ln n 0
  obtain ⟨rows, c8, n8, l8, g8, e8⟩ := rows_ex (d := d) hs (t := 12) (env := [s0, .sh .st, x2, .sh (.int (v1 - 450)), .sh (.int below), .sh (tD one), .sh (tD other), x7, x8, x9, x10, x11, .no, x13, x14]) (fun _ => rfl) (rngL 0 1 n) c7 (by omega) (by rw [ln]; omega)
  rw [ln] at l8 e8
  obtain ⟨more, c9, n9, l9, g9, e9⟩ := rows_ex (d := d) hs (t := 14) (env := [s0, .sh .st, x2, .sh (.int (v1 - 450)), .sh (.int below), .sh (tD one), .sh (tD other), .ow (rows.map tD), x8, x9, x10, x11, x12, x13, .no]) (fun _ => rfl) (rows.map tD) c8 (by omega) (by rw [List.length_map]; omega)
  rw [List.length_map] at l9 e9
  have p4 : (vL pr (d + 5) 50).e (.sub (.lst [(.bin .add (.con (.int 1)) (.call "_law_next" [(.var 1), (.con (.int 80))])), (.bin .sub (.bin .sub (.con (.int 0)) (.con (.int 1))) (.call "_law_next" [(.var 1), (.con (.int 80))]))]) (.call "_law_next" [(.var 1), (.con (.int 2))])) [s0, .sh .st, x2, .sh (.int (v1 - 450)), x4, x5, x6, x7, x8, x9, x10, x11, x12, x13, x14] (some (ns, c1)) = .ok (.int below) (some (ns, c4)) := by
    have hv : v4 = 0 ∨ v4 = 1 := by omega
    rcases hv with h | h
    · rw [hbl, if_pos h]
      rw [h] at n4
      simp only [b_cons, b_nil, s_ife, s_asg', s_asgT', s_parK, par_ii, s_ex, s_whl, s_for, s_ret, s_retN, s_brk, s_pass, s_raise, v_var, v_con, v_bin, v_neg, v_not, v_and, v_or, v_cmp, v_chn, v_ite, v_tup, v_lst, v_call, v_blt, v_sub, v_slc, v_rev, v_comp, v_fstr, es_nil, es_cons, o_none, o_some, o_i, i_l, i_t, it_e, it_r1, it_zip, r_ok, r_exc, r_some, r_nok, br_b, br_t, br_f, n_nx, n_bk, n_rt, ret_rt, ret_exc, rd_0, rd_o, rd_s, put_int, put_bl, put_str, x_add, x_sub, x_neg, c_eq, c_ne, c_lt, c_gt, c_le, c_ge, t_bl, t_int, l_abs, l_int, l_bl, l_max, u_t, u_l, u_t0, u_t1, u_l0, u_l1, u_st0, u_st1, List.map_cons, List.map_nil, List.replicate, List.cons_append, List.nil_append, List.set_cons_zero, List.set_cons_succ, Option.map_some, List.length_cons, List.length_nil, decide_true, if_true, Bool.false_eq_true, if_false, Bool.not_true, Bool.not_false, Nat.reduceAdd, Nat.reduceSub, n2, n3, n4, sz2]
    · rw [hbl, if_neg (by omega)]
      rw [h] at n4
      simp only [b_cons, b_nil, s_ife, s_asg', s_asgT', s_parK, par_ii, s_ex, s_whl, s_for, s_ret, s_retN, s_brk, s_pass, s_raise, v_var, v_con, v_bin, v_neg, v_not, v_and, v_or, v_cmp, v_chn, v_ite, v_tup, v_lst, v_call, v_blt, v_sub, v_slc, v_rev, v_comp, v_fstr, es_nil, es_cons, o_none, o_some, o_i, i_l, i_t, it_e, it_r1, it_zip, r_ok, r_exc, r_some, r_nok, br_b, br_t, br_f, n_nx, n_bk, n_rt, ret_rt, ret_exc, rd_0, rd_o, rd_s, put_int, put_bl, put_str, x_add, x_sub, x_neg, c_eq, c_ne, c_lt, c_gt, c_le, c_ge, t_bl, t_int, l_abs, l_int, l_bl, l_max, u_t, u_l, u_t0, u_t1, u_l0, u_l1, u_st0, u_st1, List.map_cons, List.map_nil, List.replicate, List.cons_append, List.nil_append, List.set_cons_zero, List.set_cons_succ, Option.map_some, List.length_cons, List.length_nil, decide_true, if_true, Bool.false_eq_true, if_false, Bool.not_true, Bool.not_false, Nat.reduceAdd, Nat.reduceSub, n2, n3, n4, sz2]
  have p7 : (vL pr (d + 5) 50).e (.comp (.call "_law_drawn" [(.var 1)]) (.v 12) (.r1 (.bin .add (.con (.int 1)) (.call "_law_next" [(.var 1), (.con (.int 5))]))) [] [12]) [s0, .sh .st, x2, .sh (.int (v1 - 450)), .sh (.int below), .sh (tD one), .sh (tD other), x7, x8, x9, x10, x11, x12, x13, x14] (some (ns, c6)) = .ok (.lst (rows.map tD)) (some (ns, c8)) :=
    comp_of (it_n (i := 1 + v7) (w' := some (ns, c7)) (by simp only [b_cons, b_nil, s_ife, s_asg', s_asgT', s_parK, par_ii, s_ex, s_whl, s_for, s_ret, s_retN, s_brk, s_pass, s_raise, v_var, v_con, v_bin, v_neg, v_not, v_and, v_or, v_cmp, v_chn, v_ite, v_tup, v_lst, v_call, v_blt, v_sub, v_slc, v_rev, v_comp, v_fstr, es_nil, es_cons, o_none, o_some, o_i, i_l, i_t, it_e, it_r1, it_zip, r_ok, r_exc, r_some, r_nok, br_b, br_t, br_f, n_nx, n_bk, n_rt, ret_rt, ret_exc, rd_0, rd_o, rd_s, put_int, put_bl, put_str, x_add, x_sub, x_neg, c_eq, c_ne, c_lt, c_gt, c_le, c_ge, t_bl, t_int, l_abs, l_int, l_bl, l_max, u_t, u_l, u_t0, u_t1, u_l0, u_l1, u_st0, u_st1, List.map_cons, List.map_nil, List.replicate, List.cons_append, List.nil_append, List.set_cons_zero, List.set_cons_succ, Option.map_some, List.length_cons, List.length_nil, decide_true, if_true, Bool.false_eq_true, if_false, Bool.not_true, Bool.not_false, Nat.reduceAdd, Nat.reduceSub, n7]) hn (by omega)) rfl n8 (by rw [List.length_map]; omega)
  have p8 : (vL pr (d + 5) 50).e (.comp (.call "_law_drawn" [(.var 1)]) (.v 14) (.e (.var 7)) [] [14]) [s0, .sh .st, x2, .sh (.int (v1 - 450)), .sh (.int below), .sh (tD one), .sh (tD other), .ow (rows.map tD), x8, x9, x10, x11, x12, x13, x14] (some (ns, c8)) = .ok (.lst (more.map tD)) (some (ns, c9)) :=
    comp_of (w1 := some (ns, c8)) (ds := rows.map tD) (by simp only [b_cons, b_nil, s_ife, s_asg', s_asgT', s_parK, par_ii, s_ex, s_whl, s_for, s_ret, s_retN, s_brk, s_pass, s_raise, v_var, v_con, v_bin, v_neg, v_not, v_and, v_or, v_cmp, v_chn, v_ite, v_tup, v_lst, v_call, v_blt, v_sub, v_slc, v_rev, v_comp, v_fstr, es_nil, es_cons, o_none, o_some, o_i, i_l, i_t, it_e, it_r1, it_zip, r_ok, r_exc, r_some, r_nok, br_b, br_t, br_f, n_nx, n_bk, n_rt, ret_rt, ret_exc, rd_0, rd_o, rd_s, put_int, put_bl, put_str, x_add, x_sub, x_neg, c_eq, c_ne, c_lt, c_gt, c_le, c_ge, t_bl, t_int, l_abs, l_int, l_bl, l_max, u_t, u_l, u_t0, u_t1, u_l0, u_l1, u_st0, u_st1, List.map_cons, List.map_nil, List.replicate, List.cons_append, List.nil_append, List.set_cons_zero, List.set_cons_succ, Option.map_some, List.length_cons, List.length_nil, decide_true, if_true, Bool.false_eq_true, if_false, Bool.not_true, Bool.not_false, Nat.reduceAdd, Nat.reduceSub]) rfl n9 (by rw [List.length_map]; omega)
  have q7 := asg_fr (wf := wfL pr (d + 5)) (i := 7) rfl p7 rfl
  have q8 := asg_fr (wf := wfL pr (d + 5)) (i := 8) rfl p8 rfl
  refine ⟨v1 - 450, below, c9, one, other, rows, more, ?_, by omega, by rw [hbl]; split <;> omega, by rw [hbl]; split <;> omega, g5, g6, fun h => by rw [h] at l8; simp at l8; omega, by omega, by omega, g8, g9, by omega, by omega⟩
  unfold bT1
  rw [b_cons]
  simp only [s_asg', v_bin, v_call, v_var, v_con, es_cons, es_nil, rd_s, rd_0, r_some, r_ok, n1, x_sub, put_int, n_nx, List.set_cons_zero, List.set_cons_succ]
  rw [b_cons]
  simp only [s_asg', p4, r_ok, put_int, n_nx, List.set_cons_zero, List.set_cons_succ]
  rw [b_cons]
  simp only [s_asg', v_call, v_var, es_cons, es_nil, rd_s, rd_0, r_some, r_ok, n5, put_q, n_nx, List.set_cons_zero, List.set_cons_succ]
  rw [b_cons]
  simp only [s_asg', v_call, v_var, es_cons, es_nil, rd_s, rd_0, r_some, r_ok, n6, put_q, n_nx, List.set_cons_zero, List.set_cons_succ]
  rw [b_cons, q7, r_ok, n_nx]
  simp only [List.set_cons_zero, List.set_cons_succ]
  rw [b_cons, q8, r_ok, n_nx]
  rfl
end Lw
end
section
set_option Elab.async false
set_option linter.all false
set_option maxRecDepth 100000
set_option maxHeartbeats 4000000
namespace Lw
open PySem PD
variable {d : Nat} {w : W}
theorem okQ {k : Nat} {x : Q} (h : Bd k x) (hk : k ≤ 1900) : okI (tD x) = true := by
  have h1 := okI_int h.1 (by omega)
  have h2 := okI_int h.2.1 (by omega)
  show (okI (.int x.1) && (okI (.int x.2) && true)) = true
  rw [h1, h2]; rfl
theorem is_good {x : Q} (h : Good x) : cfL pr (d + 2) "is_ratio" [.tup [.int x.1, .int x.2]] w = .ok (.bl true) w := by
  have e : gI x.1 x.2 = 1 := by unfold gI; rw [h.2.2]; rfl
  rw [is_sp, e, decide_eq_true (show (1 : Int) ≤ x.2 by have := h.2.1; omega)]
  rfl
theorem is_twice {x : Q} (h : Good x) : cfL pr (d + 2) "is_ratio" [.tup [.int (2 * x.1), .int (2 * x.2)]] w = .ok (.bl false) w := by
  have e : gI (2 * x.1) (2 * x.2) = 2 := by
    unfold gI
    rw [Int.natAbs_mul, Int.natAbs_mul, Nat.gcd_mul_left, h.2.2]; rfl
  rw [is_sp, e, show decide ((2 : Int) = 1) = false from rfl, Bool.and_false]
theorem lss_self {x : Q} : lss x x = false := by
  unfold lss
  exact decide_eq_false (by omega)
theorem addS {a b : Str} (h : a.length + b.length ≤ 16777216) : binD .add (.str a) (.str b) = some (.str (a ++ b)) := by
  show guardO _ _ = _
  rw [show szOk (a.length + b.length) = true from decide_eq_true h]; rfl
theorem same_h : Has pr "_law_same" 2 2 bSame := lk_same
theorem two1 {e0 e1 e2 x9 x10 x11 x12 x13 x14 : Slot} {top below : Int} {one other : Q} {rows more : List Q} (htop : top.natAbs < 2 ^ 30) (hbl : below.natAbs < 2 ^ 30) (hb0 : below ≠ 0) (h1 : Good one) (h2 : Good other) (hne : rows ≠ []) (hl : rows.length ≤ 5) (hlm : more.length = rows.length) (hr : ∀ x ∈ rows, Good x) (hm : ∀ x ∈ more, Good x) :
    ∃ e9 e10 e11 e12 e13, (vL pr (d + 5) 51).b bT2 [e0, e1, e2, .sh (.int top), .sh (.int below), .sh (tD one), .sh (tD other), .ow (rows.map tD), .ow (more.map tD), x9, x10, x11, x12, x13, x14] w =
      .ok ([e0, e1, e2, .sh (.int top), .sh (.int below), .sh (tD one), .sh (tD other), .ow (rows.map tD), .ow (more.map tD), e9, e10, e11, e12, e13, x14], .nx) w := by
  obtain ⟨r0, rs, rfl⟩ : ∃ r0 rs, rows = r0 :: rs := by cases rows with
    | nil => exact absurd rfl hne
    | cons r0 rs => exact ⟨r0, rs, rfl⟩
  have b1 := h1.1
  have b2 := h2.1
  have br : ∀ x ∈ r0 :: rs, Bd 30 x := fun x hx => (hr x hx).1
  have bm : ∀ x ∈ more, Bd 30 x := fun x hx => (hm x hx).1
  obtain ⟨m1, m2, m3, m4, m5⟩ := muls b1 b2 (by decide)
  have k2 : mulOk 2 one.1 = true := mul_ok 30 30 (by decide) b1.1
  have k3 : mulOk 2 one.2 = true := mul_ok 30 30 (by decide) b1.2.1
  -- the first check
  have f1 : cfL pr (d + 5) "ratio" [.int top, .int below] w = .ok (tD (rt top below)) w := ratio_sp (d := d + 3) hb0 hbl (by decide)
  have f2 : cfL pr (d + 5) "_law_ratio" [.int top, .int below] w = .ok (tD (rt top below)) w := lratio_sp (d := d + 3) hb0 hbl (by decide)
  have f3 : cfL pr (d + 5) "is_ratio" [tD one] w = .ok (.bl true) w := is_good (d := d + 3) h1
  have f4 : cfL pr (d + 5) "is_ratio" [.tup [.int (2 * one.1), .int (2 * one.2)]] w = .ok (.bl false) w := is_twice (d := d + 3) h1
  have f5 : cfL pr (d + 5) "is_ratio" [.tup [.int 1, .int 0]] w = .ok (.bl false) w := is_sp (d := d + 3)
  have f6 : cfL pr (d + 5) "is_ratio" [.tup [.int 3, .int (-1)]] w = .ok (.bl false) w := is_sp (d := d + 3)
  have o1 := okQ (rt_bd htop hbl hb0) (by decide)
  have c1 : stmtK pr (wfL pr (d + 5)) (vL pr (d + 5) 50) (.ife (no t1a t1b) bad []) [e0, e1, e2, .sh (.int top), .sh (.int below), .sh (tD one), .sh (tD other), .ow ((r0 :: rs).map tD), .ow (more.map tD), x9, x10, x11, x12, x13, x14] w = .ok ([e0, e1, e2, .sh (.int top), .sh (.int below), .sh (tD one), .sh (tD other), .ow ((r0 :: rs).map tD), .ow (more.map tD), x9, x10, x11, x12, x13, x14], .nx) w := by
    refine chk (t := .lst [tD (rt top below), .bl true, .bl false, .bl false, .bl false]) same_h (w1 := w) ?_ ?_ ?_ (Nat.le_of_ble_eq_true rfl) (Nat.le_of_ble_eq_true rfl)
    · unfold t1a
      simp only [v_lst, v_tup, v_bin, v_neg, v_call, v_var, v_con, v_sub, es_cons, es_nil, rd_s, rd_0, r_some, r_ok, f1, f3, q_0, q_1, x_mul, k2, k3, sz2, sz5, if_true, List.length_cons, List.length_nil, Nat.reduceAdd, f4, f5, x_neg, f6]
    · unfold t1b
      simp only [v_lst, v_call, v_var, v_con, es_cons, es_nil, rd_s, rd_0, r_some, r_ok, f2, sz5, if_true, List.length_cons, List.length_nil, Nat.reduceAdd]
    · show (okI (tD _) && true) = true
      rw [o1]; rfl
  -- the second
  have g1 : cfL pr (d + 5) "added" [tD one, tD other] w = .ok (tD (pls one other)) w := added_sp (d := d + 2) b1 b2 (by decide)
  have g2 : cfL pr (d + 5) "_law_plus" [tD one, tD other] w = .ok (tD (pls one other)) w := plus_sp (d := d + 2) b1 b2 (by decide)
  have g3 : cfL pr (d + 5) "negative" [tD one] w = .ok (tD (-one.1, one.2)) w := negative_sp (d := d + 4)
  have g4 : cfL pr (d + 5) "times" [tD one, tD other] w = .ok (tD (tms one other)) w := times_sp (d := d + 2) b1 b2 (by decide)
  have g5 : cfL pr (d + 5) "less" [tD one, tD other] w = .ok (.bl (lss one other)) w := less_sp (d := d + 4) b1 b2 (by decide)
  have g6 : cfL pr (d + 5) "_law_less" [tD one, tD other] w = .ok (.bl (lss one other)) w := lless_sp (d := d + 4) b1 b2 (by decide)
  have g7 : cfL pr (d + 5) "_law_ratio" [.int (one.1 * other.1), .int (one.2 * other.2)] w = .ok (tD (tms one other)) w := lratio_sp (d := d + 3) (Int.mul_ne_zero b1.2.2 b2.2.2) (lt_mul b1.2.1 b2.2.1) (by decide)
  have en : D.tup [.int (0 - one.1), .int one.2] = tD (-one.1, one.2) := by
    show D.tup [.int (0 - one.1), .int one.2] = D.tup [.int (-one.1), .int one.2]
    rw [show (0 : Int) - one.1 = -one.1 by omega]
  have c2 : stmtK pr (wfL pr (d + 5)) (vL pr (d + 5) 50) (.asg 9 d2) [e0, e1, e2, .sh (.int top), .sh (.int below), .sh (tD one), .sh (tD other), .ow ((r0 :: rs).map tD), .ow (more.map tD), x9, x10, x11, x12, x13, x14] w = .ok ([e0, e1, e2, .sh (.int top), .sh (.int below), .sh (tD one), .sh (tD other), .ow ((r0 :: rs).map tD), .ow (more.map tD), .ow [tD (pls one other), tD (-one.1, one.2), tD (tms one other), .bl (lss one other)], x10, x11, x12, x13, x14], .nx) w := by
    refine asg_fr rfl ?_ rfl
    unfold d2
    simp only [v_lst, v_tup, v_bin, v_neg, v_call, v_var, v_con, v_sub, es_cons, es_nil, rd_s, rd_0, r_some, r_ok, g2, q_0, q_1, x_sub, x_mul, m3, m4, sz2, sz4, if_true, List.length_cons, List.length_nil, Nat.reduceAdd, g7, g6, en]
  obtain ⟨e9, he9⟩ : ∃ e9 : Slot, e9 = .ow [tD (pls one other), tD (-one.1, one.2), tD (tms one other), .bl (lss one other)] := ⟨_, rfl⟩
  rw [← he9] at c2
  have o2 : okI (tD (pls one other)) = true := okQ (pls_bd b1 b2) (by decide)
  have o3 : okI (tD (tms one other)) = true := okQ (tms_bd b1 b2) (by decide)
  have o4 : okI (tD (-one.1, one.2)) = true := okQ (k := 30) ⟨by rw [Int.natAbs_neg]; exact b1.1, b1.2⟩ (by decide)
  have c3 : stmtK pr (wfL pr (d + 5)) (vL pr (d + 5) 50) (.ife (no t2 (.var 9)) bad []) [e0, e1, e2, .sh (.int top), .sh (.int below), .sh (tD one), .sh (tD other), .ow ((r0 :: rs).map tD), .ow (more.map tD), e9, x10, x11, x12, x13, x14] w = .ok ([e0, e1, e2, .sh (.int top), .sh (.int below), .sh (tD one), .sh (tD other), .ow ((r0 :: rs).map tD), .ow (more.map tD), e9, x10, x11, x12, x13, x14], .nx) w := by
    refine chk (t := .lst [tD (pls one other), tD (-one.1, one.2), tD (tms one other), .bl (lss one other)]) same_h (w1 := w) ?_ ?_ ?_ (Nat.le_of_ble_eq_true rfl) (Nat.le_of_ble_eq_true rfl)
    · unfold t2
      simp only [v_lst, v_call, v_var, es_cons, es_nil, rd_s, rd_0, r_some, r_ok, g1, g3, g4, g5, sz4, if_true, List.length_cons, List.length_nil, Nat.reduceAdd]
    · rw [he9]
      simp only [v_var, rd_s, rd_o, r_some]
    · show (okI (tD _) && (okI (tD _) && (okI (tD _) && true))) = true
      rw [o2, o3, o4]; rfl
  -- the third
  have c4 : stmtK pr (wfL pr (d + 5)) (vL pr (d + 5) 50) (.ife (.and (.cmp .ne (.sub (.var 6) (.con (.int 0))) (.con (.int 0))) (no t3a t3b)) bad []) [e0, e1, e2, .sh (.int top), .sh (.int below), .sh (tD one), .sh (tD other), .ow ((r0 :: rs).map tD), .ow (more.map tD), e9, x10, x11, x12, x13, x14] w = .ok ([e0, e1, e2, .sh (.int top), .sh (.int below), .sh (tD one), .sh (tD other), .ow ((r0 :: rs).map tD), .ow (more.map tD), e9, x10, x11, x12, x13, x14], .nx) w := by
    by_cases hz : other.1 = 0
    · simp only [s_ife, v_and, v_cmp, v_sub, v_var, v_con, rd_s, rd_0, r_some, r_ok, q_0, c_ne, hz, decide_true, Bool.not_true, Option.map_some, t_bl, br_f, b_nil]
    · have g8 : cfL pr (d + 5) "over" [tD one, tD other] w = .ok (tD (ovr one other)) w := over_sp (d := d + 2) b1 b2 (by decide) hz
      have g9 : cfL pr (d + 5) "_law_ratio" [.int (one.1 * other.2), .int (one.2 * other.1)] w = .ok (tD (ovr one other)) w := lratio_sp (d := d + 3) (Int.mul_ne_zero b1.2.2 hz) (lt_mul b1.2.1 b2.1) (by decide)
      have s := same_e (pr := pr) (d := d + 4) (k := 46) (a := t3a) (b := t3b) (t := tD (ovr one other)) (env := [e0, e1, e2, .sh (.int top), .sh (.int below), .sh (tD one), .sh (tD other), .ow ((r0 :: rs).map tD), .ow (more.map tD), e9, x10, x11, x12, x13, x14]) (w := w) (w1 := w) (w2 := w) same_h (by
          unfold t3a
          simp only [v_call, v_var, es_cons, es_nil, rd_s, rd_0, r_some, r_ok, g8]) (by
          unfold t3b
          simp only [v_call, v_bin, v_sub, v_con, v_var, es_cons, es_nil, rd_s, rd_0, r_some, r_ok, q_0, q_1, x_mul, m1, m5, g9]) (okQ (ovr_bd b1 b2 hz) (by decide)) (Nat.le_of_ble_eq_true rfl) (Nat.le_of_ble_eq_true rfl)
      have s : (vL pr (d + 5) 49).e (no t3a t3b) [e0, e1, e2, .sh (.int top), .sh (.int below), .sh (tD one), .sh (tD other), .ow ((r0 :: rs).map tD), .ow (more.map tD), e9, x10, x11, x12, x13, x14] w = .ok (.bl false) w := s
      simp only [s_ife, v_and, v_cmp, v_sub, v_var, v_con, rd_s, rd_0, r_some, r_ok, q_0, c_ne, hz, decide_false, Bool.not_false, Option.map_some, t_bl, br_t, s, br_f, b_nil]
  -- best and total
  have sb : subD (.lst ((r0 :: rs).map tD)) (.int 0) = some (tD r0) := u_l0
  have lr : (r0 :: rs).length ≤ 1000000 := by omega
  have szr : szOk ((r0 :: rs).map tD).length = true := by rw [List.length_map]; exact sz_map (by omega)
  have p11 : putE 11 (.tup [(.con (.int 0)), (.con (.int 1))]) (.tup [.int 0, .int 1]) [e0, e1, e2, .sh (.int top), .sh (.int below), .sh (tD one), .sh (tD other), .ow ((r0 :: rs).map tD), .ow (more.map tD), e9, .sh (tD r0), x11, x12, x13, x14] = [e0, e1, e2, .sh (.int top), .sh (.int below), .sh (tD one), .sh (tD other), .ow ((r0 :: rs).map tD), .ow (more.map tD), e9, .sh (tD r0), .sh (tD (0, 1)), x12, x13, x14] := put_tup rfl
  have c5 : stmtK pr (wfL pr (d + 5)) (vL pr (d + 5) 50) (.asg 10 (.sub (.var 7) (.con (.int 0)))) [e0, e1, e2, .sh (.int top), .sh (.int below), .sh (tD one), .sh (tD other), .ow ((r0 :: rs).map tD), .ow (more.map tD), e9, x10, x11, x12, x13, x14] w = .ok ([e0, e1, e2, .sh (.int top), .sh (.int below), .sh (tD one), .sh (tD other), .ow ((r0 :: rs).map tD), .ow (more.map tD), e9, .sh (tD r0), x11, x12, x13, x14], .nx) w := by
    simp only [s_asg', v_sub, v_var, v_con, rd_s, rd_o, r_some, r_ok, u_l, sb, put_q, List.set_cons_succ, List.set_cons_zero]
  have c6 : stmtK pr (wfL pr (d + 5)) (vL pr (d + 5) 50) (.asg 11 (.tup [(.con (.int 0)), (.con (.int 1))])) [e0, e1, e2, .sh (.int top), .sh (.int below), .sh (tD one), .sh (tD other), .ow ((r0 :: rs).map tD), .ow (more.map tD), e9, .sh (tD r0), x11, x12, x13, x14] w = .ok ([e0, e1, e2, .sh (.int top), .sh (.int below), .sh (tD one), .sh (tD other), .ow ((r0 :: rs).map tD), .ow (more.map tD), e9, .sh (tD r0), .sh (tD (0, 1)), x12, x13, x14], .nx) w := by
    simp only [s_asg', v_tup, v_con, es_cons, es_nil, r_ok, sz2, if_true, List.length_cons, List.length_nil, Nat.reduceAdd, p11]
  obtain ⟨e12, lp⟩ := loop13 (d := d) (w := w) br bm hlm (e0 := e0) (e1 := e1) (e2 := e2) (e3 := .sh (.int top)) (e4 := .sh (.int below)) (e5 := .sh (tD one)) (e6 := .sh (tD other)) (e9 := e9) (e13 := x13) (e14 := x14) (r0 :: rs).length 0 r0 (0, 1) 1 x12 (by omega) (br r0 List.mem_cons_self) (bd01 1 (by decide)) (by omega)
  rw [List.drop_zero, List.drop_zero, show gst r0 (r0 :: rs) = gst r0 rs by (show gst (if lss r0 r0 = true then r0 else r0) rs = _); rw [ite_self]] at lp
  have c7 : stmtK pr (wfL pr (d + 5)) (vL pr (d + 5) 50) (.for_ (.v 12) (.r1 (.blt .len [(.var 7)])) b13) [e0, e1, e2, .sh (.int top), .sh (.int below), .sh (tD one), .sh (tD other), .ow ((r0 :: rs).map tD), .ow (more.map tD), e9, .sh (tD r0), .sh (tD (0, 1)), x12, x13, x14] w = .ok ([e0, e1, e2, .sh (.int top), .sh (.int below), .sh (tD one), .sh (tD other), .ow ((r0 :: rs).map tD), .ow (more.map tD), e9, .sh (tD (gst r0 rs)), .sh (tD (smm (0, 1) (wgh (r0 :: rs) more))), e12, x13, x14], .nx) w := by
    rw [s_for, it_n (i := ((r0 :: rs).map tD).length) (n := (r0 :: rs).length) (w' := w) (by simp only [v_blt, v_var, es_cons, es_nil, rd_s, rd_o, r_some, r_ok, l_lenL szr]) (by rw [List.length_map]) (by omega), r_ok]
    exact lp
  -- the fourth
  have hmul : 31 * (r0 :: rs).length ≤ 31 * 5 := Nat.mul_le_mul_left _ hl
  have wl := wgh_len (r0 :: rs) more
  have hmul2 : 61 * (wgh (r0 :: rs) more).length ≤ 61 * 5 := Nat.mul_le_mul_left _ (by omega)
  have s1 : cfL pr (d + 5) "greatest" [.lst ((r0 :: rs).map tD)] w = .ok (tD (gst r0 rs)) w := greatest_sp (d := d + 3) (k := 30) (by decide) br
  have s2 : cfL pr (d + 5) "summed" [.lst ((r0 :: rs).map tD)] w = .ok (tD (smm (0, 1) (r0 :: rs))) w := summed_sp (d := d + 1) (k := 30) br (by omega)
  have s3 : cfL pr (d + 5) "_law_sum" [.lst ((r0 :: rs).map tD)] w = .ok (tD (smm (0, 1) (r0 :: rs))) w := lsum_sp (d := d + 1) (k := 30) br (by omega)
  have s4 : cfL pr (d + 5) "weighed" [.lst ((r0 :: rs).map tD), .lst (more.map tD)] w = .ok (tD (smm (0, 1) (wgh (r0 :: rs) more))) w := weighed_sp (d := d) (k := 30) (by decide) (by omega) br bm
  have u1 : okI (tD (gst r0 rs)) = true := okQ (gst_bd (k := 30) rs r0 (br r0 List.mem_cons_self) fun z hz => br z (List.mem_cons_of_mem _ hz)) (by decide)
  have u2 : okI (tD (smm (0, 1) (r0 :: rs))) = true := okQ (smm_bd (k := 30) (r0 :: rs) (0, 1) 1 (bd01 1 (by decide)) br) (by omega)
  have u3 : okI (tD (smm (0, 1) (wgh (r0 :: rs) more))) = true := okQ (smm_bd (k := 60) (wgh (r0 :: rs) more) (0, 1) 1 (bd01 1 (by decide)) (wgh_bd (k := 30) _ _ br bm)) (by omega)
  have c8 : stmtK pr (wfL pr (d + 5)) (vL pr (d + 5) 50) (.ife (no t4a t4b) bad []) [e0, e1, e2, .sh (.int top), .sh (.int below), .sh (tD one), .sh (tD other), .ow ((r0 :: rs).map tD), .ow (more.map tD), e9, .sh (tD (gst r0 rs)), .sh (tD (smm (0, 1) (wgh (r0 :: rs) more))), e12, x13, x14] w = .ok ([e0, e1, e2, .sh (.int top), .sh (.int below), .sh (tD one), .sh (tD other), .ow ((r0 :: rs).map tD), .ow (more.map tD), e9, .sh (tD (gst r0 rs)), .sh (tD (smm (0, 1) (wgh (r0 :: rs) more))), e12, x13, x14], .nx) w := by
    refine chk (t := .lst [tD (gst r0 rs), tD (smm (0, 1) (r0 :: rs)), tD (smm (0, 1) (wgh (r0 :: rs) more))]) same_h (w1 := w) ?_ ?_ ?_ (Nat.le_of_ble_eq_true rfl) (Nat.le_of_ble_eq_true rfl)
    · unfold t4a
      simp only [v_lst, v_call, v_var, es_cons, es_nil, rd_s, rd_o, rd_0, r_some, r_ok, s1, s2, s4, sz3, if_true, List.length_cons, List.length_nil, Nat.reduceAdd]
    · unfold t4b
      simp only [v_lst, v_call, v_var, es_cons, es_nil, rd_s, rd_o, rd_0, r_some, r_ok, s3, sz3, if_true, List.length_cons, List.length_nil, Nat.reduceAdd]
    · show (okI (tD _) && (okI (tD _) && (okI (tD _) && true))) = true
      rw [u1, u2, u3]; rfl
  -- the text
  obtain ⟨l1, z1⟩ := slen (pow_up b1 b1 30 1000 b1.1 (by decide))
  obtain ⟨l2, z2⟩ := slen (pow_up b1 b1 30 1000 b1.2.1 (by decide))
  have tx : cfL pr (d + 5) "ratio_text" [tD one] w = .ok (.str (txt_ one)) w := text_sp (d := d + 4) (hx := ⟨pow_up b1 b1 30 900 b1.1 (by decide), pow_up b1 b1 30 900 b1.2.1 (by decide), b1.2.2⟩)
  have ot : okI (.str (txt_ one)) = true := by
    show PyData.strOk (txt_ one) = true
    unfold txt_
    split
    · exact strOk_of _
    · exact strOk_app (strOk_app (strOk_of _) (strOk_of _)) (strOk_of _)
  have lt : (txt_ one).length ≤ 4000 := by
    have sl : (Str.ofString "/").length = 1 := rfl
    unfold txt_
    split
    · omega
    · rw [strLen_append, strLen_append, sl]; omega
  obtain ⟨e10, he10⟩ : ∃ e : Slot, e = .sh (tD (gst r0 rs)) := ⟨_, rfl⟩
  obtain ⟨e11, he11⟩ : ∃ e : Slot, e = .sh (tD (smm (0, 1) (wgh (r0 :: rs) more))) := ⟨_, rfl⟩
  rw [← he10, ← he11] at c7 c8
  have c9 : stmtK pr (wfL pr (d + 5)) (vL pr (d + 5) 50) (.asg 13 (.blt .str [(.sub (.var 5) (.con (.int 0)))])) [e0, e1, e2, .sh (.int top), .sh (.int below), .sh (tD one), .sh (tD other), .ow ((r0 :: rs).map tD), .ow (more.map tD), e9, e10, e11, e12, x13, x14] w = .ok ([e0, e1, e2, .sh (.int top), .sh (.int below), .sh (tD one), .sh (tD other), .ow ((r0 :: rs).map tD), .ow (more.map tD), e9, e10, e11, e12, .sh (.str (Str.ofString (toString one.1))), x14], .nx) w := by
    simp only [s_asg', v_blt, v_sub, v_var, v_con, es_cons, es_nil, rd_s, rd_0, r_some, r_ok, q_0, l_str l1, put_str, List.set_cons_succ, List.set_cons_zero]
  have c10 : stmtK pr (wfL pr (d + 5)) (vL pr (d + 5) 50) (.ife (.cmp .ne (.sub (.var 5) (.con (.int 1))) (.con (.int 1))) [
      .asg 13 (.bin .add (.bin .add (.var 13) (.con (.str "/"))) (.blt .str [(.sub (.var 5) (.con (.int 1)))]))] []) [e0, e1, e2, .sh (.int top), .sh (.int below), .sh (tD one), .sh (tD other), .ow ((r0 :: rs).map tD), .ow (more.map tD), e9, e10, e11, e12, .sh (.str (Str.ofString (toString one.1))), x14] w = .ok ([e0, e1, e2, .sh (.int top), .sh (.int below), .sh (tD one), .sh (tD other), .ow ((r0 :: rs).map tD), .ow (more.map tD), e9, e10, e11, e12, .sh (.str (txt_ one)), x14], .nx) w := by
    by_cases h : one.2 = 1
    · have et : txt_ one = Str.ofString (toString one.1) := by unfold txt_; rw [if_pos h]
      rw [et]
      simp only [s_ife, v_cmp, v_sub, v_var, v_con, rd_s, rd_0, r_some, r_ok, q_1, c_ne, h, decide_true, Bool.not_true, Option.map_some, t_bl, br_f, b_nil]
    · have et : txt_ one = Str.ofString (toString one.1) ++ Str.ofString "/" ++ Str.ofString (toString one.2) := by unfold txt_; rw [if_neg h]
      have sl : (Str.ofString "/").length = 1 := rfl
      have a1 := addS (a := Str.ofString (toString one.1)) (b := Str.ofString "/") (by omega)
      have a2 := addS (a := Str.ofString (toString one.1) ++ Str.ofString "/") (b := Str.ofString (toString one.2)) (by rw [strLen_append]; omega)
      rw [et]
      simp only [s_ife, v_cmp, v_sub, v_var, v_con, rd_s, rd_0, r_some, r_ok, q_1, c_ne, h, decide_false, Bool.not_false, Option.map_some, t_bl, br_t, b_cons, b_nil, s_asg', v_bin, v_blt, es_cons, es_nil, a1, l_str l2, a2, put_str, List.set_cons_succ, List.set_cons_zero, n_nx]
  have c11 : stmtK pr (wfL pr (d + 5)) (vL pr (d + 5) 50) (.ife (no (.call "ratio_text" [(.var 5)]) (.var 13)) bad []) [e0, e1, e2, .sh (.int top), .sh (.int below), .sh (tD one), .sh (tD other), .ow ((r0 :: rs).map tD), .ow (more.map tD), e9, e10, e11, e12, .sh (.str (txt_ one)), x14] w = .ok ([e0, e1, e2, .sh (.int top), .sh (.int below), .sh (tD one), .sh (tD other), .ow ((r0 :: rs).map tD), .ow (more.map tD), e9, e10, e11, e12, .sh (.str (txt_ one)), x14], .nx) w := by
    refine chk (t := .str (txt_ one)) same_h (w1 := w) ?_ ?_ ot (Nat.zero_le _) (by show 10 * (txt_ one).length + 2 ≤ _; omega)
    · simp only [v_call, v_var, es_cons, es_nil, rd_s, rd_0, r_some, r_ok, tx]
    · simp only [v_var, rd_s, rd_0, r_some]
  refine ⟨e9, e10, e11, e12, .sh (.str (txt_ one)), ?_⟩
  unfold bT2
  rw [b_cons, c1, r_ok, n_nx, b_cons, c2, r_ok, n_nx, b_cons, c3, r_ok, n_nx, b_cons, c4, r_ok, n_nx, b_cons, c5, r_ok, n_nx, b_cons, c6, r_ok, n_nx, b_cons, c7, r_ok, n_nx, b_cons, c8, r_ok, n_nx, b_cons, c9, r_ok, n_nx, b_cons, c10, r_ok, n_nx, b_cons, c11, r_ok, n_nx, b_nil]
end Lw
end
section
set_option Elab.async false
set_option linter.all false
set_option maxRecDepth 100000
set_option maxHeartbeats 400000
namespace Lw
open PySem PD
theorem b_app {P : Pr} {cf : Str → List D → W → R D} {wf : E → List S → PD.Env → W → R (PD.Env × Ctl)} {k : Nat} {b : List S} : ∀ {a : List S} {env env' : PD.Env} {w w' : W}, (evK P cf wf (k + 1)).b a env w = .ok (env', .nx) w' → (evK P cf wf (k + 1)).b (a ++ b) env w = (evK P cf wf (k + 1)).b b env' w'
  | [], env, env', w, w', h => by
    rw [b_nil] at h
    cases h
    rfl
  | s :: a, env, env', w, w', h => by
    rw [List.cons_append, b_cons]
    rw [b_cons] at h
    cases q : stmtK P wf (evK P cf wf k) s env w with
    | stk => rw [q] at h; cases h
    | exc c w1 => rw [q] at h; cases h
    | ok p w1 =>
      obtain ⟨env1, c⟩ := p
      rw [q, r_ok] at h
      rw [r_ok]
      cases c with
      | nx =>
        rw [n_nx] at h ⊢
        exact b_app h
      | bk => rw [n_bk] at h; cases h
      | rt d => rw [n_rt] at h; cases h
def Inv (env : PD.Env) : Prop := ∃ s0 x2 x3 x4 x5 x6 x7 x8 x9 x10 x11 x12 x13 x14 : Slot, env = [s0, .sh .st, x2, x3, x4, x5, x6, x7, x8, x9, x10, x11, x12, x13, x14]
def depth : Nat := 5
theorem ints_map : ∀ ns : List Int, ints? (ns.map .int) = some ns
  | [] => rfl
  | n :: ns => by
    show (ints? (ns.map .int)).map (n :: ·) = _
    rw [ints_map ns]; rfl
theorem holds : ∀ ns : List Int, ns.length ≤ 63 → ∃ n env' w', lawN pr n depth lw.N.length lw.i lw.e lw.rest ns = .ok (env', .rt (.bl true)) w' := by
  intro script _
  obtain ⟨ns, hs, hin, hst⟩ := stream_sp (pr := pr) (d := 4) (script := script) lk_stream
  obtain ⟨env', c', h1, h2, h3, h4⟩ := turns (v := vL pr 5 51) (b := bT1 ++ bT2) (i := 2) (ns := ns) (m := 41) (I := Inv) (fun env x ⟨s0, x2, x3, x4, x5, x6, x7, x8, x9, x10, x11, x12, x13, x14, e⟩ => by
      subst e
      exact ⟨⟨s0, .sh x, x3, x4, x5, x6, x7, x8, x9, x10, x11, x12, x13, x14, rfl⟩, rfl⟩) (fun env c ⟨s0, x2, x3, x4, x5, x6, x7, x8, x9, x10, x11, x12, x13, x14, e⟩ hc hc2 => by
      subst e
      obtain ⟨top, below, c', one, other, rows, more, q1, q2, q3, q4, q5, q6, q7, q8, q9, q10, q11, q12, q13⟩ := one1 (d := 0) hs hc hc2 s0 x2 x3 x4 x5 x6 x7 x8 x9 x10 x11 x12 x13 x14
      obtain ⟨e9, e10, e11, e12, e13, t⟩ := two1 (d := 0) (w := some (ns, c')) (e0 := s0) (e1 := .sh .st) (e2 := x2) (x9 := x9) (x10 := x10) (x11 := x11) (x12 := x12) (x13 := x13) (x14 := x14) q2 q3 q4 q5 q6 q7 q8 q9 q10 q11
      have q1 : (vL pr 5 51).b bT1 [s0, .sh .st, x2, x3, x4, x5, x6, x7, x8, x9, x10, x11, x12, x13, x14] (some (ns, c)) = .ok ([s0, .sh .st, x2, .sh (.int top), .sh (.int below), .sh (tD one), .sh (tD other), .ow (rows.map tD), .ow (more.map tD), x9, x10, x11, x12, x13, x14], .nx) (some (ns, c')) := q1
      have t : (vL pr 5 51).b bT2 [s0, .sh .st, x2, .sh (.int top), .sh (.int below), .sh (tD one), .sh (tD other), .ow (rows.map tD), .ow (more.map tD), x9, x10, x11, x12, x13, x14] (some (ns, c')) = .ok ([s0, .sh .st, x2, .sh (.int top), .sh (.int below), .sh (tD one), .sh (tD other), .ow (rows.map tD), .ow (more.map tD), e9, e10, e11, e12, e13, x14], .nx) (some (ns, c')) := t
      have tt := (b_app (k := 50) (b := bT2) q1).trans t
      exact ⟨_, c', tt, ⟨_, _, _, _, _, _, _, _, _, _, _, _, _, _, rfl⟩, q12, by omega⟩) (rngL 0 1 12) ([.sh (.frz (script.map .int)), .sh .st, .no, .no, .no, .no, .no, .no, .no, .no, .no, .no, .no, .no, .no]) 0 ⟨_, _, _, _, _, _, _, _, _, _, _, _, _, _, rfl⟩ (Int.le_refl _) (by rw [rngL_ln]; decide)
  obtain ⟨n, hn⟩ := lawN_step (pr := pr) (d := 5) 52 (ns := 15) (i := 1) (e := .call "_law_stream" [.var 0]) (rest := b_law) (script := script) (xs := ns.map .int) (is := ns) (env' := env') (w' := some (ns, c')) (by
      simp only [v_call, v_var, es_cons, es_nil, rd_0, r_some, r_ok]
      exact hst) (ints_map ns) (by
      rw [body_eq, b_cons, s_for, it_n (i := 12) (n := 12) (w' := some (ns, 0)) rfl rfl (by decide), r_ok]
      have e : forL (vL pr 5 51) (.v 2) (bT1 ++ bT2) (rngL 0 1 12) (drops (alW (.r1 (.con (.int 12)))) ((.sh (.frz (script.map .int)) :: List.replicate (15 - 1) .no : PD.Env).set 1 (.sh .st))) (some (ns, 0)) = .ok (env', .nx) (some (ns, c')) := h1
      rw [e, r_ok, n_nx, b_cons]
      rfl)
  exact ⟨n, env', some (ns, c'), hn⟩
end Lw
end
section
open PySem PySem.Spec PyProof.Rows L2
theorem Lw.room : Room (Lw.depth + 2) callerA := ⟨rfl, by decide, by decide⟩
end
section
open PySem PySem.Challenge PySem.W PySem.Calls PyProof.Rows
theorem PySem.Challenge.cw_madeofprimes_k01_ratios_holds : PySem.Challenge.rw_madeofprimes_k01_ratios.Holds := by
  w_on; o_law
  refine HandSHeadRun.head_any (r := OpenLaw.row PySem.Challenge.rw_madeofprimes_k01_ratios) (q := view (OpenLaw.row PySem.Challenge.rw_madeofprimes_k01_ratios).prog [32]) (H := Lw.hkL) (ob := Lw.obL) (M := 20000) (loose := Lw.looseL) (d := HandSHeadRun.topDef (OpenLaw.row PySem.Challenge.rw_madeofprimes_k01_ratios).prog 32) (kwd := []) Lw.obL_eq
    (by kernel_rfl) (fun s => by kernel_rfl) Lw.runL (by kernel_rfl) (by kernel_rfl) (by kernel_rfl) (by rfl) (by first | assumption | decide +kernel) (by decide +kernel) ⟨rfl, rfl, rfl, rfl, rfl, by decide +kernel⟩ ?hw ?hc
  case hw => w_witness2
  case hc =>
    refine PD.law_walk (l := PySem.Challenge.rw_madeofprimes_k01_ratios) (n := 63) rfl (by decide) (by kernel_rfl) fun w mg fa h ns Y G hmg0 hlen => ?_
    have hmg : mg ("law" : PySem.Str) = some (.ref fa) := by
      have e : (HandSHeadRun.topDef (OpenLaw.row PySem.Challenge.rw_madeofprimes_k01_ratios).prog 32).name = ("law" : PySem.Str) := by kernel_rfl
      rw [← e]
      exact hmg0
    exact PD.law_all (l := PySem.Challenge.rw_madeofprimes_k01_ratios) Lw.txt Lw.depth Lw.room Lw.holds w mg fa h ns Y G hmg hlen
end
