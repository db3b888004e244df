import PyProof.Rows.All
import Wide.All
import OpenK.AllK
import Wide.FinOn
import HandS.ForMost
import HandS.Exc
import HandS.Wide
import HandS.TupAny
import HandS.IsInst
import HandS.Gcd
import PyProof.ReprRoads
import PyProof.Rows.StrOr
import PyProof.Rows.Reg4Facts
import HandS.Star
import HandS.Comp
import HandS.Iter
import HandS.Zip
import HandS.Zip0
import PyProof.Draws
import PyProof.EnumMake
import PyProof.CollectIter
import HandS.Style
import HandS.Ends
import HandS.Defaults
import HandS.HeadEnd
import HandS.HeadHook1
import HandS.HeadHook2
import KE.KStateDown
import Lean
import HandS.Head0
import HandS.Head1
import HandS.Head2
import HandS.Head3
import PyProof.P3Eq
import PySem.Challenge.RW_platelights_k76_whole_rounds_and_dark_af
section
set_option Elab.async false
set_option linter.all false
set_option maxRecDepth 100000
/-! Zd0: a small language and its interpreter, in plain Lean over PyData. -/
namespace Zd
open PySem

/-- a value: data (never changed from here on), a list that is shared by reference, a local list that its def still changes, a list from without that is only read (the script) -/
inductive W where
  | d (p : PyData) | box (n : Nat) | own (ps : List PyData) | rd (ps : List PyData)
abbrev Store := List (List PyData)
abbrev Nv := List (Option W)
structure Ex where
  cls : Str
  f : Str
  p : Option PyData
inductive Out (α : Type) where
  | ok (a : α) (st : Store) | exc (x : Ex) (st : Store) | bad
abbrev M (α : Type) := Store → Out α
section
variable {α β : Type}
def ret (a : α) : M α := fun st => .ok a st
def bad : M α := fun _ => .bad
def bd (m : M α) (k : α → M β) : M β := fun st => match m st with
  | .ok a st' => k a st'
  | .exc x st' => .exc x st'
  | .bad => .bad
/-- what is there, or bad -/
def opt : Option α → M α
  | some a => ret a
  | none => bad
def want (c : Bool) (m : M α) : M α := match c with
  | true => m
  | false => bad
end

/-! ### views -/
def toP (st : Store) : W → Option PyData
  | .d p => some p
  | .own ps => some (.list ps)
  | .box n => (st[n]?).map .list
  | .rd _ => none
/-- the items of a list or tuple -/
def seqv (st : Store) : W → Option (List PyData)
  | .d (.list xs) => some xs
  | .d (.tuple xs) => some xs
  | .own xs => some xs
  | .rd xs => some xs
  | .box n => st[n]?
  | _ => none
def lstv (st : Store) : W → Option (List PyData)
  | .d (.list xs) => some xs
  | .own xs => some xs
  | .box n => st[n]?
  | _ => none
def pureW : W → M PyData
  | .d p => ret p
  | _ => bad
def truth (st : Store) : W → Option Bool
  | .d .none => some false
  | .d (.bool b) => some b
  | .d (.int i) => some (i != 0)
  | .d (.list xs) => some (!xs.isEmpty)
  | .d (.tuple xs) => some (!xs.isEmpty)
  | .own xs => some (!xs.isEmpty)
  | .rd xs => some (!xs.isEmpty)
  | .box n => (st[n]?).map fun xs => !xs.isEmpty
  | _ => none
def truthM (w : W) : M Bool := fun st => (opt (truth st w)) st
/-- what a loop or comprehension walks -/
def itemsM (w : W) : M (List PyData) := match w with
  | .d (.list xs) => ret xs
  | .d (.tuple xs) => ret xs
  | .rd xs => ret xs
  | _ => bad
/-- no exception comes out of it -/
def noex {α : Type} (m : M α) : M α := fun st => match m st with
  | .ok a st' => .ok a st'
  | _ => .bad

def line : Nat := 16777216
/-- no exception, not too long -/
def lim {α : Type} (m : M (List α)) : M (List α) := fun st => match m st with
  | .ok a st' => (match decide (a.length ≤ line) with
    | true => .ok a st'
    | false => .bad)
  | _ => .bad
/-! ### operators -/
def mulOk (a b : Int) : Bool := !(decide (Builtin.Int.intBits a > shortFactorBits) && decide (Builtin.Int.intBits b > shortFactorBits) && Builtin.Int.intTooBig (Builtin.Int.intBits a + Builtin.Int.intBits b))
def int (i : Int) : M W := ret (.d (.int i))
def bool (b : Bool) : M W := ret (.d (.bool b))
def binI (op : Operator) (i j : Int) : M W := match op with
  | .Add => int (i + j)
  | .Sub => int (i - j)
  | .Mult => want (mulOk i j) (int (i * j))
  | .FloorDiv => want (decide (j ≠ 0) && decide (j.natAbs.log2 < 9000)) (int (i.fdiv j))
  | .Mod => want (decide (j ≠ 0)) (int (i.fmod j))
  | .Pow => want (decide (0 ≤ j) && decide (j ≤ 1000000) && decide (i.natAbs < 2 ^ 64)) (int (i ^ j.toNat))
  | _ => bad
def intv : W → Option Int
  | .d (.int i) => some i
  | _ => none
def tupv : W → Option (List PyData)
  | .d (.tuple xs) => some xs
  | _ => none
def repM (xs : List PyData) (j : Int) : M W := want (decide (-(2 ^ 62) ≤ j) && decide (j < 2 ^ 62) && decide (xs.length * j.toNat ≤ line)) (ret (.d (.list (List.replicate j.toNat xs).flatten)))
def binL (op : Operator) (a b : W) : M W := fun st => match op, lstv st a, intv b, lstv st b with
  | .Mult, some xs, some j, _ => repM xs j st
  | .Add, some xs, _, some ys => want (decide (xs.length + ys.length ≤ line)) (ret (.d (.list (xs ++ ys)))) st
  | _, _, _, _ => .bad
def binS (op : Operator) (a b : W) : M W := fun st => match op, tupv a, tupv b with
  | .Add, some xs, some ys => want (decide (xs.length + ys.length ≤ line)) (ret (.d (.tuple (xs ++ ys)))) st
  | _, _, _ => binL op a b st
def binW (op : Operator) (a b : W) : M W := fun st => match intv a, intv b with
  | some i, some j => binI op i j st
  | _, _ => binS op a b st
def negW (a : W) : M W := match intv a with
  | some i => int (-i)
  | none => bad
def eqW (a b : W) : M Bool := fun st => match toP st a, toP st b with
  | some p, some q => want (SeqAt.shaped p && SeqAt.shaped q) (ret (PyData.eqv p q)) st
  | _, _ => .bad
def flatP : PyData → Bool
  | .none | .bool _ | .int _ | .str _ => true
  | _ => false
def datv : W → Option PyData
  | .d p => some p
  | _ => none
def inW (a b : W) : M Bool := fun st => match datv a, seqv st b with
  | some p, some xs => want (flatP p && xs.all flatP) (ret (xs.any fun y => PyData.eqv y p)) st
  | _, _ => .bad
def isNone : W → Bool
  | .d .none => true
  | _ => false
def cmpI (op : CmpOp) (i j : Int) : Option Bool := match op with
  | .Lt => some (decide (i < j))
  | .LtE => some (decide (i ≤ j))
  | .Gt => some (decide (j < i))
  | .GtE => some (decide (j ≤ i))
  | _ => none
def cmpB (op : CmpOp) (a b : W) : M Bool := match op with
  | .Eq => eqW a b
  | .NotEq => bd (eqW a b) fun k => ret (!k)
  | .In => inW a b
  | .NotIn => bd (inW a b) fun k => ret (!k)
  | .Is => want (isNone b) (ret (isNone a))
  | .IsNot => want (isNone b) (ret (!isNone a))
  | op => match intv a, intv b with
    | some i, some j => opt (cmpI op i j)
    | _, _ => bad
def cmpW (op : CmpOp) (a b : W) : M W := bd (cmpB op a b) bool
/-- the place that an index of any sign means -/
def subW (a b : W) : M W := fun st => match seqv st a, intv b with
  | some xs, some i => (match L2.atI xs i with
    | some p => .ok (.d p) st
    | none => .bad)
  | _, _ => .bad
def cutP (xs : List PyData) (lo hi : Option Int) : List PyData := (xs.drop (HT.sIx xs.length 0 lo)).take (HT.sIx xs.length xs.length hi - HT.sIx xs.length 0 lo)
/-- what a slice makes a new list of -/
def lstr (st : Store) : W → Option (List PyData)
  | .rd xs => some xs
  | w => lstv st w
def sliceV (a : W) (l h : Option Int) : M W := fun st => match tupv a, lstr st a with
  | some xs, _ => .ok (.d (.tuple (cutP xs l h))) st
  | none, some xs => .ok (.d (.list (cutP xs l h))) st
  | none, none => .bad
def partW (w : W) : M (Option Int) := match intv w with
  | some i => ret (some i)
  | none => bad
/-! ### built-ins -/
def intsOf : List PyData → Option (List Int)
  | [] => some []
  | .int i :: r => (intsOf r).map (i :: ·)
  | _ => none
def boolsOf : List PyData → Option (List Bool)
  | [] => some []
  | .bool b :: r => (boolsOf r).map (b :: ·)
  | _ => none
/-- a range's items -/
def rangeP (lo : Int) (n : Nat) : List PyData := (List.range n).map fun i => .int (lo + (i : Nat))
def b62 (i : Int) : Bool := decide (-(2 ^ 62) ≤ i) && decide (i < 2 ^ 62)
def rngM : List W → M (List PyData)
  | [a] => (match intv a with
    | some j => want (b62 j) (ret (rangeP 0 j.toNat))
    | none => bad)
  | [a, b] => (match intv a, intv b with
    | some i, some j => want (b62 i && b62 j) (ret (rangeP i (j - i).toNat))
    | _, _ => bad)
  | _ => bad
def wantN (n : Nat) (ws : List W) : M (List W) := want (decide (ws.length = n)) (ret ws)
def enumP (xs : List PyData) : List PyData := xs.zipIdx.map fun p => .tuple [.int (p.2 : Nat), p.1]
def lsq : W → Option (List PyData)
  | .d (.list xs) => some xs
  | .rd xs => some xs
  | _ => none
/-- two lists, or two tuples -/
def zipM (x y : W) (f : List PyData → List PyData → List PyData) : M (List PyData) := match lsq x, lsq y, tupv x, tupv y with
  | some a, some b, _, _ => ret (f a b)
  | _, _, some a, some b => ret (f a b)
  | _, _, _, _ => bad
def zipP (xs ys : List PyData) : List PyData := (xs.zip ys).map fun p => .tuple [p.1, p.2]
/-- a text of data -/
def wideI (i : Int) : Bool := decide (i.natAbs.log2 < 12900)
mutual
def wideP : PyData → Bool
  | .none | .bool _ | .str _ => true
  | .int i => wideI i
  | .list xs => wideAll xs
  | .tuple xs => wideAll xs
  | .dict _ => false
def wideAll : List PyData → Bool
  | [] => true
  | x :: xs => wideP x && wideAll xs
end
def shownOk (p : PyData) : Bool := wideP p && (p.canLay0 && (decide (p.depth ≤ 64) && decide (p.shown.length ≤ line)))
inductive Bf where
  | len | abs | int | sum | all | tuple | list | repr | max | min | gcd | divmod
def Bf.nm : Bf → Str
  | .len => "len" | .abs => "abs" | .int => "int" | .sum => "sum" | .all => "all" | .tuple => "tuple" | .list => "list" | .repr => "repr" | .max => "max" | .min => "min" | .gcd => "gcd" | .divmod => "divmod"
def blt1 (f : Bf) (a : W) : M W := fun st => match f with
  | .len => (match seqv st a with
    | some xs => Zd.int xs.length st
    | none => .bad)
  | .abs => (match intv a with
    | some i => Zd.int (if i < 0 then -i else i) st
    | none => .bad)
  | .int => (match intv a with
    | some i => Zd.int i st
    | none => .bad)
  | .sum => (match (lstv st a).bind intsOf with
    | some ns => Zd.int ns.sum st
    | none => .bad)
  | .all => (match (lstv st a).bind boolsOf with
    | some bs => bool (bs.all id) st
    | none => .bad)
  | .tuple => (match seqv st a with
    | some xs => .ok (.d (.tuple xs)) st
    | none => .bad)
  | .list => (match seqv st a with
    | some xs => .ok (.d (.list xs)) st
    | none => .bad)
  | .repr => (match toP st a with
    | some p => want (shownOk p) (ret (.d (.str p.shown))) st
    | none => .bad)
  | _ => .bad
def blt2 (f : Bf) (a b : W) : M W := match intv a, intv b with
  | some i, some j => (match f with
    | .max => Zd.int (if j > i then j else i)
    | .min => Zd.int (if j < i then j else i)
    | .gcd => Zd.int (Nat.gcd i.natAbs j.natAbs : Nat)
    | .divmod => want (decide (0 < j) && decide (j < 1073741824)) (ret (.d (.tuple [.int (i / j), .int (i % j)])))
    | _ => bad)
  | _, _ => bad
def bltW (f : Bf) (ws : List W) : M W := match ws with
  | [a] => blt1 f a
  | [a, b] => blt2 f a b
  | _ => bad
def tyOf (st : Store) : W → Option String
  | .d .none => some "NoneType"
  | .d (.bool _) => some "bool"
  | .d (.int _) => some "int"
  | .d (.str _) => some "str"
  | .d (.list _) => some "list"
  | .d (.tuple _) => some "tuple"
  | .own _ => some "list"
  | .box _ => some "list"
  | _ => none
def isiW (a : W) (ty : String) : M W := fun st => match tyOf st a with
  | some t => bool (t == ty || (t == "bool" && ty == "int")) st
  | none => .bad

/-! ### targets -/
inductive T where
  | nm (i : Nat) | tp (ts : List T) | st (i : Nat) | sb (i : Nat) (k : Int)
def wipeE (e : Nv) : List Nat → Nv
  | [] => e
  | v :: vs => (wipeE e vs).set v none
/-- a store into slot i's list (its own, or the one it refers to) -/
def setAt (i : Nat) (k : Int) (p : PyData) (e : Nv) : M Nv := fun st => match e[i]? with
  | some (some (.own ps)) => (match L2.ixN ps.length k with
    | some j => .ok (e.set i (some (.own (ps.set j p)))) st
    | none => .bad)
  | some (some (.box n)) => (match st[n]? with
    | some ps => (match L2.ixN ps.length k with
      | some j => .ok e (st.set n (ps.set j p))
      | none => .bad)
    | none => .bad)
  | _ => .bad
/-- targets without a star: as many as there are; a star takes what the others leave -/
def isSt : T → Bool
  | .st _ => true
  | _ => false
def lenB (ts : List T) (xs : List PyData) : Bool := match ts.any isSt with
  | true => decide (ts.length ≤ xs.length + 1)
  | false => decide (xs.length = ts.length)
mutual
def asgT : T → W → Nv → M Nv
  | .nm i, .d p, e => ret (e.set i (some (.d p)))
  | .nm i, .box n, e => ret (e.set i (some (.box n)))
  | .tp ts, .d (.tuple xs), e => want (lenB ts xs) (asgTs ts xs e)
  | .sb i k, .d p, e => setAt i k p e
  | _, _, _ => bad
def asgTs : List T → List PyData → Nv → M Nv
  | [], [], e => ret e
  | .st i :: ts, xs, e => want (decide (ts.length ≤ xs.length) && !ts.any isSt) (bd (ret (e.set i (some (.d (.list (xs.take (xs.length - ts.length))))))) fun e1 => asgTs ts (xs.drop (xs.length - ts.length)) e1)
  | t :: ts, x :: xs, e => bd (asgT t (.d x) e) fun e1 => asgTs ts xs e1
  | _, _, _ => bad
end

/-! ### the language -/
inductive E where
  | var (i : Nat) | cst (p : PyData) | glob (x : Str)
  | bin (op : Operator) (a b : E) | neg (a : E) | cmp (op : CmpOp) (a b : E) | chain (op op' : CmpOp) (a b c : E)
  | and_ (a b : E) | or_ (a b : E) | not_ (a : E) | ife (c a b : E)
  | tup (xs : List E) | lst (xs : List E) | lstB (xs : List E) | star (a : E)
  | sub (a b : E) | slice (a lo hi : E) | no
  | call (f : Str) (xs : List E) | callK (f : Str) (pm : List Nat) (xs : List E)
  | blt (f : Bf) (xs : List E) | isi (a : E) (ty : String)
  | comp (tg : T) (it : E) (ifs : List E) (elt : E) (own : List Nat)
  | comp2 (tg : T) (it : E) (ifs : List E) (tg1 : T) (it1 : E) (ifs1 : List E) (elt : E) (own own1 : List Nat)
  | rng (xs : List E) | enm (a : E) | zip (a b : E)
  | scp (a : E)
structure Tri where
  v : Nv → M W
  t : Nv → M Bool
  i : Nv → M (List PyData)
def mk (f : Nv → M W) : Tri := ⟨f, fun e => bd (f e) truthM, fun e => bd (f e) itemsM⟩
def badTri : Tri := ⟨fun _ => bad, fun _ => bad, fun _ => bad⟩
def boolTri (f : Nv → M Bool) : Tri := ⟨fun e => bd (f e) bool, f, fun _ => bad⟩
/-- the value of a truth value's expression -/
def asB : W → M Bool
  | .d (.bool b) => ret b
  | _ => bad
/-- values in the parameters' order -/
def permW (pm : List Nat) (ws : List W) : List W := pm.filterMap fun i => ws[i]?
/-- own lists are out of sight -/
def hide (e : Nv) : Nv := e.map fun o => match o with
  | some (.own _) => none
  | o => o
/-- what a comprehension makes, item by item -/
def compL {α : Type} (f : PyData → M (List α)) : List PyData → M (List α)
  | [] => ret []
  | x :: xs => bd (f x) fun a => bd (compL f xs) fun as => ret (a ++ as)
def testsL : List (Nv → M Bool) → Nv → M Bool
  | [], _ => ret true
  | c :: cs, e => bd (c e) fun k => match k with
    | true => testsL cs e
    | false => ret false
def varM (i : Nat) (e : Nv) : M W := match e[i]? with
  | some (some w) => ret w
  | _ => bad
def globM : Option PyData → M W
  | some p => ret (.d p)
  | none => bad
def dropTo (n : Nat) (w : W) : M W := fun st => match w with
  | .d p => .ok (.d p) (st.take n)
  | _ => .bad
/-- one item of a comprehension; of one with two clauses -/
def oneM (t : List (Nv → M Bool)) (g : Nv → M W) (e : Nv) : M (List PyData) := bd (testsL t e) fun k => match k with
  | true => bd (g e) fun w => bd (pureW w) fun p => ret [p]
  | false => ret []
def twoM (t : List (Nv → M Bool)) (it : Nv → M (List PyData)) (T1 : T) (own1 : List Nat) (t1 : List (Nv → M Bool)) (g : Nv → M W) (e : Nv) : M (List PyData) := bd (testsL t e) fun k => match k with
  | true => bd (it e) fun ys => compL (fun y => bd (asgT T1 (.d y) (wipeE e own1)) (oneM t1 g)) ys
  | false => ret []
section
variable (C : Str → List W → M W) (gv : Str → Option PyData)
mutual
def evP : E → Tri
  | .var i => mk (varM i)
  | .cst p => mk fun _ => ret (.d p)
  | .glob x => mk fun _ => globM (gv x)
  | .bin op a b => mk fun e => bd ((evP a).v e) fun x => bd ((evP b).v e) fun y => binW op x y
  | .neg a => mk fun e => bd ((evP a).v e) negW
  | .cmp op a b => boolTri fun e => bd ((evP a).v e) fun x => bd ((evP b).v e) fun y => cmpB op x y
  | .chain op op' a b c => boolTri fun e => bd ((evP a).v e) fun x => bd ((evP b).v e) fun y => bd (cmpB op x y) fun k => match k with
    | true => bd ((evP c).v e) fun z => cmpB op' y z
    | false => ret false
  | .and_ a b => ⟨fun e => bd ((evP a).v e) fun x => bd (asB x) fun k => match k with
      | true => (evP b).v e
      | false => bool false,
    fun e => bd ((evP a).t e) fun k => match k with
      | true => (evP b).t e
      | false => ret false, fun _ => bad⟩
  | .or_ a b => ⟨fun e => bd ((evP a).v e) fun x => bd (asB x) fun k => match k with
      | true => bool true
      | false => (evP b).v e,
    fun e => bd ((evP a).t e) fun k => match k with
      | true => ret true
      | false => (evP b).t e, fun _ => bad⟩
  | .not_ a => ⟨fun e => bd ((evP a).v e) fun w => bd (truthM w) fun k => bool (!k), fun e => bd ((evP a).t e) fun k => ret (!k), fun _ => bad⟩
  | .ife c a b => mk fun e => bd ((evP c).t e) fun k => match k with
    | true => (evP a).v e
    | false => (evP b).v e
  | .tup xs => mk fun e => bd (evs xs e) fun ps => want (decide (ps.length ≤ line)) (ret (.d (.tuple ps)))
  | .lst xs => mk fun e => bd (evs xs e) fun ps => want (decide (ps.length ≤ line)) (ret (.d (.list ps)))
  | .lstB xs => mk fun e => bd (evs xs e) fun ps => want (decide (ps.length ≤ line)) fun st => .ok (.box st.length) (st ++ [ps])
  | .sub a b => mk fun e => bd ((evP a).v e) fun x => bd ((evP b).v e) fun y => subW x y
  | .slice a lo hi => mk fun e => bd ((evP a).v e) fun x => bd (prt lo e) fun l => bd (prt hi e) fun h => sliceV x l h
  | .call f xs => mk fun e => bd (evw xs e) fun ws => C f ws
  | .callK f pm xs => mk fun e => bd (bd (evw xs e) (wantN xs.length)) fun ws => C f (permW pm ws)
  | .blt f xs => mk fun e => bd (evw xs e) fun ws => bltW f ws
  | .isi a ty => mk fun e => bd ((evP a).v e) fun x => isiW x ty
  | .comp tg it ifs elt own => mk fun e => bd ((evP it).i e) fun xs =>
      bd (lim (compL (fun x => bd (asgT tg (.d x) (wipeE e own)) (oneM (evt ifs) (evP elt).v)) xs)) fun ps => ret (.d (.list ps))
  | .comp2 tg it ifs tg1 it1 ifs1 elt own own1 => mk fun e => bd ((evP it).i e) fun xs =>
      bd (lim (compL (fun x => bd (asgT tg (.d x) (wipeE (hide e) own)) (twoM (evt ifs) (evP it1).i tg1 own1 (evt ifs1) (evP elt).v)) xs)) fun ps => ret (.d (.list ps))
  | .rng xs => ⟨fun _ => bad, fun _ => bad, fun e => bd (bd (evw xs e) (wantN xs.length)) rngM⟩
  | .enm a => ⟨fun _ => bad, fun _ => bad, fun e => bd ((evP a).i e) fun xs => ret (enumP xs)⟩
  | .zip a b => ⟨fun _ => bad, fun _ => bad, fun e => bd ((evP a).v e) fun x => bd ((evP b).v e) fun y => zipM x y zipP⟩
  | .scp a => mk fun e st => bd ((evP a).v e) (dropTo st.length) st
  | .star _ => badTri
  | .no => badTri
/-- a slice's part -/
def prt : E → Nv → M (Option Int)
  | .no, _ => ret none
  | a, e => bd ((evP a).v e) partW
/-- a display's items (data), starred ones spliced -/
def evs : List E → Nv → M (List PyData)
  | [], _ => ret []
  | .star a :: r, e => bd ((evP a).i e) fun ps => bd (evs r e) fun qs => ret (ps ++ qs)
  | a :: r, e => bd ((evP a).v e) fun w => bd (pureW w) fun p => bd (evs r e) fun qs => ret (p :: qs)
/-- arguments -/
def evw : List E → Nv → M (List W)
  | [], _ => ret []
  | a :: r, e => bd ((evP a).v e) fun w => bd (evw r e) fun qs => ret (w :: qs)
def evt : List E → List (Nv → M Bool)
  | [] => []
  | a :: r => (evP a).t :: evt r
end
end

/-! ### statements -/
inductive Fl where
  | nx (e : Nv) | rt (w : W) | bk (e : Nv) | ct (e : Nv)
inductive S where
  | expr (e : E) | asg (t : T) (e : E) | own (i : Nat) (e : E) | dem (i : Nat)
  | par (is : List Nat) (es : List E) | parO (i j : Nat) (a b : E) | parQ (i j l : Nat) (a b c : E) | setI (i : Nat) (ix e : E) | app (i : Nat) (e : E)
  | ret (e : E) | retN | ite (c : E) (a b : List S) | for_ (t : T) (it : E) (b : List S) | while_ (c : E) (b : List S)
  | brk | cont | pass | raise_ (cls : Str) (f : Str) (a : E)
def loopL (f : PyData → Nv → M Fl) : List PyData → Nv → M Fl
  | [], e => Zd.ret (.nx e)
  | x :: xs, e => bd (f x e) fun r => match r with
    | .nx e' => loopL f xs e'
    | .ct e' => loopL f xs e'
    | .bk e' => Zd.ret (.nx e')
    | .rt w => Zd.ret (.rt w)
def whileN (c : Nv → M Bool) (b : Nv → M Fl) : Nat → Nv → M Fl
  | 0, _ => bad
  | n + 1, e => bd (c e) fun k => match k with
    | false => Zd.ret (.nx e)
    | true => bd (b e) fun r => match r with
      | .nx e' => whileN c b n e'
      | .ct e' => whileN c b n e'
      | .bk e' => Zd.ret (.nx e')
      | .rt w => Zd.ret (.rt w)
open Classical in
noncomputable def whileR (c : Nv → M Bool) (b : Nv → M Fl) (e : Nv) : M Fl := fun st =>
  if h : ∃ n, whileN c b n e st ≠ .bad then whileN c b (Classical.choose h) e st else .bad
def ownOf (w : W) : M (List PyData) := match w with
  | .d (.list xs) => Zd.ret xs
  | _ => bad
def parE : List Nat → List PyData → Nv → Nv
  | i :: is, p :: ps, e => parE is ps (e.set i (some (.d p)))
  | _, _, e => e
section
variable (C : Str → List W → M W) (gv : Str → Option PyData)
mutual
noncomputable def exP : S → Nv → M Fl
  | .expr x, e => bd ((evP C gv x).v e) fun _ => Zd.ret (.nx e)
  | .asg t x, e => bd ((evP C gv x).v e) fun w => bd (asgT t w e) fun e' => Zd.ret (.nx e')
  | .own i x, e => bd ((evP C gv x).v e) fun w => bd (ownOf w) fun ps => Zd.ret (.nx (e.set i (some (.own ps))))
  | .dem i, e => match e[i]? with
    | some (some (.own ps)) => Zd.ret (.nx (e.set i (some (.d (.list ps)))))
    | _ => bad
  | .par is xs, e => bd (evs C gv xs e) fun ps => want (decide (ps.length = is.length)) (Zd.ret (.nx (parE is ps e)))
  | .parO i j a b, e => bd ((evP C gv a).v e) fun w => bd (ownOf w) fun ps => bd ((evP C gv b).v e) fun u => bd (pureW u) fun p => Zd.ret (.nx ((e.set i (some (.own ps))).set j (some (.d p))))
  | .parQ i j l a b c, e => bd ((evP C gv a).v e) fun w => bd (pureW w) fun p => bd ((evP C gv b).v e) fun u => bd (pureW u) fun q => bd ((evP C gv c).v e) fun z => bd (ownOf z) fun ps => Zd.ret (.nx (((e.set i (some (.d p))).set j (some (.d q))).set l (some (.own ps))))
  | .setI i ix x, e => bd ((evP C gv x).v e) fun w => bd (pureW w) fun p => bd (varM i e) fun _ => bd ((evP C gv ix).v e) fun k => match k with
    | .d (.int k) => bd (setAt i k p e) fun e' => Zd.ret (.nx e')
    | _ => bad
  | .app i x, e => match e[i]? with
    | some (some (.own ps)) => bd ((evP C gv x).v e) fun w => bd (pureW w) fun p => want (decide (ps.length < line)) (Zd.ret (.nx (e.set i (some (.own (ps ++ [p]))))))
    | _ => bad
  | .ret x, e => bd ((evP C gv x).v e) fun w => Zd.ret (.rt w)
  | .retN, _ => Zd.ret (.rt (.d .none))
  | .ite c a b, e => bd ((evP C gv c).t e) fun k => match k with
    | true => exPs a e
    | false => exPs b e
  | .for_ t it b, e => bd ((evP C gv it).i e) fun xs => loopL (fun x e => bd (asgT t (.d x) e) fun e1 => exPs b e1) xs e
  | .while_ c b, e => whileR ((evP C gv c).t) (exPs b) e
  | .brk, e => Zd.ret (.bk e)
  | .cont, e => Zd.ret (.ct e)
  | .pass, e => Zd.ret (.nx e)
  | .raise_ _ _ _, _ => bad
noncomputable def exPs : List S → Nv → M Fl
  | [], e => Zd.ret (.nx e)
  | s :: r, e => bd (exP s e) fun f => match f with
    | .nx e' => exPs r e'
    | .rt w => Zd.ret (.rt w)
    | .bk e' => Zd.ret (.bk e')
    | .ct e' => Zd.ret (.ct e')
end
end

/-! ### defs -/
structure Df where
  ps : List Str
  N : List Str
  body : List S
def finW (n0 : Nat) (w : W) : M W := fun st => match w with
  | .d p => .ok (.d p) (st.take n0)
  | .own ps => .ok (.d (.list ps)) (st.take n0)
  | .box n => .ok (.box n) st
  | .rd _ => .bad
def isOwn : W → Bool
  | .own _ => true
  | _ => false
noncomputable def callD (tb : Str → Option Df) (gv : Str → Option PyData) : Nat → Str → List W → M W
  | 0, _, _ => bad
  | k + 1, f, ws => match tb f with
    | none => bad
    | some d => want (decide (ws.length = d.ps.length) && !ws.any isOwn) fun st => match exPs (callD tb gv k) gv d.body (ws.map some ++ List.replicate (d.N.length - ws.length) none) st with
      | .ok (.rt w) st' => finW st.length w st'
      | .ok (.nx _) st' => finW st.length (.d .none) st'
      | .exc x st' => .exc x (st'.take st.length)
      | _ => .bad
end Zd
end
section
set_option Elab.async false
set_option linter.all false
set_option maxRecDepth 100000
/-! Zd1: how data lies in the abstract heap. -/
namespace Zd
open PySem PySem.Spec L2
open PyProof.Rows hiding St

/-- the addresses of lists that somebody may still change -/
abbrev AS := Addr → Prop
mutual
inductive Rp (K : PySem.W.Frag) (S : AS) (H : Hp) : V → PyData → Prop
  | non : Rp K S H .non .none
  | bl (b : Bool) : Rp K S H (.bl b) (.bool b)
  | int (i : Int) : Rp K S H (.int i) (.int i)
  | str (x : Str) : Rp K S H (.str x) (.str x)
  | lst {a : Addr} {vs : List V} {ds : List PyData} : ¬ S a → H a = some (.lst vs) → Rps K S H vs ds → Rp K S H (.ref a) (.list ds)
  | tup {a : Addr} {vs : List V} {ds : List PyData} : SqT K H a vs → Rps K S H vs ds → Rp K S H (.ref a) (.tuple ds)
inductive Rps (K : PySem.W.Frag) (S : AS) (H : Hp) : List V → List PyData → Prop
  | nil : Rps K S H [] []
  | cons {v : V} {vs : List V} {d : PyData} {ds : List PyData} : Rp K S H v d → Rps K S H vs ds → Rps K S H (v :: vs) (d :: ds)
end
/-- what stays, later -/
structure Grow (K : PySem.W.Frag) (S : AS) (H : Hp) (S' : AS) (H' : Hp) : Prop where
  up : ∀ a, S' a → S a ∨ H a = none
  keep : ∀ a o, ¬ S a → H a = some o → H' a = some o
  sl : ∀ a, S a → ∃ xs, H a = some (.lst xs)
section
variable {K : PySem.W.Frag} {S S' : AS} {H H' : Hp}
mutual
theorem Rp.grow (g : Grow K S H S' H') : ∀ {p : PyData} {v : V}, Rp K S H v p → Rp K S' H' v p
  | _, _, .non => .non
  | _, _, .bl b => .bl b
  | _, _, .int i => .int i
  | _, _, .str x => .str x
  | .list ds, .ref a, .lst n q r => by
    refine .lst (fun z => ?_) (g.keep a _ n q) (Rps.grow g r)
    rcases g.up a z with h | h1
    · exact n h
    · rw [h1] at q; cases q
  | .tuple ds, .ref a, .tup q r => by
    have ns : ∀ o, H a = some o → (∀ xs, o ≠ .lst xs) → ¬ S a := fun o e d z => by
      obtain ⟨xs, e'⟩ := g.sl a z
      rw [e] at e'; cases e'
      exact d xs rfl
    refine .tup ?_ (Rps.grow g r)
    rcases q with (q | ⟨o, q⟩) | q
    · exact .inl (.inl (g.keep a _ (ns _ q fun _ z => nomatch z) q))
    · exact .inl (.inr ⟨o, g.keep a _ (ns _ q fun _ z => nomatch z) q⟩)
    · exact .inr q
theorem Rps.grow (g : Grow K S H S' H') : ∀ {ds : List PyData} {vs : List V}, Rps K S H vs ds → Rps K S' H' vs ds
  | _, _, .nil => .nil
  | _, _, .cons h t => .cons (Rp.grow g h) (Rps.grow g t)
end
theorem Rps.length : ∀ {vs : List V} {ds : List PyData}, Rps K S H vs ds → vs.length = ds.length
  | _, _, .nil => rfl
  | _, _, .cons _ t => congrArg (· + 1) (Rps.length t)
theorem Rps.get : ∀ {vs : List V} {ds : List PyData} {i : Nat} {d : PyData}, Rps K S H vs ds → ds[i]? = some d → ∃ v, vs[i]? = some v ∧ Rp K S H v d
  | _, _, _, _, .nil, e => by simp at e
  | _, _, 0, _, .cons h _, e => by simp at e; subst e; exact ⟨_, rfl, h⟩
  | _, _, i + 1, d, .cons _ t, e => by
    obtain ⟨v, h1, h2⟩ := Rps.get (i := i) (d := d) t (by simpa using e)
    exact ⟨v, by simpa using h1, h2⟩
theorem Rps.getV : ∀ {vs : List V} {ds : List PyData} {i : Nat} {v : V}, Rps K S H vs ds → vs[i]? = some v → ∃ d, ds[i]? = some d ∧ Rp K S H v d
  | _, _, _, _, .nil, e => by simp at e
  | _, _, 0, _, .cons h _, e => by simp at e; subst e; exact ⟨_, rfl, h⟩
  | _, _, i + 1, v, .cons _ t, e => by
    obtain ⟨d, h1, h2⟩ := Rps.getV (i := i) (v := v) t (by simpa using e)
    exact ⟨d, by simpa using h1, h2⟩
theorem Rps.append : ∀ {vs ws : List V} {ds es : List PyData}, Rps K S H vs ds → Rps K S H ws es → Rps K S H (vs ++ ws) (ds ++ es)
  | _, _, _, _, .nil, s => s
  | _, _, _, _, .cons h t, s => .cons h (Rps.append t s)
theorem Rps.take : ∀ {vs : List V} {ds : List PyData} (n : Nat), Rps K S H vs ds → Rps K S H (vs.take n) (ds.take n)
  | _, _, 0, _ => .nil
  | _, _, _ + 1, .nil => .nil
  | _, _, n + 1, .cons h t => .cons h (Rps.take n t)
theorem Rps.drop : ∀ {vs : List V} {ds : List PyData} (n : Nat), Rps K S H vs ds → Rps K S H (vs.drop n) (ds.drop n)
  | _, _, 0, r => r
  | _, _, _ + 1, .nil => .nil
  | _, _, n + 1, .cons _ t => Rps.drop n t
theorem Rps.set {v : V} {d : PyData} (h : Rp K S H v d) : ∀ {vs : List V} {ds : List PyData} (i : Nat), Rps K S H vs ds → Rps K S H (vs.set i v) (ds.set i d)
  | _, _, _, .nil => .nil
  | _, _, 0, .cons _ t => .cons h t
  | _, _, i + 1, .cons q t => .cons q (Rps.set h i t)
theorem Rps.rep {vs : List V} {ds : List PyData} (h : Rps K S H vs ds) : ∀ k : Nat, Rps K S H (List.replicate k vs).flatten (List.replicate k ds).flatten
  | 0 => .nil
  | k + 1 => by
    rw [List.replicate_succ, List.replicate_succ, List.flatten_cons, List.flatten_cons]
    exact Rps.append h (Rps.rep h k)
mutual
theorem Rp.dp : ∀ {p : PyData} {v : V}, Rp K S H v p → Dp K H v p
  | _, _, .non => .non
  | _, _, .bl b => .bl b
  | _, _, .int i => .int i
  | _, _, .str x => .str x
  | _, _, .lst _ q r => .lst (SqL.of q) (Rps.dp r)
  | _, _, .tup q r => .tup q (Rps.dp r)
theorem Rps.dp : ∀ {ds : List PyData} {vs : List V}, Rps K S H vs ds → DpAll K H vs ds
  | _, _, .nil => .nil
  | _, _, .cons h t => .cons (Rp.dp h) (Rps.dp t)
end
theorem Rps.ints : ∀ {vs : List V} {ns : List Int}, Rps K S H vs (ns.map PyData.int) → vs = ns.map V.int
  | _, [], h => by rw [List.map_nil] at h; cases h; rfl
  | _, n :: ns, h => by
    rw [List.map_cons] at h
    cases h with
    | cons h t =>
      cases h
      rw [Rps.ints t, List.map_cons]
theorem rps_ints (ns : List Int) : Rps K S H (ns.map V.int) (ns.map PyData.int) := by
  induction ns with
  | nil => exact .nil
  | cons n ns ih => exact .cons (.int n) ih
theorem Rps.bls : ∀ {vs : List V} {ns : List Bool}, Rps K S H vs (ns.map PyData.bool) → vs = ns.map V.bl
  | _, [], h => by rw [List.map_nil] at h; cases h; rfl
  | _, n :: ns, h => by
    rw [List.map_cons] at h
    cases h with
    | cons h t =>
      cases h
      rw [Rps.bls t, List.map_cons]
end

/-! ### the state -/
structure Ext (K : PySem.W.Frag) (S : AS) (ρ : List Addr) (H : Hp) (S' : AS) (ρ' : List Addr) (H' : Hp) : Prop where
  rho : ∃ nw, ρ' = ρ ++ nw ∧ ∀ a ∈ nw, H a = none
  su : ∀ a, S a → S' a
  up : ∀ a, S' a → S a ∨ H a = none
  keep : ∀ a o, a ∉ ρ → H a = some o → H' a = some o
  th : ∀ a, H' a = none → H a = none
structure Sta (K : PySem.W.Frag) (S : AS) (ρ : List Addr) (H : Hp) (st : Store) : Prop where
  sl : ∀ a, S a → ∃ xs, H a = some (.lst xs)
  rs : ∀ a, a ∈ ρ → S a
  nd : ρ.Nodup
  len : ρ.length = st.length
  bx : ∀ (n : Nat) (a : Addr) (ps : List PyData), ρ[n]? = some a → st[n]? = some ps → ∃ vs, H a = some (.lst vs) ∧ Rps K S H vs ps
/-- a list of the module -/
def KL (K : PySem.W.Frag) (a : Addr) (vs : List V) : Prop := ∃ (o : Obj) (its : Array Value) (n : Nat), K.lookup a = some o ∧ o.cls = .type "list" ∧ o.dict = none ∧ o.data = .seq its n ∧ its.size ≤ sizeLine ∧ Vals vs its.toList
/-- a value; H0: the heap at the def's entry -/
def Rw (K : PySem.W.Frag) (H0 : Hp) (S : AS) (ρ : List Addr) (H : Hp) (v : V) : W → Prop
  | .d p => Rp K S H v p
  | .box n => ∃ a, ρ[n]? = some a ∧ v = .ref a
  | .own ps => ∃ a vs, v = .ref a ∧ S a ∧ a ∉ ρ ∧ H0 a = none ∧ H a = some (.lst vs) ∧ Rps K S H vs ps
  | .rd ps => ∃ a vs, v = .ref a ∧ ((¬ S a ∧ Rd H a (.lst vs)) ∨ KL K a vs) ∧ Rps K S H vs ps
structure Re (K : PySem.W.Frag) (H0 : Hp) (S : AS) (ρ : List Addr) (H : Hp) (σ : St) (e : Nv) : Prop where
  len : e.length = σ.length
  at_ : ∀ (i : Nat) (w : W), e[i]? = some (some w) → ∃ v, σ[i]? = some (some v) ∧ Rw K H0 S ρ H v w
  sep : ∀ (i j : Nat) (a : Addr) (ps qs : List PyData), i ≠ j → e[i]? = some (some (.own ps)) → e[j]? = some (some (.own qs)) → σ[i]? = some (some (.ref a)) → σ[j]? = some (some (.ref a)) → False
section
variable {K : PySem.W.Frag} {H0 : Hp} {S S' S'' : AS} {ρ ρ' ρ'' : List Addr} {H H' H'' : Hp} {st st' : Store} {σ : St} {e : Nv} {v : V} {w : W}
theorem Ext.refl : Ext K S ρ H S ρ H := ⟨⟨[], by simp, fun _ h => nomatch h⟩, fun _ h => h, fun _ h => .inl h, fun _ _ _ h => h, fun _ h => h⟩
theorem Ext.grow (x : Ext K S ρ H S' ρ' H') (s : Sta K S ρ H st) : Grow K S H S' H' := ⟨x.up, fun a o n h => x.keep a o (fun z => n (s.rs a z)) h, s.sl⟩
theorem Ext.trans (x : Ext K S ρ H S' ρ' H') (s : Sta K S ρ H st) (y : Ext K S' ρ' H' S'' ρ'' H'') : Ext K S ρ H S'' ρ'' H'' := by
  obtain ⟨n1, e1, f1⟩ := x.rho
  obtain ⟨n2, e2, f2⟩ := y.rho
  refine ⟨⟨n1 ++ n2, by rw [e2, e1, List.append_assoc], fun a h => ?_⟩, fun a h => y.su a (x.su a h), fun a h => ?_, fun a o n h => ?_, fun a h => x.th a (y.th a h)⟩
  · rcases List.mem_append.mp h with h | h
    · exact f1 a h
    · exact x.th a (f2 a h)
  · rcases y.up a h with h | h1
    · exact x.up a h
    · exact .inr (x.th a h1)
  · refine y.keep a o (fun z => ?_) (x.keep a o n h)
    rw [e1] at z
    rcases List.mem_append.mp z with z | z
    · exact n z
    · rw [f1 a z] at h; cases h
theorem Rw.ext (x : Ext K S ρ H S' ρ' H') (s : Sta K S ρ H st) (r : Rw K H0 S ρ H v w) : Rw K H0 S' ρ' H' v w := by
  cases w with
  | d p => exact Rp.grow (x.grow s) r
  | box n =>
    obtain ⟨a, h1, h2⟩ := r
    obtain ⟨nw, e1, _⟩ := x.rho
    refine ⟨a, ?_, h2⟩
    rw [e1, List.getElem?_append_left (List.getElem?_eq_some_iff.mp h1).1]
    exact h1
  | own ps =>
    obtain ⟨a, vs, h1, h2, h3, h4, h5, h6⟩ := r
    obtain ⟨nw, e1, f1⟩ := x.rho
    refine ⟨a, vs, h1, x.su a h2, fun z => ?_, h4, x.keep a _ h3 h5, Rps.grow (x.grow s) h6⟩
    rw [e1] at z
    rcases List.mem_append.mp z with z | z
    · exact h3 z
    · rw [f1 a z] at h5; cases h5
  | rd ps =>
    obtain ⟨a, vs, h1, q, h6⟩ := r
    have g := x.grow s
    refine ⟨a, vs, h1, ?_, Rps.grow g h6⟩
    rcases q with ⟨h2, q⟩ | q
    · have h3 : ¬ S' a := fun z => by
        rcases g.up a z with h | e1
        · exact h2 h
        · rcases q with q | ⟨o, q⟩
          · rw [e1] at q; cases q
          · rw [e1] at q; cases q
      refine .inl ⟨h3, ?_⟩
      rcases q with q | ⟨o, q⟩
      · exact .inl (g.keep a _ h2 q)
      · exact .inr ⟨o, g.keep a _ h2 q⟩
    · exact .inr q
theorem Re.ext (x : Ext K S ρ H S' ρ' H') (s : Sta K S ρ H st) (r : Re K H0 S ρ H σ e) : Re K H0 S' ρ' H' σ e :=
  ⟨r.len, fun i w h => let ⟨v, h1, h2⟩ := r.at_ i w h; ⟨v, h1, h2.ext x s⟩, r.sep⟩

/-! ### what is wanted of an outcome -/
/-- of a value's outcome: behind it the state has grown -/
def Wp (K : PySem.W.Frag) (S : AS) (ρ : List Addr) (H : Hp) {α : Type} (P : Ex → Store → AS → List Addr → Hp → Prop) (Q : α → Store → AS → List Addr → Hp → Prop) : Out α → Prop
  | .ok a st' => ∀ S' ρ' H', Ext K S ρ H S' ρ' H' → Sta K S' ρ' H' st' → Q a st' S' ρ' H'
  | .exc x st' => ∀ S' ρ' H', Ext K S ρ H S' ρ' H' → Sta K S' ρ' H' st' → P x st' S' ρ' H'
  | .bad => False
variable {α β : Type} {P : Ex → Store → AS → List Addr → Hp → Prop}
theorem Wp.later {Q : α → Store → AS → List Addr → Hp → Prop} {r : Out α} (x : Ext K S ρ H S' ρ' H') (s : Sta K S ρ H st) (h : Wp K S ρ H P Q r) : Wp K S' ρ' H' P Q r := by
  cases r with
  | ok a st' => exact fun S2 ρ2 H2 y s2 => h S2 ρ2 H2 (x.trans s y) s2
  | exc e st' => exact fun S2 ρ2 H2 y s2 => h S2 ρ2 H2 (x.trans s y) s2
  | bad => exact h
theorem Wp.bd {Q : β → Store → AS → List Addr → Hp → Prop} {m : M α} {k : α → M β} (s : Sta K S ρ H st) (h : Wp K S ρ H P Q (Zd.bd m k st)) :
    Wp K S ρ H P (fun a st' S' ρ' H' => Wp K S' ρ' H' P Q (k a st')) (m st) := by
  unfold Zd.bd at h
  cases e : m st with
  | ok a st' =>
    rw [e] at h
    exact fun S' ρ' H' x s' => Wp.later x s h
  | exc y st' =>
    rw [e] at h
    exact h
  | bad =>
    rw [e] at h
    exact h
theorem Wp.mono {Q Q' : α → Store → AS → List Addr → Hp → Prop} {r : Out α} (h : Wp K S ρ H P Q r) (f : ∀ a st' S' ρ' H', Ext K S ρ H S' ρ' H' → Sta K S' ρ' H' st' → Q a st' S' ρ' H' → Q' a st' S' ρ' H') : Wp K S ρ H P Q' r := by
  cases r with
  | ok a st' => exact fun S2 ρ2 H2 y s2 => f _ _ _ _ _ y s2 (h S2 ρ2 H2 y s2)
  | exc e st' => exact h
  | bad => exact h
/-- at once -/
theorem Wp.now {Q : α → Store → AS → List Addr → Hp → Prop} {a : α} (s : Sta K S ρ H st) (h : Wp K S ρ H P Q (.ok a st)) : Q a st S ρ H := h S ρ H .refl s
end
end Zd
end
section
set_option Elab.async false
set_option linter.all false
set_option maxRecDepth 100000
set_option maxHeartbeats 2000000
/-! Zd2: operators and built-ins, by values. -/
namespace Zd
open PySem PySem.Spec L2
open PyProof.Rows hiding St

section
variable {K : PySem.W.Frag} {H0 : Hp} {S S' : AS} {ρ ρ' : List Addr} {H H' : Hp} {st : Store} {v : V} {w : W} {p : Addr} {o : HO} {a : W}
/-- a new object is laid -/
theorem Ext.new (hp : H p = none) : Ext K S ρ H S ρ (upd H p o) := by
  have ne : ∀ {a : Addr} {u : HO}, H a = some u → a ≠ p := fun e z => by rw [z, hp] at e; cases e
  refine ⟨⟨[], by simp, fun _ h => nomatch h⟩, fun _ h => h, fun _ h => .inl h, fun a u _ e => by rw [upd_ne (ne e)]; exact e, fun a e => ?_⟩
  by_cases h : a = p
  · rw [h]; exact hp
  · rw [upd_ne h] at e; exact e
theorem Sta.new (s : Sta K S ρ H st) (hp : H p = none) : Sta K S ρ (upd H p o) st := by
  have x : Ext K S ρ H S ρ (upd H p o) := .new hp
  have ne : ∀ {a : Addr} {u : HO}, H a = some u → a ≠ p := fun e z => by rw [z, hp] at e; cases e
  refine ⟨fun a h => ?_, s.rs, s.nd, s.len, fun n a ps h1 h2 => ?_⟩
  · obtain ⟨xs, e⟩ := s.sl a h
    exact ⟨xs, by rw [upd_ne (ne e)]; exact e⟩
  · obtain ⟨vs, e, r⟩ := s.bx n a ps h1 h2
    exact ⟨vs, by rw [upd_ne (ne e)]; exact e, Rps.grow (x.grow s) r⟩
theorem Sta.free (s : Sta K S ρ H st) (hp : H p = none) : ¬ S p := fun z => by
  obtain ⟨xs, e⟩ := s.sl p z
  rw [hp] at e; cases e

/-! ### views -/
theorem intv_eq {i : Int} (h : intv w = some i) : w = .d (.int i) := by
  cases w with
  | d p => cases p <;> first | (cases h; rfl) | cases h
  | _ => cases h
theorem tupv_eq {xs : List PyData} (h : tupv w = some xs) : w = .d (.tuple xs) := by
  cases w with
  | d p => cases p <;> first | (cases h; rfl) | cases h
  | _ => cases h
theorem Rw.int {i : Int} (r : Rw K H0 S ρ H v w) (h : intv w = some i) : v = .int i := by
  rw [intv_eq h] at r
  cases (show Rp K S H v (.int i) from r)
  rfl
theorem Rw.tup {xs : List PyData} (r : Rw K H0 S ρ H v w) (h : tupv w = some xs) : ∃ a vs, v = .ref a ∧ SqT K H a vs ∧ Rps K S H vs xs := by
  rw [tupv_eq h] at r
  cases (show Rp K S H v (.tuple xs) from r) with
  | tup q r => exact ⟨_, _, rfl, q, r⟩
/-- a list that stands in the heap -/
theorem Rw.lst {xs : List PyData} (s : Sta K S ρ H st) (r : Rw K H0 S ρ H v w) (h : lstv st w = some xs) : ∃ a vs, v = .ref a ∧ H a = some (.lst vs) ∧ Rps K S H vs xs := by
  cases w with
  | d p =>
    cases p <;> first | cases h | skip
    cases (show Rp K S H v (.list xs) from r) with
    | lst _ q r => exact ⟨_, _, rfl, q, r⟩
  | own ps =>
    cases h
    obtain ⟨a, vs, e, _, _, _, q, r⟩ := r
    exact ⟨a, vs, e, q, r⟩
  | box n =>
    obtain ⟨a, e1, e2⟩ := r
    obtain ⟨vs, q, r⟩ := s.bx n a xs e1 h
    exact ⟨a, vs, e2, q, r⟩
  | rd ps => cases h
/-- a sequence that is read -/
theorem Rw.seq {xs : List PyData} (s : Sta K S ρ H st) (r : Rw K H0 S ρ H v w) (h : seqv st w = some xs) : ∃ a vs, v = .ref a ∧ (SqL K H a vs ∨ SqT K H a vs) ∧ Rps K S H vs xs := by
  have lists : ∀ {xs}, lstv st w = some xs → ∃ a vs, v = .ref a ∧ (SqL K H a vs ∨ SqT K H a vs) ∧ Rps K S H vs xs := fun h => by
    obtain ⟨a, vs, e, q, r⟩ := r.lst s h
    exact ⟨a, vs, e, .inl (SqL.of q), r⟩
  cases w with
  | d p =>
    cases p <;> first | cases h | skip
    · exact lists rfl
    · obtain ⟨a, vs, e, q, r⟩ := r.tup (xs := xs) rfl
      exact ⟨a, vs, e, .inr q, r⟩
  | own ps => exact lists h
  | box n => exact lists h
  | rd ps =>
    cases h
    obtain ⟨a, vs, e, q, r⟩ := r
    refine ⟨a, vs, e, .inl ?_, r⟩
    rcases q with ⟨_, q⟩ | q
    · exact .inl q
    · exact .inr q
/-- as data -/
theorem Rw.dat {d : PyData} (s : Sta K S ρ H st) (r : Rw K H0 S ρ H v w) (h : toP st w = some d) : Dp K H v d := by
  cases w with
  | d p => cases h; exact Rp.dp r
  | own ps =>
    cases h
    obtain ⟨a, vs, rfl, _, _, _, q, r⟩ := r
    exact .lst (SqL.of q) (Rps.dp r)
  | box n =>
    obtain ⟨a, e1, rfl⟩ := r
    have h' : (st[n]?).map PyData.list = some d := h
    cases e : st[n]? with
    | none => rw [e] at h'; cases h'
    | some ps =>
      rw [e] at h'
      cases h'
      obtain ⟨vs, q, r⟩ := s.bx n a ps e1 e
      exact .lst (SqL.of q) (Rps.dp r)
  | rd ps => cases h
end

/-! ### two-place operations -/
abbrev PX := Ex → Store → AS → List Addr → Hp → Prop
/-- the reading of an operation on values -/
def r2W (K : PySem.W.Frag) (H0 : Hp) (P0 : PX) (g : W → W → M W) : R2 := fun x y H Q => ∃ S ρ st a b, Sta K S ρ H st ∧ Rw K H0 S ρ H x a ∧ Rw K H0 S ρ H y b ∧ Wp K S ρ H P0 (fun w _ S' ρ' H' => ∀ v, Rw K H0 S' ρ' H' v w → Q v H') (g a b st)
def r1W (K : PySem.W.Frag) (H0 : Hp) (P0 : PX) (g : W → M W) : V → Hp → VK → Prop := fun x H Q => ∃ S ρ st a, Sta K S ρ H st ∧ Rw K H0 S ρ H x a ∧ Wp K S ρ H P0 (fun w _ S' ρ' H' => ∀ v, Rw K H0 S' ρ' H' v w → Q v H') (g a st)
theorem sizeLine_is : sizeLine = line := sizeLine_eq
section
variable {K : PySem.W.Frag} {H0 : Hp} {S : AS} {ρ : List Addr} {H : Hp} {st : Store} {α : Type} {P : Ex → Store → AS → List Addr → Hp → Prop} {R : α → Store → AS → List Addr → Hp → Prop}
theorem Wp.want {c : Bool} {m : M α} (h : Wp K S ρ H P R (Zd.want c m st)) : c = true ∧ Wp K S ρ H P R (m st) := by
  cases c with
  | true => exact ⟨rfl, h⟩
  | false => exact False.elim h
/-- an int comes out -/
theorem Wp.int {i : Int} {Q : VK} (s : Sta K S ρ H st) (h : Wp K S ρ H P (fun w _ S' ρ' H' => ∀ v, Rw K H0 S' ρ' H' v w → Q v H') (Zd.int i st)) : Q (.int i) H := Wp.now s h _ (Rp.int i)
theorem Wp.bool {b : Bool} {Q : VK} (s : Sta K S ρ H st) (h : Wp K S ρ H P (fun w _ S' ρ' H' => ∀ v, Rw K H0 S' ρ' H' v w → Q v H') (Zd.bool b st)) : Q (.bl b) H := Wp.now s h _ (Rp.bl b)
/-- a new list, a new tuple of data -/
theorem Wp.newL {xs : List PyData} {vs : List V} {Q : VK} (s : Sta K S ρ H st) (r : Rps K S H vs xs) (h : Wp K S ρ H P (fun w _ S' ρ' H' => ∀ v, Rw K H0 S' ρ' H' v w → Q v H') (.ok (.d (.list xs)) st)) {p : Addr} (hp : H p = none) : Q (.ref p) (upd H p (.lst vs)) :=
  h S ρ _ (.new hp) (s.new hp) _ (Rp.lst (s.free hp) upd_same (Rps.grow ((Ext.new hp).grow s) r))
theorem Wp.newT {xs : List PyData} {vs : List V} {Q : VK} (s : Sta K S ρ H st) (r : Rps K S H vs xs) (h : Wp K S ρ H P (fun w _ S' ρ' H' => ∀ v, Rw K H0 S' ρ' H' v w → Q v H') (.ok (.d (.tuple xs)) st)) {p : Addr} (hp : H p = none) : Q (.ref p) (upd H p (.tup vs)) :=
  h S ρ _ (.new hp) (s.new hp) _ (Rp.tup (SqT.of upd_same) (Rps.grow ((Ext.new hp).grow s) r))
end
section
variable {X : Cx} {H0 : Hp} {P0 : PX}
theorem op_fdivA : OpR X (binaryOp .FloorDiv) (rI (fun _ j => j ≠ 0 ∧ j.natAbs.log2 < 9000) fun i j => .int (i.fdiv j)) := opI fun _ _ _ _ _ _ _ hc q => floordiv_int hc.1 q (.inl (PyProof.noPylong_of_log2 hc.2))
theorem op_mulA : OpR X (binaryOp .Mult) (rI (fun i j => mulOk i j = true) fun i j => .int (i * j)) := opI fun _ _ _ _ _ _ _ hc q => mul_int q (by
  unfold IntMulOk
  intro z
  unfold mulOk at hc
  rw [z] at hc
  cases hc)
/-- an operator that ints have -/
def arith (op : Operator) : Bool := match op with
  | .Add | .Sub | .Mult | .FloorDiv | .Mod | .Pow => true
  | _ => false
theorem op_int {op : Operator} {i j : Int} {S : AS} {ρ : List Addr} {st : Store} {pins : List (Addr × Obj)} {s : Shared} {σ : St} {H : Hp} {x y : V} {v u : Value} {Q : VK} (I : Inv X pins σ H s) (rx : RelV x v) (ry : RelV y u) (hs : Sta X.K S ρ H st) (ex : x = .int i) (ey : y = .int j)
    (h : Wp X.K S ρ H P0 (fun w _ S' ρ' H' => ∀ v, Rw X.K H0 S' ρ' H' v w → Q v H') (binI op i j st)) : wpAny (model X.prog X.w) X.A (binaryOp op v u) (EP X pins σ Q) X.xe s := by
  subst ex ey
  cases op with
  | Add => exact op_add pins s σ H _ _ v u Q I rx ry ⟨i, j, rfl, rfl, Wp.int hs h⟩
  | Sub => exact op_sub pins s σ H _ _ v u Q I rx ry ⟨i, j, rfl, rfl, Wp.int hs h⟩
  | Mult =>
    obtain ⟨c, h⟩ := Wp.want h
    exact op_mulA pins s σ H _ _ v u Q I rx ry ⟨i, j, rfl, rfl, c, Wp.int hs h⟩
  | FloorDiv =>
    obtain ⟨c, h⟩ := Wp.want h
    rw [Bool.and_eq_true, decide_eq_true_eq, decide_eq_true_eq] at c
    exact op_fdivA pins s σ H _ _ v u Q I rx ry ⟨i, j, rfl, rfl, c, Wp.int hs h⟩
  | Mod =>
    obtain ⟨c, h⟩ := Wp.want h
    exact op_modN pins s σ H _ _ v u Q I rx ry ⟨i, j, rfl, rfl, of_decide_eq_true c, Wp.int hs h⟩
  | Pow =>
    obtain ⟨c, h⟩ := Wp.want h
    rw [Bool.and_eq_true, Bool.and_eq_true, decide_eq_true_eq, decide_eq_true_eq, decide_eq_true_eq] at c
    exact op_pow pins s σ H _ _ v u Q I rx ry ⟨i, j, rfl, rfl, ⟨c.1.1, c.1.2, c.2⟩, Wp.int hs h⟩
  | _ => exact False.elim h
theorem opW (op : Operator) : OpR X (binaryOp op) (r2W X.K H0 P0 (binW op)) := by
  intro pins s σ H x y v u Q I rx ry h
  obtain ⟨S, ρ, st, a, b, hs, r1, r2, h⟩ := h
  unfold binW at h
  cases ea : intv a with
  | some i =>
    cases eb : intv b with
    | some j =>
      rw [ea, eb] at h
      exact op_int I rx ry hs (r1.int ea) (r2.int eb) h
    | none =>
      have la : lstv st a = none := by rw [intv_eq ea]; rfl
      have ta : tupv a = none := by rw [intv_eq ea]; rfl
      have h' : Wp X.K S ρ H P0 (fun w _ S' ρ' H' => ∀ v, Rw X.K H0 S' ρ' H' v w → Q v H') (binS op a b st) := by
        rw [ea, eb] at h
        exact h
      unfold binS binL at h'
      rw [la, ta] at h'
      cases op <;> exact False.elim h'
  | none =>
    have h' : Wp X.K S ρ H P0 (fun w _ S' ρ' H' => ∀ v, Rw X.K H0 S' ρ' H' v w → Q v H') (binS op a b st) := by
      rw [ea] at h
      cases hb : intv b <;> (rw [hb] at h; exact h)
    clear h
    unfold binS binL at h'
    cases op <;> first | exact False.elim h' | skip
    · -- Add
      cases ta : tupv a with
      | some xs =>
        cases tb : tupv b with
        | some ys =>
          rw [ta, tb] at h'
          obtain ⟨c, h'⟩ := Wp.want h'
          obtain ⟨p, vs, rfl, q1, s1⟩ := r1.tup ta
          obtain ⟨p', vs', rfl, q2, s2⟩ := r2.tup tb
          have hl : vs.length + vs'.length ≤ sizeLine := by rw [s1.length, s2.length, sizeLine_is]; exact of_decide_eq_true c
          have empty : ∀ {l : List V} {m : List PyData}, Rps X.K S H l m → l = [] → m = [] := fun r e => by subst e; cases r; rfl
          refine op_catA pins s σ H _ _ v u Q I rx ry ⟨p, p', vs, vs', rfl, rfl, q1, q2, hl, fun e => ?_, fun _ e => ?_, fun _ _ p hp => ?_⟩
          · have e1 := empty s1 e
            subst e1
            exact Wp.now hs h' _ (Rp.tup q2 s2)
          · have e1 := empty s2 e
            subst e1
            refine Wp.now hs h' _ (Rp.tup q1 ?_)
            rw [List.append_nil]
            exact s1
          · exact Wp.newT hs (s1.append s2) h' hp
        | none =>
          have la : lstv st a = none := by rw [tupv_eq ta]; rfl
          rw [ta, tb, la] at h'
          exact False.elim h'
      | none =>
        rw [ta] at h'
        cases la : lstv st a with
        | none => rw [la] at h'; exact False.elim h'
        | some xs =>
          cases lb : lstv st b with
          | none => rw [la, lb] at h'; exact False.elim h'
          | some ys =>
            rw [la, lb] at h'
            obtain ⟨c, h'⟩ := Wp.want h'
            obtain ⟨p, vs, rfl, q1, s1⟩ := r1.lst hs la
            obtain ⟨p', vs', rfl, q2, s2⟩ := r2.lst hs lb
            refine op_cat pins s σ H _ _ v u Q I rx ry ⟨p, p', vs, vs', rfl, rfl, q1, q2, ?_, fun p hp => Wp.newL hs (s1.append s2) h' hp⟩
            rw [s1.length, s2.length, sizeLine_is]
            exact of_decide_eq_true c
    · -- Mult
      cases la : lstv st a with
      | none => rw [la] at h'; exact False.elim h'
      | some xs =>
        cases ib : intv b with
        | none => rw [la, ib] at h'; exact False.elim h'
        | some j =>
          rw [la, ib] at h'
          obtain ⟨c, h'⟩ := Wp.want h'
          rw [Bool.and_eq_true, Bool.and_eq_true, decide_eq_true_eq, decide_eq_true_eq, decide_eq_true_eq] at c
          obtain ⟨⟨c1, c2⟩, c3⟩ := c
          obtain ⟨p, vs, rfl, q1, s1⟩ := r1.lst hs la
          have ey := r2.int ib
          subst ey
          refine op_rep pins s σ H _ _ v u Q I rx ry ⟨p, j, vs, rfl, rfl, q1, by omega, by omega, ?_, fun p hp => Wp.newL hs (s1.rep _) h' hp⟩
          rw [s1.length, sizeLine_is]
          exact c3
end

/-! ### comparisons -/
def r2B (K : PySem.W.Frag) (H0 : Hp) (P0 : PX) (g : W → W → M Bool) : R2 := fun x y H Q => ∃ S ρ st a b, Sta K S ρ H st ∧ Rw K H0 S ρ H x a ∧ Rw K H0 S ρ H y b ∧ Wp K S ρ H P0 (fun k _ _ _ H' => Q (.bl k) H') (g a b st)
section
variable {K : PySem.W.Frag} {H0 : Hp} {S : AS} {ρ : List Addr} {H : Hp} {st : Store} {v : V} {w : W}
theorem Rw.isNone (r : Rw K H0 S ρ H v w) : Zd.isNone w = decide (v = .non) := by
  cases w with
  | d p =>
    have r' : Rp K S H v p := r
    cases r' <;> rfl
  | box n => obtain ⟨a, _, rfl⟩ := r; rfl
  | own ps => obtain ⟨a, vs, rfl, _⟩ := r; rfl
  | rd ps => obtain ⟨a, vs, rfl, _⟩ := r; rfl
theorem flat_of {p : PyData} {v : V} (r : Rp K S H v p) (h : flatP p = true) : flatV v = true := by
  cases r <;> first | rfl | cases h
theorem flats_of : ∀ {ds : List PyData} {vs : List V}, Rps K S H vs ds → ds.all flatP = true → vs.all flatV = true
  | _, _, .nil, _ => rfl
  | _, _, .cons r t, h => by
    rw [List.all_cons, Bool.and_eq_true] at h ⊢
    exact ⟨flat_of r h.1, flats_of t h.2⟩
theorem eqv_of {p q : PyData} {v u : V} (r : Rp K S H v p) (s : Rp K S H u q) (h : flatP p = true) (h' : flatP q = true) : PyData.eqv p q = eqV v u := by
  cases r <;> cases h
  all_goals (cases s <;> cases h')
  all_goals simp only [PyData.eqv, eqV]
theorem any_of {q : PyData} {u : V} (s : Rp K S H u q) (h' : flatP q = true) : ∀ {ds : List PyData} {vs : List V}, Rps K S H vs ds → ds.all flatP = true → (ds.any fun y => PyData.eqv y q) = inV u vs
  | _, _, .nil, _ => rfl
  | _, _, .cons r t, h => by
    rw [List.all_cons, Bool.and_eq_true] at h
    show _ = List.any _ _
    rw [List.any_cons, List.any_cons, eqv_of r s h.1 h', any_of s h' t h.2]
    rfl
theorem datv_eq {p : PyData} (h : datv w = some p) : w = .d p := by
  cases w <;> first | (cases h; rfl) | cases h
end
section
variable {X : Cx} {H0 : Hp} {P0 : PX}
theorem opB_eq {S : AS} {ρ : List Addr} {st : Store} {H : Hp} {a b : W} {R : Bool → Store → AS → List Addr → Hp → Prop} (hs : Sta X.K S ρ H st) (h : Wp X.K S ρ H P0 R (eqW a b st)) :
    ∃ p q, toP st a = some p ∧ toP st b = some q ∧ SeqAt.shaped p = true ∧ SeqAt.shaped q = true ∧ R (PyData.eqv p q) st S ρ H := by
  unfold eqW at h
  cases ea : toP st a with
  | none => rw [ea] at h; exact False.elim h
  | some p =>
    cases eb : toP st b with
    | none => rw [ea, eb] at h; exact False.elim h
    | some q =>
      rw [ea, eb] at h
      obtain ⟨c, h⟩ := Wp.want h
      rw [Bool.and_eq_true] at c
      exact ⟨p, q, rfl, rfl, c.1, c.2, Wp.now hs h⟩
theorem opB_in {S : AS} {ρ : List Addr} {st : Store} {H : Hp} {x y : V} {a b : W} {R : Bool → Store → AS → List Addr → Hp → Prop} (hs : Sta X.K S ρ H st) (r1 : Rw X.K H0 S ρ H x a) (r2 : Rw X.K H0 S ρ H y b) (h : Wp X.K S ρ H P0 R (inW a b st)) :
    ∃ p vs, y = .ref p ∧ (SqL X.K H p vs ∨ SqT X.K H p vs) ∧ flatV x = true ∧ vs.all flatV = true ∧ R (inV x vs) st S ρ H := by
  unfold inW at h
  cases ea : datv a with
  | none => rw [ea] at h; exact False.elim h
  | some d =>
    cases eb : seqv st b with
    | none => rw [ea, eb] at h; exact False.elim h
    | some xs =>
      rw [ea, eb] at h
      obtain ⟨c, h⟩ := Wp.want h
      rw [Bool.and_eq_true] at c
      rw [datv_eq ea] at r1
      obtain ⟨p, vs, e, q, rs⟩ := r2.seq hs eb
      have h2 := Wp.now hs h
      rw [any_of r1 c.1 rs c.2] at h2
      exact ⟨p, vs, e, q, flat_of r1 c.1, flats_of rs c.2, h2⟩
theorem opB (hu : X.A.units + 64 < cLine) (op : CmpOp) : OpR X (compareOp op) (r2B X.K H0 P0 (cmpB op)) := by
  intro pins s σ H x y v u Q I rx ry h
  obtain ⟨S, ρ, st, a, b, hs, r1, r2, h⟩ := h
  have nmz : ∀ {op : CmpOp} {r : R2}, cmpB op a b = (match intv a, intv b with
      | some i, some j => Zd.opt (cmpI op i j)
      | _, _ => bad) → Wp X.K S ρ H P0 (fun k _ _ _ H' => Q (.bl k) H') (cmpB op a b st) → ∃ i j k, x = .int i ∧ y = .int j ∧ cmpI op i j = some k ∧ Q (.bl k) H := fun {op r} e h => by
    rw [e] at h
    cases ea : intv a with
    | none => rw [ea] at h; exact False.elim h
    | some i =>
      cases eb : intv b with
      | none => rw [ea, eb] at h; exact False.elim h
      | some j =>
        rw [ea, eb] at h
        have h' : Wp X.K S ρ H P0 (fun k _ _ _ H' => Q (.bl k) H') (Zd.opt (cmpI op i j) st) := h
        cases ec : cmpI op i j with
        | none => rw [ec] at h'; exact False.elim h'
        | some k =>
          rw [ec] at h'
          exact ⟨i, j, k, r1.int ea, r2.int eb, ec, Wp.now hs h'⟩
  cases op with
  | Eq =>
    obtain ⟨p, q, e1, e2, c1, c2, k⟩ := opB_eq hs h
    exact op_eqD hu pins s σ H x y v u Q I rx ry ⟨p, q, r1.dat hs e1, r2.dat hs e2, c1, c2, k⟩
  | NotEq =>
    have h' := Wp.bd hs h
    obtain ⟨p, q, e1, e2, c1, c2, k⟩ := opB_eq hs h'
    exact op_neD hu pins s σ H x y v u Q I rx ry ⟨p, q, r1.dat hs e1, r2.dat hs e2, c1, c2, Wp.now hs k⟩
  | Lt =>
    obtain ⟨i, j, k, e1, e2, e3, q⟩ := nmz (op := .Lt) (r := fun _ _ _ _ => True) rfl h
    cases e3
    exact op_lt pins s σ H x y v u Q I rx ry ⟨i, j, e1, e2, q⟩
  | LtE =>
    obtain ⟨i, j, k, e1, e2, e3, q⟩ := nmz (op := .LtE) (r := fun _ _ _ _ => True) rfl h
    cases e3
    exact op_le pins s σ H x y v u Q I rx ry ⟨i, j, e1, e2, q⟩
  | Gt =>
    obtain ⟨i, j, k, e1, e2, e3, q⟩ := nmz (op := .Gt) (r := fun _ _ _ _ => True) rfl h
    cases e3
    exact op_gt pins s σ H x y v u Q I rx ry ⟨i, j, e1, e2, q⟩
  | GtE =>
    obtain ⟨i, j, k, e1, e2, e3, q⟩ := nmz (op := .GtE) (r := fun _ _ _ _ => True) rfl h
    cases e3
    exact op_ge pins s σ H x y v u Q I rx ry ⟨i, j, e1, e2, q⟩
  | Is =>
    obtain ⟨c, h'⟩ := Wp.want h
    rw [r2.isNone] at c
    have k := Wp.now hs h'
    rw [r1.isNone] at k
    exact op_isN pins s σ H x y v u Q I rx ry ⟨of_decide_eq_true c, k⟩
  | IsNot =>
    obtain ⟨c, h'⟩ := Wp.want h
    rw [r2.isNone] at c
    have k := Wp.now hs h'
    rw [r1.isNone] at k
    exact op_notN pins s σ H x y v u Q I rx ry ⟨of_decide_eq_true c, k⟩
  | In =>
    obtain ⟨p, vs, e, q, f1, f2, k⟩ := opB_in hs r1 r2 h
    exact op_in_seq pins s σ H x y v u Q I rx ry ⟨p, vs, e, q, f1, f2, k⟩
  | NotIn =>
    have h' := Wp.bd hs h
    obtain ⟨p, vs, e, q, f1, f2, k⟩ := opB_in hs r1 r2 h'
    exact op_notIn_seq pins s σ H x y v u Q I rx ry ⟨p, vs, e, q, f1, f2, Wp.now hs k⟩
end
end Zd
end
section
set_option Elab.async false
set_option linter.all false
set_option maxRecDepth 100000
set_option maxHeartbeats 2000000
/-! ZdR: texts of data with great numbers (up to 4300 digits). -/
namespace Zd
open PySem PyProof.Rows
section
variable {prog : Program} {w : World} {A : Around} {E : Value → Shared → Prop} {s : Shared} {i : Int} {t : Tok} {Q : Value → Shared → Prop}
theorem slotInt (nd : s.heap.NoDigits) (small : i.natAbs < 10 ^ 4300) (fin : Q (.str (toString i) s.toks) { s with toks := s.toks + 1 }) : wpAny (model prog w) A (call (.builtin "int.__repr__") [.int i t]) Q E s := by
  refine wpAny_call_entry F.slot_int_repr (typeIs_int s i t) F.entry_int_repr ?_ (F.args_int_repr_1 _)
  unfold Builtin.«int.__repr__»
  show wpAny _ _ (do let r ← Builtin.overDigitLimit? i; _) _ _ s
  refine wpAny_bind (overDigitLimit_any nd (fun _ => ?_) fun big => absurd small (Nat.not_lt.mpr big))
  exact wpAny_bind (wpAny_mkStr (wpAny_pure ⟨_, rfl, fin⟩) (int_text_fits10 small))
theorem objInt (nd : s.heap.NoDigits) (small : i.natAbs < 10 ^ 4300) (room : A.units < cLine) (fin : Q (.str (toString i) s.toks) { s with toks := s.toks + 1 }) : wpAny (model prog w) A (pyReprObj (.int i t)) Q E s :=
  wpAny_pyReprObj_slot room (typeIs_int s i t) F.slot_int_repr.toG (slotInt nd small ⟨_, _, rfl, fin⟩)
theorem callInt (nd : s.heap.NoDigits) (small : i.natAbs < 10 ^ 4300) (room : A.units + 1 < cLine) (fin : Q (.str (toString i) s.toks) { s with toks := s.toks + 1 }) : wpAny (model prog w) A (call (.builtin "repr") [.int i t]) Q E s :=
  call_repr_slot room (typeIs_int s i t) F.slot_int_repr.toG (slotInt nd small ⟨_, _, rfl, fin⟩)
end
theorem wideI_small {i : Int} (h : wideI i = true) : i.natAbs < 10 ^ 4300 := Nat.lt_of_lt_of_le (lt_of_log2 (of_decide_eq_true h)) pow_lo
section
variable {prog : Program} {w : World} {h₀ : Heap}
mutual
theorem kOf (nd : h₀.NoDigits) : ∀ (d : PyData) (v : Value) (as : List Addr), Reads h₀ v d as → wideP d = true → d.shown.length ≤ sizeLine → ∃ bs, ReadAtMost h₀ d.depth bs ∧ ReprK prog w bs h₀ d.depth v d.shown
  | .none, _, _, .none, _, _ => ⟨[], fun _ z => (by cases z), by simp only [PyData.shown]; exact ReprK.of_is .none _ _ _⟩
  | .bool _, _, _, .bool b, _, _ => ⟨[], fun _ z => (by cases z), by simp only [PyData.shown]; exact ReprK.of_is (.bool b) _ _ _⟩
  | .str _, _, _, .str x t, _, hl => ⟨[], fun _ z => (by cases z), by
      simp only [PyData.shown] at hl ⊢
      exact ReprK.of_is (.str x t hl) _ _ _⟩
  | .int _, _, _, .int i t, hw, _ => ⟨[], fun _ z => (by cases z), by
      simp only [PyData.shown]
      intro n hn A g E s Q _ _ hu hk fin
      rw [pyReprUnder_leaf (by omega) (fun _ z => by cases z)]
      unfold pyRepr
      refine wpAny_bind (objInt (nd.keeps hk) (wideI_small (by simpa only [wideP] using hw)) (by omega) ?_)
      exact wpAny_pure (fin s.heap _ fun _ _ z => z)⟩
  | .list xs, _, _, .list (a := a) (vs := vs) p1 p2 p3 p4, hw, hl => by
    have hl' : (listText (PyData.shownAll xs)).length ≤ sizeLine := by simpa only [PyData.shown] using hl
    obtain ⟨bs, deep, ks⟩ := kAll nd xs _ _ p4 (by simpa only [wideP] using hw) fun t ht => Nat.le_trans (listText_mem_le ht) hl'
    have whole : Reads h₀ (.ref a) (.list xs) _ := .list p1 p2 p3 p4
    have out : a ∉ bs := not_mem_of_deeper whole (by simp only [PyData.depth]; omega) deep
    refine ⟨a :: bs, ReadAtMost.cons whole (by simp only [PyData.depth]; omega) deep, ?_⟩
    simp only [PyData.shown, PyData.depth]
    obtain ⟨l⟩ := vs
    cases l with
    | nil =>
      have none4 : ReadsAll h₀ [] xs _ := p4
      cases none4
      simp only [PyData.shownAll, listText_nil]
      exact ReprK.listEmpty p1 p2 p3
    | cons y l => exact ReprK.list p1 p2 p3 out (by simpa using ks.length_eq) fun i z q => ks.item i z (by simpa using q)
  | .tuple xs, _, _, .tuple (a := a) p1 p2 p3 p4, hw, hl => by
    have hl' : (tupleText (PyData.shownAll xs)).length ≤ sizeLine := by simpa only [PyData.shown] using hl
    obtain ⟨bs, deep, ks⟩ := kAll nd xs _ _ p4 (by simpa only [wideP] using hw) fun t ht => Nat.le_trans (tupleText_mem_le ht) hl'
    have whole : Reads h₀ (.ref a) (.tuple xs) _ := .tuple p1 p2 p3 p4
    have out : a ∉ bs := not_mem_of_deeper whole (by simp only [PyData.depth]; omega) deep
    refine ⟨a :: bs, ReadAtMost.cons whole (by simp only [PyData.depth]; omega) deep, ?_⟩
    simp only [PyData.shown, PyData.depth]
    exact ReprK.tuple p1 p2 p3 out ks
theorem kAll (nd : h₀.NoDigits) : ∀ (ds : List PyData) (vs : List Value) (as : List Addr), ReadsAll h₀ vs ds as → wideAll ds = true → (∀ t ∈ PyData.shownAll ds, t.length ≤ sizeLine) → ∃ bs, ReadAtMost h₀ (PyData.depthAll ds) bs ∧ ReprAllK prog w bs h₀ (PyData.depthAll ds) vs (PyData.shownAll ds)
  | [], _, _, .nil, _, _ => ⟨[], fun _ z => (by cases z), by simp only [PyData.shownAll]; exact .nil⟩
  | d :: ds, _, _, .cons r rs, hw, hl => by
    have hw' : wideP d = true ∧ wideAll ds = true := by simpa [wideAll] using hw
    obtain ⟨b, q1, k1⟩ := kOf nd d _ _ r hw'.1 (hl _ (by simp only [PyData.shownAll]; exact List.mem_cons_self))
    obtain ⟨c, q2, k2⟩ := kAll nd ds _ _ rs hw'.2 fun t ht => hl t (by simp only [PyData.shownAll]; exact List.mem_cons_of_mem _ ht)
    have l1 : d.depth ≤ PyData.depthAll (d :: ds) := by simp only [PyData.depthAll]; exact Nat.le_max_left _ _
    have l2 : PyData.depthAll ds ≤ PyData.depthAll (d :: ds) := by simp only [PyData.depthAll]; exact Nat.le_max_right _ _
    refine ⟨b ++ c, ReadAtMost.append (q1.mono l1) (q2.mono l2), ?_⟩
    simp only [PyData.shownAll]
    exact .cons ((k1.more fun _ z => List.mem_append_left _ z).level_le l1) (k2.more_le (fun _ z => List.mem_append_right _ z) l2)
end
/-- repr of a list or tuple with great numbers -/
theorem reprBig {A : Around} {E : Value → Shared → Prop} {s : Shared} {Q : Value → Shared → Prop} {a : Addr} {d : PyData} {as : List Addr} (nd : s.heap.NoDigits) (r : Reads s.heap (.ref a) d as) (hw : wideP d = true) (hl : d.shown.length ≤ sizeLine) (hg : A.guards = some []) (hu : A.units + (d.depth + 1) < cLine)
    (fin : ∀ h' u tk, (∀ b o, s.heap.get? b = some o → h'.get? b = some o) → Q (.str d.shown u) { s with heap := h', toks := tk }) : wpAny (model prog w) A (call (.builtin "repr") [.ref a]) Q E s := by
  have ub : A.in1.units + d.depth < cLine := by show A.units + 1 + d.depth < cLine; omega
  cases r with
  | list p1 p2 p3 p4 =>
    rename_i o vs n xs cs
    have hl' : (listText (PyData.shownAll xs)).length ≤ sizeLine := by simpa only [PyData.shown] using hl
    obtain ⟨bs, deep, ks⟩ := kAll (prog := prog) (w := w) nd xs _ _ p4 (by simpa only [wideP] using hw) fun t ht => Nat.le_trans (listText_mem_le ht) hl'
    have out : a ∉ bs := not_mem_of_deeper (.list p1 p2 p3 p4) (by simp only [PyData.depth]; omega) deep
    simp only [PyData.depth] at ub
    simp only [PyData.shown] at fin
    refine call_repr_slot (by omega) ⟨o, p1, p2⟩ F.slot_list_repr.toG ?_
    obtain ⟨l⟩ := vs
    cases l with
    | nil =>
      have none4 : ReadsAll s.heap [] xs _ := p4
      cases none4
      simp only [PyData.shownAll, listText_nil] at fin
      exact call_list_repr_empty ⟨o, p1, p2⟩ p1 p3 ⟨_, _, rfl, fin s.heap _ _ fun _ _ z => z⟩
    | cons y l => exact call_list_reprK p1 p2 p3 out (by simpa using ks.length_eq) (fun i z q => ks.item i z (by simpa using q)) hg (fun b _ => Clear.nil b) ub (fun _ _ z => z) (fun h' u tk k => ⟨_, _, rfl, fin h' u tk k⟩) hl'
  | tuple p1 p2 p3 p4 =>
    rename_i o vs n xs
    have hl' : (tupleText (PyData.shownAll xs)).length ≤ sizeLine := by simpa only [PyData.shown] using hl
    obtain ⟨bs, deep, ks⟩ := kAll (prog := prog) (w := w) nd xs _ _ p4 (by simpa only [wideP] using hw) fun t ht => Nat.le_trans (tupleText_mem_le ht) hl'
    have out : a ∉ bs := not_mem_of_deeper (.tuple p1 p2 p3 p4) (by simp only [PyData.depth]; omega) deep
    simp only [PyData.depth] at ub
    simp only [PyData.shown] at fin
    exact call_repr_slot (by omega) ⟨o, p1, p2⟩ F.slot_tuple_repr (call_tuple_reprK p1 p2 p3 out ks hg (fun b _ => Clear.nil b) ub (fun _ _ z => z) (fun h' u tk k => ⟨_, _, rfl, fin h' u tk k⟩) hl')
  | dict _ _ _ _ _ => cases (show false = true by simpa only [wideP] using hw)
end
end Zd
end
section
set_option Elab.async false
set_option linter.all false
set_option maxRecDepth 100000
set_option maxHeartbeats 2000000
/-! Zd3: items, slices, built-ins, by values. -/
namespace Zd
open PySem PySem.Spec L2
open PyProof.Rows hiding St
section
variable {K : PySem.W.Frag} {H0 : Hp} {S : AS} {ρ : List Addr} {H : Hp} {st : Store} {v : V} {w : W}
theorem atI_of {vs : List V} {ds : List PyData} {i : Int} {d : PyData} (r : Rps K S H vs ds) (h : atI ds i = some d) : ∃ v, atI vs i = some v ∧ Rp K S H v d := by
  unfold atI at h
  cases e : ixN ds.length i with
  | none => rw [e] at h; cases h
  | some j =>
    rw [e] at h
    obtain ⟨v, h1, h2⟩ := r.get (i := j) (d := d) h
    refine ⟨v, ?_, h2⟩
    unfold atI
    rw [r.length, e]
    exact h1
theorem cut_of {vs : List V} {ds : List PyData} {l h : Option Int} (r : Rps K S H vs ds) : Rps K S H (cutV vs l h) (cutP ds l h) := by
  unfold cutV cutP
  rw [r.length]
  exact (r.drop _).take _
theorem intsOf_eq : ∀ {ds : List PyData} {ns : List Int}, intsOf ds = some ns → ds = ns.map .int
  | [], ns, h => by cases h; rfl
  | d :: ds, ns, h => by
    cases d <;> first | cases h | skip
    rename_i i
    have h' : (intsOf ds).map (i :: ·) = some ns := h
    cases e : intsOf ds with
    | none => rw [e] at h'; cases h'
    | some ms =>
      rw [e] at h'
      cases h'
      rw [intsOf_eq e]
      rfl
theorem boolsOf_eq : ∀ {ds : List PyData} {ns : List Bool}, boolsOf ds = some ns → ds = ns.map .bool
  | [], ns, h => by cases h; rfl
  | d :: ds, ns, h => by
    cases d <;> first | cases h | skip
    rename_i i
    have h' : (boolsOf ds).map (i :: ·) = some ns := h
    cases e : boolsOf ds with
    | none => rw [e] at h'; cases h'
    | some ms =>
      rw [e] at h'
      cases h'
      rw [boolsOf_eq e]
      rfl
/-- the whole tuple cut out is itself -/
theorem cut_all {ds : List PyData} {l h : Option Int} (e : HT.sIx ds.length 0 l = 0 ∧ HT.sIx ds.length ds.length h = ds.length) : cutP ds l h = ds := by
  unfold cutP
  rw [e.1, e.2, List.drop_zero, Nat.sub_zero, List.take_length]
end
section
variable {X : Cx} {H0 : Hp} {P0 : PX}
theorem ixW : IxR X (r2W X.K H0 P0 subW) := by
  intro value slice pins s σ H x y v u Q I rx ry h hsub
  obtain ⟨S, ρ, st, a, b, hs, r1, r2, h⟩ := h
  unfold subW at h
  cases ea : seqv st a with
  | none => rw [ea] at h; exact False.elim h
  | some xs =>
    cases eb : intv b with
    | none => rw [ea, eb] at h; exact False.elim h
    | some i =>
      rw [ea, eb] at h
      have h' : Wp X.K S ρ H P0 (fun w _ S' ρ' H' => ∀ v, Rw X.K H0 S' ρ' H' v w → Q v H') (match atI xs i with
        | some p => .ok (.d p) st
        | none => .bad) := h
      cases ec : atI xs i with
      | none => rw [ec] at h'; exact False.elim h'
      | some d =>
        rw [ec] at h'
        obtain ⟨p, vs, rfl, q, rs⟩ := r1.seq hs ea
        have ey := r2.int eb
        subst ey
        obtain ⟨z, h1, h2⟩ := atI_of rs ec
        have fin : Q z H := Wp.now hs h' _ h2
        rcases q with q | q
        · exact ix_list value slice pins s σ H _ _ v u Q I rx ry ⟨p, vs, i, z, rfl, rfl, q, h1, fin⟩ hsub
        · exact ix_tup value slice pins s σ H _ _ v u Q I rx ry ⟨p, vs, i, z, rfl, rfl, q, h1, fin⟩ hsub
def rSlW (K : PySem.W.Frag) (H0 : Hp) (P0 : PX) : V → Option Int → Option Int → Hp → VK → Prop := fun x l h H Q => ∃ S ρ st a, Sta K S ρ H st ∧ Rw K H0 S ρ H x a ∧ Wp K S ρ H P0 (fun w _ S' ρ' H' => ∀ v, Rw K H0 S' ρ' H' v w → Q v H') (sliceV a l h st)
theorem lstr_of {K : PySem.W.Frag} {H0 : Hp} {S : AS} {ρ : List Addr} {H : Hp} {st : Store} {v : V} {w : W} {xs : List PyData} (hs : Sta K S ρ H st) (r : Rw K H0 S ρ H v w) (h : lstr st w = some xs) : ∃ a vs, v = .ref a ∧ SqL K H a vs ∧ Rps K S H vs xs := by
  have lists : lstv st w = some xs → ∃ a vs, v = .ref a ∧ SqL K H a vs ∧ Rps K S H vs xs := fun h => by
    obtain ⟨a, vs, e, q, r⟩ := r.lst hs h
    exact ⟨a, vs, e, SqL.of q, r⟩
  cases w with
  | rd ps =>
    cases h
    obtain ⟨a, vs, e, q, r⟩ := r
    refine ⟨a, vs, e, ?_, r⟩
    rcases q with ⟨_, q⟩ | q
    · exact .inl q
    · exact .inr q
  | d p => exact lists h
  | own ps => exact lists h
  | box n => exact lists h
theorem slW : SlR X (rSlW X.K H0 P0) := by
  intro pins s σ H x v vl vu lo hi sl Q I rx hsl pl pu h
  obtain ⟨S, ρ, st, a, hs, r1, h⟩ := h
  unfold sliceV at h
  cases ta : tupv a with
  | some xs =>
    rw [ta] at h
    obtain ⟨p, vs, rfl, q, rs⟩ := r1.tup ta
    refine sl_tupA pins s σ H _ v vl vu lo hi sl Q I rx hsl pl pu ⟨p, vs, rfl, q, fun e => ?_, fun _ p hp => Wp.newT hs (cut_of rs) h hp⟩
    rw [rs.length] at e
    have h' := Wp.now hs h
    rw [cut_all e] at h'
    exact h' _ (Rp.tup q rs)
  | none =>
    rw [ta] at h
    cases la : lstr st a with
    | none => rw [la] at h; exact False.elim h
    | some xs =>
      rw [la] at h
      obtain ⟨p, vs, rfl, q, rs⟩ := lstr_of hs r1 la
      exact sl_list pins s σ H _ v vl vu lo hi sl Q I rx hsl pl pu ⟨p, vs, rfl, q, fun p hp => Wp.newL hs (cut_of rs) h hp⟩

/-! ### calls of built-ins -/
abbrev Rws (K : PySem.W.Frag) (H0 : Hp) (S : AS) (ρ : List Addr) (H : Hp) : List V → List W → Prop := Paired (Rw K H0 S ρ H)
def rNW (K : PySem.W.Frag) (H0 : Hp) (P0 : PX) (g : List W → M W) : List V → Hp → VK → Prop := fun vs H Q => ∃ S ρ st ws, Sta K S ρ H st ∧ Rws K H0 S ρ H vs ws ∧ Wp K S ρ H P0 (fun w _ S' ρ' H' => ∀ v, Rw K H0 S' ρ' H' v w → Q v H') (g ws st)
/-- what a built-in's name stands for -/
def Bf.val : Bf → Value
  | .len => .builtin "len" | .abs => .builtin "abs" | .int => .type "int" | .sum => .builtin "sum" | .all => .builtin "all" | .tuple => .type "tuple" | .list => .type "list" | .repr => .builtin "repr"
  | .max => .builtin "max" | .min => .builtin "min" | .gcd => .builtin "math.gcd" | .divmod => .builtin "divmod"
theorem call_reprD (nb : X.base.NoDigits) (hg : X.A.guards = some []) (hu : X.A.units + 200 < cLine) : CallR X (.builtin "repr") (fun vs H Q => ∃ v d, vs = [v] ∧ Dp X.K H v d ∧ shownOk d = true ∧ Q (.str d.shown) H) := by
  intro pins s σ H vs us Q I r h
  obtain ⟨v, d, rfl, hd, c, q⟩ := h
  obtain ⟨u, rfl, ru⟩ := vals1 r
  unfold shownOk at c
  rw [Bool.and_eq_true, Bool.and_eq_true, Bool.and_eq_true, decide_eq_true_eq, decide_eq_true_eq] at c
  obtain ⟨c1, c2, c3, c4⟩ := c
  rw [← sizeLine_is] at c4
  obtain ⟨as, rd⟩ := Dp.reads I d v u hd ru
  have nd := nb.keeps I.bk
  cases rd with
  | none => exact P.repr_of_none ⟨.str _, H, I.tok _, ⟨_, rfl⟩, by simpa only [PyData.shown] using q⟩
  | bool b => exact P.repr_of_bool ⟨.str _, H, I.tok _, ⟨_, rfl⟩, by simpa only [PyData.shown] using q⟩
  | int i t => exact callInt nd (wideI_small (by simpa only [wideP] using c1)) (by omega) ⟨.str _, H, I.tok _, ⟨_, rfl⟩, by simpa only [PyData.shown] using q⟩
  | str x t => exact P.repr_of_str ⟨.str _, H, I.tok _, ⟨_, rfl⟩, by simpa only [PyData.shown] using q⟩ (by simpa only [PyData.shown] using c4)
  | list h1 h2 h3 h4 => exact reprBig nd (.list h1 h2 h3 h4) c1 c4 hg (by omega) fun h' t tk k => ⟨.str _, H, I.kept k, ⟨_, rfl⟩, q⟩
  | tuple h1 h2 h3 h4 => exact reprBig nd (.tuple h1 h2 h3 h4) c1 c4 hg (by omega) fun h' t tk k => ⟨.str _, H, I.kept k, ⟨_, rfl⟩, q⟩
  | dict _ _ _ _ => cases hd
theorem callW1 (nb : X.base.NoDigits) (hc : X.calm = true) (hg : X.A.guards = some []) (hu : X.A.units + 200 < cLine) (f : Bf) : CallR X f.val (fun vs H Q => ∃ x S ρ st a, vs = [x] ∧ Sta X.K S ρ H st ∧ Rw X.K H0 S ρ H x a ∧ Wp X.K S ρ H P0 (fun w _ S' ρ' H' => ∀ v, Rw X.K H0 S' ρ' H' v w → Q v H') (blt1 f a st)) := by
  intro pins s σ H vs us Q I r h
  obtain ⟨x, S, ρ, st, a, rfl, hs, r1, h⟩ := h
  cases f with
  | len =>
    unfold blt1 at h
    cases ea : seqv st a with
    | none => rw [ea] at h; exact False.elim h
    | some xs =>
      rw [ea] at h
      obtain ⟨p, vs, rfl, q, rs⟩ := r1.seq hs ea
      exact call_len_seq pins s σ H _ us Q I r ⟨p, vs, rfl, q, by rw [rs.length]; exact Wp.int hs h⟩
  | abs =>
    unfold blt1 at h
    cases ea : intv a with
    | none => rw [ea] at h; exact False.elim h
    | some i =>
      rw [ea] at h
      have ex := r1.int ea
      subst ex
      exact call_abs pins s σ H _ us Q I r ⟨i, rfl, Wp.int hs h⟩
  | int =>
    unfold blt1 at h
    cases ea : intv a with
    | none => rw [ea] at h; exact False.elim h
    | some i =>
      rw [ea] at h
      have ex := r1.int ea
      subst ex
      exact call_int1 pins s σ H _ us Q I r (.inl ⟨i, rfl, Wp.int hs h⟩)
  | sum =>
    unfold blt1 at h
    cases ea : lstv st a with
    | none => rw [ea] at h; exact False.elim h
    | some xs =>
      simp only [ea, Option.bind_some] at h
      cases eb : intsOf xs with
      | none => rw [eb] at h; exact False.elim h
      | some ns =>
        rw [eb] at h
        obtain ⟨p, vs, rfl, q, rs⟩ := r1.lst hs ea
        rw [intsOf_eq eb] at rs
        rw [rs.ints] at q
        exact cr_sum hc pins s σ H _ us Q I r ⟨p, ns, rfl, SqL.of q, Wp.int hs h⟩
  | all =>
    unfold blt1 at h
    cases ea : lstv st a with
    | none => rw [ea] at h; exact False.elim h
    | some xs =>
      simp only [ea, Option.bind_some] at h
      cases eb : boolsOf xs with
      | none => rw [eb] at h; exact False.elim h
      | some ns =>
        rw [eb] at h
        obtain ⟨p, vs, rfl, q, rs⟩ := r1.lst hs ea
        rw [boolsOf_eq eb] at rs
        rw [rs.bls] at q
        exact cr_all hc pins s σ H _ us Q I r ⟨p, ns, rfl, SqL.of q, Wp.bool hs h⟩
  | tuple =>
    unfold blt1 at h
    cases ea : seqv st a with
    | none => rw [ea] at h; exact False.elim h
    | some xs =>
      rw [ea] at h
      obtain ⟨p, vs, rfl, q, rs⟩ := r1.seq hs ea
      rcases q with q | q
      · exact call_tuple_of pins s σ H _ us Q I r ⟨p, vs, rfl, .inl ⟨q, fun l hl => Wp.newT hs rs h hl⟩⟩
      · exact call_tuple_of pins s σ H _ us Q I r ⟨p, vs, rfl, .inr ⟨q, Wp.now hs h _ (Rp.tup q rs)⟩⟩
  | list =>
    unfold blt1 at h
    cases ea : seqv st a with
    | none => rw [ea] at h; exact False.elim h
    | some xs =>
      rw [ea] at h
      obtain ⟨p, vs, rfl, q, rs⟩ := r1.seq hs ea
      exact call_list_of pins s σ H _ us Q I r ⟨p, vs, rfl, q, fun l hl => Wp.newL hs rs h hl⟩
  | repr =>
    unfold blt1 at h
    cases ea : toP st a with
    | none => rw [ea] at h; exact False.elim h
    | some d =>
      rw [ea] at h
      obtain ⟨c, h⟩ := Wp.want h
      exact call_reprD nb hg hu pins s σ H _ us Q I r ⟨x, d, rfl, r1.dat hs ea, c, Wp.now hs h _ (Rp.str _)⟩
  | _ => exact False.elim h
theorem callW2 (hc : X.calm = true) (f : Bf) : CallR X f.val (fun vs H Q => ∃ x y S ρ st a b, vs = [x, y] ∧ Sta X.K S ρ H st ∧ Rw X.K H0 S ρ H x a ∧ Rw X.K H0 S ρ H y b ∧ Wp X.K S ρ H P0 (fun w _ S' ρ' H' => ∀ v, Rw X.K H0 S' ρ' H' v w → Q v H') (blt2 f a b st)) := by
  intro pins s σ H vs us Q I r h
  obtain ⟨x, y, S, ρ, st, a, b, rfl, hs, r1, r2, h⟩ := h
  unfold blt2 at h
  cases ea : intv a with
  | none => rw [ea] at h; exact False.elim h
  | some i =>
    cases eb : intv b with
    | none => rw [ea, eb] at h; exact False.elim h
    | some j =>
      rw [ea, eb] at h
      have ex := r1.int ea
      have ey := r2.int eb
      subst ex ey
      cases f with
      | max => exact call_max2 hc pins s σ H _ us Q I r ⟨i, j, rfl, Wp.int hs h⟩
      | min => exact call_min2 hc pins s σ H _ us Q I r ⟨i, j, rfl, Wp.int hs h⟩
      | gcd => exact cr_gcd pins s σ H _ us Q I r ⟨i, j, rfl, Wp.int hs h⟩
      | divmod =>
        obtain ⟨c, h⟩ := Wp.want h
        rw [Bool.and_eq_true, decide_eq_true_eq, decide_eq_true_eq] at c
        exact call_divmod pins s σ H _ us Q I r ⟨i, j, rfl, c, fun p hp => Wp.newT hs (.cons (.int _) (.cons (.int _) .nil)) h hp⟩
      | _ => exact False.elim h
theorem callW (nb : X.base.NoDigits) (hc : X.calm = true) (hg : X.A.guards = some []) (hu : X.A.units + 200 < cLine) (f : Bf) : CallR X f.val (rNW X.K H0 P0 (bltW f)) := by
  intro pins s σ H vs us Q I r h
  obtain ⟨S, ρ, st, ws, hs, rs, h⟩ := h
  cases rs with
  | nil => exact False.elim h
  | cons r1 t =>
    cases t with
    | nil => exact callW1 nb hc hg hu f pins s σ H _ us Q I r ⟨_, S, ρ, st, _, rfl, hs, r1, h⟩
    | cons r2 t =>
      cases t with
      | nil => exact callW2 hc f pins s σ H _ us Q I r ⟨_, _, S, ρ, st, _, _, rfl, hs, r1, r2, h⟩
      | cons r3 t => exact False.elim h

/-! ### isinstance(x, T) -/
theorem tyX_of {K : PySem.W.Frag} {H0 : Hp} {S : AS} {ρ : List Addr} {H : Hp} {st : Store} {v : V} {w : W} {t : String} (hs : Sta K S ρ H st) (r : Rw K H0 S ρ H v w) (h : tyOf st w = some t) : TyX K H v (.type t) := by
  cases w with
  | d p =>
    have r' : Rp K S H v p := r
    cases r' with
    | non => cases h; exact .base .non
    | bl b => cases h; exact .base (.bl b)
    | int i => cases h; exact .base (.int i)
    | str x => cases h; exact .base (.str x)
    | lst _ q _ => cases h; exact .base (.lst q)
    | tup q _ =>
      cases h
      rcases q with (q | ⟨o, q⟩) | ⟨o, _, _, q, c, _⟩
      · exact .base (.tup q)
      · exact .fTuple q
      · exact .kTuple q c
  | own ps =>
    cases h
    obtain ⟨a, vs, rfl, _, _, _, q, _⟩ := r
    exact .base (.lst q)
  | box n =>
    cases h
    obtain ⟨a, e, rfl⟩ := r
    have hn : n < st.length := by rw [← hs.len]; exact (List.getElem?_eq_some_iff.mp e).1
    obtain ⟨vs, q, _⟩ := hs.bx n a st[n] e (by simp [hn])
    exact .base (.lst q)
  | rd ps => cases h
def tyNames : List String := ["NoneType", "bool", "int", "str", "list", "tuple"]
theorem kits : (tyNames.all fun t => tyNames.all fun ty => kitB t ty == some (t == ty || (t == "bool" && ty == "int"))) = true := by decide +kernel
theorem tyOf_mem {st : Store} {w : W} {t : String} (h : tyOf st w = some t) : t ∈ tyNames := by
  unfold tyNames
  cases w with
  | d p => cases p <;> first | (cases h; simp) | cases h
  | own ps => cases h; simp
  | box n => cases h; simp
  | rd ps => cases h
theorem kit_is {K : PySem.W.Frag} {t ty : String} (h : t ∈ tyNames) (h' : ty ∈ tyNames) : PySem.W.kitOne K (.type t) (.type ty) = some (t == ty || (t == "bool" && ty == "int")) := by
  have k := List.all_eq_true.mp (List.all_eq_true.mp kits t h) ty h'
  exact kit_ty (eq_of_beq k)
theorem callIsi {ty : String} (hty : ty ∈ tyNames) : CallR X (.builtin "isinstance") (fun vs H Q => ∃ x S ρ st a, vs = [x, .ty ty] ∧ Sta X.K S ρ H st ∧ Rw X.K H0 S ρ H x a ∧ Wp X.K S ρ H P0 (fun w _ S' ρ' H' => ∀ v, Rw X.K H0 S' ρ' H' v w → Q v H') (isiW a ty st)) := by
  intro pins s σ H vs us Q I r h
  obtain ⟨x, S, ρ, st, a, rfl, hs, r1, h⟩ := h
  unfold isiW at h
  cases ea : tyOf st a with
  | none => rw [ea] at h; exact False.elim h
  | some t =>
    rw [ea] at h
    exact call_isi pins s σ H _ us Q I r ⟨x, .ty ty, .type t, .type ty, _, rfl, .ty ty, tyX_of hs r1 ea, kit_is (tyOf_mem ea) hty, Wp.bool hs h⟩
end
end Zd
end
section
set_option Elab.async false
set_option linter.all false
set_option maxRecDepth 100000
set_option maxHeartbeats 2000000
/-! Zd4: readings; expressions, each by its parts. -/
namespace Zd
open PySem PySem.Spec L2
open PyProof.Rows hiding St

/-! ### readings -/
section
variable (K : PySem.W.Frag) (H0 : Hp) (P : PX)
abbrev qV (Q : VK) : W → Store → AS → List Addr → Hp → Prop := fun w _ S ρ H => ∀ v, Rw K H0 S ρ H v w → Q v H
def rdV (f : Nv → M W) : TE := fun σ H Q => ∃ S ρ st e, Sta K S ρ H st ∧ Re K H0 S ρ H σ e ∧ Wp K S ρ H P (qV K H0 Q) (f e st)
def rdB (f : Nv → M Bool) : TT := fun σ H Q => ∃ S ρ st e, Sta K S ρ H st ∧ Re K H0 S ρ H σ e ∧ Wp K S ρ H P (fun k _ _ _ H' => Q k H') (f e st)
/-- a new list -/
def rdN (f : Nv → M W) : TE := fun σ H Q => ∃ S ρ st e, Sta K S ρ H st ∧ Re K H0 S ρ H σ e ∧ Wp K S ρ H P (fun w st' S' ρ' H' => ∀ a vs ps, w = .d (.list ps) → H a = none → ¬ S' a → a ∉ ρ' → H' a = some (.lst vs) → Sta K (fun b => S' b ∨ b = a) ρ' H' st' → Rps K (fun b => S' b ∨ b = a) H' vs ps → Q (.ref a) H') (f e st)
/-- arguments; a display's items -/
def rdA (f : Nv → M (List W)) : TA := fun σ H Q => ∃ S ρ st e, Sta K S ρ H st ∧ Re K H0 S ρ H σ e ∧ Wp K S ρ H P (fun ws _ S' ρ' H' => ∀ vs, Rws K H0 S' ρ' H' vs ws → Q vs H') (f e st)
def rdD (f : Nv → M (List PyData)) : TA := fun σ H Q => ∃ S ρ st e, Sta K S ρ H st ∧ Re K H0 S ρ H σ e ∧ Wp K S ρ H P (fun ps _ S' ρ' H' => ∀ vs, Rps K S' H' vs ps → Q vs H') (f e st)
/-- J walks ps, from (S, H) on -/
def Wlk (S : AS) (H : Hp) (J : It) (ps : List PyData) : Prop := ∀ S' H', Grow K S H S' H' → (∀ a, S' a → ∃ xs, H' a = some (.lst xs)) → ∀ i, (ps.length ≤ i → J.stop i H') ∧
  ∀ p, ps[i]? = some p → J.go i H' ∧ ∀ x H'', J.yld i H' x H'' → (H'' = H' ∧ Rp K S' H' x p) ∨ ∃ T o, H' T = none ∧ H'' = upd H' T o ∧ Rp K S' H'' x p
def rdI (f : Nv → M (List PyData)) : TI := fun σ H R => ∃ S ρ st e, Sta K S ρ H st ∧ Re K H0 S ρ H σ e ∧ Wp K S ρ H P (fun ps _ S' ρ' H' => ∀ J, Wlk K S' H' J ps → R J H') (f e st)
end
theorem peImp {X : Cx} {e : Expr} {t t' : TE} (h : PE X e t) (f : ∀ σ H Q, t' σ H Q → t σ H Q) : PE X e t' := ⟨fun pins s σ H Q I q => h.run pins s σ H Q I (f _ _ _ q)⟩
theorem ptImp {X : Cx} {e : Expr} {t t' : TT} (h : PT X e t) (f : ∀ σ H Q, t' σ H Q → t σ H Q) : PT X e t' := ⟨fun pins s σ H Q I q => h.run pins s σ H Q I (f _ _ _ q)⟩
theorem pwImp {X : Cx} {e : Expr} {t t' : TT} (h : PW X e t) (f : ∀ σ H Q, t' σ H Q → t σ H Q) : PW X e t' := ⟨fun wh pins s σ H Q I q => h.run wh pins s σ H Q I (f _ _ _ q)⟩
theorem paImp {X : Cx} {es : List Expr} {t t' : TA} (h : PA X es t) (f : ∀ σ H Q, t' σ H Q → t σ H Q) : PA X es t' := ⟨fun p pins s σ H Q I q => h.run p pins s σ H Q I (f _ _ _ q)⟩
theorem piImp {X : Cx} {tg e : Expr} {t t' : TI} (h : PI X tg e t) (f : ∀ σ H Q, t' σ H Q → t σ H Q) : PI X tg e t' := ⟨fun pins s σ H Q I q => h.run pins s σ H Q I (f _ _ _ q)⟩

section
variable {K : PySem.W.Frag} {H0 : Hp} {P : PX} {S : AS} {ρ : List Addr} {H : Hp} {st : Store} {σ : St} {e : Nv} {β : Type} {QQ : β → Store → AS → List Addr → Hp → Prop}
/-- what the parts of an operation come to -/
theorem seq2 {f g : Nv → M W} {k : W → W → M β} (hs : Sta K S ρ H st) (he : Re K H0 S ρ H σ e) (h : Wp K S ρ H P QQ (bd (f e) (fun x => bd (g e) fun y => k x y) st)) {R : V → V → Hp → Prop}
    (hR : ∀ x y H2 S2 ρ2 st2 a b, Sta K S2 ρ2 H2 st2 → Re K H0 S2 ρ2 H2 σ e → Rw K H0 S2 ρ2 H2 x a → Rw K H0 S2 ρ2 H2 y b → Wp K S2 ρ2 H2 P QQ (k a b st2) → R x y H2) :
    rdV K H0 P f σ H fun x H1 => rdV K H0 P g σ H1 fun y H2 => R x y H2 :=
  ⟨S, ρ, st, e, hs, he, (Wp.bd hs h).mono fun a st1 S1 ρ1 H1 x1 s1 q1 v rv => ⟨S1, ρ1, st1, e, s1, he.ext x1 hs, (Wp.bd s1 q1).mono fun b st2 S2 ρ2 H2 x2 s2 q2 u ru => hR v u H2 S2 ρ2 st2 a b s2 ((he.ext x1 hs).ext x2 s1) (rv.ext x2 s1) ru q2⟩⟩
theorem seq1 {f : Nv → M W} {k : W → M β} (hs : Sta K S ρ H st) (he : Re K H0 S ρ H σ e) (h : Wp K S ρ H P QQ (bd (f e) k st)) {R : V → Hp → Prop}
    (hR : ∀ x H2 S2 ρ2 st2 a, Ext K S ρ H S2 ρ2 H2 → Sta K S2 ρ2 H2 st2 → Re K H0 S2 ρ2 H2 σ e → Rw K H0 S2 ρ2 H2 x a → Wp K S2 ρ2 H2 P QQ (k a st2) → R x H2) : rdV K H0 P f σ H R :=
  ⟨S, ρ, st, e, hs, he, (Wp.bd hs h).mono fun a st1 S1 ρ1 H1 x1 s1 q1 v rv => hR v H1 S1 ρ1 st1 a x1 s1 (he.ext x1 hs) rv q1⟩
theorem seqB {f : Nv → M Bool} {k : Bool → M β} (hs : Sta K S ρ H st) (he : Re K H0 S ρ H σ e) (h : Wp K S ρ H P QQ (bd (f e) k st)) {R : Bool → Hp → Prop}
    (hR : ∀ b H2 S2 ρ2 st2, Ext K S ρ H S2 ρ2 H2 → Sta K S2 ρ2 H2 st2 → Re K H0 S2 ρ2 H2 σ e → Wp K S2 ρ2 H2 P QQ (k b st2) → R b H2) : rdB K H0 P f σ H R :=
  ⟨S, ρ, st, e, hs, he, (Wp.bd hs h).mono fun a st1 S1 ρ1 H1 x1 s1 q1 => hR a H1 S1 ρ1 st1 x1 s1 (he.ext x1 hs) q1⟩
end
section
variable {X : Cx} {H0 : Hp} {P : PX} {a b c : Expr} {f g h : Nv → M W} {pos : Pos}

/-! ### names, constants -/
theorem zVar {i : Nat} {x : Str} (hN : X.N[i]? = some x) (hv : Vis X.env.scope x) (hd : (x == ("__debug__" : Str)) = false) (hcd : (x == ("__classdict__" : Str)) = false) :
    PE X (.Name x pos) (rdV X.K H0 P (varM i)) := peImp (pe_var hN hv hd hcd) fun σ H Q ⟨S, ρ, st, e, hs, he, h⟩ => by
  unfold varM at h
  cases ei : e[i]? with
  | none => rw [ei] at h; exact False.elim h
  | some o =>
    cases o with
    | none => rw [ei] at h; exact False.elim h
    | some w =>
      rw [ei] at h
      obtain ⟨v, e1, r⟩ := he.at_ i w ei
      exact ⟨v, e1, Wp.now hs h v r⟩
/-- constants -/
theorem zCst {x : Expr} {v : V} {p : PyData} (h : PE X x (tC v)) (r : ∀ S H, Rp X.K S H v p) : PE X x (rdV X.K H0 P fun _ => ret (.d p)) :=
  peImp h fun σ H Q ⟨S, ρ, st, e, hs, he, q⟩ => Wp.now hs q v (r S H)

/-! ### operators -/
theorem zBin {op : Operator} (ha : PE X a (rdV X.K H0 P f)) (hb : PE X b (rdV X.K H0 P g)) : PE X (.BinOp a op b pos) (rdV X.K H0 P fun e => bd (f e) fun x => bd (g e) fun y => binW op x y) :=
  peImp (pe_op (opW op) ha hb) fun σ H Q ⟨S, ρ, st, e, hs, he, h⟩ => seq2 hs he h fun x y H2 S2 ρ2 st2 a b s2 _ r1 r2 q => ⟨S2, ρ2, st2, a, b, s2, r1, r2, q⟩
theorem zNeg (ha : PE X a (rdV X.K H0 P f)) : PE X (.UnaryOp .USub a pos) (rdV X.K H0 P fun e => bd (f e) negW) :=
  peImp (pe_un un_neg ha) fun σ H Q ⟨S, ρ, st, e, hs, he, h⟩ => seq1 hs he h fun x H2 S2 ρ2 st2 a _ s2 _ r q => by
    unfold negW at q
    cases ea : intv a with
    | none => rw [ea] at q; exact False.elim q
    | some i =>
      rw [ea] at q
      exact ⟨i, r.int ea, Wp.int s2 q⟩
theorem wp_bool {K : PySem.W.Frag} {S : AS} {ρ : List Addr} {H : Hp} {st : Store} {m : M Bool} {Q : VK} (hs : Sta K S ρ H st) (h : Wp K S ρ H P (qV K H0 Q) (bd m Zd.bool st)) : Wp K S ρ H P (fun k _ _ _ H' => Q (.bl k) H') (m st) :=
  (Wp.bd hs h).mono fun k st' S' ρ' H' x s q => Wp.bool s q
theorem zCmp (hu : X.A.units + 64 < cLine) {op : CmpOp} (ha : PE X a (rdV X.K H0 P f)) (hb : PE X b (rdV X.K H0 P g)) (hm : behindInMarks op b = false) : PE X (.Compare a [op] [b] pos) (rdV X.K H0 P fun e => bd (bd (f e) fun x => bd (g e) fun y => cmpB op x y) Zd.bool) :=
  peImp (pe_cmpR (opB (H0 := H0) (P0 := P) hu op) ha hb hm) fun σ H Q ⟨S, ρ, st, e, hs, he, h⟩ =>
    seq2 hs he (wp_bool hs h) fun x y H2 S2 ρ2 st2 a b s2 _ r1 r2 q => ⟨S2, ρ2, st2, a, b, s2, r1, r2, q⟩
theorem zCmpT (hu : X.A.units + 64 < cLine) {op : CmpOp} (ha : PE X a (rdV X.K H0 P f)) (hb : PE X b (rdV X.K H0 P g)) (hm : behindInMarks op b = false) : PT X (.Compare a [op] [b] pos) (rdB X.K H0 P fun e => bd (f e) fun x => bd (g e) fun y => cmpB op x y) :=
  ptImp (pt_cmpR (opB (H0 := H0) (P0 := P) hu op) ha hb hm) fun σ H Q ⟨S, ρ, st, e, hs, he, h⟩ =>
    seq2 hs he h fun x y H2 S2 ρ2 st2 a b s2 _ r1 r2 q => ⟨S2, ρ2, st2, a, b, s2, r1, r2, q.mono fun k _ _ _ _ _ _ q => ⟨k, rfl, q⟩⟩
theorem chain_of {K : PySem.W.Frag} {S : AS} {ρ : List Addr} {H : Hp} {st : Store} {σ : St} {e : Nv} {op op' : CmpOp} {Q : Bool → Hp → Prop} (hs : Sta K S ρ H st) (he : Re K H0 S ρ H σ e)
    (q : Wp K S ρ H P (fun k _ _ _ H' => Q k H') (bd (f e) (fun x => bd (g e) fun y => bd (cmpB op x y) fun k => match k with
      | true => bd (h e) fun z => cmpB op' y z
      | false => ret false) st)) {QQ : VK} (hq : ∀ k H, Q k H → QQ (.bl k) H) : tChain (r2B K H0 P (cmpB op)) (r2B K H0 P (cmpB op')) (rdV K H0 P f) (rdV K H0 P g) (rdV K H0 P h) σ H QQ :=
  seq2 hs he q fun x y H2 S2 ρ2 st2 a b s2 e2 r1 r2 q => ⟨S2, ρ2, st2, a, b, s2, r1, r2, (Wp.bd s2 q).mono fun k st3 S3 ρ3 H3 x3 s3 q3 => ⟨k, rfl, by
    cases k with
    | false => exact hq _ _ (Wp.now s3 q3)
    | true => exact seq1 s3 (e2.ext x3 s2) q3 fun z H4 S4 ρ4 st4 c x4 s4 _ r4 q4 => ⟨S4, ρ4, st4, b, c, s4, (r2.ext x3 s2).ext x4 s3, r4, q4.mono fun k _ _ _ _ _ _ q => hq _ _ q⟩⟩⟩
theorem zChain (hu : X.A.units + 64 < cLine) {op op' : CmpOp} (ha : PE X a (rdV X.K H0 P f)) (hb : PE X b (rdV X.K H0 P g)) (hc : PE X c (rdV X.K H0 P h)) (hm : lastMarks [op, op'] [b, c] = false) :
    PE X (.Compare a [op, op'] [b, c] pos) (rdV X.K H0 P fun e => bd (bd (f e) fun x => bd (g e) fun y => bd (cmpB op x y) fun k => match k with
      | true => bd (h e) fun z => cmpB op' y z
      | false => ret false) Zd.bool) :=
  peImp (pe_chain (opB (H0 := H0) (P0 := P) hu op) (opB (H0 := H0) (P0 := P) hu op') ha hb hc hm) fun σ H Q ⟨S, ρ, st, e, hs, he, q⟩ => chain_of hs he (wp_bool hs q) fun _ _ q => q
theorem zChainT (hu : X.A.units + 64 < cLine) {op op' : CmpOp} (ha : PE X a (rdV X.K H0 P f)) (hb : PE X b (rdV X.K H0 P g)) (hc : PE X c (rdV X.K H0 P h)) (hm : lastMarks [op, op'] [b, c] = false) :
    PT X (.Compare a [op, op'] [b, c] pos) (rdB X.K H0 P fun e => bd (f e) fun x => bd (g e) fun y => bd (cmpB op x y) fun k => match k with
      | true => bd (h e) fun z => cmpB op' y z
      | false => ret false) :=
  ptImp (pt_chain (opB (H0 := H0) (P0 := P) hu op) (opB (H0 := H0) (P0 := P) hu op') ha hb hc hm) fun σ H Q ⟨S, ρ, st, e, hs, he, q⟩ => chain_of hs he q fun k _ q => ⟨k, rfl, q⟩

/-! ### truth -/
theorem truV {K : PySem.W.Frag} {S : AS} {ρ : List Addr} {H : Hp} {st : Store} {v : V} {w : W} {k : Bool} (hs : Sta K S ρ H st) (r : Rw K H0 S ρ H v w) (h : truth st w = some k) : TruV K v H k := by
  have emp : ∀ {vs : List V} {ds : List PyData}, Rps K S H vs ds → vs.isEmpty = ds.isEmpty := fun r => by cases r <;> rfl
  have lists : ∀ xs, lstv st w = some xs → k = !xs.isEmpty → TruV K v H k := fun xs e ek => by
    obtain ⟨a, vs, rfl, q, rs⟩ := r.lst hs e
    exact .inl ⟨vs, SqL.of q, by rw [emp rs]; exact ek⟩
  cases w with
  | d p =>
    cases p <;> first | cases h | skip
    · cases (show Rp K S H v .none from r); exact rfl
    · cases (show Rp K S H v (.bool _) from r); exact rfl
    · cases (show Rp K S H v (.int _) from r); exact rfl
    · exact lists _ rfl rfl
    · obtain ⟨a, vs, rfl, q, rs⟩ := r.tup rfl
      exact .inr (.inl ⟨vs, q, by rw [emp rs]⟩)
  | own ps => cases h; exact lists _ rfl rfl
  | box n =>
    have h' : (st[n]?).map (fun xs => !xs.isEmpty) = some k := h
    cases e : st[n]? with
    | none => rw [e] at h'; cases h'
    | some xs =>
      rw [e] at h'
      cases h'
      exact lists xs e rfl
  | rd ps =>
    cases h
    obtain ⟨a, vs, rfl, q, rs⟩ := r
    refine .inl ⟨vs, ?_, by rw [emp rs]⟩
    rcases q with ⟨_, q⟩ | q
    · exact .inl q
    · exact .inr q
theorem zTru (ha : PE X a (rdV X.K H0 P f)) (ht : ∀ whole, isTrue a X.env whole = (do let v ← whole; standAt a.pos; holding [v] (truthy v))) : PT X a (rdB X.K H0 P fun e => bd (f e) truthM) :=
  ptImp (pt_truth ha ht) fun σ H Q ⟨S, ρ, st, e, hs, he, h⟩ => seq1 hs he h fun x H2 S2 ρ2 st2 w _ s2 _ r q => by
    have q' : Wp X.K S2 ρ2 H2 P (fun k _ _ _ H' => Q k H') (Zd.opt (truth st2 w) st2) := q
    cases ek : truth st2 w with
    | none => rw [ek] at q'; exact False.elim q'
    | some k =>
      rw [ek] at q'
      exact ⟨k, truV s2 r ek, Wp.now s2 q'⟩
/-- a value that is a bool -/
theorem wp_asB {K : PySem.W.Frag} {S : AS} {ρ : List Addr} {H : Hp} {st : Store} {w : W} {v : V} {β : Type} {QQ : β → Store → AS → List Addr → Hp → Prop} {m : Bool → M β} (hs : Sta K S ρ H st) (r : Rw K H0 S ρ H v w) (h : Wp K S ρ H P QQ (bd (asB w) m st)) :
    ∃ k, v = .bl k ∧ Wp K S ρ H P QQ (m k st) := by
  cases w with
  | d p =>
    cases p <;> first | exact False.elim h | skip
    cases (show Rp K S H v (.bool _) from r)
    exact ⟨_, rfl, h⟩
  | _ => exact False.elim h
theorem zAnd {rest : List Expr} (ha : PE X a (rdV X.K H0 P f)) (hb : PE X (.BoolOp .And (b :: rest) pos) (rdV X.K H0 P g)) : PE X (.BoolOp .And (a :: b :: rest) pos) (rdV X.K H0 P fun e => bd (f e) fun x => bd (asB x) fun k => match k with
      | true => g e
      | false => Zd.bool false) :=
  peImp (pe_and ha hb) fun σ H Q ⟨S, ρ, st, e, hs, he, h⟩ => seq1 hs he h fun x H2 S2 ρ2 st2 w _ s2 e2 r q => by
    obtain ⟨k, e1, q⟩ := wp_asB s2 r q
    refine ⟨k, e1, ?_⟩
    cases k with
    | true => exact ⟨S2, ρ2, st2, e, s2, e2, q⟩
    | false => exact Wp.bool s2 q
theorem zOr {rest : List Expr} (ha : PE X a (rdV X.K H0 P f)) (hb : PE X (.BoolOp .Or (b :: rest) pos) (rdV X.K H0 P g)) : PE X (.BoolOp .Or (a :: b :: rest) pos) (rdV X.K H0 P fun e => bd (f e) fun x => bd (asB x) fun k => match k with
      | true => Zd.bool true
      | false => g e) :=
  peImp (pe_or ha hb) fun σ H Q ⟨S, ρ, st, e, hs, he, h⟩ => seq1 hs he h fun x H2 S2 ρ2 st2 w _ s2 e2 r q => by
    obtain ⟨k, e1, q⟩ := wp_asB s2 r q
    refine ⟨k, e1, ?_⟩
    cases k with
    | false => exact ⟨S2, ρ2, st2, e, s2, e2, q⟩
    | true => exact Wp.bool s2 q
theorem zAndT {rest : List Expr} {f g : Nv → M Bool} (ha : PT X a (rdB X.K H0 P f)) (hb : PW X (.BoolOp .And (b :: rest) pos) (rdB X.K H0 P g)) : PW X (.BoolOp .And (a :: b :: rest) pos) (rdB X.K H0 P fun e => bd (f e) fun k => match k with
      | true => g e
      | false => ret false) :=
  pwImp (pw_and ha hb) fun σ H Q ⟨S, ρ, st, e, hs, he, h⟩ => seqB hs he h fun k H2 S2 ρ2 st2 _ s2 e2 q => by
    cases k with
    | true => exact ⟨S2, ρ2, st2, e, s2, e2, q⟩
    | false => exact Wp.now s2 q
theorem zOrT {rest : List Expr} {f g : Nv → M Bool} (ha : PT X a (rdB X.K H0 P f)) (hb : PW X (.BoolOp .Or (b :: rest) pos) (rdB X.K H0 P g)) : PW X (.BoolOp .Or (a :: b :: rest) pos) (rdB X.K H0 P fun e => bd (f e) fun k => match k with
      | true => ret true
      | false => g e) :=
  pwImp (pw_or ha hb) fun σ H Q ⟨S, ρ, st, e, hs, he, h⟩ => seqB hs he h fun k H2 S2 ρ2 st2 _ s2 e2 q => by
    cases k with
    | false => exact ⟨S2, ρ2, st2, e, s2, e2, q⟩
    | true => exact Wp.now s2 q
theorem zNotT {f : Nv → M Bool} (ha : PT X a (rdB X.K H0 P f)) : PT X (.UnaryOp .Not a pos) (rdB X.K H0 P fun e => bd (f e) fun k => ret (!k)) :=
  ptImp (pt_not ha) fun σ H Q ⟨S, ρ, st, e, hs, he, h⟩ => seqB hs he h fun k H2 S2 ρ2 st2 _ s2 e2 q => Wp.now s2 q
theorem zIf {t : Nv → M Bool} (hc : PT X c (rdB X.K H0 P t)) (ha : PE X a (rdV X.K H0 P f)) (hb : PE X b (rdV X.K H0 P g)) : PE X (.IfExp c a b pos) (rdV X.K H0 P fun e => bd (t e) fun k => match k with
      | true => f e
      | false => g e) :=
  peImp (pe_ifExp hc ha hb) fun σ H Q ⟨S, ρ, st, e, hs, he, h⟩ => seqB hs he h fun k H2 S2 ρ2 st2 _ s2 e2 q => by
    cases k with
    | true => exact ⟨S2, ρ2, st2, e, s2, e2, q⟩
    | false => exact ⟨S2, ρ2, st2, e, s2, e2, q⟩

/-! ### items, slices -/
theorem zSub (ha : PE X a (rdV X.K H0 P f)) (hb : PE X b (rdV X.K H0 P g)) (hp : PlainIx b) : PE X (.Subscript a b pos) (rdV X.K H0 P fun e => bd (f e) fun x => bd (g e) fun y => subW x y) :=
  peImp (pe_ix (ixW (P0 := P)) ha hb hp) fun σ H Q ⟨S, ρ, st, e, hs, he, h⟩ => seq2 hs he h fun x y H2 S2 ρ2 st2 a b s2 _ r1 r2 q => ⟨S2, ρ2, st2, a, b, s2, r1, r2, q⟩
/-- a part of a slice -/
def rdO (K : PySem.W.Frag) (H0 : Hp) (P : PX) (f : Nv → M (Option Int)) : TO := fun σ H Q => ∃ S ρ st e, Sta K S ρ H st ∧ Re K H0 S ρ H σ e ∧ Wp K S ρ H P (fun o _ _ _ H' => Q o H') (f e st)
theorem zNoPart : PO X none (rdO X.K H0 P fun _ => ret none) := by
  refine ⟨fun pins s σ H Q I ⟨S, ρ, st, e, hs, he, h⟩ => po_none.run pins s σ H Q I ?_⟩
  exact Wp.now hs h
theorem zPart (ha : PE X a (rdV X.K H0 P f)) : PO X (some a) (rdO X.K H0 P fun e => bd (f e) partW) := by
  refine ⟨fun pins s σ H Q I ⟨S, ρ, st, e, hs, he, h⟩ => (po_some ha).run pins s σ H Q I (seq1 hs he h fun x H2 S2 ρ2 st2 w _ s2 e2 r q => ?_)⟩
  unfold partW at q
  cases ei : intv w with
  | none => rw [ei] at q; exact False.elim q
  | some i =>
    rw [ei] at q
    exact ⟨i, r.int ei, Wp.now s2 q⟩
theorem zSlice {lo hi : Option Expr} {l u : Nv → M (Option Int)} {p2 : Pos} (ha : PE X a (rdV X.K H0 P f)) (hl : PO X lo (rdO X.K H0 P l)) (hu : PO X hi (rdO X.K H0 P u)) :
    PE X (.Subscript a (.Slice lo hi none p2) pos) (rdV X.K H0 P fun e => bd (f e) fun x => bd (l e) fun l => bd (u e) fun h => sliceV x l h) :=
  peImp (pe_slice (slW (H0 := H0) (P0 := P)) ha hl hu) fun σ H Q ⟨S, ρ, st, e, hs, he, h⟩ => seq1 hs he h fun x H2 S2 ρ2 st2 w _ s2 e2 r q =>
    ⟨S2, ρ2, st2, e, s2, e2, (Wp.bd s2 q).mono fun o st3 S3 ρ3 H3 x3 s3 q3 => ⟨S3, ρ3, st3, e, s3, e2.ext x3 s2, (Wp.bd s3 q3).mono fun o2 st4 S4 ρ4 H4 x4 s4 q4 =>
      ⟨S4, ρ4, st4, w, s4, (r.ext x3 s2).ext x4 s3, q4⟩⟩⟩
end
end Zd
end
section
set_option Elab.async false
set_option linter.all false
set_option maxRecDepth 100000
set_option maxHeartbeats 2000000
/-! Zd5: displays, calls. -/
namespace Zd
open PySem PySem.Spec L2
open PyProof.Rows hiding St

/-! ### the text's shape -/
def plainE : Expr → Bool
  | .Starred _ _ => false
  | .Slice _ _ _ _ => false
  | _ => true
theorem starEach_plain {e : Expr} {es : List Expr} {env : Env} (h : plainE e = true) : starEach (e :: es) env = (false, eval e env) :: starEach es env := by
  cases e <;> first | rfl | cases h
theorem backTo_any {es : List Expr} {env : Env} {pos : Pos} (h : es.all plainE = true) : (backTo pos (starEach es env)).any (·.1) = false := by
  induction es with
  | nil => rfl
  | cons e es ih =>
    rw [List.all_cons, Bool.and_eq_true] at h
    rw [starEach_plain h.1]
    show (false || (backTo pos (starEach es env)).any (·.1)) = false
    rw [ih h.2]
    rfl
theorem plainIx {b : Expr} (h : plainE b = true) : PlainIx b := fun o i => by
  cases b <;> first | rfl | cases h
/-- an expression whose test is its value's truth -/
def truE : Expr → Bool
  | .UnaryOp .Not _ _ => false
  | .BoolOp _ _ _ => false
  | .IfExp _ _ _ _ => false
  | .Compare _ _ _ _ => false
  | _ => true
theorem truE_is {e : Expr} {env : Env} (h : truE e = true) (whole : Sem Value) : isTrue e env whole = (do let v ← whole; standAt e.pos; holding [v] (truthy v)) := by
  cases e with
  | UnaryOp op x p => cases op <;> first | rfl | cases h
  | BoolOp => cases h
  | IfExp => cases h
  | Compare => cases h
  | _ => rfl

/-! ### rows of values -/
section
variable {X : Cx} {H0 : Hp} {P : PX} {e : Expr} {es : List Expr} {f : Nv → M W} {pos : Pos}
theorem Rps.ext {K : PySem.W.Frag} {S S' : AS} {ρ ρ' : List Addr} {H H' : Hp} {st : Store} {vs : List V} {ps : List PyData} (x : Ext K S ρ H S' ρ' H') (s : Sta K S ρ H st) (r : Rps K S H vs ps) : Rps K S' H' vs ps := Rps.grow (x.grow s) r
theorem zNilA : PA X [] (rdA X.K H0 P fun _ => ret []) := paImp pa_nil fun σ H Q ⟨S, ρ, st, e, hs, he, h⟩ => Wp.now hs h [] .nil
theorem zNilD : PA X [] (rdD X.K H0 P fun _ => ret []) := paImp pa_nil fun σ H Q ⟨S, ρ, st, e, hs, he, h⟩ => Wp.now hs h [] .nil
theorem zConsA {g : Nv → M (List W)} (he : PE X e (rdV X.K H0 P f)) (hr : PA X es (rdA X.K H0 P g)) (hp : plainE e = true) : PA X (e :: es) (rdA X.K H0 P fun v => bd (f v) fun w => bd (g v) fun ws => ret (w :: ws)) :=
  paImp (pa_cons he hr (starEach_plain hp)) fun σ H Q ⟨S, ρ, st, e, hs, he, h⟩ => seq1 hs he h fun x H2 S2 ρ2 st2 w _ s2 e2 r q =>
    ⟨S2, ρ2, st2, e, s2, e2, (Wp.bd s2 q).mono fun ws st3 S3 ρ3 H3 x3 s3 q3 vs rs => Wp.now s3 q3 _ (.cons (r.ext x3 s2) rs)⟩
theorem Rw.pure {K : PySem.W.Frag} {S : AS} {ρ : List Addr} {H : Hp} {st : Store} {v : V} {w : W} {β : Type} {QQ : β → Store → AS → List Addr → Hp → Prop} {k : PyData → M β} (r : Rw K H0 S ρ H v w) (h : Wp K S ρ H P QQ (bd (pureW w) k st)) :
    ∃ p, w = .d p ∧ Rp K S H v p ∧ Wp K S ρ H P QQ (k p st) := by
  cases w with
  | d p => exact ⟨p, rfl, r, h⟩
  | _ => exact False.elim h
theorem zConsD {g : Nv → M (List PyData)} (he : PE X e (rdV X.K H0 P f)) (hr : PA X es (rdD X.K H0 P g)) (hp : plainE e = true) : PA X (e :: es) (rdD X.K H0 P fun v => bd (f v) fun w => bd (pureW w) fun p => bd (g v) fun ps => ret (p :: ps)) :=
  paImp (pa_cons he hr (starEach_plain hp)) fun σ H Q ⟨S, ρ, st, e, hs, he, h⟩ => seq1 hs he h fun x H2 S2 ρ2 st2 w _ s2 e2 r q => by
    obtain ⟨p, rfl, rp, q⟩ := r.pure q
    exact ⟨S2, ρ2, st2, e, s2, e2, (Wp.bd s2 q).mono fun ps st3 S3 ρ3 H3 x3 s3 q3 vs rs => Wp.now s3 q3 _ (.cons (Rp.grow (x3.grow s2) rp) rs)⟩
/-- a sequence that is walked -/
theorem seq_items {K : PySem.W.Frag} {S : AS} {ρ : List Addr} {H : Hp} {st : Store} {v : V} {w : W} {β : Type} {QQ : β → Store → AS → List Addr → Hp → Prop} {k : List PyData → M β} (hs : Sta K S ρ H st) (r : Rw K H0 S ρ H v w) (h : Wp K S ρ H P QQ (bd (itemsM w) k st)) :
    ∃ a vs ps, v = .ref a ∧ ((∃ x, w = .d x ∧ ¬ S a ∧ H a = some (.lst vs)) ∨ (¬ S a ∧ Rd H a (.lst vs)) ∨ KL K a vs ∨ SqT K H a vs) ∧ Rps K S H vs ps ∧ Wp K S ρ H P QQ (k ps st) := by
  cases w with
  | d p =>
    cases p <;> first | exact False.elim h | skip
    · cases (show Rp K S H v (.list _) from r) with
      | lst n q rs => exact ⟨_, _, _, rfl, .inl ⟨_, rfl, n, q⟩, rs, h⟩
    · obtain ⟨a, vs, rfl, q, rs⟩ := r.tup rfl
      exact ⟨a, vs, _, rfl, .inr (.inr (.inr q)), rs, h⟩
  | rd ps =>
    obtain ⟨a, vs, rfl, q, rs⟩ := r
    refine ⟨a, vs, ps, rfl, ?_, rs, h⟩
    rcases q with q | q
    · exact .inr (.inl q)
    · exact .inr (.inr (.inl q))
  | _ => exact False.elim h
theorem items_back {K : PySem.W.Frag} {S : AS} {ρ : List Addr} {H : Hp} {st : Store} {w : W} {β : Type} {QQ : β → Store → AS → List Addr → Hp → Prop} {k : List PyData → M β} (hs : Sta K S ρ H st)
    (h : Wp K S ρ H P (fun a st' S' ρ' H' => Wp K S' ρ' H' P QQ (k a st')) (itemsM w st)) : Wp K S ρ H P QQ (bd (itemsM w) k st) := by
  cases w with
  | d p => cases p <;> first | exact h | exact Wp.now hs h
  | rd ps => exact Wp.now hs h
  | _ => exact h
theorem zStar {g : Nv → M (List PyData)} {p : Pos} (he : PE X e (rdV X.K H0 P f)) (hr : PA X es (rdD X.K H0 P g)) : PA X (.Starred e p :: es) (rdD X.K H0 P fun v => bd (bd (f v) itemsM) fun ps => bd (g v) fun qs => ret (ps ++ qs)) :=
  paImp (StX.pa_star he hr) fun σ H Q ⟨S, ρ, st, e, hs, he, h⟩ => by
    refine ⟨S, ρ, st, e, hs, he, (Wp.bd hs (Wp.bd hs h)).mono fun w st1 S1 ρ1 H1 x1 s1 q1 v rv => ?_⟩
    have q1' := items_back s1 q1
    obtain ⟨a, vs, ps, rfl, q, rs, q2⟩ := seq_items s1 rv q1'
    refine ⟨a, vs, rfl, ?_, S1, ρ1, st1, e, s1, he.ext x1 hs, (Wp.bd s1 q2).mono fun qs st3 S3 ρ3 H3 x3 s3 q3 us ru => Wp.now s3 q3 _ ((rs.ext x3 s1).append ru)⟩
    rcases q with ⟨_, _, _, q⟩ | ⟨_, q⟩ | q | q
    · exact .inr (SqL.of q)
    · exact .inr (.inl q)
    · exact .inr (.inr q)
    · exact .inl q
/-- displays -/
theorem zTup {n : Nat} {g : Nv → M (List PyData)} (h : PA X es (rdD X.K H0 P g)) : PE X (.Tuple es n pos) (rdV X.K H0 P fun e => bd (g e) fun ps => want (decide (ps.length ≤ line)) (ret (.d (.tuple ps)))) :=
  peImp (pe_tup h) fun σ H Q ⟨S, ρ, st, e, hs, he, h⟩ => ⟨S, ρ, st, e, hs, he, (Wp.bd hs h).mono fun ps st1 S1 ρ1 H1 x1 s1 q1 vs rs => by
    obtain ⟨c, q⟩ := Wp.want q1
    refine ⟨by rw [rs.length, sizeLine_is]; exact of_decide_eq_true c, fun p hp => Wp.newT s1 rs q hp⟩⟩
/-- a new list that may be changed -/
theorem new_mut {K : PySem.W.Frag} {S : AS} {ρ : List Addr} {H : Hp} {st : Store} (s : Sta K S ρ H st) {D : Addr} (hD : H D = none) (vs : List V) : Ext K S ρ H (fun a => S a ∨ a = D) ρ (upd H D (.lst vs)) ∧ Sta K (fun a => S a ∨ a = D) ρ (upd H D (.lst vs)) st := by
  have ne : ∀ {a : Addr} {u : HO}, H a = some u → a ≠ D := fun e z => by rw [z, hD] at e; cases e
  have x : Ext K S ρ H (fun a => S a ∨ a = D) ρ (upd H D (.lst vs)) := by
    refine ⟨⟨[], by simp, fun _ h => nomatch h⟩, fun a h => .inl h, fun a h => ?_, fun a o _ e => by rw [upd_ne (ne e)]; exact e, fun a e => ?_⟩
    · rcases h with h | h
      · exact .inl h
      · rw [h]; exact .inr hD
    · by_cases z : a = D
      · rw [z]; exact hD
      · rw [upd_ne z] at e; exact e
  refine ⟨x, ⟨fun a h => ?_, fun a h => .inl (s.rs a h), s.nd, s.len, fun n a qs h1 h2 => ?_⟩⟩
  · rcases h with h | h
    · obtain ⟨xs, e⟩ := s.sl a h
      exact ⟨xs, by rw [upd_ne (ne e)]; exact e⟩
    · rw [h]; exact ⟨vs, upd_same⟩
  · obtain ⟨us, e, r⟩ := s.bx n a qs h1 h2
    exact ⟨us, by rw [upd_ne (ne e)]; exact e, Rps.grow (x.grow s) r⟩
theorem zLstN {g : Nv → M (List PyData)} (h : PA X es (rdD X.K H0 P g)) : PE X (.List es pos) (rdN X.K H0 P fun e => bd (g e) fun ps => want (decide (ps.length ≤ line)) (ret (.d (.list ps)))) :=
  peImp (pe_lst h) fun σ H Q ⟨S, ρ, st, e, hs, he, h⟩ => ⟨S, ρ, st, e, hs, he, (Wp.bd hs h).mono fun ps st1 S1 ρ1 H1 x1 s1 q1 vs rs => by
    obtain ⟨c, q⟩ := Wp.want q1
    refine ⟨by rw [rs.length, sizeLine_is]; exact of_decide_eq_true c, fun p hp => ?_⟩
    obtain ⟨x2, s2⟩ := new_mut s1 hp vs
    exact q S1 ρ1 _ (.new hp) (s1.new hp) p vs ps rfl (x1.th p hp) (s1.free hp) (fun z => s1.free hp (s1.rs p z)) upd_same s2 (rs.ext x2 s1)⟩
theorem rdN_V {K : PySem.W.Frag} {x : Expr} (h : PE X x (rdN K H0 P f)) : PE X x (rdV K H0 P f) :=
  peImp h fun σ H Q ⟨S, ρ, st, e, hs, he, h⟩ => ⟨S, ρ, st, e, hs, he, h.mono fun w st1 S1 ρ1 H1 x1 s1 q1 a vs ps e1 _ n _ q s2 r => q1 _ (by
    subst e1
    exact Rp.lst n q (Rps.grow ⟨fun b h => .inl (.inl h), fun _ _ _ z => z, s2.sl⟩ r))⟩
/-- a list that stays shared -/
theorem zLstB {g : Nv → M (List PyData)} (h : PA X es (rdD X.K H0 P g)) : PE X (.List es pos) (rdV X.K H0 P fun e => bd (g e) fun ps => want (decide (ps.length ≤ line)) fun st => .ok (.box st.length) (st ++ [ps])) :=
  peImp (pe_lst h) fun σ H Q ⟨S, ρ, st, e, hs, he, h⟩ => ⟨S, ρ, st, e, hs, he, (Wp.bd hs h).mono fun ps st1 S1 ρ1 H1 x1 s1 q1 vs rs => by
    obtain ⟨c, q⟩ := Wp.want q1
    refine ⟨by rw [rs.length, sizeLine_is]; exact of_decide_eq_true c, fun p hp => ?_⟩
    have ns : ¬ S1 p := s1.free hp
    have ne : ∀ {a : Addr} {u : HO}, H1 a = some u → a ≠ p := fun e z => by rw [z, hp] at e; cases e
    have x2 : Ext X.K S1 ρ1 H1 (fun a => S1 a ∨ a = p) (ρ1 ++ [p]) (upd H1 p (.lst vs)) := by
      refine ⟨⟨[p], rfl, fun a h => ?_⟩, fun a h => .inl h, fun a h => ?_, fun a o _ e => by rw [upd_ne (ne e)]; exact e, fun a e => ?_⟩
      · rw [List.mem_singleton.mp h]; exact hp
      · rcases h with h | h
        · exact .inl h
        · rw [h]; exact .inr hp
      · by_cases z : a = p
        · rw [z]; exact hp
        · rw [upd_ne z] at e; exact e
    have np : p ∉ ρ1 := fun z => ns (s1.rs p z)
    have g2 := x2.grow s1
    refine q _ _ _ x2 ⟨fun a h => ?_, fun a h => ?_, ?_, ?_, fun n a qs h1 h2 => ?_⟩ _ ⟨p, ?_, rfl⟩
    · rcases h with h | h
      · obtain ⟨xs, e⟩ := s1.sl a h
        exact ⟨xs, by rw [upd_ne (ne e)]; exact e⟩
      · rw [h]; exact ⟨vs, upd_same⟩
    · rcases List.mem_append.mp h with h | h
      · exact .inl (s1.rs a h)
      · exact .inr (List.mem_singleton.mp h)
    · exact List.nodup_append.mpr ⟨s1.nd, by simp, fun a ha b hb => by rw [List.mem_singleton.mp hb]; exact fun z => np (z ▸ ha)⟩
    · rw [List.length_append, List.length_append, s1.len]; rfl
    · have h2' : (st1 ++ [ps])[n]? = some qs := h2
      by_cases hn : n < ρ1.length
      · rw [List.getElem?_append_left hn] at h1
        rw [List.getElem?_append_left (by rw [← s1.len]; exact hn)] at h2'
        obtain ⟨us, e, r⟩ := s1.bx n a qs h1 h2'
        exact ⟨us, by rw [upd_ne (ne e)]; exact e, Rps.grow g2 r⟩
      · rw [List.getElem?_append_right (by omega)] at h1
        rw [List.getElem?_append_right (by rw [← s1.len]; omega), ← s1.len] at h2'
        have h0 : n - ρ1.length = 0 := by
          have := (List.getElem?_eq_some_iff.mp h1).1
          simpa using this
        rw [h0] at h1 h2'
        cases h1
        cases h2'
        exact ⟨vs, upd_same, Rps.grow g2 rs⟩
    · rw [← s1.len, List.getElem?_append_right (Nat.le_refl _), Nat.sub_self]
      rfl⟩
end

/-! ### built-ins by name -/
theorem boot_of {f : Bf} (h : f ≠ .gcd) : bootBuiltins f.nm = some f.val := by
  cases f <;> first | decide +kernel | exact absurd rfl h
def BltOk (X : Cx) (f : Bf) : Prop := Gl X f.nm ∧ ((f ≠ .gcd ∧ X.mg f.nm = none) ∨ (f = .gcd ∧ X.mg f.nm = some f.val))
section
variable {X : Cx} {H0 : Hp} {P : PX} {e : Expr} {es : List Expr} {f : Nv → M W} {pos p : Pos} {g : Nv → M (List W)}
theorem zBlt {b : Bf} (nb : X.base.NoDigits) (hb : BltOk X b) (hc : X.calm = true) (hg : X.A.guards = some []) (hu : X.A.units + 200 < cLine) (ha : PA X (e :: es) (rdA X.K H0 P g)) (h1 : plainE e = true) (h2 : es.all plainE = true) :
    PE X (.Call (.Name b.nm p) (e :: es) [] pos) (rdV X.K H0 P fun v => bd (g v) fun ws => bltW b ws) := by
  have imp : ∀ σ H Q, rdV X.K H0 P (fun v => bd (g v) fun ws => bltW b ws) σ H Q → tCB (rNW X.K H0 P (bltW b)) (rdA X.K H0 P g) σ H Q := fun σ H Q ⟨S, ρ, st, e, hs, he, h⟩ =>
    ⟨S, ρ, st, e, hs, he, (Wp.bd hs h).mono fun ws st1 S1 ρ1 H1 x1 s1 q1 vs rs => ⟨S1, ρ1, st1, ws, s1, rs, q1⟩⟩
  have hdb : (b.nm == ("__debug__" : Str)) = false := by cases b <;> decide +kernel
  have hn : b.nm ≠ "__name__" := by cases b <;> decide +kernel
  have k := callW (H0 := H0) (P0 := P) nb hc hg hu b
  obtain ⟨hgl, hm⟩ := hb
  rcases hm with ⟨ne, hm⟩ | ⟨eg, hm⟩
  · have hv := boot_of ne
    refine peImp ?_ imp
    cases b <;> first
      | exact pe_callB k hgl hm hv ha hn hdb (starEach_plain h1) (backTo_any h2)
      | exact pe_callTy k hgl hm hv ha hn hdb (starEach_plain h1) (backTo_any h2)
      | exact absurd rfl ne
  · subst eg
    refine peImp (t := tCB (rNW X.K H0 P (bltW .gcd)) (rdA X.K H0 P g)) ⟨fun pins s σ H Q I h => ?_⟩ imp
    refine wpAny_Call_Name_kw (ld_glob I hgl hm ?_ hdb)
    exact PyProof.Rows.callWith_builtin1 (thn (ha.run pos pins s σ H _ I h) fun us s1 ⟨vs, H1, I1, r1, q1⟩ => k pins s1 σ H1 vs us Q I1 r1 q1) (starEach_plain h1) (backTo_any h2)
theorem zIsi {a : Expr} {ty : String} {q : Pos} (hty : ty ∈ tyNames) (hgl : Gl X "isinstance") (hm : X.mg "isinstance" = none) (ha : PE X a (rdV X.K H0 P f)) (hp : plainE a = true) (ht : PE X (.Name ty q) (tC (.ty ty))) :
    PE X (.Call (.Name "isinstance" p) [a, .Name ty q] [] pos) (rdV X.K H0 P fun e => bd (f e) fun x => isiW x ty) :=
  peImp (pe_callB (callIsi (P0 := P) (H0 := H0) hty) hgl hm boot_isinstance (pa_cons ha (pa_cons ht pa_nil) (starEach_plain hp)) (by decide) (by decide) (starEach_plain hp) rfl) fun σ H Q ⟨S, ρ, st, e, hs, he, h⟩ =>
    seq1 hs he h fun x H2 S2 ρ2 st2 w _ s2 e2 r q => ⟨x, S2, ρ2, st2, w, rfl, s2, r, q⟩

/-! ### calls of defs -/
/-- a value that may be handed on -/
def Rx (K : PySem.W.Frag) (S : AS) (ρ : List Addr) (H : Hp) (v : V) : W → Prop
  | .own _ => False
  | w => Rw K (fun _ => none) S ρ H v w
theorem Rx.rw {K : PySem.W.Frag} {S : AS} {ρ : List Addr} {H : Hp} {v : V} {w : W} (r : Rx K S ρ H v w) : Rw K H0 S ρ H v w := by
  cases w with
  | own _ => exact False.elim r
  | _ => exact r
theorem Rw.rx {K : PySem.W.Frag} {S : AS} {ρ : List Addr} {H : Hp} {v : V} {w : W} (r : Rw K H0 S ρ H v w) (h : isOwn w = false) : Rx K S ρ H v w := by
  cases w with
  | own _ => cases h
  | _ => exact r
def pX (E : XK) : PX := fun _ _ _ _ _ => False
/-- a def's promise -/
def spD (K : PySem.W.Frag) (n : Nat) (F : List W → M W) : Sp := fun vs H Q E => vs.length = n ∧ ∃ S ρ st ws, Sta K S ρ H st ∧ Paired (Rx K S ρ H) vs ws ∧ Wp K S ρ H (pX E) (fun w _ S' ρ' H' => ∀ v, Rx K S' ρ' H' v w → Q v H') (F ws st)
/-- a def's promise, kept where no repr runs -/
structure FnG (P : Program) (w : World) (K : PySem.W.Frag) (mg : Str → Option Value) (base : Heap) (k : Nat) (f : Addr) (fd : FuncData) (ps : List Str) (sp : Sp) : Prop where
  len : ∀ vs H Q E, sp vs H Q E → vs.length = ps.length
  run : ∀ (A : Around) (outer : List Env) (s : Shared) (H : Hp) (args : Args) (us : List Value) (vs : List V) (Q : VK) (E : XK), Room k A → A.guards = some [] → Env0 P w K mg base A outer s H → BindsTo s fd args (ps.zip us) → Vals vs us → sp vs H Q E →
    codeAny (model P w) A (.call (.ref f) args) (CR (CX P w) outer P w H s Q E) s
theorem runB {pins : List (Addr × Obj)} {σ : St} {H : Hp} {s : Shared} {Q : VK} {args : List Value} {kws : List (Str × Value)} {us : List Value} {vs : List V} {k : Nat} {fa : Addr} {fd : FuncData} {ps : List Str} {sp : Sp} {E : XK} (F : FnG X.prog X.w X.K X.mg X.base k fa fd ps sp) (room : Room k X.A) (hg : X.A.guards = some [])
    (pass : Passes (CX X.prog X.w) X E) (I : Inv X pins σ H s) (bound : BindsTo s fd ⟨args, kws⟩ (ps.zip us)) (r : Vals vs us) (h : sp vs H Q E) : wpAny (model X.prog X.w) X.A (call (.ref fa) args kws) (EP X pins σ Q) X.xe s := by
  refine wpAny_call (codeAny_mono (F.run X.A X.stack s H ⟨args, kws⟩ us vs Q E room hg I.env0 bound r h) fun res s' fin => ?_)
  match res, fin with
  | .error x, fin => exact pass pins σ H s x s' I fin
  | .ok (.ret _), fin => exact I.after fin
  | .ok .next, fin => exact fin.elim
  | .ok .brk, fin => exact fin.elim
  | .ok .cont, fin => exact fin.elim
theorem runG {pins : List (Addr × Obj)} {σ : St} {H : Hp} {s : Shared} {Q : VK} {us : List Value} {vs : List V} {k : Nat} {fa : Addr} {fd : FuncData} {ps : List Str} {sp : Sp} {E : XK} (F : FnG X.prog X.w X.K X.mg X.base k fa fd ps sp) (room : Room k X.A) (hg : X.A.guards = some []) (bnd : Binds X.K fd ps [])
    (pass : Passes (CX X.prog X.w) X E) (I : Inv X pins σ H s) (r : Vals vs us) (h : sp vs H Q E) : wpAny (model X.prog X.w) X.A (call (.ref fa) us) (EP X pins σ Q) X.xe s := by
  have hl : (us ++ []).length = ps.length := by rw [List.append_nil, ← r.length]; exact F.len _ _ _ _ h
  have hb := bnd s us I.kIn hl
  rw [List.append_nil] at hb
  exact runB F room hg pass I hb r h
/-- values in the parameters' order -/
def permV {α : Type} (pm : List Nat) (xs : List α) : List α := pm.filterMap fun i => xs[i]?
/-- the ways a def is called by keywords alone: the names written, the place of each parameter's value -/
def KwB (K : PySem.W.Frag) (fd : FuncData) (ps : List Str) (l : List (List Str × List Nat)) : Prop :=
  ∀ q ∈ l, ∀ (s : Shared) (ws : List Value), K.In s.heap → ws.length = q.1.length → BindsTo s fd ⟨[], q.1.zip ws⟩ (ps.zip (permV q.2 ws))
theorem permV_rel {vs : List V} {us : List Value} (r : Vals vs us) : ∀ pm : List Nat, Vals (permV pm vs) (permV pm us)
  | [] => .nil
  | i :: pm => by
    have ih := permV_rel r pm
    unfold permV at ih ⊢
    rw [List.filterMap_cons, List.filterMap_cons]
    cases e : vs[i]? with
    | none => rw [r.none_of e]; exact ih
    | some v =>
      obtain ⟨u, e2, ru⟩ := r.get e
      rw [e2]
      exact .cons ru ih
theorem permW_rel {R : V → W → Prop} {vs : List V} {ws : List W} (r : Paired R vs ws) : ∀ pm : List Nat, Paired R (permV pm vs) (permW pm ws)
  | [] => .nil
  | i :: pm => by
    have ih := permW_rel r pm
    have get : ∀ {vs : List V} {ws : List W} {i : Nat}, Paired R vs ws → (vs[i]? = none ∧ ws[i]? = none) ∨ ∃ v w, vs[i]? = some v ∧ ws[i]? = some w ∧ R v w := fun {vs ws i} r => by
      induction r generalizing i with
      | nil => exact .inl ⟨rfl, rfl⟩
      | cons a t ih =>
        cases i with
        | zero => exact .inr ⟨_, _, rfl, rfl, a⟩
        | succ i => exact ih
    unfold permV at ih ⊢
    unfold permW at ih ⊢
    rw [List.filterMap_cons, List.filterMap_cons]
    rcases get (i := i) r with ⟨e1, e2⟩ | ⟨v, w, e1, e2, rv⟩
    · rw [e1, e2]; exact ih
    · rw [e1, e2]; exact .cons rv ih
theorem rws_rx {K : PySem.W.Frag} {S : AS} {ρ : List Addr} {H : Hp} : ∀ {vs : List V} {ws : List W}, Rws K H0 S ρ H vs ws → ws.any isOwn = false → Paired (Rx K S ρ H) vs ws
  | _, _, .nil, _ => .nil
  | _, _, .cons r t, h => by
    rw [List.any_cons, Bool.or_eq_false_iff] at h
    exact .cons (r.rx h.1) (rws_rx t h.2)
/-- what a call of it wants -/
structure DefOk (X : Cx) (E : XK) (x : Str) (n : Nat) (l : List (List Str × List Nat)) (F : List W → M W) : Prop where
  ex : ∃ (k : Nat) (fa : Addr) (fd : FuncData) (ps : List Str), X.mg x = some (.ref fa) ∧ PySem.W.keepIn X.K (.ref fa) = true ∧ Binds X.K fd ps [] ∧ KwB X.K fd ps l ∧ Room k X.A ∧ FnG X.prog X.w X.K X.mg X.base k fa fd ps (spD X.K n F)
  arg : ∀ ws st, F ws st ≠ .bad → ws.length = n ∧ ws.any isOwn = false
theorem spD_of {K : PySem.W.Frag} {n : Nat} {F : List W → M W} {E : XK} {S : AS} {ρ : List Addr} {H : Hp} {st : Store} {ws : List W} {vs : List V} {Q : VK} (arg : ∀ ws st, F ws st ≠ .bad → ws.length = n ∧ ws.any isOwn = false) (hs : Sta K S ρ H st) (rs : Rws K H0 S ρ H vs ws)
    (h : Wp K S ρ H (pX E) (qV K H0 Q) (F ws st)) : spD K n F vs H Q E := by
  obtain ⟨e1, e2⟩ := arg ws st fun z => by rw [z] at h; exact h
  exact ⟨by rw [Paired.length rs]; exact e1, S, ρ, st, ws, hs, rws_rx rs e2, h.mono fun w st1 S1 ρ1 H1 x1 s1 q1 v r => q1 v r.rw⟩
theorem zCall {x : Str} {n : Nat} {F : List W → M W} {E : XK} {l : List (List Str × List Nat)} (D : DefOk X E x n l F) (hg : X.A.guards = some []) (pass : Passes (CX X.prog X.w) X E) (hgl : Gl X x) (ha : PA X (e :: es) (rdA X.K H0 (pX E) g)) (hdb : (x == ("__debug__" : Str)) = false) (h1 : plainE e = true) (h2 : es.all plainE = true) :
    PE X (.Call (.Name x p) (e :: es) [] pos) (rdV X.K H0 (pX E) fun v => bd (g v) fun ws => F ws) := by
  obtain ⟨k, fa, fd, ps, hm, hk, hb, hkw, hr, hF⟩ := D.ex
  refine peImp (t := fun σ H Q => rdA X.K H0 (pX E) g σ H fun vs H1 => spD X.K n F vs H1 Q E) ⟨fun pins s σ H Q I h => ?_⟩ fun σ H Q ⟨S, ρ, st, e, hs, he, h⟩ =>
    ⟨S, ρ, st, e, hs, he, (Wp.bd hs h).mono fun ws st1 S1 ρ1 H1 x1 s1 q1 vs rs => spD_of D.arg s1 rs q1⟩
  refine wpAny_Call_Name_kw (ld_glob I hgl hm ?_ hdb)
  exact PySem.W.callWith_K (h₀ := X.base) I.ok.mod.kin hk (thn (ha.run pos pins s σ H _ I h) fun us s1 ⟨vs, H1, I1, r, q⟩ => ⟨I1.kIn, runG hF hr hg hb pass I1 r q⟩) (starEach_plain h1) (backTo_any h2)
theorem zCall0 {x : Str} {n : Nat} {F : List W → M W} {E : XK} {l : List (List Str × List Nat)} (D : DefOk X E x n l F) (hg : X.A.guards = some []) (pass : Passes (CX X.prog X.w) X E) (hgl : Gl X x) (hdb : (x == ("__debug__" : Str)) = false) :
    PE X (.Call (.Name x p) [] [] pos) (rdV X.K H0 (pX E) fun v => bd (ret []) fun ws => F ws) := by
  obtain ⟨k, fa, fd, ps, hm, hk, hb, hkw, hr, hF⟩ := D.ex
  refine peImp (t := fun σ H Q => spD X.K n F [] H Q E) ⟨fun pins s σ H Q I h => ?_⟩ fun σ H Q ⟨S, ρ, st, e, hs, he, h⟩ => spD_of (H0 := H0) D.arg hs .nil h
  refine wpAny_Call_Name_kw (ld_glob I hgl hm ?_ hdb)
  exact PySem.W.callWith_K0 I.kIn hk (runG (us := []) hF hr hg hb pass I .nil h)
/-! ### by keywords -/
def kwNames : List Keyword → List Str
  | [] => []
  | ⟨some x, _, _⟩ :: r => x :: kwNames r
  | _ :: r => kwNames r
def kwAll : List Keyword → Bool
  | [] => true
  | ⟨some _, _, _⟩ :: r => kwAll r
  | _ => false
theorem kw_names {env : Env} {pos : Pos} : ∀ {kws : List Keyword}, kwAll kws = true → (backToKw pos (keywordEach kws env)).all (·.1.isSome) = true ∧ (backToKw pos (keywordEach kws env)).filterMap (·.1) = kwNames kws ∧ (backToKw pos (keywordEach kws env)).any (·.1.isNone) = false
  | [], _ => ⟨rfl, rfl, rfl⟩
  | ⟨some x, e, p⟩ :: r, h => by
    obtain ⟨h1, h2, h3⟩ := kw_names (env := env) (pos := pos) (kws := r) h
    have e0 : backToKw pos (keywordEach (⟨some x, e, p⟩ :: r) env) = (some x, (do let v ← eval e env; standAt pos; pure v)) :: backToKw pos (keywordEach r env) := rfl
    rw [e0]
    refine ⟨?_, ?_, ?_⟩
    · rw [List.all_cons, h1]; rfl
    · rw [List.filterMap_cons, h2]; rfl
    · rw [List.any_cons, h3]; rfl
  | ⟨none, _, _⟩ :: _, h => by cases h
theorem pkImp {kws : List Keyword} {t t' : TA} (h : PK X kws t) (f : ∀ σ H Q, t' σ H Q → t σ H Q) : PK X kws t' := ⟨fun p pins s σ H Q I q => h.run p pins s σ H Q I (f _ _ _ q)⟩
theorem zNilK : PK X [] (rdA X.K H0 P fun _ => ret []) := pkImp pk_nil fun σ H Q ⟨S, ρ, st, e, hs, he, h⟩ => Wp.now hs h [] .nil
theorem zConsK {nm : Option Str} {kp : Pos} {kws : List Keyword} {g : Nv → M (List W)} (he : PE X e (rdV X.K H0 P f)) (hr : PK X kws (rdA X.K H0 P g)) : PK X (⟨nm, e, kp⟩ :: kws) (rdA X.K H0 P fun v => bd (f v) fun w => bd (g v) fun ws => ret (w :: ws)) :=
  pkImp (pk_cons he hr) fun σ H Q ⟨S, ρ, st, e, hs, he, h⟩ => seq1 hs he h fun x H2 S2 ρ2 st2 w _ s2 e2 r q =>
    ⟨S2, ρ2, st2, e, s2, e2, (Wp.bd s2 q).mono fun ws st3 S3 ρ3 H3 x3 s3 q3 vs rs => Wp.now s3 q3 _ (.cons (r.ext x3 s2) rs)⟩
theorem zCallK {x : Str} {n : Nat} {F : List W → M W} {E : XK} {l : List (List Str × List Nat)} {kws : List Keyword} {pm : List Nat} (D : DefOk X E x n l F) (hg : X.A.guards = some []) (pass : Passes (CX X.prog X.w) X E) (hgl : Gl X x) (ha : PK X kws (rdA X.K H0 (pX E) fun v => bd (g v) (wantN kws.length))) (hdb : (x == ("__debug__" : Str)) = false)
    (h1 : kwAll kws = true) (h2 : (kwNames kws, pm) ∈ l) (h3 : (kwNames kws).length = kws.length) : PE X (.Call (.Name x p) [] kws pos) (rdV X.K H0 (pX E) fun v => bd (bd (g v) (wantN kws.length)) fun ws => F (permW pm ws)) := by
  obtain ⟨k, fa, fd, ps, hm, hk, hb, hkw, hr, hF⟩ := D.ex
  obtain ⟨k1, k2, k3⟩ := kw_names (env := X.env) (pos := pos) h1
  refine peImp (t := fun σ H Q => rdA X.K H0 (pX E) (fun v => bd (g v) (wantN kws.length)) σ H fun vs H1 => vs.length = kws.length ∧ spD X.K n F (permV pm vs) H1 Q E) ⟨fun pins s σ H Q I h => ?_⟩ fun σ H Q ⟨S, ρ, st, e, hs, he, h⟩ =>
    ⟨S, ρ, st, e, hs, he, ?_⟩
  · refine wpAny_Call_Name_kw (ld_glob I hgl hm ?_ hdb)
    refine PySem.W.callWith_KW0 (h₀ := X.base) I.ok.mod.kin hk k1 (thn (ha.run pos pins s σ H _ I h) fun us s1 ⟨vs, H1, I1, r, ln, q⟩ => ⟨I1.kIn, ?_⟩) (by rw [k3]; rfl)
    rw [k2]
    exact runB hF hr hg pass I1 (hkw _ h2 s1 us I1.kIn (by rw [← r.length, ln, h3])) (permV_rel r pm) q
  · have h' := Wp.bd hs h
    unfold Zd.bd at h'
    unfold Zd.bd
    dsimp only
    cases eg : g e st with
    | bad => rw [eg] at h'; exact h'
    | exc y st' => rw [eg] at h'; exact h'
    | ok ws st' =>
      rw [eg] at h'
      dsimp only at h' ⊢
      unfold wantN at h' ⊢
      cases c : decide (ws.length = kws.length) with
      | false => rw [c] at h'; exact False.elim h'
      | true =>
        rw [c] at h'
        show Wp X.K S ρ H (pX E) _ (.ok ws st')
        intro S1 ρ1 H1 x1 s1 vs rs
        exact ⟨by rw [Paired.length rs]; exact of_decide_eq_true c, spD_of D.arg s1 (permW_rel rs pm) (h' S1 ρ1 H1 x1 s1)⟩
end
end Zd
end
section
set_option Elab.async false
set_option linter.all false
set_option maxRecDepth 100000
set_option maxHeartbeats 2000000
/-! Zd6: what is walked; comprehensions. -/
namespace Zd
open PySem PySem.Spec L2
open PyProof.Rows hiding St

section
variable {K : PySem.W.Frag} {S S' : AS} {H H' : Hp} {a : Addr} {vs : List V} {ps : List PyData}
/-- a list that nobody changes -/
def LsK (K : PySem.W.Frag) (S : AS) (H : Hp) (a : Addr) (vs : List V) : Prop := (¬ S a ∧ Rd H a (.lst vs)) ∨ KL K a vs
theorem LsK.sq (h : LsK K S H a vs) : SqL K H a vs := by
  rcases h with ⟨_, q⟩ | q
  · exact .inl q
  · exact .inr q
theorem LsK.grow (g : Grow K S H S' H') (h : LsK K S H a vs) : LsK K S' H' a vs := by
  rcases h with ⟨n, q⟩ | q
  · refine .inl ⟨fun z => ?_, ?_⟩
    · rcases g.up a z with z | z
      · exact n z
      · rcases q with q | ⟨o, q⟩
        · rw [z] at q; cases q
        · rw [z] at q; cases q
    · rcases q with q | ⟨o, q⟩
      · exact .inl (g.keep a _ n q)
      · exact .inr ⟨o, g.keep a _ n q⟩
  · exact .inr q
theorem SqT.grow (g : Grow K S H S' H') (q : SqT K H a vs) : SqT K H' a vs := by
  have ns : ∀ o, H a = some o → (∀ xs, o ≠ .lst xs) → ¬ S a := fun o e d z => by
    obtain ⟨xs, e'⟩ := g.sl a z
    rw [e] at e'; cases e'
    exact d xs rfl
  rcases q with (q | ⟨o, q⟩) | q
  · exact .inl (.inl (g.keep a _ (ns _ q fun _ z => nomatch z) q))
  · exact .inl (.inr ⟨o, g.keep a _ (ns _ q fun _ z => nomatch z) q⟩)
  · exact .inr q
theorem wlk_list (q : LsK K S H a vs) (r : Rps K S H vs ps) : Wlk K S H (Itl K a) ps := fun S' H' g sl i => by
  have q' := (q.grow g).sq
  have r' := Rps.grow g r
  refine ⟨fun h => ⟨vs, q', by rw [r'.length]; exact h⟩, fun p hp => ?_⟩
  obtain ⟨v, e, rv⟩ := r'.get hp
  refine ⟨⟨vs, v, q', e⟩, fun x H'' ⟨e1, y⟩ => ?_⟩
  have e2 := y vs q'
  rw [e] at e2
  cases e2
  exact .inl ⟨e1, rv⟩
theorem wlk_tup (q : SqT K H a vs) (r : Rps K S H vs ps) : Wlk K S H (Itt K a) ps := fun S' H' g sl i => by
  have q' := SqT.grow g q
  have r' := Rps.grow g r
  refine ⟨fun h => ⟨vs, q', by rw [r'.length]; exact h⟩, fun p hp => ?_⟩
  obtain ⟨v, e, rv⟩ := r'.get hp
  refine ⟨⟨vs, v, q', e⟩, fun x H'' ⟨e1, y⟩ => ?_⟩
  have e2 := y vs q'
  rw [e] at e2
  cases e2
  exact .inl ⟨e1, rv⟩
theorem wlk_range {lo : Int} {n : Nat} : Wlk K S H (Itr lo n) (rangeP lo n) := fun S' H' g sl i => by
  refine ⟨fun h => (by
    have h' : n ≤ i := by simpa [rangeP] using h
    exact h'), fun p hp => ?_⟩
  unfold rangeP at hp
  rw [List.getElem?_map] at hp
  cases e : (List.range n)[i]? with
  | none => rw [e] at hp; cases hp
  | some j =>
    rw [e] at hp
    cases hp
    have hi : i < n := by
      have := (List.getElem?_eq_some_iff.mp e).1
      simpa using this
    have hj : j = i := by
      have := (List.getElem?_eq_some_iff.mp e).2
      rw [← this]; simp
    subst hj
    refine ⟨hi, fun x H'' ⟨e1, e2⟩ => ?_⟩
    subst e2
    exact .inl ⟨e1, .int _⟩
/-- a new pair -/
theorem new_tup {T : Addr} {us : List V} {qs : List PyData} (sl : ∀ a, S a → ∃ xs, H a = some (.lst xs)) (hT : H T = none) (r : Rps K S H us qs) : Rp K S (upd H T (.tup us)) (.ref T) (.tuple qs) := by
  have ne : ∀ {b : Addr} {u : HO}, H b = some u → b ≠ T := fun e z => by rw [z, hT] at e; cases e
  have g : Grow K S H S (upd H T (.tup us)) := ⟨fun _ h => .inl h, fun b o _ e => by rw [upd_ne (ne e)]; exact e, sl⟩
  exact .tup (SqT.of upd_same) (Rps.grow g r)
theorem wlk_enum (q : LsK K S H a vs) (r : Rps K S H vs ps) : Wlk K S H (Ite K a) (enumP ps) := fun S' H' g sl i => by
  have q' := (q.grow g).sq
  have r' := Rps.grow g r
  refine ⟨fun h => ⟨vs, q', by rw [r'.length]; simpa [enumP] using h⟩, fun p hp => ?_⟩
  unfold enumP at hp
  rw [List.getElem?_map] at hp
  cases e : ps.zipIdx[i]? with
  | none => rw [e] at hp; cases hp
  | some d =>
    rw [e] at hp
    cases hp
    rw [List.getElem?_zipIdx] at e
    cases e0 : ps[i]? with
    | none => rw [e0] at e; cases e
    | some p =>
      rw [e0] at e
      cases e
      obtain ⟨v, e1, rv⟩ := r'.get e0
      refine ⟨⟨vs, v, q', e1⟩, fun x H'' ⟨T, y, ex, hT, eH, ey⟩ => .inr ⟨T, _, hT, eH, ?_⟩⟩
      have e2 := ey vs q'
      rw [e1] at e2
      cases e2
      subst ex eH
      simp only [Nat.zero_add]
      exact new_tup sl hT (.cons (.int _) (.cons rv .nil))
theorem zip_at {ps qs : List PyData} {i : Nat} {p : PyData} (hp : (zipP ps qs)[i]? = some p) : ∃ x y, ps[i]? = some x ∧ qs[i]? = some y ∧ p = .tuple [x, y] := by
  unfold zipP at hp
  rw [List.getElem?_map] at hp
  cases e : (ps.zip qs)[i]? with
  | none => rw [e] at hp; cases hp
  | some d =>
    rw [e] at hp
    cases hp
    rw [List.getElem?_zip_eq_some] at e
    exact ⟨d.1, d.2, e.1, e.2, rfl⟩
theorem wlk_zip {b : Addr} {us : List V} {qs : List PyData} (q : LsK K S H a vs) (r : Rps K S H vs ps) (q2 : LsK K S H b us) (r2 : Rps K S H us qs) : Wlk K S H (Itz K a b) (zipP ps qs) := fun S' H' g sl i => by
  have q' := (q.grow g).sq
  have r' := Rps.grow g r
  have q2' := (q2.grow g).sq
  have r2' := Rps.grow g r2
  refine ⟨fun h => ⟨vs, us, q', q2', by rw [r'.length, r2'.length]; simp [zipP] at h; omega⟩, fun p hp => ?_⟩
  obtain ⟨x, y, e1, e2, rfl⟩ := zip_at hp
  obtain ⟨v, f1, rv⟩ := r'.get e1
  obtain ⟨u, f2, ru⟩ := r2'.get e2
  refine ⟨⟨vs, us, v, u, q', q2', f1, f2⟩, fun z H'' ⟨T, y1, y2, ex, hT, eH, ey1, ey2⟩ => .inr ⟨T, _, hT, eH, ?_⟩⟩
  have g1 := ey1 vs q'
  have g2 := ey2 us q2'
  rw [f1] at g1
  rw [f2] at g2
  cases g1
  cases g2
  subst ex eH
  exact new_tup sl hT (.cons rv (.cons ru .nil))
theorem wlk_zipT {b : Addr} {us : List V} {qs : List PyData} (q : SqT K H a vs) (r : Rps K S H vs ps) (q2 : SqT K H b us) (r2 : Rps K S H us qs) : Wlk K S H (RZ.ItzT K a b) (zipP ps qs) := fun S' H' g sl i => by
  have q' := SqT.grow g q
  have r' := Rps.grow g r
  have q2' := SqT.grow g q2
  have r2' := Rps.grow g r2
  refine ⟨fun h => ⟨vs, us, q', q2', by rw [r'.length, r2'.length]; simp [zipP] at h; omega⟩, fun p hp => ?_⟩
  obtain ⟨x, y, e1, e2, rfl⟩ := zip_at hp
  obtain ⟨v, f1, rv⟩ := r'.get e1
  obtain ⟨u, f2, ru⟩ := r2'.get e2
  refine ⟨⟨vs, us, v, u, q', q2', f1, f2⟩, fun z H'' ⟨T, y1, y2, ex, hT, eH, ey1, ey2⟩ => .inr ⟨T, _, hT, eH, ?_⟩⟩
  have g1 := ey1 vs q'
  have g2 := ey2 us q2'
  rw [f1] at g1
  rw [f2] at g2
  cases g1
  cases g2
  subst ex eH
  exact new_tup sl hT (.cons rv (.cons ru .nil))
end

/-! ### the sources -/
section
variable {X : Cx} {H0 : Hp} {P : PX} {tg l : Expr} {f : Nv → M W}
theorem iter_list {pins : List (Addr × Obj)} {σ : St} {H : Hp} {s : Shared} {R : It → Hp → Prop} {a : Addr} {xs : List V} (I : Inv X pins σ H s) (hq : SqL X.K H a xs) (q : R (Itl X.K a) H) : wpAny (model X.prog X.w) X.A (pyIter (.ref a)) (PIE X pins σ tg R) X.xe s := by
  obtain ⟨us, _, pl, _⟩ := I.list hq
  exact wpAny_pyIter_list pl.isList ⟨s.heap.objs.size, [s.heap.objs.size], _, _, H, rfl, I.kept (t' := s.toks) fun b o e => Heap.get?_push_of_some _ e, turn_list a _, ⟨_, Heap.get?_push_size _ rfl, rfl, rfl⟩, fun b hb => by
    rw [List.mem_singleton.mp hb]
    exact I.fpOk (Nat.le_refl _) I.fresh, q⟩
theorem iter_tup {pins : List (Addr × Obj)} {σ : St} {H : Hp} {s : Shared} {R : It → Hp → Prop} {a : Addr} {xs : List V} (I : Inv X pins σ H s) (hq : SqT X.K H a xs) (q : R (Itt X.K a) H) : wpAny (model X.prog X.w) X.A (pyIter (.ref a)) (PIE X pins σ tg R) X.xe s := by
  obtain ⟨us, _, pl, _⟩ := I.tuple hq
  exact wpAny_pyIter_tuple (show s.heap.IsTuple a us.toArray from pl) ⟨s.heap.objs.size, [s.heap.objs.size], _, _, H, rfl, I.kept (t' := s.toks) fun b o e => Heap.get?_push_of_some _ e, turn_tuple a _, ⟨_, Heap.get?_push_size _ rfl, rfl, rfl⟩, fun b hb => by
    rw [List.mem_singleton.mp hb]
    exact I.fpOk (Nat.le_refl _) I.fresh, q⟩
/-- a walked value, told apart -/
theorem items_of {K : PySem.W.Frag} {S : AS} {ρ : List Addr} {H : Hp} {st : Store} {v : V} {w : W} {Q : List PyData → Store → AS → List Addr → Hp → Prop} (hs : Sta K S ρ H st) (r : Rw K H0 S ρ H v w) (h : Wp K S ρ H P Q (itemsM w st)) :
    ∃ a vs ps, v = .ref a ∧ (LsK K S H a vs ∨ SqT K H a vs) ∧ Rps K S H vs ps ∧ Q ps st S ρ H := by
  cases w with
  | d p =>
    cases p <;> first | exact False.elim h | skip
    · cases (show Rp K S H v (.list _) from r) with
      | lst n q rs => exact ⟨_, _, _, rfl, .inl (.inl ⟨n, .inl q⟩), rs, Wp.now hs h⟩
    · obtain ⟨a, vs, rfl, q, rs⟩ := r.tup rfl
      exact ⟨a, vs, _, rfl, .inr q, rs, Wp.now hs h⟩
  | rd ps =>
    obtain ⟨a, vs, rfl, q, rs⟩ := r
    exact ⟨a, vs, ps, rfl, .inl q, rs, Wp.now hs h⟩
  | _ => exact False.elim h
theorem zIt (hl : PE X l (rdV X.K H0 P f)) : PI X tg l (rdI X.K H0 P fun e => bd (f e) itemsM) := by
  refine ⟨fun pins s σ H R I ⟨S, ρ, st, e, hs, he, h⟩ => ?_⟩
  refine thn (hl.run pins s σ H _ I (seq1 hs he h (R := fun x H1 => ∃ a vs, x = .ref a ∧ ((SqL X.K H1 a vs ∧ R (Itl X.K a) H1) ∨ (SqT X.K H1 a vs ∧ R (Itt X.K a) H1))) fun x H2 S2 ρ2 st2 w _ s2 e2 r q => ?_)) fun v s1 ⟨x, H1, I1, r1, a, vs, ea, q⟩ => ?_
  · obtain ⟨a, vs, ps, ea, q1, rs, q2⟩ := items_of s2 r q
    refine ⟨a, vs, ea, ?_⟩
    rcases q1 with q1 | q1
    · exact .inl ⟨q1.sq, q2 _ (wlk_list q1 rs)⟩
    · exact .inr ⟨q1, q2 _ (wlk_tup q1 rs)⟩
  · subst ea
    cases r1
    rcases q with ⟨q1, q2⟩ | ⟨q1, q2⟩
    · exact iter_list I1 q1 q2
    · exact iter_tup I1 q1 q2
/-- range, zip -/
theorem wantN_back {K : PySem.W.Frag} {S : AS} {ρ : List Addr} {H : Hp} {st : Store} {ws : List W} {n : Nat} {β : Type} {QQ : β → Store → AS → List Addr → Hp → Prop} {k : List W → M β} (hs : Sta K S ρ H st)
    (h : Wp K S ρ H P (fun a st' S' ρ' H' => Wp K S' ρ' H' P QQ (k a st')) (wantN n ws st)) : ws.length = n ∧ Wp K S ρ H P QQ (k ws st) := by
  obtain ⟨c, h⟩ := Wp.want h
  exact ⟨of_decide_eq_true c, Wp.now hs h⟩
theorem b62_is {i : Int} (h : b62 i = true) : -(2 ^ 62) ≤ i ∧ i < 2 ^ 62 := by
  unfold b62 at h
  rw [Bool.and_eq_true, decide_eq_true_eq, decide_eq_true_eq] at h
  exact h
theorem zRng1 {a : Expr} {g : Nv → M (List W)} {p pos : Pos} (hg : Gl X "range") (hm : X.mg "range" = none) (ha : PA X [a] (rdA X.K H0 P g)) (h1 : plainE a = true) : PI X tg (.Call (.Name "range" p) [a] [] pos) (rdI X.K H0 P fun e => bd (bd (g e) (wantN 1)) rngM) :=
  piImp (pi_range1 hg hm ha (starEach_plain h1)) fun σ H R ⟨S, ρ, st, e, hs, he, h⟩ => ⟨S, ρ, st, e, hs, he, (Wp.bd hs (Wp.bd hs h)).mono fun ws st1 S1 ρ1 H1 x1 s1 q0 vs rs => by
    obtain ⟨hl, q1⟩ := wantN_back s1 q0
    cases rs with
    | nil => exact absurd hl (by simp)
    | cons r t =>
      cases t with
      | cons r2 t2 => exact absurd hl (by simp)
      | nil =>
        rename_i w
        have q2 : Wp X.K S1 ρ1 H1 P (fun ps _ S' ρ' H' => ∀ J, Wlk X.K S' H' J ps → R J H') ((match intv w with
          | some j => want (b62 j) (ret (rangeP 0 j.toNat))
          | none => bad) st1) := q1
        cases ei : intv w with
        | none => rw [ei] at q2; exact False.elim q2
        | some j =>
          rw [ei] at q2
          obtain ⟨c, q3⟩ := Wp.want q2
          exact ⟨j, by rw [r.int ei], (b62_is c).1, (b62_is c).2, Wp.now s1 q3 _ wlk_range⟩⟩
theorem zRng2 {a b : Expr} {g : Nv → M (List W)} {p pos : Pos} (hg : Gl X "range") (hm : X.mg "range" = none) (ha : PA X [a, b] (rdA X.K H0 P g)) (h1 : plainE a = true) (h2 : plainE b = true) : PI X tg (.Call (.Name "range" p) [a, b] [] pos) (rdI X.K H0 P fun e => bd (bd (g e) (wantN 2)) rngM) :=
  piImp (pi_range2 hg hm ha (by rw [starEach_plain h1, starEach_plain h2]; rfl) (by rw [starEach_plain h2]; rfl)) fun σ H R ⟨S, ρ, st, e, hs, he, h⟩ => ⟨S, ρ, st, e, hs, he, (Wp.bd hs (Wp.bd hs h)).mono fun ws st1 S1 ρ1 H1 x1 s1 q0 vs rs => by
    obtain ⟨hl, q1⟩ := wantN_back s1 q0
    cases rs with
    | nil => exact absurd hl (by simp)
    | cons r t =>
      cases t with
      | nil => exact absurd hl (by simp)
      | cons r2 t =>
        cases t with
        | cons r3 t => exact absurd hl (by simp)
        | nil =>
          rename_i _ w1 _ w2
          have q2 : Wp X.K S1 ρ1 H1 P (fun ps _ S' ρ' H' => ∀ J, Wlk X.K S' H' J ps → R J H') ((match intv w1, intv w2 with
            | some i, some j => want (b62 i && b62 j) (ret (rangeP i (j - i).toNat))
            | _, _ => bad) st1) := q1
          cases ei : intv w1 with
          | none => rw [ei] at q2; exact False.elim q2
          | some i =>
            cases ej : intv w2 with
            | none => rw [ei, ej] at q2; exact False.elim q2
            | some j =>
              rw [ei, ej] at q2
              obtain ⟨c, q3⟩ := Wp.want q2
              rw [Bool.and_eq_true] at c
              exact ⟨i, j, by rw [r.int ei, r2.int ej], ⟨(b62_is c.1).1, (b62_is c.1).2, (b62_is c.2).1, (b62_is c.2).2⟩, Wp.now s1 q3 _ wlk_range⟩⟩
theorem lsq_of {K : PySem.W.Frag} {S : AS} {ρ : List Addr} {H : Hp} {v : V} {w : W} {xs : List PyData} (r : Rw K H0 S ρ H v w) (h : lsq w = some xs) : ∃ a vs, v = .ref a ∧ LsK K S H a vs ∧ Rps K S H vs xs := by
  cases w with
  | d p =>
    cases p <;> first | cases h | skip
    cases (show Rp K S H v (.list _) from r) with
    | lst n q rs => exact ⟨_, _, rfl, .inl ⟨n, .inl q⟩, rs⟩
  | rd ps =>
    cases h
    exact r
  | _ => cases h
theorem zZip {a b : Expr} {f g : Nv → M W} {p pos tpos : Pos} {elts : List Expr} {kk : Nat} (hg : Gl X "zip") (hm : X.mg "zip" = none) (ha : PE X a (rdV X.K H0 P f)) (hb : PE X b (rdV X.K H0 P g)) (h1 : plainE a = true) (h2 : plainE b = true) :
    PI X (.Tuple elts kk tpos) (.Call (.Name "zip" p) [a, b] [] pos) (rdI X.K H0 P fun e => bd (f e) fun x => bd (g e) fun y => zipM x y zipP) :=
  piImp (RZ.pi_zipA hg hm (pa_cons ha (pa_cons hb pa_nil (starEach_plain h2)) (starEach_plain h1)) (starEach_plain h1) (backTo_any (by simp [h2]))) fun σ H R ⟨S, ρ, st, e, hs, he, h⟩ =>
    seq2 hs he h fun x y H2 S2 ρ2 st2 wa wb s2 _ r1 r2 q => by
      unfold zipM at q
      have q' : Wp X.K S2 ρ2 H2 P (fun ps _ S' ρ' H' => ∀ J, Wlk X.K S' H' J ps → R J H') ((match lsq wa, lsq wb, tupv wa, tupv wb with
        | some a, some b, _, _ => ret (zipP a b)
        | _, _, some a, some b => ret (zipP a b)
        | _, _, _, _ => bad) st2) := q
      cases la : lsq wa with
      | some xs =>
        cases lb : lsq wb with
        | some ys =>
          rw [la, lb] at q'
          obtain ⟨p1, vs, rfl, q1, s1⟩ := lsq_of r1 la
          obtain ⟨p2, us, rfl, q2, s2'⟩ := lsq_of r2 lb
          exact ⟨p1, p2, vs, us, rfl, .inl ⟨q1.sq, q2.sq, Wp.now s2 q' _ (wlk_zip q1 s1 q2 s2')⟩⟩
        | none =>
          have ta : tupv wa = none := by
            cases wa with
            | d p => cases p <;> first | rfl | cases la
            | rd p => rfl
            | _ => cases la
          rw [la, lb, ta] at q'
          exact False.elim q'
      | none =>
        cases ta : tupv wa with
        | none =>
          rw [la, ta] at q'
          exact False.elim q'
        | some xs =>
          cases tb : tupv wb with
          | none =>
            rw [la, ta, tb] at q'
            exact False.elim q'
          | some ys =>
            rw [la, ta, tb] at q'
            obtain ⟨p1, vs, rfl, q1, s1⟩ := r1.tup ta
            obtain ⟨p2, us, rfl, q2, s2'⟩ := r2.tup tb
            exact ⟨p1, p2, vs, us, rfl, .inr ⟨q1, q2, Wp.now s2 q' _ (wlk_zipT q1 s1 q2 s2')⟩⟩
end
end Zd
end
section
set_option Elab.async false
set_option linter.all false
set_option maxRecDepth 100000
set_option maxHeartbeats 4000000
/-! ZdE: enumerate over a tuple; a starred target. -/
namespace PySem
open Sem (wp)
open AutoSeq1 (wpAny_loadPart')
/-- a tuple handed out, as enumerate asks for it -/
theorem Draws.tup {prog : Program} {w : World} {A : Around} (quiet : A.handled = none) (it t : Addr) (ne : t ≠ it) (vs : Array Value) :
    Draws prog w A it [it, t] vs.size (fun j u => vs[j]? = some u) (fun j h => h.IsTupleIter it t j ∧ h.IsTuple t vs) where
  live := by
    rintro j h ⟨⟨o, ho, _⟩, _⟩
    exact ⟨o, ho⟩
  frame := by
    rintro j h h' ⟨a, o, ho, r⟩ keep
    exact ⟨a.at fun z e => keep it List.mem_cons_self z e, o, keep t (List.mem_cons_of_mem _ List.mem_cons_self) o ho, r⟩
  item := by
    intro j s Q E lt ⟨a, b⟩ k
    refine RZ.nextOf_tuple_item a b (x := vs[j]) (Array.getElem?_eq_getElem lt) fun h' a' same => k _ h' s.toks (Array.getElem?_eq_getElem lt) ⟨a', ?_⟩ same
    obtain ⟨o, ho, r⟩ := b
    exact ⟨o, (same.2 t ne).trans ho, r⟩
  done := by
    intro s Q E ⟨a, b⟩ k
    exact RZ.nextOf_tuple_end quiet a b (Array.getElem?_eq_none (Nat.le_refl _)) k
theorem new_enum_tup (t : Addr) (vs : Array Value) (n : Nat) (dd : Option Addr) (sl : Array (Option Value)) :
    Meets (Builtin.«enumerate.__new__» ⟨[.type "enumerate", .ref t], []⟩) (fun _ R s => s.heap.get? t = some { cls := .type "tuple", dict := dd, data := .seq vs n, slots := sl } ∧
      R (.ok (.ret (.ref (s.heap.push { cls := .type "tuple_iterator", data := .fields #[.ref t, .int 0 0] }).objs.size)))
        { s with heap := (s.heap.push { cls := .type "tuple_iterator", data := .fields #[.ref t, .int 0 0] }).push { cls := .type "enumerate", data := .fields #[.none, .bool false, .ref s.heap.objs.size, rawInt 0, .none, .none] } }) :=
  .of_wp fun prog w A R s given => by
    obtain ⟨hp, g, d, tk, os⟩ := s
    obtain ⟨ht, given⟩ := given
    have sub := sub_enumerate
    have isT : Heap.IsTuple (Shared.heap ⟨hp, g, d, tk, os⟩) t vs := ⟨_, ht, rfl, n, rfl⟩
    wp_walk using wpAny_loadPart' ht
    refine wpAny_stack_any fun st => wpAny_pure ?_
    split
    · rename_i c _ _ _ _ _
      cases (c == Value.type "enumerate") <;>
      · wp_walk using wpAny_loadPart' ht, wpAny_pyIter_tuple isT
        exact ⟨_, rfl, given⟩
    · wp_walk using wpAny_loadPart' ht, wpAny_pyIter_tuple isT
      exact ⟨_, rfl, given⟩
theorem call_enum_tup {prog : Program} {w : World} {A : Around} {E : Value → Shared → Prop} {s : Shared} {t : Addr} {vs : Array Value} {Q : Value → Shared → Prop} (isT : s.heap.IsTuple t vs)
    (k : ∀ h', IsEnum h' (s.heap.objs.size + 1) s.heap.objs.size 0 .none → h'.IsTupleIter s.heap.objs.size t 0 → (∀ b o, s.heap.get? b = some o → h'.get? b = some o) → Q (.ref (s.heap.objs.size + 1)) { s with heap := h' }) :
    wpAny (model prog w) A (call (.type "enumerate") [.ref t]) Q E s := by
  obtain ⟨⟨c, dd, dt, sl⟩, ht, hc, n, hd⟩ := isT
  replace hc : c = .type "tuple" := hc
  replace hd : dt = .seq vs n := hd
  subst hc hd
  refine callType_new F.called_enumerate (by decide) (F.typeCall_enumerate_1 _) (F.newCall_enumerate_1 _) (fun obj => F.args_object_init_2 obj _) F.entry_enumerate_new (new_enum_tup t vs n dd sl) ⟨ht, ?_⟩
  have sz : (s.heap.push { cls := .type "tuple_iterator", data := .fields #[.ref t, .int 0 0] }).objs.size = s.heap.objs.size + 1 := Heap.size_push ..
  show _ ∧ _
  rw [sz]
  have e : IsEnum ((s.heap.push { cls := .type "tuple_iterator", data := .fields #[.ref t, .int 0 0] }).push { cls := .type "enumerate", data := .fields #[.none, .bool false, .ref s.heap.objs.size, rawInt 0, .none, .none] }) (s.heap.objs.size + 1) s.heap.objs.size 0 .none := by
    have z := Heap.get?_push_size (s.heap.push { cls := .type "tuple_iterator", data := .fields #[.ref t, .int 0 0] }) (o := { cls := .type "enumerate", data := .fields #[.none, .bool false, .ref s.heap.objs.size, rawInt 0, .none, .none] }) rfl
    rwa [sz] at z
  exact ⟨⟨_, e, rfl⟩, k _ e ⟨_, Heap.get?_push_of_some _ (Heap.get?_push_size _ rfl), rfl, rfl⟩ fun b o x => Heap.get?_push_of_some _ (Heap.get?_push_of_some _ x)⟩
end PySem
namespace Zd
open PySem PySem.Spec L2
open PyProof.Rows hiding St
/-- a tuple's items, numbered -/
def IteT (K : PySem.W.Frag) (t : Addr) : It where
  go := fun j H => ∃ (us : List V) (u : V), SqT K H t us ∧ us[j]? = some u
  yld := fun j H v H' => ∃ N u, v = .ref N ∧ H N = none ∧ H' = upd H N (.tup [.int (j : Nat), u]) ∧ ∀ us, SqT K H t us → us[j]? = some u
  stop := fun j H => ∃ us : List V, SqT K H t us ∧ us.length ≤ j
theorem turn_enumT {P : Program} {w : World} {K : PySem.W.Frag} {es : List Expr} {n : Nat} {ps : Pos} (t e it : Addr) :
    Turn P w K (.Tuple es n ps) (IteT K t) [e, it] e (fun j h => (∃ last, IsEnum h e it ((j : Nat) : Int) last) ∧ h.IsTupleIter it t j ∧ e ≠ it ∧ t ≠ it ∧ t ≠ e) where
  mem := List.mem_cons_self
  obj := by
    rintro j h ⟨⟨last, a⟩, ⟨o, ho, hc, hd⟩, _⟩ b hb
    rcases List.mem_cons.mp hb with z | z
    · subst z
      exact ⟨_, a, fun v q => nomatch q⟩
    · have z' : b = it := List.mem_singleton.mp z
      subst z'
      exact ⟨o, ho, fun v q => by rw [hd] at q; cases q⟩
  keep := by
    rintro j h h' ⟨⟨last, a⟩, b, ne⟩ k
    exact ⟨⟨last, k e List.mem_cons_self _ a⟩, b.at fun o q => k it (List.mem_cons_of_mem _ List.mem_cons_self) o q, ne⟩
  self := fun A j s Q E st k => by
    obtain ⟨⟨_, a⟩, _⟩ := st
    exact wpAny_pyIter_enum a k
  done := by
    intro X hP hw hK hc j pins s σ H E I hf st hg
    subst hP hw hK
    obtain ⟨⟨last, a⟩, b, ne, nt, _⟩ := st
    obtain ⟨us, hq, hx⟩ := hg
    obtain ⟨its, rv, p, _⟩ := I.tuple hq
    obtain ⟨f0, f1, f2, f3, f4, f5⟩ := hf it (List.mem_cons_of_mem _ List.mem_cons_self)
    have ln := rv.length
    have isT : s.heap.IsTuple t its.toArray := p
    have T : s.TypeIs (.ref e) "enumerate" := ⟨_, a, rfl⟩
    unfold pyNext
    refine wpAny_bind (wpAny_attempt (wpAny_callSpecial?_slot (name := Str.ofString "__next__") T F.slot_enumerate_next (wpAny_call_entry F.slot_enumerate_next T F.entry_enumerate_next ?_ (F.args_enumerate_next_1 _))))
    show wpAny _ _ (field (.ref e) 2 >>= _) _ _ _
    refine wpAny_bind (wpAny_field a rfl (x := .ref it) rfl (wpAny_bind (RZ.nextOf_tuple_end (I.ok.hd hc) b isT (Array.getElem?_eq_none (by simp only [List.size_toArray]; omega)) fun h' x ext ⟨o, ho, hcl⟩ => ?_)))
    refine wpAny_bind (wpAny_isInstance (T := "StopIteration") (b := true) ⟨o, ho, hcl⟩ isSubtype_stop (wpAny_pure ⟨rfl, ?_⟩))
    exact I.turned (t' := s.toks) (fun b o hb q => ext b o hb q) f0 f1 f3 f4 f5
  item := by
    intro X hP hw hK hc j pins s σ H E I hf st hg
    subst hP hw hK
    obtain ⟨⟨last, a⟩, b, ne, nt, nte⟩ := st
    obtain ⟨us, u, hq, hx⟩ := hg
    obtain ⟨its, rv, p, _⟩ := I.tuple hq
    obtain ⟨y, hu, ru⟩ := rv.get hx
    have isT : s.heap.IsTuple t its.toArray := p
    have hel : e < s.heap.objs.size := Heap.lt_size a
    have hil : it < s.heap.objs.size := by obtain ⟨_, q, _⟩ := b; exact Heap.lt_size q
    have jl : j < its.toArray.size := by
      have := (List.getElem?_eq_some_iff.mp hu).1
      simpa using this
    have nef : e ∉ [it, t] := by
      intro z
      rcases List.mem_cons.mp z with z | z
      · exact ne z
      · exact nte (List.mem_singleton.mp z).symm
    refine wpAny_pyNext_enum_itemD (Draws.tup (A := X.A.in1) (I.ok.hd hc) it t nt its.toArray) a ⟨b, isT⟩ jl ne nef fun x h' tk got out st' hT sz keep => ?_
    have ex : x = y := by
      rw [List.getElem?_toArray, hu] at got
      exact (Option.some.inj got).symm
    subst ex
    refine ⟨_, rfl, wpAny_letOwnedTupleGo_enum (s := { s with heap := h', toks := tk + 1 }) out fun h'' e' same => ?_⟩
    have hT2 : h''.get? s.heap.objs.size = some { cls := .type "tuple", data := .seq #[.int j tk, x] } := (same.2 _ (Nat.ne_of_gt hel)).trans hT
    have I1 : Inv X pins σ (upd H s.heap.objs.size (.tup [.int (j : Nat), u])) { s with heap := h'', toks := tk + 1 } :=
      I.turnedNew (ch := [e, it]) (fun b o hb q => by
        have h1 : b ≠ e := fun z => hb (by rw [z]; exact List.mem_cons_self)
        have h2 : b ≠ it := fun z => hb (by rw [z]; exact List.mem_cons_of_mem _ List.mem_cons_self)
        exact (same.2 b h1).trans (keep b o h1 h2 q)) hf (Nat.le_refl _) ⟨by show 2 ≤ sizeLine; decide, [.int j tk, x], .cons ⟨_, rfl⟩ (.cons ru .nil), ⟨_, hT2, rfl, _, rfl⟩⟩
    refine ⟨.ref s.heap.objs.size, _, I1, rfl, ⟨_, u, rfl, I.fresh, rfl, fun ys hy => by rw [I.tuple_inj hy hq]; exact hx⟩, ⟨⟨x, ?_⟩, st'.1.at fun o q => (same.2 it (Ne.symm ne)).trans q, ne, nt, nte⟩, fun c hcm => ?_⟩
    · have en : ((j + 1 : Nat) : Int) = (j : Int) + 1 := by omega
      rw [en]; exact e'
    · have lt : c < s.heap.objs.size := by
        rcases List.mem_cons.mp hcm with z | z
        · rw [z]; exact hel
        · rw [List.mem_singleton.mp z]; exact hil
      rw [upd_ne (Nat.ne_of_lt lt)]
      exact (hf c hcm).1
theorem wlk_enumT {K : PySem.W.Frag} {S : AS} {H : Hp} {t : Addr} {vs : List V} {ps : List PyData} (q : SqT K H t vs) (r : Rps K S H vs ps) : Wlk K S H (IteT K t) (enumP ps) := fun S' H' g sl i => by
  have q' := SqT.grow g q
  have r' := Rps.grow g r
  refine ⟨fun h => ⟨vs, q', by rw [r'.length]; simpa [enumP] using h⟩, fun p hp => ?_⟩
  unfold enumP at hp
  rw [List.getElem?_map] at hp
  cases e : ps.zipIdx[i]? with
  | none => rw [e] at hp; cases hp
  | some d =>
    rw [e] at hp
    cases hp
    rw [List.getElem?_zipIdx] at e
    cases e0 : ps[i]? with
    | none => rw [e0] at e; cases e
    | some p =>
      rw [e0] at e
      cases e
      obtain ⟨v, e1, rv⟩ := r'.get e0
      refine ⟨⟨vs, v, q', e1⟩, fun x H'' ⟨T, y, ex, hT, eH, ey⟩ => .inr ⟨T, _, hT, eH, ?_⟩⟩
      have e2 := ey vs q'
      rw [e1] at e2
      cases e2
      subst ex eH
      simp only [Nat.zero_add]
      exact new_tup sl hT (.cons (.int _) (.cons rv .nil))
section
variable {X : Cx} {H0 : Hp} {P : PX} {a : Expr} {f : Nv → M W} {p pos tpos : Pos} {es : List Expr} {n : Nat}
/-- enumerate of a list or a tuple -/
theorem zEnm (hg : Gl X "enumerate") (hm : X.mg "enumerate" = none) (ha : PE X a (rdV X.K H0 P f)) (hp : plainE a = true) :
    PI X (.Tuple es n tpos) (.Call (.Name "enumerate" p) [a] [] pos) (rdI X.K H0 P fun e => bd (bd (f e) itemsM) fun xs => ret (enumP xs)) := by
  refine ⟨fun pins s σ H R I ⟨S, ρ, st, e, hs, he, h⟩ => ?_⟩
  have pa : PA X [a] (tCons (rdV X.K H0 P f) tNil) := pa_cons ha pa_nil (starEach_plain hp)
  have want : tCons (rdV X.K H0 P f) tNil σ H fun vs H1 => ∃ t us, vs = [.ref t] ∧ ((SqL X.K H1 t us ∧ R (Ite X.K t) H1) ∨ (SqT X.K H1 t us ∧ R (IteT X.K t) H1)) :=
    ⟨S, ρ, st, e, hs, he, (Wp.bd hs (Wp.bd hs h)).mono fun w st1 S1 ρ1 H1 x1 s1 q1 v rv => by
      obtain ⟨t, us, xs, ev, q2, rs, q3⟩ := items_of s1 rv q1
      subst ev
      refine ⟨t, us, rfl, ?_⟩
      rcases q2 with q2 | q2
      · exact .inl ⟨q2.sq, Wp.now s1 q3 _ (wlk_enum q2 rs)⟩
      · exact .inr ⟨q2, Wp.now s1 q3 _ (wlk_enumT q2 rs)⟩⟩
  refine Call_ (ld_blt I hg hm boot_enumerate (PyProof.Rows.callWith_type1 (thn (pa.run pos pins s σ H _ I want) fun us s1 ⟨vs, H1, I1, r1, t, ts, ev, q⟩ => ?_) (starEach_plain hp) rfl))
  subst ev
  obtain ⟨u, rfl, ru⟩ := vals1 r1
  obtain rfl : u = .ref t := ru
  have two : ∀ {c : Addr}, c ∈ [s1.heap.objs.size + 1, s1.heap.objs.size] → s1.heap.objs.size ≤ c := fun {c} hc => by
    rcases List.mem_cons.mp hc with z | z
    · rw [z]; exact Nat.le_succ _
    · rw [List.mem_singleton.mp z]; exact Nat.le_refl _
  rcases q with ⟨hq, q⟩ | ⟨hq, q⟩
  · obtain ⟨its, rv, p', _⟩ := I1.list hq
    exact call_enumerate_list p'.isList fun h' a b _ k => wpAny_pyIter_enum a ⟨s1.heap.objs.size + 1, [s1.heap.objs.size + 1, s1.heap.objs.size], _, _, H1, rfl, I1.kept (t' := s1.toks) k, turn_enum t _ _, ⟨⟨.none, a⟩, b, Nat.succ_ne_self _⟩, fun c hc => I1.fpOk (two hc) (I1.hok.fresh (two hc)), q⟩
  · obtain ⟨its, rv, p', _⟩ := I1.tuple hq
    have isT : s1.heap.IsTuple t its.toArray := p'
    have tl : t < s1.heap.objs.size := by obtain ⟨o, ho, _⟩ := isT; exact Heap.lt_size ho
    exact call_enum_tup isT fun h' a b k => wpAny_pyIter_enum a ⟨s1.heap.objs.size + 1, [s1.heap.objs.size + 1, s1.heap.objs.size], _, _, H1, rfl, I1.kept (t' := s1.toks) k, turn_enumT t _ _,
      ⟨⟨.none, a⟩, b, Nat.succ_ne_self _, Nat.ne_of_lt tl, Nat.ne_of_lt (Nat.lt_succ_of_lt tl)⟩, fun c hc => I1.fpOk (two hc) (I1.hok.fresh (two hc)), q⟩
end
end Zd
end
section
set_option Elab.async false
set_option linter.all false
set_option maxRecDepth 100000
set_option maxHeartbeats 2000000
/-! Zd7: targets of names, comprehensions. -/
namespace Zd
open PySem PySem.Spec L2
open PyProof.Rows hiding St

/-! ### environments -/
section
variable {K : PySem.W.Frag} {H0 : Hp} {S S' : AS} {ρ ρ' : List Addr} {H H' : Hp} {st : Store} {σ : St} {e : Nv} {v : V} {w : W}
theorem Re.put (r : Re K H0 S ρ H σ e) (rv : Rw K H0 S ρ H v w) (i : Nat) (h : isOwn w = false) : Re K H0 S ρ H (σ.set i (some v)) (e.set i (some w)) := by
  refine ⟨by rw [List.length_set, List.length_set]; exact r.len, fun j u hj => ?_, fun j k a ps qs hn h1 h2 h3 h4 => ?_⟩
  · by_cases z : i = j
    · subst z
      have hi : i < e.length := by
        have := (List.getElem?_eq_some_iff.mp hj).1
        simpa using this
      rw [List.getElem?_set_self hi] at hj
      cases hj
      exact ⟨v, List.getElem?_set_self (by rw [← r.len]; exact hi), rv⟩
    · rw [List.getElem?_set_ne z] at hj ⊢
      exact r.at_ j u hj
  · have ne : ∀ {j : Nat} {ps : List PyData}, (e.set i (some w))[j]? = some (some (.own ps)) → i ≠ j := fun {j ps} h1 z => by
      subst z
      have hi : i < e.length := by
        have := (List.getElem?_eq_some_iff.mp h1).1
        simpa using this
      rw [List.getElem?_set_self hi] at h1
      cases h1
      cases h
    have n1 := ne h1
    have n2 := ne h2
    rw [List.getElem?_set_ne n1] at h1 h3
    rw [List.getElem?_set_ne n2] at h2 h4
    exact r.sep j k a ps qs hn h1 h2 h3 h4
theorem Re.forget (r : Re K H0 S ρ H σ e) (i : Nat) : Re K H0 S ρ H (σ.set i none) (e.set i none) := by
  have back : ∀ {α : Type} {l : List (Option α)} {j : Nat} {u : α}, (l.set i none)[j]? = some (some u) → i ≠ j ∧ l[j]? = some (some u) := fun {α l j u} hj => by
    by_cases z : i = j
    · subst z
      have hi : i < l.length := by
        have := (List.getElem?_eq_some_iff.mp hj).1
        simpa using this
      rw [List.getElem?_set_self hi] at hj
      cases hj
    · rw [List.getElem?_set_ne z] at hj
      exact ⟨z, hj⟩
  refine ⟨by rw [List.length_set, List.length_set]; exact r.len, fun j u hj => ?_, fun j k a ps qs hn h1 h2 h3 h4 => r.sep j k a ps qs hn (back h1).2 (back h2).2 (back h3).2 (back h4).2⟩
  obtain ⟨z, hj⟩ := back hj
  obtain ⟨v, e1, e2⟩ := r.at_ j u hj
  exact ⟨v, by rw [List.getElem?_set_ne z]; exact e1, e2⟩
theorem Re.wipe (r : Re K H0 S ρ H σ e) : ∀ vs : List Nat, Re K H0 S ρ H (L2.wipe σ vs) (wipeE e vs)
  | [] => r
  | v :: vs => (Re.wipe r vs).forget v
def noOwn (e : Nv) : Prop := ∀ (i : Nat) ps, e[i]? ≠ some (some (.own ps))
theorem noOwn_hide (e : Nv) : noOwn (hide e) := fun i ps h => by
  unfold hide at h
  rw [List.getElem?_map] at h
  cases he : e[i]? with
  | none => rw [he] at h; cases h
  | some o =>
    rw [he] at h
    cases o with
    | none => cases h
    | some w => cases w <;> cases h
theorem Re.hide (r : Re K H0 S ρ H σ e) : Re K H0 S ρ H σ (Zd.hide e) := by
  refine ⟨by unfold Zd.hide; rw [List.length_map]; exact r.len, fun i w h => ?_, fun i j a ps qs hn h1 _ _ _ => absurd h1 (noOwn_hide e i ps)⟩
  unfold Zd.hide at h
  rw [List.getElem?_map] at h
  cases he : e[i]? with
  | none => rw [he] at h; cases h
  | some o =>
    rw [he] at h
    cases o with
    | none => cases h
    | some u =>
      cases u <;> cases h
      all_goals exact r.at_ i _ he
theorem noOwn.wipe {e : Nv} (h : noOwn e) : ∀ vs : List Nat, noOwn (wipeE e vs)
  | [] => h
  | v :: vs => fun i ps z => by
    have ih := noOwn.wipe h vs
    unfold wipeE at z
    by_cases q : v = i
    · subst q
      have hi : v < (wipeE e vs).length := by
        have := (List.getElem?_eq_some_iff.mp z).1
        simpa using this
      rw [List.getElem?_set_self hi] at z
      cases z
    · rw [List.getElem?_set_ne q] at z
      exact ih i ps z
theorem Rw.grow (g : Grow K S H S' H') (rho : ∃ nw, ρ' = ρ ++ nw) (r : Rw K H0 S ρ H v w) (h : isOwn w = false) : Rw K H0 S' ρ' H' v w := by
  cases w with
  | d p => exact Rp.grow g r
  | box n =>
    obtain ⟨a, h1, h2⟩ := r
    obtain ⟨nw, e1⟩ := rho
    exact ⟨a, by rw [e1, List.getElem?_append_left (List.getElem?_eq_some_iff.mp h1).1]; exact h1, h2⟩
  | own ps => cases h
  | rd ps =>
    obtain ⟨a, vs, h1, q, h6⟩ := r
    exact ⟨a, vs, h1, LsK.grow g q, Rps.grow g h6⟩
theorem Re.grow (g : Grow K S H S' H') (rho : ∃ nw, ρ' = ρ ++ nw) (n : noOwn e) (r : Re K H0 S ρ H σ e) : Re K H0 S' ρ' H' σ e :=
  ⟨r.len, fun i w h => let ⟨v, h1, h2⟩ := r.at_ i w h; ⟨v, h1, h2.grow g rho (by cases w with | own ps => exact absurd h (n i ps) | _ => rfl)⟩, r.sep⟩

/-! ### targets of names -/
mutual
def pureT : T → Bool
  | .nm _ => true
  | .tp ts => pureTs ts
  | _ => false
def pureTs : List T → Bool
  | [] => true
  | t :: ts => pureT t && pureTs ts
end
mutual
def tgI : T → List Nat
  | .nm i => [i]
  | .tp ts => tgIs ts
  | .st i => [i]
  | .sb _ _ => []
def tgIs : List T → List Nat
  | [] => []
  | t :: ts => tgI t ++ tgIs ts
end
theorem bd_ok {α β : Type} {m : M α} {k : α → M β} {st st' : Store} {b : β} (h : bd m k st = .ok b st') : ∃ a st1, m st = .ok a st1 ∧ k a st1 = .ok b st' := by
  unfold bd at h
  cases e : m st with
  | ok a st1 => rw [e] at h; exact ⟨a, st1, rfl, h⟩
  | exc x st1 => rw [e] at h; cases h
  | bad => rw [e] at h; cases h
theorem want_ok {α : Type} {c : Bool} {m : M α} {st st' : Store} {b : α} (h : want c m st = .ok b st') : c = true ∧ m st = .ok b st' := by
  cases c with
  | true => exact ⟨rfl, h⟩
  | false => cases h
theorem asgTs_cons {t : T} {ts : List T} {xs : List PyData} {e e' : Nv} {st st' : Store} (hp : pureT t = true) (h : asgTs (t :: ts) xs e st = .ok e' st') :
    ∃ x r e1 st1, xs = x :: r ∧ asgT t (.d x) e st = .ok e1 st1 ∧ asgTs ts r e1 st1 = .ok e' st' := by
  cases xs with
  | nil => cases t <;> first | (cases hp; done) | (unfold asgTs at h; cases h)
  | cons x r =>
    cases t <;> first | (cases hp; done) | skip
    all_goals
      unfold asgTs at h
      obtain ⟨e1, st1, h1, h2⟩ := bd_ok h
      exact ⟨x, r, e1, st1, rfl, h1, h2⟩
mutual
theorem asgT_pure : ∀ {t : T} {w : W} {e e' : Nv} {st st' : Store}, pureT t = true → asgT t w e st = .ok e' st' → st' = st ∧ (noOwn e → noOwn e')
  | .nm i, .d p, e, e', st, st', _, h => by
    unfold asgT at h
    cases h
    exact ⟨rfl, fun n j ps z => by
      by_cases q : i = j
      · subst q
        have hi : i < e.length := by
          have := (List.getElem?_eq_some_iff.mp z).1
          simpa using this
        rw [List.getElem?_set_self hi] at z
        cases z
      · rw [List.getElem?_set_ne q] at z
        exact n j ps z⟩
  | .nm i, .box k, e, e', st, st', _, h => by
    unfold asgT at h
    cases h
    exact ⟨rfl, fun n j ps z => by
      by_cases q : i = j
      · subst q
        have hi : i < e.length := by
          have := (List.getElem?_eq_some_iff.mp z).1
          simpa using this
        rw [List.getElem?_set_self hi] at z
        cases z
      · rw [List.getElem?_set_ne q] at z
        exact n j ps z⟩
  | .nm i, .own _, e, e', st, st', _, h => by unfold asgT at h; cases h
  | .nm i, .rd _, e, e', st, st', _, h => by unfold asgT at h; cases h
  | .tp ts, .d (.tuple xs), e, e', st, st', hp, h => by
    unfold asgT at h
    exact asgTs_pure (ts := ts) (by unfold pureT at hp; exact hp) (want_ok h).2
  | .tp ts, .d .none, e, e', st, st', _, h => by unfold asgT at h; cases h
  | .tp ts, .d (.bool _), e, e', st, st', _, h => by unfold asgT at h; cases h
  | .tp ts, .d (.int _), e, e', st, st', _, h => by unfold asgT at h; cases h
  | .tp ts, .d (.str _), e, e', st, st', _, h => by unfold asgT at h; cases h
  | .tp ts, .d (.list _), e, e', st, st', _, h => by unfold asgT at h; cases h
  | .tp ts, .d (.dict _), e, e', st, st', _, h => by unfold asgT at h; cases h
  | .tp ts, .box _, e, e', st, st', _, h => by unfold asgT at h; cases h
  | .tp ts, .own _, e, e', st, st', _, h => by unfold asgT at h; cases h
  | .tp ts, .rd _, e, e', st, st', _, h => by unfold asgT at h; cases h
theorem asgTs_pure : ∀ {ts : List T} {xs : List PyData} {e e' : Nv} {st st' : Store}, pureTs ts = true → asgTs ts xs e st = .ok e' st' → st' = st ∧ (noOwn e → noOwn e')
  | [], xs, e, e', st, st', _, h => by
    cases xs with
    | nil => unfold asgTs at h; cases h; exact ⟨rfl, id⟩
    | cons x r => unfold asgTs at h; cases h
  | t :: ts, xs, e, e', st, st', hp, h => by
    unfold pureTs at hp
    rw [Bool.and_eq_true] at hp
    obtain ⟨x, r, e1, st1, _, h1, h2⟩ := asgTs_cons hp.1 h
    obtain ⟨q1, q2⟩ := asgT_pure hp.1 h1
    subst q1
    obtain ⟨q3, q4⟩ := asgTs_pure hp.2 h2
    exact ⟨q3, fun n => q4 (q2 n)⟩
end
theorem asgTs_len : ∀ {ts : List T} {xs : List PyData} {e e' : Nv} {st st' : Store}, pureTs ts = true → asgTs ts xs e st = .ok e' st' → xs.length = ts.length
  | [], xs, e, e', st, st', _, h => by
    cases xs with
    | nil => rfl
    | cons x r => unfold asgTs at h; cases h
  | t :: ts, xs, e, e', st, st', hp, h => by
    unfold pureTs at hp
    rw [Bool.and_eq_true] at hp
    obtain ⟨x, r, e1, st1, rfl, h1, h2⟩ := asgTs_cons hp.1 h
    rw [List.length_cons, List.length_cons, asgTs_len hp.2 h2]
theorem wipe_set {σ : St} {i : Nat} {x : Option V} : ∀ {vs : List Nat}, i ∈ vs → wipe (σ.set i x) vs = wipe σ vs
  | [], h => by cases h
  | v :: vs, h => by
    unfold wipe
    by_cases q : v = i
    · subst q
      have key : ∀ (us : List Nat), (wipe (σ.set v x) us).set v none = (wipe σ us).set v none := fun us => by
        induction us with
        | nil => unfold wipe; rw [List.set_set]
        | cons u us ih =>
          unfold wipe
          by_cases z : u = v
          · subst z; rw [List.set_set, List.set_set]; exact ih
          · rw [List.set_comm _ _ z, List.set_comm _ _ z, ih]
      exact key vs
    · rw [wipe_set (List.mem_of_ne_of_mem (fun z => q z.symm) h)]
theorem wipe_twice (σ : St) : ∀ vs : List Nat, wipe (wipe σ vs) vs = wipe σ vs := fun vs => by
  have gen : ∀ us : List Nat, (∀ u ∈ us, u ∈ vs) → wipe (wipe σ us) vs = wipe σ vs := fun us => by
    induction us with
    | nil => intro _; rfl
    | cons u us ih =>
      intro h
      show wipe ((wipe σ us).set u none) vs = _
      rw [wipe_set (h u List.mem_cons_self)]
      exact ih fun z hz => h z (List.mem_cons_of_mem _ hz)
  exact gen vs fun _ h => h
end
section
/-- a target of names takes a value -/
def rdG (K : PySem.W.Frag) (H0 : Hp) (t : T) : TG := fun v σ H Q => ∃ S ρ st e p e', Sta K S ρ H st ∧ Re K H0 S ρ H σ e ∧ Rp K S H v p ∧ asgT t (.d p) e st = .ok e' st ∧ ∀ σ', Re K H0 S ρ H σ' e' → (∀ vs : List Nat, (∀ i ∈ tgI t, i ∈ vs) → wipe σ' vs = wipe σ vs) → Q σ' H
def rdGs (K : PySem.W.Frag) (H0 : Hp) (ts : List T) : TGs := fun vs σ H Q => ∃ S ρ st e ps e', Sta K S ρ H st ∧ Re K H0 S ρ H σ e ∧ Rps K S H vs ps ∧ asgTs ts ps e st = .ok e' st ∧ ∀ σ', Re K H0 S ρ H σ' e' → (∀ vs : List Nat, (∀ i ∈ tgIs ts, i ∈ vs) → wipe σ' vs = wipe σ vs) → Q σ' H
theorem pgImp {X : Cx} {e : Expr} {t t' : TG} (h : PG X e t) (f : ∀ v σ H Q, t' v σ H Q → t v σ H Q) : PG X e t' := ⟨fun pins s σ H v u Q I r q => h.run pins s σ H v u Q I r (f _ _ _ _ q)⟩
theorem pgsImp {X : Cx} {e : List Expr} {t t' : TGs} (h : PGs X e t) (f : ∀ v σ H Q, t' v σ H Q → t v σ H Q) : PGs X e t' := ⟨fun pins s σ H v u Q I r q => h.run pins s σ H v u Q I r (f _ _ _ _ q)⟩
variable {X : Cx} {H0 : Hp} {pos : Pos}
theorem gNm {i : Nat} {x : Str} (hN : X.N.Nodup) (hi : X.N[i]? = some x) (hx : Loc X.env.scope x) (hf : X.fn x = true ∨ X.env.scope.names.lookup x = some .local) : PG X (.Name x pos) (rdG X.K H0 (.nm i)) :=
  pgImp (pg_name hN hi hx hf) fun v σ H Q ⟨S, ρ, st, e, p, e', hs, he, rv, eq, q⟩ => by
    unfold asgT at eq
    cases eq
    exact q _ (Re.put (w := .d p) he rv i rfl) fun vs h => wipe_set (h i (by unfold tgI; simp))
theorem gTp {ts : List T} {es : List Expr} {k n : Nat} (hc : X.calm = true) (h : PGs X es (rdGs X.K H0 ts)) (hn : (assignEach es X.env).length = n) (hst : (assignEach es X.env).findIdx? (·.1) = none) (hl : ts.length = n) (hp : pureT (.tp ts) = true) : PG X (.Tuple es k pos) (rdG X.K H0 (.tp ts)) :=
  pgImp (pg_tup (n := n) hc h hn hst) fun v σ H Q ⟨S, ρ, st, e, p, e', hs, he, rv, eq, q⟩ => by
    cases p <;> first | (unfold asgT at eq; cases eq; done) | skip
    unfold asgT at eq
    replace eq := (want_ok eq).2
    rename_i xs
    cases rv with
    | tup sq rs =>
      refine ⟨_, _, rfl, sq, ?_, S, ρ, st, e, xs, e', hs, he, rs, eq, fun σ' r' w' => q σ' r' fun vs h => w' vs (by unfold tgI at h; exact h)⟩
      rw [rs.length, ← hl]
      exact asgTs_len (by unfold pureT at hp; exact hp) eq
end
end Zd
end
section
set_option Elab.async false
set_option linter.all false
set_option maxRecDepth 100000
set_option maxHeartbeats 2000000
/-! Zd8: comprehensions. -/
namespace Zd
open PySem PySem.Spec L2
open PyProof.Rows hiding St

def noStar : Expr → Bool
  | .Starred _ _ => false
  | _ => true
theorem assignEach_plain {e : Expr} {es : List Expr} {env : Env} (h : noStar e = true) : assignEach (e :: es) env = (false, assign e env) :: assignEach es env := by
  cases e <;> first | rfl | cases h
theorem assignEach_len {env : Env} : ∀ es : List Expr, (assignEach es env).length = es.length
  | [] => rfl
  | e :: es => by
    have ih := assignEach_len (env := env) es
    cases e <;> (show (assignEach es env).length + 1 = _; rw [ih]; rfl)
theorem assignEach_no {env : Env} : ∀ es : List Expr, es.all noStar = true → (assignEach es env).findIdx? (·.1) = none
  | [], _ => rfl
  | e :: es, h => by
    rw [List.all_cons, Bool.and_eq_true] at h
    rw [assignEach_plain h.1, List.findIdx?_cons, assignEach_no es h.2]
    rfl
section
variable {X : Cx} {H0 : Hp} {pos : Pos}
theorem gNilS : PGs X [] (rdGs X.K H0 []) := pgsImp pgs_nil fun vs σ H Q ⟨S, ρ, st, e, ps, e', hs, he, rs, eq, q⟩ => by
  cases ps with
  | cons p ps => unfold asgTs at eq; cases eq
  | nil =>
    cases rs
    unfold asgTs at eq
    cases eq
    exact ⟨rfl, q _ he fun _ _ => rfl⟩
theorem gConsS {t : T} {ts : List T} {x : Expr} {xs : List Expr} (h1 : PG X x (rdG X.K H0 t)) (h2 : PGs X xs (rdGs X.K H0 ts)) (hp : pureT t = true) (hn : noStar x = true) : PGs X (x :: xs) (rdGs X.K H0 (t :: ts)) :=
  pgsImp (pgs_cons h1 h2 (by rw [assignEach_plain hn]; rfl)) fun vs σ H Q ⟨S, ρ, st, e, ps, e', hs, he, rs, eq, q⟩ => by
    obtain ⟨p, r, e1, st1, rfl, g1, g2⟩ := asgTs_cons hp eq
    have z := (asgT_pure hp g1).1
    subst z
    cases rs with
    | cons rv rr =>
      refine ⟨_, _, rfl, S, ρ, st1, e, p, e1, hs, he, rv, g1, fun σ1 r1 w1 => ⟨S, ρ, st1, e1, r, e', hs, r1, rr, g2, fun σ2 r2 w2 => q σ2 r2 fun vs h => ?_⟩⟩
      unfold tgIs at h
      rw [w2 vs fun i hi => h i (List.mem_append_right _ hi), w1 vs fun i hi => h i (List.mem_append_left _ hi)]
end

/-! ### the growing list -/
section
variable {K : PySem.W.Frag} {S1 S S' : AS} {ρ1 ρ ρ' : List Addr} {H1 H H' : Hp} {D : Addr} {st st' : Store} {ps : List PyData}
structure Gro (K : PySem.W.Frag) (S : AS) (ρ : List Addr) (H : Hp) (S' : AS) (ρ' : List Addr) (H' : Hp) : Prop where
  g : Grow K S H S' H'
  rho : ∃ nw, ρ' = ρ ++ nw
  th : ∀ a, H' a = none → H a = none
theorem Ext.gro (x : Ext K S ρ H S' ρ' H') (s : Sta K S ρ H st) : Gro K S ρ H S' ρ' H' := ⟨x.grow s, let ⟨nw, e, _⟩ := x.rho; ⟨nw, e⟩, x.th⟩
theorem Gro.trans {S2 : AS} {ρ2 : List Addr} {H2 : Hp} (x : Gro K S ρ H S' ρ' H') (y : Gro K S' ρ' H' S2 ρ2 H2) : Gro K S ρ H S2 ρ2 H2 := by
  obtain ⟨n1, e1⟩ := x.rho
  obtain ⟨n2, e2⟩ := y.rho
  refine ⟨⟨fun a h => ?_, fun a o n q => ?_, x.g.sl⟩, ⟨n1 ++ n2, by rw [e2, e1, List.append_assoc]⟩, fun a h => x.th a (y.th a h)⟩
  · rcases y.g.up a h with h | h
    · exact x.g.up a h
    · exact .inr (x.th a h)
  · have q' := x.g.keep a o n q
    refine y.g.keep a o (fun z => ?_) q'
    rcases x.g.up a z with z | z
    · exact n z
    · rw [z] at q; cases q
structure Md (K : PySem.W.Frag) (S1 : AS) (ρ1 : List Addr) (H1 : Hp) (D : Addr) (st : Store) (ps : List PyData) (S : AS) (ρ : List Addr) (H : Hp) : Prop where
  ext : Ext K S1 ρ1 H1 S ρ H
  sta : Sta K S ρ H st
  inS : S D
  out : D ∉ ρ
  acc : ∃ us, H D = some (.lst us) ∧ Rps K S H us ps
theorem Md.start (s : Sta K S1 ρ1 H1 st) (hD : H1 D = none) : Md K S1 ρ1 H1 D st [] (fun a => S1 a ∨ a = D) ρ1 (upd H1 D (.lst [])) :=
  let ⟨x, s'⟩ := new_mut s hD []
  ⟨x, s', .inr rfl, fun z => s.free hD (s.rs D z), ⟨[], upd_same, .nil⟩⟩
theorem Md.later (m : Md K S1 ρ1 H1 D st ps S ρ H) (s1 : Sta K S1 ρ1 H1 st') (x : Ext K S ρ H S' ρ' H') {st2 : Store} (s : Sta K S' ρ' H' st2) : Md K S1 ρ1 H1 D st2 ps S' ρ' H' := by
  obtain ⟨us, e, r⟩ := m.acc
  refine ⟨m.ext.trans s1 x, s, x.su D m.inS, fun z => ?_, ⟨us, x.keep D _ m.out e, Rps.ext x m.sta r⟩⟩
  obtain ⟨nw, e1, f⟩ := x.rho
  rw [e1] at z
  rcases List.mem_append.mp z with z | z
  · exact m.out z
  · rw [f D z] at e; cases e
/-- an item is put behind the others -/
theorem Md.push (m : Md K S1 ρ1 H1 D st ps S ρ H) (hD : H1 D = none) {v : V} {p : PyData} (r : Rp K S H v p) : ∃ us, H D = some (.lst us) ∧ us.length = ps.length ∧ Md K S1 ρ1 H1 D st (ps ++ [p]) S ρ (upd H D (.lst (us ++ [v]))) ∧ Gro K S ρ H S ρ (upd H D (.lst (us ++ [v]))) := by
  obtain ⟨us, e, rs⟩ := m.acc
  have g : Grow K S H S (upd H D (.lst (us ++ [v]))) := ⟨fun _ h => .inl h, fun a o n q => by rw [upd_ne (fun z => n (by rw [z]; exact m.inS))]; exact q, m.sta.sl⟩
  refine ⟨us, e, rs.length, ⟨⟨m.ext.rho, m.ext.su, m.ext.up, fun a o n q => ?_, fun a q => ?_⟩, ⟨fun a h => ?_, m.sta.rs, m.sta.nd, m.sta.len, fun n a qs h1 h2 => ?_⟩, m.inS, m.out, ⟨_, upd_same, ?_⟩⟩, ⟨g, ⟨[], by simp⟩, fun a q => ?_⟩⟩
  · rw [upd_ne (fun z => by rw [z, hD] at q; cases q)]
    exact m.ext.keep a o n q
  · by_cases z : a = D
    · rw [z]; exact hD
    · rw [upd_ne z] at q; exact m.ext.th a q
  · by_cases z : a = D
    · rw [z]; exact ⟨_, upd_same⟩
    · obtain ⟨xs, q⟩ := m.sta.sl a h
      exact ⟨xs, by rw [upd_ne z]; exact q⟩
  · obtain ⟨ys, q, ry⟩ := m.sta.bx n a qs h1 h2
    refine ⟨ys, ?_, Rps.grow g ry⟩
    rw [upd_ne (fun z => m.out (by rw [← z]; exact List.mem_of_getElem? h1))]
    exact q
  · exact (Rps.grow g rs).append (.cons (Rp.grow g r) .nil)
  · by_cases z : a = D
    · rw [z, upd_same] at q; cases q
    · rw [upd_ne z] at q; exact q
/-- it is finished -/
theorem Md.stop (m : Md K S1 ρ1 H1 D st ps S ρ H) (s1 : Sta K S1 ρ1 H1 st') (hD : H1 D = none) :
    ∃ S2, Ext K S1 ρ1 H1 S2 ρ H ∧ Sta K S2 ρ H st ∧ ¬ S2 D ∧ ∃ us, H D = some (.lst us) ∧ Sta K (fun b => S2 b ∨ b = D) ρ H st ∧ Rps K (fun b => S2 b ∨ b = D) H us ps := by
  obtain ⟨us, e, rs⟩ := m.acc
  have g : Grow K S H (fun a => S a ∧ a ≠ D) H := ⟨fun _ h => .inl h.1, fun _ _ _ q => q, m.sta.sl⟩
  have same : (fun b => (S b ∧ b ≠ D) ∨ b = D) = S := by
    funext b
    refine propext ⟨fun h => ?_, fun h => ?_⟩
    · rcases h with h | h
      · exact h.1
      · rw [h]; exact m.inS
    · by_cases z : b = D
      · exact .inr z
      · exact .inl ⟨h, z⟩
  refine ⟨fun a => S a ∧ a ≠ D, ⟨m.ext.rho, fun a h => ⟨m.ext.su a h, fun z => s1.free hD (z ▸ h)⟩, fun a h => m.ext.up a h.1, m.ext.keep, m.ext.th⟩, ⟨fun a h => m.sta.sl a h.1, fun a h => ⟨m.sta.rs a h, fun z => m.out (z ▸ h)⟩, m.sta.nd, m.sta.len, fun n a qs h1 h2 => ?_⟩, fun h => h.2 rfl, us, e, ?_, ?_⟩
  · obtain ⟨ys, q, ry⟩ := m.sta.bx n a qs h1 h2
    exact ⟨ys, q, Rps.grow g ry⟩
  · rw [same]; exact m.sta
  · rw [same]; exact rs
/-- a walk has handed out an item -/
theorem Md.item (m : Md K S1 ρ1 H1 D st ps S ρ H) (s1 : Sta K S1 ρ1 H1 st') {H2 : Hp} {x : V} {p : PyData} (h : (H2 = H ∧ Rp K S H x p) ∨ ∃ T o, H T = none ∧ H2 = upd H T o ∧ Rp K S H2 x p) : Md K S1 ρ1 H1 D st ps S ρ H2 ∧ Ext K S ρ H S ρ H2 ∧ Rp K S H2 x p := by
  rcases h with ⟨rfl, r⟩ | ⟨T, o, hT, rfl, r⟩
  · exact ⟨m, .refl, r⟩
  · exact ⟨m.later s1 (.new hT) (m.sta.new hT), .new hT, r⟩
end
theorem compL_cons {α : Type} {f : PyData → M (List α)} {p : PyData} {r : List PyData} {st st' : Store} {a : List α} (h : compL f (p :: r) st = .ok a st') : ∃ b st1 c, f p st = .ok b st1 ∧ compL f r st1 = .ok c st' ∧ a = b ++ c := by
  unfold compL at h
  obtain ⟨b, st1, h1, h2⟩ := bd_ok h
  obtain ⟨c, st2, h3, h4⟩ := bd_ok h2
  cases h4
  exact ⟨b, st1, c, h1, h3, rfl⟩
theorem compL_nil {α : Type} {f : PyData → M (List α)} {st st' : Store} {a : List α} (h : compL f [] st = .ok a st') : a = [] ∧ st' = st := by
  unfold compL at h
  cases h
  exact ⟨rfl, rfl⟩
section
variable {K : PySem.W.Frag} {H0 : Hp} {P PF : PX} {S1 : AS} {ρ1 : List Addr} {H1 : Hp} {st1 : Store} {D : Addr} {σ : St} {e : Nv} {t : List (Nv → M Bool)} {g : Nv → M W}
/-- .. its tests and value, from a state within -/
theorem one_of {S : AS} {ρ : List Addr} {H : Hp} {st st' : Store} {ps a : List PyData} (s1 : Sta K S1 ρ1 H1 st1) (hD : H1 D = none) (m : Md K S1 ρ1 H1 D st ps S ρ H) (he : Re K H0 S ρ H σ e) (h : oneM t g e st = .ok a st') (hz : ps.length + a.length ≤ line) {Nx : Hp → Prop}
    (hN : ∀ S' ρ' H', Gro K S ρ H S' ρ' H' → Md K S1 ρ1 H1 D st' (ps ++ a) S' ρ' H' → Nx H') :
    rdB K H0 PF (testsL t) σ H fun b H3 => if b = true then rdV K H0 PF g σ H3 fun y H4 => ∃ acc, H4 D = some (.lst acc) ∧ acc.length < sizeLine ∧ Nx (upd H4 D (.lst (acc ++ [y]))) else Nx H3 := by
  unfold oneM at h
  obtain ⟨k, st3, h1, h2⟩ := bd_ok h
  refine ⟨S, ρ, st, e, m.sta, he, ?_⟩
  rw [h1]
  intro S3 ρ3 H3 x3 s3
  have m3 := m.later s1 x3 s3
  have r3 := x3.gro m.sta
  cases k with
  | false =>
    cases h2
    rw [List.append_nil] at hN
    show if false = true then _ else _
    rw [if_neg Bool.false_ne_true]
    exact hN S3 ρ3 H3 r3 m3
  | true =>
    obtain ⟨w, st4, h3, h4⟩ := bd_ok h2
    show if true = true then _ else _
    rw [if_pos rfl]
    refine ⟨S3, ρ3, st3, e, s3, he.ext x3 m.sta, ?_⟩
    rw [h3]
    intro S4 ρ4 H4 x4 s4 v rv
    cases w with
    | d p =>
      cases h4
      have m4 := m3.later s1 x4 s4
      obtain ⟨us, e1, e2, m5, g5⟩ := m4.push hD (show Rp K S4 H4 v p from rv)
      refine ⟨us, e1, ?_, hN S4 ρ4 _ ((r3.trans (x4.gro s3)).trans g5) m5⟩
      rw [e2, sizeLine_is]
      simp only [List.length_cons, List.length_nil] at hz
      omega
    | _ => cases h4
end
section
variable {X : Cx} {H0 : Hp} {P PF : PX} {tg iter elt : Expr} {ifs : List Expr} {scope : Scope} {own : List (Str × Nat)} {pos : Pos} {it : Nv → M (List PyData)} {T : T} {t : List (Nv → M Bool)} {g : Nv → M W}
theorem lcImp {vs : List Nat} (hp : pureT T = true) (hw : ∀ i ∈ tgI T, i ∈ vs) : ∀ σ H Q, rdN X.K H0 P (fun e => bd (it e) fun xs => bd (lim (compL (fun x => bd (asgT T (.d x) (wipeE e vs)) (oneM t g)) xs)) fun ps => ret (.d (.list ps))) σ H Q →
    tLc (rdI X.K H0 P it) (rdG X.K H0 T) (rdB X.K H0 PF (testsL t)) (rdV X.K H0 PF g) vs σ H Q :=
  fun σ H Q ⟨S, ρ, st, e, hs, he, h⟩ => ⟨S, ρ, st, e, hs, he, (Wp.bd hs h).mono fun xs st1 S1 ρ1 H1 x1 s1 q1 J wl D hD => by
    generalize hF : (fun x => bd (asgT T (.d x) (wipeE e vs)) (oneM t g)) = F at q1
    cases eL : compL F xs st1 with
    | bad => unfold Zd.bd lim at q1; rw [eL] at q1; exact False.elim q1
    | exc _ _ => unfold Zd.bd lim at q1; rw [eL] at q1; exact False.elim q1
    | ok all stE =>
      unfold Zd.bd lim at q1
      rw [eL] at q1
      cases ez : decide (all.length ≤ line) with
      | false => simp only [ez] at q1; exact False.elim q1
      | true =>
        simp only [ez] at q1
        have hz : all.length ≤ line := of_decide_eq_true ez
        have q2 : Wp X.K S1 ρ1 H1 P _ (.ok (W.d (.list all)) stE) := q1
        refine ⟨fun i m H' => m = xs.length - i ∧ i ≤ xs.length ∧ ∃ S' ρ' st' ps rest, Md X.K S1 ρ1 H1 D st' ps S' ρ' H' ∧ compL F (xs.drop i) st' = .ok rest stE ∧ all = ps ++ rest,
          ⟨xs.length, by simp, Nat.zero_le _, _, _, st1, [], all, .start s1 hD, eL, rfl⟩, ?_⟩
        rintro i m H' ⟨rfl, hi, S', ρ', st', ps, rest, md, eq, eall⟩
        have W := wl S' H' (md.ext.grow s1) md.sta.sl i
        by_cases hlt : i < xs.length
        · have hp' : xs[i]? = some xs[i] := List.getElem?_eq_getElem hlt
          obtain ⟨go, yl⟩ := W.2 _ hp'
          rw [List.drop_eq_getElem_cons hlt] at eq
          obtain ⟨b, st2, c, f1, f2, rfl⟩ := compL_cons eq
          subst hF
          obtain ⟨e1, st3, g1, g2⟩ := bd_ok f1
          have z := (asgT_pure hp g1).1
          subst z
          refine .inr ⟨go, fun H' => ∃ S' ρ' st' ps rest, Md X.K S1 ρ1 H1 D st' ps S' ρ' H' ∧ compL _ (xs.drop (i + 1)) st' = .ok rest stE ∧ all = ps ++ rest, fun H' h => ⟨xs.length - (i + 1), by omega, rfl, hlt, h⟩, fun x H2 y => ?_⟩
          obtain ⟨md2, x2, rx⟩ := md.item s1 (yl x H2 y)
          refine ⟨S', ρ', st3, _, xs[i], e1, md2.sta, Re.wipe ((he.ext x1 hs).ext md2.ext s1) _, rx, g1, fun σ2 r2 w2 => ?_⟩
          have w3 := w2 _ hw
          refine ⟨by rw [w3, wipe_twice], one_of s1 hD md2 r2 g2 ?_ fun S5 ρ5 H5 _ m5 => ⟨S5, ρ5, st2, _, c, m5, f2, by rw [eall, List.append_assoc]⟩⟩
          rw [eall] at hz
          simp only [List.length_append] at hz
          omega
        · have ei : i = xs.length := by omega
          subst ei
          rw [List.drop_length] at eq
          obtain ⟨rfl, rfl⟩ := compL_nil eq
          rw [List.append_nil] at eall
          subst eall
          obtain ⟨S2, x2, s2, n2, us, e2, s3, r2⟩ := md.stop s1 hD
          refine .inl ⟨W.1 (Nat.le_refl _), q2 S2 ρ' H' x2 s2 D us _ rfl (x1.th D hD) n2 md.out e2 s3 r2⟩⟩
theorem zComp (hc : X.calm = true) (hN : X.N.Nodup) (hi : PI X tg iter (rdI X.K H0 P it)) (ok : BlkOk X.N X.env.scope scope own)
    (hg : ∀ (s : Shared) (H : Hp) (C : Addr) (cl : List (Str × Addr)) (fp : List Addr), PG (X.blk s H scope (compEnvC scope cl C X.env) fp) tg (rdG X.K H0 T))
    (ht : ∀ (s : Shared) (H : Hp) (C : Addr) (cl : List (Str × Addr)) (fp : List Addr), PTs (X.blk s H scope (compEnvC scope cl C X.env) fp) ifs (rdB X.K H0 PF (testsL t)))
    (he : ∀ (s : Shared) (H : Hp) (C : Addr) (cl : List (Str × Addr)) (fp : List Addr), PE (X.blk s H scope (compEnvC scope cl C X.env) fp) elt (rdV X.K H0 PF g)) (hs : ∀ x, foldedSetIterable iter X.env x = pure x)
    (hp : pureT T = true) (hw : ∀ i ∈ tgI T, i ∈ own.map (·.2)) :
    PE X (.ListComp elt [⟨tg, iter, ifs, 0⟩] scope pos) (rdN X.K H0 P fun e => bd (it e) fun xs => bd (lim (compL (fun x => bd (asgT T (.d x) (wipeE e (own.map (·.2)))) (oneM t g)) xs)) fun ps => ret (.d (.list ps))) :=
  peImp (pe_lc hc hN hi ok hg ht he hs) (lcImp hp hw)
theorem rdB_imp {K : PySem.W.Frag} {f : Nv → M Bool} {σ : St} {H : Hp} {Q Q' : Bool → Hp → Prop} (h : rdB K H0 P f σ H Q) (q : ∀ b H', Q b H' → Q' b H') : rdB K H0 P f σ H Q' :=
  let ⟨S, ρ, st, e, hs, he, h⟩ := h
  ⟨S, ρ, st, e, hs, he, h.mono fun _ _ _ _ _ _ _ z => q _ _ z⟩
theorem lcImp2 {T1 : Zd.T} {t1 : List (Nv → M Bool)} {it1 : Nv → M (List PyData)} {vs vs1 : List Nat} (hp : pureT T = true) (hw : ∀ i ∈ tgI T, i ∈ vs) (hp1 : pureT T1 = true) (hw1 : ∀ i ∈ tgI T1, i ∈ vs1) :
    ∀ σ H Q, rdN X.K H0 P (fun e => bd (it e) fun xs => bd (lim (compL (fun x => bd (asgT T (.d x) (wipeE (hide e) vs)) (twoM t it1 T1 vs1 t1 g)) xs)) fun ps => ret (.d (.list ps))) σ H Q →
    tLc2 (rdI X.K H0 P it) (rdG X.K H0 T) (rdB X.K H0 PF (testsL t)) (rdI X.K H0 PF it1) (rdG X.K H0 T1) (rdB X.K H0 PF (testsL t1)) (rdV X.K H0 PF g) vs vs1 σ H Q :=
  fun σ H Q ⟨S, ρ, st, e, hs, he, h⟩ => ⟨S, ρ, st, e, hs, he, (Wp.bd hs h).mono fun xs st1 S1 ρ1 H1 x1 s1 q1 J wl D hD => by
    generalize hF : (fun x => bd (asgT T (.d x) (wipeE (hide e) vs)) (twoM t it1 T1 vs1 t1 g)) = F at q1
    cases eL : compL F xs st1 with
    | bad => unfold Zd.bd lim at q1; rw [eL] at q1; exact False.elim q1
    | exc _ _ => unfold Zd.bd lim at q1; rw [eL] at q1; exact False.elim q1
    | ok all stE =>
      unfold Zd.bd lim at q1
      rw [eL] at q1
      cases ez : decide (all.length ≤ line) with
      | false => simp only [ez] at q1; exact False.elim q1
      | true =>
        simp only [ez] at q1
        have hz : all.length ≤ line := of_decide_eq_true ez
        have q2 : Wp X.K S1 ρ1 H1 P _ (.ok (W.d (.list all)) stE) := q1
        refine ⟨fun i m H' => m = xs.length - i ∧ i ≤ xs.length ∧ ∃ S' ρ' st' ps rest, Md X.K S1 ρ1 H1 D st' ps S' ρ' H' ∧ compL F (xs.drop i) st' = .ok rest stE ∧ all = ps ++ rest,
          ⟨xs.length, by simp, Nat.zero_le _, _, _, st1, [], all, .start s1 hD, eL, rfl⟩, ?_⟩
        rintro i m H' ⟨rfl, hi, S', ρ', st', ps, rest, md, eq, eall⟩
        have W := wl S' H' (md.ext.grow s1) md.sta.sl i
        by_cases hlt : i < xs.length
        · have hp' : xs[i]? = some xs[i] := List.getElem?_eq_getElem hlt
          obtain ⟨go, yl⟩ := W.2 _ hp'
          rw [List.drop_eq_getElem_cons hlt] at eq
          obtain ⟨b, st2, c, f1, f2, rfl⟩ := compL_cons eq
          subst hF
          obtain ⟨e1, st3, g1, g2⟩ := bd_ok f1
          have z := (asgT_pure hp g1).1
          subst z
          have no1 : noOwn e1 := (asgT_pure hp g1).2 ((noOwn_hide e).wipe _)
          refine .inr ⟨go, fun H' => ∃ S' ρ' st' ps rest, Md X.K S1 ρ1 H1 D st' ps S' ρ' H' ∧ compL _ (xs.drop (i + 1)) st' = .ok rest stE ∧ all = ps ++ rest, fun H' h => ⟨xs.length - (i + 1), by omega, rfl, hlt, h⟩, fun x H2 y => ?_⟩
          obtain ⟨md2, x2, rx⟩ := md.item s1 (yl x H2 y)
          refine ⟨S', ρ', st3, _, xs[i], e1, md2.sta, Re.wipe ((he.ext x1 hs).ext md2.ext s1).hide _, rx, g1, fun σ2 r2 w2 => ?_⟩
          have w3 := w2 _ hw
          refine ⟨by rw [w3, wipe_twice], ?_⟩
          unfold twoM at g2
          obtain ⟨k, st4, k1, k2⟩ := bd_ok g2
          refine ⟨S', ρ', st3, e1, md2.sta, r2, ?_⟩
          rw [k1]
          intro S4 ρ4 H4 x4 s4
          have md4 := md2.later s1 x4 s4
          cases k with
          | false =>
            cases k2
            show if false = true then _ else _
            rw [if_neg Bool.false_ne_true]
            exact ⟨S4, ρ4, st2, ps, c, md4, f2, by rw [eall]; rfl⟩
          | true =>
            show if true = true then _ else _
            rw [if_pos rfl]
            obtain ⟨ys, st5, l1, l2⟩ := bd_ok k2
            refine ⟨S4, ρ4, st4, e1, s4, r2.ext x4 md2.sta, ?_⟩
            rw [l1]
            intro S5 ρ5 H5 x5 s5 J1 wl1
            have md5 := md4.later s1 x5 s5
            have r5 := (r2.ext x4 md2.sta).ext x5 s4
            refine ⟨fun j k H' => k = ys.length - j ∧ j ≤ ys.length ∧ ∃ S' ρ' st' qs rest, Md X.K S1 ρ1 H1 D st' (ps ++ qs) S' ρ' H' ∧ Gro X.K S5 ρ5 H5 S' ρ' H' ∧ compL _ (ys.drop j) st' = .ok rest st2 ∧ b = qs ++ rest,
              ⟨ys.length, by simp, Nat.zero_le _, S5, ρ5, st5, [], b, by rw [List.append_nil]; exact md5, Ext.refl.gro s5, l2, rfl⟩, ?_⟩
            rintro j m H6 ⟨rfl, hj, S6, ρ6, st6, qs, rest, md6, gr6, eq6, eb⟩
            have W1 := wl1 S6 H6 gr6.g md6.sta.sl j
            by_cases hlt1 : j < ys.length
            · obtain ⟨go1, yl1⟩ := W1.2 _ (List.getElem?_eq_getElem hlt1)
              rw [List.drop_eq_getElem_cons hlt1] at eq6
              obtain ⟨b7, st7, c7, f7, f8, rfl⟩ := compL_cons eq6
              obtain ⟨e7, st8, g7, g8⟩ := bd_ok f7
              have z := (asgT_pure hp1 g7).1
              subst z
              refine .inr ⟨go1, fun H' => ∃ S' ρ' st' qs rest, Md X.K S1 ρ1 H1 D st' (ps ++ qs) S' ρ' H' ∧ Gro X.K S5 ρ5 H5 S' ρ' H' ∧ compL _ (ys.drop (j + 1)) st' = .ok rest st2 ∧ b = qs ++ rest, fun H' h => ⟨ys.length - (j + 1), by omega, rfl, hlt1, h⟩, fun x H7 y => ?_⟩
              obtain ⟨md7, x7, rx7⟩ := md6.item s1 (yl1 x H7 y)
              have gr7 := gr6.trans (x7.gro md6.sta)
              refine ⟨S6, ρ6, st8, _, ys[j], e7, md7.sta, Re.wipe (Re.grow gr7.g gr7.rho no1 r5) vs1, rx7, g7, fun σ3 r3 w4 => ?_⟩
              have w5 := w4 _ hw1
              refine ⟨by rw [w5, wipe_twice], one_of s1 hD md7 r3 g8 ?_ fun S8 ρ8 H8 gr8 m8 => ⟨S8, ρ8, st7, qs ++ b7, c7, by rw [← List.append_assoc]; exact m8, gr7.trans gr8, f8, by rw [eb, List.append_assoc]⟩⟩
              rw [eall, eb] at hz
              simp only [List.length_append] at hz ⊢
              omega
            · have ei : j = ys.length := by omega
              subst ei
              rw [List.drop_length] at eq6
              obtain ⟨rfl, rfl⟩ := compL_nil eq6
              rw [List.append_nil] at eb
              subst eb
              exact .inl ⟨W1.1 (Nat.le_refl _), S6, ρ6, st2, ps ++ b, c, md6, f2, by rw [eall, List.append_assoc]⟩
        · have ei : i = xs.length := by omega
          subst ei
          rw [List.drop_length] at eq
          obtain ⟨rfl, rfl⟩ := compL_nil eq
          rw [List.append_nil] at eall
          subst eall
          obtain ⟨S2, x2, s2, n2, us, e2, s3, r2⟩ := md.stop s1 hD
          refine .inl ⟨W.1 (Nat.le_refl _), q2 S2 ρ' H' x2 s2 D us _ rfl (x1.th D hD) n2 md.out e2 s3 r2⟩⟩
theorem zComp2 {tg1 iter1 : Expr} {ifs1 : List Expr} {T1 : Zd.T} {t1 : List (Nv → M Bool)} {it1 : Nv → M (List PyData)} {vs1 : List Nat} (hc : X.calm = true) (hN : X.N.Nodup) (hi : PI X tg iter (rdI X.K H0 P it)) (ok : BlkOk X.N X.env.scope scope own) (hv : ∀ i ∈ vs1, i ∈ own.map (·.2))
    (hg : ∀ (s : Shared) (H : Hp) (C : Addr) (cl : List (Str × Addr)) (fp : List Addr), PG (X.blk s H scope (compEnvC scope cl C X.env) fp) tg (rdG X.K H0 T))
    (ht : ∀ (s : Shared) (H : Hp) (C : Addr) (cl : List (Str × Addr)) (fp : List Addr), PTs (X.blk s H scope (compEnvC scope cl C X.env) fp) ifs (rdB X.K H0 PF (testsL t)))
    (hi1 : ∀ (s : Shared) (H : Hp) (C : Addr) (cl : List (Str × Addr)) (fp : List Addr), PI (X.blk s H scope (compEnvC scope cl C X.env) fp) tg1 iter1 (rdI X.K H0 PF it1))
    (hg1 : ∀ (s : Shared) (H : Hp) (C : Addr) (cl : List (Str × Addr)) (fp : List Addr), PG (X.blk s H scope (compEnvC scope cl C X.env) fp) tg1 (rdG X.K H0 T1))
    (ht1 : ∀ (s : Shared) (H : Hp) (C : Addr) (cl : List (Str × Addr)) (fp : List Addr), PTs (X.blk s H scope (compEnvC scope cl C X.env) fp) ifs1 (rdB X.K H0 PF (testsL t1)))
    (he : ∀ (s : Shared) (H : Hp) (C : Addr) (cl : List (Str × Addr)) (fp : List Addr), PE (X.blk s H scope (compEnvC scope cl C X.env) fp) elt (rdV X.K H0 PF g)) (hs : ∀ x, foldedSetIterable iter X.env x = pure x) (hs1 : ∀ env x, foldedSetIterable iter1 env x = pure x)
    (hp : pureT T = true) (hw : ∀ i ∈ tgI T, i ∈ own.map (·.2)) (hp1 : pureT T1 = true) (hw1 : ∀ i ∈ tgI T1, i ∈ vs1) :
    PE X (.ListComp elt [⟨tg, iter, ifs, 0⟩, ⟨tg1, iter1, ifs1, 0⟩] scope pos) (rdN X.K H0 P fun e => bd (it e) fun xs => bd (lim (compL (fun x => bd (asgT T (.d x) (wipeE (hide e) (own.map (·.2)))) (twoM t it1 T1 vs1 t1 g)) xs)) fun ps => ret (.d (.list ps))) :=
  peImp (pe_lc2 hc hN hi ok hv hg ht hi1 hg1 ht1 he hs hs1) (lcImp2 hp hw hp1 hw1)
end
end Zd
end
section
set_option Elab.async false
set_option linter.all false
set_option maxRecDepth 100000
set_option maxHeartbeats 2000000
/-! Zd9: the look at an expression of the text, and what it gives. -/
namespace Zd
open PySem PySem.Spec L2
open PyProof.Rows hiding St

/-- what the look knows -/
structure Cg where
  N : List Str
  sc : Scope
  fn : Str → Bool
  defs : List Str
  gl : List Str
  bf : Bf → Bool
  kw : Str → List (List Str × List Nat)
def Cg.blk (G : Cg) (scope : Scope) : Cg := { G with sc := relS scope G.sc, fn := fun x => scope.names.lookup x == some .cell }
def visB (sc : Scope) (x : Str) : Bool := match sc.names.lookup x with
  | some .local => true
  | some .cell => true
  | some .free => true
  | _ => false
theorem visB_is {sc : Scope} {x : Str} (h : visB sc x = true) : Vis sc x := by
  unfold visB at h
  split at h
  · rename_i e; exact .inl e
  · rename_i e; exact .inr (.inl e)
  · rename_i e; exact .inr (.inr e)
  · cases h
def glB (G : Cg) (x : Str) : Bool := (G.sc.names.lookup x == some .globalImplicit) && !(x == ("__debug__" : Str))
def varB (G : Cg) (i : Nat) (x : Str) : Bool := (G.N[i]? == some x) && visB G.sc x && !(x == ("__debug__" : Str)) && !(x == ("__classdict__" : Str))
def cstB : PyData → Const → Bool
  | .int i, .int j => i == j
  | .bool i, .bool j => i == j
  | .none, .none => true
  | .str x, .str y => x == y
  | _, _ => false
def isMk : E → Bool
  | .cmp .. => false
  | .chain .. => false
  | .and_ .. => false
  | .or_ .. => false
  | .not_ .. => false
  | .rng .. => false
  | .enm .. => false
  | .zip .. => false
  | .star .. => false
  | .no => false
  | _ => true
def ownP (N : List Str) (own : List Nat) : List (Str × Nat) := own.map fun i => (N.getD i "", i)
def blkB (G : Cg) (scope : Scope) (own : List Nat) : Bool :=
  (scope.kind == .function) && scope.names.all (fun y => scope.names.lookup y.1 == some y.2) && (ownP G.N own).all (fun p => G.N[p.2]? == some p.1) &&
    scope.names.all (fun y => !(y.2 == .free) || (G.sc.names.lookup y.1 == some .cell) || (G.sc.names.lookup y.1 == some .free)) &&
    scope.names.all (fun y => !(y.2 == .local || y.2 == .cell) || (ownP G.N own).any (fun p => p.1 == y.1) || !(G.N.contains y.1))
mutual
def ckG : Nat → Cg → T → Expr → Bool
  | 0, _, _, _ => false
  | n + 1, G, t, x => match t with
    | .nm i => (match x with
      | .Name y _ => (G.N[i]? == some y) && (G.sc.names.lookup y == some .local || (G.sc.names.lookup y == some .cell && G.fn y))
      | _ => false)
    | .tp ts => (match x with
      | .Tuple es _ _ => ckGs n G ts es
      | _ => false)
    | _ => false
def ckGs : Nat → Cg → List T → List Expr → Bool
  | 0, _, _, _ => false
  | n + 1, G, ts, xs => match ts, xs with
    | [], [] => true
    | t :: ts, x :: xs => ckG n G t x && noStar x && ckGs n G ts xs
    | _, _ => false
end
def ckL (f : E → Expr → Bool) : List E → List Expr → Bool
  | [], [] => true
  | a :: r, x :: xs => f a x && (plainE x && ckL f r xs)
  | _, _ => false
def isStE : E → Bool
  | .star _ => true
  | _ => false
/-- keywords' values -/
def ckK (f : E → Expr → Bool) : List E → List Keyword → Bool
  | [], [] => true
  | a :: r, ⟨some _, x, _⟩ :: xs => f a x && ckK f r xs
  | _, _ => false
def ckD (f : E → Expr → Bool) : List E → List Expr → Bool
  | [], [] => true
  | .star a :: r, .Starred x _ :: xs => isMk a && (f a x && ckD f r xs)
  | a :: r, x :: xs => !isStE a && (f a x && (plainE x && ckD f r xs))
  | _, _ => false
def ckIf (f : E → Expr → Bool) : List E → List Expr → Bool
  | [], [] => true
  | [a], [x] => f a x
  | _, _ => false
def isTupE : Expr → Bool
  | .Tuple _ _ _ => true
  | _ => false
def notSet : Expr → Bool
  | .Set _ _ _ => false
  | _ => true
def isNo : E → Bool
  | .no => true
  | _ => false
def ckO (f : E → Expr → Bool) : E → Option Expr → Bool
  | e, none => isNo e
  | e, some x => !isNo e && f e x
mutual
def ckV : Nat → Cg → E → Expr → Bool
  | 0, _, _, _ => false
  | n + 1, G, e, x => match e with
    | .var i => (match x with
      | .Name y _ => varB G i y
      | _ => false)
    | .cst p => (match x with
      | .Constant c _ _ => cstB p c
      | _ => false)
    | .glob y => (match x with
      | .Name z _ => (y == z) && (glB G z && G.gl.contains z)
      | _ => false)
    | .bin op a b => (match x with
      | .BinOp a' op' b' _ => decide (op = op') && (ckV n G a a' && ckV n G b b')
      | _ => false)
    | .neg a => (match x with
      | .UnaryOp .USub a' _ => ckV n G a a'
      | _ => false)
    | .not_ a => (match x with
      | .UnaryOp .Not a' _ => ckV n G a a'
      | _ => false)
    | .cmp op a b => (match x with
      | .Compare a' [op'] [b'] _ => decide (op = op') && (ckV n G a a' && (ckV n G b b' && !behindInMarks op b'))
      | _ => false)
    | .chain o1 o2 a b c => (match x with
      | .Compare a' [p1, p2] [b', c'] _ => decide (o1 = p1) && (decide (o2 = p2) && (ckV n G a a' && (ckV n G b b' && (ckV n G c c' && !lastMarks [o1, o2] [b', c']))))
      | _ => false)
    | .and_ a b => (match x with
      | .BoolOp .And [a', b'] _ => ckV n G a a' && ckV n G b b'
      | .BoolOp .And (a' :: b' :: c' :: r) p => ckV n G a a' && ckV n G b (.BoolOp .And (b' :: c' :: r) p)
      | _ => false)
    | .or_ a b => (match x with
      | .BoolOp .Or [a', b'] _ => ckV n G a a' && ckV n G b b'
      | .BoolOp .Or (a' :: b' :: c' :: r) p => ckV n G a a' && ckV n G b (.BoolOp .Or (b' :: c' :: r) p)
      | _ => false)
    | .ife c a b => (match x with
      | .IfExp c' a' b' _ => ckT n G c c' && (ckV n G a a' && ckV n G b b')
      | _ => false)
    | .tup xs => (match x with
      | .Tuple es _ _ => ckD (ckV n G) xs es
      | _ => false)
    | .lst xs => (match x with
      | .List es _ => ckD (ckV n G) xs es
      | _ => false)
    | .lstB xs => (match x with
      | .List es _ => ckD (ckV n G) xs es
      | _ => false)
    | .sub a b => (match x with
      | .Subscript a' b' _ => ckV n G a a' && (ckV n G b b' && plainE b')
      | _ => false)
    | .slice a l h => (match x with
      | .Subscript a' (.Slice l' h' none _) _ => ckV n G a a' && (ckO (ckV n G) l l' && ckO (ckV n G) h h')
      | _ => false)
    | .call f xs => (match x with
      | .Call (.Name y _) es [] _ => (f == y) && (glB G y && (G.defs.contains y && ckL (ckV n G) xs es))
      | _ => false)
    | .callK f pm xs => (match x with
      | .Call (.Name y _) [] kws _ => (f == y) && (glB G y && (G.defs.contains y && (ckK (ckV n G) xs kws && ((G.kw y).contains (kwNames kws, pm) && (kwNames kws).length == kws.length))))
      | _ => false)
    | .blt f xs => (match x with
      | .Call (.Name y _) (e :: es) [] _ => (f.nm == y) && (glB G y && (G.bf f && ckL (ckV n G) xs (e :: es)))
      | _ => false)
    | .isi a ty => (match x with
      | .Call (.Name y _) [a', .Name z _] [] _ => (y == ("isinstance" : Str)) && (glB G y && ((Str.ofString ty == z) && (glB G z && (["bool", "int", "str", "list", "tuple"].contains ty && (ckV n G a a' && plainE a')))))
      | _ => false)
    | .comp tg it ifs elt own => (match x with
      | .ListComp elt' [⟨tg', it', ifs', 0⟩] scope _ => blkB G scope own && (ckI n G it it' tg' && (ckG n (G.blk scope) tg tg' && (ckIf (ckT n (G.blk scope)) ifs ifs' && (ckV n (G.blk scope) elt elt' && (notSet it' && (pureT tg && (tgI tg).all own.contains))))))
      | _ => false)
    | .comp2 tg it ifs tg1 it1 ifs1 elt own own1 => (match x with
      | .ListComp elt' [⟨tg', it', ifs', 0⟩, ⟨tg1', it1', ifs1', 0⟩] scope _ => blkB G scope own && (ckI n G it it' tg' && (ckG n (G.blk scope) tg tg' && (ckIf (ckT n (G.blk scope)) ifs ifs' && (ckV n (G.blk scope) elt elt' && (notSet it' && (pureT tg && ((tgI tg).all own.contains &&
        (ckI n (G.blk scope) it1 it1' tg1' && (ckG n (G.blk scope) tg1 tg1' && (ckIf (ckT n (G.blk scope)) ifs1 ifs1' && (notSet it1' && (pureT tg1 && ((tgI tg1).all own1.contains && own1.all own.contains)))))))))))))
      | _ => false)
    | .scp a => ckV n G a x
    | _ => false
def ckT : Nat → Cg → E → Expr → Bool
  | 0, _, _, _ => false
  | n + 1, G, e, x => match e with
    | .cmp op a b => (match x with
      | .Compare a' [op'] [b'] _ => decide (op = op') && (ckV n G a a' && (ckV n G b b' && !behindInMarks op b'))
      | _ => false)
    | .chain o1 o2 a b c => (match x with
      | .Compare a' [p1, p2] [b', c'] _ => decide (o1 = p1) && (decide (o2 = p2) && (ckV n G a a' && (ckV n G b b' && (ckV n G c c' && !lastMarks [o1, o2] [b', c']))))
      | _ => false)
    | .and_ a b => (match x with
      | .BoolOp .And [a', b'] _ => ckT n G a a' && ckT n G b b'
      | .BoolOp .And (a' :: b' :: c' :: r) p => ckT n G a a' && ckT n G b (.BoolOp .And (b' :: c' :: r) p)
      | _ => false)
    | .or_ a b => (match x with
      | .BoolOp .Or [a', b'] _ => ckT n G a a' && ckT n G b b'
      | .BoolOp .Or (a' :: b' :: c' :: r) p => ckT n G a a' && ckT n G b (.BoolOp .Or (b' :: c' :: r) p)
      | _ => false)
    | .not_ a => (match x with
      | .UnaryOp .Not a' _ => ckT n G a a'
      | _ => false)
    | e => isMk e && (truE x && ckV n G e x)
def ckI : Nat → Cg → E → Expr → Expr → Bool
  | 0, _, _, _, _ => false
  | n + 1, G, e, x, tg => match e with
    | .rng xs => (match x with
      | .Call (.Name y _) es [] _ => (y == ("range" : Str)) && (glB G y && (ckL (ckV n G) xs es && (es.length == 1 || es.length == 2)))
      | _ => false)
    | .zip a b => (match x with
      | .Call (.Name y _) [a', b'] [] _ => (y == ("zip" : Str)) && (glB G y && (ckV n G a a' && (ckV n G b b' && (plainE a' && (plainE b' && isTupE tg)))))
      | _ => false)
    | .enm a => (match x with
      | .Call (.Name y _) [a'] [] _ => (y == ("enumerate" : Str)) && (glB G y && (isMk a && (ckV n G a a' && (plainE a' && isTupE tg))))
      | _ => false)
    | e => isMk e && ckV n G e x
end
/-- the facts -/
structure Gd (X : Cx) (G : Cg) (C : Str → List W → M W) (gv : Str → Option PyData) (E : XK) : Prop where
  N : X.N = G.N
  nd : G.N.Nodup
  sc : X.env.scope = G.sc
  fn : X.fn = G.fn
  calm : X.calm = true
  gd : X.A.guards = some []
  un : X.A.units + 200 < cLine
  nb : X.base.NoDigits
  pass : Passes (CX X.prog X.w) X E
  blt : ∀ f, G.bf f = true → (f ≠ .gcd ∧ X.mg f.nm = none) ∨ (f = .gcd ∧ X.mg f.nm = some f.val)
  oth : ∀ x : String, x ∈ ["isinstance", "range", "enumerate", "zip", "int", "bool", "str", "list", "tuple"] → X.mg x = none
  glob : ∀ x, G.gl.contains x = true → ∃ p v u, gv x = some p ∧ X.mg x = some u ∧ RelV v u ∧ ∀ S H, Rp X.K S H v p
  def_ : ∀ x, G.defs.contains x = true → ∃ n, DefOk X E x n (G.kw x) (C x)
section
variable {X : Cx} {G : Cg} {C : Str → List W → M W} {gv : Str → Option PyData} {E : XK} {H0 : Hp}
theorem Gd.blk (g : Gd X G C gv E) (s : Shared) (H : Hp) (scope : Scope) (Cc : Addr) (cl : List (Str × Addr)) (fp : List Addr) : Gd (X.blk s H scope (compEnvC scope cl Cc X.env) fp) (G.blk scope) C gv (fun _ _ _ => False) where
  N := g.N
  nd := g.nd
  sc := by show relS scope X.env.scope = relS scope G.sc; rw [g.sc]
  fn := rfl
  calm := g.calm
  gd := g.gd
  un := g.un
  nb := g.nb
  pass := fun pins σ H s e s' I h => by
    obtain ⟨_, _, _, _, _, _, _, _, _, _, _, _, z⟩ := h
    exact z.elim
  blt := g.blt
  oth := g.oth
  glob := g.glob
  def_ := fun x hx => let ⟨n, D⟩ := g.def_ x hx; ⟨n, ⟨D.ex, D.arg⟩⟩
theorem Gd.gl (g : Gd X G C gv E) {x : Str} (h : glB G x = true) : Gl X x ∧ (x == ("__debug__" : Str)) = false := by
  unfold glB at h
  rw [Bool.and_eq_true] at h
  refine ⟨?_, by simpa using h.2⟩
  show X.env.scope.names.lookup x = _
  rw [g.sc]
  exact eq_of_beq h.1
theorem blk_ok (g : Gd X G C gv E) {scope : Scope} {own : List Nat} (h : blkB G scope own = true) : BlkOk X.N X.env.scope scope (ownP G.N own) := by
  unfold blkB at h
  simp only [Bool.and_eq_true, List.all_eq_true] at h
  obtain ⟨⟨⟨⟨h1, h2⟩, h3⟩, h4⟩, h5⟩ := h
  refine ⟨eq_of_beq h1, fun y hy => eq_of_beq (h2 y hy), fun p hp => by rw [g.N]; exact eq_of_beq (h3 p hp), fun y hy e => ?_, fun y hy e => ?_⟩
  · have := h4 y hy
    rw [e, g.sc] at *
    simp only [beq_self_eq_true, Bool.not_true, Bool.false_or, Bool.or_eq_true, beq_iff_eq] at this
    exact this
  · have := h5 y hy
    rw [g.N]
    simp only [Bool.or_eq_true, Bool.not_eq_true', beq_iff_eq, Bool.or_eq_false_iff, List.any_eq_true] at this
    rcases this with (z | ⟨p, hp, z⟩) | z
    · rcases e with e | e
      · rw [e] at z; simp at z
      · rw [e] at z; simp at z
    · exact .inl (List.mem_map.mpr ⟨p, hp, z⟩)
    · exact .inr fun m => by rw [List.contains_iff_mem.mpr m] at z; cases z
theorem ownP_snd (N : List Str) (own : List Nat) : (ownP N own).map (·.2) = own := by
  unfold ownP
  rw [List.map_map]
  induction own with
  | nil => rfl
  | cons a r ih => rw [List.map_cons, ih]; rfl
theorem ckG_ok (g : Gd X G C gv E) : ∀ n, (∀ t x, ckG n G t x = true → pureT t = true → PG X x (rdG X.K H0 t)) ∧ (∀ ts xs, ckGs n G ts xs = true → pureTs ts = true → PGs X xs (rdGs X.K H0 ts) ∧ ts.length = xs.length ∧ xs.all noStar = true)
  | 0 => ⟨fun _ _ h => (by unfold ckG at h; cases h), fun _ _ h => (by unfold ckGs at h; cases h)⟩
  | n + 1 => by
    obtain ⟨i1, i2⟩ := ckG_ok g n
    refine ⟨fun t x h hp => ?_, fun ts xs h hp => ?_⟩
    · unfold ckG at h
      cases t with
      | nm i =>
        cases x <;> first | (cases h; done) | skip
        simp only [Bool.and_eq_true, Bool.or_eq_true, beq_iff_eq] at h
        obtain ⟨h1, h2⟩ := h
        refine gNm (by rw [g.N]; exact g.nd) (by rw [g.N]; exact h1) ?_ ?_
        · rw [g.sc]
          rcases h2 with h2 | h2
          · exact .inl h2
          · exact .inr h2.1
        · rw [g.sc, g.fn]
          rcases h2 with h2 | h2
          · exact .inr h2
          · exact .inl h2.2
      | tp ts =>
        cases x <;> first | (cases h; done) | skip
        obtain ⟨q1, q2, q3⟩ := i2 _ _ h (by unfold pureT at hp; exact hp)
        exact gTp g.calm q1 (assignEach_len _) (assignEach_no _ q3) q2 hp
      | _ => cases h
    · unfold ckGs at h
      cases ts with
      | nil =>
        cases xs with
        | nil => exact ⟨gNilS, rfl, rfl⟩
        | cons x xs => cases h
      | cons t ts =>
        cases xs with
        | nil => cases h
        | cons x xs =>
          unfold pureTs at hp
          simp only [Bool.and_eq_true] at h hp
          obtain ⟨⟨h1, h2⟩, h3⟩ := h
          obtain ⟨q1, q2, q3⟩ := i2 _ _ h3 hp.2
          refine ⟨gConsS (i1 _ _ h1 hp.1) q1 hp.1 h2, by rw [List.length_cons, List.length_cons, q2], ?_⟩
          rw [List.all_cons, h2, q3]; rfl
end
end Zd
end
section
set_option Elab.async false
set_option linter.all false
set_option maxRecDepth 100000
set_option maxHeartbeats 2000000
/-! Zd10: what the look gives, of expressions. -/
namespace Zd
open PySem PySem.Spec L2
open PyProof.Rows hiding St

/-- boxes made within are let go -/
theorem drop_boxes {K : PySem.W.Frag} {S S' : AS} {ρ ρ' : List Addr} {H H' : Hp} {st st' : Store} (x : Ext K S ρ H S' ρ' H') (s : Sta K S ρ H st) (s' : Sta K S' ρ' H' st') : Ext K S ρ H S' ρ H' ∧ Sta K S' ρ H' (st'.take st.length) := by
  obtain ⟨nw, e, f⟩ := x.rho
  refine ⟨⟨⟨[], by simp, fun _ h => nomatch h⟩, x.su, x.up, x.keep, x.th⟩, ⟨s'.sl, fun a h => x.su a (s.rs a h), s.nd, ?_, fun n a ps h1 h2 => ?_⟩⟩
  · have := s'.len
    have l := s.len
    rw [List.length_take, ← this, ← l, e, List.length_append]
    omega
  · refine s'.bx n a ps ?_ ?_
    · rw [e, List.getElem?_append_left (List.getElem?_eq_some_iff.mp h1).1]
      exact h1
    · rw [List.getElem?_take] at h2
      split at h2
      · exact h2
      · cases h2
section
variable {X : Cx} {H0 : Hp} {P : PX} {a x : Expr} {f : Nv → M W} {pos : Pos}
theorem zNot (ha : PE X a (rdV X.K H0 P f)) : PE X (.UnaryOp .Not a pos) (rdV X.K H0 P fun v => bd (f v) fun w => bd (truthM w) fun k => Zd.bool (!k)) := by
  refine peImp (t := fun σ H Q => rdV X.K H0 P f σ H fun x H' => ∃ k, TruV X.K x H' k ∧ Q (.bl (!k)) H') ⟨fun pins s σ H Q I h => ?_⟩ fun σ H Q ⟨S, ρ, st, e, hs, he, h⟩ => seq1 hs he h fun x H2 S2 ρ2 st2 w _ s2 _ r q => ?_
  · refine UnaryOp_ (thn (ha.run pins s σ H _ I h) fun v s1 ⟨x, H1, I1, r1, k, t, q⟩ => not_of ?_)
    exact thn (tru_ok pins s1 σ H1 x v (fun b H' => Q (.bl (!b)) H') I1 r1 ⟨k, t, q⟩) fun b s2 ⟨H2, I2, q2⟩ => ⟨.bl (!b), H2, I2, rfl, q2⟩
  · have q' := Wp.bd s2 q
    have q2 : Wp X.K S2 ρ2 H2 P _ (Zd.opt (truth st2 w) st2) := q'
    cases ek : truth st2 w with
    | none => rw [ek] at q2; exact False.elim q2
    | some k =>
      rw [ek] at q2
      exact ⟨k, truV s2 r ek, Wp.bool s2 (Wp.now s2 q2)⟩
theorem zScoped (h : PE X x (rdV X.K H0 P f)) : PE X x (rdV X.K H0 P fun e st => bd (f e) (dropTo st.length) st) :=
  peImp h fun σ H Q ⟨S, ρ, st, e, hs, he, h⟩ => ⟨S, ρ, st, e, hs, he, by
    unfold Zd.bd at h
    dsimp only at h
    cases ef : f e st with
    | bad => rw [ef] at h; exact h
    | exc y st' => rw [ef] at h; exact h
    | ok w st' =>
      rw [ef] at h
      intro S' ρ' H' x' s' v rv
      cases w with
      | d p =>
        obtain ⟨x2, s2⟩ := drop_boxes x' hs s'
        exact h S' ρ H' x2 s2 v rv
      | _ => exact False.elim h⟩
theorem zOneT {c : Expr} {t : Nv → M Bool} (h : PT X c (rdB X.K H0 P t)) : PTs X [c] (rdB X.K H0 P (testsL [t])) := by
  refine ⟨fun pins s σ H Q I q => (pts_one h).run pins s σ H Q I ?_⟩
  obtain ⟨S, ρ, st, e, hs, he, q⟩ := q
  have q' : Wp X.K S ρ H P (fun k _ _ _ H' => Q k H') (bd (t e) (fun k => match k with
    | true => ret true
    | false => ret false) st) := by
    unfold testsL at q
    exact q
  exact ⟨S, ρ, st, e, hs, he, (Wp.bd hs q').mono fun k st1 S1 ρ1 H1 x1 s1 q1 => by
    cases k with
    | true => exact Wp.now s1 q1
    | false => exact Wp.now s1 q1⟩
theorem zNilT : PTs X [] (rdB X.K H0 P (testsL [])) := by
  refine ⟨fun pins s σ H Q I q => pts_nil.run pins s σ H Q I ?_⟩
  obtain ⟨S, ρ, st, e, hs, he, q⟩ := q
  unfold testsL at q
  exact Wp.now hs q
theorem zBad {α : Type} : PE X x (rdV X.K H0 P fun _ => bad) := ⟨fun pins s σ H Q I ⟨S, ρ, st, e, hs, he, q⟩ => False.elim q⟩
theorem cst_ok {p : PyData} {c : Const} {k : Nat} (h : cstB p c = true) : PE X (.Constant c k pos) (rdV X.K H0 P fun _ => ret (.d p)) := by
  cases p <;> cases c <;> first | (cases h; done) | skip
  · exact zCst pe_non fun _ _ => .non
  · have e : _ = _ := eq_of_beq (show (_ == _) = true from h)
    subst e
    exact zCst pe_bl fun _ _ => .bl _
  · have e : _ = _ := eq_of_beq (show (_ == _) = true from h)
    subst e
    exact zCst pe_int fun _ _ => .int _
  · have e : _ = _ := eq_of_beq (show (_ == _) = true from h)
    subst e
    exact zCst pe_str fun _ _ => .str _
end
theorem mk_v {C : Str → List W → M W} {gv : Str → Option PyData} {e : E} (h : isMk e = true) : (evP C gv e).t = (fun v => bd ((evP C gv e).v v) truthM) ∧ (evP C gv e).i = fun v => bd ((evP C gv e).v v) itemsM := by
  cases e <;> first | (cases h; done) | (unfold evP; exact ⟨rfl, rfl⟩)
section
variable {X : Cx} {G : Cg} {C : Str → List W → M W} {gv : Str → Option PyData} {E' : XK} {H0 : Hp}
theorem ckL_plain {f : E → Expr → Bool} : ∀ {xs : List E} {es : List Expr}, ckL f xs es = true → es.all plainE = true
  | [], [], _ => rfl
  | [], _ :: _, h => by cases h
  | _ :: _, [], h => by cases h
  | _ :: xs, e :: es, h => by
    unfold ckL at h
    simp only [Bool.and_eq_true] at h
    rw [List.all_cons, h.2.1, ckL_plain h.2.2]
    rfl
theorem ckL_ok {f : E → Expr → Bool} (ih : ∀ e x, f e x = true → PE X x (rdV X.K H0 (pX E') (evP C gv e).v)) : ∀ {xs : List E} {es : List Expr}, ckL f xs es = true → PA X es (rdA X.K H0 (pX E') (evw C gv xs))
  | [], [], _ => by
    have : evw C gv [] = fun _ => ret [] := by funext v; conv => lhs; unfold evw
    rw [this]
    exact zNilA
  | [], _ :: _, h => by cases h
  | _ :: _, [], h => by cases h
  | a :: xs, e :: es, h => by
    unfold ckL at h
    simp only [Bool.and_eq_true] at h
    have : evw C gv (a :: xs) = fun v => bd ((evP C gv a).v v) fun w => bd (evw C gv xs v) fun ws => ret (w :: ws) := by funext v; conv => lhs; unfold evw
    rw [this]
    exact zConsA (ih _ _ h.1) (ckL_ok ih h.2.2) h.2.1
theorem ckK_ok {f : E → Expr → Bool} (ih : ∀ e x, f e x = true → PE X x (rdV X.K H0 (pX E') (evP C gv e).v)) : ∀ {xs : List E} {es : List Keyword}, ckK f xs es = true → PK X es (rdA X.K H0 (pX E') (evw C gv xs)) ∧ kwAll es = true ∧ xs.length = es.length
  | [], [], _ => by
    have : evw C gv [] = fun _ => ret [] := by funext v; conv => lhs; unfold evw
    rw [this]
    exact ⟨zNilK, rfl, rfl⟩
  | [], _ :: _, h => by cases h
  | _ :: _, [], h => by cases h
  | a :: xs, ⟨none, e, p⟩ :: es, h => by cases h
  | a :: xs, ⟨some y, e, p⟩ :: es, h => by
    unfold ckK at h
    simp only [Bool.and_eq_true] at h
    have : evw C gv (a :: xs) = fun v => bd ((evP C gv a).v v) fun w => bd (evw C gv xs v) fun ws => ret (w :: ws) := by funext v; conv => lhs; unfold evw
    rw [this]
    obtain ⟨h1, h2, h3⟩ := ckK_ok ih h.2
    exact ⟨zConsK (ih _ _ h.1) h1, h2, by rw [List.length_cons, List.length_cons, h3]⟩
theorem ckD_ok {f : E → Expr → Bool} (ih : ∀ e x, f e x = true → PE X x (rdV X.K H0 (pX E') (evP C gv e).v)) : ∀ {xs : List E} {es : List Expr}, ckD f xs es = true → PA X es (rdD X.K H0 (pX E') (evs C gv xs))
  | [], [], _ => by
    have : evs C gv [] = fun _ => ret [] := by funext v; conv => lhs; unfold evs
    rw [this]
    exact zNilD
  | [], _ :: _, h => by cases h
  | a :: _, [], h => by cases a <;> cases h
  | a :: xs, e :: es, h => by
    cases ea : isStE a with
    | true =>
      cases a <;> first | (cases ea; done) | skip
      cases e <;> first | (unfold ckD at h; simp [isStE] at h; done) | skip
      rename_i b y p
      unfold ckD at h
      simp only [Bool.and_eq_true] at h
      obtain ⟨h1, h2, h3⟩ := h
      have : evs C gv (.star b :: xs) = fun v => bd ((evP C gv b).i v) fun ps => bd (evs C gv xs v) fun qs => ret (ps ++ qs) := by funext v; conv => lhs; unfold evs
      rw [this, (mk_v h1).2]
      exact zStar (ih _ _ h2) (ckD_ok ih h3)
    | false =>
      have h' : f a e = true ∧ plainE e = true ∧ ckD f xs es = true := by
        cases a <;> first | (cases ea; done) | (unfold ckD at h; simpa [isStE] using h)
      have : evs C gv (a :: xs) = fun v => bd ((evP C gv a).v v) fun w => bd (pureW w) fun p => bd (evs C gv xs v) fun qs => ret (p :: qs) := by
        funext v
        cases a <;> first | (cases ea; done) | (conv => lhs; unfold evs)
      rw [this]
      exact zConsD (ih _ _ h'.1) (ckD_ok ih h'.2.2) h'.2.1
theorem ckO_ok {f : E → Expr → Bool} (ih : ∀ e x, f e x = true → PE X x (rdV X.K H0 (pX E') (evP C gv e).v)) {e : E} {o : Option Expr} (h : ckO f e o = true) : PO X o (rdO X.K H0 (pX E') (prt C gv e)) := by
  cases o with
  | none =>
    have : e = .no := by cases e <;> first | rfl | cases h
    subst this
    have : prt C gv .no = fun _ => ret none := by funext v; conv => lhs; unfold prt
    rw [this]
    exact zNoPart
  | some x =>
    have h' : isNo e = false ∧ f e x = true := by simpa [ckO] using h
    have : prt C gv e = fun v => bd ((evP C gv e).v v) partW := by
      funext v
      cases e <;> first | (cases h'.1; done) | (conv => lhs; unfold prt)
    rw [this]
    exact zPart (ih _ _ h'.2)
theorem ckIf_ok {f : E → Expr → Bool} (ih : ∀ e x, f e x = true → PT X x (rdB X.K H0 (pX E') (evP C gv e).t)) : ∀ {xs : List E} {es : List Expr}, ckIf f xs es = true → PTs X es (rdB X.K H0 (pX E') (testsL (evt C gv xs)))
  | [], [], _ => by
    have : evt C gv [] = [] := by unfold evt; rfl
    rw [this]
    exact zNilT
  | [a], [x], h => by
    have : evt C gv [a] = [(evP C gv a).t] := by unfold evt evt; rfl
    rw [this]
    exact zOneT (ih _ _ h)
  | [], _ :: _, h => by cases h
  | [_], [], h => by cases h
  | [_], _ :: _ :: _, h => by cases h
  | _ :: _ :: _, [], h => by cases h
  | _ :: _ :: _, _ :: _, h => by cases h
theorem set_no {it : Expr} (h : notSet it = true) (env : Env) (x : Value) : foldedSetIterable it env x = pure x := by
  cases it <;> first | rfl | cases h
/-- what the look gives at one depth -/
structure Ck (n : Nat) (C : Str → List W → M W) (gv : Str → Option PyData) (H0 : Hp) : Prop where
  v : ∀ {X : Cx} {G : Cg} {E' : XK}, Gd X G C gv E' → ∀ e x, ckV n G e x = true → PE X x (rdV X.K H0 (pX E') (evP C gv e).v)
  t : ∀ {X : Cx} {G : Cg} {E' : XK}, Gd X G C gv E' → ∀ e x, ckT n G e x = true → PT X x (rdB X.K H0 (pX E') (evP C gv e).t)
  i : ∀ {X : Cx} {G : Cg} {E' : XK}, Gd X G C gv E' → ∀ e x tg, ckI n G e x tg = true → PI X tg x (rdI X.K H0 (pX E') (evP C gv e).i)
/-- new lists -/
def fresh : E → Bool
  | .lst _ => true
  | .comp .. => true
  | .comp2 .. => true
  | _ => false
theorem ck_fresh {n : Nat} (c : Ck n C gv H0) (g : Gd X G C gv E') {e : E} {x : Expr} (hf : fresh e = true) (h : ckV (n + 1) G e x = true) : PE X x (rdN X.K H0 (pX E') (evP C gv e).v) := by
  cases e <;> first | (cases hf; done) | skip
  · -- lst
    unfold ckV at h
    cases x <;> first | (cases h; done) | skip
    have k := ckD_ok (c.v g) h
    unfold evP
    exact zLstN k
  · -- comp
    unfold ckV at h
    rename_i tg it ifs elt own
    dsimp only at h
    split at h
    · rename_i elt' tg' it' ifs' scope pos
      simp only [Bool.and_eq_true] at h
      obtain ⟨h1, h2, h3, h4, h5, h6, h7, h8⟩ := h
      have k := zComp (H0 := H0) (P := pX E') (PF := pX fun _ _ _ => False) g.calm (by rw [g.N]; exact g.nd) (c.i g it it' tg' h2) (blk_ok g h1)
        (fun s H Cc cl fp => (ckG_ok (H0 := H0) (g.blk s H scope Cc cl fp) n).1 tg tg' h3 h7) (fun s H Cc cl fp => ckIf_ok (c.t (g.blk s H scope Cc cl fp)) h4)
        (fun s H Cc cl fp => c.v (g.blk s H scope Cc cl fp) elt elt' h5) (set_no h6 _) h7 (by
          rw [ownP_snd]
          intro i hi
          exact List.contains_iff_mem.mp (List.all_eq_true.mp h8 i hi)) (pos := pos)
      rw [ownP_snd] at k
      unfold evP
      exact k
    · cases h
  · -- comp2
    unfold ckV at h
    rename_i tg it ifs tg1 it1 ifs1 elt own own1
    dsimp only at h
    split at h
    · rename_i elt' tg' it' ifs' tg1' it1' ifs1' scope pos
      simp only [Bool.and_eq_true] at h
      obtain ⟨h1, h2, h3, h4, h5, h6, h7, h8, h9, h10, h11, h12, h13, h14, h15⟩ := h
      have k := zComp2 (H0 := H0) (P := pX E') (PF := pX fun _ _ _ => False) (vs1 := own1) g.calm (by rw [g.N]; exact g.nd) (c.i g it it' tg' h2) (blk_ok g h1)
        (by
          rw [ownP_snd]
          intro i hi
          exact List.contains_iff_mem.mp (List.all_eq_true.mp h15 i hi))
        (fun s H Cc cl fp => (ckG_ok (H0 := H0) (g.blk s H scope Cc cl fp) n).1 tg tg' h3 h7) (fun s H Cc cl fp => ckIf_ok (c.t (g.blk s H scope Cc cl fp)) h4)
        (fun s H Cc cl fp => c.i (g.blk s H scope Cc cl fp) it1 it1' tg1' h9) (fun s H Cc cl fp => (ckG_ok (H0 := H0) (g.blk s H scope Cc cl fp) n).1 tg1 tg1' h10 h13)
        (fun s H Cc cl fp => ckIf_ok (c.t (g.blk s H scope Cc cl fp)) h11)
        (fun s H Cc cl fp => c.v (g.blk s H scope Cc cl fp) elt elt' h5) (set_no h6 _) (set_no h12) h7 (by
          rw [ownP_snd]
          intro i hi
          exact List.contains_iff_mem.mp (List.all_eq_true.mp h8 i hi)) h13 (fun i hi => List.contains_iff_mem.mp (List.all_eq_true.mp h14 i hi)) (pos := pos)
      rw [ownP_snd] at k
      unfold evP
      exact k
    · cases h
end
end Zd
end
section
set_option Elab.async false
set_option linter.all false
set_option maxRecDepth 100000
set_option maxHeartbeats 4000000
/-! Zd11: the look at an expression is right. -/
namespace Zd
open PySem PySem.Spec L2
open PyProof.Rows hiding St
variable {C : Str → List W → M W} {gv : Str → Option PyData} {H0 : Hp}
theorem ty_at {X : Cx} {G : Cg} {E' : XK} (g : Gd X G C gv E') {ty : String} {q : Pos} (h : ty ∈ ["bool", "int", "str", "list", "tuple"]) (hg : Gl X ty) (hd : ((ty : Str) == ("__debug__" : Str)) = false) : PE X (.Name ty q) (tC (.ty ty)) := by
  have hm : X.mg ty = none := g.oth ty (by
    simp only [List.mem_cons, List.not_mem_nil, or_false] at h ⊢
    rcases h with h | h | h | h | h <;> subst h <;> simp)
  simp only [List.mem_cons, List.not_mem_nil, or_false] at h
  rcases h with h | h | h | h | h <;> subst h
  · exact pe_bltn hg hm boot_bool rfl (by decide) hd
  · exact pe_bltn hg hm boot_int rfl (by decide) hd
  · exact pe_bltn hg hm boot_str rfl (by decide) hd
  · exact pe_bltn hg hm boot_list rfl (by decide) hd
  · exact pe_bltn hg hm boot_tuple rfl (by decide) hd
theorem ty_mem {ty : String} (h : ty ∈ ["bool", "int", "str", "list", "tuple"]) : ty ∈ tyNames := by
  unfold tyNames
  simp only [List.mem_cons, List.not_mem_nil, or_false] at h ⊢
  rcases h with h | h | h | h | h <;> subst h <;> simp
theorem paK {X : Cx} {P : PX} {g : Nv → M (List W)} {kws : List Keyword} {m : Nat} (e : m = kws.length) (h : PK X kws (rdA X.K H0 P g)) : PK X kws (rdA X.K H0 P fun v => bd (g v) (wantN kws.length)) :=
  pkImp h fun σ H Q ⟨S, ρ, st, e, hs, he, h⟩ => ⟨S, ρ, st, e, hs, he, by
    unfold Zd.bd at h
    dsimp only at h
    cases eg : g e st with
    | bad => rw [eg] at h; exact h
    | exc y st' => rw [eg] at h; exact h
    | ok ws st' =>
      rw [eg] at h
      dsimp only at h
      unfold wantN at h
      cases c : decide (ws.length = kws.length) with
      | false => rw [c] at h; exact False.elim h
      | true => rw [c] at h; exact h⟩
theorem v_step {n : Nat} (c : Ck n C gv H0) {X : Cx} {G : Cg} {E' : XK} (g : Gd X G C gv E') (e : E) (x : Expr) (h : ckV (n + 1) G e x = true) : PE X x (rdV X.K H0 (pX E') (evP C gv e).v) := by
  have hu : X.A.units + 64 < cLine := by have := g.un; omega
  have hN : X.N.Nodup := by rw [g.N]; exact g.nd
  have h0 := h
  cases e with
  | var i =>
    unfold ckV at h
    cases x <;> first | (cases h; done) | skip
    dsimp only at h
    unfold varB at h
    simp only [Bool.and_eq_true, Bool.not_eq_true', beq_iff_eq] at h
    obtain ⟨⟨⟨h1, h2⟩, h3⟩, h4⟩ := h
    unfold evP
    exact zVar (by rw [g.N]; exact h1) (by rw [g.sc]; exact visB_is h2) h3 h4
  | cst p =>
    unfold ckV at h
    cases x <;> first | (cases h; done) | skip
    unfold evP
    exact cst_ok h
  | glob y =>
    unfold ckV at h
    cases x <;> first | (cases h; done) | skip
    dsimp only at h
    simp only [Bool.and_eq_true, beq_iff_eq] at h
    obtain ⟨rfl, h2, h3⟩ := h
    obtain ⟨h4, h5⟩ := g.gl h2
    obtain ⟨p, v, u, e1, e2, e3, e4⟩ := g.glob y h3
    unfold evP
    have : (fun _ : Nv => globM (gv y)) = fun _ => ret (.d p) := by rw [e1]; rfl
    show PE X _ (rdV X.K H0 (pX E') fun _ : Nv => globM (gv y))
    rw [this]
    exact zCst (pe_glob h4 e2 e3 h5) e4
  | bin op a b =>
    unfold ckV at h
    cases x <;> first | (cases h; done) | skip
    dsimp only at h
    simp only [Bool.and_eq_true, decide_eq_true_eq] at h
    obtain ⟨rfl, h2, h3⟩ := h
    unfold evP
    exact zBin (c.v g _ _ h2) (c.v g _ _ h3)
  | neg a =>
    unfold ckV at h
    dsimp only at h
    split at h
    · unfold evP
      exact zNeg (c.v g _ _ h)
    · cases h
  | not_ a =>
    unfold ckV at h
    dsimp only at h
    split at h
    · unfold evP
      exact zNot (c.v g _ _ h)
    · cases h
  | cmp op a b =>
    unfold ckV at h
    dsimp only at h
    split at h
    · simp only [Bool.and_eq_true, decide_eq_true_eq, Bool.not_eq_true'] at h
      obtain ⟨rfl, h2, h3, h4⟩ := h
      unfold evP
      exact zCmp hu (c.v g _ _ h2) (c.v g _ _ h3) h4
    · cases h
  | chain o1 o2 a b d =>
    unfold ckV at h
    dsimp only at h
    split at h
    · simp only [Bool.and_eq_true, decide_eq_true_eq, Bool.not_eq_true'] at h
      obtain ⟨rfl, rfl, h2, h3, h4, h5⟩ := h
      unfold evP
      exact zChain hu (c.v g _ _ h2) (c.v g _ _ h3) (c.v g _ _ h4) h5
    · cases h
  | and_ a b =>
    unfold ckV at h
    dsimp only at h
    split at h
    · simp only [Bool.and_eq_true] at h
      unfold evP
      exact zAnd (c.v g _ _ h.1) (pe_one (c.v g _ _ h.2))
    · simp only [Bool.and_eq_true] at h
      unfold evP
      exact zAnd (c.v g _ _ h.1) (c.v g _ _ h.2)
    · cases h
  | or_ a b =>
    unfold ckV at h
    dsimp only at h
    split at h
    · simp only [Bool.and_eq_true] at h
      unfold evP
      exact zOr (c.v g _ _ h.1) (pe_one (c.v g _ _ h.2))
    · simp only [Bool.and_eq_true] at h
      unfold evP
      exact zOr (c.v g _ _ h.1) (c.v g _ _ h.2)
    · cases h
  | ife t a b =>
    unfold ckV at h
    cases x <;> first | (cases h; done) | skip
    dsimp only at h
    simp only [Bool.and_eq_true] at h
    unfold evP
    exact zIf (c.t g _ _ h.1) (c.v g _ _ h.2.1) (c.v g _ _ h.2.2)
  | tup xs =>
    unfold ckV at h
    cases x <;> first | (cases h; done) | skip
    have k := ckD_ok (c.v g) h
    unfold evP
    exact zTup k
  | lst xs => exact rdN_V (ck_fresh c g rfl h0)
  | comp tg it ifs elt own => exact rdN_V (ck_fresh c g rfl h0)
  | comp2 tg it ifs tg1 it1 ifs1 elt own own1 => exact rdN_V (ck_fresh c g rfl h0)
  | lstB xs =>
    unfold ckV at h
    cases x <;> first | (cases h; done) | skip
    have k := ckD_ok (c.v g) h
    unfold evP
    exact zLstB k
  | sub a b =>
    unfold ckV at h
    cases x <;> first | (cases h; done) | skip
    dsimp only at h
    simp only [Bool.and_eq_true] at h
    unfold evP
    exact zSub (c.v g _ _ h.1) (c.v g _ _ h.2.1) (plainIx h.2.2)
  | slice a l u =>
    unfold ckV at h
    dsimp only at h
    split at h
    · simp only [Bool.and_eq_true] at h
      unfold evP
      exact zSlice (c.v g _ _ h.1) (ckO_ok (c.v g) h.2.1) (ckO_ok (c.v g) h.2.2)
    · cases h
  | call f xs =>
    unfold ckV at h
    dsimp only at h
    split at h
    · simp only [Bool.and_eq_true, beq_iff_eq] at h
      obtain ⟨rfl, h2, h3, h4⟩ := h
      obtain ⟨k1, k2⟩ := g.gl h2
      obtain ⟨n', D⟩ := g.def_ _ h3
      have ka := ckL_ok (c.v g) h4
      have kp := ckL_plain h4
      rename_i es _
      unfold evP
      cases es with
      | nil =>
        cases xs with
        | cons _ _ => cases h4
        | nil =>
          have : evw C gv [] = fun _ => ret [] := by funext v; conv => lhs; unfold evw
          show PE X _ (rdV X.K H0 (pX E') fun v => bd (evw C gv [] v) fun ws => C f ws)
          rw [this]
          exact zCall0 D g.gd g.pass k1 k2
      | cons e es =>
        rw [List.all_cons, Bool.and_eq_true] at kp
        exact zCall D g.gd g.pass k1 ka k2 kp.1 kp.2
    · cases h
  | callK f pm xs =>
    unfold ckV at h
    dsimp only at h
    split at h
    · rename_i kws _
      simp only [Bool.and_eq_true, beq_iff_eq] at h
      obtain ⟨rfl, h2, h3, h4, h5, h6⟩ := h
      obtain ⟨k1, k2⟩ := g.gl h2
      obtain ⟨n', D⟩ := g.def_ _ h3
      obtain ⟨ka, kb, kl⟩ := ckK_ok (c.v g) h4
      unfold evP
      have fin : ∀ {p q : Pos}, PE X (.Call (.Name f p) [] kws q) (rdV X.K H0 (pX E') fun v => bd (bd (evw C gv xs v) (wantN xs.length)) fun ws => C f (permW pm ws)) := fun {p q} => by
        have z := zCallK (g := evw C gv xs) (pm := pm) (p := p) (pos := q) D g.gd g.pass k1 (paK kl ka) k2 kb (List.contains_iff_mem.mp h5) h6
        rw [← kl] at z
        exact z
      exact fin
    · cases h
  | blt f xs =>
    unfold ckV at h
    dsimp only at h
    split at h
    · simp only [Bool.and_eq_true, beq_iff_eq] at h
      obtain ⟨rfl, h2, h3, h4⟩ := h
      obtain ⟨k1, k2⟩ := g.gl h2
      have ka := ckL_ok (c.v g) h4
      have kp := ckL_plain h4
      rw [List.all_cons, Bool.and_eq_true] at kp
      unfold evP
      exact zBlt g.nb ⟨k1, g.blt f h3⟩ g.calm g.gd g.un ka kp.1 kp.2
    · cases h
  | isi a ty =>
    unfold ckV at h
    dsimp only at h
    split at h
    · simp only [Bool.and_eq_true, beq_iff_eq] at h
      obtain ⟨rfl, h2, rfl, h4, h5, h6, h7⟩ := h
      obtain ⟨k1, _⟩ := g.gl h2
      obtain ⟨k3, k4⟩ := g.gl h4
      have hm := List.contains_iff_mem.mp h5
      unfold evP
      exact zIsi (ty_mem hm) k1 (g.oth "isinstance" (by simp)) (c.v g _ _ h6) h7 (ty_at g hm k3 k4)
    · cases h
  | scp a =>
    unfold ckV at h
    unfold evP
    exact zScoped (c.v g _ _ h)
  | rng xs => unfold ckV at h; cases h
  | enm a => unfold ckV at h; cases h
  | zip a b => unfold ckV at h; cases h
  | star a => unfold ckV at h; cases h
  | no => unfold ckV at h; cases h
theorem t_step {n : Nat} (c : Ck n C gv H0) {X : Cx} {G : Cg} {E' : XK} (g : Gd X G C gv E') (e : E) (x : Expr) (h : ckT (n + 1) G e x = true) : PT X x (rdB X.K H0 (pX E') (evP C gv e).t) := by
  have hu : X.A.units + 64 < cLine := by have := g.un; omega
  have mk : isMk e = true → ckT (n + 1) G e x = (isMk e && (truE x && ckV n G e x)) → PT X x (rdB X.K H0 (pX E') (evP C gv e).t) := fun k e1 => by
    rw [e1] at h
    simp only [Bool.and_eq_true] at h
    rw [(mk_v k).1]
    exact zTru (c.v g _ _ h.2.2) (truE_is h.2.1)
  cases e with
  | cmp op a b =>
    unfold ckT at h
    dsimp only at h
    split at h
    · simp only [Bool.and_eq_true, decide_eq_true_eq, Bool.not_eq_true'] at h
      obtain ⟨rfl, h2, h3, h4⟩ := h
      unfold evP
      exact zCmpT hu (c.v g _ _ h2) (c.v g _ _ h3) h4
    · cases h
  | chain o1 o2 a b d =>
    unfold ckT at h
    dsimp only at h
    split at h
    · simp only [Bool.and_eq_true, decide_eq_true_eq, Bool.not_eq_true'] at h
      obtain ⟨rfl, rfl, h2, h3, h4, h5⟩ := h
      unfold evP
      exact zChainT hu (c.v g _ _ h2) (c.v g _ _ h3) (c.v g _ _ h4) h5
    · cases h
  | and_ a b =>
    unfold ckT at h
    dsimp only at h
    split at h
    · simp only [Bool.and_eq_true] at h
      unfold evP
      exact (zAndT (c.t g _ _ h.1) (pw_and1 (c.t g _ _ h.2))).pt
    · simp only [Bool.and_eq_true] at h
      unfold evP
      exact (zAndT (c.t g _ _ h.1) ⟨fun wh pins s σ H Q I q => (c.t g _ _ h.2).run pins s σ H Q I q⟩).pt
    · cases h
  | or_ a b =>
    unfold ckT at h
    dsimp only at h
    split at h
    · simp only [Bool.and_eq_true] at h
      unfold evP
      exact (zOrT (c.t g _ _ h.1) (pw_or1 (c.t g _ _ h.2))).pt
    · simp only [Bool.and_eq_true] at h
      unfold evP
      exact (zOrT (c.t g _ _ h.1) ⟨fun wh pins s σ H Q I q => (c.t g _ _ h.2).run pins s σ H Q I q⟩).pt
    · cases h
  | not_ a =>
    unfold ckT at h
    dsimp only at h
    split at h
    · unfold evP
      exact zNotT (c.t g _ _ h)
    · cases h
  | rng xs => unfold ckT at h; cases h
  | enm a => unfold ckT at h; cases h
  | zip a b => unfold ckT at h; cases h
  | star a => unfold ckT at h; cases h
  | no => unfold ckT at h; cases h
  | _ => exact mk rfl (by unfold ckT; rfl)
theorem i_step {n : Nat} (c : Ck n C gv H0) {X : Cx} {G : Cg} {E' : XK} (g : Gd X G C gv E') (e : E) (x tg : Expr) (h : ckI (n + 1) G e x tg = true) : PI X tg x (rdI X.K H0 (pX E') (evP C gv e).i) := by
  have mk : isMk e = true → ckI (n + 1) G e x tg = (isMk e && ckV n G e x) → PI X tg x (rdI X.K H0 (pX E') (evP C gv e).i) := fun k e1 => by
    rw [e1] at h
    simp only [Bool.and_eq_true] at h
    rw [(mk_v k).2]
    exact zIt (c.v g _ _ h.2)
  cases e with
  | rng xs =>
    unfold ckI at h
    dsimp only at h
    split at h
    · simp only [Bool.and_eq_true, Bool.or_eq_true, beq_iff_eq] at h
      obtain ⟨rfl, h2, h3, h4⟩ := h
      obtain ⟨k1, _⟩ := g.gl h2
      have ka := ckL_ok (c.v g) h3
      have kp := ckL_plain h3
      have hl : ∀ {xs : List E} {es : List Expr}, ckL (ckV n G) xs es = true → xs.length = es.length := fun {xs} => by
        induction xs with
        | nil => intro es h; cases es with
          | nil => rfl
          | cons _ _ => cases h
        | cons a r ih => intro es h; cases es with
          | nil => cases h
          | cons b q =>
            unfold ckL at h
            simp only [Bool.and_eq_true] at h
            rw [List.length_cons, List.length_cons, ih h.2.2]
      have hx := hl h3
      rename_i es _ _
      unfold evP
      rcases h4 with h4 | h4
      · match es, h4 with
        | [a], _ =>
          have : xs.length = 1 := hx
          show PI X tg _ (rdI X.K H0 (pX E') fun e => bd (bd (evw C gv xs e) (wantN xs.length)) rngM)
          rw [this]
          exact zRng1 k1 (g.oth "range" (by simp)) ka (by simpa using kp)
      · match es, h4 with
        | [a, b], _ =>
          have : xs.length = 2 := hx
          have kp' : plainE a = true ∧ plainE b = true := by simpa using kp
          show PI X tg _ (rdI X.K H0 (pX E') fun e => bd (bd (evw C gv xs e) (wantN xs.length)) rngM)
          rw [this]
          exact zRng2 k1 (g.oth "range" (by simp)) ka kp'.1 kp'.2
    · cases h
  | zip a b =>
    unfold ckI at h
    dsimp only at h
    split at h
    · simp only [Bool.and_eq_true, beq_iff_eq] at h
      obtain ⟨rfl, h2, h3, h4, h5, h6, h7⟩ := h
      obtain ⟨k1, _⟩ := g.gl h2
      cases tg <;> first | (cases h7; done) | skip
      unfold evP
      exact zZip k1 (g.oth "zip" (by simp)) (c.v g _ _ h3) (c.v g _ _ h4) h5 h6
    · cases h
  | enm a =>
    unfold ckI at h
    dsimp only at h
    split at h
    · simp only [Bool.and_eq_true, beq_iff_eq] at h
      obtain ⟨rfl, h2, h3, h4, h5, h6⟩ := h
      obtain ⟨k1, _⟩ := g.gl h2
      cases tg <;> first | (cases h6; done) | skip
      unfold evP
      rw [(mk_v h3).2]
      exact zEnm k1 (g.oth "enumerate" (by simp)) (c.v g _ _ h4) h5
    · cases h
  | cmp op a b => unfold ckI at h; cases h
  | chain o1 o2 a b d => unfold ckI at h; cases h
  | and_ a b => unfold ckI at h; cases h
  | or_ a b => unfold ckI at h; cases h
  | not_ a => unfold ckI at h; cases h
  | star a => unfold ckI at h; cases h
  | no => unfold ckI at h; cases h
  | _ => exact mk rfl (by unfold ckI; rfl)
theorem ck_ok : ∀ n, Ck n C gv H0
  | 0 => ⟨fun _ e x h => (by unfold ckV at h; cases h), fun _ e x h => (by unfold ckT at h; cases h), fun _ e x tg h => (by unfold ckI at h; cases h)⟩
  | n + 1 => ⟨v_step (ck_ok n), t_step (ck_ok n), i_step (ck_ok n)⟩
end Zd
end
section
set_option Elab.async false
set_option linter.all false
set_option maxRecDepth 100000
set_option maxHeartbeats 4000000
/-! Zd12: statements, each by its parts. -/
namespace Zd
open PySem PySem.Spec L2
open PyProof.Rows hiding St

/-- of a statement's outcome: B, the def's entry; the state has grown from there, and from here -/
def Wq (K : PySem.W.Frag) (S0 : AS) (ρ0 : List Addr) (H0 : Hp) (S : AS) (ρ : List Addr) (H : Hp) {α : Type} (P : PX) (Q : α → Store → AS → List Addr → Hp → Prop) : Out α → Prop
  | .ok a st' => ∀ S' ρ' H', Ext K S0 ρ0 H0 S' ρ' H' → Gro K S ρ H S' ρ' H' → Sta K S' ρ' H' st' → Q a st' S' ρ' H'
  | .exc x st' => ∀ S' ρ' H', Ext K S0 ρ0 H0 S' ρ' H' → Gro K S ρ H S' ρ' H' → Sta K S' ρ' H' st' → P x st' S' ρ' H'
  | .bad => False
section
variable {K : PySem.W.Frag} {S0 S S' : AS} {ρ0 ρ ρ' : List Addr} {H0 H H' : Hp} {st st0 st' : Store} {σ : St} {e : Nv} {α β : Type} {P : PX} {Q : α → Store → AS → List Addr → Hp → Prop} {QQ : β → Store → AS → List Addr → Hp → Prop}
theorem Wq.later {r : Out α} (x : Gro K S ρ H S' ρ' H') (h : Wq K S0 ρ0 H0 S ρ H P Q r) : Wq K S0 ρ0 H0 S' ρ' H' P Q r := by
  cases r with
  | ok a st' => exact fun S2 ρ2 H2 y z s => h S2 ρ2 H2 y (x.trans z) s
  | exc a st' => exact fun S2 ρ2 H2 y z s => h S2 ρ2 H2 y (x.trans z) s
  | bad => exact h
theorem Wq.bd {m : M α} {k : α → M β} (h : Wq K S0 ρ0 H0 S ρ H P QQ (Zd.bd m k st)) : Wq K S0 ρ0 H0 S ρ H P (fun a st' S' ρ' H' => Wq K S0 ρ0 H0 S' ρ' H' P QQ (k a st')) (m st) := by
  unfold Zd.bd at h
  cases e : m st with
  | ok a st' =>
    rw [e] at h
    exact fun S' ρ' H' x g s => h.later g
  | exc y st' =>
    rw [e] at h
    exact h
  | bad =>
    rw [e] at h
    exact h
theorem Wq.bd0 {m : M α} {k : α → M β} (h : Wq K S0 ρ0 H0 S ρ H P QQ (Zd.bd m k st)) : Wq K S0 ρ0 H0 S ρ H P (fun a st' _ _ _ => Wq K S0 ρ0 H0 S ρ H P QQ (k a st')) (m st) := by
  unfold Zd.bd at h
  cases e : m st with
  | ok a st' =>
    rw [e] at h
    exact fun S' ρ' H' x g s => h
  | exc y st' =>
    rw [e] at h
    exact h
  | bad =>
    rw [e] at h
    exact h
theorem Wq.mono {Q' : α → Store → AS → List Addr → Hp → Prop} {r : Out α} (h : Wq K S0 ρ0 H0 S ρ H P Q r) (f : ∀ a st' S' ρ' H', Ext K S0 ρ0 H0 S' ρ' H' → Gro K S ρ H S' ρ' H' → Sta K S' ρ' H' st' → Q a st' S' ρ' H' → Q' a st' S' ρ' H') : Wq K S0 ρ0 H0 S ρ H P Q' r := by
  cases r with
  | ok a st' => exact fun S2 ρ2 H2 y z s => f _ _ _ _ _ y z s (h S2 ρ2 H2 y z s)
  | exc a st' => exact h
  | bad => exact h
theorem Gro.refl (s : Sta K S ρ H st) : Gro K S ρ H S ρ H := Ext.refl.gro s
theorem Wq.now {a : α} (x : Ext K S0 ρ0 H0 S ρ H) (s : Sta K S ρ H st) (h : Wq K S0 ρ0 H0 S ρ H P Q (.ok a st)) : Q a st S ρ H := h S ρ H x (.refl s) s
/-- an expression's outcome -/
theorem Wq.wp {r : Out α} (s0 : Sta K S0 ρ0 H0 st0) (x : Ext K S0 ρ0 H0 S ρ H) (s : Sta K S ρ H st) (h : Wq K S0 ρ0 H0 S ρ H P Q r) : Wp K S ρ H P Q r := by
  cases r with
  | ok a st' => exact fun S2 ρ2 H2 y z => h S2 ρ2 H2 (x.trans s0 y) (y.gro s) z
  | exc a st' => exact fun S2 ρ2 H2 y z => h S2 ρ2 H2 (x.trans s0 y) (y.gro s) z
  | bad => exact h
theorem Wq.want {c : Bool} {m : M α} (h : Wq K S0 ρ0 H0 S ρ H P Q (Zd.want c m st)) : c = true ∧ Wq K S0 ρ0 H0 S ρ H P Q (m st) := by
  cases c with
  | true => exact ⟨rfl, h⟩
  | false => exact False.elim h
/-- the value of an expression, then the rest -/
theorem sq1 {f : Nv → M W} {k : W → M β} (s0 : Sta K S0 ρ0 H0 st0) (x : Ext K S0 ρ0 H0 S ρ H) (hs : Sta K S ρ H st) (he : Re K H0 S ρ H σ e) (h : Wq K S0 ρ0 H0 S ρ H P QQ (Zd.bd (f e) k st)) {R : V → Hp → Prop}
    (hR : ∀ v H2 S2 ρ2 st2 a, Ext K S0 ρ0 H0 S2 ρ2 H2 → Ext K S ρ H S2 ρ2 H2 → Sta K S2 ρ2 H2 st2 → Re K H0 S2 ρ2 H2 σ e → Rw K H0 S2 ρ2 H2 v a → Wq K S0 ρ0 H0 S2 ρ2 H2 P QQ (k a st2) → R v H2) : rdV K H0 P f σ H R :=
  ⟨S, ρ, st, e, hs, he, (Wq.wp s0 x hs h.bd).mono fun a st1 S1 ρ1 H1 x1 s1 q1 v rv => hR v H1 S1 ρ1 st1 a (x.trans s0 x1) x1 s1 (he.ext x1 hs) rv q1⟩
theorem sqB {f : Nv → M Bool} {k : Bool → M β} (s0 : Sta K S0 ρ0 H0 st0) (x : Ext K S0 ρ0 H0 S ρ H) (hs : Sta K S ρ H st) (he : Re K H0 S ρ H σ e) (h : Wq K S0 ρ0 H0 S ρ H P QQ (Zd.bd (f e) k st)) {R : Bool → Hp → Prop}
    (hR : ∀ b H2 S2 ρ2 st2, Ext K S0 ρ0 H0 S2 ρ2 H2 → Ext K S ρ H S2 ρ2 H2 → Sta K S2 ρ2 H2 st2 → Re K H0 S2 ρ2 H2 σ e → Wq K S0 ρ0 H0 S2 ρ2 H2 P QQ (k b st2) → R b H2) : rdB K H0 P f σ H R :=
  ⟨S, ρ, st, e, hs, he, (Wq.wp s0 x hs h.bd).mono fun a st1 S1 ρ1 H1 x1 s1 q1 => hR a H1 S1 ρ1 st1 (x.trans s0 x1) x1 s1 (he.ext x1 hs) q1⟩
end
/-- behind a statement -/
def flQ (K : PySem.W.Frag) (H0 : Hp) (D : Ends) : Fl → Store → AS → List Addr → Hp → Prop
  | .nx e, _, S, ρ, H => ∀ σ, Re K H0 S ρ H σ e → D.nx σ H
  | .rt w, _, S, ρ, H => ∀ v, Rw K H0 S ρ H v w → D.rt v H
  | .bk e, _, S, ρ, H => ∀ σ, Re K H0 S ρ H σ e → D.bk σ H
  | .ct e, _, S, ρ, H => ∀ σ, Re K H0 S ρ H σ e → D.ct σ H
def rdS (K : PySem.W.Frag) (S0 : AS) (ρ0 : List Addr) (H0 : Hp) (P : PX) (f : Nv → M Fl) : TS := fun D σ H => ∃ S ρ st e, Ext K S0 ρ0 H0 S ρ H ∧ Sta K S ρ H st ∧ Re K H0 S ρ H σ e ∧ Wq K S0 ρ0 H0 S ρ H P (flQ K H0 D) (f e st)
theorem psImp {X : Cx} {s : Stmt} {t t' : TS} (h : PS X s t) (f : ∀ D σ H, t' D σ H → t D σ H) : PS X s t' := ⟨fun pins s σ H D I q => h.run pins s σ H D I (f _ _ _ q)⟩
theorem pssImp {X : Cx} {s : List Stmt} {t t' : TS} (h : PSs X s t) (f : ∀ D σ H, t' D σ H → t D σ H) : PSs X s t' := ⟨fun pins s σ H D I q => h.run pins s σ H D I (f _ _ _ q)⟩
/-- one statement after another -/
def sqM (f g : Nv → M Fl) : Nv → M Fl := fun e => bd (f e) fun r => match r with
  | .nx e' => g e'
  | .rt w => Zd.ret (.rt w)
  | .bk e' => Zd.ret (.bk e')
  | .ct e' => Zd.ret (.ct e')
section
variable {X : Cx} {S0 : AS} {ρ0 : List Addr} {H0 : Hp} {st0 : Store} {P : PX} {pos : Pos} {s : Stmt} {r a b : List Stmt} {x : Expr} {f g : Nv → M Fl} {v : Nv → M W}
theorem sNil : PSs X [] (rdS X.K S0 ρ0 H0 P fun e => ret (.nx e)) := pssImp pss_nil fun D σ H ⟨S, ρ, st, e, x, hs, he, h⟩ => Wq.now x hs h σ he
theorem sq_of (D : Ends) (σ : St) (H : Hp) (h : rdS X.K S0 ρ0 H0 P (sqM f g) D σ H) : rdS X.K S0 ρ0 H0 P f { D with nx := rdS X.K S0 ρ0 H0 P g D } σ H := by
  obtain ⟨S, ρ, st, e, x, hs, he, h⟩ := h
  refine ⟨S, ρ, st, e, x, hs, he, (Wq.bd h).mono fun fl st' S' ρ' H' x' g' s' q => ?_⟩
  cases fl with
  | nx e' => exact fun σ' r' => ⟨S', ρ', st', e', x', s', r', q⟩
  | rt w => exact Wq.now (P := P) (Q := flQ X.K H0 D) x' s' q
  | bk e' => exact Wq.now (P := P) (Q := flQ X.K H0 D) x' s' q
  | ct e' => exact Wq.now (P := P) (Q := flQ X.K H0 D) x' s' q
theorem sCons (h1 : PS X s (rdS X.K S0 ρ0 H0 P f)) (h2 : PSs X r (rdS X.K S0 ρ0 H0 P g)) : PSs X (s :: r) (rdS X.K S0 ρ0 H0 P (sqM f g)) := pssImp (pss_cons h1 h2) sq_of
theorem sRet (s0 : Sta X.K S0 ρ0 H0 st0) (h : PE X x (rdV X.K H0 P v)) : PS X (.Return (some x) pos) (rdS X.K S0 ρ0 H0 P fun e => bd (v e) fun w => ret (.rt w)) :=
  psImp (ps_ret h) fun D σ H ⟨S, ρ, st, e, x, hs, he, q⟩ => sq1 s0 x hs he q fun v H2 S2 ρ2 st2 a x2 _ s2 _ r q => Wq.now x2 s2 q v r
theorem sRetN : PS X (.Return none pos) (rdS X.K S0 ρ0 H0 P fun _ => ret (.rt (.d .none))) := psImp ps_retN fun D σ H ⟨S, ρ, st, e, x, hs, he, h⟩ => Wq.now x hs h _ .non
theorem sBrk : PS X (.Break pos) (rdS X.K S0 ρ0 H0 P fun e => ret (.bk e)) := psImp ps_break fun D σ H ⟨S, ρ, st, e, x, hs, he, h⟩ => Wq.now x hs h σ he
theorem sCont : PS X (.Continue pos) (rdS X.K S0 ρ0 H0 P fun e => ret (.ct e)) := psImp ps_continue fun D σ H ⟨S, ρ, st, e, x, hs, he, h⟩ => Wq.now x hs h σ he
theorem sPass : PS X (.Pass pos) (rdS X.K S0 ρ0 H0 P fun e => ret (.nx e)) := psImp ps_pass fun D σ H ⟨S, ρ, st, e, x, hs, he, h⟩ => Wq.now x hs h σ he
theorem sBad : PS X s (rdS X.K S0 ρ0 H0 P fun _ => bad) := psImp ps_never fun D σ H ⟨S, ρ, st, e, x, hs, he, h⟩ => h
theorem sIf {c : Expr} {t : Nv → M Bool} (s0 : Sta X.K S0 ρ0 H0 st0) (hc : PT X c (rdB X.K H0 P t)) (ha : PSs X a (rdS X.K S0 ρ0 H0 P f)) (hb : PSs X b (rdS X.K S0 ρ0 H0 P g)) : PS X (.If c a b pos) (rdS X.K S0 ρ0 H0 P fun e => bd (t e) fun k => match k with
    | true => f e
    | false => g e) :=
  psImp (ps_if hc ha hb) fun D σ H ⟨S, ρ, st, e, x, hs, he, q⟩ => sqB s0 x hs he q fun b H2 S2 ρ2 st2 x2 _ s2 r2 q => by
    cases b with
    | true => exact ⟨S2, ρ2, st2, e, x2, s2, r2, q⟩
    | false => exact ⟨S2, ρ2, st2, e, x2, s2, r2, q⟩
/-- not a comprehension -/
def notComp : Expr → Bool
  | .ListComp _ _ _ _ => false
  | .SetComp _ _ _ _ => false
  | .DictComp _ _ _ _ _ => false
  | _ => true
theorem swap_no {e : Expr} {t : Option Expr} {n : Nat} {env : Env} (h : notComp e = true) : swapsWith e t n env = pure false := by
  cases e <;> first | rfl | cases h
theorem sExpr (s0 : Sta X.K S0 ρ0 H0 st0) (h : PE X x (rdV X.K H0 P v)) (hc : notComp x = true) : PS X (.Expr x pos) (rdS X.K S0 ρ0 H0 P fun e => bd (v e) fun _ => ret (.nx e)) :=
  psImp (ps_expr h (swap_no hc)) fun D σ H ⟨S, ρ, st, e, x, hs, he, q⟩ => sq1 s0 x hs he q fun v H2 S2 ρ2 st2 a x2 _ s2 r2 r q => Wq.now x2 s2 q σ r2

/-! ### name = value -/
def asgNm (i : Nat) (v : Nv → M W) : Nv → M Fl := fun e => bd (v e) fun w => bd (asgT (.nm i) w e) fun e' => ret (.nx e')
theorem nm_of {K : PySem.W.Frag} {S : AS} {ρ : List Addr} {H : Hp} {st : Store} {σ : St} {e : Nv} {i : Nat} {w : W} {u : V} {D : Ends} (x : Ext K S0 ρ0 H0 S ρ H) (s : Sta K S ρ H st) (he : Re K H0 S ρ H σ e) (r : Rw K H0 S ρ H u w)
    (q : Wq K S0 ρ0 H0 S ρ H P (flQ K H0 D) (bd (asgT (.nm i) w e) (fun e' => ret (.nx e')) st)) : D.nx (σ.set i (some u)) H := by
  cases w with
  | d p => unfold asgT at q; exact Wq.now x s q _ (he.put r i rfl)
  | box n => unfold asgT at q; exact Wq.now x s q _ (he.put r i rfl)
  | own p => unfold asgT at q; exact False.elim q
  | rd p => unfold asgT at q; exact False.elim q
theorem sSet {i : Nat} {y : Str} {p : Pos} (s0 : Sta X.K S0 ρ0 H0 st0) (hN : X.N.Nodup) (hi : X.N[i]? = some y) (hx : Loc X.env.scope y) (hf : X.fn y = true ∨ X.env.scope.names.lookup y = some .local) (h : PE X x (rdV X.K H0 P v))
    (hs : swapsWith x (some (.Name y p)) pos.line X.env = pure false) : PS X (.Assign [.Name y p] x pos) (rdS X.K S0 ρ0 H0 P (asgNm i v)) :=
  psImp (ps_set hN hi hx h hs hf) fun D σ H ⟨S, ρ, st, e, x, hs, he, q⟩ => sq1 s0 x hs he q fun u H2 S2 ρ2 st2 a x2 _ s2 r2 r q => nm_of x2 s2 r2 r q
theorem asg_imp {t t' : TE} {i : Nat} (h : PS X s (tAsg t (gName i))) (f : ∀ σ H Q, t' σ H Q → t σ H Q) : PS X s (tAsg t' (gName i)) := psImp h fun D σ H q => f _ _ _ q
theorem sSetL {i : Nat} (s0 : Sta X.K S0 ρ0 H0 st0) (h : PS X s (tAsg (rdN X.K H0 P v) (gName i))) : PS X s (rdS X.K S0 ρ0 H0 P (asgNm i v)) :=
  psImp h fun D σ H ⟨S, ρ, st, e, x, hs, he, q⟩ => ⟨S, ρ, st, e, hs, he, (Wq.wp s0 x hs (Wq.bd q)).mono fun w st1 S1 ρ1 H1 x1 s1 q1 a vs ps ew _ na _ la s2 rs => by
    subst ew
    exact nm_of (u := .ref a) (w := .d (.list ps)) (x.trans s0 x1) s1 (he.ext x1 hs) (Rp.lst na la (Rps.grow ⟨fun b h => .inl (.inl h), fun _ _ _ z => z, s2.sl⟩ rs)) q1⟩
theorem Re.putOwn {K : PySem.W.Frag} {S : AS} {ρ : List Addr} {H : Hp} {σ : St} {e : Nv} {a : Addr} {ps : List PyData} {i : Nat} (r : Re K H0 S ρ H σ e) (rv : Rw K H0 S ρ H (.ref a) (.own ps))
    (hf : ∀ j qs, j ≠ i → e[j]? = some (some (.own qs)) → σ[j]? ≠ some (some (.ref a))) : Re K H0 S ρ H (σ.set i (some (.ref a))) (e.set i (some (.own ps))) := by
  have inn : ∀ {α : Type} {l : List (Option α)} {u w : α}, (l.set i (some u))[i]? = some (some w) → w = u := fun {α l u w} h => by
    have hi : i < l.length := by
      have := (List.getElem?_eq_some_iff.mp h).1
      simpa using this
    rw [List.getElem?_set_self hi] at h
    cases h
    rfl
  refine ⟨by rw [List.length_set, List.length_set]; exact r.len, fun j u hj => ?_, fun j k b qs rs hn h1 h2 h3 h4 => ?_⟩
  · by_cases z : i = j
    · subst z
      have hi : i < e.length := by
        have := (List.getElem?_eq_some_iff.mp hj).1
        simpa using this
      have := inn hj
      subst this
      exact ⟨_, List.getElem?_set_self (by rw [← r.len]; exact hi), rv⟩
    · rw [List.getElem?_set_ne z] at hj ⊢
      exact r.at_ j u hj
  · by_cases zj : i = j
    · subst zj
      by_cases zk : i = k
      · exact hn zk
      · rw [List.getElem?_set_ne zk] at h2 h4
        have := inn h3
        cases this
        exact hf k rs (fun z => zk z.symm) h2 h4
    · rw [List.getElem?_set_ne zj] at h1 h3
      by_cases zk : i = k
      · subst zk
        have := inn h4
        cases this
        exact hf j qs (fun z => zj z.symm) h1 h3
      · rw [List.getElem?_set_ne zk] at h2 h4
        exact r.sep j k b qs rs hn h1 h2 h3 h4
/-- a new list of its own -/
def ownNm (i : Nat) (v : Nv → M W) : Nv → M Fl := fun e => bd (v e) fun w => bd (ownOf w) fun ps => ret (.nx (e.set i (some (.own ps))))
theorem sOwn {i : Nat} (s0 : Sta X.K S0 ρ0 H0 st0) (h : PS X s (tAsg (rdN X.K H0 P v) (gName i))) : PS X s (rdS X.K S0 ρ0 H0 P (ownNm i v)) :=
  psImp h fun D σ H ⟨S, ρ, st, e, x, hs, he, q⟩ => ⟨S, ρ, st, e, hs, he, (Wq.wp s0 x hs (Wq.bd0 q)).mono fun w st1 S1 ρ1 H1 x1 s1 q1 a vs ps ew ha na nr la s2 rs => by
    subst ew
    have nS : ¬ S a := hs.free ha
    have x4 : Ext X.K S ρ H (fun b => S1 b ∨ b = a) ρ1 H1 := ⟨x1.rho, fun b h => .inl (x1.su b h), fun b h => by
      rcases h with h | h
      · exact x1.up b h
      · rw [h]; exact .inr ha, x1.keep, x1.th⟩
    have q2 : Wq X.K S0 ρ0 H0 S ρ H P (flQ X.K H0 D) (.ok (.nx (e.set i (some (.own ps)))) st1) := q1
    refine q2 _ ρ1 H1 (x.trans s0 x4) (x4.gro hs) s2 _ (Re.putOwn (he.ext x4 hs) ⟨a, vs, rfl, .inr rfl, nr, x.th a ha, la, rs⟩ fun j qs _ h1 h2 => ?_)
    obtain ⟨v, e1, b, us, e2, e3, _⟩ := he.at_ j _ h1
    rw [h2] at e1
    cases e1
    cases e2
    exact nS e3⟩
end
end Zd
end
section
set_option Elab.async false
set_option linter.all false
set_option maxRecDepth 100000
set_option maxHeartbeats 4000000
/-! Zd13: lists that are changed; targets. -/
namespace Zd
open PySem PySem.Spec L2
open PyProof.Rows hiding St

section
variable {K : PySem.W.Frag} {S0 S S' : AS} {ρ0 ρ ρ' : List Addr} {H0 H H' : Hp} {st st0 st' : Store} {σ : St} {e : Nv} {a : Addr} {vs vs' : List V} {ps ps' : List PyData} {i : Nat}
theorem grow_mut (hS : S a) (sl : ∀ a, S a → ∃ xs, H a = some (.lst xs)) : Grow K S H S (upd H a (.lst vs')) := ⟨fun _ h => .inl h, fun b o n q => by rw [upd_ne (fun z => n (by rw [z]; exact hS))]; exact q, sl⟩
theorem th_mut : ∀ b, upd H a (.lst vs') b = none → H b = none := fun b q => by
  by_cases z : b = a
  · rw [z, upd_same] at q; cases q
  · rw [upd_ne z] at q; exact q
theorem gro_mut (s : Sta K S ρ H st) (hS : S a) : Gro K S ρ H S ρ (upd H a (.lst vs')) := ⟨grow_mut hS s.sl, ⟨[], by simp⟩, th_mut⟩
theorem ext_mut (x : Ext K S0 ρ0 H0 S ρ H) (h0 : H0 a = none ∨ a ∈ ρ0) : Ext K S0 ρ0 H0 S ρ (upd H a (.lst vs')) :=
  ⟨x.rho, x.su, x.up, fun b o n q => by
    rw [upd_ne (fun z => by
      rcases h0 with h0 | h0
      · rw [z, h0] at q; cases q
      · exact n (by rw [z]; exact h0))]
    exact x.keep b o n q, fun b q => x.th b (th_mut b q)⟩
theorem sl_mut (s : Sta K S ρ H st) : ∀ b, S b → ∃ xs, upd H a (.lst vs') b = some (.lst xs) := fun b h => by
  by_cases z : b = a
  · rw [z]; exact ⟨_, upd_same⟩
  · obtain ⟨xs, q⟩ := s.sl b h
    exact ⟨xs, by rw [upd_ne z]; exact q⟩
/-- one's own list is changed -/
theorem sta_own (s : Sta K S ρ H st) (hS : S a) (nr : a ∉ ρ) : Sta K S ρ (upd H a (.lst vs')) st :=
  ⟨sl_mut s, s.rs, s.nd, s.len, fun n b qs h1 h2 => by
    obtain ⟨ys, q, ry⟩ := s.bx n b qs h1 h2
    refine ⟨ys, ?_, Rps.grow (grow_mut hS s.sl) ry⟩
    rw [upd_ne (fun z => nr (by rw [← z]; exact List.mem_of_getElem? h1))]
    exact q⟩
theorem Re.own (s : Sta K S ρ H st) (r : Re K H0 S ρ H σ e) (hi : e[i]? = some (some (.own ps))) (hσ : σ[i]? = some (some (.ref a))) (hS : S a) (nr : a ∉ ρ) (h0 : H0 a = none) (rs : Rps K S H vs' ps') :
    Re K H0 S ρ (upd H a (.lst vs')) σ (e.set i (some (.own ps'))) := by
  have g : Grow K S H S (upd H a (.lst vs')) := grow_mut hS s.sl
  have hl : i < e.length := (List.getElem?_eq_some_iff.mp hi).1
  refine ⟨by rw [List.length_set]; exact r.len, fun j w hj => ?_, fun j k b qs ts hn h1 h2 h3 h4 => ?_⟩
  · by_cases z : i = j
    · subst z
      rw [List.getElem?_set_self hl] at hj
      cases hj
      exact ⟨_, hσ, a, vs', rfl, hS, nr, h0, upd_same, Rps.grow g rs⟩
    · rw [List.getElem?_set_ne z] at hj
      obtain ⟨v, e1, rv⟩ := r.at_ j w hj
      refine ⟨v, e1, ?_⟩
      cases w with
      | own qs =>
        obtain ⟨b, us, rfl, e3, e4, e5, e6, e7⟩ := rv
        refine ⟨b, us, rfl, e3, e4, e5, ?_, Rps.grow g e7⟩
        rw [upd_ne (fun q => by subst q; exact r.sep i j b ps qs z hi hj hσ e1)]
        exact e6
      | d p => exact Rw.grow g ⟨[], by simp⟩ rv rfl
      | box n => exact Rw.grow g ⟨[], by simp⟩ rv rfl
      | rd p => exact Rw.grow g ⟨[], by simp⟩ rv rfl
  · have old : ∀ {j : Nat} {qs : List PyData}, (e.set i (some (.own ps')))[j]? = some (some (.own qs)) → ∃ qs, e[j]? = some (some (.own qs)) := fun {j qs} h => by
      by_cases z : i = j
      · subst z; exact ⟨_, hi⟩
      · rw [List.getElem?_set_ne z] at h; exact ⟨_, h⟩
    obtain ⟨q1, h1⟩ := old h1
    obtain ⟨q2, h2⟩ := old h2
    exact r.sep j k b q1 q2 hn h1 h2 h3 h4
/-- a shared list is changed -/
theorem box_at (s : Sta K S ρ H st) {n : Nat} (hρ : ρ[n]? = some a) : S a := s.rs a (List.mem_of_getElem? hρ)
theorem box_new (x : Ext K S0 ρ0 H0 S ρ H) {n : Nat} (hρ : ρ[n]? = some a) : H0 a = none ∨ a ∈ ρ0 := by
  obtain ⟨nw, e, f⟩ := x.rho
  have m := List.mem_of_getElem? hρ
  rw [e] at m
  rcases List.mem_append.mp m with m | m
  · exact .inr m
  · exact .inl (f a m)
theorem sta_box (s : Sta K S ρ H st) {n : Nat} (hρ : ρ[n]? = some a) (rs : Rps K S H vs' ps') : Sta K S ρ (upd H a (.lst vs')) (st.set n ps') := by
  have hS := box_at s hρ
  have g : Grow K S H S (upd H a (.lst vs')) := grow_mut hS s.sl
  refine ⟨sl_mut s, s.rs, s.nd, by rw [List.length_set]; exact s.len, fun m b qs h1 h2 => ?_⟩
  by_cases z : n = m
  · subst z
    rw [hρ] at h1
    cases h1
    have hl : n < st.length := by
      rw [← s.len]; exact (List.getElem?_eq_some_iff.mp hρ).1
    rw [List.getElem?_set_self hl] at h2
    cases h2
    exact ⟨_, upd_same, Rps.grow g rs⟩
  · rw [List.getElem?_set_ne z] at h2
    obtain ⟨ys, q, ry⟩ := s.bx m b qs h1 h2
    refine ⟨ys, ?_, Rps.grow g ry⟩
    rw [upd_ne (fun q' => by subst q'; exact z ((fun (hN : ρ.Nodup) => by
      obtain ⟨g1, g2⟩ := List.getElem?_eq_some_iff.mp hρ
      obtain ⟨g3, g4⟩ := List.getElem?_eq_some_iff.mp h1
      exact (List.getElem_inj hN).mp (g2.trans g4.symm)) s.nd))]
    exact q
theorem Re.box (s : Sta K S ρ H st) (r : Re K H0 S ρ H σ e) {n : Nat} (hρ : ρ[n]? = some a) : Re K H0 S ρ (upd H a (.lst vs')) σ e := by
  have g : Grow K S H S (upd H a (.lst vs')) := grow_mut (box_at s hρ) s.sl
  refine ⟨r.len, fun j w hj => ?_, r.sep⟩
  obtain ⟨v, e1, rv⟩ := r.at_ j w hj
  refine ⟨v, e1, ?_⟩
  cases w with
  | own qs =>
    obtain ⟨b, us, rfl, e3, e4, e5, e6, e7⟩ := rv
    refine ⟨b, us, rfl, e3, e4, e5, ?_, Rps.grow g e7⟩
    rw [upd_ne (fun q => by subst q; exact e4 (List.mem_of_getElem? hρ))]
    exact e6
  | d p => exact Rw.grow g ⟨[], by simp⟩ rv rfl
  | box n => exact Rw.grow g ⟨[], by simp⟩ rv rfl
  | rd p => exact Rw.grow g ⟨[], by simp⟩ rv rfl
end
end Zd
end
section
set_option Elab.async false
set_option linter.all false
set_option maxRecDepth 100000
set_option maxHeartbeats 4000000
/-! Zd14: statements that change lists; targets; loops. -/
namespace Zd
open PySem PySem.Spec L2
open PyProof.Rows hiding St

section
variable {X : Cx} {S0 : AS} {ρ0 : List Addr} {H0 : Hp} {st0 : Store} {P : PX} {pos : Pos} {s : Stmt} {r a b : List Stmt} {x : Expr} {f g : Nv → M Fl} {v : Nv → M W}

/-! ### an own list is set free -/
def demM (i : Nat) : Nv → M Fl := fun e => match e[i]? with
  | some (some (.own ps)) => ret (.nx (e.set i (some (.d (.list ps)))))
  | _ => bad
theorem sDem {i : Nat} (s0 : Sta X.K S0 ρ0 H0 st0) (h2 : PSs X r (rdS X.K S0 ρ0 H0 P g)) : PSs X r (rdS X.K S0 ρ0 H0 P (sqM (demM i) g)) :=
  pssImp h2 fun D σ H ⟨S, ρ, st, e, x, hs, he, q⟩ => by
    unfold sqM demM at q
    cases ei : e[i]? with
    | none => rw [ei] at q; exact False.elim q
    | some o =>
      cases o with
      | none => rw [ei] at q; exact False.elim q
      | some w =>
        cases w with
        | own ps =>
          rw [ei] at q
          have q2 : Wq X.K S0 ρ0 H0 S ρ H P (flQ X.K H0 D) (g (e.set i (some (.d (.list ps)))) st) := q
          obtain ⟨v, e1, a, vs, rfl, e3, e4, e5, e6, e7⟩ := he.at_ i _ ei
          have gr : Grow X.K S H (fun b => S b ∧ b ≠ a) H := ⟨fun _ h => .inl h.1, fun _ _ _ q => q, hs.sl⟩
          have x2 : Ext X.K S0 ρ0 H0 (fun b => S b ∧ b ≠ a) ρ H := ⟨x.rho, fun b h => ⟨x.su b h, fun z => by
            obtain ⟨xs, q⟩ := s0.sl b h
            rw [z, e5] at q; cases q⟩, fun b h => x.up b h.1, x.keep, x.th⟩
          have s2 : Sta X.K (fun b => S b ∧ b ≠ a) ρ H st := ⟨fun b h => hs.sl b h.1, fun b h => ⟨hs.rs b h, fun z => e4 (by rw [← z]; exact h)⟩, hs.nd, hs.len, fun n b qs h1 h2 => by
            obtain ⟨ys, q, ry⟩ := hs.bx n b qs h1 h2
            exact ⟨ys, q, Rps.grow gr ry⟩⟩
          have hl : i < e.length := (List.getElem?_eq_some_iff.mp ei).1
          refine ⟨_, ρ, st, _, x2, s2, ⟨by rw [List.length_set]; exact he.len, fun j w hj => ?_, fun j k b qs ts hn h1 h2 h3 h4 => ?_⟩, q2.later ⟨gr, ⟨[], by simp⟩, fun _ h => h⟩⟩
          · by_cases z : i = j
            · subst z
              rw [List.getElem?_set_self hl] at hj
              cases hj
              exact ⟨_, e1, Rp.lst (fun h => h.2 rfl) e6 (Rps.grow gr e7)⟩
            · rw [List.getElem?_set_ne z] at hj
              obtain ⟨v, f1, rv⟩ := he.at_ j w hj
              refine ⟨v, f1, ?_⟩
              cases w with
              | own qs =>
                obtain ⟨b, us, rfl, f3, f4, f5, f6, f7⟩ := rv
                exact ⟨b, us, rfl, ⟨f3, fun z' => by subst z'; exact he.sep i j b ps qs z ei hj e1 f1⟩, f4, f5, f6, Rps.grow gr f7⟩
              | d p => exact Rw.grow gr ⟨[], by simp⟩ rv rfl
              | box n => exact Rw.grow gr ⟨[], by simp⟩ rv rfl
              | rd p => exact Rw.grow gr ⟨[], by simp⟩ rv rfl
          · have old : ∀ {j : Nat} {qs : List PyData}, (e.set i (some (.d (.list ps))))[j]? = some (some (.own qs)) → e[j]? = some (some (.own qs)) := fun {j qs} h => by
              by_cases z : i = j
              · subst z
                rw [List.getElem?_set_self hl] at h
                cases h
              · rw [List.getElem?_set_ne z] at h; exact h
            exact he.sep j k b qs ts hn (old h1) (old h2) h3 h4
        | d p => rw [ei] at q; exact False.elim q
        | box p => rw [ei] at q; exact False.elim q
        | rd p => rw [ei] at q; exact False.elim q

/-! ### append -/
def appM (i : Nat) (v : Nv → M W) : Nv → M Fl := fun e => match e[i]? with
  | some (some (.own ps)) => bd (v e) fun w => bd (pureW w) fun p => want (decide (ps.length < line)) (ret (.nx (e.set i (some (.own (ps ++ [p]))))))
  | _ => bad
theorem Wq.pure {K : PySem.W.Frag} {S : AS} {ρ : List Addr} {H : Hp} {st : Store} {u : V} {w : W} {β : Type} {QQ : β → Store → AS → List Addr → Hp → Prop} {k : PyData → M β} (r : Rw K H0 S ρ H u w) (h : Wq K S0 ρ0 H0 S ρ H P QQ (Zd.bd (pureW w) k st)) :
    ∃ p, w = .d p ∧ Rp K S H u p ∧ Wq K S0 ρ0 H0 S ρ H P QQ (k p st) := by
  cases w with
  | d p => exact ⟨p, rfl, r, h⟩
  | _ => exact False.elim h
theorem sApp {i : Nat} {y : Str} {p1 p2 p3 : Pos} (s0 : Sta X.K S0 ρ0 H0 st0) (hN : X.N[i]? = some y) (hv : Vis X.env.scope y) (hd : (y == ("__debug__" : Str)) = false) (hcd : (y == ("__classdict__" : Str)) = false) (h : PE X x (rdV X.K H0 P v)) (hp : plainE x = true)
    (hline : (p2.endLine == p3.line) = true) : PS X (.Expr (.Call (.Attribute (.Name y p1) "append" p2) [x] [] p3) pos) (rdS X.K S0 ρ0 H0 P (appM i v)) :=
  psImp (ps_expr (pe_bm PySem.F.plainAttrs_list PySem.F.slot_list_append PySem.F.type_list_append mt_append (pe_var hN hv hd hcd) (pa_cons h pa_nil (starEach_plain hp)) rfl (by rw [starEach_plain hp]; rfl) hline (starEach_plain hp) rfl) rfl) fun D σ H ⟨S, ρ, st, e, x, hs, he, q⟩ => by
    unfold appM at q
    cases ei : e[i]? with
    | none => rw [ei] at q; exact False.elim q
    | some o =>
      cases o with
      | none => rw [ei] at q; exact False.elim q
      | some w =>
        cases w with
        | own ps =>
          rw [ei] at q
          obtain ⟨u, e1, a, vs, rfl, e3, e4, e5, e6, e7⟩ := he.at_ i _ ei
          refine ⟨_, e1, .inl ⟨rfl, vs, SqL.of e6⟩, sq1 s0 x hs he q fun u H2 S2 ρ2 st2 w x2 x3 s2 r2 ru q => ?_⟩
          obtain ⟨p, rfl, rp, q⟩ := Wq.pure ru q
          obtain ⟨c, q⟩ := Wq.want q
          have c' : ps.length < line := of_decide_eq_true c
          have e6' := x3.keep a _ e4 e6
          have e7' := Rps.ext x3 hs e7
          have nr : a ∉ ρ2 := fun z => by
            obtain ⟨nw, f1, f2⟩ := x3.rho
            rw [f1] at z
            rcases List.mem_append.mp z with z | z
            · exact e4 z
            · rw [f2 a z] at e6; cases e6
          have inS := x3.su a e3
          refine ⟨a, vs, u, rfl, rfl, e6', by rw [e7'.length, sizeLine_is]; exact c', ?_⟩
          exact q S2 ρ2 _ (ext_mut x2 (.inl e5)) (gro_mut s2 inS) (sta_own s2 inS nr) σ (r2.own s2 ei e1 inS nr e5 (e7'.append (.cons rp .nil)))
        | d p => rw [ei] at q; exact False.elim q
        | box p => rw [ei] at q; exact False.elim q
        | rd p => rw [ei] at q; exact False.elim q

/-! ### targets -/
def rdT (K : PySem.W.Frag) (S0 : AS) (ρ0 : List Addr) (H0 : Hp) (P : PX) (t : T) : TG := fun v σ H Q => ∃ S ρ st e w, Ext K S0 ρ0 H0 S ρ H ∧ Sta K S ρ H st ∧ Re K H0 S ρ H σ e ∧ Rw K H0 S ρ H v w ∧ Wq K S0 ρ0 H0 S ρ H P (fun e' _ S' ρ' H' => ∀ σ', Re K H0 S' ρ' H' σ' e' → Q σ' H') (asgT t w e st)
def rdTs (K : PySem.W.Frag) (S0 : AS) (ρ0 : List Addr) (H0 : Hp) (P : PX) (ts : List T) : TGs := fun vs σ H Q => ∃ S ρ st e ps, Ext K S0 ρ0 H0 S ρ H ∧ Sta K S ρ H st ∧ Re K H0 S ρ H σ e ∧ Rps K S H vs ps ∧ Wq K S0 ρ0 H0 S ρ H P (fun e' _ S' ρ' H' => ∀ σ', Re K H0 S' ρ' H' σ' e' → Q σ' H') (asgTs ts ps e st)
theorem tNm {i : Nat} {y : Str} (hN : X.N.Nodup) (hi : X.N[i]? = some y) (hx : Loc X.env.scope y) (hf : X.fn y = true ∨ X.env.scope.names.lookup y = some .local) : PG X (.Name y pos) (rdT X.K S0 ρ0 H0 P (.nm i)) :=
  pgImp (pg_name hN hi hx hf) fun v σ H Q ⟨S, ρ, st, e, w, x, hs, he, rv, q⟩ => by
    cases w with
    | d p => unfold asgT at q; exact Wq.now x hs q _ (he.put rv i rfl)
    | box n => unfold asgT at q; exact Wq.now x hs q _ (he.put rv i rfl)
    | own p => unfold asgT at q; exact False.elim q
    | rd p => unfold asgT at q; exact False.elim q
theorem tNil : PGs X [] (rdTs X.K S0 ρ0 H0 P []) := pgsImp pgs_nil fun vs σ H Q ⟨S, ρ, st, e, ps, x, hs, he, rs, q⟩ => by
  cases ps with
  | cons p ps => unfold asgTs at q; exact False.elim q
  | nil =>
    cases rs
    unfold asgTs at q
    exact ⟨rfl, Wq.now x hs q σ he⟩
theorem asgTs_eq {t : T} {ts : List T} {p : PyData} {ps : List PyData} (h : isSt t = false) : asgTs (t :: ts) (p :: ps) = fun e => bd (asgT t (.d p) e) fun e1 => asgTs ts ps e1 := by
  funext e
  cases t <;> first | (cases h; done) | (conv => lhs; unfold asgTs)
theorem tCons' {t : T} {ts : List T} {y : Expr} {ys : List Expr} (h1 : PG X y (rdT X.K S0 ρ0 H0 P t)) (h2 : PGs X ys (rdTs X.K S0 ρ0 H0 P ts)) (hp : isSt t = false) (hn : noStar y = true) : PGs X (y :: ys) (rdTs X.K S0 ρ0 H0 P (t :: ts)) :=
  pgsImp (pgs_cons h1 h2 (by rw [assignEach_plain hn]; rfl)) fun vs σ H Q ⟨S, ρ, st, e, ps, x, hs, he, rs, q⟩ => by
    cases rs with
    | nil => cases t <;> first | (cases hp; done) | (unfold asgTs at q; exact False.elim q)
    | cons rv rr =>
      rw [asgTs_eq hp] at q
      refine ⟨_, _, rfl, S, ρ, st, e, .d _, x, hs, he, rv, (Wq.bd q).mono fun e1 st1 S1 ρ1 H1 x1 g1 s1 q1 σ1 r1 => ⟨S1, ρ1, st1, e1, _, x1, s1, r1, Rps.grow g1.g rr, q1⟩⟩
theorem tTp {ts : List T} {es : List Expr} {k n : Nat} (hc : X.calm = true) (h : PGs X es (rdTs X.K S0 ρ0 H0 P ts)) (hn : (assignEach es X.env).length = n) (hst : (assignEach es X.env).findIdx? (·.1) = none) (hl : ts.length = n) (hp : ts.any isSt = false) : PG X (.Tuple es k pos) (rdT X.K S0 ρ0 H0 P (.tp ts)) :=
  pgImp (pg_tup (n := n) hc h hn hst) fun v σ H Q ⟨S, ρ, st, e, w, x, hs, he, rv, q⟩ => by
    cases w with
    | d p =>
      cases p <;> first | (unfold asgT at q; exact False.elim q) | skip
      unfold asgT at q
      rename_i xs
      cases (show Rp X.K S H v (.tuple xs) from rv) with
      | tup sq rs =>
        obtain ⟨c, q⟩ := Wq.want q
        unfold lenB at c
        rw [hp] at c
        exact ⟨_, _, rfl, sq, by rw [rs.length, ← hl]; exact of_decide_eq_true c, S, ρ, st, e, xs, x, hs, he, rs, q⟩
    | _ => unfold asgT at q; exact False.elim q
/-- name[k] = value, the list one's own or shared -/
theorem setAt_of {K : PySem.W.Frag} {S : AS} {ρ : List Addr} {H : Hp} {st : Store} {σ : St} {e : Nv} {i : Nat} {k : Int} {p : PyData} {u : V} {Q : Nv → Store → AS → List Addr → Hp → Prop} (s0 : Sta K S0 ρ0 H0 st0) (x : Ext K S0 ρ0 H0 S ρ H) (s : Sta K S ρ H st) (he : Re K H0 S ρ H σ e) (ru : Rp K S H u p)
    (q : Wq K S0 ρ0 H0 S ρ H P Q (setAt i k p e st)) : ∃ a vs j e' st', σ[i]? = some (some (.ref a)) ∧ H a = some (.lst vs) ∧ ixN vs.length k = some j ∧
      Ext K S0 ρ0 H0 S ρ (upd H a (.lst (vs.set j u))) ∧ Gro K S ρ H S ρ (upd H a (.lst (vs.set j u))) ∧ Sta K S ρ (upd H a (.lst (vs.set j u))) st' ∧ Re K H0 S ρ (upd H a (.lst (vs.set j u))) σ e' ∧ Q e' st' S ρ (upd H a (.lst (vs.set j u))) := by
  unfold setAt at q
  cases ei : e[i]? with
  | none => rw [ei] at q; exact False.elim q
  | some o =>
    cases o with
    | none => rw [ei] at q; exact False.elim q
    | some w =>
      cases w with
      | own ps =>
        rw [ei] at q
        dsimp only at q
        obtain ⟨v, e1, a, vs, rfl, e3, e4, e5, e6, e7⟩ := he.at_ i _ ei
        cases ej : L2.ixN ps.length k with
        | none => rw [ej] at q; exact False.elim q
        | some j =>
          rw [ej] at q
          have y1 := ext_mut (vs' := vs.set j u) x (.inl e5)
          have y2 := gro_mut (vs' := vs.set j u) s e3
          have y3 := sta_own (vs' := vs.set j u) s e3 e4
          refine ⟨a, vs, j, _, st, e1, e6, by rw [e7.length]; exact ej, y1, y2, y3, he.own s ei e1 e3 e4 e5 (Rps.set ru j e7), q S ρ _ y1 y2 y3⟩
      | box n =>
        rw [ei] at q
        dsimp only at q
        obtain ⟨v, e1, a, e2, rfl⟩ := he.at_ i _ ei
        cases en : st[n]? with
        | none => rw [en] at q; exact False.elim q
        | some ps =>
          rw [en] at q
          dsimp only at q
          obtain ⟨vs, e6, e7⟩ := s.bx n a ps e2 en
          cases ej : L2.ixN ps.length k with
          | none => rw [ej] at q; exact False.elim q
          | some j =>
            rw [ej] at q
            have y1 := ext_mut (vs' := vs.set j u) x (box_new x e2)
            have y2 := gro_mut (vs' := vs.set j u) s (box_at s e2)
            have y3 := sta_box (vs' := vs.set j u) s e2 (Rps.set ru j e7)
            exact ⟨a, vs, j, e, _, e1, e6, by rw [e7.length]; exact ej, y1, y2, y3, he.box s e2, q S ρ _ y1 y2 y3⟩
      | d p => rw [ei] at q; exact False.elim q
      | rd p => rw [ei] at q; exact False.elim q
theorem assign_sub {o i : Expr} {env : Env} {p : Pos} (h : plainE i = true) (v : Value) : assign (.Subscript o i p) env v = (do
      let ov ← holding [v] (eval o env)
      let iv ← holding [v, ov] (eval i env)
      standAt p
      holding [v, ov, iv] (setItem ov iv v)
      release [v, ov, iv] []) := by
  cases i <;> first | rfl | cases h
theorem tSb {i : Nat} {k : Int} {y : Str} {o c : Pos} {kk : Nat} (s0 : Sta X.K S0 ρ0 H0 st0) (hN : X.N[i]? = some y) (hv : Vis X.env.scope y) (hd : (y == ("__debug__" : Str)) = false) (hcd : (y == ("__classdict__" : Str)) = false) :
    PG X (.Subscript (.Name y o) (.Constant (.int k) kk c) pos) (rdT X.K S0 ρ0 H0 P (.sb i k)) :=
  pgImp (pg_sub (pe_var hN hv hd hcd) (pe_int (i := k)) set_list (assign_sub rfl)) fun v σ H Q ⟨S, ρ, st, e, w, x, hs, he, rv, q⟩ => by
    cases w with
    | d p =>
      unfold asgT at q
      obtain ⟨a, vs, j, e', st', h1, h2, h3, y1, y2, y3, y4, y5⟩ := setAt_of s0 x hs he rv q
      exact ⟨_, h1, a, vs, k, j, rfl, rfl, h2, h3, y5 σ y4⟩
    | _ => unfold asgT at q; exact False.elim q
def setM (i : Nat) (ix v : Nv → M W) : Nv → M Fl := fun e => bd (v e) fun w => bd (pureW w) fun p => bd (varM i e) fun _ => bd (ix e) fun k => match k with
    | .d (.int k) => bd (setAt i k p e) fun e' => ret (.nx e')
    | _ => bad
theorem swS_sub {o i : Expr} {p : Pos} {e : Expr} {n : Nat} {env : Env} : swapsWithSole [.Subscript o i p] e n env = pure false := by cases e <;> rfl
theorem swN_sub {o i : Expr} {p : Pos} {e : Expr} {env : Env} : swappedStores [.Subscript o i p] e env = pure none := by cases e <;> rfl
theorem sSetI {i : Nat} {y : Str} {o p : Pos} {z : Expr} {ix : Nv → M W} (s0 : Sta X.K S0 ρ0 H0 st0) (hN : X.N[i]? = some y) (hv : Vis X.env.scope y) (hd : (y == ("__debug__" : Str)) = false) (hcd : (y == ("__classdict__" : Str)) = false) (h : PE X x (rdV X.K H0 P v)) (hz : PE X z (rdV X.K H0 P ix)) (hp : plainE z = true) :
    PS X (.Assign [.Subscript (.Name y o) z p] x pos) (rdS X.K S0 ρ0 H0 P (setM i ix v)) :=
  psImp (ps_asg h (pg_sub (pe_var hN hv hd hcd) hz set_list (assign_sub hp)) swS_sub swN_sub rfl) fun D σ H ⟨S, ρ, st, e, x, hs, he, q⟩ => sq1 s0 x hs he q fun u H2 S2 ρ2 st2 w x2 _ s2 r2 ru q => by
    obtain ⟨d, rfl, rp, q⟩ := Wq.pure ru q
    have key : ∃ u', σ[i]? = some (some u') := by
      unfold varM at q
      cases ei : e[i]? with
      | some o =>
        cases o with
        | some w => obtain ⟨v', e1, _⟩ := r2.at_ i w ei; exact ⟨v', e1⟩
        | none => rw [ei] at q; exact False.elim q
      | none => rw [ei] at q; exact False.elim q
    have q : Wq X.K S0 ρ0 H0 S2 ρ2 H2 P (flQ X.K H0 D) (Zd.bd (ix e) (fun k => match k with
      | .d (.int k) => Zd.bd (setAt i k d e) fun e' => ret (Fl.nx e')
      | _ => bad) st2) := by
      unfold varM at q
      cases ei : e[i]? with
      | some o =>
        cases o with
        | some w => rw [ei] at q; exact q
        | none => rw [ei] at q; exact False.elim q
      | none => rw [ei] at q; exact False.elim q
    obtain ⟨u', hu'⟩ := key
    refine ⟨u', hu', sq1 s0 x2 s2 r2 q fun k H3 S3 ρ3 st3 wk x3 x3' s3 r3 rk q => ?_⟩
    cases wk with
    | d kp =>
      cases kp <;> first | exact False.elim q | skip
      rename_i kk
      cases (show Rp X.K S3 H3 k (.int kk) from rk)
      have rp3 := Rp.grow (x3'.grow s2) rp
      obtain ⟨a, vs, j, e', st', h1, h2, h3, y1, y2, y3, y4, y5⟩ := setAt_of s0 x3 s3 r3 rp3 q.bd
      rw [hu'] at h1
      cases h1
      exact ⟨a, vs, kk, j, rfl, rfl, h2, h3, Wq.now y1 y3 y5 σ y4⟩
    | _ => exact False.elim q
end
end Zd
end
section
set_option Elab.async false
set_option linter.all false
set_option maxRecDepth 100000
set_option maxHeartbeats 4000000
/-! ZdS: a starred target takes what the others of a tuple leave. -/
namespace PySem
open Sem (wp)
/-- a walk that has made k turns -/
theorem Walks.from_ {prog : Program} {w : World} {A : Around} {I : Addr} {fp wr : List Addr} {n : Nat} {P : Nat → Value → Prop} {St : Nat → Heap → Prop} (W : Walks prog w A I fp wr n P St) (k : Nat) (hk : k ≤ n) :
    Walks prog w A I fp wr (n - k) (fun j => P (k + j)) (fun j => St (k + j)) where
  sub := W.sub
  frame := fun j => W.frame (k + j)
  item := fun j s Q E lt st q => W.item (k + j) s Q E (by omega) st q
  done := fun s Q E st q => W.done s Q E (by rw [show n = k + (n - k) by omega]; exact st) q
  self := fun j => W.self (k + j)
theorem items_drop {vs acc : Array Value} {k : Nat} (h : ItemsOf (fun j u => vs[k + j]? = some u) acc (vs.size - k)) : acc.toList = vs.toList.drop k := by
  refine List.ext_getElem? fun j => ?_
  rw [List.getElem?_drop, Array.getElem?_toList, Array.getElem?_toList]
  cases e : acc[j]? with
  | some u => exact (h.2 j u e).symm
  | none =>
    have hj : acc.size ≤ j := Array.getElem?_eq_none_iff.mp e
    rw [h.1] at hj
    exact (Array.getElem?_eq_none_iff.mpr (by omega)).symm
theorem unpack_starT {prog : Program} {w : World} {A : Around} {E : Value → Shared → Prop} {s : Shared} {t : Addr} {vs : Array Value} {n i : Nat} {Q : List Value → Shared → Prop} (quiet : A.handled = none) (isT : s.heap.IsTuple t vs) (hi : i < n) (hn : n ≤ vs.size + 1) (sz : vs.size ≤ sizeLine)
    (k : ∀ (h' : Heap) (tk : Nat), (∀ b o, s.heap.get? b = some o → h'.get? b = some o) → Q (vs.toList.take i ++ [.ref h'.objs.size] ++ vs.toList.drop (vs.size - (n - 1 - i))) { s with heap := h'.push { cls := .type "list", data := .seq ((vs.toList.drop i).take (vs.size + 1 - n)).toArray }, toks := tk }) :
    wpAny (model prog w) A (unpackItems (.ref t) n (some i)) Q E s := by
  have lt : t < s.heap.objs.size := by obtain ⟨o, ho, _⟩ := isT; exact Heap.lt_size ho
  have ne : t ≠ s.heap.objs.size := Nat.ne_of_lt lt
  unfold unpackItems
  refine wpAny_bind ?_
  unfold notIterableAtAll
  refine wpAny_bind (wpAny_specialOf isT.typeIs F.slot_tuple_iter.lookup (wpAny_pure ?_))
  simp only [Bool.false_eq_true, if_false]
  refine wpAny_bind (wpAny_holding (wpAny_pyIter_tuple isT ?_))
  have isT1 : (s.heap.push { cls := .type "tuple_iterator", data := .fields #[.ref t, .int 0 0] }).IsTuple t vs := by
    obtain ⟨o, ho, r⟩ := isT
    exact ⟨o, Heap.get?_push_of_some _ ho, r⟩
  refine wpAny_bind (wpAny_holding (wpAny_draw_tuple ne i 0 _ _ ⟨_, Heap.get?_push_size _ rfl, rfl, rfl⟩ isT1 (by omega) fun h1 it1 same => ?_))
  rw [List.drop_zero, Nat.zero_add] at *
  have lenI : (vs.toList.take i).length = i := by rw [List.length_take, Array.length_toList]; omega
  rw [if_neg (by rw [lenI]; omega)]
  have isT2 : h1.IsTuple t vs := by
    obtain ⟨o, ho, r⟩ := isT1
    exact ⟨o, (same.2 t ne).trans ho, r⟩
  have W := ((Walks.tuple (prog := prog) (w := w) (A := A.in1) quiet s.heap.objs.size t ne vs).from_ i (by omega)).toS
  have sz1 : s.heap.objs.size < h1.objs.size := by
    obtain ⟨o, ho, _⟩ := it1
    exact Heap.lt_size ho
  refine wpAny_bind (wpAny_holding (wpAny_collect_iter (s := { s with heap := h1 }) (.inr (.inr (.inr rfl))) W (fun j s' st => st.1.typeIs) ⟨by simpa using it1, isT2⟩ (fun b hb => ?_) List.mem_cons_self (fun s2 acc moved items => ?_) (by omega)))
  · rcases List.mem_cons.mp hb with z | z
    · rw [z]; exact sz1
    · rw [List.mem_singleton.mp z]; exact Nat.lt_trans lt sz1
  rw [items_drop items]
  have lenR : (vs.toList.drop i).length = vs.size - i := by rw [List.length_drop, Array.length_toList]
  rw [if_neg (by rw [lenR]; omega)]
  have mid : (vs.toList.drop i).length - (n - 1 - i) = vs.size + 1 - n := by rw [lenR]; omega
  rw [mid]
  obtain ⟨h2, g2, d2, tk2, os2⟩ := s2
  have eg : g2 = s.gens := moved.gens
  have ed : d2 = s.drawn := moved.drawn
  have eo : os2 = s.os := moved.os
  subst eg ed eo
  unfold newList
  refine wpAny_bind (wpAny_newObj_type ?_ ?_)
  · have dd : (vs.toList.drop i).drop (vs.size + 1 - n) = vs.toList.drop (vs.size - (n - 1 - i)) := by
      rw [List.drop_drop]
      congr 1
      omega
    rw [dd]
    refine wpAny_pure (k h2 tk2 fun b o e => ?_)
    have nb : b ≠ s.heap.objs.size := Nat.ne_of_lt (Heap.lt_size e)
    exact moved.heap b o (fun z => nb (List.mem_singleton.mp z)) ((same.2 b nb).trans (Heap.get?_push_of_some _ e))
  · show ((vs.toList.drop i).take (vs.size + 1 - n)).toArray.size ≤ sizeLine
    rw [List.size_toArray, List.length_take, lenR]
    omega
end PySem
namespace Zd
open PySem PySem.Spec L2
open PyProof.Rows hiding St
/-- the targets without their stars -/
def unstar : Expr → Expr
  | .Starred t _ => t
  | e => e
theorem each_unstar {env : Env} : ∀ es : List Expr, es.all (fun e => noStar (unstar e)) = true → (assignEach es env).map (·.2) = (assignEach (es.map unstar) env).map (·.2)
  | [], _ => rfl
  | e :: es, h => by
    rw [List.all_cons, Bool.and_eq_true] at h
    have ih := each_unstar (env := env) es h.2
    have one : (assignEach (unstar e :: es.map unstar) env) = (false, assign (unstar e) env) :: assignEach (es.map unstar) env := assignEach_plain h.1
    rw [List.map_cons, one, List.map_cons, ← ih]
    cases e <;> rfl
section
variable {X : Cx} {pos : Pos}
def gStar (K : PySem.W.Frag) (n i : Nat) (t : TGs) : TG := fun v σ H Q => ∃ a xs, v = .ref a ∧ SqT K H a xs ∧ n ≤ xs.length + 1 ∧ ∀ D, H D = none → t (xs.take i ++ [.ref D] ++ xs.drop (xs.length - (n - 1 - i))) σ (upd H D (.lst ((xs.drop i).take (xs.length + 1 - n)))) Q
theorem pg_star {es : List Expr} {k n i : Nat} {t : TGs} (hc : X.calm = true) (h : PGs X (es.map unstar) t) (hn : es.length = n) (hi : i < n) (hst : (assignEach es X.env).findIdx? (·.1) = some i) (hall : es.all (fun e => noStar (unstar e)) = true) : PG X (.Tuple es k pos) (gStar X.K n i t) := by
  refine ⟨fun pins s σ H v u Q I r hw => ?_⟩
  obtain ⟨a, xs, rfl, hq, hl, hw⟩ := hw
  obtain rfl : u = .ref a := r
  obtain ⟨its, rv, ht, hz⟩ := I.tuple hq
  have ln := rv.length
  rw [assign_Tuple]
  refine wpAny_bind (wpAny_standAt ?_)
  unfold unpack
  rw [hst, assignEach_len, hn]
  refine wpAny_bind (wpAny_holding (unpack_starT (I.ok.hd hc) (show s.heap.IsTuple a its.toArray from ht) hi (by rw [List.size_toArray, ← ln]; exact hl) (by rw [List.size_toArray, ← ln]; exact hz) fun h' tk keep => ?_))
  have I1 : Inv X pins σ H { s with heap := h', toks := tk } := I.kept keep
  have fr : H h'.objs.size = none := I1.fresh
  have szs : its.toArray.size = xs.length := by rw [List.size_toArray, ln]
  rw [szs]
  have I2 := I1.lnew (ys := (xs.drop i).take (xs.length + 1 - n)) (its := (its.drop i).take (xs.length + 1 - n)) (t' := tk) ((rv.drop i).take _) (by rw [List.length_take, List.length_drop]; omega)
  rw [each_unstar es hall]
  refine h.run pins _ σ _ _ _ Q I2 ?_ (hw h'.objs.size fr)
  exact Vals.append (Vals.append (rv.take i) (.cons rfl .nil)) (rv.drop _)
/-! ### the deep terms' star -/
def unT : T → T
  | .st j => .nm j
  | t => t
theorem asgTs_star {ts2 : List T} {j : Nat} (h2 : ts2.any isSt = false) : ∀ (ts1 : List T) (xs : List PyData) (e : Nv), ts1.any isSt = false → ts1.length + ts2.length ≤ xs.length →
    asgTs (ts1 ++ .st j :: ts2) xs e = asgTs (ts1 ++ .nm j :: ts2) (xs.take ts1.length ++ [.list ((xs.drop ts1.length).take (xs.length - (ts1.length + ts2.length)))] ++ xs.drop (xs.length - ts2.length)) e
  | [], xs, e, _, hl => by
    simp only [List.nil_append, List.length_nil, List.take_zero, List.drop_zero, List.singleton_append, Nat.zero_add] at hl ⊢
    rw [asgTs_eq (t := .nm j) rfl]
    conv => lhs; unfold asgTs
    have c : (decide (ts2.length ≤ xs.length) && !ts2.any isSt) = true := by rw [h2]; simpa using hl
    rw [c]
    conv => rhs; unfold asgT
    rfl
  | t :: ts1, [], e, _, hl => by simp at hl
  | t :: ts1, x :: xs, e, h1, hl => by
    rw [List.any_cons, Bool.or_eq_false_iff] at h1
    have ih := fun e1 => asgTs_star (j := j) h2 ts1 xs e1 h1.2 (by simp only [List.length_cons] at hl; omega)
    have e1 : (x :: xs).length - (t :: ts1).length.add ts2.length = xs.length - (ts1.length + ts2.length) := by simp only [List.length_cons, Nat.add_eq]; omega
    have e2 : (x :: xs).length - ts2.length = (xs.length - ts2.length) + 1 := by simp only [List.length_cons] at hl ⊢; omega
    have e1' : (x :: xs).length - ((t :: ts1).length + ts2.length) = xs.length - (ts1.length + ts2.length) := e1
    rw [e1', e2]
    simp only [List.cons_append, List.length_cons, List.take_succ_cons, List.drop_succ_cons]
    rw [asgTs_eq h1.1, asgTs_eq h1.1]
    show bd (asgT t (.d x) e) _ = bd (asgT t (.d x) e) _
    exact congrArg _ (funext fun e' => by simpa using ih e')
variable {S0 : AS} {ρ0 : List Addr} {H0 : Hp} {st0 : Store} {P : PX}
theorem tTpS {ts1 ts2 : List T} {j : Nat} {es : List Expr} {k : Nat} (s0 : Sta X.K S0 ρ0 H0 st0) (hc : X.calm = true) (h : PGs X (es.map unstar) (rdTs X.K S0 ρ0 H0 P (ts1 ++ .nm j :: ts2))) (h1 : ts1.any isSt = false) (h2 : ts2.any isSt = false) (hl : es.length = (ts1 ++ .st j :: ts2).length)
    (hst : (assignEach es X.env).findIdx? (·.1) = some ts1.length) (hall : es.all (fun e => noStar (unstar e)) = true) : PG X (.Tuple es k pos) (rdT X.K S0 ρ0 H0 P (.tp (ts1 ++ .st j :: ts2))) :=
  pgImp (pg_star (n := ts1.length + ts2.length + 1) (i := ts1.length) hc h (by rw [hl, List.length_append, List.length_cons]; omega) (by omega) hst hall) fun v σ H Q ⟨S, ρ, st, e, w, x, hs, he, rv, q⟩ => by
    cases w with
    | d p =>
      cases p <;> first | (unfold asgT at q; exact False.elim q) | skip
      unfold asgT at q
      rename_i xs
      cases (show Rp X.K S H v (.tuple xs) from rv) with
      | tup sq rs =>
        rename_i a vs _
        obtain ⟨c, q⟩ := Wq.want q
        have any1 : (ts1 ++ .st j :: ts2).any isSt = true := by rw [List.any_append, List.any_cons]; simp [isSt]
        unfold lenB at c
        rw [any1] at c
        have c' : ts1.length + ts2.length ≤ xs.length := by
          have := of_decide_eq_true c
          rw [List.length_append, List.length_cons] at this
          omega
        have ln := rs.length
        refine ⟨_, vs, rfl, sq, by rw [ln]; omega, fun D hD => ?_⟩
        rw [asgTs_star h2 ts1 xs e h1 c'] at q
        have x2 : Ext X.K S ρ H S ρ (upd H D (.lst ((vs.drop ts1.length).take (vs.length + 1 - (ts1.length + ts2.length + 1))))) := .new hD
        have rs' := Rps.ext x2 hs rs
        refine ⟨S, ρ, st, e, _, x.trans s0 x2, hs.new hD, he.ext x2 hs, ?_, q.later (x2.gro hs)⟩
        have m1 : vs.length + 1 - (ts1.length + ts2.length + 1) = xs.length - (ts1.length + ts2.length) := by rw [ln]; omega
        have m2 : vs.length - (ts1.length + ts2.length + 1 - 1 - ts1.length) = xs.length - ts2.length := by rw [ln]; omega
        rw [m1] at rs' ⊢
        rw [m2]
        exact Rps.append (Rps.append (rs'.take _) (.cons (Rp.lst (hs.free hD) upd_same ((rs'.drop _).take _)) .nil)) (rs'.drop _)
    | _ => unfold asgT at q; exact False.elim q
end
end Zd
end
section
set_option Elab.async false
set_option linter.all false
set_option maxRecDepth 100000
set_option maxHeartbeats 4000000
/-! Zd15: assignments to several names, loops. -/
namespace Zd
open PySem PySem.Spec L2
open PyProof.Rows hiding St

section
variable {X : Cx} {S0 : AS} {ρ0 : List Addr} {H0 : Hp} {st0 : Store} {P : PX} {pos : Pos} {s : Stmt} {r a b : List Stmt} {x : Expr} {f g : Nv → M Fl} {v : Nv → M W}
/-- target = value -/
def asgM (t : T) (v : Nv → M W) : Nv → M Fl := fun e => bd (v e) fun w => bd (asgT t w e) fun e' => ret (.nx e')
theorem sAsg {t : T} {tg : Expr} (s0 : Sta X.K S0 ρ0 H0 st0) (h : PE X x (rdV X.K H0 P v)) (hg : PG X tg (rdT X.K S0 ρ0 H0 P t)) (hs : swapsWithSole [tg] x pos.line X.env = pure false) (hw : swappedStores [tg] x X.env = pure none)
    (h1 : noStar tg = true) : PS X (.Assign [tg] x pos) (rdS X.K S0 ρ0 H0 P (asgM t v)) :=
  psImp (ps_asg h hg hs hw (by rw [assignEach_plain h1]; rfl)) fun D σ H ⟨S, ρ, st, e, x, hs, he, q⟩ => sq1 s0 x hs he q fun u H2 S2 ρ2 st2 w x2 _ s2 r2 ru q =>
    ⟨S2, ρ2, st2, e, w, x2, s2, r2, ru, (Wq.bd q).mono fun e1 st3 S3 ρ3 H3 x3 _ s3 q3 σ' r' => Wq.now (P := P) (Q := flQ X.K H0 D) x3 s3 q3 σ' r'⟩
def isTupX : Expr → Bool
  | .Tuple _ _ _ => true
  | _ => false
theorem swS_tup {es : List Expr} {k : Nat} {p : Pos} {e : Expr} {n : Nat} {env : Env} : swapsWithSole [.Tuple es k p] e n env = pure false := by cases e <;> rfl
theorem swN_tup {es : List Expr} {k : Nat} {p : Pos} {e : Expr} {env : Env} (h : isTupX e = false) : swappedStores [.Tuple es k p] e env = pure none := by
  cases e <;> first | rfl | cases h
theorem swN_many {es vs : List Expr} {k k2 : Nat} {p p2 : Pos} {env : Env} (h : (es.length == 2 || es.length == 3) = false) : swappedStores [.Tuple es k p] (.Tuple vs k2 p2) env = pure none := by
  unfold swappedStores
  simp [h]
/-- stores that are not exchanged: all are constants; a name is no local of its own line -/
theorem swN_fold {es vs : List Expr} {k k2 : Nat} {p p2 : Pos} {env : Env} (h : vs.all (foldedForSure 8) = true) : swappedStores [.Tuple es k p] (.Tuple vs k2 p2) env = pure none := by
  unfold swappedStores
  dsimp only
  repeat (first | rfl | (split; rfl) | (rw [h]; rfl))
def ownLine (sc : Scope) (line : Nat) : Expr → Bool
  | .Name y p => (sc.names.lookup y == some .local) && (p.line == line)
  | _ => false
def swNo (sc : Scope) (es : List Expr) : Bool := !(es.all (ownLine sc ((es.head?.map (·.pos.line)).getD 0)))
theorem swN_cell {es vs : List Expr} {k k2 : Nat} {p p2 : Pos} {env : Env} (h : swNo env.scope es = true) : swappedStores [.Tuple es k p] (.Tuple vs k2 p2) env = pure none := by
  unfold swappedStores
  dsimp only
  split
  · rfl
  · split
    · rfl
    · split
      · rfl
      · exfalso
        rename_i h1 h2 h3
        simp only [Bool.or_eq_true, bne_iff_ne, ne_eq, not_or, Decidable.not_not] at h3
        have key : ∀ (l : List Expr) (n : Nat), ((l.filterMap fun x => match x with
            | .Name id pos => if (env.kindOf id == some .local && pos.line == n) = true then some id else none
            | _ => none).length = l.length) → l.all (ownLine env.scope n) = true := fun l n => by
          induction l with
          | nil => intro _; rfl
          | cons a r ih =>
            intro e
            have le := List.length_filterMap_le (fun x => match x with
            | .Name id pos => if (env.kindOf id == some .local && pos.line == n) = true then some id else none
            | _ => none) r
            rw [List.filterMap_cons] at e
            split at e
            · rw [List.length_cons] at e
              omega
            · rename_i b hb
              rw [List.length_cons, List.length_cons] at e
              rw [List.all_cons, ih (by omega), Bool.and_true]
              cases a <;> first | (cases hb; done) | skip
              dsimp only at hb
              split at hb
              · assumption
              · cases hb
        unfold swNo at h
        rw [key es _ h3.1] at h
        cases h
theorem sw2 {x y : Str} {px py pt pt2 : Pos} {kt k2 : Nat} {a b : Expr} {env : Env} (hk : env.scope.kind = .function) (hx : env.scope.names.lookup x = some .local) (hy : env.scope.names.lookup y = some .local) (hl : (py.line == px.line) = true) (hne : x ≠ y)
    (ha : noStar a = true) (hb : noStar b = true) (hf : (foldedForSure 8 a && foldedForSure 8 b) = false) (hc : (constantsAlone 8 a && constantsAlone 8 b) = false) :
    swappedStores [.Tuple [.Name x px, .Name y py] kt pt] (.Tuple [a, b] k2 pt2) env = pure (some [x, y]) := by
  have hbk : env.blockKind = .function := by unfold Env.blockKind; rw [hk]; rfl
  have h1 : env.kindOf x = some .local := hx
  have h2 : env.kindOf y = some .local := hy
  have nst : ∀ c : Expr, noStar c = true → (match c with | .Starred _ _ => true | _ => false) = false := fun c h => by
    cases c <;> first | rfl | cases h
  have hd : ([x, y].eraseDups).length = 2 := by
    have : (y == x) = false := beq_eq_false_iff_ne.mpr fun z => hne z.symm
    simp [List.eraseDups_cons, this]
  have hl' : py.line = px.line := eq_of_beq hl
  unfold swappedStores
  simp [hbk, h1, h2, hl', hd, hf, hc, Expr.pos]
  intro h
  rcases h with h | h
  · cases a <;> first | (cases ha; done) | (cases h; done)
  · cases b <;> first | (cases hb; done) | (cases h; done)
theorem sw3 {x y z : Str} {px py pz pt pt2 : Pos} {kt k2 : Nat} {a b c : Expr} {env : Env} (hk : env.scope.kind = .function) (hx : env.scope.names.lookup x = some .local) (hy : env.scope.names.lookup y = some .local) (hz : env.scope.names.lookup z = some .local)
    (hl : (py.line == px.line) = true) (hl2 : (pz.line == px.line) = true) (hne : x ≠ y) (hne2 : x ≠ z) (hne3 : y ≠ z)
    (ha : noStar a = true) (hb : noStar b = true) (hc' : noStar c = true) (hf : (foldedForSure 8 a && (foldedForSure 8 b && foldedForSure 8 c)) = false) (hc : (constantsAlone 8 a && (constantsAlone 8 b && constantsAlone 8 c)) = false) :
    swappedStores [.Tuple [.Name x px, .Name y py, .Name z pz] kt pt] (.Tuple [a, b, c] k2 pt2) env = pure (some [x, y, z]) := by
  have hbk : env.blockKind = .function := by unfold Env.blockKind; rw [hk]; rfl
  have h1 : env.kindOf x = some .local := hx
  have h2 : env.kindOf y = some .local := hy
  have h3 : env.kindOf z = some .local := hz
  have nst : ∀ c : Expr, noStar c = true → (match c with | .Starred _ _ => true | _ => false) = false := fun c h => by
    cases c <;> first | rfl | cases h
  have hd : ([x, y, z].eraseDups).length = 3 := by
    have e1 : (y == x) = false := beq_eq_false_iff_ne.mpr fun z => hne z.symm
    have e2 : (z == x) = false := beq_eq_false_iff_ne.mpr fun z => hne2 z.symm
    have e3 : (z == y) = false := beq_eq_false_iff_ne.mpr fun z => hne3 z.symm
    simp [List.eraseDups_cons, e1, e2, e3]
  have hl' : py.line = px.line := eq_of_beq hl
  have hl2' : pz.line = px.line := eq_of_beq hl2
  unfold swappedStores
  simp [hbk, h1, h2, h3, hl', hl2', hd, hf, hc, Expr.pos]
  intro h
  rcases h with h | h | h
  · cases a <;> first | (cases ha; done) | (cases h; done)
  · cases b <;> first | (cases hb; done) | (cases h; done)
  · cases c <;> first | (cases hc'; done) | (cases h; done)
/-- a, b = .. of two locals -/
def parM (is : List Nat) (v : Nv → M (List PyData)) : Nv → M Fl := fun e => bd (v e) fun ps => want (decide (ps.length = is.length)) (ret (.nx (parE is ps e)))
theorem sPar2 {i j : Nat} {y z : Str} {p1 p2 pt pt2 : Pos} {kt k2 : Nat} {a b : Expr} {v : Nv → M (List PyData)} (s0 : Sta X.K S0 ρ0 H0 st0) (hc : X.calm = true) (hN : X.N.Nodup) (hi : X.N[i]? = some y) (hj : X.N[j]? = some z) (hij : i ≠ j) (hy : X.env.scope.names.lookup y = some .local) (hz : X.env.scope.names.lookup z = some .local)
    (ha : PA X [a, b] (rdD X.K H0 P v)) (hw : swappedStores [.Tuple [.Name y p1, .Name z p2] kt pt] (.Tuple [a, b] k2 pt2) X.env = pure (some [y, z])) :
    PS X (.Assign [.Tuple [.Name y p1, .Name z p2] kt pt] (.Tuple [a, b] k2 pt2) pos) (rdS X.K S0 ρ0 H0 P (parM [i, j] v)) :=
  psImp (ps_par hc hN hi hj hij hy hz ha hw) fun D σ H ⟨S, ρ, st, e, x, hs, he, q⟩ => ⟨S, ρ, st, e, hs, he, (Wq.wp s0 x hs (Wq.bd q)).mono fun ps st1 S1 ρ1 H1 x1 s1 q1 vs rs => by
    obtain ⟨c, q1⟩ := Wq.want q1
    match ps, vs, rs, of_decide_eq_true c with
    | [p1, p2], _, .cons r1 (.cons r2 .nil), _ =>
      exact ⟨_, _, rfl, Wq.now (P := P) (Q := flQ X.K H0 D) (x.trans s0 x1) s1 q1 _ (Re.put (w := .d p2) (Re.put (w := .d p1) (he.ext x1 hs) r1 i rfl) r2 j rfl)⟩⟩

theorem sPar3 {i j l : Nat} {y z u : Str} {p1 p2 p3 pt pt2 : Pos} {kt k2 : Nat} {a b c : Expr} {v : Nv → M (List PyData)} (s0 : Sta X.K S0 ρ0 H0 st0) (hc : X.calm = true) (hN : X.N.Nodup) (hi : X.N[i]? = some y) (hj : X.N[j]? = some z) (hl : X.N[l]? = some u) (hij : i ≠ j) (hil : i ≠ l) (hjl : j ≠ l)
    (hy : X.env.scope.names.lookup y = some .local) (hz : X.env.scope.names.lookup z = some .local) (hu : X.env.scope.names.lookup u = some .local)
    (ha : PA X [a, b, c] (rdD X.K H0 P v)) (hw : swappedStores [.Tuple [.Name y p1, .Name z p2, .Name u p3] kt pt] (.Tuple [a, b, c] k2 pt2) X.env = pure (some [y, z, u])) :
    PS X (.Assign [.Tuple [.Name y p1, .Name z p2, .Name u p3] kt pt] (.Tuple [a, b, c] k2 pt2) pos) (rdS X.K S0 ρ0 H0 P (parM [i, j, l] v)) :=
  psImp (ps_par3 hc hN hi hj hl hij hil hjl hy hz hu ha hw) fun D σ H ⟨S, ρ, st, e, x, hs, he, q⟩ => ⟨S, ρ, st, e, hs, he, (Wq.wp s0 x hs (Wq.bd q)).mono fun ps st1 S1 ρ1 H1 x1 s1 q1 vs rs => by
    obtain ⟨c, q1⟩ := Wq.want q1
    match ps, vs, rs, of_decide_eq_true c with
    | [p1, p2, p3], _, .cons r1 (.cons r2 (.cons r3 .nil)), _ =>
      exact ⟨_, _, _, rfl, Wq.now (P := P) (Q := flQ X.K H0 D) (x.trans s0 x1) s1 q1 _ (Re.put (w := .d p3) (Re.put (w := .d p2) (Re.put (w := .d p1) (he.ext x1 hs) r1 i rfl) r2 j rfl) r3 l rfl)⟩⟩

/-- a, b = a new list of its own, .. -/
def parOM (i j : Nat) (va vb : Nv → M W) : Nv → M Fl := fun e => bd (va e) fun w => bd (ownOf w) fun ps => bd (vb e) fun u => bd (pureW u) fun p => ret (.nx ((e.set i (some (.own ps))).set j (some (.d p))))
theorem sParO {i j : Nat} {y z : Str} {p1 p2 pt pt2 : Pos} {kt k2 : Nat} {a b : Expr} {va vb : Nv → M W} (s0 : Sta X.K S0 ρ0 H0 st0) (hc : X.calm = true) (hN : X.N.Nodup) (hi : X.N[i]? = some y) (hj : X.N[j]? = some z) (hij : i ≠ j) (hy : X.env.scope.names.lookup y = some .local) (hz : X.env.scope.names.lookup z = some .local)
    (ha : PE X a (rdN X.K H0 P va)) (hb : PE X b (rdV X.K H0 P vb)) (hpa : plainE a = true) (hpb : plainE b = true) (hw : swappedStores [.Tuple [.Name y p1, .Name z p2] kt pt] (.Tuple [a, b] k2 pt2) X.env = pure (some [y, z])) :
    PS X (.Assign [.Tuple [.Name y p1, .Name z p2] kt pt] (.Tuple [a, b] k2 pt2) pos) (rdS X.K S0 ρ0 H0 P (parOM i j va vb)) :=
  psImp (ps_par hc hN hi hj hij hy hz (pa_cons ha (pa_cons hb pa_nil (starEach_plain hpb)) (starEach_plain hpa)) hw) fun D σ H ⟨S, ρ, st, e, x, hs, he, q⟩ => ⟨S, ρ, st, e, hs, he, (Wq.wp s0 x hs (Wq.bd0 q)).mono fun w st1 S1 ρ1 H1 x1 s1 q1 A vs ps ew hA na nr la s2 rs => by
    subst ew
    have x4 : Ext X.K S ρ H (fun b => S1 b ∨ b = A) ρ1 H1 := ⟨x1.rho, fun b h => .inl (x1.su b h), fun b h => by
      rcases h with h | h
      · exact x1.up b h
      · rw [h]; exact .inr hA, x1.keep, x1.th⟩
    have q2 : Wq X.K S0 ρ0 H0 S ρ H P (flQ X.K H0 D) (bd (vb e) (fun u => bd (pureW u) fun p => ret (Fl.nx ((e.set i (some (.own ps))).set j (some (.d p))))) st1) := q1
    have x5 := x.trans s0 x4
    refine ⟨_, ρ1, st1, e, s2, he.ext x4 hs, (Wq.wp s0 x5 s2 (Wq.bd (q2.later (x4.gro hs)))).mono fun u st3 S3 ρ3 H3 x3 s3 q3 w rw' => ?_⟩
    obtain ⟨p, rfl, rp, q4⟩ := Wq.pure rw' q3
    have nr3 : A ∉ ρ3 := fun z => by
      obtain ⟨nw, f1, f2⟩ := x3.rho
      rw [f1] at z
      rcases List.mem_append.mp z with z | z
      · exact nr z
      · rw [f2 A z] at la; cases la
    have r3 : Re X.K H0 S3 ρ3 H3 σ e := (he.ext x4 hs).ext x3 s2
    refine ⟨_, _, rfl, Wq.now (P := P) (Q := flQ X.K H0 D) (x5.trans s0 x3) s3 q4 _ (Re.put (w := .d p) (Re.putOwn r3 ⟨A, vs, rfl, x3.su A (.inr rfl), nr3, x.th A hA, x3.keep A _ nr la, Rps.ext x3 s2 rs⟩ fun jj qs _ h1 h2 => ?_) rp j rfl)⟩
    obtain ⟨v, e1, b, us, e2, e3, _⟩ := he.at_ jj _ h1
    rw [h2] at e1
    cases e1
    cases e2
    exact hs.free hA e3⟩

theorem own_set {e : Nv} {i jj : Nat} {p : PyData} {qs : List PyData} (h : (e.set i (some (W.d p)))[jj]? = some (some (.own qs))) : i ≠ jj ∧ e[jj]? = some (some (.own qs)) := by
  by_cases z : i = jj
  · subst z
    exfalso
    have hi : i < e.length := by
      have := (List.getElem?_eq_some_iff.mp h).1
      simpa using this
    rw [List.getElem?_set_self hi] at h
    cases h
  · rw [List.getElem?_set_ne z] at h
    exact ⟨z, h⟩
/-- a, b, c = .., .., a new list of its own -/
def parQM (i j l : Nat) (va vb vc : Nv → M W) : Nv → M Fl := fun e => bd (va e) fun w => bd (pureW w) fun p => bd (vb e) fun u => bd (pureW u) fun q => bd (vc e) fun z => bd (ownOf z) fun ps => ret (.nx (((e.set i (some (.d p))).set j (some (.d q))).set l (some (.own ps))))
theorem sParQ {i j l : Nat} {y z u : Str} {p1 p2 p3 pt pt2 : Pos} {kt k2 : Nat} {a b c : Expr} {va vb vc : Nv → M W} (s0 : Sta X.K S0 ρ0 H0 st0) (hc : X.calm = true) (hN : X.N.Nodup) (hi : X.N[i]? = some y) (hj : X.N[j]? = some z) (hl : X.N[l]? = some u) (hij : i ≠ j) (hil : i ≠ l) (hjl : j ≠ l)
    (hy : X.env.scope.names.lookup y = some .local) (hz : X.env.scope.names.lookup z = some .local) (hu : X.env.scope.names.lookup u = some .local)
    (ha : PE X a (rdV X.K H0 P va)) (hb : PE X b (rdV X.K H0 P vb)) (hd : PE X c (rdN X.K H0 P vc)) (hpa : plainE a = true) (hpb : plainE b = true) (hpc : plainE c = true)
    (hw : swappedStores [.Tuple [.Name y p1, .Name z p2, .Name u p3] kt pt] (.Tuple [a, b, c] k2 pt2) X.env = pure (some [y, z, u])) :
    PS X (.Assign [.Tuple [.Name y p1, .Name z p2, .Name u p3] kt pt] (.Tuple [a, b, c] k2 pt2) pos) (rdS X.K S0 ρ0 H0 P (parQM i j l va vb vc)) :=
  psImp (ps_par3 hc hN hi hj hl hij hil hjl hy hz hu (pa_cons ha (pa_cons hb (pa_cons hd pa_nil (starEach_plain hpc)) (starEach_plain hpb)) (starEach_plain hpa)) hw) fun D σ H ⟨S, ρ, st, e, x, hs, he, q⟩ => ⟨S, ρ, st, e, hs, he, (Wq.wp s0 x hs (Wq.bd q)).mono fun w1 st1 S1 ρ1 H1 x1 s1 q1 v1 rv1 => by
    obtain ⟨d1, rfl, rp1, q1'⟩ := Wq.pure rv1 q1
    have y1 := x.trans s0 x1
    have q1'' : Wq X.K S0 ρ0 H0 S1 ρ1 H1 P (flQ X.K H0 D) (bd (vb e) (fun u => bd (pureW u) fun q => bd (vc e) fun z => bd (ownOf z) fun ps => ret (Fl.nx (((e.set i (some (.d d1))).set j (some (.d q))).set l (some (.own ps))))) st1) := q1'
    refine ⟨_, ρ1, st1, e, s1, he.ext x1 hs, (Wq.wp s0 y1 s1 (Wq.bd q1'')).mono fun w2 st2 S2 ρ2 H2 x2 s2 q2 v2 rv2 => ?_⟩
    obtain ⟨d2, rfl, rp2, q2'⟩ := Wq.pure rv2 q2
    have y2 := y1.trans s0 x2
    have he2 : Re X.K H0 S2 ρ2 H2 σ e := (he.ext x1 hs).ext x2 s1
    have q2'' : Wq X.K S0 ρ0 H0 S2 ρ2 H2 P (flQ X.K H0 D) (bd (vc e) (fun z => bd (ownOf z) fun ps => ret (Fl.nx (((e.set i (some (.d d1))).set j (some (.d d2))).set l (some (.own ps))))) st2) := q2'
    refine ⟨_, ρ2, st2, e, s2, he2, (Wq.wp s0 y2 s2 (Wq.bd0 q2'')).mono fun w st3 S3 ρ3 H3 x3 s3 q3 A vs ps ew hA na nr la s4 rs => ?_⟩
    subst ew
    have x4 : Ext X.K S2 ρ2 H2 (fun b => S3 b ∨ b = A) ρ3 H3 := ⟨x3.rho, fun b h => .inl (x3.su b h), fun b h => by
      rcases h with h | h
      · exact x3.up b h
      · rw [h]; exact .inr hA, x3.keep, x3.th⟩
    have y3 := y2.trans s0 x4
    have q3' : Wq X.K S0 ρ0 H0 S2 ρ2 H2 P (flQ X.K H0 D) (ret (Fl.nx (((e.set i (some (.d d1))).set j (some (.d d2))).set l (some (.own ps)))) st3) := q3
    have he3 : Re X.K H0 (fun b => S3 b ∨ b = A) ρ3 H3 σ e := he2.ext x4 s2
    have rp1' : Rw X.K H0 (fun b => S3 b ∨ b = A) ρ3 H3 v1 (.d d1) := Rw.ext x4 s2 (Rw.ext x2 s1 (show Rw X.K H0 S1 ρ1 H1 v1 (.d d1) from rp1))
    have rp2' : Rw X.K H0 (fun b => S3 b ∨ b = A) ρ3 H3 v2 (.d d2) := Rw.ext x4 s2 (show Rw X.K H0 S2 ρ2 H2 v2 (.d d2) from rp2)
    refine ⟨_, _, _, rfl, Wq.now (P := P) (Q := flQ X.K H0 D) y3 s4 (q3'.later (x4.gro s2)) _ (Re.putOwn (Re.put (w := .d d2) (Re.put (w := .d d1) he3 rp1' i rfl) rp2' j rfl) ⟨A, vs, rfl, .inr rfl, nr, y2.th A hA, la, rs⟩ fun jj qs hjj h1 h2 => ?_)⟩
    obtain ⟨z2, g2⟩ := own_set h1
    obtain ⟨z1, g1⟩ := own_set g2
    rw [List.getElem?_set_ne z2, List.getElem?_set_ne z1] at h2
    obtain ⟨v, e1, b, us, e2, e3, _⟩ := he2.at_ jj _ g1
    rw [h2] at e1
    cases e1
    cases e2
    exact s2.free hA e3⟩

/-- the same by a tuple, where the names are cells -/
theorem sParQ2 {i j l : Nat} {y z u : Str} {p1 p2 p3 pt pt2 : Pos} {kt k2 : Nat} {a b c : Expr} {va vb vc : Nv → M W} (s0 : Sta X.K S0 ρ0 H0 st0) (hc : X.calm = true)
    (gi : PG X (.Name y p1) (gName i)) (gj : PG X (.Name z p2) (gName j)) (gl : PG X (.Name u p3) (gName l))
    (ha : PE X a (rdV X.K H0 P va)) (hb : PE X b (rdV X.K H0 P vb)) (hd : PE X c (rdN X.K H0 P vc)) (hpa : plainE a = true) (hpb : plainE b = true) (hpc : plainE c = true)
    (hw : swappedStores [.Tuple [.Name y p1, .Name z p2, .Name u p3] kt pt] (.Tuple [a, b, c] k2 pt2) X.env = pure none) :
    PS X (.Assign [.Tuple [.Name y p1, .Name z p2, .Name u p3] kt pt] (.Tuple [a, b, c] k2 pt2) pos) (rdS X.K S0 ρ0 H0 P (parQM i j l va vb vc)) :=
  psImp (ps_asg (pe_tup (pa_cons ha (pa_cons hb (pa_cons hd pa_nil (starEach_plain hpc)) (starEach_plain hpb)) (starEach_plain hpa))) (pg_tup (n := 3) hc (pgs_cons gi (pgs_cons gj (pgs_cons gl pgs_nil)))) swS_tup hw) fun D σ H ⟨S, ρ, st, e, x, hs, he, q⟩ => ⟨S, ρ, st, e, hs, he, (Wq.wp s0 x hs (Wq.bd q)).mono fun w1 st1 S1 ρ1 H1 x1 s1 q1 v1 rv1 => by
    obtain ⟨d1, rfl, rp1, q1'⟩ := Wq.pure rv1 q1
    have y1 := x.trans s0 x1
    have q1'' : Wq X.K S0 ρ0 H0 S1 ρ1 H1 P (flQ X.K H0 D) (bd (vb e) (fun u => bd (pureW u) fun q => bd (vc e) fun z => bd (ownOf z) fun ps => ret (Fl.nx (((e.set i (some (.d d1))).set j (some (.d q))).set l (some (.own ps))))) st1) := q1'
    refine ⟨_, ρ1, st1, e, s1, he.ext x1 hs, (Wq.wp s0 y1 s1 (Wq.bd q1'')).mono fun w2 st2 S2 ρ2 H2 x2 s2 q2 v2 rv2 => ?_⟩
    obtain ⟨d2, rfl, rp2, q2'⟩ := Wq.pure rv2 q2
    have y2 := y1.trans s0 x2
    have he2 : Re X.K H0 S2 ρ2 H2 σ e := (he.ext x1 hs).ext x2 s1
    have q2'' : Wq X.K S0 ρ0 H0 S2 ρ2 H2 P (flQ X.K H0 D) (bd (vc e) (fun z => bd (ownOf z) fun ps => ret (Fl.nx (((e.set i (some (.d d1))).set j (some (.d d2))).set l (some (.own ps))))) st2) := q2'
    refine ⟨_, ρ2, st2, e, s2, he2, (Wq.wp s0 y2 s2 (Wq.bd0 q2'')).mono fun w st3 S3 ρ3 H3 x3 s3 q3 A vs ps ew hA na nr la s4 rs => ?_⟩
    subst ew
    have x4 : Ext X.K S2 ρ2 H2 (fun b => S3 b ∨ b = A) ρ3 H3 := ⟨x3.rho, fun b h => .inl (x3.su b h), fun b h => by
      rcases h with h | h
      · exact x3.up b h
      · rw [h]; exact .inr hA, x3.keep, x3.th⟩
    have y3 := y2.trans s0 x4
    have q3' : Wq X.K S0 ρ0 H0 S2 ρ2 H2 P (flQ X.K H0 D) (ret (Fl.nx (((e.set i (some (.d d1))).set j (some (.d d2))).set l (some (.own ps)))) st3) := q3
    have he3 : Re X.K H0 (fun b => S3 b ∨ b = A) ρ3 H3 σ e := he2.ext x4 s2
    have rp1' : Rw X.K H0 (fun b => S3 b ∨ b = A) ρ3 H3 v1 (.d d1) := Rw.ext x4 s2 (Rw.ext x2 s1 (show Rw X.K H0 S1 ρ1 H1 v1 (.d d1) from rp1))
    have rp2' : Rw X.K H0 (fun b => S3 b ∨ b = A) ρ3 H3 v2 (.d d2) := Rw.ext x4 s2 (show Rw X.K H0 S2 ρ2 H2 v2 (.d d2) from rp2)
    have fin : Re X.K H0 (fun b => S3 b ∨ b = A) ρ3 H3 (((σ.set i (some v1)).set j (some v2)).set l (some (.ref A))) (((e.set i (some (.d d1))).set j (some (.d d2))).set l (some (.own ps))) := Re.putOwn (Re.put (w := .d d2) (Re.put (w := .d d1) he3 rp1' i rfl) rp2' j rfl) ⟨A, vs, rfl, .inr rfl, nr, y2.th A hA, la, rs⟩ fun jj qs hjj h1 h2 => by
      obtain ⟨z2, g2⟩ := own_set h1
      obtain ⟨z1, g1⟩ := own_set g2
      rw [List.getElem?_set_ne z2, List.getElem?_set_ne z1] at h2
      obtain ⟨v, e1, b, us, e2, e3, _⟩ := he2.at_ jj _ g1
      rw [h2] at e1
      cases e1
      cases e2
      exact s2.free hA e3
    refine ⟨by show 3 ≤ sizeLine; rw [sizeLine_is]; decide, fun p hp => ⟨p, _, rfl, .inl (.inl upd_same), rfl, v1, _, rfl, v2, _, rfl, .ref A, [], rfl, rfl, ?_⟩⟩
    have x5 : Ext X.K (fun b => S3 b ∨ b = A) ρ3 H3 (fun b => S3 b ∨ b = A) ρ3 (upd H3 p (.tup [v1, v2, .ref A])) := .new hp
    exact Wq.now (P := P) (Q := flQ X.K H0 D) (y3.trans s0 x5) (s4.new hp) ((q3'.later (x4.gro s2)).later (x5.gro s4)) _ (fin.ext x5 s4)⟩

/-! ### loops -/
def forM (t : T) (it : Nv → M (List PyData)) (b : Nv → M Fl) : Nv → M Fl := fun e => bd (it e) fun xs => loopL (fun x e => bd (asgT t (.d x) e) fun e1 => b e1) xs e
theorem sFor {t : T} {tg iter : Expr} {it : Nv → M (List PyData)} (s0 : Sta X.K S0 ρ0 H0 st0) (hp : PassesOwn (model X.prog X.w) X.A X.env X.xe) (hc : X.calm = true) (hi : PI X tg iter (rdI X.K H0 P it)) (hg : PG X tg (rdT X.K S0 ρ0 H0 P t)) (hb : PSs X b (rdS X.K S0 ρ0 H0 P f))
    (hs : notSet iter = true) : PS X (.For tg iter b [] pos) (rdS X.K S0 ρ0 H0 P (forM t it f)) :=
  psImp (ps_for hp hc hi hg hb (set_no hs _)) fun D σ H ⟨S, ρ, st, e, x, hs, he, q⟩ => ⟨S, ρ, st, e, hs, he, (Wq.wp s0 x hs (Wq.bd q)).mono fun xs st1 S1 ρ1 H1 x1 s1 q1 J wl => by
    generalize hF : (fun x e => bd (asgT t (.d x) e) fun e1 => f e1) = F at q1
    have x2 := x.trans s0 x1
    refine ⟨fun i m σ' H' => m = xs.length - i ∧ i ≤ xs.length ∧ ∃ S' ρ' st' e', Ext X.K S0 ρ0 H0 S' ρ' H' ∧ Gro X.K S1 ρ1 H1 S' ρ' H' ∧ Sta X.K S' ρ' H' st' ∧ Re X.K H0 S' ρ' H' σ' e' ∧ Wq X.K S0 ρ0 H0 S' ρ' H' P (flQ X.K H0 D) (loopL F (xs.drop i) e' st'),
      ⟨xs.length, by simp, Nat.zero_le _, S1, ρ1, st1, e, x2, .refl s1, s1, he.ext x1 hs, q1⟩, ?_⟩
    rintro i m σ' H' ⟨rfl, hi, S', ρ', st', e', x3, g3, s3, r3, q3⟩
    have W := wl S' H' g3.g s3.sl i
    by_cases hlt : i < xs.length
    · obtain ⟨go, yl⟩ := W.2 _ (List.getElem?_eq_getElem hlt)
      rw [List.drop_eq_getElem_cons hlt] at q3
      subst hF
      refine .inr ⟨go, fun σ' H' => ∃ S' ρ' st' e', Ext X.K S0 ρ0 H0 S' ρ' H' ∧ Gro X.K S1 ρ1 H1 S' ρ' H' ∧ Sta X.K S' ρ' H' st' ∧ Re X.K H0 S' ρ' H' σ' e' ∧ Wq X.K S0 ρ0 H0 S' ρ' H' P (flQ X.K H0 D) (loopL _ (xs.drop (i + 1)) e' st'),
        fun σ' H' h => ⟨xs.length - (i + 1), by omega, rfl, hlt, h⟩, fun u H2 y => ?_⟩
      have st2 : Ext X.K S' ρ' H' S' ρ' H2 ∧ Sta X.K S' ρ' H2 st' ∧ Rp X.K S' H2 u xs[i] := by
        rcases yl u H2 y with ⟨rfl, ru⟩ | ⟨T, o, hT, rfl, ru⟩
        · exact ⟨.refl, s3, ru⟩
        · exact ⟨.new hT, s3.new hT, ru⟩
      obtain ⟨x4, s4, ru⟩ := st2
      have g4 := g3.trans (x4.gro s3)
      have q4 := Wq.bd (Wq.bd (q3.later (x4.gro s3)))
      refine ⟨S', ρ', st', e', .d xs[i], x3.trans s0 x4, s4, r3.ext x4 s3, ru, q4.mono fun e5 st5 S5 ρ5 H5 x5 g5 s5 q5 σ5 r5 => ⟨S5, ρ5, st5, e5, x5, s5, r5, q5.mono fun fl st6 S6 ρ6 H6 x6 g6 s6 q6 => ?_⟩⟩
      cases fl with
      | nx e6 => exact fun σ6 r6 => ⟨S6, ρ6, st6, e6, x6, (g4.trans g5).trans g6, s6, r6, q6⟩
      | ct e6 => exact fun σ6 r6 => ⟨S6, ρ6, st6, e6, x6, (g4.trans g5).trans g6, s6, r6, q6⟩
      | bk e6 => exact fun σ6 r6 => Wq.now (P := P) (Q := flQ X.K H0 D) x6 s6 q6 σ6 r6
      | rt w => exact Wq.now (P := P) (Q := flQ X.K H0 D) x6 s6 q6
    · have ei : i = xs.length := by omega
      subst ei
      rw [List.drop_length] at q3
      exact .inl ⟨W.1 (Nat.le_refl _), Wq.now (P := P) (Q := flQ X.K H0 D) x3 s3 q3 σ' r3⟩⟩
theorem sWhile {c : Expr} {t : Nv → M Bool} (s0 : Sta X.K S0 ρ0 H0 st0) (hp : PassesOwn (model X.prog X.w) X.A X.env X.xe) (hc : PT X c (rdB X.K H0 P t)) (hb : PSs X b (rdS X.K S0 ρ0 H0 P f)) : PS X (.While c b [] pos) (rdS X.K S0 ρ0 H0 P (whileR t f)) :=
  psImp (ps_while hp hc hb) fun D σ H ⟨S, ρ, st, e, x, hs, he, q⟩ => by
    unfold whileR at q
    split at q
    · rename_i hn
      generalize Classical.choose hn = n at q
      refine ⟨fun m σ' H' => ∃ S' ρ' st' e', Ext X.K S0 ρ0 H0 S' ρ' H' ∧ Sta X.K S' ρ' H' st' ∧ Re X.K H0 S' ρ' H' σ' e' ∧ Wq X.K S0 ρ0 H0 S' ρ' H' P (flQ X.K H0 D) (whileN t f m e' st'), ⟨n, S, ρ, st, e, x, hs, he, q⟩, ?_⟩
      rintro m σ1 H1 ⟨S1, ρ1, st1, e1, x1, s1, r1, q1⟩
      cases m with
      | zero => exact False.elim q1
      | succ m =>
        have q1' : Wq X.K S0 ρ0 H0 S1 ρ1 H1 P (flQ X.K H0 D) (bd (t e1) (fun k => match k with
          | false => ret (Fl.nx e1)
          | true => bd (f e1) fun r => match r with
            | .nx e' => whileN t f m e'
            | .ct e' => whileN t f m e'
            | .bk e' => ret (Fl.nx e')
            | .rt w => ret (Fl.rt w)) st1) := q1
        refine sqB s0 x1 s1 r1 q1' fun k H2 S2 ρ2 st2 x2 _ s2 r2 q2 => ?_
        cases k with
        | false =>
          show if false = true then _ else _
          rw [if_neg Bool.false_ne_true]
          exact Wq.now (P := P) (Q := flQ X.K H0 D) x2 s2 q2 σ1 r2
        | true =>
          show if true = true then _ else _
          rw [if_pos rfl]
          refine ⟨fun σ' H' => ∃ S' ρ' st' e', Ext X.K S0 ρ0 H0 S' ρ' H' ∧ Sta X.K S' ρ' H' st' ∧ Re X.K H0 S' ρ' H' σ' e' ∧ Wq X.K S0 ρ0 H0 S' ρ' H' P (flQ X.K H0 D) (whileN t f m e' st'), fun σ' H' h => ⟨m, Nat.lt_succ_self m, h⟩, S2, ρ2, st2, e1, x2, s2, r2, (Wq.bd q2).mono fun fl st6 S6 ρ6 H6 x6 g6 s6 q6 => ?_⟩
          cases fl with
          | nx e6 => exact fun σ6 r6 => ⟨S6, ρ6, st6, e6, x6, s6, r6, q6⟩
          | ct e6 => exact fun σ6 r6 => ⟨S6, ρ6, st6, e6, x6, s6, r6, q6⟩
          | bk e6 => exact fun σ6 r6 => Wq.now (P := P) (Q := flQ X.K H0 D) x6 s6 q6 σ6 r6
          | rt w => exact Wq.now (P := P) (Q := flQ X.K H0 D) x6 s6 q6
    · exact False.elim q
end
end Zd
end
section
set_option Elab.async false
set_option linter.all false
set_option maxRecDepth 100000
set_option maxHeartbeats 4000000
/-! Zd16: the look at statements, and what it gives. -/
namespace Zd
open PySem PySem.Spec L2
open PyProof.Rows hiding St

def nmB (G : Cg) (i : Nat) (y : Str) : Bool := (G.N[i]? == some y) && (G.sc.names.lookup y == some .local || (G.sc.names.lookup y == some .cell && G.fn y))
def locB (G : Cg) (i : Nat) (y : Str) : Bool := (G.N[i]? == some y) && (G.sc.names.lookup y == some .local)
/-- one star, at one place -/
def stB (ts : List T) (es : List Expr) : Bool := match ts.findIdx? isSt with
  | some i => (es.findIdx? (fun e => !noStar e) == some i) && (!(ts.drop (i + 1)).any isSt && (es.all fun e => noStar (unstar e)))
  | none => false
mutual
def ckTg : Nat → Cg → T → Expr → Bool
  | 0, _, _, _ => false
  | n + 1, G, t, x => match t with
    | .nm i => (match x with
      | .Name y _ => nmB G i y
      | _ => false)
    | .tp ts => (match x with
      | .Tuple es _ _ => (match ts.any isSt with
        | false => ckTgs n G ts es
        | true => stB ts es && ckTgs n G (ts.map unT) (es.map unstar))
      | _ => false)
    | .sb i k => (match x with
      | .Subscript (.Name y _) (.Constant (.int j) _ _) _ => varB G i y && (k == j)
      | _ => false)
    | .st _ => false
def ckTgs : Nat → Cg → List T → List Expr → Bool
  | 0, _, _, _ => false
  | n + 1, G, ts, xs => match ts, xs with
    | [], [] => true
    | t :: ts, x :: xs => ckTg n G t x && (noStar x && ckTgs n G ts xs)
    | _, _ => false
end
def tupN : Expr → Nat
  | .Tuple es _ _ => es.length
  | _ => 0
def tupEs : Expr → List Expr
  | .Tuple es _ _ => es
  | _ => []
def foldE : Expr → Bool
  | .Tuple es _ _ => es.all (foldedForSure 8)
  | _ => false
def isNmT : T → Bool
  | .nm _ => true
  | _ => false
mutual
def ckS : Nat → Cg → S → Stmt → Bool
  | 0, _, _, _ => false
  | n + 1, G, s, x => match s with
    | .expr e => (match x with
      | .Expr y _ => notComp y && ckV n G e y
      | _ => false)
    | .asg t e => (match x with
      | .Assign [tg] y _ => ckTg n G t tg && ((ckV n G e y && (notComp y || fresh e)) && ((isNmT t) || (isTupE tg && (!isTupX y || (!(tupN tg == 2 || tupN tg == 3) || (foldE y || swNo G.sc (tupEs tg)))))))
      | _ => false)
    | .own i e => (match x with
      | .Assign [.Name y _] z _ => nmB G i y && (fresh e && ckV n G e z)
      | _ => false)
    | .par is es => (match x with
      | .Assign [.Tuple [.Name y p1, .Name z p2] _ _] (.Tuple [a, b] _ _) _ => (match is with
        | [i, j] => locB G i y && (locB G j z && ((G.sc.kind == .function) && ((p2.line == p1.line) && (!(y == z) && (noStar a && (noStar b && (!(foldedForSure 8 a && foldedForSure 8 b) && (!(constantsAlone 8 a && constantsAlone 8 b) && ckD (ckV n G) es [a, b]))))))))
        | _ => false)
      | .Assign [.Tuple [.Name y p1, .Name z p2, .Name u p3] _ _] (.Tuple [a, b, c] _ _) _ => (match is with
        | [i, j, l] => locB G i y && (locB G j z && (locB G l u && ((G.sc.kind == .function) && ((p2.line == p1.line) && ((p3.line == p1.line) && (!(y == z) && (!(y == u) && (!(z == u) && (noStar a && (noStar b && (noStar c && (!(foldedForSure 8 a && (foldedForSure 8 b && foldedForSure 8 c)) && (!(constantsAlone 8 a && (constantsAlone 8 b && constantsAlone 8 c)) && ckD (ckV n G) es [a, b, c])))))))))))))
        | _ => false)
      | _ => false)
    | .setI i ix e => (match x with
      | .Assign [.Subscript (.Name y _) z _] w _ => varB G i y && (ckV n G ix z && (plainE z && ckV n G e w))
      | _ => false)
    | .app i e => (match x with
      | .Expr (.Call (.Attribute (.Name y _) m p2) [w] [] p3) _ => varB G i y && ((m == ("append" : Str)) && (plainE w && ((p2.endLine == p3.line) && ckV n G e w)))
      | _ => false)
    | .ret e => (match x with
      | .Return (some y) _ => ckV n G e y
      | _ => false)
    | .retN => (match x with
      | .Return none _ => true
      | _ => false)
    | .ite c a b => (match x with
      | .If c' a' b' _ => ckT n G c c' && (ckSs n G a a' && ckSs n G b b')
      | _ => false)
    | .for_ t it b => (match x with
      | .For tg it' b' [] _ => ckI n G it it' tg && (ckTg n G t tg && (ckSs n G b b' && notSet it'))
      | _ => false)
    | .while_ c b => (match x with
      | .While c' b' [] _ => ckT n G c c' && ckSs n G b b'
      | _ => false)
    | .brk => (match x with
      | .Break _ => true
      | _ => false)
    | .cont => (match x with
      | .Continue _ => true
      | _ => false)
    | .pass => (match x with
      | .Pass _ => true
      | _ => false)
    | .raise_ _ _ _ => true
    | .parO i j ea eb => (match x with
      | .Assign [.Tuple [.Name y p1, .Name z p2] _ _] (.Tuple [a, b] _ _) _ => locB G i y && (locB G j z && ((G.sc.kind == .function) && ((p2.line == p1.line) && (!(y == z) && (plainE a && (plainE b && (!(foldedForSure 8 a && foldedForSure 8 b) && (!(constantsAlone 8 a && constantsAlone 8 b) && (fresh ea && (ckV n G ea a && ckV n G eb b))))))))))
      | _ => false)
    | .parQ i j l ea eb ec => (match x with
      | .Assign [.Tuple [.Name y p1, .Name z p2, .Name u p3] _ _] (.Tuple [a, b, c] _ _) _ => ((locB G i y && (locB G j z && (locB G l u && ((G.sc.kind == .function) && ((p2.line == p1.line) && ((p3.line == p1.line) && (!(y == z) && (!(y == u) && (!(z == u) && (!(foldedForSure 8 a && (foldedForSure 8 b && foldedForSure 8 c)) && !(constantsAlone 8 a && (constantsAlone 8 b && constantsAlone 8 c)))))))))))) || (nmB G i y && (nmB G j z && (nmB G l u && swNo G.sc [.Name y p1, .Name z p2, .Name u p3])))) && (plainE a && (plainE b && (plainE c && (fresh ec && (ckV n G ea a && (ckV n G eb b && ckV n G ec c))))))
      | _ => false)
    | .dem _ => false
def ckSs : Nat → Cg → List S → List Stmt → Bool
  | 0, _, _, _ => false
  | n + 1, G, ss, xs => match ss with
    | [] => (match xs with
      | [] => true
      | _ => false)
    | .dem i :: r => ckSs n G r xs
    | s :: r => (match xs with
      | x :: ys => ckS n G s x && ckSs n G r ys
      | _ => false)
end
theorem nmB_is {X : Cx} {G : Cg} {C : Str → List W → M W} {gv : Str → Option PyData} {E' : XK} (g : Gd X G C gv E') {i : Nat} {y : Str} (h : nmB G i y = true) : X.N[i]? = some y ∧ Loc X.env.scope y ∧ (X.fn y = true ∨ X.env.scope.names.lookup y = some .local) := by
  unfold nmB at h
  simp only [Bool.and_eq_true, Bool.or_eq_true, beq_iff_eq] at h
  obtain ⟨h1, h2⟩ := h
  refine ⟨by rw [g.N]; exact h1, ?_, ?_⟩
  · rw [g.sc]
    rcases h2 with h2 | h2
    · exact .inl h2
    · exact .inr h2.1
  · rw [g.sc, g.fn]
    rcases h2 with h2 | h2
    · exact .inr h2
    · exact .inl h2.2
theorem locB_is {X : Cx} {G : Cg} {C : Str → List W → M W} {gv : Str → Option PyData} {E' : XK} (g : Gd X G C gv E') {i : Nat} {y : Str} (h : locB G i y = true) : X.N[i]? = some y ∧ X.env.scope.names.lookup y = some .local := by
  unfold locB at h
  simp only [Bool.and_eq_true, beq_iff_eq] at h
  exact ⟨by rw [g.N]; exact h.1, by rw [g.sc]; exact h.2⟩
theorem varB_is {X : Cx} {G : Cg} {C : Str → List W → M W} {gv : Str → Option PyData} {E' : XK} (g : Gd X G C gv E') {i : Nat} {y : Str} (h : varB G i y = true) : X.N[i]? = some y ∧ Vis X.env.scope y ∧ (y == ("__debug__" : Str)) = false ∧ (y == ("__classdict__" : Str)) = false := by
  unfold varB at h
  simp only [Bool.and_eq_true, Bool.not_eq_true', beq_iff_eq] at h
  obtain ⟨⟨⟨h1, h2⟩, h3⟩, h4⟩ := h
  exact ⟨by rw [g.N]; exact h1, by rw [g.sc]; exact visB_is h2, h3, h4⟩
section
variable {X : Cx} {G : Cg} {C : Str → List W → M W} {gv : Str → Option PyData} {E' : XK} {H0 : Hp} {S0 : AS} {ρ0 : List Addr} {st0 : Store}
theorem map_unT : ∀ {ts : List T}, ts.any isSt = false → ts.map unT = ts
  | [], _ => rfl
  | t :: ts, h => by
    rw [List.any_cons, Bool.or_eq_false_iff] at h
    rw [List.map_cons, map_unT h.2]
    cases t <;> first | rfl | cases h.1
theorem assignEach_star {env : Env} {i : Nat} (es : List Expr) (h : es.findIdx? (fun e => !noStar e) = some i) : (assignEach es env).findIdx? (·.1) = some i := by
  rw [← h]
  clear h
  induction es with
  | nil => rfl
  | cons e es ih =>
    cases e <;> (
      show List.findIdx? (·.1) (_ :: assignEach es env) = _
      rw [List.findIdx?_cons, List.findIdx?_cons, ih]
      rfl)
theorem stB_is {ts : List T} {es : List Expr} (h : stB ts es = true) : ∃ ts1 j ts2, ts = ts1 ++ .st j :: ts2 ∧ ts1.any isSt = false ∧ ts2.any isSt = false ∧ es.findIdx? (fun e => !noStar e) = some ts1.length ∧ es.all (fun e => noStar (unstar e)) = true := by
  unfold stB at h
  cases e : ts.findIdx? isSt with
  | none => rw [e] at h; cases h
  | some i =>
    rw [e] at h
    simp only [Bool.and_eq_true, Bool.not_eq_true', beq_iff_eq] at h
    obtain ⟨h1, h2, h3⟩ := h
    obtain ⟨hi, hs, hb⟩ := List.findIdx?_eq_some_iff_getElem.mp e
    have dec : ts = ts.take i ++ ts[i] :: ts.drop (i + 1) := by
      rw [← List.drop_eq_getElem_cons hi, List.take_append_drop]
    have no1 : (ts.take i).any isSt = false := by
      rw [List.any_eq_false]
      intro t ht
      obtain ⟨j, hj, e2⟩ := List.getElem_of_mem ht
      rw [List.length_take] at hj
      have := hb j (by omega)
      rw [List.getElem_take] at e2
      rw [← e2]
      exact this
    cases et : ts[i] with
    | st j =>
      rw [et] at dec
      exact ⟨ts.take i, j, ts.drop (i + 1), dec, no1, h2, by rw [h1, List.length_take]; congr 1; omega, h3⟩
    | nm j => rw [et] at hs; cases hs
    | tp j => rw [et] at hs; cases hs
    | sb j k => rw [et] at hs; cases hs
theorem ckTg_ok (s0 : Sta X.K S0 ρ0 H0 st0) (g : Gd X G C gv E') : ∀ n, (∀ t x, ckTg n G t x = true → PG X x (rdT X.K S0 ρ0 H0 (pX E') t) ∧ isSt t = false ∧ noStar x = true) ∧
    (∀ ts xs, ckTgs n G ts xs = true → PGs X xs (rdTs X.K S0 ρ0 H0 (pX E') ts) ∧ ts.length = xs.length ∧ xs.all noStar = true ∧ ts.any isSt = false)
  | 0 => ⟨fun _ _ h => (by unfold ckTg at h; cases h), fun _ _ h => (by unfold ckTgs at h; cases h)⟩
  | n + 1 => by
    obtain ⟨i1, i2⟩ := ckTg_ok s0 g n
    refine ⟨fun t x h => ?_, fun ts xs h => ?_⟩
    · unfold ckTg at h
      cases t with
      | nm i =>
        cases x <;> first | (cases h; done) | skip
        obtain ⟨k1, k2, k3⟩ := nmB_is g h
        exact ⟨tNm (by rw [g.N]; exact g.nd) k1 k2 k3, rfl, rfl⟩
      | tp ts =>
        cases x <;> first | (cases h; done) | skip
        rename_i es kk pp
        dsimp only at h
        split at h
        · obtain ⟨q1, q2, q3, q4⟩ := i2 _ _ h
          exact ⟨tTp g.calm q1 (assignEach_len _) (assignEach_no _ q3) q2 q4, rfl, rfl⟩
        · simp only [Bool.and_eq_true] at h
          obtain ⟨q1, q2, q3, q4⟩ := i2 _ _ h.2
          obtain ⟨ts1, j, ts2, e1, e2, e3, e4, e5⟩ := stB_is h.1
          subst e1
          rw [List.map_append, List.map_cons, map_unT e2, map_unT e3] at q1
          rw [List.length_map, List.length_map] at q2
          exact ⟨tTpS s0 g.calm q1 e2 e3 q2.symm (assignEach_star es e4) e5, rfl, rfl⟩
      | sb i k =>
        dsimp only at h
        split at h
        · simp only [Bool.and_eq_true, beq_iff_eq] at h
          obtain ⟨h1, rfl⟩ := h
          obtain ⟨k1, k2, k3, k4⟩ := varB_is g h1
          exact ⟨tSb s0 k1 k2 k3 k4, rfl, rfl⟩
        · cases h
      | st i => cases h
    · unfold ckTgs at h
      cases ts with
      | nil =>
        cases xs with
        | nil => exact ⟨tNil, rfl, rfl, rfl⟩
        | cons x xs => cases h
      | cons t ts =>
        cases xs with
        | nil => cases h
        | cons x xs =>
          simp only [Bool.and_eq_true] at h
          obtain ⟨h1, h2, h3⟩ := h
          obtain ⟨q1, q2, q3, q4⟩ := i2 _ _ h3
          obtain ⟨p1, p2, p3⟩ := i1 _ _ h1
          refine ⟨tCons' p1 q1 p2 h2, by rw [List.length_cons, List.length_cons, q2], ?_, ?_⟩
          · rw [List.all_cons, h2, q3]; rfl
          · rw [List.any_cons, p2, q4]; rfl
/-- name = a new list -/
theorem set_fresh {n : Nat} {i : Nat} {y : Str} {p pos : Pos} {e : E} {x : Expr} (g : Gd X G C gv E') (hf : fresh e = true) (hi : nmB G i y = true) (h : ckV n G e x = true) :
    PS X (.Assign [.Name y p] x pos) (tAsg (rdN X.K H0 (pX E') (evP C gv e).v) (gName i)) := by
  cases n with
  | zero => unfold ckV at h; cases h
  | succ n =>
    have c : Ck n C gv H0 := ck_ok n
    have hN : X.N.Nodup := by rw [g.N]; exact g.nd
    obtain ⟨k1, k2, k3⟩ := nmB_is g hi
    have pe := ck_fresh (H0 := H0) c g hf h
    -- the exchange of the stores
    have sw : ∀ elt gens scope p2, x = .ListComp elt gens scope p2 → ∃ b, swapsWith x (some (.Name y p)) pos.line X.env = pure b ∧ (b = true → X.env.scope.names.lookup y = some .local) := fun elt gens scope p2 ex => by
      subst ex
      refine ⟨_, rfl, fun hb => ?_⟩
      simp only [Bool.and_eq_true, beq_iff_eq] at hb
      exact hb.1.1.2
    cases e <;> first | (cases hf; done) | skip
    · -- lst
      cases x <;> first | (unfold ckV at h; cases h; done) | skip
      exact ps_set hN k1 k2 pe (swap_no rfl) k3
    · -- comp
      rename_i tg it ifs elt own
      have h' := h
      unfold ckV at h
      dsimp only at h
      split at h
      · rename_i elt' tg' it' ifs' scope p2
        obtain ⟨b, hb, hl⟩ := sw _ _ _ _ rfl
        cases b with
        | false => exact ps_set hN k1 k2 pe hb k3
        | true =>
          simp only [Bool.and_eq_true] at h
          obtain ⟨h1, h2, h3, h4, h5, h6, h7, h8⟩ := h
          have hw : ∀ i ∈ tgI tg, i ∈ (ownP G.N own).map (·.2) := by
            rw [ownP_snd]
            intro i hi
            exact List.contains_iff_mem.mp (List.all_eq_true.mp h8 i hi)
          have k := asg_imp (ps_setLc g.calm hN k1 (hl rfl) hb (c.i g it it' tg' h2) (blk_ok g h1) (fun s H Cc cl fp => (ckG_ok (H0 := H0) (g.blk s H scope Cc cl fp) n).1 tg tg' h3 h7) (fun s H Cc cl fp => ckIf_ok (c.t (g.blk s H scope Cc cl fp)) h4)
            (fun s H Cc cl fp => c.v (g.blk s H scope Cc cl fp) elt elt' h5) (set_no h6 _)) (lcImp (X := X) (P := pX E') (PF := pX fun _ _ _ => False) h7 hw)
          rw [ownP_snd] at k
          unfold evP
          exact k
      · cases h
    · -- comp2
      rename_i tg it ifs tg1 it1 ifs1 elt own own1
      have h' := h
      unfold ckV at h
      dsimp only at h
      split at h
      · rename_i elt' tg' it' ifs' tg1' it1' ifs1' scope p2
        obtain ⟨b, hb, hl⟩ := sw _ _ _ _ rfl
        cases b with
        | false => exact ps_set hN k1 k2 pe hb k3
        | true =>
          simp only [Bool.and_eq_true] at h
          obtain ⟨h1, h2, h3, h4, h5, h6, h7, h8, h9, h10, h11, h12, h13, h14, h15⟩ := h
          have hw : ∀ i ∈ tgI tg, i ∈ (ownP G.N own).map (·.2) := by
            rw [ownP_snd]
            intro i hi
            exact List.contains_iff_mem.mp (List.all_eq_true.mp h8 i hi)
          have hv : ∀ i ∈ own1, i ∈ (ownP G.N own).map (·.2) := by
            rw [ownP_snd]
            intro i hi
            exact List.contains_iff_mem.mp (List.all_eq_true.mp h15 i hi)
          have k := asg_imp (ps_setLc2 g.calm hN k1 (hl rfl) hb (c.i g it it' tg' h2) (blk_ok g h1) hv (fun s H Cc cl fp => (ckG_ok (H0 := H0) (g.blk s H scope Cc cl fp) n).1 tg tg' h3 h7) (fun s H Cc cl fp => ckIf_ok (c.t (g.blk s H scope Cc cl fp)) h4)
            (fun s H Cc cl fp => c.i (g.blk s H scope Cc cl fp) it1 it1' tg1' h9) (fun s H Cc cl fp => (ckG_ok (H0 := H0) (g.blk s H scope Cc cl fp) n).1 tg1 tg1' h10 h13) (fun s H Cc cl fp => ckIf_ok (c.t (g.blk s H scope Cc cl fp)) h11)
            (fun s H Cc cl fp => c.v (g.blk s H scope Cc cl fp) elt elt' h5) (set_no h6 _) (set_no h12)) (lcImp2 (X := X) (P := pX E') (PF := pX fun _ _ _ => False) h7 hw h13 (fun i hi => List.contains_iff_mem.mp (List.all_eq_true.mp h14 i hi)))
          rw [ownP_snd] at k
          unfold evP
          exact k
      · cases h
end
end Zd
end
section
set_option Elab.async false
set_option linter.all false
set_option maxRecDepth 100000
set_option maxHeartbeats 4000000
/-! Zd17: the look at statements is right. -/
namespace Zd
open PySem PySem.Spec L2
open PyProof.Rows hiding St
variable {C : Str → List W → M W} {gv : Str → Option PyData} {H0 : Hp} {S0 : AS} {ρ0 : List Addr} {st0 : Store}
/-- what the look gives at one depth -/
structure Cs (n : Nat) (C : Str → List W → M W) (gv : Str → Option PyData) (S0 : AS) (ρ0 : List Addr) (H0 : Hp) (st0 : Store) : Prop where
  s : ∀ {X : Cx} {G : Cg} {E' : XK}, Gd X G C gv E' → Sta X.K S0 ρ0 H0 st0 → PassesOwn (model X.prog X.w) X.A X.env X.xe → ∀ s x, ckS n G s x = true → PS X x (rdS X.K S0 ρ0 H0 (pX E') (exP C gv s))
  ss : ∀ {X : Cx} {G : Cg} {E' : XK}, Gd X G C gv E' → Sta X.K S0 ρ0 H0 st0 → PassesOwn (model X.prog X.w) X.A X.env X.xe → ∀ ss xs, ckSs n G ss xs = true → PSs X xs (rdS X.K S0 ρ0 H0 (pX E') (exPs C gv ss))
theorem psEq {X : Cx} {x : Stmt} {P : PX} {f g : Nv → M Fl} (h : ∀ v, f v = g v) (z : PS X x (rdS X.K S0 ρ0 H0 P g)) : PS X x (rdS X.K S0 ρ0 H0 P f) := by
  have e : f = g := funext h
  rw [e]
  exact z
theorem s_step {n : Nat} (c : Cs n C gv S0 ρ0 H0 st0) {X : Cx} {G : Cg} {E' : XK} (g : Gd X G C gv E') (s0 : Sta X.K S0 ρ0 H0 st0) (po : PassesOwn (model X.prog X.w) X.A X.env X.xe) (s : S) (x : Stmt) (h : ckS (n + 1) G s x = true) : PS X x (rdS X.K S0 ρ0 H0 (pX E') (exP C gv s)) := by
  have k : Ck n C gv H0 := ck_ok n
  have hN : X.N.Nodup := by rw [g.N]; exact g.nd
  cases s with
  | expr e =>
    unfold ckS at h
    cases x <;> first | (cases h; done) | skip
    simp only [Bool.and_eq_true] at h
    have := sExpr (pos := by assumption) s0 (k.v g _ _ h.2) h.1
    exact psEq (fun v => by unfold exP; rfl) this
  | asg t e =>
    unfold ckS at h
    dsimp only at h
    split at h
    · rename_i tg y p
      simp only [Bool.and_eq_true] at h
      obtain ⟨h1, ⟨h2, h3⟩, h4⟩ := h
      obtain ⟨q1, q2, q3⟩ := (ckTg_ok s0 g n).1 t tg h1
      have pv := k.v g _ _ h2
      cases t with
      | nm i =>
        cases n with
        | zero => unfold ckTg at h1; cases h1
        | succ n =>
          unfold ckTg at h1
          cases tg <;> first | (cases h1; done) | skip
          rename_i z pz
          obtain ⟨k1, k2, k3⟩ := nmB_is g h1
          cases hf : fresh e with
          | true =>
            have z := sSetL s0 (set_fresh (H0 := H0) (pos := p) (p := pz) g hf h1 h2)
            exact psEq (fun v => by unfold exP; rfl) z
          | false =>
            rw [hf, Bool.or_false] at h3
            have z := sSet (p := pz) (pos := p) s0 hN k1 k2 k3 pv (swap_no h3)
            exact psEq (fun v => by unfold exP; rfl) z
      | tp ts =>
        simp only [isNmT, Bool.false_or, Bool.and_eq_true, Bool.or_eq_true, Bool.not_eq_true', Bool.false_eq_true, false_or] at h4
        obtain ⟨h5, h6⟩ := h4
        cases tg <;> first | (cases h5; done) | skip
        rename_i es kk pp
        have hw : swappedStores [.Tuple es kk pp] y X.env = pure none := by
          rcases h6 with h6 | h6
          · exact swN_tup h6
          · cases hy : isTupX y with
            | false => exact swN_tup hy
            | true =>
              cases y <;> first | (cases hy; done) | skip
              rcases h6 with h6 | h6 | h6
              · exact swN_many h6
              · exact swN_fold h6
              · exact swN_cell (by rw [g.sc]; exact h6)
        have z := sAsg (pos := p) s0 pv q1 swS_tup hw q3
        exact psEq (fun v => by unfold exP; rfl) z
      | sb i kk =>
        simp only [isNmT, Bool.false_or, Bool.and_eq_true] at h4
        have h5 := h4.1
        cases n with
        | zero => unfold ckTg at h1; cases h1
        | succ n =>
          unfold ckTg at h1
          dsimp only at h1
          split at h1
          · cases h5
          · cases h1
      | st i => cases q2
    · cases h
  | own i e =>
    unfold ckS at h
    dsimp only at h
    split at h
    · rename_i y pz z p
      simp only [Bool.and_eq_true] at h
      have := sOwn s0 (set_fresh (H0 := H0) (pos := p) (p := pz) g h.2.1 h.1 h.2.2)
      exact psEq (fun v => by unfold exP; rfl) this
    · cases h
  | dem i => unfold ckS at h; cases h
  | par is es =>
    unfold ckS at h
    dsimp only at h
    split at h
    · rename_i y p1 z p2 kt pt a b k2 pt2 p
      split at h
      · rename_i i j
        simp only [Bool.and_eq_true, Bool.not_eq_true', beq_iff_eq] at h
        obtain ⟨h1, h2, h3, h4, h5, h6, h7, h8, h9, h10⟩ := h
        obtain ⟨k1, k2⟩ := locB_is g h1
        obtain ⟨k3, k4⟩ := locB_is g h2
        have hne : y ≠ z := by
          intro q
          rw [q, beq_self_eq_true] at h5
          cases h5
        have hij : i ≠ j := fun q => by
          subst q
          rw [k1] at k3
          cases k3
          exact hne rfl
        exact psEq (fun v => by unfold exP; rfl) (sPar2 (pos := p) s0 g.calm hN k1 k3 hij k2 k4 (ckD_ok (k.v g) h10) (sw2 (by rw [g.sc]; exact h3) k2 k4 (beq_iff_eq.mpr h4) hne h6 h7 h8 h9))
      · cases h
    · rename_i y p1 z p2 u p3 kt pt a b d k2 pt2 p
      split at h
      · rename_i i j l
        simp only [Bool.and_eq_true, Bool.not_eq_true', beq_iff_eq] at h
        obtain ⟨h1, h2, h2', h3, h4, h4', h5, h5', h5'', h6, h7, h7', h8, h9, h10⟩ := h
        obtain ⟨k1, k2⟩ := locB_is g h1
        obtain ⟨k3, k4⟩ := locB_is g h2
        obtain ⟨k5, k6⟩ := locB_is g h2'
        have ne : ∀ {a b : Str}, (a == b) = false → a ≠ b := fun {a b} h q => by
          rw [q, beq_self_eq_true] at h
          cases h
        have ix : ∀ {a b : Str} {i j : Nat}, X.N[i]? = some a → X.N[j]? = some b → a ≠ b → i ≠ j := fun {a b i j} e1 e2 hne q => by
          subst q
          rw [e1] at e2
          cases e2
          exact hne rfl
        exact psEq (fun v => by unfold exP; rfl) (sPar3 (pos := p) s0 g.calm hN k1 k3 k5 (ix k1 k3 (ne h5)) (ix k1 k5 (ne h5')) (ix k3 k5 (ne h5'')) k2 k4 k6 (ckD_ok (k.v g) h10)
          (sw3 (by rw [g.sc]; exact h3) k2 k4 k6 (beq_iff_eq.mpr h4) (beq_iff_eq.mpr h4') (ne h5) (ne h5') (ne h5'') h6 h7 h7' h8 h9))
      · cases h
    · cases h
  | parO i j ea eb =>
    unfold ckS at h
    dsimp only at h
    split at h
    · rename_i y p1 z p2 kt pt a b k2 pt2 p
      simp only [Bool.and_eq_true, Bool.not_eq_true', beq_iff_eq] at h
      obtain ⟨h1, h2, h3, h4, h5, h6, h7, h8, h9, h10, h11, h12⟩ := h
      obtain ⟨k1, k2⟩ := locB_is g h1
      obtain ⟨k3, k4⟩ := locB_is g h2
      have hne : y ≠ z := by
        intro q
        rw [q, beq_self_eq_true] at h5
        cases h5
      have hij : i ≠ j := fun q => by
        subst q
        rw [k1] at k3
        cases k3
        exact hne rfl
      have st : ∀ {e : Expr}, plainE e = true → noStar e = true := fun {e} h => by cases e <;> first | rfl | cases h
      have pn : PE X a (rdN X.K H0 (pX E') (evP C gv ea).v) := by
        cases n with
        | zero => unfold ckV at h11; cases h11
        | succ n => exact ck_fresh (H0 := H0) (ck_ok n) g h10 h11
      exact psEq (fun v => by unfold exP; rfl) (sParO (pos := p) s0 g.calm hN k1 k3 hij k2 k4 pn (k.v g _ _ h12) h6 h7 (sw2 (by rw [g.sc]; exact h3) k2 k4 (beq_iff_eq.mpr h4) hne (st h6) (st h7) h8 h9))
    · cases h
  | parQ i j l ea eb ec =>
    unfold ckS at h
    dsimp only at h
    split at h
    · rename_i y p1 z p2 u p3 kt pt a b c k2 pt2 p
      simp only [Bool.and_eq_true] at h
      obtain ⟨hh, h6, h7, h7', h10, h11, h12, h13⟩ := h
      have ne : ∀ {a b : Str}, (a == b) = false → a ≠ b := fun {a b} h q => by
        rw [q, beq_self_eq_true] at h
        cases h
      have ix : ∀ {a b : Str} {i j : Nat}, X.N[i]? = some a → X.N[j]? = some b → a ≠ b → i ≠ j := fun {a b i j} e1 e2 hne q => by
        subst q
        rw [e1] at e2
        cases e2
        exact hne rfl
      have st : ∀ {e : Expr}, plainE e = true → noStar e = true := fun {e} h => by cases e <;> first | rfl | cases h
      have pn : PE X c (rdN X.K H0 (pX E') (evP C gv ec).v) := by
        cases n with
        | zero => unfold ckV at h13; cases h13
        | succ n => exact ck_fresh (H0 := H0) (ck_ok n) g h10 h13
      rcases Bool.or_eq_true_iff.mp hh with hh | hh
      · simp only [Bool.and_eq_true, Bool.not_eq_true', beq_iff_eq] at hh
        obtain ⟨h1, h2, h2', h3, h4, h4', h5, h5', h5'', h8, h9⟩ := hh
        obtain ⟨k1, k2⟩ := locB_is g h1
        obtain ⟨k3, k4⟩ := locB_is g h2
        obtain ⟨k5, k6⟩ := locB_is g h2'
        exact psEq (fun v => by unfold exP; rfl) (sParQ (pos := p) s0 g.calm hN k1 k3 k5 (ix k1 k3 (ne h5)) (ix k1 k5 (ne h5')) (ix k3 k5 (ne h5'')) k2 k4 k6 (k.v g _ _ h11) (k.v g _ _ h12) pn h6 h7 h7'
          (sw3 (by rw [g.sc]; exact h3) k2 k4 k6 (beq_iff_eq.mpr h4) (beq_iff_eq.mpr h4') (ne h5) (ne h5') (ne h5'') (st h6) (st h7) (st h7') h8 h9))
      · simp only [Bool.and_eq_true] at hh
        obtain ⟨h1, h2, h2', h3⟩ := hh
        obtain ⟨k1, k2, k3⟩ := nmB_is g h1
        obtain ⟨k4, k5, k6⟩ := nmB_is g h2
        obtain ⟨k7, k8, k9⟩ := nmB_is g h2'
        exact psEq (fun v => by unfold exP; rfl) (sParQ2 (pos := p) s0 g.calm (pg_name hN k1 k2 k3) (pg_name hN k4 k5 k6) (pg_name hN k7 k8 k9) (k.v g _ _ h11) (k.v g _ _ h12) pn h6 h7 h7' (swN_cell (by rw [g.sc]; exact h3)))
    · cases h
  | setI i ix e =>
    unfold ckS at h
    dsimp only at h
    split at h
    · rename_i y o z p w pp
      simp only [Bool.and_eq_true] at h
      obtain ⟨h1, h2, h3, h4⟩ := h
      obtain ⟨k1, k2, k3, k4⟩ := varB_is g h1
      have z := sSetI (o := o) (p := p) (pos := pp) s0 k1 k2 k3 k4 (k.v g _ _ h4) (k.v g _ _ h2) h3
      exact psEq (fun v => by unfold exP; rfl) z
    · cases h
  | app i e =>
    unfold ckS at h
    dsimp only at h
    split at h
    · rename_i y p1 m p2 w p3 pp
      simp only [Bool.and_eq_true, beq_iff_eq] at h
      obtain ⟨h1, rfl, h3, h4, h5⟩ := h
      obtain ⟨k1, k2, k3, k4⟩ := varB_is g h1
      have z := sApp (p1 := p1) (p2 := p2) (p3 := p3) (pos := pp) s0 k1 k2 k3 k4 (k.v g _ _ h5) h3 (beq_iff_eq.mpr h4)
      exact psEq (fun v => by unfold exP; rfl) z
    · cases h
  | ret e =>
    unfold ckS at h
    dsimp only at h
    split at h
    · rename_i y p
      have z := sRet (pos := p) s0 (k.v g _ _ h)
      exact psEq (fun v => by unfold exP; rfl) z
    · cases h
  | retN =>
    unfold ckS at h
    dsimp only at h
    split at h
    · exact psEq (fun v => by unfold exP; rfl) sRetN
    · cases h
  | ite t a b =>
    unfold ckS at h
    cases x <;> first | (cases h; done) | skip
    simp only [Bool.and_eq_true] at h
    have z := sIf (pos := by assumption) s0 (k.t g _ _ h.1) (c.ss g s0 po _ _ h.2.1) (c.ss g s0 po _ _ h.2.2)
    exact psEq (fun v => by unfold exP; rfl) z
  | for_ t it b =>
    unfold ckS at h
    dsimp only at h
    split at h
    · rename_i tg it' b' p
      simp only [Bool.and_eq_true] at h
      obtain ⟨h1, h2, h3, h4⟩ := h
      have z := sFor (pos := p) s0 po g.calm (k.i g _ _ _ h1) ((ckTg_ok s0 g n).1 _ _ h2).1 (c.ss g s0 po _ _ h3) h4
      exact psEq (fun v => by unfold exP; rfl) z
    · cases h
  | while_ t b =>
    unfold ckS at h
    dsimp only at h
    split at h
    · rename_i c' b' p
      simp only [Bool.and_eq_true] at h
      have z := sWhile (pos := p) s0 po (k.t g _ _ h.1) (c.ss g s0 po _ _ h.2)
      exact psEq (fun v => by unfold exP; rfl) z
    · cases h
  | brk =>
    unfold ckS at h
    cases x <;> first | (cases h; done) | skip
    exact psEq (fun v => by unfold exP; rfl) sBrk
  | cont =>
    unfold ckS at h
    cases x <;> first | (cases h; done) | skip
    exact psEq (fun v => by unfold exP; rfl) sCont
  | pass =>
    unfold ckS at h
    cases x <;> first | (cases h; done) | skip
    exact psEq (fun v => by unfold exP; rfl) sPass
  | raise_ a b d =>
    exact psEq (fun v => by unfold exP; rfl) sBad
def isDem : S → Bool
  | .dem _ => true
  | _ => false
theorem ss_step {n : Nat} (c : Cs n C gv S0 ρ0 H0 st0) {X : Cx} {G : Cg} {E' : XK} (g : Gd X G C gv E') (s0 : Sta X.K S0 ρ0 H0 st0) (po : PassesOwn (model X.prog X.w) X.A X.env X.xe) (ss : List S) (xs : List Stmt) (h : ckSs (n + 1) G ss xs = true) : PSs X xs (rdS X.K S0 ρ0 H0 (pX E') (exPs C gv ss)) := by
  cases ss with
  | nil =>
    unfold ckSs at h
    cases xs with
    | nil =>
      have e1 : exPs C gv [] = fun e => ret (.nx e) := by
        funext v
        conv => lhs; unfold exPs
      rw [e1]
      exact sNil
    | cons _ _ => cases h
  | cons s r =>
    have e1 : exPs C gv (s :: r) = sqM (exP C gv s) (exPs C gv r) := by
      funext v
      conv => lhs; unfold exPs
      rfl
    rw [e1]
    cases hd : isDem s with
    | true =>
      cases s <;> first | (cases hd; done) | skip
      unfold ckSs at h
      have e2 : ∀ i, exP C gv (.dem i) = demM i := fun i => by
        funext v
        unfold exP demM
        rfl
      rw [e2]
      exact sDem s0 (c.ss g s0 po _ _ h)
    | false =>
      have h' : ∃ x ys, xs = x :: ys ∧ ckS n G s x = true ∧ ckSs n G r ys = true := by
        unfold ckSs at h
        cases s <;> first | (cases hd; done) | skip
        all_goals
          cases xs with
          | nil => cases h
          | cons x ys =>
            simp only [Bool.and_eq_true] at h
            exact ⟨x, ys, rfl, h.1, h.2⟩
      obtain ⟨x, ys, rfl, h1, h2⟩ := h'
      exact sCons (c.s g s0 po _ _ h1) (c.ss g s0 po _ _ h2)
theorem cs_ok : ∀ n, Cs n C gv S0 ρ0 H0 st0
  | 0 => ⟨fun _ _ _ s x h => (by unfold ckS at h; cases h), fun _ _ _ s x h => (by unfold ckSs at h; cases h)⟩
  | n + 1 => ⟨s_step (cs_ok n), ss_step (cs_ok n)⟩
end Zd
end
section
set_option Elab.async false
set_option linter.all false
set_option maxRecDepth 100000
set_option maxHeartbeats 4000000
/-! Zd18: defs. -/
namespace Zd
open PySem PySem.Spec L2
open PyProof.Rows hiding St

section
variable {P : Program} {w : World} {K : PySem.W.Frag} {mg : Str → Option Value} {base : Heap}
/-- a def by its body -/
theorem fnG_of {k : Nat} {f : Addr} {nm qu : Str} {pars : Arguments} {bdy : List Stmt} {sc : Scope} {dv kv dc pmv code ctv ocv : Value} {anv odv : Option Addr} {slots : Array (Option Value)} {N ps : List Str} {sp : Sp}
    (look : K.lookup f = some ⟨ocv, odv, .func (PySem.W.fnOf nm qu pars bdy sc dv kv dc pmv anv code ctv), slots⟩) (isCode : PySem.W.codeIn K code qu = true) (fs : FnScope N ps sc) (count : ∀ vs H Q E, sp vs H Q E → vs.length = ps.length)
    (walk : ∀ (A : Around) (l : List Env) (s : Shared) (H : Hp) (vs : List V) (Q : VK) (E : XK), Room k (A.deeper (envOfC qu sc s.heap.objs.size f code)) → A.guards = some [] → sp vs H Q E →
      ∃ t, PSs (cxOf (CX P w) P w K mg base N qu sc f code A l s H E) bdy t ∧ t { nx := fun _ H' => Q .non H', rt := Q } (start N vs) H) :
    FnG P w K mg base (k + 1) f (PySem.W.fnOf nm qu pars bdy sc dv kv dc pmv anv code ctv) ps sp where
  len := count
  run := fun A l s H args us vs Q E room quiet here bound rel promise => by
    have inK : K.In s.heap := here.mod.kin.keeps fun b o e => (here.bs b o e).1
    have nolim : s.heap.NoLimit := here.mod.nolimit.keeps fun b o e => (here.bs b o e).1
    have kinds : ∀ y ∈ ps.zip us, sc.names.lookup y.1 = some .local ∨ (sc.names.lookup y.1 = some .cell ∧ ((cellsFrom (s.heap.objs.size + 1) sc.names []).lookup y.1).isSome = true) := by
      rintro ⟨n, u⟩ hy
      have hn : n ∈ ps := (List.of_mem_zip hy).1
      exact (fs.par n hn).elim .inl fun q => .inr ⟨q, PySem.W.cellsFrom_some _ _ _ (.inl q)⟩
    refine codeAny_call_function room.depth (inK _ _ look) rfl fs.co fs.gen rfl (PySem.W.codeRec_of inK isCode) (bound _ _ _ _ ?_)
    refine wpAny_newFunctionEnv_cells fs.kind kinds fun env he s1 begun => ?_
    subst he
    obtain ⟨t, good, want⟩ := walk A l s H vs Q E (room.deeper _) quiet promise
    have first : Inv (cxOf (CX P w) P w K mg base N qu sc f code A l s H E) [] (start N vs) H s1 := inv_start fs room.hd here (count _ _ _ _ promise) rel begun
    refine ⟨nolim.keeps begun.toInCall.keep, codeAny_func (wpAny_mono (good.run [] s1 (start N vs) H _ first want) (fun flow s2 ends => ?_) fun _ _ out => out)⟩
    have done : ∀ {σ2 : St} {H2 : Hp} {v : V} {u : Value}, Inv (cxOf (CX P w) P w K mg base N qu sc f code A l s H E) [] σ2 H2 s2 → RelV v u → Q v H2 → CE l P w H s Q u s2 := fun J rv q => ⟨_, _, J.os, J.bare, J.base, J.hok, rv, q⟩
    match flow, ends with
    | .ret _, ⟨_, _, _, J, rv, q⟩ => exact done J rv q
    | .next, ⟨_, _, J, q⟩ => exact done (v := V.non) (u := Value.none) J rfl q
    | .brk, ⟨_, _, _, q⟩ => exact q.elim
    | .cont, ⟨_, _, _, q⟩ => exact q.elim

/-! ### the def's entry and end -/
theorem re_start {S : AS} {ρ : List Addr} {H : Hp} {vs : List V} {ws : List W} {N : List Str} (r : Paired (Rx K S ρ H) vs ws) (hl : vs.length ≤ N.length) : Re K H S ρ H (start N vs) (ws.map some ++ List.replicate (N.length - ws.length) none) := by
  have hw : vs.length = ws.length := Paired.length r
  have at_ : ∀ (i : Nat) (w : W), (ws.map some ++ List.replicate (N.length - ws.length) none)[i]? = some (some w) → ws[i]? = some w := fun i w h => by
    by_cases hi : i < ws.length
    · rw [List.getElem?_append_left (by simpa using hi), List.getElem?_map] at h
      cases e : ws[i]? with
      | none => rw [e] at h; cases h
      | some u => rw [e] at h; cases h; rfl
    · rw [List.getElem?_append_right (by simpa using hi), List.getElem?_replicate] at h
      split at h <;> cases h
  have getR : ∀ {vs : List V} {ws : List W} {i : Nat} {w : W}, Paired (Rx K S ρ H) vs ws → ws[i]? = some w → ∃ v, vs[i]? = some v ∧ Rx K S ρ H v w := fun {vs ws i w} r => by
    induction r generalizing i with
    | nil => intro h; simp at h
    | cons a t ih =>
      intro h
      cases i with
      | zero => simp at h; subst h; exact ⟨_, rfl, a⟩
      | succ i => obtain ⟨v, h1, h2⟩ := ih (by simpa using h); exact ⟨v, by simpa using h1, h2⟩
  refine ⟨?_, fun i w h => ?_, fun i j a ps qs _ h1 _ _ _ => ?_⟩
  · unfold L2.start
    rw [List.length_append, List.length_append, List.length_map, List.length_map, List.length_replicate, List.length_replicate]
    omega
  · obtain ⟨v, h1, h2⟩ := getR r (at_ i w h)
    refine ⟨v, ?_, h2.rw⟩
    unfold L2.start
    have hi := (List.getElem?_eq_some_iff.mp h1).1
    rw [List.getElem?_append_left (by simpa using hi), List.getElem?_map, h1]
    rfl
  · obtain ⟨v, _, h2⟩ := getR r (at_ i _ h1)
    exact h2
/-- what the body gives is what the def gives -/
def endM (n0 : Nat) (r : Out Fl) : Out W := match r with
  | .ok (.rt w) st' => finW n0 w st'
  | .ok (.nx _) st' => finW n0 (.d .none) st'
  | .exc x st' => .exc x (st'.take n0)
  | _ => .bad
theorem end_of {S : AS} {ρ : List Addr} {H : Hp} {st : Store} {Q : VK} {E : XK} {r : Out Fl} (hs : Sta K S ρ H st) (h : Wp K S ρ H (pX E) (fun w _ S' ρ' H' => ∀ v, Rx K S' ρ' H' v w → Q v H') (endM st.length r)) :
    Wq K S ρ H S ρ H (pX E) (flQ K H { nx := fun _ H' => Q .non H', rt := Q }) r := by
  cases r with
  | bad => exact h
  | exc x st' =>
    intro S' ρ' H' x1 _ s1
    obtain ⟨x2, s2⟩ := drop_boxes x1 hs s1
    exact h S' ρ H' x2 s2
  | ok fl st' =>
    intro S' ρ' H' x1 _ s1
    obtain ⟨x2, s2⟩ := drop_boxes x1 hs s1
    cases fl with
    | nx e' => exact fun σ _ => h S' ρ H' x2 s2 .non .non
    | bk e' => exact False.elim h
    | ct e' => exact False.elim h
    | rt w =>
      intro v rv
      cases w with
      | d p => exact h S' ρ H' x2 s2 v rv
      | box n => exact h S' ρ' H' x1 s1 v rv
      | rd ps => exact False.elim h
      | own ps =>
        obtain ⟨a, vs, rfl, e3, e4, e5, e6, e7⟩ := rv
        have gr : Grow K S' H' (fun b => S' b ∧ b ≠ a) H' := ⟨fun _ h => .inl h.1, fun _ _ _ q => q, s1.sl⟩
        have x3 : Ext K S ρ H (fun b => S' b ∧ b ≠ a) ρ' H' := ⟨x1.rho, fun b h => ⟨x1.su b h, fun z => by
          obtain ⟨xs, q⟩ := hs.sl b h
          rw [z, e5] at q; cases q⟩, fun b h => x1.up b h.1, x1.keep, x1.th⟩
        have s3 : Sta K (fun b => S' b ∧ b ≠ a) ρ' H' st' := ⟨fun b h => s1.sl b h.1, fun b h => ⟨s1.rs b h, fun z => e4 (by rw [← z]; exact h)⟩, s1.nd, s1.len, fun n b qs h1 h2 => by
          obtain ⟨ys, q, ry⟩ := s1.bx n b qs h1 h2
          exact ⟨ys, q, Rps.grow gr ry⟩⟩
        obtain ⟨x4, s4⟩ := drop_boxes x3 hs s3
        exact h _ ρ H' x4 s4 _ (Rp.lst (fun z => z.2 rfl) e6 (Rps.grow gr e7))
theorem callD_is {tb : Str → Option Df} {gv : Str → Option PyData} {k : Nat} {f : Str} {ws : List W} {d : Df} (h : tb f = some d) :
    callD tb gv (k + 1) f ws = want (decide (ws.length = d.ps.length) && !ws.any isOwn) fun st => endM st.length (exPs (callD tb gv k) gv d.body (ws.map some ++ List.replicate (d.N.length - ws.length) none) st) := by
  unfold callD
  rw [h]
  dsimp only
  congr 1
theorem callD_arg {tb : Str → Option Df} {gv : Str → Option PyData} {f : Str} {d : Df} (h : tb f = some d) : ∀ (k : Nat) (ws : List W) (st : Store), callD tb gv k f ws st ≠ .bad → ws.length = d.ps.length ∧ ws.any isOwn = false
  | 0, ws, st, n => absurd (by unfold callD; rfl) n
  | k + 1, ws, st, n => by
    rw [callD_is h] at n
    cases c : (decide (ws.length = d.ps.length) && !ws.any isOwn) with
    | false => rw [c] at n; exact absurd rfl n
    | true => simpa using c
/-- the module, as the look knows it -/
structure Md0 (K : PySem.W.Frag) (mg : Str → Option Value) (bf : Bf → Bool) (gl : List Str) (gv : Str → Option PyData) : Prop where
  blt : ∀ f, bf f = true → (f ≠ .gcd ∧ mg f.nm = none) ∨ (f = .gcd ∧ mg f.nm = some f.val)
  oth : ∀ x : String, x ∈ ["isinstance", "range", "enumerate", "zip", "int", "bool", "str", "list", "tuple"] → mg x = none
  glob : ∀ x, gl.contains x = true → ∃ p v u, gv x = some p ∧ mg x = some u ∧ RelV v u ∧ ∀ S H, Rp K S H v p
/-- a callee, at a level -/
def FnAt (P : Program) (w : World) (K : PySem.W.Frag) (mg : Str → Option Value) (base : Heap) (tb : Str → Option Df) (gv : Str → Option PyData) (kw : Str → List (List Str × List Nat)) (k : Nat) (x : Str) : Prop :=
  ∃ (d : Df) (fa : Addr) (fd : FuncData), tb x = some d ∧ mg x = some (.ref fa) ∧ PySem.W.keepIn K (.ref fa) = true ∧ Binds K fd d.ps [] ∧ KwB K fd d.ps (kw x) ∧ (∃ oc od sl, K.lookup fa = some ⟨oc, od, .func fd, sl⟩) ∧ FnG P w K mg base k fa fd d.ps (spD K d.ps.length (callD tb gv k x))
theorem sp_len {K : PySem.W.Frag} {F : List W → M W} {n : Nat} {ps : List Str} (h : ps.length = n) : ∀ vs H Q E, spD K n F vs H Q E → vs.length = ps.length := fun _ _ _ _ z => by rw [h]; exact z.1
/-- at level 0 nothing is promised -/
theorem fnAt_zero {fa : Addr} {fd : FuncData} {tb : Str → Option Df} {gv : Str → Option PyData} {x : Str} {n : Nat} {ps : List Str} (hn : ps.length = n) : FnG P w K mg base 0 fa fd ps (spD K n (callD tb gv 0 x)) where
  len := sp_len hn
  run := fun A l s H args us vs Q E _ _ _ _ _ h => by
    obtain ⟨_, S, ρ, st, ws, _, _, z⟩ := h
    unfold callD at z
    exact False.elim z
theorem def_walk {tb : Str → Option Df} {gv : Str → Option PyData} {k fuel : Nat} {x : Str} {d : Df} {f : Addr} {nm qu : Str} {pars : Arguments} {bdy : List Stmt} {sc : Scope} {dv kv dc pmv code ctv ocv : Value} {anv odv : Option Addr} {slots : Array (Option Value)} {bf : Bf → Bool} {gl defs : List Str} {kw : Str → List (List Str × List Nat)}
    (look : K.lookup f = some ⟨ocv, odv, .func (PySem.W.fnOf nm qu pars bdy sc dv kv dc pmv anv code ctv), slots⟩) (isCode : PySem.W.codeIn K code qu = true) (fs : FnScope d.N d.ps sc) (m : Md0 K mg bf gl gv) (nb : base.NoDigits) (hx : tb x = some d)
    (below : ∀ y, defs.contains y = true → FnAt P w K mg base tb gv kw k y)
    (ck : ckSs fuel ⟨d.N, sc, fun _ => true, defs, gl, bf, kw⟩ d.body bdy = true) :
    FnG P w K mg base (k + 1) f (PySem.W.fnOf nm qu pars bdy sc dv kv dc pmv anv code ctv) d.ps (spD K d.ps.length (callD tb gv (k + 1) x)) := by
  refine fnG_of look isCode fs (sp_len rfl) fun A l s H vs Q E room quiet promise => ?_
  obtain ⟨hl, S, ρ, st, ws, hs, rs, h⟩ := promise
  have g : Gd (cxOf (CX P w) P w K mg base d.N qu sc f code A l s H E) ⟨d.N, sc, fun _ => true, defs, gl, bf, kw⟩ (callD tb gv k) gv E := {
    N := rfl
    nd := fs.nd
    sc := rfl
    fn := rfl
    calm := rfl
    gd := quiet
    un := by have := room.un; show Around.units (A.deeper _) + 200 < cLine; omega
    nb := nb
    pass := passes_call (X := cxOf (CX P w) P w K mg base d.N qu sc f code A l s H E) (takes_of rfl rfl rfl rfl) fun _ _ _ _ h => h
    blt := m.blt
    oth := m.oth
    glob := m.glob
    def_ := fun y hy => by
      obtain ⟨d', fa, fd, e1, e2, e3, e4, e4', _, e5⟩ := below y hy
      exact ⟨d'.ps.length, ⟨⟨k, fa, fd, d'.ps, e2, e3, e4, e4', room, e5⟩, callD_arg e1 k⟩⟩ }
  refine ⟨rdS K S ρ H (pX E) (exPs (callD tb gv k) gv d.body), (cs_ok fuel).ss g hs (passes_of rfl) _ _ ck, S, ρ, st, _, .refl, hs, re_start rs ?_, ?_⟩
  · have := congrArg List.length fs.pre
    rw [List.length_take] at this
    omega
  · rw [callD_is hx] at h
    exact end_of hs (Wp.want h).2
end
end Zd
end
section
set_option Elab.async false
set_option linter.all false
set_option maxRecDepth 100000
set_option maxHeartbeats 4000000
/-! Zd19: all defs of a module; a law's end. -/
namespace Zd
open PySem PySem.Spec L2
open PyProof.Rows hiding St

section
variable {P : Program} {w : World} {K : PySem.W.Frag} {mg : Str → Option Value} {base : Heap} {tb : Str → Option Df} {gv : Str → Option PyData}
/-- what of the text a def must have -/
def DefZ (K : PySem.W.Frag) (mg : Str → Option Value) (tb : Str → Option Df) (bf : Bf → Bool) (gl defs : List Str) (kw : Str → List (List Str × List Nat)) (x : Str) : Prop :=
  ∃ (d : Df) (D : He.DefD) (fd : FuncData) (fuel : Nat), tb x = some d ∧ mg x = some (.ref (He.fAd K D.at_)) ∧ FunD K D.name D.qual D.params D.body D.scope [] [] (He.fAd K D.at_) fd ∧ Binds K fd d.ps [] ∧ KwB K fd d.ps (kw x) ∧ FnScope d.N d.ps D.scope ∧
    ckSs fuel ⟨d.N, D.scope, fun _ => true, defs, gl, bf, kw⟩ d.body D.body = true
theorem all_defs {bf : Bf → Bool} {gl defs : List Str} {kw : Str → List (List Str × List Nat)} (m : Md0 K mg bf gl gv) (nb : base.NoDigits) (h : ∀ x, defs.contains x = true → DefZ K mg tb bf gl defs kw x) : ∀ k x, defs.contains x = true → FnAt P w K mg base tb gv kw k x := by
  intro k
  induction k with
  | zero =>
    intro x hx
    obtain ⟨d, D, fd, fuel, e1, e2, e3, e4, e4', e5, e6⟩ := h x hx
    obtain ⟨oc, od, dv, kv, dc, pm, an, code, ct, sl, _, look, _⟩ := id e3.ex
    exact ⟨d, _, fd, e1, e2, e3.kp, e4, e4', ⟨oc, od, sl, look⟩, fnAt_zero rfl⟩
  | succ k ih =>
    intro x hx
    obtain ⟨d, D, fd, fuel, e1, e2, e3, e4, e4', e5, e6⟩ := h x hx
    obtain ⟨oc, od, dv, kv, dc, pm, an, code, ct, sl, rfl, look, isCode, _, _⟩ := e3.ex
    exact ⟨d, _, _, e1, e2, e3.kp, e4, e4', ⟨oc, od, sl, look⟩, def_walk look isCode e5 m nb e1 ih e6⟩
end

/-- a def called by keywords alone -/
theorem kwN {K : PySem.W.Frag} {x qual : Str} {params : Arguments} {body : List Stmt} {scope : Scope} {kws : List (Str × V)} {f : Addr} {fd : FuncData} {ps : List Str} {l : List (List Str × List Nat)} (F : FunD K x qual params body scope [] kws f fd)
    (h : ∀ (kV doc pm : Value) (an : Option Addr) (cdv ct : Value), ∀ q ∈ l, ∀ ws : List Value, ws.length = q.1.length → bindArgs (PySem.W.fnOf x qual params body scope .none kV doc pm an cdv ct) ⟨[], q.1.zip ws⟩ = pure (ps.zip (permV q.2 ws))) : KwB K fd ps l := by
  obtain ⟨oc, od, dV, kV, doc, pm, an, cdv, ct, osl, rfl, lk, hcd, hD, hK⟩ := F.ex
  rcases hD with ⟨_, rfl⟩ | ⟨e, _⟩
  · exact fun q hq s ws _ hl => .of_eq (h kV doc pm an cdv ct q hq ws hl)
  · exact absurd rfl e
theorem all_cons {α : Type} {p : α → Prop} {a : α} {l : List α} (h : p a) (t : ∀ x ∈ l, p x) : ∀ x ∈ a :: l, p x := fun x hx => (List.mem_cons.mp hx).elim (fun e => e ▸ h) (t x)
theorem all_nil {α : Type} {p : α → Prop} : ∀ x ∈ ([] : List α), p x := fun x hx => by cases hx
theorem all_app {α : Type} {p : α → Prop} {l m : List α} (h : ∀ x ∈ l, p x) (t : ∀ x ∈ m, p x) : ∀ x ∈ l ++ m, p x := fun x hx => (List.mem_append.mp hx).elim (h x) (t x)
/-- the law's def, from all defs -/
theorem law_of_defs {P : Program} {w : World} {K : PySem.W.Frag} {mg : Str → Option Value} {tb : Str → Option Df} {gv : Str → Option PyData} {kw : Str → List (List Str × List Nat)} {k : Nat} {x y : Str} {fa : Addr} {h : Heap} (nh : h.NoDigits) (hf : ∀ base, base.NoDigits → FnAt P w K mg base tb gv kw k x) (hm : mg x = some (.ref fa)) {b : List S} {N : List Str} (hx : tb x = some ⟨[y], N, b⟩) :
    ∃ fd, (∀ (s : Shared) (u : Value), K.In s.heap → BindsTo s fd ⟨[u], []⟩ [(y, u)]) ∧ ∀ base, base.NoDigits → FnG P w K mg base k fa fd [y] (spD K 1 (callD tb gv k x)) := by
  have one : ∀ base, base.NoDigits → ∃ fd, Binds K fd [y] [] ∧ (∃ oc od sl, K.lookup fa = some ⟨oc, od, .func fd, sl⟩) ∧ FnG P w K mg base k fa fd [y] (spD K 1 (callD tb gv k x)) := fun base nb => by
    obtain ⟨d, fa', fd, e1, e2, _, e4, _, e6, e5⟩ := hf base nb
    rw [e2] at hm
    cases hm
    rw [hx] at e1
    cases e1
    exact ⟨fd, e4, e6, e5⟩
  obtain ⟨fd, b, ⟨oc, od, sl, look⟩, _⟩ := one h nh
  refine ⟨fd, fun s u X => b s [u] X rfl, fun base nb => ?_⟩
  obtain ⟨fd', _, ⟨oc', od', sl', look'⟩, F⟩ := one base nb
  rw [look] at look'
  cases look'
  exact F

/-! ### the law -/
theorem ints_rel : ∀ {us : List Value} {ns : List Int}, IntsAre us ns → Vals (ns.map V.int) us
  | _, _, .nil => .nil
  | _, _, .cons n t h => .cons ⟨t, rfl⟩ (ints_rel h)
/-- the law's def at the head's state -/
theorem law_end {P : Program} {w : World} {K : PySem.W.Frag} {mg mb : Str → Option Value} {k : Nat} {fa sc : Addr} {fd : FuncData} {x : Str} {sp : Sp} {s : Shared} {us : List Value} {ns : List Int}
    (inK : K.In s.heap) (main : s.heap.Ns mainGlobals mg) (blt : s.heap.Ns builtinsNs mb) (boot : ∀ y : Str, y ≠ "__name__" → mb y = bootBuiltins y) (lim : s.heap.NoLimit) (dig : s.heap.NoDigits) (noGens : s.gens = #[])
    (script : s.heap.get? sc = some { cls := .type "list", data := .seq us.toArray }) (nums : IntsAre us ns) (few : ns.length ≤ sizeLine) (room : Room k callerA)
    (F : ∀ base : Heap, K.In base → base.Ns mainGlobals mg → base.NoDigits → FnG P w K mg base k fa fd [x] sp) (bind : ∀ (t : Shared) (u : Value), K.In t.heap → BindsTo t fd ⟨[u], []⟩ [(x, u)])
    (promise : ∀ H : Hp, ((Rd H sc (.lst (ns.map V.int)) ∨ KL K sc (ns.map V.int))) → sp [.ref sc] H (fun v _ => v = .bl true) fun _ _ _ => False) :
    codeAny (model P w) callerA (.call (.ref fa) ⟨[.ref sc], []⟩) (fun r s' => r = .ok (.ret (.bool true)) ∧ OldK s.heap s'.heap ∧ s'.os = s.os ∧ AllBare s'.gens) s := by
  have rel := ints_rel nums
  have len := nums.length
  have go : ∀ H : Hp, (∀ b, H b = none ∨ (b = sc ∧ ∃ o xs, H b = some (.frz o (.lst xs)))) → (Rd H sc (.lst (ns.map V.int)) ∨ KL K sc (ns.map V.int)) → HOk P w H s.heap → (H sc ≠ none → K.lookup sc = none) →
      codeAny (model P w) callerA (.call (.ref fa) ⟨[.ref sc], []⟩) (fun r s' => r = .ok (.ret (.bool true)) ∧ OldK s.heap s'.heap ∧ s'.os = s.os ∧ AllBare s'.gens) s := by
    intro H only got held out
    have isDict : ∀ {b : Addr} {o : Obj} {es : Array DictEntry} {ep : Nat}, s.heap.get? b = some o → o.data = .dict es ep → H b = none := fun {b o es ep} e d => by
      rcases only b with z | ⟨z, _⟩
      · exact z
      · subst z
        rw [script] at e
        cases e
        have d' : Data.seq us.toArray _ = Data.dict es ep := d
        cases d'
    have names : ∀ {b : Addr} {m : Str → Option Value}, s.heap.Ns b m → (hidT s.heap H).Ns b m := fun {b m} ⟨o, es, ep, e, d, r⟩ => ⟨o, es, ep, hidT_get e (isDict e d), d, r⟩
    have inB : K.In (hidT s.heap H) := fun b o e => hidT_get (inK b o e) (by
      rcases only b with z | ⟨z, o', xs, q⟩
      · exact z
      · subst z
        rw [out (by rw [q]; simp)] at e
        cases e)
    have here : Env0 P w K mg (hidT s.heap H) callerA [] s H := {
      frames := rfl
      mod := ⟨inB, names main, ⟨mb, names blt, boot⟩, let ⟨mc, h1, h2⟩ := lim; ⟨mc, names h1, h2⟩⟩
      bs := fun b o e => of_hidT e
      bsz := Nat.le_of_eq (hidT_size _ _)
      funs := trivial
      frf := fun b hb => by cases hb
      hok := held
      bare := .of_eq noGens }
    refine codeAny_mono ((F _ inB (names main) (let ⟨mc, h1, h2⟩ := dig; ⟨mc, names h1, h2⟩)).run callerA [] s H ⟨[.ref sc], []⟩ [.ref sc] [.ref sc] _ _ room rfl here (bind s (.ref sc) inK) (.cons rfl .nil) (promise H got)) fun r s' fin => ?_
    match r, fin with
    | .error x, fin =>
      obtain ⟨_, _, _, _, _, _, _, _, _, _, _, _, z⟩ := fin
      exact z.elim
    | .ok .next, fin => exact fin.elim
    | .ok .brk, fin => exact fin.elim
    | .ok .cont, fin => exact fin.elim
    | .ok (.ret u), ⟨v, H', os, bare, un, hok', r', q⟩ =>
      have q' : v = .bl true := q
      subst q'
      obtain rfl : u = Value.bool true := r'
      refine ⟨rfl, OldK.of_keep fun b o e => ?_, os, bare⟩
      rcases only b with z | ⟨_, o', xs, z⟩
      · exact un.keep b o e z (fun m => by cases m) (fun m => by cases m)
      · obtain ⟨e2, _⟩ := hok' b _ (un.frzs b o' _ z)
        obtain ⟨e1, _⟩ := held b _ z
        rw [e] at e1
        cases e1
        exact e2
  cases hk : K.lookup sc with
  | some o =>
    have e := inK sc o hk
    rw [script] at e
    cases e
    exact go (fun _ => none) (fun _ => .inl rfl) (.inr ⟨_, us.toArray, _, hk, rfl, rfl, rfl, by rw [List.size_toArray, len]; exact few, by simpa using rel⟩) (fun b u z => by have z' : (none : Option HO) = some u := z; cases z') fun z => absurd rfl z
  | none =>
    refine go (fun b => if b = sc then some (.frz { cls := .type "list", data := .seq us.toArray } (.lst (ns.map V.int))) else none) (fun b => ?_) (.inl (.inr ⟨{ cls := .type "list", data := .seq us.toArray }, if_pos rfl⟩)) (fun b u z => ?_) fun _ => hk
    · by_cases hb : b = sc
      · exact .inr ⟨hb, _, _, if_pos hb⟩
      · exact .inl (if_neg hb)
    · by_cases hb : b = sc
      · have z' := (if_pos hb).symm.trans z
        cases z'
        subst hb
        exact ⟨script, by rw [List.length_map]; exact few, us, _, rel, script⟩
      · have z' := (if_neg hb).symm.trans z
        cases z'
/-- what the law's call gives -/
theorem law_promise {K : PySem.W.Frag} {tb : Str → Option Df} {gv : Str → Option PyData} {k : Nat} {x : Str} {ns : List Int} {H : Hp} {sc : Addr} (got : Rd H sc (.lst (ns.map V.int)) ∨ KL K sc (ns.map V.int))
    (h : callD tb gv k x [.rd (ns.map .int)] [] = .ok (.d (.bool true)) []) : spD K 1 (callD tb gv k x) [.ref sc] H (fun v _ => v = .bl true) fun _ _ _ => False := by
  refine ⟨rfl, fun _ => False, [], [], [.rd (ns.map .int)], ⟨fun _ z => z.elim, fun _ z => (by cases z), List.nodup_nil, rfl, fun n a ps z => (by simp at z)⟩, .cons ⟨sc, ns.map V.int, rfl, ?_, rps_ints ns⟩ .nil, ?_⟩
  · rcases got with q | q
    · exact .inl ⟨id, q⟩
    · exact .inr q
  · rw [h]
    intro S' ρ' H' _ _ v r
    cases (show Rp K S' H' v (.bool true) from r)
    rfl
/-- a law: F gives the written part, the function object, the promise over every base -/
theorem walk_ofG {l : PySem.W.OpenLaw} {n k : Nat} {q : Program} {loose : List Str} {XP : (Str → Option Value) → Heap → Prop} {YP : World → Heap → Prop} {d : DefRec} {x : Str}
    (hn : l.most = some n) (hn2 : n ≤ sizeLine) (hdf : d.params.defaults = []) (room : Room k callerA)
    (F : ∀ (w : World) (mg : Str → Option Value) (fa : Addr) (h : Heap), YP w h → h.NoDigits → h.Ns mainGlobals mg → mg d.name = some (.ref fa) →
      ∃ (K : PySem.W.Frag) (fd : FuncData) (sp : Sp), K.In h ∧ (∀ (s : Shared) (u : Value), K.In s.heap → BindsTo s fd ⟨[u], []⟩ [(x, u)]) ∧
        (∀ (H : Hp) (sc : Addr) (ns : List Int), ns.length ≤ n → (Rd H sc (.lst (ns.map V.int)) ∨ KL K sc (ns.map V.int)) → sp [.ref sc] H (fun v _ => v = .bl true) fun _ _ _ => False) ∧
        ∀ base : Heap, K.In base → base.Ns mainGlobals mg → base.NoDigits → FnG l.prog w K mg base k fa fd [x] sp) :
    PySem.W.WalkO q loose XP YP l.row.toRowW d [] (fun f vs => PySem.call f vs) := by
  refine Att.attach_call hn hdf fun w s₀ s₁ mg mb fa o pm cd doc a vs ns G Y ho hd hcd hmg hobj hints hlen hg => ?_
  obtain ⟨K, fd, sp, inK, bind, promise, hF⟩ := F w mg fa _ Y G.T.nodigits G.T.g hmg
  exact law_end inK G.T.g G.T.b G.T.builtins G.T.nolimit G.T.nodigits hg hobj hints (Nat.le_trans hlen hn2) room hF bind fun H got => promise H a ns hlen got

/-! ### the head's facts -/
def nsZ (K : PySem.W.Frag) (x : Str) (o : Option Value) : Bool := decide (PySem.W.nsIn K mainGlobals x = some o)
def bltZ (K : PySem.W.Frag) (f : Bf) : Bool := match f with
  | .gcd => nsZ K f.nm (some f.val)
  | _ => nsZ K f.nm none
mutual
def isP (K : PySem.W.Frag) : Nat → PyData → Value → Bool
  | 0, _, _ => false
  | n + 1, p, u => match p with
    | .none => (match u with
      | .none => true
      | _ => false)
    | .bool b => (match u with
      | .bool c => b == c
      | _ => false)
    | .int i => (match u with
      | .int j _ => i == j
      | _ => false)
    | .str x => (match u with
      | .str y _ => x == y
      | _ => false)
    | .tuple ps => (match u with
      | .ref a => (match K.lookup a with
        | some ⟨.type c, _, .seq its _, _⟩ => (c == "tuple") && (decide (its.size ≤ sizeLine) && isPs K n ps its.toList)
        | _ => false)
      | _ => false)
    | _ => false
def isPs (K : PySem.W.Frag) : Nat → List PyData → List Value → Bool
  | 0, _, _ => false
  | n + 1, ps, us => match ps, us with
    | [], [] => true
    | p :: ps, u :: us => isP K n p u && isPs K n ps us
    | _, _ => false
end
theorem isP_ok {K : PySem.W.Frag} : ∀ n, (∀ p u, isP K n p u = true → ∃ v, RelV v u ∧ ∀ S H, Rp K S H v p) ∧ (∀ ps us, isPs K n ps us = true → ∃ vs, Vals vs us ∧ ∀ S H, Rps K S H vs ps)
  | 0 => ⟨fun _ _ h => (by unfold isP at h; cases h), fun _ _ h => (by unfold isPs at h; cases h)⟩
  | n + 1 => by
    obtain ⟨i1, i2⟩ := isP_ok (K := K) n
    refine ⟨fun p u h => ?_, fun ps us h => ?_⟩
    · unfold isP at h
      cases p with
      | none => cases u <;> first | (cases h; done) | exact ⟨.non, rfl, fun _ _ => .non⟩
      | bool b =>
        cases u <;> first | (cases h; done) | skip
        have e := eq_of_beq h
        subst e
        exact ⟨.bl _, rfl, fun _ _ => .bl _⟩
      | int b =>
        cases u <;> first | (cases h; done) | skip
        have e := eq_of_beq h
        subst e
        exact ⟨.int _, ⟨_, rfl⟩, fun _ _ => .int _⟩
      | str b =>
        cases u <;> first | (cases h; done) | skip
        have e := eq_of_beq h
        subst e
        exact ⟨.str _, ⟨_, rfl⟩, fun _ _ => .str _⟩
      | tuple ps =>
        cases u <;> first | (cases h; done) | skip
        rename_i a
        dsimp only at h
        split at h
        · rename_i c dd its m sl e
          simp only [Bool.and_eq_true, beq_iff_eq, decide_eq_true_eq] at h
          obtain ⟨rfl, h2, h3⟩ := h
          obtain ⟨vs, r1, r2⟩ := i2 _ _ h3
          exact ⟨.ref a, rfl, fun S H => .tup (.inr ⟨_, its, m, e, rfl, rfl, h2, r1⟩) (r2 S H)⟩
        · cases h
      | _ => cases h
    · unfold isPs at h
      cases ps with
      | nil =>
        cases us with
        | nil => exact ⟨[], .nil, fun _ _ => .nil⟩
        | cons u us => cases h
      | cons p ps =>
        cases us with
        | nil => cases h
        | cons u us =>
          simp only [Bool.and_eq_true] at h
          obtain ⟨v, r1, r2⟩ := i1 _ _ h.1
          obtain ⟨vs, r3, r4⟩ := i2 _ _ h.2
          exact ⟨v :: vs, .cons r1 r3, fun S H => .cons (r2 S H) (r4 S H)⟩
def gloZ (K : PySem.W.Frag) (x : Str) (p : PyData) : Bool := match PySem.W.nsIn K mainGlobals x with
  | some (some u) => isP K 40 p u
  | _ => false
/-- all of it: bs the built-ins, cs the constants -/
def factsZ (bs : List Bf) (cs : List (Str × PyData)) (ds : List Str) (K : PySem.W.Frag) : Bool :=
  bs.all (bltZ K) && ((["isinstance", "range", "enumerate", "zip", "int", "bool", "str", "list", "tuple"] : List String).all (fun x => nsZ K x none) && (cs.all (fun c => gloZ K c.1 c.2) && ds.all fun x => nsZ K x (some (.ref (He.ga K x)))))
def Bf.ix : Bf → Nat
  | .len => 0 | .abs => 1 | .int => 2 | .sum => 3 | .all => 4 | .tuple => 5 | .list => 6 | .repr => 7 | .max => 8 | .min => 9 | .gcd => 10 | .divmod => 11
theorem Bf.ix_inj {f g : Bf} (h : f.ix = g.ix) : f = g := by cases f <;> cases g <;> first | rfl | cases h
def inBf (bs : List Bf) (f : Bf) : Bool := bs.any fun g => g.ix == f.ix
theorem md_of {bs : List Bf} {cs : List (Str × PyData)} {ds : List Str} {K : PySem.W.Frag} {h : Heap} {mg : Str → Option Value} (X : K.In h) (G : h.Ns mainGlobals mg) (c : factsZ bs cs ds K = true) :
    Md0 K mg (inBf bs) (cs.map (·.1)) (fun x => cs.lookup x) ∧ ∀ x, x ∈ ds → mg x = some (.ref (He.ga K x)) := by
  unfold factsZ at c
  simp only [Bool.and_eq_true] at c
  obtain ⟨c1, c2, c3, c4⟩ := c
  refine ⟨⟨fun f hf => ?_, fun x hx => ?_, fun x hx => ?_⟩, fun x hx => PySem.W.mg_of X G (of_decide_eq_true (List.all_eq_true.mp c4 x hx))⟩
  · obtain ⟨g, hg, e⟩ := List.any_eq_true.mp hf
    have e' := Bf.ix_inj (eq_of_beq e)
    subst e'
    have k := List.all_eq_true.mp c1 g hg
    cases g <;> first
      | exact .inl ⟨fun z => (by cases z), PySem.W.mg_none_of X G (of_decide_eq_true k)⟩
      | exact .inr ⟨rfl, PySem.W.mg_of X G (of_decide_eq_true k)⟩
  · exact PySem.W.mg_none_of X G (of_decide_eq_true (List.all_eq_true.mp c2 x hx))
  · have hm := List.contains_iff_mem.mp hx
    have key : ∀ l : List (Str × PyData), x ∈ l.map (·.1) → ∃ p, l.lookup x = some p ∧ (x, p) ∈ l := fun l => by
      induction l with
      | nil => intro h; simp at h
      | cons q r ih =>
        intro h
        obtain ⟨y, p⟩ := q
        by_cases z : x = y
        · subst z
          exact ⟨p, by simp [List.lookup], List.mem_cons_self⟩
        · have hb : (x == y) = false := beq_eq_false_iff_ne.mpr z
          rw [List.map_cons] at h
          rcases List.mem_cons.mp h with h | h
          · exact absurd h z
          · obtain ⟨p', h1, h2⟩ := ih h
            exact ⟨p', by simp only [List.lookup, hb]; exact h1, List.mem_cons_of_mem _ h2⟩
    obtain ⟨p, e1, e2⟩ := key cs hm
    have k := List.all_eq_true.mp c3 _ e2
    unfold gloZ at k
    cases q : PySem.W.nsIn K mainGlobals x with
    | none => rw [q] at k; cases k
    | some o =>
      rw [q] at k
      cases o with
      | none => cases k
      | some u =>
        obtain ⟨v, r1, r2⟩ := (isP_ok 40).1 _ _ k
        exact ⟨p, v, u, e1, PySem.W.mg_of X G q, r1, r2⟩
/-- the head's look: these facts, these defs -/
abbrev AlZ : Type := Bool × List He.FnW
def obsZ (bs : List Bf) (cs : List (Str × PyData)) (ds : List Str) (fn : List He.DefD) (K : PySem.W.Frag) : AlZ := (factsZ bs cs ds K && fn.all fun d => d.ok K, fn.map fun d => He.fnW K d.at_)
def valZ (fn : List He.DefD) : AlZ := (true, fn.map He.DefD.val)
def obsZG (n : Nat) (bs : List Bf) (cs : List (Str × PyData)) (ds : List Str) (fn : List He.DefD) (g : Addr → Option Obj) : AlZ := obsZ bs cs ds fn (He.frG g (He.asD g n))
def hookZ (n : Nat) (bs : List Bf) (cs : List (Str × PyData)) (ds : List Str) (fn : List He.DefD) : PySem.W.Hook where
  α := AlZ
  obs := fun s => obsZG n bs cs ds fn s.heap.get?
  val := fun _ => valZ fn
  says := fun _ h => ∃ K : PySem.W.Frag, K.In h ∧ obsZ bs cs ds fn K = valZ fn
  of := fun _ _ e => ⟨_, He.frG_in, e⟩
  keeps := fun _ _ _ ⟨K, hK, c⟩ k => ⟨K, PySem.W.Frag.In.keeps hK k, c⟩
theorem obsZG_eq {n : Nat} {bs : List Bf} {cs : List (Str × PyData)} {ds : List Str} {fn : List He.DefD} {g : Addr → Option Obj} {s : Shared} (h : ∀ a, g a = s.heap.get? a) : obsZG n bs cs ds fn g = (hookZ n bs cs ds fn).obs s := by
  have e : g = s.heap.get? := funext h
  rw [e]
  rfl
theorem saysZ {bs : List Bf} {cs : List (Str × PyData)} {ds : List Str} {fn : List He.DefD} {K : PySem.W.Frag} (c : obsZ bs cs ds fn K = valZ fn) :
    factsZ bs cs ds K = true ∧ ∀ d ∈ fn, ∃ fd, FunD K d.name d.qual d.params d.body d.scope (d.dvs K) (d.kws K) (He.fAd K d.at_) fd := by
  have c1 : (factsZ bs cs ds K && fn.all fun d => d.ok K) = true := congrArg (fun z : AlZ => z.1) c
  rw [Bool.and_eq_true] at c1
  refine ⟨c1.1, fun d hd => ?_⟩
  have e : fn.map (fun d => He.fnW K d.at_) = fn.map He.DefD.val := congrArg (fun z : AlZ => z.2) c
  obtain ⟨i, hi⟩ := List.getElem?_of_mem hd
  have e2 : (fn.map fun d => He.fnW K d.at_)[i]? = (fn.map He.DefD.val)[i]? := by rw [e]
  rw [List.getElem?_map, List.getElem?_map, hi] at e2
  exact He.DefD.funD (Option.some.inj e2) (List.all_eq_true.mp c1.2 d hd)
/-- one run, looked at four times -/
theorem map_four {α β γ δ ε : Type} {o : Option α} {f : α → β} {g : α → γ} {h : α → δ × ε} {a : β} {b : γ} {c : δ} {d : ε} (h1 : o.map f = some a) (h2 : o.map g = some b) (h3 : (o.map fun x => (h x).1) = some c) (h4 : (o.map fun x => (h x).2) = some d) : (o.map fun x => (f x, g x, h x)) = some (a, b, (c, d)) := by
  cases o with
  | none => cases h1
  | some x =>
    cases h1
    cases h2
    cases h3
    cases h4
    rfl
end Zd
end
section
set_option Elab.async false
set_option linter.all false
set_option maxRecDepth 100000
set_option maxHeartbeats 0
/-! K76A: the defs of the text as deep terms; printed by mk.py. -/
namespace K76
open PySem PySem.Spec PyProof.Rows L2 Zd
abbrev R : PySem.W.OpenRow := PySem.W.OpenLaw.row PySem.Challenge.rw_platelights_k76_whole_rounds_and_dark_af
def top (i : Nat) : Stmt := PySem.Challenge.pw_platelights_k76_whole_rounds_and_dark_af.main.body.getD i (.Pass ⟨0, 0, 0, 0⟩)
def defs0 : List Str := ["is_whole", "is_between", "are_wholes", "common_part", "lowest", "dot", "lowest_over", "is_fraction", "product_of", "is_like_light", "is_five", "is_light"]
def defs1 : List Str := ["is_kind", "check_light", "is_setting", "is_whole_turn", "back_setting", "double_of", "turn_rows", "reduced_table", "flipped", "rows_product", "led_row", "led_five"]
def defs2 : List Str := ["product_of_tables", "is_share", "is_single", "is_plate", "check_stack", "framed", "partial_table", "magnet_table", "single_table", "table_with", "table_along", "rounds_of"]
def defs3 : List Str := ["after_rounds", "dark_after", "_law_urn", "_law_pick", "_law_one", "_law_between", "_law_gcd", "_law_ratio", "_law_five", "_law_table", "_law_led", "_law_then"]
def defs4 : List Str := ["_law_unit", "_law_spun", "_law_parted", "_law_of_plate", "_law_of_stack", "_law_kind", "_law_setting", "_law_turned", "_law_turn", "_law_share", "_law_plate", "_law_stack"]
def defs5 : List Str := ["_law_lamp", "_law_bare", "_law_flip", "_law_opposite", "_law_of_kind", "_law_lamp_for", "_law_dim", "_law_right", "law"]
def defs : List Str := defs0 ++ defs1 ++ defs2 ++ defs3 ++ defs4 ++ defs5
def glN0 : List Str := ["DARK", "MOST_PLATES", "MOST_ROUNDS", "SHARES", "UNIT_ROWS"]
def glN : List Str := glN0
def bs : List Bf := [.abs, .all, .divmod, .gcd, .int, .len, .list, .max, .min, .repr, .sum, .tuple]
def c_DARK : PyData := (.tuple [(.int 0), (.int 0), (.int 0), (.int 0), (.int 1)])
def c_MOST_PLATES : PyData := (.int 8)
def c_MOST_ROUNDS : PyData := (.int 24)
def c_SHARES : PyData := (.tuple [(.str "grey"), (.str "dull")])
def c_UNIT_ROWS : PyData := (.tuple [(.tuple [(.int 1), (.int 0), (.int 0), (.int 0)]), (.tuple [(.int 0), (.int 1), (.int 0), (.int 0)]), (.tuple [(.int 0), (.int 0), (.int 1), (.int 0)]), (.tuple [(.int 0), (.int 0), (.int 0), (.int 1)])])
def cs : List (Str × PyData) := [("DARK", c_DARK), ("MOST_PLATES", c_MOST_PLATES), ("MOST_ROUNDS", c_MOST_ROUNDS), ("SHARES", c_SHARES), ("UNIT_ROWS", c_UNIT_ROWS)]
def b_is_whole : List S := [
  .ret (.and_ (.isi (.var 0) "int") (.not_ (.isi (.var 0) "bool")))]
def d_is_whole : Df := ⟨["value"], ["value"], b_is_whole⟩
def b_is_between : List S := [
  .ret (.and_ (.call "is_whole" [(.var 0)]) (.and_ (.cmp .LtE (.var 1) (.var 0)) (.cmp .LtE (.var 0) (.var 2))))]
def d_is_between : Df := ⟨["value", "low", "high"], ["value", "low", "high"], b_is_between⟩
def b_are_wholes : List S := [
  .ret (.and_ (.isi (.var 0) "tuple") (.and_ (.cmp .Eq (.blt .len [(.var 0)]) (.var 1)) (.cmp .Eq (.comp (.nm 2) (.var 0) [(.not_ (.call "is_whole" [(.var 2)]))] (.var 2) [2]) (.lst []))))]
def d_are_wholes : Df := ⟨["value", "many"], ["value", "many", "each"], b_are_wholes⟩
def b_common_part : List S := [
  .asg (.nm 1) (.cst (.int 0)),
  .for_ (.nm 2) (.var 0) [.asg (.nm 1) (.blt .gcd [(.var 1), (.var 2)])],
  .ret (.var 1)]
def d_common_part : Df := ⟨["numbers"], ["numbers", "found", "number"], b_common_part⟩
def b_lowest : List S := [
  .asg (.nm 1) (.call "common_part" [(.var 0)]),
  .ret (.blt .tuple [(.comp (.nm 2) (.var 0) [] (.bin .FloorDiv (.var 2) (.var 1)) [2])])]
def d_lowest : Df := ⟨["numbers"], ["numbers", "part", "number"], b_lowest⟩
def b_dot : List S := [
  .ret (.blt .sum [(.comp (.tp [(.nm 2), (.nm 3)]) (.zip (.var 0) (.var 1)) [] (.bin .Mult (.var 2) (.var 3)) [2, 3])])]
def d_dot : Df := ⟨["row", "other"], ["row", "other", "one", "two"], b_dot⟩
def b_lowest_over : List S := [
  .asg (.nm 2) (.ife (.cmp .Gt (.var 1) (.cst (.int 0))) (.cst (.int 1)) (.neg (.cst (.int 1)))),
  .ret (.call "lowest" [(.bin .Add (.comp (.nm 3) (.var 0) [] (.bin .Mult (.var 2) (.var 3)) [3]) (.lst [(.bin .Mult (.var 2) (.var 1))]))])]
def d_lowest_over : Df := ⟨["numbers", "below"], ["numbers", "below", "factor", "number"], b_lowest_over⟩
def b_is_fraction : List S := [
  .ret (.and_ (.call "are_wholes" [(.var 0), (.cst (.int 2))]) (.and_ (.cmp .Gt (.sub (.var 0) (.cst (.int 1))) (.cst (.int 0))) (.cmp .Eq (.call "common_part" [(.var 0)]) (.cst (.int 1)))))]
def d_is_fraction : Df := ⟨["value"], ["value"], b_is_fraction⟩
def b_product_of : List S := [
  .ret (.bin .Sub (.bin .Sub (.bin .Sub (.bin .Mult (.sub (.var 0) (.cst (.int 0))) (.sub (.var 1) (.cst (.int 0)))) (.bin .Mult (.sub (.var 0) (.cst (.int 1))) (.sub (.var 1) (.cst (.int 1))))) (.bin .Mult (.sub (.var 0) (.cst (.int 2))) (.sub (.var 1) (.cst (.int 2))))) (.bin .Mult (.sub (.var 0) (.cst (.int 3))) (.sub (.var 1) (.cst (.int 3)))))]
def d_product_of : Df := ⟨["row", "other"], ["row", "other"], b_product_of⟩
def b_is_like_light : List S := [
  .ret (.and_ (.cmp .GtE (.sub (.var 0) (.cst (.int 0))) (.cst (.int 0))) (.cmp .GtE (.call "product_of" [(.var 0), (.var 0)]) (.cst (.int 0))))]
def d_is_like_light : Df := ⟨["row"], ["row"], b_is_like_light⟩
def b_is_five : List S := [
  .ret (.and_ (.call "are_wholes" [(.var 0), (.cst (.int 5))]) (.and_ (.cmp .Gt (.sub (.var 0) (.cst (.int 4))) (.cst (.int 0))) (.cmp .Eq (.call "common_part" [(.var 0)]) (.cst (.int 1)))))]
def d_is_five : Df := ⟨["value"], ["value"], b_is_five⟩
def b_is_light : List S := [
  .ret (.and_ (.call "is_five" [(.var 0)]) (.call "is_like_light" [(.slice (.var 0) .no (.cst (.int 4)))]))]
def d_is_light : Df := ⟨["value"], ["value"], b_is_light⟩
def b_is_kind : List S := [
  .ite (.or_ (.not_ (.call "are_wholes" [(.var 0), (.cst (.int 4))])) (.or_ (.cmp .Lt (.sub (.var 0) (.cst (.int 3))) (.cst (.int 1))) (.cmp .NotEq (.call "common_part" [(.var 0)]) (.cst (.int 1))))) [.ret (.cst (.bool false))] [],
  .ret (.cmp .Eq (.bin .Add (.bin .Add (.bin .Mult (.sub (.var 0) (.cst (.int 0))) (.sub (.var 0) (.cst (.int 0)))) (.bin .Mult (.sub (.var 0) (.cst (.int 1))) (.sub (.var 0) (.cst (.int 1))))) (.bin .Mult (.sub (.var 0) (.cst (.int 2))) (.sub (.var 0) (.cst (.int 2))))) (.bin .Mult (.sub (.var 0) (.cst (.int 3))) (.sub (.var 0) (.cst (.int 3)))))]
def d_is_kind : Df := ⟨["value"], ["value"], b_is_kind⟩
def b_check_light : List S := [
  .ite (.not_ (.call "is_light" [(.var 0)])) [.raise_ "" "" .no] []]
def d_check_light : Df := ⟨["value"], ["value"], b_check_light⟩
def b_is_setting : List S := [
  .ret (.and_ (.call "are_wholes" [(.var 0), (.cst (.int 2))]) (.and_ (.cmp .Eq (.call "common_part" [(.var 0)]) (.cst (.int 1))) (.or_ (.cmp .Gt (.sub (.var 0) (.cst (.int 1))) (.cst (.int 0))) (.cmp .Eq (.var 0) (.tup [(.cst (.int 1)), (.cst (.int 0))])))))]
def d_is_setting : Df := ⟨["value"], ["value"], b_is_setting⟩
def b_is_whole_turn : List S := [
  .ite (.or_ (.not_ (.call "are_wholes" [(.var 0), (.cst (.int 4))])) (.cmp .NotEq (.call "common_part" [(.var 0)]) (.cst (.int 1)))) [.ret (.cst (.bool false))] [],
  .ret (.cmp .Gt (.sub (.comp (.nm 1) (.var 0) [(.cmp .NotEq (.var 1) (.cst (.int 0)))] (.var 1) [1]) (.cst (.int 0))) (.cst (.int 0)))]
def d_is_whole_turn : Df := ⟨["value"], ["value", "number"], b_is_whole_turn⟩
def b_back_setting : List S := [
  .ret (.ife (.cmp .Eq (.sub (.var 0) (.cst (.int 1))) (.cst (.int 0))) (.var 0) (.tup [(.neg (.sub (.var 0) (.cst (.int 0)))), (.sub (.var 0) (.cst (.int 1)))]))]
def d_back_setting : Df := ⟨["setting"], ["setting"], b_back_setting⟩
def b_double_of : List S := [
  .asg (.tp [(.nm 1), (.nm 2)]) (.var 0),
  .ret (.tup [(.bin .Sub (.bin .Mult (.var 2) (.var 2)) (.bin .Mult (.var 1) (.var 1))), (.bin .Mult (.bin .Mult (.cst (.int 2)) (.var 1)) (.var 2)), (.bin .Add (.bin .Mult (.var 1) (.var 1)) (.bin .Mult (.var 2) (.var 2)))])]
def d_double_of : Df := ⟨["setting"], ["setting", "a", "b"], b_double_of⟩
def b_turn_rows : List S := [
  .asg (.tp [(.nm 1), (.nm 2), (.nm 3), (.nm 4)]) (.var 0),
  .asg (.nm 5) (.tup [(.tup [(.bin .Sub (.bin .Sub (.bin .Add (.bin .Mult (.var 1) (.var 1)) (.bin .Mult (.var 2) (.var 2))) (.bin .Mult (.var 3) (.var 3))) (.bin .Mult (.var 4) (.var 4))), (.bin .Mult (.cst (.int 2)) (.bin .Sub (.bin .Mult (.var 2) (.var 3)) (.bin .Mult (.var 1) (.var 4)))), (.bin .Mult (.cst (.int 2)) (.bin .Add (.bin .Mult (.var 2) (.var 4)) (.bin .Mult (.var 1) (.var 3))))]), (.tup [(.bin .Mult (.cst (.int 2)) (.bin .Add (.bin .Mult (.var 2) (.var 3)) (.bin .Mult (.var 1) (.var 4)))), (.bin .Sub (.bin .Add (.bin .Sub (.bin .Mult (.var 1) (.var 1)) (.bin .Mult (.var 2) (.var 2))) (.bin .Mult (.var 3) (.var 3))) (.bin .Mult (.var 4) (.var 4))), (.bin .Mult (.cst (.int 2)) (.bin .Sub (.bin .Mult (.var 3) (.var 4)) (.bin .Mult (.var 1) (.var 2))))]), (.tup [(.bin .Mult (.cst (.int 2)) (.bin .Sub (.bin .Mult (.var 2) (.var 4)) (.bin .Mult (.var 1) (.var 3)))), (.bin .Mult (.cst (.int 2)) (.bin .Add (.bin .Mult (.var 3) (.var 4)) (.bin .Mult (.var 1) (.var 2)))), (.bin .Add (.bin .Sub (.bin .Sub (.bin .Mult (.var 1) (.var 1)) (.bin .Mult (.var 2) (.var 2))) (.bin .Mult (.var 3) (.var 3))) (.bin .Mult (.var 4) (.var 4)))])]),
  .ret (.tup [(.var 5), (.bin .Add (.bin .Add (.bin .Add (.bin .Mult (.var 1) (.var 1)) (.bin .Mult (.var 2) (.var 2))) (.bin .Mult (.var 3) (.var 3))) (.bin .Mult (.var 4) (.var 4)))])]
def d_turn_rows : Df := ⟨["turn"], ["turn", "a", "b", "c", "d", "rows"], b_turn_rows⟩
def b_reduced_table : List S := [
  .asg (.nm 2) (.call "lowest_over" [(.comp2 (.nm 3) (.var 0) [] (.nm 4) (.var 3) [] (.var 4) [3, 4] [4]), (.var 1)]),
  .ret (.tup [(.tup [(.slice (.var 2) .no (.cst (.int 4))), (.slice (.var 2) (.cst (.int 4)) (.cst (.int 8))), (.slice (.var 2) (.cst (.int 8)) (.cst (.int 12))), (.slice (.var 2) (.cst (.int 12)) (.cst (.int 16)))]), (.sub (.var 2) (.cst (.int 16)))])]
def d_reduced_table : Df := ⟨["rows", "below"], ["rows", "below", "found", "row", "number"], b_reduced_table⟩
def b_flipped : List S := [
  .ret (.blt .tuple [(.comp (.nm 1) (.rng [(.cst (.int 4))]) [] (.blt .tuple [(.comp (.nm 2) (.var 0) [] (.sub (.var 2) (.var 1)) [2])]) [1])])]
def d_flipped : Df := ⟨["rows"], ["rows", "place", "row"], b_flipped⟩
def b_rows_product : List S := [
  .asg (.nm 2) (.call "flipped" [(.var 1)]),
  .ret (.blt .tuple [(.comp (.nm 3) (.var 0) [] (.blt .tuple [(.comp (.nm 4) (.var 2) [] (.call "dot" [(.var 3), (.var 4)]) [4])]) [3])])]
def d_rows_product : Df := ⟨["rows", "others"], ["rows", "others", "columns", "row", "column"], b_rows_product⟩
def b_led_row : List S := [
  .ret (.blt .tuple [(.comp (.nm 2) (.var 0) [] (.call "dot" [(.var 2), (.var 1)]) [2])])]
def d_led_row : Df := ⟨["rows", "row"], ["rows", "row", "own"], b_led_row⟩
def b_led_five : List S := [
  .ret (.call "lowest_over" [(.call "led_row" [(.sub (.var 0) (.cst (.int 0))), (.slice (.var 1) .no (.cst (.int 4)))]), (.bin .Mult (.sub (.var 0) (.cst (.int 1))) (.sub (.var 1) (.cst (.int 4))))])]
def d_led_five : Df := ⟨["table", "light"], ["table", "light"], b_led_five⟩
def b_product_of_tables : List S := [
  .ret (.call "reduced_table" [(.call "rows_product" [(.sub (.var 0) (.cst (.int 0))), (.sub (.var 1) (.cst (.int 0)))]), (.bin .Mult (.sub (.var 0) (.cst (.int 1))) (.sub (.var 1) (.cst (.int 1))))])]
def d_product_of_tables : Df := ⟨["table", "other"], ["table", "other"], b_product_of_tables⟩
def b_is_share : List S := [
  .ret (.and_ (.call "is_fraction" [(.var 0)]) (.and_ (.cmp .LtE (.cst (.int 0)) (.sub (.var 0) (.cst (.int 0)))) (.cmp .LtE (.sub (.var 0) (.cst (.int 0))) (.sub (.var 0) (.cst (.int 1))))))]
def d_is_share : Df := ⟨["value"], ["value"], b_is_share⟩
def b_is_single : List S := [
  .ite (.or_ (.not_ (.isi (.var 0) "tuple")) (.or_ (.cmp .Eq (.blt .len [(.var 0)]) (.cst (.int 0))) (.not_ (.isi (.sub (.var 0) (.cst (.int 0))) "str")))) [.ret (.cst (.bool false))] [],
  .ite (.cmp .Eq (.sub (.var 0) (.cst (.int 0))) (.cst (.str "glass"))) [.ret (.cmp .Eq (.blt .len [(.var 0)]) (.cst (.int 1)))] [],
  .ite (.cmp .Eq (.sub (.var 0) (.cst (.int 0))) (.cst (.str "partial"))) [.ret (.and_ (.cmp .Eq (.blt .len [(.var 0)]) (.cst (.int 4))) (.and_ (.call "is_kind" [(.sub (.var 0) (.cst (.int 1)))]) (.and_ (.call "is_share" [(.sub (.var 0) (.cst (.int 2)))]) (.call "is_share" [(.sub (.var 0) (.cst (.int 3)))]))))] [],
  .ite (.cmp .NotEq (.blt .len [(.var 0)]) (.cst (.int 2))) [.ret (.cst (.bool false))] [],
  .ite (.cmp .In (.sub (.var 0) (.cst (.int 0))) (.glob "SHARES")) [.ret (.call "is_share" [(.sub (.var 0) (.cst (.int 1)))])] [],
  .ite (.cmp .Eq (.sub (.var 0) (.cst (.int 0))) (.cst (.str "polariser"))) [.ret (.call "is_kind" [(.sub (.var 0) (.cst (.int 1)))])] [],
  .ret (.or_ (.and_ (.cmp .Eq (.sub (.var 0) (.cst (.int 0))) (.cst (.str "turner"))) (.call "is_whole_turn" [(.sub (.var 0) (.cst (.int 1)))])) (.and_ (.cmp .Eq (.sub (.var 0) (.cst (.int 0))) (.cst (.str "magnet"))) (.call "is_setting" [(.sub (.var 0) (.cst (.int 1)))])))]
def d_is_single : Df := ⟨["value"], ["value"], b_is_single⟩
def b_is_plate : List S := [
  .ite (.and_ (.isi (.var 0) "tuple") (.and_ (.cmp .Eq (.blt .len [(.var 0)]) (.cst (.int 3))) (.and_ (.isi (.sub (.var 0) (.cst (.int 0))) "str") (.cmp .Eq (.sub (.var 0) (.cst (.int 0))) (.cst (.str "set")))))) [.ret (.and_ (.call "is_setting" [(.sub (.var 0) (.cst (.int 1)))]) (.call "is_single" [(.sub (.var 0) (.cst (.int 2)))]))] [],
  .ret (.call "is_single" [(.var 0)])]
def d_is_plate : Df := ⟨["value"], ["value"], b_is_plate⟩
def b_check_stack : List S := [
  .ite (.not_ (.isi (.var 0) "tuple")) [.raise_ "" "" .no] [],
  .for_ (.tp [(.nm 1), (.nm 2)]) (.enm (.var 0)) [.ite (.or_ (.cmp .Eq (.var 1) (.glob "MOST_PLATES")) (.not_ (.call "is_plate" [(.var 2)]))) [.raise_ "" "" .no] []]]
def d_check_stack : Df := ⟨["value"], ["value", "index", "plate"], b_check_stack⟩
def b_framed : List S := [
  .ret (.call "reduced_table" [(.bin .Add (.tup [(.tup [(.var 0), (.cst (.int 0)), (.cst (.int 0)), (.cst (.int 0))])]) (.blt .tuple [(.comp (.nm 3) (.var 1) [] (.tup [(.cst (.int 0)), (.star (.var 3))]) [3])])), (.var 2)])]
def d_framed : Df := ⟨["first", "rows", "below"], ["first", "rows", "below", "row"], b_framed⟩
def b_partial_table : List S := [
  .asg (.tp [(.st 3), (.nm 4)]) (.var 0),
  .asg (.tp [(.nm 5), (.nm 6)]) (.tup [(.bin .Mult (.sub (.var 1) (.cst (.int 0))) (.sub (.var 2) (.cst (.int 1)))), (.bin .Mult (.sub (.var 2) (.cst (.int 0))) (.sub (.var 1) (.cst (.int 1))))]),
  .asg (.tp [(.nm 7), (.nm 8), (.nm 9)]) (.tup [(.bin .Mult (.sub (.var 1) (.cst (.int 1))) (.sub (.var 2) (.cst (.int 1)))), (.bin .Add (.bin .Mult (.var 5) (.var 5)) (.bin .Mult (.var 6) (.var 6))), (.bin .Sub (.bin .Mult (.var 5) (.var 5)) (.bin .Mult (.var 6) (.var 6)))]),
  .own 10 (.lst [(.tup [(.bin .Mult (.bin .Mult (.var 8) (.var 4)) (.var 4)), (.star (.comp (.nm 12) (.var 3) [] (.bin .Mult (.bin .Mult (.var 9) (.var 4)) (.var 12)) [12]))])]),
  .for_ (.tp [(.nm 11), (.nm 12)]) (.enm (.var 3)) [.own 13 (.comp (.nm 14) (.var 3) [] (.bin .Mult (.bin .Mult (.bin .Sub (.var 8) (.bin .Mult (.bin .Mult (.cst (.int 2)) (.var 5)) (.var 6))) (.var 12)) (.var 14)) [14]), .setI 13 (.var 11) (.bin .Add (.sub (.var 13) (.var 11)) (.bin .Mult (.bin .Mult (.bin .Mult (.bin .Mult (.cst (.int 2)) (.var 5)) (.var 6)) (.var 4)) (.var 4))), .dem 13, .app 10 (.tup [(.bin .Mult (.bin .Mult (.var 9) (.var 4)) (.var 12)), (.star (.var 13))])],
  .dem 10,
  .ret (.call "reduced_table" [(.var 10), (.bin .Mult (.bin .Mult (.bin .Mult (.bin .Mult (.cst (.int 2)) (.var 7)) (.var 7)) (.var 4)) (.var 4))])]
def d_partial_table : Df := ⟨["kind", "f", "g"], ["kind", "f", "g", "numbers", "whole", "p", "q", "over", "level", "swing", "first", "at", "number", "row", "other"], b_partial_table⟩
def b_magnet_table : List S := [
  .asg (.tp [(.nm 1), (.nm 2), (.nm 3)]) (.call "double_of" [(.var 0)]),
  .ret (.call "framed" [(.var 3), (.tup [(.tup [(.var 1), (.neg (.var 2)), (.cst (.int 0))]), (.tup [(.var 2), (.var 1), (.cst (.int 0))]), (.tup [(.cst (.int 0)), (.cst (.int 0)), (.var 3)])]), (.var 3)])]
def d_magnet_table : Df := ⟨["setting"], ["setting", "cosine", "sine", "whole"], b_magnet_table⟩
def b_single_table : List S := [
  .asg (.nm 1) (.sub (.var 0) (.cst (.int 0))),
  .ite (.cmp .Eq (.var 1) (.cst (.str "polariser"))) [.ret (.call "partial_table" [(.sub (.var 0) (.cst (.int 1))), (.tup [(.cst (.int 1)), (.cst (.int 1))]), (.tup [(.cst (.int 0)), (.cst (.int 1))])])] [],
  .ite (.cmp .Eq (.var 1) (.cst (.str "partial"))) [.ret (.call "partial_table" [(.sub (.var 0) (.cst (.int 1))), (.sub (.var 0) (.cst (.int 2))), (.sub (.var 0) (.cst (.int 3)))])] [],
  .ite (.cmp .Eq (.var 1) (.cst (.str "turner"))) [.asg (.tp [(.nm 4), (.nm 5)]) (.call "turn_rows" [(.sub (.var 0) (.cst (.int 1)))]), .ret (.call "framed" [(.var 5), (.var 4), (.var 5)])] [],
  .ite (.cmp .Eq (.var 1) (.cst (.str "magnet"))) [.ret (.call "magnet_table" [(.sub (.var 0) (.cst (.int 1)))])] [],
  .ite (.cmp .Eq (.var 1) (.cst (.str "glass"))) [.ret (.call "framed" [(.cst (.int 1)), (.tup [(.tup [(.cst (.int 1)), (.cst (.int 0)), (.cst (.int 0))]), (.tup [(.cst (.int 0)), (.cst (.int 1)), (.cst (.int 0))]), (.tup [(.cst (.int 0)), (.cst (.int 0)), (.neg (.cst (.int 1)))])]), (.cst (.int 1))])] [],
  .asg (.tp [(.nm 2), (.nm 3)]) (.sub (.var 0) (.cst (.int 1))),
  .ret (.call "framed" [(.ife (.cmp .Eq (.var 1) (.cst (.str "grey"))) (.var 2) (.var 3)), (.tup [(.tup [(.var 2), (.cst (.int 0)), (.cst (.int 0))]), (.tup [(.cst (.int 0)), (.var 2), (.cst (.int 0))]), (.tup [(.cst (.int 0)), (.cst (.int 0)), (.var 2)])]), (.var 3)])]
def d_single_table : Df := ⟨["plate"], ["plate", "word", "top", "below", "rows", "whole"], b_single_table⟩
def b_table_with : List S := [
  .ite (.cmp .NotEq (.sub (.var 0) (.cst (.int 0))) (.cst (.str "set"))) [.ret (.call "single_table" [(.var 0)])] [],
  .asg (.nm 1) (.call "product_of_tables" [(.call "single_table" [(.sub (.var 0) (.cst (.int 2)))]), (.call "magnet_table" [(.call "back_setting" [(.sub (.var 0) (.cst (.int 1)))])])]),
  .ret (.call "product_of_tables" [(.call "magnet_table" [(.sub (.var 0) (.cst (.int 1)))]), (.var 1)])]
def d_table_with : Df := ⟨["plate"], ["plate", "ahead"], b_table_with⟩
def b_table_along : List S := [
  .asg (.nm 1) (.tup [(.glob "UNIT_ROWS"), (.cst (.int 1))]),
  .for_ (.nm 2) (.var 0) [.asg (.nm 1) (.call "product_of_tables" [(.call "table_with" [(.var 2)]), (.var 1)])],
  .ret (.var 1)]
def d_table_along : Df := ⟨["stack"], ["stack", "found", "plate"], b_table_along⟩
def b_rounds_of : List S := [
  .asg (.nm 3) (.var 1),
  .for_ (.nm 4) (.rng [(.var 2)]) [.asg (.nm 3) (.call "led_five" [(.var 0), (.var 3)])],
  .ret (.var 3)]
def d_rounds_of : Df := ⟨["table", "light", "many"], ["table", "light", "many", "found", "step"], b_rounds_of⟩
def b_after_rounds : List S := [
  .expr (.call "check_stack" [(.var 0)]),
  .expr (.call "check_light" [(.var 1)]),
  .ite (.not_ (.call "is_between" [(.var 2), (.cst (.int 0)), (.glob "MOST_ROUNDS")])) [.raise_ "" "" .no] [],
  .ret (.call "rounds_of" [(.call "table_along" [(.var 0)]), (.var 1), (.var 2)])]
def d_after_rounds : Df := ⟨["stack", "light", "many"], ["stack", "light", "many"], b_after_rounds⟩
def b_dark_after : List S := [
  .expr (.call "check_stack" [(.var 0)]),
  .expr (.call "check_light" [(.var 1)]),
  .asg (.nm 2) (.call "table_along" [(.var 0)]),
  .for_ (.nm 3) (.rng [(.cst (.int 3))]) [.ite (.cmp .Eq (.call "rounds_of" [(.var 2), (.var 1), (.var 3)]) (.glob "DARK")) [.ret (.var 3)] []],
  .ret (.cst .none)]
def d_dark_after : Df := ⟨["stack", "light"], ["stack", "light", "table", "many"], b_dark_after⟩
def b__law_urn : List S := [
  .asg (.nm 2) (.ife (.cmp .Lt (.var 1) (.blt .len [(.var 0)])) (.blt .int [(.sub (.var 0) (.var 1))]) (.bin .Add (.bin .Add (.bin .Mod (.blt .int [(.blt .sum [(.slice (.var 0) .no (.cst (.int 3)))])]) (.cst (.int 1000033))) (.bin .Mult (.cst (.int 60013)) (.var 1))) (.cst (.int 29)))),
  .asg (.nm 3) (.bin .Add (.cst (.int 22697)) (.bin .Mult (.cst (.int 3571)) (.var 1))),
  .for_ (.nm 4) (.bin .Add (.slice (.var 0) .no (.cst (.int 9))) (.lst [(.var 2)])) [.asg (.nm 3) (.bin .Mod (.blt .int [(.bin .Add (.bin .Add (.bin .Mult (.var 3) (.cst (.int 69069))) (.bin .Mod (.blt .int [(.var 4)]) (.cst (.int 2147483629)))) (.cst (.int 3)))]) (.cst (.int 2147483629)))],
  .ret (.lstB [(.ife (.or_ (.cmp .Lt (.var 2) (.cst (.int 0))) (.cmp .GtE (.var 2) (.bin .Pow (.cst (.int 10)) (.cst (.int 18))))) (.blt .abs [(.var 2)]) (.cst (.int 0))), (.var 3), (.cst (.int 0))])]
def d__law_urn : Df := ⟨["_law_script", "_law_turn_here"], ["_law_script", "_law_turn_here", "_law_own", "_law_mix", "_law_cell"], b__law_urn⟩
def b__law_pick : List S := [
  .ite (.cmp .Gt (.sub (.var 0) (.cst (.int 0))) (.cst (.int 0))) [.asg (.tp [(.sb 0 0), (.nm 3)]) (.blt .divmod [(.sub (.var 0) (.cst (.int 0))), (.var 1)]), .ret (.var 3)] [],
  .setI 0 (.cst (.int 2)) (.bin .Add (.sub (.var 0) (.cst (.int 2))) (.cst (.int 1))),
  .asg (.nm 2) (.bin .Add (.bin .Mod (.blt .int [(.sub (.var 0) (.cst (.int 1)))]) (.cst (.int 30011))) (.cst (.int 20011))),
  .setI 0 (.cst (.int 1)) (.bin .Mod (.blt .int [(.bin .Add (.bin .Add (.bin .Mult (.sub (.var 0) (.cst (.int 1))) (.var 2)) (.bin .Mult (.cst (.int 91193)) (.sub (.var 0) (.cst (.int 2))))) (.cst (.int 5)))]) (.cst (.int 2147483629))),
  .ret (.bin .Mod (.blt .int [(.bin .FloorDiv (.sub (.var 0) (.cst (.int 1))) (.cst (.int 61)))]) (.var 1))]
def d__law_pick : Df := ⟨["_law_urn_here", "_law_many"], ["_law_urn_here", "_law_many", "_law_step", "_law_digit"], b__law_pick⟩
def b__law_one : List S := [
  .ret (.sub (.var 1) (.call "_law_pick" [(.var 0), (.blt .len [(.var 1)])]))]
def d__law_one : Df := ⟨["_law_urn_here", "_law_some"], ["_law_urn_here", "_law_some"], b__law_one⟩
def b__law_between : List S := [
  .ret (.bin .Add (.var 1) (.call "_law_pick" [(.var 0), (.bin .Add (.bin .Sub (.var 2) (.var 1)) (.cst (.int 1)))]))]
def d__law_between : Df := ⟨["_law_urn_here", "_law_low", "_law_high"], ["_law_urn_here", "_law_low", "_law_high"], b__law_between⟩
def b__law_gcd : List S := [
  .asg (.nm 1) (.cst (.int 0)),
  .for_ (.nm 2) (.var 0) [.asg (.nm 3) (.blt .abs [(.var 2)]), .while_ (.cmp .Gt (.var 3) (.cst (.int 0))) [.par [1, 3] [(.var 3), (.bin .Mod (.blt .int [(.var 1)]) (.var 3))]]],
  .ret (.var 1)]
def d__law_gcd : Df := ⟨["_law_some"], ["_law_some", "_law_found", "_law_each", "_law_rest"], b__law_gcd⟩
def b__law_ratio : List S := [
  .asg (.nm 2) (.ife (.cmp .Gt (.var 1) (.cst (.int 0))) (.call "_law_gcd" [(.lst [(.var 0), (.var 1)])]) (.bin .Sub (.cst (.int 0)) (.call "_law_gcd" [(.lst [(.var 0), (.var 1)])]))),
  .ret (.tup [(.bin .FloorDiv (.var 0) (.var 2)), (.bin .FloorDiv (.var 1) (.var 2))])]
def d__law_ratio : Df := ⟨["_law_top", "_law_low"], ["_law_top", "_law_low", "_law_part"], b__law_ratio⟩
def b__law_five : List S := [
  .asg (.nm 2) (.call "_law_gcd" [(.bin .Add (.blt .list [(.var 0)]) (.lst [(.var 1)]))]),
  .ret (.blt .tuple [(.comp (.nm 3) (.bin .Add (.blt .list [(.var 0)]) (.lst [(.var 1)])) [] (.bin .FloorDiv (.var 3) (.var 2)) [3])])]
def d__law_five : Df := ⟨["_law_numbers", "_law_below"], ["_law_numbers", "_law_below", "_law_part", "_law_each"], b__law_five⟩
def b__law_table : List S := [
  .asg (.nm 2) (.call "_law_gcd" [(.bin .Add (.comp (.nm 3) (.var 0) [] (.call "_law_gcd" [(.var 3)]) [3]) (.lst [(.var 1)]))]),
  .ret (.tup [(.blt .tuple [(.comp (.nm 3) (.var 0) [] (.blt .tuple [(.comp (.nm 4) (.var 3) [] (.bin .FloorDiv (.var 4) (.var 2)) [4])]) [3])]), (.bin .FloorDiv (.var 1) (.var 2))])]
def d__law_table : Df := ⟨["_law_rows", "_law_below"], ["_law_rows", "_law_below", "_law_part", "_law_row", "_law_each"], b__law_table⟩
def b__law_led : List S := [
  .ret (.comp (.nm 2) (.var 0) [] (.blt .sum [(.comp (.nm 3) (.rng [(.cst (.int 4))]) [] (.bin .Mult (.sub (.var 2) (.var 3)) (.sub (.var 1) (.var 3))) [3])]) [2])]
def d__law_led : Df := ⟨["_law_rows", "_law_numbers"], ["_law_rows", "_law_numbers", "_law_row", "_law_k"], b__law_led⟩
def b__law_then : List S := [
  .asg (.nm 2) (.comp (.nm 3) (.rng [(.cst (.int 4))]) [] (.comp (.nm 4) (.sub (.var 0) (.cst (.int 0))) [] (.sub (.var 4) (.var 3)) [4]) [3]),
  .ret (.call "_law_table" [(.comp (.nm 4) (.sub (.var 1) (.cst (.int 0))) [] (.call "_law_led" [(.var 2), (.var 4)]) [4]), (.bin .Mult (.sub (.var 0) (.cst (.int 1))) (.sub (.var 1) (.cst (.int 1))))])]
def d__law_then : Df := ⟨["_law_first", "_law_last"], ["_law_first", "_law_last", "_law_turned_here", "_law_k", "_law_row"], b__law_then⟩
def b__law_unit : List S := [
  .ret (.tup [(.tup [(.tup [(.cst (.int 1)), (.cst (.int 0)), (.cst (.int 0)), (.cst (.int 0))]), (.tup [(.cst (.int 0)), (.cst (.int 1)), (.cst (.int 0)), (.cst (.int 0))]), (.tup [(.cst (.int 0)), (.cst (.int 0)), (.cst (.int 1)), (.cst (.int 0))]), (.tup [(.cst (.int 0)), (.cst (.int 0)), (.cst (.int 0)), (.cst (.int 1))])]), (.cst (.int 1))])]
def d__law_unit : Df := ⟨[], [], b__law_unit⟩
def b__law_spun : List S := [
  .asg (.tp [(.nm 1), (.nm 2), (.nm 3), (.nm 4)]) (.var 0),
  .asg (.nm 5) (.lst [(.cst (.int 0)), (.bin .Sub (.bin .Sub (.bin .Add (.bin .Mult (.var 1) (.var 1)) (.bin .Mult (.var 2) (.var 2))) (.bin .Mult (.var 3) (.var 3))) (.bin .Mult (.var 4) (.var 4))), (.bin .Sub (.bin .Mult (.bin .Mult (.cst (.int 2)) (.var 2)) (.var 3)) (.bin .Mult (.bin .Mult (.cst (.int 2)) (.var 1)) (.var 4))), (.bin .Add (.bin .Mult (.bin .Mult (.cst (.int 2)) (.var 2)) (.var 4)) (.bin .Mult (.bin .Mult (.cst (.int 2)) (.var 1)) (.var 3)))]),
  .asg (.nm 6) (.lst [(.cst (.int 0)), (.bin .Add (.bin .Mult (.bin .Mult (.cst (.int 2)) (.var 2)) (.var 3)) (.bin .Mult (.bin .Mult (.cst (.int 2)) (.var 1)) (.var 4))), (.bin .Sub (.bin .Add (.bin .Sub (.bin .Mult (.var 1) (.var 1)) (.bin .Mult (.var 2) (.var 2))) (.bin .Mult (.var 3) (.var 3))) (.bin .Mult (.var 4) (.var 4))), (.bin .Sub (.bin .Mult (.bin .Mult (.cst (.int 2)) (.var 3)) (.var 4)) (.bin .Mult (.bin .Mult (.cst (.int 2)) (.var 1)) (.var 2)))]),
  .asg (.nm 7) (.lst [(.cst (.int 0)), (.bin .Sub (.bin .Mult (.bin .Mult (.cst (.int 2)) (.var 2)) (.var 4)) (.bin .Mult (.bin .Mult (.cst (.int 2)) (.var 1)) (.var 3))), (.bin .Add (.bin .Mult (.bin .Mult (.cst (.int 2)) (.var 3)) (.var 4)) (.bin .Mult (.bin .Mult (.cst (.int 2)) (.var 1)) (.var 2))), (.bin .Add (.bin .Sub (.bin .Sub (.bin .Mult (.var 1) (.var 1)) (.bin .Mult (.var 2) (.var 2))) (.bin .Mult (.var 3) (.var 3))) (.bin .Mult (.var 4) (.var 4)))]),
  .asg (.nm 8) (.bin .Add (.bin .Add (.bin .Add (.bin .Mult (.var 1) (.var 1)) (.bin .Mult (.var 2) (.var 2))) (.bin .Mult (.var 3) (.var 3))) (.bin .Mult (.var 4) (.var 4))),
  .ret (.call "_law_table" [(.lst [(.lst [(.var 8), (.cst (.int 0)), (.cst (.int 0)), (.cst (.int 0))]), (.var 5), (.var 6), (.var 7)]), (.var 8)])]
def d__law_spun : Df := ⟨["_law_turn_here"], ["_law_turn_here", "_law_a", "_law_b", "_law_c", "_law_d", "_law_one_here", "_law_two", "_law_three", "_law_size"], b__law_spun⟩
def b__law_parted : List S := [
  .par [3, 4] [(.bin .Mult (.sub (.var 1) (.cst (.int 1))) (.sub (.var 2) (.cst (.int 1)))), (.bin .Mult (.sub (.var 1) (.cst (.int 0))) (.sub (.var 2) (.cst (.int 1))))],
  .asg (.tp [(.nm 5), (.nm 6)]) (.tup [(.bin .Mult (.sub (.var 2) (.cst (.int 0))) (.sub (.var 1) (.cst (.int 1)))), (.sub (.var 0) (.cst (.int 3)))]),
  .asg (.tp [(.nm 7), (.nm 8)]) (.tup [(.bin .Sub (.bin .Mult (.var 4) (.var 4)) (.bin .Mult (.var 5) (.var 5))), (.bin .Mult (.bin .Sub (.var 4) (.var 5)) (.bin .Sub (.var 4) (.var 5)))]),
  .own 9 (.lst []),
  .asg (.nm 10) (.comp (.nm 11) (.rng [(.cst (.int 3))]) [] (.bin .Mult (.bin .Mult (.var 7) (.var 6)) (.sub (.var 0) (.var 11))) [11]),
  .for_ (.nm 11) (.rng [(.cst (.int 3))]) [.own 13 (.comp (.nm 14) (.slice (.var 0) .no (.cst (.int 3))) [] (.bin .Mult (.bin .Mult (.var 8) (.sub (.var 0) (.var 11))) (.var 14)) [14]), .setI 13 (.var 11) (.bin .Add (.sub (.var 13) (.var 11)) (.bin .Mult (.bin .Mult (.bin .Mult (.bin .Mult (.cst (.int 2)) (.var 4)) (.var 5)) (.var 6)) (.var 6))), .app 9 (.bin .Add (.lst [(.sub (.var 10) (.var 11))]) (.var 13))],
  .asg (.nm 12) (.bin .Add (.lst [(.bin .Mult (.bin .Mult (.bin .Add (.bin .Mult (.var 4) (.var 4)) (.bin .Mult (.var 5) (.var 5))) (.var 6)) (.var 6))]) (.var 10)),
  .ret (.call "_law_table" [(.bin .Add (.lst [(.var 12)]) (.var 9)), (.bin .Mult (.bin .Mult (.bin .Mult (.bin .Mult (.cst (.int 2)) (.var 3)) (.var 3)) (.var 6)) (.var 6))])]
def d__law_parted : Df := ⟨["_law_kind_here", "_law_one_here", "_law_two"], ["_law_kind_here", "_law_one_here", "_law_two", "_law_low", "_law_far", "_law_near", "_law_size", "_law_more", "_law_gap", "_law_rows", "_law_side", "_law_k", "_law_first", "_law_row", "_law_each"], b__law_parted⟩
def b__law_of_plate : List S := [
  .asg (.nm 1) (.sub (.var 0) (.cst (.int 0))),
  .ite (.cmp .Eq (.var 1) (.cst (.str "polariser"))) [.ret (.call "_law_parted" [(.sub (.var 0) (.cst (.int 1))), (.tup [(.cst (.int 1)), (.cst (.int 1))]), (.tup [(.cst (.int 0)), (.cst (.int 1))])])] [],
  .ite (.cmp .Eq (.var 1) (.cst (.str "partial"))) [.ret (.call "_law_parted" [(.sub (.var 0) (.cst (.int 1))), (.sub (.var 0) (.cst (.int 2))), (.sub (.var 0) (.cst (.int 3)))])] [],
  .ite (.cmp .Eq (.var 1) (.cst (.str "turner"))) [.ret (.call "_law_spun" [(.sub (.var 0) (.cst (.int 1)))])] [],
  .ite (.cmp .Eq (.var 1) (.cst (.str "magnet"))) [.ret (.call "_law_spun" [(.tup [(.sub (.sub (.var 0) (.cst (.int 1))) (.cst (.int 1))), (.cst (.int 0)), (.cst (.int 0)), (.sub (.sub (.var 0) (.cst (.int 1))) (.cst (.int 0)))])])] [],
  .ite (.cmp .Eq (.var 1) (.cst (.str "set"))) [.asg (.tp [(.nm 5), (.nm 6)]) (.sub (.var 0) (.cst (.int 1))), .ret (.call "_law_then" [(.call "_law_then" [(.call "_law_spun" [(.tup [(.var 6), (.cst (.int 0)), (.cst (.int 0)), (.bin .Sub (.cst (.int 0)) (.var 5))])]), (.call "_law_of_plate" [(.sub (.var 0) (.cst (.int 2)))])]), (.call "_law_spun" [(.tup [(.var 6), (.cst (.int 0)), (.cst (.int 0)), (.var 5)])])])] [],
  .ite (.cmp .Eq (.var 1) (.cst (.str "glass"))) [.ret (.tup [(.tup [(.tup [(.cst (.int 1)), (.cst (.int 0)), (.cst (.int 0)), (.cst (.int 0))]), (.tup [(.cst (.int 0)), (.cst (.int 1)), (.cst (.int 0)), (.cst (.int 0))]), (.tup [(.cst (.int 0)), (.cst (.int 0)), (.cst (.int 1)), (.cst (.int 0))]), (.tup [(.cst (.int 0)), (.cst (.int 0)), (.cst (.int 0)), (.neg (.cst (.int 1)))])]), (.cst (.int 1))])] [],
  .asg (.tp [(.nm 2), (.nm 3)]) (.sub (.var 0) (.cst (.int 1))),
  .asg (.nm 4) (.ife (.cmp .Eq (.var 1) (.cst (.str "grey"))) (.var 2) (.var 3)),
  .ret (.call "_law_table" [(.lst [(.lst [(.var 4), (.cst (.int 0)), (.cst (.int 0)), (.cst (.int 0))]), (.lst [(.cst (.int 0)), (.var 2), (.cst (.int 0)), (.cst (.int 0))]), (.lst [(.cst (.int 0)), (.cst (.int 0)), (.var 2), (.cst (.int 0))]), (.lst [(.cst (.int 0)), (.cst (.int 0)), (.cst (.int 0)), (.var 2)])]), (.var 3)])]
def d__law_of_plate : Df := ⟨["_law_plate_here"], ["_law_plate_here", "_law_word", "_law_top", "_law_low", "_law_first", "_law_a", "_law_b"], b__law_of_plate⟩
def b__law_of_stack : List S := [
  .asg (.nm 1) (.call "_law_unit" []),
  .for_ (.nm 2) (.var 0) [.asg (.nm 1) (.call "_law_then" [(.var 1), (.call "_law_of_plate" [(.var 2)])])],
  .ret (.var 1)]
def d__law_of_stack : Df := ⟨["_law_stack_here"], ["_law_stack_here", "_law_found", "_law_plate_here"], b__law_of_stack⟩
def b__law_kind : List S := [
  .ite (.cmp .Eq (.call "_law_pick" [(.var 0), (.cst (.int 16))]) (.cst (.int 0))) [.ret (.tup [(.cst (.int 0)), (.cst (.int 0)), (.neg (.cst (.int 1))), (.cst (.int 1))])] [],
  .par [1, 2, 3] [(.call "_law_between" [(.var 0), (.neg (.cst (.int 2))), (.cst (.int 2))]), (.call "_law_between" [(.var 0), (.neg (.cst (.int 2))), (.cst (.int 2))]), (.call "_law_one" [(.var 0), (.lst [(.cst (.int 1)), (.cst (.int 1)), (.cst (.int 1)), (.cst (.int 2)), (.cst (.int 3))])])],
  .asg (.nm 4) (.lst [(.bin .Mult (.bin .Mult (.cst (.int 2)) (.var 1)) (.var 3)), (.bin .Mult (.bin .Mult (.cst (.int 2)) (.var 2)) (.var 3)), (.bin .Sub (.bin .Sub (.bin .Mult (.var 3) (.var 3)) (.bin .Mult (.var 1) (.var 1))) (.bin .Mult (.var 2) (.var 2))), (.bin .Add (.bin .Add (.bin .Mult (.var 3) (.var 3)) (.bin .Mult (.var 1) (.var 1))) (.bin .Mult (.var 2) (.var 2)))]),
  .asg (.nm 5) (.call "_law_gcd" [(.var 4)]),
  .ret (.blt .tuple [(.comp (.nm 6) (.var 4) [] (.bin .FloorDiv (.var 6) (.var 5)) [6])])]
def d__law_kind : Df := ⟨["_law_urn_here"], ["_law_urn_here", "_law_x", "_law_y", "_law_w", "_law_some", "_law_part", "_law_each"], b__law_kind⟩
def b__law_setting : List S := [
  .par [1, 2] [(.call "_law_between" [(.var 0), (.neg (.cst (.int 3))), (.cst (.int 3))]), (.call "_law_pick" [(.var 0), (.cst (.int 4))])],
  .asg (.nm 3) (.call "_law_gcd" [(.lst [(.var 1), (.var 2)])]),
  .ret (.ife (.cmp .Gt (.var 2) (.cst (.int 0))) (.tup [(.bin .FloorDiv (.var 1) (.var 3)), (.bin .FloorDiv (.var 2) (.var 3))]) (.tup [(.cst (.int 1)), (.cst (.int 0))]))]
def d__law_setting : Df := ⟨["_law_urn_here"], ["_law_urn_here", "_law_a", "_law_b", "_law_part"], b__law_setting⟩
def b__law_turned : List S := [
  .asg (.nm 1) (.sub (.comp (.nm 3) (.var 0) [(.cmp .NotEq (.var 3) (.cst (.int 0)))] (.var 3) [3]) (.cst (.int 0))),
  .asg (.nm 2) (.ife (.cmp .Gt (.var 1) (.cst (.int 0))) (.call "_law_gcd" [(.var 0)]) (.bin .Sub (.cst (.int 0)) (.call "_law_gcd" [(.var 0)]))),
  .ret (.blt .tuple [(.comp (.nm 3) (.var 0) [] (.bin .FloorDiv (.var 3) (.var 2)) [3])])]
def d__law_turned : Df := ⟨["_law_numbers"], ["_law_numbers", "_law_lead", "_law_part", "_law_each"], b__law_turned⟩
def b__law_turn : List S := [
  .asg (.nm 1) (.comp (.nm 2) (.rng [(.cst (.int 4))]) [] (.call "_law_between" [(.var 0), (.neg (.cst (.int 2))), (.cst (.int 2))]) [2]),
  .ret (.ife (.cmp .NotEq (.var 1) (.lst [(.cst (.int 0)), (.cst (.int 0)), (.cst (.int 0)), (.cst (.int 0))])) (.call "_law_turned" [(.var 1)]) (.tup [(.cst (.int 1)), (.cst (.int 0)), (.cst (.int 0)), (.cst (.int 0))]))]
def d__law_turn : Df := ⟨["_law_urn_here"], ["_law_urn_here", "_law_some", "_law_turn_here"], b__law_turn⟩
def b__law_share : List S := [
  .asg (.nm 1) (.call "_law_between" [(.var 0), (.cst (.int 1)), (.cst (.int 4))]),
  .ret (.call "_law_ratio" [(.call "_law_pick" [(.var 0), (.bin .Add (.var 1) (.cst (.int 1)))]), (.var 1)])]
def d__law_share : Df := ⟨["_law_urn_here"], ["_law_urn_here", "_law_low"], b__law_share⟩
def b__law_plate : List S := [
  .asg (.nm 1) (.call "_law_bare" [(.var 0)]),
  .ret (.ife (.cmp .Eq (.call "_law_pick" [(.var 0), (.cst (.int 5))]) (.cst (.int 0))) (.tup [(.cst (.str "set")), (.call "_law_setting" [(.var 0)]), (.var 1)]) (.var 1))]
def d__law_plate : Df := ⟨["_law_urn_here"], ["_law_urn_here", "_law_bare_here"], b__law_plate⟩
def b__law_stack : List S := [
  .ret (.blt .tuple [(.comp (.nm 2) (.rng [(.call "_law_pick" [(.var 0), (.bin .Add (.var 1) (.cst (.int 1)))])]) [] (.call "_law_plate" [(.var 0)]) [2])])]
def d__law_stack : Df := ⟨["_law_urn_here", "_law_most"], ["_law_urn_here", "_law_most", "_law_turn_here"], b__law_stack⟩
def b__law_lamp : List S := [
  .par [1, 2] [(.call "_law_pick" [(.var 0), (.cst (.int 10))]), (.call "_law_between" [(.var 0), (.cst (.int 1)), (.cst (.int 5))])],
  .asg (.nm 3) (.call "_law_one" [(.var 0), (.lst [(.cst (.int 1)), (.cst (.int 1)), (.cst (.int 2)), (.cst (.int 3)), (.bin .Add (.cst (.int 1000003)) (.call "_law_pick" [(.var 0), (.bin .Pow (.cst (.int 10)) (.cst (.int 9)))]))])]),
  .ite (.cmp .Eq (.var 1) (.cst (.int 0))) [.ret (.tup [(.cst (.int 0)), (.cst (.int 0)), (.cst (.int 0)), (.cst (.int 0)), (.cst (.int 1))])] [],
  .ite (.cmp .Lt (.var 1) (.cst (.int 3))) [.ret (.call "_law_five" [(.lst [(.var 3), (.cst (.int 0)), (.cst (.int 0)), (.cst (.int 0))]), (.var 2)])] [],
  .ite (.cmp .Lt (.var 1) (.cst (.int 6))) [.asg (.nm 8) (.call "_law_kind" [(.var 0)]), .ret (.call "_law_five" [(.lst [(.bin .Mult (.var 3) (.sub (.var 8) (.cst (.int 3)))), (.bin .Mult (.var 3) (.sub (.var 8) (.cst (.int 0)))), (.bin .Mult (.var 3) (.sub (.var 8) (.cst (.int 1)))), (.bin .Mult (.var 3) (.sub (.var 8) (.cst (.int 2))))]), (.var 2)])] [],
  .par [4, 5] [(.comp (.nm 7) (.rng [(.cst (.int 3))]) [] (.call "_law_between" [(.var 0), (.neg (.cst (.int 4))), (.cst (.int 4))]) [7]), (.cst (.int 0))],
  .asg (.nm 6) (.bin .Add (.bin .Add (.bin .Mult (.sub (.var 4) (.cst (.int 0))) (.sub (.var 4) (.cst (.int 0)))) (.bin .Mult (.sub (.var 4) (.cst (.int 1))) (.sub (.var 4) (.cst (.int 1))))) (.bin .Mult (.sub (.var 4) (.cst (.int 2))) (.sub (.var 4) (.cst (.int 2))))),
  .for_ (.nm 7) (.rng [(.cst (.int 7))]) [.asg (.nm 5) (.ife (.cmp .Lt (.bin .Mult (.var 5) (.var 5)) (.var 6)) (.bin .Add (.var 5) (.cst (.int 1))) (.var 5))],
  .asg (.nm 5) (.bin .Add (.var 5) (.call "_law_one" [(.var 0), (.lst [(.cst (.int 0)), (.cst (.int 0)), (.cst (.int 1)), (.cst (.int 2)), (.cst (.int 7))])])),
  .ret (.call "_law_five" [(.lst [(.bin .Mult (.var 3) (.var 5)), (.bin .Mult (.var 3) (.sub (.var 4) (.cst (.int 0)))), (.bin .Mult (.var 3) (.sub (.var 4) (.cst (.int 1)))), (.bin .Mult (.var 3) (.sub (.var 4) (.cst (.int 2))))]), (.var 2)])]
def d__law_lamp : Df := ⟨["_law_urn_here"], ["_law_urn_here", "_law_way", "_law_low", "_law_top", "_law_some", "_law_root", "_law_size", "_law_turn_here", "_law_kind_here"], b__law_lamp⟩
def b__law_bare : List S := [
  .asg (.nm 1) (.call "_law_pick" [(.var 0), (.cst (.int 8))]),
  .ite (.cmp .Lt (.var 1) (.cst (.int 2))) [.ret (.tup [(.cst (.str "polariser")), (.call "_law_kind" [(.var 0)])])] [],
  .ite (.cmp .Eq (.var 1) (.cst (.int 2))) [.ret (.tup [(.cst (.str "partial")), (.call "_law_kind" [(.var 0)]), (.call "_law_share" [(.var 0)]), (.call "_law_share" [(.var 0)])])] [],
  .ite (.cmp .Lt (.var 1) (.cst (.int 5))) [.ret (.tup [(.cst (.str "turner")), (.call "_law_turn" [(.var 0)])])] [],
  .ite (.cmp .Eq (.var 1) (.cst (.int 5))) [.ret (.tup [(.cst (.str "magnet")), (.call "_law_setting" [(.var 0)])])] [],
  .ite (.cmp .Eq (.var 1) (.cst (.int 6))) [.ret (.tup [(.call "_law_one" [(.var 0), (.lst [(.cst (.str "grey")), (.cst (.str "dull")), (.cst (.str "dull"))])]), (.call "_law_share" [(.var 0)])])] [],
  .ret (.tup [(.cst (.str "glass"))])]
def d__law_bare : Df := ⟨["_law_urn_here"], ["_law_urn_here", "_law_way"], b__law_bare⟩
def b__law_flip : List S := [
  .ret (.ife (.and_ (.cmp .Eq (.sub (.var 0) (.cst (.int 0))) (.cst (.int 0))) (.cmp .Eq (.sub (.var 0) (.cst (.int 1))) (.cst (.int 0)))) (.tup [(.cst (.int 0)), (.cst (.int 1)), (.cst (.int 0)), (.cst (.int 0))]) (.call "_law_turned" [(.lst [(.cst (.int 0)), (.sub (.var 0) (.cst (.int 1))), (.bin .Sub (.cst (.int 0)) (.sub (.var 0) (.cst (.int 0)))), (.cst (.int 0))])]))]
def d__law_flip : Df := ⟨["_law_kind_here"], ["_law_kind_here"], b__law_flip⟩
def b__law_opposite : List S := [
  .ret (.tup [(.bin .Sub (.cst (.int 0)) (.sub (.var 0) (.cst (.int 0)))), (.bin .Sub (.cst (.int 0)) (.sub (.var 0) (.cst (.int 1)))), (.bin .Sub (.cst (.int 0)) (.sub (.var 0) (.cst (.int 2)))), (.sub (.var 0) (.cst (.int 3)))])]
def d__law_opposite : Df := ⟨["_law_kind_here"], ["_law_kind_here"], b__law_opposite⟩
def b__law_of_kind : List S := [
  .ret (.call "_law_five" [(.lst [(.bin .Mult (.var 1) (.sub (.var 0) (.cst (.int 3)))), (.bin .Mult (.var 1) (.sub (.var 0) (.cst (.int 0)))), (.bin .Mult (.var 1) (.sub (.var 0) (.cst (.int 1)))), (.bin .Mult (.var 1) (.sub (.var 0) (.cst (.int 2))))]), (.bin .Mult (.var 2) (.sub (.var 0) (.cst (.int 3))))])]
def d__law_of_kind : Df := ⟨["_law_kind_here", "_law_top", "_law_low"], ["_law_kind_here", "_law_top", "_law_low"], b__law_of_kind⟩
def b__law_lamp_for : List S := [
  .asg (.nm 2) (.comp (.nm 4) (.var 1) [(.cmp .In (.sub (.var 4) (.cst (.int 0))) (.lst [(.cst (.str "polariser")), (.cst (.str "partial"))]))] (.sub (.var 4) (.cst (.int 1))) [4]),
  .ite (.or_ (.cmp .Eq (.var 2) (.lst [])) (.cmp .Eq (.call "_law_pick" [(.var 0), (.cst (.int 3))]) (.cst (.int 0)))) [.ret (.call "_law_lamp" [(.var 0)])] [],
  .asg (.nm 3) (.call "_law_one" [(.var 0), (.var 2)]),
  .asg (.nm 3) (.ife (.cmp .Eq (.call "_law_pick" [(.var 0), (.cst (.int 3))]) (.cst (.int 0))) (.var 3) (.call "_law_opposite" [(.var 3)])),
  .ret (.call "_law_of_kind" [(.var 3), (.bin .Add (.cst (.int 1)) (.call "_law_pick" [(.var 0), (.cst (.int 6))])), (.bin .Add (.cst (.int 1)) (.call "_law_pick" [(.var 0), (.cst (.int 6))]))])]
def d__law_lamp_for : Df := ⟨["_law_urn_here", "_law_stack_here"], ["_law_urn_here", "_law_stack_here", "_law_kinds", "_law_kind_here", "_law_plate_here"], b__law_lamp_for⟩
def b__law_dim : List S := [
  .par [1, 2] [(.call "_law_pick" [(.var 0), (.cst (.int 5))]), (.call "_law_kind" [(.var 0)])],
  .ite (.cmp .Eq (.var 1) (.cst (.int 0))) [.ret (.bin .Add (.tup [(.tup [(.cst (.str "polariser")), (.var 2)]), (.tup [(.cst (.str "turner")), (.call "_law_flip" [(.var 2)])])]) (.call "_law_stack" [(.var 0), (.cst (.int 1))]))] [],
  .ite (.cmp .Eq (.var 1) (.cst (.int 1))) [.ret (.bin .Add (.call "_law_stack" [(.var 0), (.cst (.int 1))]) (.tup [(.tup [(.cst (.str "polariser")), (.var 2)]), (.tup [(.cst (.str "polariser")), (.call "_law_opposite" [(.var 2)])])]))] [],
  .ite (.cmp .Eq (.var 1) (.cst (.int 2))) [.ret (.bin .Add (.tup [(.tup [(.cst (.str "partial")), (.var 2), (.call "_law_share" [(.var 0)]), (.call "_law_share" [(.var 0)])])]) (.call "_law_stack" [(.var 0), (.cst (.int 1))]))] [],
  .ret (.call "_law_stack" [(.var 0), (.cst (.int 4))])]
def d__law_dim : Df := ⟨["_law_urn_here"], ["_law_urn_here", "_law_way", "_law_kind_here"], b__law_dim⟩
def b__law_right : List S := [
  .par [1, 2] [(.call "_law_dim" [(.var 0)]), (.lst [(.cst (.int 0)), (.cst (.int 1)), (.cst (.int 2)), (.cst (.int 3)), (.cst (.int 24))])],
  .asg (.nm 3) (.call "_law_of_stack" [(.var 1)]),
  .for_ (.nm 4) (.rng [(.cst (.int 3))]) [.par [5, 6] [(.call "_law_lamp_for" [(.var 0), (.var 1)]), (.bin .Add (.cst (.int 4)) (.call "_law_pick" [(.var 0), (.cst (.int 20))]))], .parQ 7 8 9 (.blt .list [(.slice (.var 5) .no (.cst (.int 4)))]) (.sub (.var 5) (.cst (.int 4))) (.lst [(.var 5)]), .for_ (.nm 10) (.rng [(.cst (.int 24))]) [.par [7, 8] [(.call "_law_led" [(.sub (.var 3) (.cst (.int 0))), (.var 7)]), (.bin .Mult (.var 8) (.sub (.var 3) (.cst (.int 1))))], .app 9 (.ife (.cmp .In (.bin .Add (.var 10) (.cst (.int 1))) (.bin .Add (.var 2) (.lst [(.var 6)]))) (.call "_law_five" [(.var 7), (.var 8)]) (.cst .none))], .for_ (.nm 10) (.lst [(.cst (.int 0)), (.cst (.int 1)), (.cst (.int 2)), (.cst (.int 3)), (.var 6), (.cst (.int 24))]) [.ite (.cmp .NotEq (.blt .repr [(.call "after_rounds" [(.var 1), (.var 5), (.var 10)])]) (.blt .repr [(.sub (.var 9) (.var 10))])) [.ret (.cst (.bool false))] []], .asg (.nm 11) (.comp (.nm 10) (.lst [(.cst (.int 0)), (.cst (.int 1)), (.cst (.int 2)), (.cst (.int 3)), (.var 6), (.cst (.int 24))]) [(.cmp .Eq (.sub (.sub (.var 9) (.var 10)) (.cst (.int 0))) (.cst (.int 0)))] (.var 10) [10]), .ite (.cmp .NotEq (.blt .repr [(.call "dark_after" [(.var 1), (.var 5)])]) (.blt .repr [(.ife (.cmp .NotEq (.var 11) (.lst [])) (.sub (.var 11) (.cst (.int 0))) (.cst .none))])) [.ret (.cst (.bool false))] [], .asg (.nm 12) (.lst [(.callK "after_rounds" [2, 1, 0] [(.var 6), (.var 5), (.var 1)]), (.callK "dark_after" [1, 0] [(.var 5), (.var 1)])]), .ite (.cmp .NotEq (.blt .repr [(.var 12)]) (.blt .repr [(.lst [(.sub (.var 9) (.var 6)), (.ife (.cmp .NotEq (.var 11) (.lst [])) (.sub (.var 11) (.cst (.int 0))) (.cst .none))])])) [.ret (.cst (.bool false))] []],
  .ret (.cst (.bool true))]
def d__law_right : Df := ⟨["_law_urn_here"], ["_law_urn_here", "_law_stack_here", "_law_laps", "_law_table_here", "_law_turn_here", "_law_light", "_law_many", "_law_numbers", "_law_below", "_law_dues", "_law_lap", "_law_dark", "_law_told"], b__law_right⟩
def b_law : List S := [
  .ret (.blt .all [(.comp (.nm 1) (.rng [(.blt .max [(.cst (.int 2)), (.blt .min [(.blt .len [(.var 0)]), (.cst (.int 3))])])]) [] (.scp (.call "_law_right" [(.call "_law_urn" [(.var 0), (.var 1)])])) [1])])]
def d_law : Df := ⟨["_law_script"], ["_law_script", "_law_turn_here"], b_law⟩
def tbl0 : List (Str × Df) := [("is_whole", d_is_whole), ("is_between", d_is_between), ("are_wholes", d_are_wholes), ("common_part", d_common_part), ("lowest", d_lowest), ("dot", d_dot), ("lowest_over", d_lowest_over), ("is_fraction", d_is_fraction), ("product_of", d_product_of), ("is_like_light", d_is_like_light), ("is_five", d_is_five), ("is_light", d_is_light)]
def tbl1 : List (Str × Df) := [("is_kind", d_is_kind), ("check_light", d_check_light), ("is_setting", d_is_setting), ("is_whole_turn", d_is_whole_turn), ("back_setting", d_back_setting), ("double_of", d_double_of), ("turn_rows", d_turn_rows), ("reduced_table", d_reduced_table), ("flipped", d_flipped), ("rows_product", d_rows_product), ("led_row", d_led_row), ("led_five", d_led_five)]
def tbl2 : List (Str × Df) := [("product_of_tables", d_product_of_tables), ("is_share", d_is_share), ("is_single", d_is_single), ("is_plate", d_is_plate), ("check_stack", d_check_stack), ("framed", d_framed), ("partial_table", d_partial_table), ("magnet_table", d_magnet_table), ("single_table", d_single_table), ("table_with", d_table_with), ("table_along", d_table_along), ("rounds_of", d_rounds_of)]
def tbl3 : List (Str × Df) := [("after_rounds", d_after_rounds), ("dark_after", d_dark_after), ("_law_urn", d__law_urn), ("_law_pick", d__law_pick), ("_law_one", d__law_one), ("_law_between", d__law_between), ("_law_gcd", d__law_gcd), ("_law_ratio", d__law_ratio), ("_law_five", d__law_five), ("_law_table", d__law_table), ("_law_led", d__law_led), ("_law_then", d__law_then)]
def tbl4 : List (Str × Df) := [("_law_unit", d__law_unit), ("_law_spun", d__law_spun), ("_law_parted", d__law_parted), ("_law_of_plate", d__law_of_plate), ("_law_of_stack", d__law_of_stack), ("_law_kind", d__law_kind), ("_law_setting", d__law_setting), ("_law_turned", d__law_turned), ("_law_turn", d__law_turn), ("_law_share", d__law_share), ("_law_plate", d__law_plate), ("_law_stack", d__law_stack)]
def tbl5 : List (Str × Df) := [("_law_lamp", d__law_lamp), ("_law_bare", d__law_bare), ("_law_flip", d__law_flip), ("_law_opposite", d__law_opposite), ("_law_of_kind", d__law_of_kind), ("_law_lamp_for", d__law_lamp_for), ("_law_dim", d__law_dim), ("_law_right", d__law_right), ("law", d_law)]
def tbl : List (Str × Df) := tbl0 ++ tbl1 ++ tbl2 ++ tbl3 ++ tbl4 ++ tbl5
def tb (x : Str) : Option Df := tbl.lookup x
def gv (x : Str) : Option PyData := cs.lookup x
def kwT : List (Str × List (List Str × List Nat)) := [("after_rounds", [(["many", "light", "stack"], [2, 1, 0])]), ("dark_after", [(["light", "stack"], [1, 0])])]
def kw (x : Str) : List (List Str × List Nat) := (kwT.lookup x).getD []
abbrev cg (d : Df) (i : Nat) : Cg := ⟨d.N, defScope (top i), fun _ => true, defs, cs.map (·.1), inBf bs, kw⟩
theorem ck_is_whole : ckSs 200 (cg d_is_whole 7) d_is_whole.body (defBody (top 7)) = true := by decide +kernel
theorem ck_is_between : ckSs 200 (cg d_is_between 8) d_is_between.body (defBody (top 8)) = true := by decide +kernel
theorem ck_are_wholes : ckSs 200 (cg d_are_wholes 9) d_are_wholes.body (defBody (top 9)) = true := by decide +kernel
theorem ck_common_part : ckSs 200 (cg d_common_part 10) d_common_part.body (defBody (top 10)) = true := by decide +kernel
theorem ck_lowest : ckSs 200 (cg d_lowest 11) d_lowest.body (defBody (top 11)) = true := by decide +kernel
theorem ck_dot : ckSs 200 (cg d_dot 12) d_dot.body (defBody (top 12)) = true := by decide +kernel
theorem ck_lowest_over : ckSs 200 (cg d_lowest_over 13) d_lowest_over.body (defBody (top 13)) = true := by decide +kernel
theorem ck_is_fraction : ckSs 200 (cg d_is_fraction 15) d_is_fraction.body (defBody (top 15)) = true := by decide +kernel
theorem ck_product_of : ckSs 200 (cg d_product_of 17) d_product_of.body (defBody (top 17)) = true := by decide +kernel
theorem ck_is_like_light : ckSs 200 (cg d_is_like_light 18) d_is_like_light.body (defBody (top 18)) = true := by decide +kernel
theorem ck_is_five : ckSs 200 (cg d_is_five 21) d_is_five.body (defBody (top 21)) = true := by decide +kernel
theorem ck_is_light : ckSs 200 (cg d_is_light 22) d_is_light.body (defBody (top 22)) = true := by decide +kernel
theorem ck_is_kind : ckSs 200 (cg d_is_kind 23) d_is_kind.body (defBody (top 23)) = true := by decide +kernel
theorem ck_check_light : ckSs 200 (cg d_check_light 24) d_check_light.body (defBody (top 24)) = true := by decide +kernel
theorem ck_is_setting : ckSs 200 (cg d_is_setting 26) d_is_setting.body (defBody (top 26)) = true := by decide +kernel
theorem ck_is_whole_turn : ckSs 200 (cg d_is_whole_turn 27) d_is_whole_turn.body (defBody (top 27)) = true := by decide +kernel
theorem ck_back_setting : ckSs 200 (cg d_back_setting 28) d_back_setting.body (defBody (top 28)) = true := by decide +kernel
theorem ck_double_of : ckSs 200 (cg d_double_of 29) d_double_of.body (defBody (top 29)) = true := by decide +kernel
theorem ck_turn_rows : ckSs 200 (cg d_turn_rows 30) d_turn_rows.body (defBody (top 30)) = true := by decide +kernel
theorem ck_reduced_table : ckSs 200 (cg d_reduced_table 33) d_reduced_table.body (defBody (top 33)) = true := by decide +kernel
theorem ck_flipped : ckSs 200 (cg d_flipped 34) d_flipped.body (defBody (top 34)) = true := by decide +kernel
theorem ck_rows_product : ckSs 200 (cg d_rows_product 35) d_rows_product.body (defBody (top 35)) = true := by decide +kernel
theorem ck_led_row : ckSs 200 (cg d_led_row 36) d_led_row.body (defBody (top 36)) = true := by decide +kernel
theorem ck_led_five : ckSs 200 (cg d_led_five 37) d_led_five.body (defBody (top 37)) = true := by decide +kernel
theorem ck_product_of_tables : ckSs 200 (cg d_product_of_tables 38) d_product_of_tables.body (defBody (top 38)) = true := by decide +kernel
theorem ck_is_share : ckSs 200 (cg d_is_share 42) d_is_share.body (defBody (top 42)) = true := by decide +kernel
theorem ck_is_single : ckSs 200 (cg d_is_single 43) d_is_single.body (defBody (top 43)) = true := by decide +kernel
theorem ck_is_plate : ckSs 200 (cg d_is_plate 44) d_is_plate.body (defBody (top 44)) = true := by decide +kernel
theorem ck_check_stack : ckSs 200 (cg d_check_stack 45) d_check_stack.body (defBody (top 45)) = true := by decide +kernel
theorem ck_framed : ckSs 200 (cg d_framed 46) d_framed.body (defBody (top 46)) = true := by decide +kernel
theorem ck_partial_table : ckSs 200 (cg d_partial_table 47) d_partial_table.body (defBody (top 47)) = true := by decide +kernel
theorem ck_magnet_table : ckSs 200 (cg d_magnet_table 48) d_magnet_table.body (defBody (top 48)) = true := by decide +kernel
theorem ck_single_table : ckSs 200 (cg d_single_table 49) d_single_table.body (defBody (top 49)) = true := by decide +kernel
theorem ck_table_with : ckSs 200 (cg d_table_with 50) d_table_with.body (defBody (top 50)) = true := by decide +kernel
theorem ck_table_along : ckSs 200 (cg d_table_along 51) d_table_along.body (defBody (top 51)) = true := by decide +kernel
theorem ck_rounds_of : ckSs 200 (cg d_rounds_of 54) d_rounds_of.body (defBody (top 54)) = true := by decide +kernel
theorem ck_after_rounds : ckSs 200 (cg d_after_rounds 55) d_after_rounds.body (defBody (top 55)) = true := by decide +kernel
theorem ck_dark_after : ckSs 200 (cg d_dark_after 56) d_dark_after.body (defBody (top 56)) = true := by decide +kernel
theorem ck__law_urn : ckSs 200 (cg d__law_urn 58) d__law_urn.body (defBody (top 58)) = true := by decide +kernel
theorem ck__law_pick : ckSs 200 (cg d__law_pick 59) d__law_pick.body (defBody (top 59)) = true := by decide +kernel
theorem ck__law_one : ckSs 200 (cg d__law_one 60) d__law_one.body (defBody (top 60)) = true := by decide +kernel
theorem ck__law_between : ckSs 200 (cg d__law_between 61) d__law_between.body (defBody (top 61)) = true := by decide +kernel
theorem ck__law_gcd : ckSs 200 (cg d__law_gcd 62) d__law_gcd.body (defBody (top 62)) = true := by decide +kernel
theorem ck__law_ratio : ckSs 200 (cg d__law_ratio 63) d__law_ratio.body (defBody (top 63)) = true := by decide +kernel
theorem ck__law_five : ckSs 200 (cg d__law_five 64) d__law_five.body (defBody (top 64)) = true := by decide +kernel
theorem ck__law_table : ckSs 200 (cg d__law_table 65) d__law_table.body (defBody (top 65)) = true := by decide +kernel
theorem ck__law_led : ckSs 200 (cg d__law_led 66) d__law_led.body (defBody (top 66)) = true := by decide +kernel
theorem ck__law_then : ckSs 200 (cg d__law_then 67) d__law_then.body (defBody (top 67)) = true := by decide +kernel
theorem ck__law_unit : ckSs 200 (cg d__law_unit 68) d__law_unit.body (defBody (top 68)) = true := by decide +kernel
theorem ck__law_spun : ckSs 200 (cg d__law_spun 69) d__law_spun.body (defBody (top 69)) = true := by decide +kernel
theorem ck__law_parted : ckSs 200 (cg d__law_parted 70) d__law_parted.body (defBody (top 70)) = true := by decide +kernel
theorem ck__law_of_plate : ckSs 200 (cg d__law_of_plate 71) d__law_of_plate.body (defBody (top 71)) = true := by decide +kernel
theorem ck__law_of_stack : ckSs 200 (cg d__law_of_stack 72) d__law_of_stack.body (defBody (top 72)) = true := by decide +kernel
theorem ck__law_kind : ckSs 200 (cg d__law_kind 73) d__law_kind.body (defBody (top 73)) = true := by decide +kernel
theorem ck__law_setting : ckSs 200 (cg d__law_setting 74) d__law_setting.body (defBody (top 74)) = true := by decide +kernel
theorem ck__law_turned : ckSs 200 (cg d__law_turned 75) d__law_turned.body (defBody (top 75)) = true := by decide +kernel
theorem ck__law_turn : ckSs 200 (cg d__law_turn 76) d__law_turn.body (defBody (top 76)) = true := by decide +kernel
theorem ck__law_share : ckSs 200 (cg d__law_share 77) d__law_share.body (defBody (top 77)) = true := by decide +kernel
theorem ck__law_plate : ckSs 200 (cg d__law_plate 78) d__law_plate.body (defBody (top 78)) = true := by decide +kernel
theorem ck__law_stack : ckSs 200 (cg d__law_stack 79) d__law_stack.body (defBody (top 79)) = true := by decide +kernel
theorem ck__law_lamp : ckSs 200 (cg d__law_lamp 80) d__law_lamp.body (defBody (top 80)) = true := by decide +kernel
theorem ck__law_bare : ckSs 200 (cg d__law_bare 81) d__law_bare.body (defBody (top 81)) = true := by decide +kernel
theorem ck__law_flip : ckSs 200 (cg d__law_flip 82) d__law_flip.body (defBody (top 82)) = true := by decide +kernel
theorem ck__law_opposite : ckSs 200 (cg d__law_opposite 83) d__law_opposite.body (defBody (top 83)) = true := by decide +kernel
theorem ck__law_of_kind : ckSs 200 (cg d__law_of_kind 84) d__law_of_kind.body (defBody (top 84)) = true := by decide +kernel
theorem ck__law_lamp_for : ckSs 200 (cg d__law_lamp_for 85) d__law_lamp_for.body (defBody (top 85)) = true := by decide +kernel
theorem ck__law_dim : ckSs 200 (cg d__law_dim 86) d__law_dim.body (defBody (top 86)) = true := by decide +kernel
theorem ck__law_right : ckSs 200 (cg d__law_right 87) d__law_right.body (defBody (top 87)) = true := by decide +kernel
theorem ck_law : ckSs 200 (cg d_law 88) d_law.body (defBody (top 88)) = true := by decide +kernel
theorem sc_is_whole : FnScope d_is_whole.N d_is_whole.ps (defScope (top 7)) := ⟨by decide +kernel, by decide +kernel, by decide +kernel, by decide +kernel, by decide +kernel, by decide +kernel, by decide +kernel⟩
theorem sc_is_between : FnScope d_is_between.N d_is_between.ps (defScope (top 8)) := ⟨by decide +kernel, by decide +kernel, by decide +kernel, by decide +kernel, by decide +kernel, by decide +kernel, by decide +kernel⟩
theorem sc_are_wholes : FnScope d_are_wholes.N d_are_wholes.ps (defScope (top 9)) := ⟨by decide +kernel, by decide +kernel, by decide +kernel, by decide +kernel, by decide +kernel, by decide +kernel, by decide +kernel⟩
theorem sc_common_part : FnScope d_common_part.N d_common_part.ps (defScope (top 10)) := ⟨by decide +kernel, by decide +kernel, by decide +kernel, by decide +kernel, by decide +kernel, by decide +kernel, by decide +kernel⟩
theorem sc_lowest : FnScope d_lowest.N d_lowest.ps (defScope (top 11)) := ⟨by decide +kernel, by decide +kernel, by decide +kernel, by decide +kernel, by decide +kernel, by decide +kernel, by decide +kernel⟩
theorem sc_dot : FnScope d_dot.N d_dot.ps (defScope (top 12)) := ⟨by decide +kernel, by decide +kernel, by decide +kernel, by decide +kernel, by decide +kernel, by decide +kernel, by decide +kernel⟩
theorem sc_lowest_over : FnScope d_lowest_over.N d_lowest_over.ps (defScope (top 13)) := ⟨by decide +kernel, by decide +kernel, by decide +kernel, by decide +kernel, by decide +kernel, by decide +kernel, by decide +kernel⟩
theorem sc_is_fraction : FnScope d_is_fraction.N d_is_fraction.ps (defScope (top 15)) := ⟨by decide +kernel, by decide +kernel, by decide +kernel, by decide +kernel, by decide +kernel, by decide +kernel, by decide +kernel⟩
theorem sc_product_of : FnScope d_product_of.N d_product_of.ps (defScope (top 17)) := ⟨by decide +kernel, by decide +kernel, by decide +kernel, by decide +kernel, by decide +kernel, by decide +kernel, by decide +kernel⟩
theorem sc_is_like_light : FnScope d_is_like_light.N d_is_like_light.ps (defScope (top 18)) := ⟨by decide +kernel, by decide +kernel, by decide +kernel, by decide +kernel, by decide +kernel, by decide +kernel, by decide +kernel⟩
theorem sc_is_five : FnScope d_is_five.N d_is_five.ps (defScope (top 21)) := ⟨by decide +kernel, by decide +kernel, by decide +kernel, by decide +kernel, by decide +kernel, by decide +kernel, by decide +kernel⟩
theorem sc_is_light : FnScope d_is_light.N d_is_light.ps (defScope (top 22)) := ⟨by decide +kernel, by decide +kernel, by decide +kernel, by decide +kernel, by decide +kernel, by decide +kernel, by decide +kernel⟩
theorem sc_is_kind : FnScope d_is_kind.N d_is_kind.ps (defScope (top 23)) := ⟨by decide +kernel, by decide +kernel, by decide +kernel, by decide +kernel, by decide +kernel, by decide +kernel, by decide +kernel⟩
theorem sc_check_light : FnScope d_check_light.N d_check_light.ps (defScope (top 24)) := ⟨by decide +kernel, by decide +kernel, by decide +kernel, by decide +kernel, by decide +kernel, by decide +kernel, by decide +kernel⟩
theorem sc_is_setting : FnScope d_is_setting.N d_is_setting.ps (defScope (top 26)) := ⟨by decide +kernel, by decide +kernel, by decide +kernel, by decide +kernel, by decide +kernel, by decide +kernel, by decide +kernel⟩
theorem sc_is_whole_turn : FnScope d_is_whole_turn.N d_is_whole_turn.ps (defScope (top 27)) := ⟨by decide +kernel, by decide +kernel, by decide +kernel, by decide +kernel, by decide +kernel, by decide +kernel, by decide +kernel⟩
theorem sc_back_setting : FnScope d_back_setting.N d_back_setting.ps (defScope (top 28)) := ⟨by decide +kernel, by decide +kernel, by decide +kernel, by decide +kernel, by decide +kernel, by decide +kernel, by decide +kernel⟩
theorem sc_double_of : FnScope d_double_of.N d_double_of.ps (defScope (top 29)) := ⟨by decide +kernel, by decide +kernel, by decide +kernel, by decide +kernel, by decide +kernel, by decide +kernel, by decide +kernel⟩
theorem sc_turn_rows : FnScope d_turn_rows.N d_turn_rows.ps (defScope (top 30)) := ⟨by decide +kernel, by decide +kernel, by decide +kernel, by decide +kernel, by decide +kernel, by decide +kernel, by decide +kernel⟩
theorem sc_reduced_table : FnScope d_reduced_table.N d_reduced_table.ps (defScope (top 33)) := ⟨by decide +kernel, by decide +kernel, by decide +kernel, by decide +kernel, by decide +kernel, by decide +kernel, by decide +kernel⟩
theorem sc_flipped : FnScope d_flipped.N d_flipped.ps (defScope (top 34)) := ⟨by decide +kernel, by decide +kernel, by decide +kernel, by decide +kernel, by decide +kernel, by decide +kernel, by decide +kernel⟩
theorem sc_rows_product : FnScope d_rows_product.N d_rows_product.ps (defScope (top 35)) := ⟨by decide +kernel, by decide +kernel, by decide +kernel, by decide +kernel, by decide +kernel, by decide +kernel, by decide +kernel⟩
theorem sc_led_row : FnScope d_led_row.N d_led_row.ps (defScope (top 36)) := ⟨by decide +kernel, by decide +kernel, by decide +kernel, by decide +kernel, by decide +kernel, by decide +kernel, by decide +kernel⟩
theorem sc_led_five : FnScope d_led_five.N d_led_five.ps (defScope (top 37)) := ⟨by decide +kernel, by decide +kernel, by decide +kernel, by decide +kernel, by decide +kernel, by decide +kernel, by decide +kernel⟩
theorem sc_product_of_tables : FnScope d_product_of_tables.N d_product_of_tables.ps (defScope (top 38)) := ⟨by decide +kernel, by decide +kernel, by decide +kernel, by decide +kernel, by decide +kernel, by decide +kernel, by decide +kernel⟩
theorem sc_is_share : FnScope d_is_share.N d_is_share.ps (defScope (top 42)) := ⟨by decide +kernel, by decide +kernel, by decide +kernel, by decide +kernel, by decide +kernel, by decide +kernel, by decide +kernel⟩
theorem sc_is_single : FnScope d_is_single.N d_is_single.ps (defScope (top 43)) := ⟨by decide +kernel, by decide +kernel, by decide +kernel, by decide +kernel, by decide +kernel, by decide +kernel, by decide +kernel⟩
theorem sc_is_plate : FnScope d_is_plate.N d_is_plate.ps (defScope (top 44)) := ⟨by decide +kernel, by decide +kernel, by decide +kernel, by decide +kernel, by decide +kernel, by decide +kernel, by decide +kernel⟩
theorem sc_check_stack : FnScope d_check_stack.N d_check_stack.ps (defScope (top 45)) := ⟨by decide +kernel, by decide +kernel, by decide +kernel, by decide +kernel, by decide +kernel, by decide +kernel, by decide +kernel⟩
theorem sc_framed : FnScope d_framed.N d_framed.ps (defScope (top 46)) := ⟨by decide +kernel, by decide +kernel, by decide +kernel, by decide +kernel, by decide +kernel, by decide +kernel, by decide +kernel⟩
theorem sc_partial_table : FnScope d_partial_table.N d_partial_table.ps (defScope (top 47)) := ⟨by decide +kernel, by decide +kernel, by decide +kernel, by decide +kernel, by decide +kernel, by decide +kernel, by decide +kernel⟩
theorem sc_magnet_table : FnScope d_magnet_table.N d_magnet_table.ps (defScope (top 48)) := ⟨by decide +kernel, by decide +kernel, by decide +kernel, by decide +kernel, by decide +kernel, by decide +kernel, by decide +kernel⟩
theorem sc_single_table : FnScope d_single_table.N d_single_table.ps (defScope (top 49)) := ⟨by decide +kernel, by decide +kernel, by decide +kernel, by decide +kernel, by decide +kernel, by decide +kernel, by decide +kernel⟩
theorem sc_table_with : FnScope d_table_with.N d_table_with.ps (defScope (top 50)) := ⟨by decide +kernel, by decide +kernel, by decide +kernel, by decide +kernel, by decide +kernel, by decide +kernel, by decide +kernel⟩
theorem sc_table_along : FnScope d_table_along.N d_table_along.ps (defScope (top 51)) := ⟨by decide +kernel, by decide +kernel, by decide +kernel, by decide +kernel, by decide +kernel, by decide +kernel, by decide +kernel⟩
theorem sc_rounds_of : FnScope d_rounds_of.N d_rounds_of.ps (defScope (top 54)) := ⟨by decide +kernel, by decide +kernel, by decide +kernel, by decide +kernel, by decide +kernel, by decide +kernel, by decide +kernel⟩
theorem sc_after_rounds : FnScope d_after_rounds.N d_after_rounds.ps (defScope (top 55)) := ⟨by decide +kernel, by decide +kernel, by decide +kernel, by decide +kernel, by decide +kernel, by decide +kernel, by decide +kernel⟩
theorem sc_dark_after : FnScope d_dark_after.N d_dark_after.ps (defScope (top 56)) := ⟨by decide +kernel, by decide +kernel, by decide +kernel, by decide +kernel, by decide +kernel, by decide +kernel, by decide +kernel⟩
theorem sc__law_urn : FnScope d__law_urn.N d__law_urn.ps (defScope (top 58)) := ⟨by decide +kernel, by decide +kernel, by decide +kernel, by decide +kernel, by decide +kernel, by decide +kernel, by decide +kernel⟩
theorem sc__law_pick : FnScope d__law_pick.N d__law_pick.ps (defScope (top 59)) := ⟨by decide +kernel, by decide +kernel, by decide +kernel, by decide +kernel, by decide +kernel, by decide +kernel, by decide +kernel⟩
theorem sc__law_one : FnScope d__law_one.N d__law_one.ps (defScope (top 60)) := ⟨by decide +kernel, by decide +kernel, by decide +kernel, by decide +kernel, by decide +kernel, by decide +kernel, by decide +kernel⟩
theorem sc__law_between : FnScope d__law_between.N d__law_between.ps (defScope (top 61)) := ⟨by decide +kernel, by decide +kernel, by decide +kernel, by decide +kernel, by decide +kernel, by decide +kernel, by decide +kernel⟩
theorem sc__law_gcd : FnScope d__law_gcd.N d__law_gcd.ps (defScope (top 62)) := ⟨by decide +kernel, by decide +kernel, by decide +kernel, by decide +kernel, by decide +kernel, by decide +kernel, by decide +kernel⟩
theorem sc__law_ratio : FnScope d__law_ratio.N d__law_ratio.ps (defScope (top 63)) := ⟨by decide +kernel, by decide +kernel, by decide +kernel, by decide +kernel, by decide +kernel, by decide +kernel, by decide +kernel⟩
theorem sc__law_five : FnScope d__law_five.N d__law_five.ps (defScope (top 64)) := ⟨by decide +kernel, by decide +kernel, by decide +kernel, by decide +kernel, by decide +kernel, by decide +kernel, by decide +kernel⟩
theorem sc__law_table : FnScope d__law_table.N d__law_table.ps (defScope (top 65)) := ⟨by decide +kernel, by decide +kernel, by decide +kernel, by decide +kernel, by decide +kernel, by decide +kernel, by decide +kernel⟩
theorem sc__law_led : FnScope d__law_led.N d__law_led.ps (defScope (top 66)) := ⟨by decide +kernel, by decide +kernel, by decide +kernel, by decide +kernel, by decide +kernel, by decide +kernel, by decide +kernel⟩
theorem sc__law_then : FnScope d__law_then.N d__law_then.ps (defScope (top 67)) := ⟨by decide +kernel, by decide +kernel, by decide +kernel, by decide +kernel, by decide +kernel, by decide +kernel, by decide +kernel⟩
theorem sc__law_unit : FnScope d__law_unit.N d__law_unit.ps (defScope (top 68)) := ⟨by decide +kernel, by decide +kernel, by decide +kernel, by decide +kernel, by decide +kernel, by decide +kernel, by decide +kernel⟩
theorem sc__law_spun : FnScope d__law_spun.N d__law_spun.ps (defScope (top 69)) := ⟨by decide +kernel, by decide +kernel, by decide +kernel, by decide +kernel, by decide +kernel, by decide +kernel, by decide +kernel⟩
theorem sc__law_parted : FnScope d__law_parted.N d__law_parted.ps (defScope (top 70)) := ⟨by decide +kernel, by decide +kernel, by decide +kernel, by decide +kernel, by decide +kernel, by decide +kernel, by decide +kernel⟩
theorem sc__law_of_plate : FnScope d__law_of_plate.N d__law_of_plate.ps (defScope (top 71)) := ⟨by decide +kernel, by decide +kernel, by decide +kernel, by decide +kernel, by decide +kernel, by decide +kernel, by decide +kernel⟩
theorem sc__law_of_stack : FnScope d__law_of_stack.N d__law_of_stack.ps (defScope (top 72)) := ⟨by decide +kernel, by decide +kernel, by decide +kernel, by decide +kernel, by decide +kernel, by decide +kernel, by decide +kernel⟩
theorem sc__law_kind : FnScope d__law_kind.N d__law_kind.ps (defScope (top 73)) := ⟨by decide +kernel, by decide +kernel, by decide +kernel, by decide +kernel, by decide +kernel, by decide +kernel, by decide +kernel⟩
theorem sc__law_setting : FnScope d__law_setting.N d__law_setting.ps (defScope (top 74)) := ⟨by decide +kernel, by decide +kernel, by decide +kernel, by decide +kernel, by decide +kernel, by decide +kernel, by decide +kernel⟩
theorem sc__law_turned : FnScope d__law_turned.N d__law_turned.ps (defScope (top 75)) := ⟨by decide +kernel, by decide +kernel, by decide +kernel, by decide +kernel, by decide +kernel, by decide +kernel, by decide +kernel⟩
theorem sc__law_turn : FnScope d__law_turn.N d__law_turn.ps (defScope (top 76)) := ⟨by decide +kernel, by decide +kernel, by decide +kernel, by decide +kernel, by decide +kernel, by decide +kernel, by decide +kernel⟩
theorem sc__law_share : FnScope d__law_share.N d__law_share.ps (defScope (top 77)) := ⟨by decide +kernel, by decide +kernel, by decide +kernel, by decide +kernel, by decide +kernel, by decide +kernel, by decide +kernel⟩
theorem sc__law_plate : FnScope d__law_plate.N d__law_plate.ps (defScope (top 78)) := ⟨by decide +kernel, by decide +kernel, by decide +kernel, by decide +kernel, by decide +kernel, by decide +kernel, by decide +kernel⟩
theorem sc__law_stack : FnScope d__law_stack.N d__law_stack.ps (defScope (top 79)) := ⟨by decide +kernel, by decide +kernel, by decide +kernel, by decide +kernel, by decide +kernel, by decide +kernel, by decide +kernel⟩
theorem sc__law_lamp : FnScope d__law_lamp.N d__law_lamp.ps (defScope (top 80)) := ⟨by decide +kernel, by decide +kernel, by decide +kernel, by decide +kernel, by decide +kernel, by decide +kernel, by decide +kernel⟩
theorem sc__law_bare : FnScope d__law_bare.N d__law_bare.ps (defScope (top 81)) := ⟨by decide +kernel, by decide +kernel, by decide +kernel, by decide +kernel, by decide +kernel, by decide +kernel, by decide +kernel⟩
theorem sc__law_flip : FnScope d__law_flip.N d__law_flip.ps (defScope (top 82)) := ⟨by decide +kernel, by decide +kernel, by decide +kernel, by decide +kernel, by decide +kernel, by decide +kernel, by decide +kernel⟩
theorem sc__law_opposite : FnScope d__law_opposite.N d__law_opposite.ps (defScope (top 83)) := ⟨by decide +kernel, by decide +kernel, by decide +kernel, by decide +kernel, by decide +kernel, by decide +kernel, by decide +kernel⟩
theorem sc__law_of_kind : FnScope d__law_of_kind.N d__law_of_kind.ps (defScope (top 84)) := ⟨by decide +kernel, by decide +kernel, by decide +kernel, by decide +kernel, by decide +kernel, by decide +kernel, by decide +kernel⟩
theorem sc__law_lamp_for : FnScope d__law_lamp_for.N d__law_lamp_for.ps (defScope (top 85)) := ⟨by decide +kernel, by decide +kernel, by decide +kernel, by decide +kernel, by decide +kernel, by decide +kernel, by decide +kernel⟩
theorem sc__law_dim : FnScope d__law_dim.N d__law_dim.ps (defScope (top 86)) := ⟨by decide +kernel, by decide +kernel, by decide +kernel, by decide +kernel, by decide +kernel, by decide +kernel, by decide +kernel⟩
theorem sc__law_right : FnScope d__law_right.N d__law_right.ps (defScope (top 87)) := ⟨by decide +kernel, by decide +kernel, by decide +kernel, by decide +kernel, by decide +kernel, by decide +kernel, by decide +kernel⟩
theorem sc_law : FnScope d_law.N d_law.ps (defScope (top 88)) := ⟨by decide +kernel, by decide +kernel, by decide +kernel, by decide +kernel, by decide +kernel, by decide +kernel, by decide +kernel⟩
end K76
end
section
set_option Elab.async false
set_option linter.all false
set_option maxRecDepth 100000
set_option maxHeartbeats 0
/-! K76B: the head, with its facts; printed by mk.py. -/
namespace K76
open PySem PySem.Spec PyProof.Rows L2 Zd
def D_is_whole : He.DefD := ⟨("is_whole", none), "is_whole", "is_whole", defArgs (top 7), defBody (top 7), defScope (top 7), [], []⟩
def D_is_between : He.DefD := ⟨("is_between", none), "is_between", "is_between", defArgs (top 8), defBody (top 8), defScope (top 8), [], []⟩
def D_are_wholes : He.DefD := ⟨("are_wholes", none), "are_wholes", "are_wholes", defArgs (top 9), defBody (top 9), defScope (top 9), [], []⟩
def D_common_part : He.DefD := ⟨("common_part", none), "common_part", "common_part", defArgs (top 10), defBody (top 10), defScope (top 10), [], []⟩
def D_lowest : He.DefD := ⟨("lowest", none), "lowest", "lowest", defArgs (top 11), defBody (top 11), defScope (top 11), [], []⟩
def D_dot : He.DefD := ⟨("dot", none), "dot", "dot", defArgs (top 12), defBody (top 12), defScope (top 12), [], []⟩
def D_lowest_over : He.DefD := ⟨("lowest_over", none), "lowest_over", "lowest_over", defArgs (top 13), defBody (top 13), defScope (top 13), [], []⟩
def D_is_fraction : He.DefD := ⟨("is_fraction", none), "is_fraction", "is_fraction", defArgs (top 15), defBody (top 15), defScope (top 15), [], []⟩
def D_product_of : He.DefD := ⟨("product_of", none), "product_of", "product_of", defArgs (top 17), defBody (top 17), defScope (top 17), [], []⟩
def D_is_like_light : He.DefD := ⟨("is_like_light", none), "is_like_light", "is_like_light", defArgs (top 18), defBody (top 18), defScope (top 18), [], []⟩
def D_is_five : He.DefD := ⟨("is_five", none), "is_five", "is_five", defArgs (top 21), defBody (top 21), defScope (top 21), [], []⟩
def D_is_light : He.DefD := ⟨("is_light", none), "is_light", "is_light", defArgs (top 22), defBody (top 22), defScope (top 22), [], []⟩
def D_is_kind : He.DefD := ⟨("is_kind", none), "is_kind", "is_kind", defArgs (top 23), defBody (top 23), defScope (top 23), [], []⟩
def D_check_light : He.DefD := ⟨("check_light", none), "check_light", "check_light", defArgs (top 24), defBody (top 24), defScope (top 24), [], []⟩
def D_is_setting : He.DefD := ⟨("is_setting", none), "is_setting", "is_setting", defArgs (top 26), defBody (top 26), defScope (top 26), [], []⟩
def D_is_whole_turn : He.DefD := ⟨("is_whole_turn", none), "is_whole_turn", "is_whole_turn", defArgs (top 27), defBody (top 27), defScope (top 27), [], []⟩
def D_back_setting : He.DefD := ⟨("back_setting", none), "back_setting", "back_setting", defArgs (top 28), defBody (top 28), defScope (top 28), [], []⟩
def D_double_of : He.DefD := ⟨("double_of", none), "double_of", "double_of", defArgs (top 29), defBody (top 29), defScope (top 29), [], []⟩
def D_turn_rows : He.DefD := ⟨("turn_rows", none), "turn_rows", "turn_rows", defArgs (top 30), defBody (top 30), defScope (top 30), [], []⟩
def D_reduced_table : He.DefD := ⟨("reduced_table", none), "reduced_table", "reduced_table", defArgs (top 33), defBody (top 33), defScope (top 33), [], []⟩
def D_flipped : He.DefD := ⟨("flipped", none), "flipped", "flipped", defArgs (top 34), defBody (top 34), defScope (top 34), [], []⟩
def D_rows_product : He.DefD := ⟨("rows_product", none), "rows_product", "rows_product", defArgs (top 35), defBody (top 35), defScope (top 35), [], []⟩
def D_led_row : He.DefD := ⟨("led_row", none), "led_row", "led_row", defArgs (top 36), defBody (top 36), defScope (top 36), [], []⟩
def D_led_five : He.DefD := ⟨("led_five", none), "led_five", "led_five", defArgs (top 37), defBody (top 37), defScope (top 37), [], []⟩
def D_product_of_tables : He.DefD := ⟨("product_of_tables", none), "product_of_tables", "product_of_tables", defArgs (top 38), defBody (top 38), defScope (top 38), [], []⟩
def D_is_share : He.DefD := ⟨("is_share", none), "is_share", "is_share", defArgs (top 42), defBody (top 42), defScope (top 42), [], []⟩
def D_is_single : He.DefD := ⟨("is_single", none), "is_single", "is_single", defArgs (top 43), defBody (top 43), defScope (top 43), [], []⟩
def D_is_plate : He.DefD := ⟨("is_plate", none), "is_plate", "is_plate", defArgs (top 44), defBody (top 44), defScope (top 44), [], []⟩
def D_check_stack : He.DefD := ⟨("check_stack", none), "check_stack", "check_stack", defArgs (top 45), defBody (top 45), defScope (top 45), [], []⟩
def D_framed : He.DefD := ⟨("framed", none), "framed", "framed", defArgs (top 46), defBody (top 46), defScope (top 46), [], []⟩
def D_partial_table : He.DefD := ⟨("partial_table", none), "partial_table", "partial_table", defArgs (top 47), defBody (top 47), defScope (top 47), [], []⟩
def D_magnet_table : He.DefD := ⟨("magnet_table", none), "magnet_table", "magnet_table", defArgs (top 48), defBody (top 48), defScope (top 48), [], []⟩
def D_single_table : He.DefD := ⟨("single_table", none), "single_table", "single_table", defArgs (top 49), defBody (top 49), defScope (top 49), [], []⟩
def D_table_with : He.DefD := ⟨("table_with", none), "table_with", "table_with", defArgs (top 50), defBody (top 50), defScope (top 50), [], []⟩
def D_table_along : He.DefD := ⟨("table_along", none), "table_along", "table_along", defArgs (top 51), defBody (top 51), defScope (top 51), [], []⟩
def D_rounds_of : He.DefD := ⟨("rounds_of", none), "rounds_of", "rounds_of", defArgs (top 54), defBody (top 54), defScope (top 54), [], []⟩
def D_after_rounds : He.DefD := ⟨("after_rounds", none), "after_rounds", "after_rounds", defArgs (top 55), defBody (top 55), defScope (top 55), [], []⟩
def D_dark_after : He.DefD := ⟨("dark_after", none), "dark_after", "dark_after", defArgs (top 56), defBody (top 56), defScope (top 56), [], []⟩
def D__law_urn : He.DefD := ⟨("_law_urn", none), "_law_urn", "_law_urn", defArgs (top 58), defBody (top 58), defScope (top 58), [], []⟩
def D__law_pick : He.DefD := ⟨("_law_pick", none), "_law_pick", "_law_pick", defArgs (top 59), defBody (top 59), defScope (top 59), [], []⟩
def D__law_one : He.DefD := ⟨("_law_one", none), "_law_one", "_law_one", defArgs (top 60), defBody (top 60), defScope (top 60), [], []⟩
def D__law_between : He.DefD := ⟨("_law_between", none), "_law_between", "_law_between", defArgs (top 61), defBody (top 61), defScope (top 61), [], []⟩
def D__law_gcd : He.DefD := ⟨("_law_gcd", none), "_law_gcd", "_law_gcd", defArgs (top 62), defBody (top 62), defScope (top 62), [], []⟩
def D__law_ratio : He.DefD := ⟨("_law_ratio", none), "_law_ratio", "_law_ratio", defArgs (top 63), defBody (top 63), defScope (top 63), [], []⟩
def D__law_five : He.DefD := ⟨("_law_five", none), "_law_five", "_law_five", defArgs (top 64), defBody (top 64), defScope (top 64), [], []⟩
def D__law_table : He.DefD := ⟨("_law_table", none), "_law_table", "_law_table", defArgs (top 65), defBody (top 65), defScope (top 65), [], []⟩
def D__law_led : He.DefD := ⟨("_law_led", none), "_law_led", "_law_led", defArgs (top 66), defBody (top 66), defScope (top 66), [], []⟩
def D__law_then : He.DefD := ⟨("_law_then", none), "_law_then", "_law_then", defArgs (top 67), defBody (top 67), defScope (top 67), [], []⟩
def D__law_unit : He.DefD := ⟨("_law_unit", none), "_law_unit", "_law_unit", defArgs (top 68), defBody (top 68), defScope (top 68), [], []⟩
def D__law_spun : He.DefD := ⟨("_law_spun", none), "_law_spun", "_law_spun", defArgs (top 69), defBody (top 69), defScope (top 69), [], []⟩
def D__law_parted : He.DefD := ⟨("_law_parted", none), "_law_parted", "_law_parted", defArgs (top 70), defBody (top 70), defScope (top 70), [], []⟩
def D__law_of_plate : He.DefD := ⟨("_law_of_plate", none), "_law_of_plate", "_law_of_plate", defArgs (top 71), defBody (top 71), defScope (top 71), [], []⟩
def D__law_of_stack : He.DefD := ⟨("_law_of_stack", none), "_law_of_stack", "_law_of_stack", defArgs (top 72), defBody (top 72), defScope (top 72), [], []⟩
def D__law_kind : He.DefD := ⟨("_law_kind", none), "_law_kind", "_law_kind", defArgs (top 73), defBody (top 73), defScope (top 73), [], []⟩
def D__law_setting : He.DefD := ⟨("_law_setting", none), "_law_setting", "_law_setting", defArgs (top 74), defBody (top 74), defScope (top 74), [], []⟩
def D__law_turned : He.DefD := ⟨("_law_turned", none), "_law_turned", "_law_turned", defArgs (top 75), defBody (top 75), defScope (top 75), [], []⟩
def D__law_turn : He.DefD := ⟨("_law_turn", none), "_law_turn", "_law_turn", defArgs (top 76), defBody (top 76), defScope (top 76), [], []⟩
def D__law_share : He.DefD := ⟨("_law_share", none), "_law_share", "_law_share", defArgs (top 77), defBody (top 77), defScope (top 77), [], []⟩
def D__law_plate : He.DefD := ⟨("_law_plate", none), "_law_plate", "_law_plate", defArgs (top 78), defBody (top 78), defScope (top 78), [], []⟩
def D__law_stack : He.DefD := ⟨("_law_stack", none), "_law_stack", "_law_stack", defArgs (top 79), defBody (top 79), defScope (top 79), [], []⟩
def D__law_lamp : He.DefD := ⟨("_law_lamp", none), "_law_lamp", "_law_lamp", defArgs (top 80), defBody (top 80), defScope (top 80), [], []⟩
def D__law_bare : He.DefD := ⟨("_law_bare", none), "_law_bare", "_law_bare", defArgs (top 81), defBody (top 81), defScope (top 81), [], []⟩
def D__law_flip : He.DefD := ⟨("_law_flip", none), "_law_flip", "_law_flip", defArgs (top 82), defBody (top 82), defScope (top 82), [], []⟩
def D__law_opposite : He.DefD := ⟨("_law_opposite", none), "_law_opposite", "_law_opposite", defArgs (top 83), defBody (top 83), defScope (top 83), [], []⟩
def D__law_of_kind : He.DefD := ⟨("_law_of_kind", none), "_law_of_kind", "_law_of_kind", defArgs (top 84), defBody (top 84), defScope (top 84), [], []⟩
def D__law_lamp_for : He.DefD := ⟨("_law_lamp_for", none), "_law_lamp_for", "_law_lamp_for", defArgs (top 85), defBody (top 85), defScope (top 85), [], []⟩
def D__law_dim : He.DefD := ⟨("_law_dim", none), "_law_dim", "_law_dim", defArgs (top 86), defBody (top 86), defScope (top 86), [], []⟩
def D__law_right : He.DefD := ⟨("_law_right", none), "_law_right", "_law_right", defArgs (top 87), defBody (top 87), defScope (top 87), [], []⟩
def D_law : He.DefD := ⟨("law", none), "law", "law", defArgs (top 88), defBody (top 88), defScope (top 88), [], []⟩
def fn0 : List He.DefD := [D_is_whole, D_is_between, D_are_wholes, D_common_part, D_lowest, D_dot, D_lowest_over, D_is_fraction, D_product_of, D_is_like_light, D_is_five, D_is_light]
def fn1 : List He.DefD := [D_is_kind, D_check_light, D_is_setting, D_is_whole_turn, D_back_setting, D_double_of, D_turn_rows, D_reduced_table, D_flipped, D_rows_product, D_led_row, D_led_five]
def fn2 : List He.DefD := [D_product_of_tables, D_is_share, D_is_single, D_is_plate, D_check_stack, D_framed, D_partial_table, D_magnet_table, D_single_table, D_table_with, D_table_along, D_rounds_of]
def fn3 : List He.DefD := [D_after_rounds, D_dark_after, D__law_urn, D__law_pick, D__law_one, D__law_between, D__law_gcd, D__law_ratio, D__law_five, D__law_table, D__law_led, D__law_then]
def fn4 : List He.DefD := [D__law_unit, D__law_spun, D__law_parted, D__law_of_plate, D__law_of_stack, D__law_kind, D__law_setting, D__law_turned, D__law_turn, D__law_share, D__law_plate, D__law_stack]
def fn5 : List He.DefD := [D__law_lamp, D__law_bare, D__law_flip, D__law_opposite, D__law_of_kind, D__law_lamp_for, D__law_dim, D__law_right, D_law]
def fn : List He.DefD := fn0 ++ fn1 ++ fn2 ++ fn3 ++ fn4 ++ fn5
def loose0 : List Str := ["LightError", "InvalidNumber", "InvalidLight", "InvalidStack", "is_whole", "is_between", "are_wholes", "common_part", "lowest", "dot", "lowest_over", "is_fraction", "product_of", "is_like_light", "DARK"]
def loose1 : List Str := ["is_five", "is_light", "is_kind", "check_light", "is_setting", "is_whole_turn", "back_setting", "double_of", "turn_rows", "UNIT_ROWS", "reduced_table", "flipped", "rows_product", "led_row", "led_five"]
def loose2 : List Str := ["product_of_tables", "MOST_PLATES", "SHARES", "is_share", "is_single", "is_plate", "check_stack", "framed", "partial_table", "magnet_table", "single_table", "table_with", "table_along", "MOST_ROUNDS", "rounds_of"]
def loose3 : List Str := ["after_rounds", "dark_after", "_law_urn", "_law_pick", "_law_one", "_law_between", "_law_gcd", "_law_ratio", "_law_five", "_law_table", "_law_led", "_law_then", "_law_unit", "_law_spun", "_law_parted"]
def loose4 : List Str := ["_law_of_plate", "_law_of_stack", "_law_kind", "_law_setting", "_law_turned", "_law_turn", "_law_share", "_law_plate", "_law_stack", "_law_lamp", "_law_bare", "_law_flip", "_law_opposite", "_law_of_kind", "_law_lamp_for"]
def loose5 : List Str := ["_law_dim", "_law_right"]
def loose : List Str := loose0 ++ loose1 ++ loose2 ++ loose3 ++ loose4 ++ loose5
abbrev qv : Program := PySem.W.view R.prog [0, 88]
abbrev hk : PySem.W.Hook := hookZ 4 bs cs defs fn
def ob (s : PySem.W.SharedT) : AlZ := obsZG 4 bs cs defs fn (HandSHeadRun.getT s)
theorem ob_eq (s : PySem.W.SharedT) : ob s = hk.obs s.abs := obsZG_eq (HandSHeadRun.getT_eq s)
section
open HandSHeadRun PySem.W
theorem runL (w : World) : (wholeF (fun p => stepQ (denQ tabQ) p w) fenceQ 20000 R.prog).map (fun x => looksF R.prog x.1.heap x.2.abs) = some true := by
  kernel_rfl
theorem runS (w : World) : (wholeF (fun p => stepQ (denQ tabQ) p w) fenceQ 20000 R.prog).map (fun x => seenQ qv loose (importedModules R.prog.main.body) (fun s => xlAt qv [] s && recOk R.toRowW.records s) x.2.abs) = some (openGood qv loose) := by
  kernel_rfl
theorem runA (w : World) : (wholeF (fun p => stepQ (denQ tabQ) p w) fenceQ 20000 R.prog).map (fun x => (ob x.2).1) = some true := by
  kernel_rfl
theorem runB (w : World) : (wholeF (fun p => stepQ (denQ tabQ) p w) fenceQ 20000 R.prog).map (fun x => (ob x.2).2) = some (fn.map He.DefD.val) := by
  kernel_rfl
end
theorem run (w : World) : HandSHeadRun.RunEqI R qv hk ob 20000 loose w := map_four (runL w) (runS w) (runA w) (runB w)
end K76
end
section
set_option Elab.async false
set_option linter.all false
set_option maxRecDepth 100000
set_option maxHeartbeats 0
/-! K76C: from the law's plain word to the row; printed by mk.py. -/
namespace K76
open PySem PySem.Spec PyProof.Rows L2 Zd
section
variable {Kf : PySem.W.Frag} {mg : Str → Option Value}
abbrev Fd (Kf : PySem.W.Frag) (D : He.DefD) : Prop := ∃ fd, FunD Kf D.name D.qual D.params D.body D.scope (D.dvs Kf) (D.kws Kf) (He.fAd Kf D.at_) fd
theorem z_is_whole (m : mg "is_whole" = some (.ref (He.ga Kf "is_whole"))) (h : Fd Kf D_is_whole) : DefZ Kf mg tb (inBf bs) (cs.map (·.1)) defs kw "is_whole" := by
  obtain ⟨fd, F⟩ := h
  have F' : FunD Kf D_is_whole.name D_is_whole.qual D_is_whole.params D_is_whole.body D_is_whole.scope [] [] (He.fAd Kf D_is_whole.at_) fd := F
  have b : Binds Kf fd d_is_whole.ps [] := F'.bindsN fun _ _ _ _ _ _ us hl => match us, hl with | [_], _ => rfl
  have k : KwB Kf fd d_is_whole.ps [] := kwN F' fun _ _ _ _ _ _ => all_nil
  have e : kw "is_whole" = ([] : List (List Str × List Nat)) := by kernel_rfl
  exact ⟨d_is_whole, D_is_whole, fd, 200, by kernel_rfl, m, F', b, e ▸ k, sc_is_whole, ck_is_whole⟩
theorem z_is_between (m : mg "is_between" = some (.ref (He.ga Kf "is_between"))) (h : Fd Kf D_is_between) : DefZ Kf mg tb (inBf bs) (cs.map (·.1)) defs kw "is_between" := by
  obtain ⟨fd, F⟩ := h
  have F' : FunD Kf D_is_between.name D_is_between.qual D_is_between.params D_is_between.body D_is_between.scope [] [] (He.fAd Kf D_is_between.at_) fd := F
  have b : Binds Kf fd d_is_between.ps [] := F'.bindsN fun _ _ _ _ _ _ us hl => match us, hl with | [_, _, _], _ => rfl
  have k : KwB Kf fd d_is_between.ps [] := kwN F' fun _ _ _ _ _ _ => all_nil
  have e : kw "is_between" = ([] : List (List Str × List Nat)) := by kernel_rfl
  exact ⟨d_is_between, D_is_between, fd, 200, by kernel_rfl, m, F', b, e ▸ k, sc_is_between, ck_is_between⟩
theorem z_are_wholes (m : mg "are_wholes" = some (.ref (He.ga Kf "are_wholes"))) (h : Fd Kf D_are_wholes) : DefZ Kf mg tb (inBf bs) (cs.map (·.1)) defs kw "are_wholes" := by
  obtain ⟨fd, F⟩ := h
  have F' : FunD Kf D_are_wholes.name D_are_wholes.qual D_are_wholes.params D_are_wholes.body D_are_wholes.scope [] [] (He.fAd Kf D_are_wholes.at_) fd := F
  have b : Binds Kf fd d_are_wholes.ps [] := F'.bindsN fun _ _ _ _ _ _ us hl => match us, hl with | [_, _], _ => rfl
  have k : KwB Kf fd d_are_wholes.ps [] := kwN F' fun _ _ _ _ _ _ => all_nil
  have e : kw "are_wholes" = ([] : List (List Str × List Nat)) := by kernel_rfl
  exact ⟨d_are_wholes, D_are_wholes, fd, 200, by kernel_rfl, m, F', b, e ▸ k, sc_are_wholes, ck_are_wholes⟩
theorem z_common_part (m : mg "common_part" = some (.ref (He.ga Kf "common_part"))) (h : Fd Kf D_common_part) : DefZ Kf mg tb (inBf bs) (cs.map (·.1)) defs kw "common_part" := by
  obtain ⟨fd, F⟩ := h
  have F' : FunD Kf D_common_part.name D_common_part.qual D_common_part.params D_common_part.body D_common_part.scope [] [] (He.fAd Kf D_common_part.at_) fd := F
  have b : Binds Kf fd d_common_part.ps [] := F'.bindsN fun _ _ _ _ _ _ us hl => match us, hl with | [_], _ => rfl
  have k : KwB Kf fd d_common_part.ps [] := kwN F' fun _ _ _ _ _ _ => all_nil
  have e : kw "common_part" = ([] : List (List Str × List Nat)) := by kernel_rfl
  exact ⟨d_common_part, D_common_part, fd, 200, by kernel_rfl, m, F', b, e ▸ k, sc_common_part, ck_common_part⟩
theorem z_lowest (m : mg "lowest" = some (.ref (He.ga Kf "lowest"))) (h : Fd Kf D_lowest) : DefZ Kf mg tb (inBf bs) (cs.map (·.1)) defs kw "lowest" := by
  obtain ⟨fd, F⟩ := h
  have F' : FunD Kf D_lowest.name D_lowest.qual D_lowest.params D_lowest.body D_lowest.scope [] [] (He.fAd Kf D_lowest.at_) fd := F
  have b : Binds Kf fd d_lowest.ps [] := F'.bindsN fun _ _ _ _ _ _ us hl => match us, hl with | [_], _ => rfl
  have k : KwB Kf fd d_lowest.ps [] := kwN F' fun _ _ _ _ _ _ => all_nil
  have e : kw "lowest" = ([] : List (List Str × List Nat)) := by kernel_rfl
  exact ⟨d_lowest, D_lowest, fd, 200, by kernel_rfl, m, F', b, e ▸ k, sc_lowest, ck_lowest⟩
theorem z_dot (m : mg "dot" = some (.ref (He.ga Kf "dot"))) (h : Fd Kf D_dot) : DefZ Kf mg tb (inBf bs) (cs.map (·.1)) defs kw "dot" := by
  obtain ⟨fd, F⟩ := h
  have F' : FunD Kf D_dot.name D_dot.qual D_dot.params D_dot.body D_dot.scope [] [] (He.fAd Kf D_dot.at_) fd := F
  have b : Binds Kf fd d_dot.ps [] := F'.bindsN fun _ _ _ _ _ _ us hl => match us, hl with | [_, _], _ => rfl
  have k : KwB Kf fd d_dot.ps [] := kwN F' fun _ _ _ _ _ _ => all_nil
  have e : kw "dot" = ([] : List (List Str × List Nat)) := by kernel_rfl
  exact ⟨d_dot, D_dot, fd, 200, by kernel_rfl, m, F', b, e ▸ k, sc_dot, ck_dot⟩
theorem z_lowest_over (m : mg "lowest_over" = some (.ref (He.ga Kf "lowest_over"))) (h : Fd Kf D_lowest_over) : DefZ Kf mg tb (inBf bs) (cs.map (·.1)) defs kw "lowest_over" := by
  obtain ⟨fd, F⟩ := h
  have F' : FunD Kf D_lowest_over.name D_lowest_over.qual D_lowest_over.params D_lowest_over.body D_lowest_over.scope [] [] (He.fAd Kf D_lowest_over.at_) fd := F
  have b : Binds Kf fd d_lowest_over.ps [] := F'.bindsN fun _ _ _ _ _ _ us hl => match us, hl with | [_, _], _ => rfl
  have k : KwB Kf fd d_lowest_over.ps [] := kwN F' fun _ _ _ _ _ _ => all_nil
  have e : kw "lowest_over" = ([] : List (List Str × List Nat)) := by kernel_rfl
  exact ⟨d_lowest_over, D_lowest_over, fd, 200, by kernel_rfl, m, F', b, e ▸ k, sc_lowest_over, ck_lowest_over⟩
theorem z_is_fraction (m : mg "is_fraction" = some (.ref (He.ga Kf "is_fraction"))) (h : Fd Kf D_is_fraction) : DefZ Kf mg tb (inBf bs) (cs.map (·.1)) defs kw "is_fraction" := by
  obtain ⟨fd, F⟩ := h
  have F' : FunD Kf D_is_fraction.name D_is_fraction.qual D_is_fraction.params D_is_fraction.body D_is_fraction.scope [] [] (He.fAd Kf D_is_fraction.at_) fd := F
  have b : Binds Kf fd d_is_fraction.ps [] := F'.bindsN fun _ _ _ _ _ _ us hl => match us, hl with | [_], _ => rfl
  have k : KwB Kf fd d_is_fraction.ps [] := kwN F' fun _ _ _ _ _ _ => all_nil
  have e : kw "is_fraction" = ([] : List (List Str × List Nat)) := by kernel_rfl
  exact ⟨d_is_fraction, D_is_fraction, fd, 200, by kernel_rfl, m, F', b, e ▸ k, sc_is_fraction, ck_is_fraction⟩
theorem z_product_of (m : mg "product_of" = some (.ref (He.ga Kf "product_of"))) (h : Fd Kf D_product_of) : DefZ Kf mg tb (inBf bs) (cs.map (·.1)) defs kw "product_of" := by
  obtain ⟨fd, F⟩ := h
  have F' : FunD Kf D_product_of.name D_product_of.qual D_product_of.params D_product_of.body D_product_of.scope [] [] (He.fAd Kf D_product_of.at_) fd := F
  have b : Binds Kf fd d_product_of.ps [] := F'.bindsN fun _ _ _ _ _ _ us hl => match us, hl with | [_, _], _ => rfl
  have k : KwB Kf fd d_product_of.ps [] := kwN F' fun _ _ _ _ _ _ => all_nil
  have e : kw "product_of" = ([] : List (List Str × List Nat)) := by kernel_rfl
  exact ⟨d_product_of, D_product_of, fd, 200, by kernel_rfl, m, F', b, e ▸ k, sc_product_of, ck_product_of⟩
theorem z_is_like_light (m : mg "is_like_light" = some (.ref (He.ga Kf "is_like_light"))) (h : Fd Kf D_is_like_light) : DefZ Kf mg tb (inBf bs) (cs.map (·.1)) defs kw "is_like_light" := by
  obtain ⟨fd, F⟩ := h
  have F' : FunD Kf D_is_like_light.name D_is_like_light.qual D_is_like_light.params D_is_like_light.body D_is_like_light.scope [] [] (He.fAd Kf D_is_like_light.at_) fd := F
  have b : Binds Kf fd d_is_like_light.ps [] := F'.bindsN fun _ _ _ _ _ _ us hl => match us, hl with | [_], _ => rfl
  have k : KwB Kf fd d_is_like_light.ps [] := kwN F' fun _ _ _ _ _ _ => all_nil
  have e : kw "is_like_light" = ([] : List (List Str × List Nat)) := by kernel_rfl
  exact ⟨d_is_like_light, D_is_like_light, fd, 200, by kernel_rfl, m, F', b, e ▸ k, sc_is_like_light, ck_is_like_light⟩
theorem z_is_five (m : mg "is_five" = some (.ref (He.ga Kf "is_five"))) (h : Fd Kf D_is_five) : DefZ Kf mg tb (inBf bs) (cs.map (·.1)) defs kw "is_five" := by
  obtain ⟨fd, F⟩ := h
  have F' : FunD Kf D_is_five.name D_is_five.qual D_is_five.params D_is_five.body D_is_five.scope [] [] (He.fAd Kf D_is_five.at_) fd := F
  have b : Binds Kf fd d_is_five.ps [] := F'.bindsN fun _ _ _ _ _ _ us hl => match us, hl with | [_], _ => rfl
  have k : KwB Kf fd d_is_five.ps [] := kwN F' fun _ _ _ _ _ _ => all_nil
  have e : kw "is_five" = ([] : List (List Str × List Nat)) := by kernel_rfl
  exact ⟨d_is_five, D_is_five, fd, 200, by kernel_rfl, m, F', b, e ▸ k, sc_is_five, ck_is_five⟩
theorem z_is_light (m : mg "is_light" = some (.ref (He.ga Kf "is_light"))) (h : Fd Kf D_is_light) : DefZ Kf mg tb (inBf bs) (cs.map (·.1)) defs kw "is_light" := by
  obtain ⟨fd, F⟩ := h
  have F' : FunD Kf D_is_light.name D_is_light.qual D_is_light.params D_is_light.body D_is_light.scope [] [] (He.fAd Kf D_is_light.at_) fd := F
  have b : Binds Kf fd d_is_light.ps [] := F'.bindsN fun _ _ _ _ _ _ us hl => match us, hl with | [_], _ => rfl
  have k : KwB Kf fd d_is_light.ps [] := kwN F' fun _ _ _ _ _ _ => all_nil
  have e : kw "is_light" = ([] : List (List Str × List Nat)) := by kernel_rfl
  exact ⟨d_is_light, D_is_light, fd, 200, by kernel_rfl, m, F', b, e ▸ k, sc_is_light, ck_is_light⟩
theorem z_is_kind (m : mg "is_kind" = some (.ref (He.ga Kf "is_kind"))) (h : Fd Kf D_is_kind) : DefZ Kf mg tb (inBf bs) (cs.map (·.1)) defs kw "is_kind" := by
  obtain ⟨fd, F⟩ := h
  have F' : FunD Kf D_is_kind.name D_is_kind.qual D_is_kind.params D_is_kind.body D_is_kind.scope [] [] (He.fAd Kf D_is_kind.at_) fd := F
  have b : Binds Kf fd d_is_kind.ps [] := F'.bindsN fun _ _ _ _ _ _ us hl => match us, hl with | [_], _ => rfl
  have k : KwB Kf fd d_is_kind.ps [] := kwN F' fun _ _ _ _ _ _ => all_nil
  have e : kw "is_kind" = ([] : List (List Str × List Nat)) := by kernel_rfl
  exact ⟨d_is_kind, D_is_kind, fd, 200, by kernel_rfl, m, F', b, e ▸ k, sc_is_kind, ck_is_kind⟩
theorem z_check_light (m : mg "check_light" = some (.ref (He.ga Kf "check_light"))) (h : Fd Kf D_check_light) : DefZ Kf mg tb (inBf bs) (cs.map (·.1)) defs kw "check_light" := by
  obtain ⟨fd, F⟩ := h
  have F' : FunD Kf D_check_light.name D_check_light.qual D_check_light.params D_check_light.body D_check_light.scope [] [] (He.fAd Kf D_check_light.at_) fd := F
  have b : Binds Kf fd d_check_light.ps [] := F'.bindsN fun _ _ _ _ _ _ us hl => match us, hl with | [_], _ => rfl
  have k : KwB Kf fd d_check_light.ps [] := kwN F' fun _ _ _ _ _ _ => all_nil
  have e : kw "check_light" = ([] : List (List Str × List Nat)) := by kernel_rfl
  exact ⟨d_check_light, D_check_light, fd, 200, by kernel_rfl, m, F', b, e ▸ k, sc_check_light, ck_check_light⟩
theorem z_is_setting (m : mg "is_setting" = some (.ref (He.ga Kf "is_setting"))) (h : Fd Kf D_is_setting) : DefZ Kf mg tb (inBf bs) (cs.map (·.1)) defs kw "is_setting" := by
  obtain ⟨fd, F⟩ := h
  have F' : FunD Kf D_is_setting.name D_is_setting.qual D_is_setting.params D_is_setting.body D_is_setting.scope [] [] (He.fAd Kf D_is_setting.at_) fd := F
  have b : Binds Kf fd d_is_setting.ps [] := F'.bindsN fun _ _ _ _ _ _ us hl => match us, hl with | [_], _ => rfl
  have k : KwB Kf fd d_is_setting.ps [] := kwN F' fun _ _ _ _ _ _ => all_nil
  have e : kw "is_setting" = ([] : List (List Str × List Nat)) := by kernel_rfl
  exact ⟨d_is_setting, D_is_setting, fd, 200, by kernel_rfl, m, F', b, e ▸ k, sc_is_setting, ck_is_setting⟩
theorem z_is_whole_turn (m : mg "is_whole_turn" = some (.ref (He.ga Kf "is_whole_turn"))) (h : Fd Kf D_is_whole_turn) : DefZ Kf mg tb (inBf bs) (cs.map (·.1)) defs kw "is_whole_turn" := by
  obtain ⟨fd, F⟩ := h
  have F' : FunD Kf D_is_whole_turn.name D_is_whole_turn.qual D_is_whole_turn.params D_is_whole_turn.body D_is_whole_turn.scope [] [] (He.fAd Kf D_is_whole_turn.at_) fd := F
  have b : Binds Kf fd d_is_whole_turn.ps [] := F'.bindsN fun _ _ _ _ _ _ us hl => match us, hl with | [_], _ => rfl
  have k : KwB Kf fd d_is_whole_turn.ps [] := kwN F' fun _ _ _ _ _ _ => all_nil
  have e : kw "is_whole_turn" = ([] : List (List Str × List Nat)) := by kernel_rfl
  exact ⟨d_is_whole_turn, D_is_whole_turn, fd, 200, by kernel_rfl, m, F', b, e ▸ k, sc_is_whole_turn, ck_is_whole_turn⟩
theorem z_back_setting (m : mg "back_setting" = some (.ref (He.ga Kf "back_setting"))) (h : Fd Kf D_back_setting) : DefZ Kf mg tb (inBf bs) (cs.map (·.1)) defs kw "back_setting" := by
  obtain ⟨fd, F⟩ := h
  have F' : FunD Kf D_back_setting.name D_back_setting.qual D_back_setting.params D_back_setting.body D_back_setting.scope [] [] (He.fAd Kf D_back_setting.at_) fd := F
  have b : Binds Kf fd d_back_setting.ps [] := F'.bindsN fun _ _ _ _ _ _ us hl => match us, hl with | [_], _ => rfl
  have k : KwB Kf fd d_back_setting.ps [] := kwN F' fun _ _ _ _ _ _ => all_nil
  have e : kw "back_setting" = ([] : List (List Str × List Nat)) := by kernel_rfl
  exact ⟨d_back_setting, D_back_setting, fd, 200, by kernel_rfl, m, F', b, e ▸ k, sc_back_setting, ck_back_setting⟩
theorem z_double_of (m : mg "double_of" = some (.ref (He.ga Kf "double_of"))) (h : Fd Kf D_double_of) : DefZ Kf mg tb (inBf bs) (cs.map (·.1)) defs kw "double_of" := by
  obtain ⟨fd, F⟩ := h
  have F' : FunD Kf D_double_of.name D_double_of.qual D_double_of.params D_double_of.body D_double_of.scope [] [] (He.fAd Kf D_double_of.at_) fd := F
  have b : Binds Kf fd d_double_of.ps [] := F'.bindsN fun _ _ _ _ _ _ us hl => match us, hl with | [_], _ => rfl
  have k : KwB Kf fd d_double_of.ps [] := kwN F' fun _ _ _ _ _ _ => all_nil
  have e : kw "double_of" = ([] : List (List Str × List Nat)) := by kernel_rfl
  exact ⟨d_double_of, D_double_of, fd, 200, by kernel_rfl, m, F', b, e ▸ k, sc_double_of, ck_double_of⟩
theorem z_turn_rows (m : mg "turn_rows" = some (.ref (He.ga Kf "turn_rows"))) (h : Fd Kf D_turn_rows) : DefZ Kf mg tb (inBf bs) (cs.map (·.1)) defs kw "turn_rows" := by
  obtain ⟨fd, F⟩ := h
  have F' : FunD Kf D_turn_rows.name D_turn_rows.qual D_turn_rows.params D_turn_rows.body D_turn_rows.scope [] [] (He.fAd Kf D_turn_rows.at_) fd := F
  have b : Binds Kf fd d_turn_rows.ps [] := F'.bindsN fun _ _ _ _ _ _ us hl => match us, hl with | [_], _ => rfl
  have k : KwB Kf fd d_turn_rows.ps [] := kwN F' fun _ _ _ _ _ _ => all_nil
  have e : kw "turn_rows" = ([] : List (List Str × List Nat)) := by kernel_rfl
  exact ⟨d_turn_rows, D_turn_rows, fd, 200, by kernel_rfl, m, F', b, e ▸ k, sc_turn_rows, ck_turn_rows⟩
theorem z_reduced_table (m : mg "reduced_table" = some (.ref (He.ga Kf "reduced_table"))) (h : Fd Kf D_reduced_table) : DefZ Kf mg tb (inBf bs) (cs.map (·.1)) defs kw "reduced_table" := by
  obtain ⟨fd, F⟩ := h
  have F' : FunD Kf D_reduced_table.name D_reduced_table.qual D_reduced_table.params D_reduced_table.body D_reduced_table.scope [] [] (He.fAd Kf D_reduced_table.at_) fd := F
  have b : Binds Kf fd d_reduced_table.ps [] := F'.bindsN fun _ _ _ _ _ _ us hl => match us, hl with | [_, _], _ => rfl
  have k : KwB Kf fd d_reduced_table.ps [] := kwN F' fun _ _ _ _ _ _ => all_nil
  have e : kw "reduced_table" = ([] : List (List Str × List Nat)) := by kernel_rfl
  exact ⟨d_reduced_table, D_reduced_table, fd, 200, by kernel_rfl, m, F', b, e ▸ k, sc_reduced_table, ck_reduced_table⟩
theorem z_flipped (m : mg "flipped" = some (.ref (He.ga Kf "flipped"))) (h : Fd Kf D_flipped) : DefZ Kf mg tb (inBf bs) (cs.map (·.1)) defs kw "flipped" := by
  obtain ⟨fd, F⟩ := h
  have F' : FunD Kf D_flipped.name D_flipped.qual D_flipped.params D_flipped.body D_flipped.scope [] [] (He.fAd Kf D_flipped.at_) fd := F
  have b : Binds Kf fd d_flipped.ps [] := F'.bindsN fun _ _ _ _ _ _ us hl => match us, hl with | [_], _ => rfl
  have k : KwB Kf fd d_flipped.ps [] := kwN F' fun _ _ _ _ _ _ => all_nil
  have e : kw "flipped" = ([] : List (List Str × List Nat)) := by kernel_rfl
  exact ⟨d_flipped, D_flipped, fd, 200, by kernel_rfl, m, F', b, e ▸ k, sc_flipped, ck_flipped⟩
theorem z_rows_product (m : mg "rows_product" = some (.ref (He.ga Kf "rows_product"))) (h : Fd Kf D_rows_product) : DefZ Kf mg tb (inBf bs) (cs.map (·.1)) defs kw "rows_product" := by
  obtain ⟨fd, F⟩ := h
  have F' : FunD Kf D_rows_product.name D_rows_product.qual D_rows_product.params D_rows_product.body D_rows_product.scope [] [] (He.fAd Kf D_rows_product.at_) fd := F
  have b : Binds Kf fd d_rows_product.ps [] := F'.bindsN fun _ _ _ _ _ _ us hl => match us, hl with | [_, _], _ => rfl
  have k : KwB Kf fd d_rows_product.ps [] := kwN F' fun _ _ _ _ _ _ => all_nil
  have e : kw "rows_product" = ([] : List (List Str × List Nat)) := by kernel_rfl
  exact ⟨d_rows_product, D_rows_product, fd, 200, by kernel_rfl, m, F', b, e ▸ k, sc_rows_product, ck_rows_product⟩
theorem z_led_row (m : mg "led_row" = some (.ref (He.ga Kf "led_row"))) (h : Fd Kf D_led_row) : DefZ Kf mg tb (inBf bs) (cs.map (·.1)) defs kw "led_row" := by
  obtain ⟨fd, F⟩ := h
  have F' : FunD Kf D_led_row.name D_led_row.qual D_led_row.params D_led_row.body D_led_row.scope [] [] (He.fAd Kf D_led_row.at_) fd := F
  have b : Binds Kf fd d_led_row.ps [] := F'.bindsN fun _ _ _ _ _ _ us hl => match us, hl with | [_, _], _ => rfl
  have k : KwB Kf fd d_led_row.ps [] := kwN F' fun _ _ _ _ _ _ => all_nil
  have e : kw "led_row" = ([] : List (List Str × List Nat)) := by kernel_rfl
  exact ⟨d_led_row, D_led_row, fd, 200, by kernel_rfl, m, F', b, e ▸ k, sc_led_row, ck_led_row⟩
theorem z_led_five (m : mg "led_five" = some (.ref (He.ga Kf "led_five"))) (h : Fd Kf D_led_five) : DefZ Kf mg tb (inBf bs) (cs.map (·.1)) defs kw "led_five" := by
  obtain ⟨fd, F⟩ := h
  have F' : FunD Kf D_led_five.name D_led_five.qual D_led_five.params D_led_five.body D_led_five.scope [] [] (He.fAd Kf D_led_five.at_) fd := F
  have b : Binds Kf fd d_led_five.ps [] := F'.bindsN fun _ _ _ _ _ _ us hl => match us, hl with | [_, _], _ => rfl
  have k : KwB Kf fd d_led_five.ps [] := kwN F' fun _ _ _ _ _ _ => all_nil
  have e : kw "led_five" = ([] : List (List Str × List Nat)) := by kernel_rfl
  exact ⟨d_led_five, D_led_five, fd, 200, by kernel_rfl, m, F', b, e ▸ k, sc_led_five, ck_led_five⟩
theorem z_product_of_tables (m : mg "product_of_tables" = some (.ref (He.ga Kf "product_of_tables"))) (h : Fd Kf D_product_of_tables) : DefZ Kf mg tb (inBf bs) (cs.map (·.1)) defs kw "product_of_tables" := by
  obtain ⟨fd, F⟩ := h
  have F' : FunD Kf D_product_of_tables.name D_product_of_tables.qual D_product_of_tables.params D_product_of_tables.body D_product_of_tables.scope [] [] (He.fAd Kf D_product_of_tables.at_) fd := F
  have b : Binds Kf fd d_product_of_tables.ps [] := F'.bindsN fun _ _ _ _ _ _ us hl => match us, hl with | [_, _], _ => rfl
  have k : KwB Kf fd d_product_of_tables.ps [] := kwN F' fun _ _ _ _ _ _ => all_nil
  have e : kw "product_of_tables" = ([] : List (List Str × List Nat)) := by kernel_rfl
  exact ⟨d_product_of_tables, D_product_of_tables, fd, 200, by kernel_rfl, m, F', b, e ▸ k, sc_product_of_tables, ck_product_of_tables⟩
theorem z_is_share (m : mg "is_share" = some (.ref (He.ga Kf "is_share"))) (h : Fd Kf D_is_share) : DefZ Kf mg tb (inBf bs) (cs.map (·.1)) defs kw "is_share" := by
  obtain ⟨fd, F⟩ := h
  have F' : FunD Kf D_is_share.name D_is_share.qual D_is_share.params D_is_share.body D_is_share.scope [] [] (He.fAd Kf D_is_share.at_) fd := F
  have b : Binds Kf fd d_is_share.ps [] := F'.bindsN fun _ _ _ _ _ _ us hl => match us, hl with | [_], _ => rfl
  have k : KwB Kf fd d_is_share.ps [] := kwN F' fun _ _ _ _ _ _ => all_nil
  have e : kw "is_share" = ([] : List (List Str × List Nat)) := by kernel_rfl
  exact ⟨d_is_share, D_is_share, fd, 200, by kernel_rfl, m, F', b, e ▸ k, sc_is_share, ck_is_share⟩
theorem z_is_single (m : mg "is_single" = some (.ref (He.ga Kf "is_single"))) (h : Fd Kf D_is_single) : DefZ Kf mg tb (inBf bs) (cs.map (·.1)) defs kw "is_single" := by
  obtain ⟨fd, F⟩ := h
  have F' : FunD Kf D_is_single.name D_is_single.qual D_is_single.params D_is_single.body D_is_single.scope [] [] (He.fAd Kf D_is_single.at_) fd := F
  have b : Binds Kf fd d_is_single.ps [] := F'.bindsN fun _ _ _ _ _ _ us hl => match us, hl with | [_], _ => rfl
  have k : KwB Kf fd d_is_single.ps [] := kwN F' fun _ _ _ _ _ _ => all_nil
  have e : kw "is_single" = ([] : List (List Str × List Nat)) := by kernel_rfl
  exact ⟨d_is_single, D_is_single, fd, 200, by kernel_rfl, m, F', b, e ▸ k, sc_is_single, ck_is_single⟩
theorem z_is_plate (m : mg "is_plate" = some (.ref (He.ga Kf "is_plate"))) (h : Fd Kf D_is_plate) : DefZ Kf mg tb (inBf bs) (cs.map (·.1)) defs kw "is_plate" := by
  obtain ⟨fd, F⟩ := h
  have F' : FunD Kf D_is_plate.name D_is_plate.qual D_is_plate.params D_is_plate.body D_is_plate.scope [] [] (He.fAd Kf D_is_plate.at_) fd := F
  have b : Binds Kf fd d_is_plate.ps [] := F'.bindsN fun _ _ _ _ _ _ us hl => match us, hl with | [_], _ => rfl
  have k : KwB Kf fd d_is_plate.ps [] := kwN F' fun _ _ _ _ _ _ => all_nil
  have e : kw "is_plate" = ([] : List (List Str × List Nat)) := by kernel_rfl
  exact ⟨d_is_plate, D_is_plate, fd, 200, by kernel_rfl, m, F', b, e ▸ k, sc_is_plate, ck_is_plate⟩
theorem z_check_stack (m : mg "check_stack" = some (.ref (He.ga Kf "check_stack"))) (h : Fd Kf D_check_stack) : DefZ Kf mg tb (inBf bs) (cs.map (·.1)) defs kw "check_stack" := by
  obtain ⟨fd, F⟩ := h
  have F' : FunD Kf D_check_stack.name D_check_stack.qual D_check_stack.params D_check_stack.body D_check_stack.scope [] [] (He.fAd Kf D_check_stack.at_) fd := F
  have b : Binds Kf fd d_check_stack.ps [] := F'.bindsN fun _ _ _ _ _ _ us hl => match us, hl with | [_], _ => rfl
  have k : KwB Kf fd d_check_stack.ps [] := kwN F' fun _ _ _ _ _ _ => all_nil
  have e : kw "check_stack" = ([] : List (List Str × List Nat)) := by kernel_rfl
  exact ⟨d_check_stack, D_check_stack, fd, 200, by kernel_rfl, m, F', b, e ▸ k, sc_check_stack, ck_check_stack⟩
theorem z_framed (m : mg "framed" = some (.ref (He.ga Kf "framed"))) (h : Fd Kf D_framed) : DefZ Kf mg tb (inBf bs) (cs.map (·.1)) defs kw "framed" := by
  obtain ⟨fd, F⟩ := h
  have F' : FunD Kf D_framed.name D_framed.qual D_framed.params D_framed.body D_framed.scope [] [] (He.fAd Kf D_framed.at_) fd := F
  have b : Binds Kf fd d_framed.ps [] := F'.bindsN fun _ _ _ _ _ _ us hl => match us, hl with | [_, _, _], _ => rfl
  have k : KwB Kf fd d_framed.ps [] := kwN F' fun _ _ _ _ _ _ => all_nil
  have e : kw "framed" = ([] : List (List Str × List Nat)) := by kernel_rfl
  exact ⟨d_framed, D_framed, fd, 200, by kernel_rfl, m, F', b, e ▸ k, sc_framed, ck_framed⟩
theorem z_partial_table (m : mg "partial_table" = some (.ref (He.ga Kf "partial_table"))) (h : Fd Kf D_partial_table) : DefZ Kf mg tb (inBf bs) (cs.map (·.1)) defs kw "partial_table" := by
  obtain ⟨fd, F⟩ := h
  have F' : FunD Kf D_partial_table.name D_partial_table.qual D_partial_table.params D_partial_table.body D_partial_table.scope [] [] (He.fAd Kf D_partial_table.at_) fd := F
  have b : Binds Kf fd d_partial_table.ps [] := F'.bindsN fun _ _ _ _ _ _ us hl => match us, hl with | [_, _, _], _ => rfl
  have k : KwB Kf fd d_partial_table.ps [] := kwN F' fun _ _ _ _ _ _ => all_nil
  have e : kw "partial_table" = ([] : List (List Str × List Nat)) := by kernel_rfl
  exact ⟨d_partial_table, D_partial_table, fd, 200, by kernel_rfl, m, F', b, e ▸ k, sc_partial_table, ck_partial_table⟩
theorem z_magnet_table (m : mg "magnet_table" = some (.ref (He.ga Kf "magnet_table"))) (h : Fd Kf D_magnet_table) : DefZ Kf mg tb (inBf bs) (cs.map (·.1)) defs kw "magnet_table" := by
  obtain ⟨fd, F⟩ := h
  have F' : FunD Kf D_magnet_table.name D_magnet_table.qual D_magnet_table.params D_magnet_table.body D_magnet_table.scope [] [] (He.fAd Kf D_magnet_table.at_) fd := F
  have b : Binds Kf fd d_magnet_table.ps [] := F'.bindsN fun _ _ _ _ _ _ us hl => match us, hl with | [_], _ => rfl
  have k : KwB Kf fd d_magnet_table.ps [] := kwN F' fun _ _ _ _ _ _ => all_nil
  have e : kw "magnet_table" = ([] : List (List Str × List Nat)) := by kernel_rfl
  exact ⟨d_magnet_table, D_magnet_table, fd, 200, by kernel_rfl, m, F', b, e ▸ k, sc_magnet_table, ck_magnet_table⟩
theorem z_single_table (m : mg "single_table" = some (.ref (He.ga Kf "single_table"))) (h : Fd Kf D_single_table) : DefZ Kf mg tb (inBf bs) (cs.map (·.1)) defs kw "single_table" := by
  obtain ⟨fd, F⟩ := h
  have F' : FunD Kf D_single_table.name D_single_table.qual D_single_table.params D_single_table.body D_single_table.scope [] [] (He.fAd Kf D_single_table.at_) fd := F
  have b : Binds Kf fd d_single_table.ps [] := F'.bindsN fun _ _ _ _ _ _ us hl => match us, hl with | [_], _ => rfl
  have k : KwB Kf fd d_single_table.ps [] := kwN F' fun _ _ _ _ _ _ => all_nil
  have e : kw "single_table" = ([] : List (List Str × List Nat)) := by kernel_rfl
  exact ⟨d_single_table, D_single_table, fd, 200, by kernel_rfl, m, F', b, e ▸ k, sc_single_table, ck_single_table⟩
theorem z_table_with (m : mg "table_with" = some (.ref (He.ga Kf "table_with"))) (h : Fd Kf D_table_with) : DefZ Kf mg tb (inBf bs) (cs.map (·.1)) defs kw "table_with" := by
  obtain ⟨fd, F⟩ := h
  have F' : FunD Kf D_table_with.name D_table_with.qual D_table_with.params D_table_with.body D_table_with.scope [] [] (He.fAd Kf D_table_with.at_) fd := F
  have b : Binds Kf fd d_table_with.ps [] := F'.bindsN fun _ _ _ _ _ _ us hl => match us, hl with | [_], _ => rfl
  have k : KwB Kf fd d_table_with.ps [] := kwN F' fun _ _ _ _ _ _ => all_nil
  have e : kw "table_with" = ([] : List (List Str × List Nat)) := by kernel_rfl
  exact ⟨d_table_with, D_table_with, fd, 200, by kernel_rfl, m, F', b, e ▸ k, sc_table_with, ck_table_with⟩
theorem z_table_along (m : mg "table_along" = some (.ref (He.ga Kf "table_along"))) (h : Fd Kf D_table_along) : DefZ Kf mg tb (inBf bs) (cs.map (·.1)) defs kw "table_along" := by
  obtain ⟨fd, F⟩ := h
  have F' : FunD Kf D_table_along.name D_table_along.qual D_table_along.params D_table_along.body D_table_along.scope [] [] (He.fAd Kf D_table_along.at_) fd := F
  have b : Binds Kf fd d_table_along.ps [] := F'.bindsN fun _ _ _ _ _ _ us hl => match us, hl with | [_], _ => rfl
  have k : KwB Kf fd d_table_along.ps [] := kwN F' fun _ _ _ _ _ _ => all_nil
  have e : kw "table_along" = ([] : List (List Str × List Nat)) := by kernel_rfl
  exact ⟨d_table_along, D_table_along, fd, 200, by kernel_rfl, m, F', b, e ▸ k, sc_table_along, ck_table_along⟩
theorem z_rounds_of (m : mg "rounds_of" = some (.ref (He.ga Kf "rounds_of"))) (h : Fd Kf D_rounds_of) : DefZ Kf mg tb (inBf bs) (cs.map (·.1)) defs kw "rounds_of" := by
  obtain ⟨fd, F⟩ := h
  have F' : FunD Kf D_rounds_of.name D_rounds_of.qual D_rounds_of.params D_rounds_of.body D_rounds_of.scope [] [] (He.fAd Kf D_rounds_of.at_) fd := F
  have b : Binds Kf fd d_rounds_of.ps [] := F'.bindsN fun _ _ _ _ _ _ us hl => match us, hl with | [_, _, _], _ => rfl
  have k : KwB Kf fd d_rounds_of.ps [] := kwN F' fun _ _ _ _ _ _ => all_nil
  have e : kw "rounds_of" = ([] : List (List Str × List Nat)) := by kernel_rfl
  exact ⟨d_rounds_of, D_rounds_of, fd, 200, by kernel_rfl, m, F', b, e ▸ k, sc_rounds_of, ck_rounds_of⟩
theorem z_after_rounds (m : mg "after_rounds" = some (.ref (He.ga Kf "after_rounds"))) (h : Fd Kf D_after_rounds) : DefZ Kf mg tb (inBf bs) (cs.map (·.1)) defs kw "after_rounds" := by
  obtain ⟨fd, F⟩ := h
  have F' : FunD Kf D_after_rounds.name D_after_rounds.qual D_after_rounds.params D_after_rounds.body D_after_rounds.scope [] [] (He.fAd Kf D_after_rounds.at_) fd := F
  have b : Binds Kf fd d_after_rounds.ps [] := F'.bindsN fun _ _ _ _ _ _ us hl => match us, hl with | [_, _, _], _ => rfl
  have k : KwB Kf fd d_after_rounds.ps [(["many", "light", "stack"], [2, 1, 0])] := kwN F' fun _ _ _ _ _ _ => all_cons (fun ws hl => match ws, hl with | [_, _, _], _ => rfl) (all_nil)
  have e : kw "after_rounds" = ([(["many", "light", "stack"], [2, 1, 0])] : List (List Str × List Nat)) := by kernel_rfl
  exact ⟨d_after_rounds, D_after_rounds, fd, 200, by kernel_rfl, m, F', b, e ▸ k, sc_after_rounds, ck_after_rounds⟩
theorem z_dark_after (m : mg "dark_after" = some (.ref (He.ga Kf "dark_after"))) (h : Fd Kf D_dark_after) : DefZ Kf mg tb (inBf bs) (cs.map (·.1)) defs kw "dark_after" := by
  obtain ⟨fd, F⟩ := h
  have F' : FunD Kf D_dark_after.name D_dark_after.qual D_dark_after.params D_dark_after.body D_dark_after.scope [] [] (He.fAd Kf D_dark_after.at_) fd := F
  have b : Binds Kf fd d_dark_after.ps [] := F'.bindsN fun _ _ _ _ _ _ us hl => match us, hl with | [_, _], _ => rfl
  have k : KwB Kf fd d_dark_after.ps [(["light", "stack"], [1, 0])] := kwN F' fun _ _ _ _ _ _ => all_cons (fun ws hl => match ws, hl with | [_, _], _ => rfl) (all_nil)
  have e : kw "dark_after" = ([(["light", "stack"], [1, 0])] : List (List Str × List Nat)) := by kernel_rfl
  exact ⟨d_dark_after, D_dark_after, fd, 200, by kernel_rfl, m, F', b, e ▸ k, sc_dark_after, ck_dark_after⟩
theorem z__law_urn (m : mg "_law_urn" = some (.ref (He.ga Kf "_law_urn"))) (h : Fd Kf D__law_urn) : DefZ Kf mg tb (inBf bs) (cs.map (·.1)) defs kw "_law_urn" := by
  obtain ⟨fd, F⟩ := h
  have F' : FunD Kf D__law_urn.name D__law_urn.qual D__law_urn.params D__law_urn.body D__law_urn.scope [] [] (He.fAd Kf D__law_urn.at_) fd := F
  have b : Binds Kf fd d__law_urn.ps [] := F'.bindsN fun _ _ _ _ _ _ us hl => match us, hl with | [_, _], _ => rfl
  have k : KwB Kf fd d__law_urn.ps [] := kwN F' fun _ _ _ _ _ _ => all_nil
  have e : kw "_law_urn" = ([] : List (List Str × List Nat)) := by kernel_rfl
  exact ⟨d__law_urn, D__law_urn, fd, 200, by kernel_rfl, m, F', b, e ▸ k, sc__law_urn, ck__law_urn⟩
theorem z__law_pick (m : mg "_law_pick" = some (.ref (He.ga Kf "_law_pick"))) (h : Fd Kf D__law_pick) : DefZ Kf mg tb (inBf bs) (cs.map (·.1)) defs kw "_law_pick" := by
  obtain ⟨fd, F⟩ := h
  have F' : FunD Kf D__law_pick.name D__law_pick.qual D__law_pick.params D__law_pick.body D__law_pick.scope [] [] (He.fAd Kf D__law_pick.at_) fd := F
  have b : Binds Kf fd d__law_pick.ps [] := F'.bindsN fun _ _ _ _ _ _ us hl => match us, hl with | [_, _], _ => rfl
  have k : KwB Kf fd d__law_pick.ps [] := kwN F' fun _ _ _ _ _ _ => all_nil
  have e : kw "_law_pick" = ([] : List (List Str × List Nat)) := by kernel_rfl
  exact ⟨d__law_pick, D__law_pick, fd, 200, by kernel_rfl, m, F', b, e ▸ k, sc__law_pick, ck__law_pick⟩
theorem z__law_one (m : mg "_law_one" = some (.ref (He.ga Kf "_law_one"))) (h : Fd Kf D__law_one) : DefZ Kf mg tb (inBf bs) (cs.map (·.1)) defs kw "_law_one" := by
  obtain ⟨fd, F⟩ := h
  have F' : FunD Kf D__law_one.name D__law_one.qual D__law_one.params D__law_one.body D__law_one.scope [] [] (He.fAd Kf D__law_one.at_) fd := F
  have b : Binds Kf fd d__law_one.ps [] := F'.bindsN fun _ _ _ _ _ _ us hl => match us, hl with | [_, _], _ => rfl
  have k : KwB Kf fd d__law_one.ps [] := kwN F' fun _ _ _ _ _ _ => all_nil
  have e : kw "_law_one" = ([] : List (List Str × List Nat)) := by kernel_rfl
  exact ⟨d__law_one, D__law_one, fd, 200, by kernel_rfl, m, F', b, e ▸ k, sc__law_one, ck__law_one⟩
theorem z__law_between (m : mg "_law_between" = some (.ref (He.ga Kf "_law_between"))) (h : Fd Kf D__law_between) : DefZ Kf mg tb (inBf bs) (cs.map (·.1)) defs kw "_law_between" := by
  obtain ⟨fd, F⟩ := h
  have F' : FunD Kf D__law_between.name D__law_between.qual D__law_between.params D__law_between.body D__law_between.scope [] [] (He.fAd Kf D__law_between.at_) fd := F
  have b : Binds Kf fd d__law_between.ps [] := F'.bindsN fun _ _ _ _ _ _ us hl => match us, hl with | [_, _, _], _ => rfl
  have k : KwB Kf fd d__law_between.ps [] := kwN F' fun _ _ _ _ _ _ => all_nil
  have e : kw "_law_between" = ([] : List (List Str × List Nat)) := by kernel_rfl
  exact ⟨d__law_between, D__law_between, fd, 200, by kernel_rfl, m, F', b, e ▸ k, sc__law_between, ck__law_between⟩
theorem z__law_gcd (m : mg "_law_gcd" = some (.ref (He.ga Kf "_law_gcd"))) (h : Fd Kf D__law_gcd) : DefZ Kf mg tb (inBf bs) (cs.map (·.1)) defs kw "_law_gcd" := by
  obtain ⟨fd, F⟩ := h
  have F' : FunD Kf D__law_gcd.name D__law_gcd.qual D__law_gcd.params D__law_gcd.body D__law_gcd.scope [] [] (He.fAd Kf D__law_gcd.at_) fd := F
  have b : Binds Kf fd d__law_gcd.ps [] := F'.bindsN fun _ _ _ _ _ _ us hl => match us, hl with | [_], _ => rfl
  have k : KwB Kf fd d__law_gcd.ps [] := kwN F' fun _ _ _ _ _ _ => all_nil
  have e : kw "_law_gcd" = ([] : List (List Str × List Nat)) := by kernel_rfl
  exact ⟨d__law_gcd, D__law_gcd, fd, 200, by kernel_rfl, m, F', b, e ▸ k, sc__law_gcd, ck__law_gcd⟩
theorem z__law_ratio (m : mg "_law_ratio" = some (.ref (He.ga Kf "_law_ratio"))) (h : Fd Kf D__law_ratio) : DefZ Kf mg tb (inBf bs) (cs.map (·.1)) defs kw "_law_ratio" := by
  obtain ⟨fd, F⟩ := h
  have F' : FunD Kf D__law_ratio.name D__law_ratio.qual D__law_ratio.params D__law_ratio.body D__law_ratio.scope [] [] (He.fAd Kf D__law_ratio.at_) fd := F
  have b : Binds Kf fd d__law_ratio.ps [] := F'.bindsN fun _ _ _ _ _ _ us hl => match us, hl with | [_, _], _ => rfl
  have k : KwB Kf fd d__law_ratio.ps [] := kwN F' fun _ _ _ _ _ _ => all_nil
  have e : kw "_law_ratio" = ([] : List (List Str × List Nat)) := by kernel_rfl
  exact ⟨d__law_ratio, D__law_ratio, fd, 200, by kernel_rfl, m, F', b, e ▸ k, sc__law_ratio, ck__law_ratio⟩
theorem z__law_five (m : mg "_law_five" = some (.ref (He.ga Kf "_law_five"))) (h : Fd Kf D__law_five) : DefZ Kf mg tb (inBf bs) (cs.map (·.1)) defs kw "_law_five" := by
  obtain ⟨fd, F⟩ := h
  have F' : FunD Kf D__law_five.name D__law_five.qual D__law_five.params D__law_five.body D__law_five.scope [] [] (He.fAd Kf D__law_five.at_) fd := F
  have b : Binds Kf fd d__law_five.ps [] := F'.bindsN fun _ _ _ _ _ _ us hl => match us, hl with | [_, _], _ => rfl
  have k : KwB Kf fd d__law_five.ps [] := kwN F' fun _ _ _ _ _ _ => all_nil
  have e : kw "_law_five" = ([] : List (List Str × List Nat)) := by kernel_rfl
  exact ⟨d__law_five, D__law_five, fd, 200, by kernel_rfl, m, F', b, e ▸ k, sc__law_five, ck__law_five⟩
theorem z__law_table (m : mg "_law_table" = some (.ref (He.ga Kf "_law_table"))) (h : Fd Kf D__law_table) : DefZ Kf mg tb (inBf bs) (cs.map (·.1)) defs kw "_law_table" := by
  obtain ⟨fd, F⟩ := h
  have F' : FunD Kf D__law_table.name D__law_table.qual D__law_table.params D__law_table.body D__law_table.scope [] [] (He.fAd Kf D__law_table.at_) fd := F
  have b : Binds Kf fd d__law_table.ps [] := F'.bindsN fun _ _ _ _ _ _ us hl => match us, hl with | [_, _], _ => rfl
  have k : KwB Kf fd d__law_table.ps [] := kwN F' fun _ _ _ _ _ _ => all_nil
  have e : kw "_law_table" = ([] : List (List Str × List Nat)) := by kernel_rfl
  exact ⟨d__law_table, D__law_table, fd, 200, by kernel_rfl, m, F', b, e ▸ k, sc__law_table, ck__law_table⟩
theorem z__law_led (m : mg "_law_led" = some (.ref (He.ga Kf "_law_led"))) (h : Fd Kf D__law_led) : DefZ Kf mg tb (inBf bs) (cs.map (·.1)) defs kw "_law_led" := by
  obtain ⟨fd, F⟩ := h
  have F' : FunD Kf D__law_led.name D__law_led.qual D__law_led.params D__law_led.body D__law_led.scope [] [] (He.fAd Kf D__law_led.at_) fd := F
  have b : Binds Kf fd d__law_led.ps [] := F'.bindsN fun _ _ _ _ _ _ us hl => match us, hl with | [_, _], _ => rfl
  have k : KwB Kf fd d__law_led.ps [] := kwN F' fun _ _ _ _ _ _ => all_nil
  have e : kw "_law_led" = ([] : List (List Str × List Nat)) := by kernel_rfl
  exact ⟨d__law_led, D__law_led, fd, 200, by kernel_rfl, m, F', b, e ▸ k, sc__law_led, ck__law_led⟩
theorem z__law_then (m : mg "_law_then" = some (.ref (He.ga Kf "_law_then"))) (h : Fd Kf D__law_then) : DefZ Kf mg tb (inBf bs) (cs.map (·.1)) defs kw "_law_then" := by
  obtain ⟨fd, F⟩ := h
  have F' : FunD Kf D__law_then.name D__law_then.qual D__law_then.params D__law_then.body D__law_then.scope [] [] (He.fAd Kf D__law_then.at_) fd := F
  have b : Binds Kf fd d__law_then.ps [] := F'.bindsN fun _ _ _ _ _ _ us hl => match us, hl with | [_, _], _ => rfl
  have k : KwB Kf fd d__law_then.ps [] := kwN F' fun _ _ _ _ _ _ => all_nil
  have e : kw "_law_then" = ([] : List (List Str × List Nat)) := by kernel_rfl
  exact ⟨d__law_then, D__law_then, fd, 200, by kernel_rfl, m, F', b, e ▸ k, sc__law_then, ck__law_then⟩
theorem z__law_unit (m : mg "_law_unit" = some (.ref (He.ga Kf "_law_unit"))) (h : Fd Kf D__law_unit) : DefZ Kf mg tb (inBf bs) (cs.map (·.1)) defs kw "_law_unit" := by
  obtain ⟨fd, F⟩ := h
  have F' : FunD Kf D__law_unit.name D__law_unit.qual D__law_unit.params D__law_unit.body D__law_unit.scope [] [] (He.fAd Kf D__law_unit.at_) fd := F
  have b : Binds Kf fd d__law_unit.ps [] := F'.bindsN fun _ _ _ _ _ _ us hl => match us, hl with | [], _ => rfl
  have k : KwB Kf fd d__law_unit.ps [] := kwN F' fun _ _ _ _ _ _ => all_nil
  have e : kw "_law_unit" = ([] : List (List Str × List Nat)) := by kernel_rfl
  exact ⟨d__law_unit, D__law_unit, fd, 200, by kernel_rfl, m, F', b, e ▸ k, sc__law_unit, ck__law_unit⟩
theorem z__law_spun (m : mg "_law_spun" = some (.ref (He.ga Kf "_law_spun"))) (h : Fd Kf D__law_spun) : DefZ Kf mg tb (inBf bs) (cs.map (·.1)) defs kw "_law_spun" := by
  obtain ⟨fd, F⟩ := h
  have F' : FunD Kf D__law_spun.name D__law_spun.qual D__law_spun.params D__law_spun.body D__law_spun.scope [] [] (He.fAd Kf D__law_spun.at_) fd := F
  have b : Binds Kf fd d__law_spun.ps [] := F'.bindsN fun _ _ _ _ _ _ us hl => match us, hl with | [_], _ => rfl
  have k : KwB Kf fd d__law_spun.ps [] := kwN F' fun _ _ _ _ _ _ => all_nil
  have e : kw "_law_spun" = ([] : List (List Str × List Nat)) := by kernel_rfl
  exact ⟨d__law_spun, D__law_spun, fd, 200, by kernel_rfl, m, F', b, e ▸ k, sc__law_spun, ck__law_spun⟩
theorem z__law_parted (m : mg "_law_parted" = some (.ref (He.ga Kf "_law_parted"))) (h : Fd Kf D__law_parted) : DefZ Kf mg tb (inBf bs) (cs.map (·.1)) defs kw "_law_parted" := by
  obtain ⟨fd, F⟩ := h
  have F' : FunD Kf D__law_parted.name D__law_parted.qual D__law_parted.params D__law_parted.body D__law_parted.scope [] [] (He.fAd Kf D__law_parted.at_) fd := F
  have b : Binds Kf fd d__law_parted.ps [] := F'.bindsN fun _ _ _ _ _ _ us hl => match us, hl with | [_, _, _], _ => rfl
  have k : KwB Kf fd d__law_parted.ps [] := kwN F' fun _ _ _ _ _ _ => all_nil
  have e : kw "_law_parted" = ([] : List (List Str × List Nat)) := by kernel_rfl
  exact ⟨d__law_parted, D__law_parted, fd, 200, by kernel_rfl, m, F', b, e ▸ k, sc__law_parted, ck__law_parted⟩
theorem z__law_of_plate (m : mg "_law_of_plate" = some (.ref (He.ga Kf "_law_of_plate"))) (h : Fd Kf D__law_of_plate) : DefZ Kf mg tb (inBf bs) (cs.map (·.1)) defs kw "_law_of_plate" := by
  obtain ⟨fd, F⟩ := h
  have F' : FunD Kf D__law_of_plate.name D__law_of_plate.qual D__law_of_plate.params D__law_of_plate.body D__law_of_plate.scope [] [] (He.fAd Kf D__law_of_plate.at_) fd := F
  have b : Binds Kf fd d__law_of_plate.ps [] := F'.bindsN fun _ _ _ _ _ _ us hl => match us, hl with | [_], _ => rfl
  have k : KwB Kf fd d__law_of_plate.ps [] := kwN F' fun _ _ _ _ _ _ => all_nil
  have e : kw "_law_of_plate" = ([] : List (List Str × List Nat)) := by kernel_rfl
  exact ⟨d__law_of_plate, D__law_of_plate, fd, 200, by kernel_rfl, m, F', b, e ▸ k, sc__law_of_plate, ck__law_of_plate⟩
theorem z__law_of_stack (m : mg "_law_of_stack" = some (.ref (He.ga Kf "_law_of_stack"))) (h : Fd Kf D__law_of_stack) : DefZ Kf mg tb (inBf bs) (cs.map (·.1)) defs kw "_law_of_stack" := by
  obtain ⟨fd, F⟩ := h
  have F' : FunD Kf D__law_of_stack.name D__law_of_stack.qual D__law_of_stack.params D__law_of_stack.body D__law_of_stack.scope [] [] (He.fAd Kf D__law_of_stack.at_) fd := F
  have b : Binds Kf fd d__law_of_stack.ps [] := F'.bindsN fun _ _ _ _ _ _ us hl => match us, hl with | [_], _ => rfl
  have k : KwB Kf fd d__law_of_stack.ps [] := kwN F' fun _ _ _ _ _ _ => all_nil
  have e : kw "_law_of_stack" = ([] : List (List Str × List Nat)) := by kernel_rfl
  exact ⟨d__law_of_stack, D__law_of_stack, fd, 200, by kernel_rfl, m, F', b, e ▸ k, sc__law_of_stack, ck__law_of_stack⟩
theorem z__law_kind (m : mg "_law_kind" = some (.ref (He.ga Kf "_law_kind"))) (h : Fd Kf D__law_kind) : DefZ Kf mg tb (inBf bs) (cs.map (·.1)) defs kw "_law_kind" := by
  obtain ⟨fd, F⟩ := h
  have F' : FunD Kf D__law_kind.name D__law_kind.qual D__law_kind.params D__law_kind.body D__law_kind.scope [] [] (He.fAd Kf D__law_kind.at_) fd := F
  have b : Binds Kf fd d__law_kind.ps [] := F'.bindsN fun _ _ _ _ _ _ us hl => match us, hl with | [_], _ => rfl
  have k : KwB Kf fd d__law_kind.ps [] := kwN F' fun _ _ _ _ _ _ => all_nil
  have e : kw "_law_kind" = ([] : List (List Str × List Nat)) := by kernel_rfl
  exact ⟨d__law_kind, D__law_kind, fd, 200, by kernel_rfl, m, F', b, e ▸ k, sc__law_kind, ck__law_kind⟩
theorem z__law_setting (m : mg "_law_setting" = some (.ref (He.ga Kf "_law_setting"))) (h : Fd Kf D__law_setting) : DefZ Kf mg tb (inBf bs) (cs.map (·.1)) defs kw "_law_setting" := by
  obtain ⟨fd, F⟩ := h
  have F' : FunD Kf D__law_setting.name D__law_setting.qual D__law_setting.params D__law_setting.body D__law_setting.scope [] [] (He.fAd Kf D__law_setting.at_) fd := F
  have b : Binds Kf fd d__law_setting.ps [] := F'.bindsN fun _ _ _ _ _ _ us hl => match us, hl with | [_], _ => rfl
  have k : KwB Kf fd d__law_setting.ps [] := kwN F' fun _ _ _ _ _ _ => all_nil
  have e : kw "_law_setting" = ([] : List (List Str × List Nat)) := by kernel_rfl
  exact ⟨d__law_setting, D__law_setting, fd, 200, by kernel_rfl, m, F', b, e ▸ k, sc__law_setting, ck__law_setting⟩
theorem z__law_turned (m : mg "_law_turned" = some (.ref (He.ga Kf "_law_turned"))) (h : Fd Kf D__law_turned) : DefZ Kf mg tb (inBf bs) (cs.map (·.1)) defs kw "_law_turned" := by
  obtain ⟨fd, F⟩ := h
  have F' : FunD Kf D__law_turned.name D__law_turned.qual D__law_turned.params D__law_turned.body D__law_turned.scope [] [] (He.fAd Kf D__law_turned.at_) fd := F
  have b : Binds Kf fd d__law_turned.ps [] := F'.bindsN fun _ _ _ _ _ _ us hl => match us, hl with | [_], _ => rfl
  have k : KwB Kf fd d__law_turned.ps [] := kwN F' fun _ _ _ _ _ _ => all_nil
  have e : kw "_law_turned" = ([] : List (List Str × List Nat)) := by kernel_rfl
  exact ⟨d__law_turned, D__law_turned, fd, 200, by kernel_rfl, m, F', b, e ▸ k, sc__law_turned, ck__law_turned⟩
theorem z__law_turn (m : mg "_law_turn" = some (.ref (He.ga Kf "_law_turn"))) (h : Fd Kf D__law_turn) : DefZ Kf mg tb (inBf bs) (cs.map (·.1)) defs kw "_law_turn" := by
  obtain ⟨fd, F⟩ := h
  have F' : FunD Kf D__law_turn.name D__law_turn.qual D__law_turn.params D__law_turn.body D__law_turn.scope [] [] (He.fAd Kf D__law_turn.at_) fd := F
  have b : Binds Kf fd d__law_turn.ps [] := F'.bindsN fun _ _ _ _ _ _ us hl => match us, hl with | [_], _ => rfl
  have k : KwB Kf fd d__law_turn.ps [] := kwN F' fun _ _ _ _ _ _ => all_nil
  have e : kw "_law_turn" = ([] : List (List Str × List Nat)) := by kernel_rfl
  exact ⟨d__law_turn, D__law_turn, fd, 200, by kernel_rfl, m, F', b, e ▸ k, sc__law_turn, ck__law_turn⟩
theorem z__law_share (m : mg "_law_share" = some (.ref (He.ga Kf "_law_share"))) (h : Fd Kf D__law_share) : DefZ Kf mg tb (inBf bs) (cs.map (·.1)) defs kw "_law_share" := by
  obtain ⟨fd, F⟩ := h
  have F' : FunD Kf D__law_share.name D__law_share.qual D__law_share.params D__law_share.body D__law_share.scope [] [] (He.fAd Kf D__law_share.at_) fd := F
  have b : Binds Kf fd d__law_share.ps [] := F'.bindsN fun _ _ _ _ _ _ us hl => match us, hl with | [_], _ => rfl
  have k : KwB Kf fd d__law_share.ps [] := kwN F' fun _ _ _ _ _ _ => all_nil
  have e : kw "_law_share" = ([] : List (List Str × List Nat)) := by kernel_rfl
  exact ⟨d__law_share, D__law_share, fd, 200, by kernel_rfl, m, F', b, e ▸ k, sc__law_share, ck__law_share⟩
theorem z__law_plate (m : mg "_law_plate" = some (.ref (He.ga Kf "_law_plate"))) (h : Fd Kf D__law_plate) : DefZ Kf mg tb (inBf bs) (cs.map (·.1)) defs kw "_law_plate" := by
  obtain ⟨fd, F⟩ := h
  have F' : FunD Kf D__law_plate.name D__law_plate.qual D__law_plate.params D__law_plate.body D__law_plate.scope [] [] (He.fAd Kf D__law_plate.at_) fd := F
  have b : Binds Kf fd d__law_plate.ps [] := F'.bindsN fun _ _ _ _ _ _ us hl => match us, hl with | [_], _ => rfl
  have k : KwB Kf fd d__law_plate.ps [] := kwN F' fun _ _ _ _ _ _ => all_nil
  have e : kw "_law_plate" = ([] : List (List Str × List Nat)) := by kernel_rfl
  exact ⟨d__law_plate, D__law_plate, fd, 200, by kernel_rfl, m, F', b, e ▸ k, sc__law_plate, ck__law_plate⟩
theorem z__law_stack (m : mg "_law_stack" = some (.ref (He.ga Kf "_law_stack"))) (h : Fd Kf D__law_stack) : DefZ Kf mg tb (inBf bs) (cs.map (·.1)) defs kw "_law_stack" := by
  obtain ⟨fd, F⟩ := h
  have F' : FunD Kf D__law_stack.name D__law_stack.qual D__law_stack.params D__law_stack.body D__law_stack.scope [] [] (He.fAd Kf D__law_stack.at_) fd := F
  have b : Binds Kf fd d__law_stack.ps [] := F'.bindsN fun _ _ _ _ _ _ us hl => match us, hl with | [_, _], _ => rfl
  have k : KwB Kf fd d__law_stack.ps [] := kwN F' fun _ _ _ _ _ _ => all_nil
  have e : kw "_law_stack" = ([] : List (List Str × List Nat)) := by kernel_rfl
  exact ⟨d__law_stack, D__law_stack, fd, 200, by kernel_rfl, m, F', b, e ▸ k, sc__law_stack, ck__law_stack⟩
theorem z__law_lamp (m : mg "_law_lamp" = some (.ref (He.ga Kf "_law_lamp"))) (h : Fd Kf D__law_lamp) : DefZ Kf mg tb (inBf bs) (cs.map (·.1)) defs kw "_law_lamp" := by
  obtain ⟨fd, F⟩ := h
  have F' : FunD Kf D__law_lamp.name D__law_lamp.qual D__law_lamp.params D__law_lamp.body D__law_lamp.scope [] [] (He.fAd Kf D__law_lamp.at_) fd := F
  have b : Binds Kf fd d__law_lamp.ps [] := F'.bindsN fun _ _ _ _ _ _ us hl => match us, hl with | [_], _ => rfl
  have k : KwB Kf fd d__law_lamp.ps [] := kwN F' fun _ _ _ _ _ _ => all_nil
  have e : kw "_law_lamp" = ([] : List (List Str × List Nat)) := by kernel_rfl
  exact ⟨d__law_lamp, D__law_lamp, fd, 200, by kernel_rfl, m, F', b, e ▸ k, sc__law_lamp, ck__law_lamp⟩
theorem z__law_bare (m : mg "_law_bare" = some (.ref (He.ga Kf "_law_bare"))) (h : Fd Kf D__law_bare) : DefZ Kf mg tb (inBf bs) (cs.map (·.1)) defs kw "_law_bare" := by
  obtain ⟨fd, F⟩ := h
  have F' : FunD Kf D__law_bare.name D__law_bare.qual D__law_bare.params D__law_bare.body D__law_bare.scope [] [] (He.fAd Kf D__law_bare.at_) fd := F
  have b : Binds Kf fd d__law_bare.ps [] := F'.bindsN fun _ _ _ _ _ _ us hl => match us, hl with | [_], _ => rfl
  have k : KwB Kf fd d__law_bare.ps [] := kwN F' fun _ _ _ _ _ _ => all_nil
  have e : kw "_law_bare" = ([] : List (List Str × List Nat)) := by kernel_rfl
  exact ⟨d__law_bare, D__law_bare, fd, 200, by kernel_rfl, m, F', b, e ▸ k, sc__law_bare, ck__law_bare⟩
theorem z__law_flip (m : mg "_law_flip" = some (.ref (He.ga Kf "_law_flip"))) (h : Fd Kf D__law_flip) : DefZ Kf mg tb (inBf bs) (cs.map (·.1)) defs kw "_law_flip" := by
  obtain ⟨fd, F⟩ := h
  have F' : FunD Kf D__law_flip.name D__law_flip.qual D__law_flip.params D__law_flip.body D__law_flip.scope [] [] (He.fAd Kf D__law_flip.at_) fd := F
  have b : Binds Kf fd d__law_flip.ps [] := F'.bindsN fun _ _ _ _ _ _ us hl => match us, hl with | [_], _ => rfl
  have k : KwB Kf fd d__law_flip.ps [] := kwN F' fun _ _ _ _ _ _ => all_nil
  have e : kw "_law_flip" = ([] : List (List Str × List Nat)) := by kernel_rfl
  exact ⟨d__law_flip, D__law_flip, fd, 200, by kernel_rfl, m, F', b, e ▸ k, sc__law_flip, ck__law_flip⟩
theorem z__law_opposite (m : mg "_law_opposite" = some (.ref (He.ga Kf "_law_opposite"))) (h : Fd Kf D__law_opposite) : DefZ Kf mg tb (inBf bs) (cs.map (·.1)) defs kw "_law_opposite" := by
  obtain ⟨fd, F⟩ := h
  have F' : FunD Kf D__law_opposite.name D__law_opposite.qual D__law_opposite.params D__law_opposite.body D__law_opposite.scope [] [] (He.fAd Kf D__law_opposite.at_) fd := F
  have b : Binds Kf fd d__law_opposite.ps [] := F'.bindsN fun _ _ _ _ _ _ us hl => match us, hl with | [_], _ => rfl
  have k : KwB Kf fd d__law_opposite.ps [] := kwN F' fun _ _ _ _ _ _ => all_nil
  have e : kw "_law_opposite" = ([] : List (List Str × List Nat)) := by kernel_rfl
  exact ⟨d__law_opposite, D__law_opposite, fd, 200, by kernel_rfl, m, F', b, e ▸ k, sc__law_opposite, ck__law_opposite⟩
theorem z__law_of_kind (m : mg "_law_of_kind" = some (.ref (He.ga Kf "_law_of_kind"))) (h : Fd Kf D__law_of_kind) : DefZ Kf mg tb (inBf bs) (cs.map (·.1)) defs kw "_law_of_kind" := by
  obtain ⟨fd, F⟩ := h
  have F' : FunD Kf D__law_of_kind.name D__law_of_kind.qual D__law_of_kind.params D__law_of_kind.body D__law_of_kind.scope [] [] (He.fAd Kf D__law_of_kind.at_) fd := F
  have b : Binds Kf fd d__law_of_kind.ps [] := F'.bindsN fun _ _ _ _ _ _ us hl => match us, hl with | [_, _, _], _ => rfl
  have k : KwB Kf fd d__law_of_kind.ps [] := kwN F' fun _ _ _ _ _ _ => all_nil
  have e : kw "_law_of_kind" = ([] : List (List Str × List Nat)) := by kernel_rfl
  exact ⟨d__law_of_kind, D__law_of_kind, fd, 200, by kernel_rfl, m, F', b, e ▸ k, sc__law_of_kind, ck__law_of_kind⟩
theorem z__law_lamp_for (m : mg "_law_lamp_for" = some (.ref (He.ga Kf "_law_lamp_for"))) (h : Fd Kf D__law_lamp_for) : DefZ Kf mg tb (inBf bs) (cs.map (·.1)) defs kw "_law_lamp_for" := by
  obtain ⟨fd, F⟩ := h
  have F' : FunD Kf D__law_lamp_for.name D__law_lamp_for.qual D__law_lamp_for.params D__law_lamp_for.body D__law_lamp_for.scope [] [] (He.fAd Kf D__law_lamp_for.at_) fd := F
  have b : Binds Kf fd d__law_lamp_for.ps [] := F'.bindsN fun _ _ _ _ _ _ us hl => match us, hl with | [_, _], _ => rfl
  have k : KwB Kf fd d__law_lamp_for.ps [] := kwN F' fun _ _ _ _ _ _ => all_nil
  have e : kw "_law_lamp_for" = ([] : List (List Str × List Nat)) := by kernel_rfl
  exact ⟨d__law_lamp_for, D__law_lamp_for, fd, 200, by kernel_rfl, m, F', b, e ▸ k, sc__law_lamp_for, ck__law_lamp_for⟩
theorem z__law_dim (m : mg "_law_dim" = some (.ref (He.ga Kf "_law_dim"))) (h : Fd Kf D__law_dim) : DefZ Kf mg tb (inBf bs) (cs.map (·.1)) defs kw "_law_dim" := by
  obtain ⟨fd, F⟩ := h
  have F' : FunD Kf D__law_dim.name D__law_dim.qual D__law_dim.params D__law_dim.body D__law_dim.scope [] [] (He.fAd Kf D__law_dim.at_) fd := F
  have b : Binds Kf fd d__law_dim.ps [] := F'.bindsN fun _ _ _ _ _ _ us hl => match us, hl with | [_], _ => rfl
  have k : KwB Kf fd d__law_dim.ps [] := kwN F' fun _ _ _ _ _ _ => all_nil
  have e : kw "_law_dim" = ([] : List (List Str × List Nat)) := by kernel_rfl
  exact ⟨d__law_dim, D__law_dim, fd, 200, by kernel_rfl, m, F', b, e ▸ k, sc__law_dim, ck__law_dim⟩
theorem z__law_right (m : mg "_law_right" = some (.ref (He.ga Kf "_law_right"))) (h : Fd Kf D__law_right) : DefZ Kf mg tb (inBf bs) (cs.map (·.1)) defs kw "_law_right" := by
  obtain ⟨fd, F⟩ := h
  have F' : FunD Kf D__law_right.name D__law_right.qual D__law_right.params D__law_right.body D__law_right.scope [] [] (He.fAd Kf D__law_right.at_) fd := F
  have b : Binds Kf fd d__law_right.ps [] := F'.bindsN fun _ _ _ _ _ _ us hl => match us, hl with | [_], _ => rfl
  have k : KwB Kf fd d__law_right.ps [] := kwN F' fun _ _ _ _ _ _ => all_nil
  have e : kw "_law_right" = ([] : List (List Str × List Nat)) := by kernel_rfl
  exact ⟨d__law_right, D__law_right, fd, 200, by kernel_rfl, m, F', b, e ▸ k, sc__law_right, ck__law_right⟩
theorem z_law (m : mg "law" = some (.ref (He.ga Kf "law"))) (h : Fd Kf D_law) : DefZ Kf mg tb (inBf bs) (cs.map (·.1)) defs kw "law" := by
  obtain ⟨fd, F⟩ := h
  have F' : FunD Kf D_law.name D_law.qual D_law.params D_law.body D_law.scope [] [] (He.fAd Kf D_law.at_) fd := F
  have b : Binds Kf fd d_law.ps [] := F'.bindsN fun _ _ _ _ _ _ us hl => match us, hl with | [_], _ => rfl
  have k : KwB Kf fd d_law.ps [] := kwN F' fun _ _ _ _ _ _ => all_nil
  have e : kw "law" = ([] : List (List Str × List Nat)) := by kernel_rfl
  exact ⟨d_law, D_law, fd, 200, by kernel_rfl, m, F', b, e ▸ k, sc_law, ck_law⟩
theorem part0 (m : ∀ x ∈ defs, mg x = some (.ref (He.ga Kf x))) (f : ∀ d ∈ fn, Fd Kf d) : ∀ x ∈ defs0, DefZ Kf mg tb (inBf bs) (cs.map (·.1)) defs kw x := all_cons (z_is_whole (m _ (List.mem_of_getElem? (i := 0) (by rfl))) (f D_is_whole (List.mem_of_getElem? (i := 0) (by rfl)))) (all_cons (z_is_between (m _ (List.mem_of_getElem? (i := 1) (by rfl))) (f D_is_between (List.mem_of_getElem? (i := 1) (by rfl)))) (all_cons (z_are_wholes (m _ (List.mem_of_getElem? (i := 2) (by rfl))) (f D_are_wholes (List.mem_of_getElem? (i := 2) (by rfl)))) (all_cons (z_common_part (m _ (List.mem_of_getElem? (i := 3) (by rfl))) (f D_common_part (List.mem_of_getElem? (i := 3) (by rfl)))) (all_cons (z_lowest (m _ (List.mem_of_getElem? (i := 4) (by rfl))) (f D_lowest (List.mem_of_getElem? (i := 4) (by rfl)))) (all_cons (z_dot (m _ (List.mem_of_getElem? (i := 5) (by rfl))) (f D_dot (List.mem_of_getElem? (i := 5) (by rfl)))) (all_cons (z_lowest_over (m _ (List.mem_of_getElem? (i := 6) (by rfl))) (f D_lowest_over (List.mem_of_getElem? (i := 6) (by rfl)))) (all_cons (z_is_fraction (m _ (List.mem_of_getElem? (i := 7) (by rfl))) (f D_is_fraction (List.mem_of_getElem? (i := 7) (by rfl)))) (all_cons (z_product_of (m _ (List.mem_of_getElem? (i := 8) (by rfl))) (f D_product_of (List.mem_of_getElem? (i := 8) (by rfl)))) (all_cons (z_is_like_light (m _ (List.mem_of_getElem? (i := 9) (by rfl))) (f D_is_like_light (List.mem_of_getElem? (i := 9) (by rfl)))) (all_cons (z_is_five (m _ (List.mem_of_getElem? (i := 10) (by rfl))) (f D_is_five (List.mem_of_getElem? (i := 10) (by rfl)))) (all_cons (z_is_light (m _ (List.mem_of_getElem? (i := 11) (by rfl))) (f D_is_light (List.mem_of_getElem? (i := 11) (by rfl)))) (all_nil))))))))))))
theorem part1 (m : ∀ x ∈ defs, mg x = some (.ref (He.ga Kf x))) (f : ∀ d ∈ fn, Fd Kf d) : ∀ x ∈ defs1, DefZ Kf mg tb (inBf bs) (cs.map (·.1)) defs kw x := all_cons (z_is_kind (m _ (List.mem_of_getElem? (i := 12) (by rfl))) (f D_is_kind (List.mem_of_getElem? (i := 12) (by rfl)))) (all_cons (z_check_light (m _ (List.mem_of_getElem? (i := 13) (by rfl))) (f D_check_light (List.mem_of_getElem? (i := 13) (by rfl)))) (all_cons (z_is_setting (m _ (List.mem_of_getElem? (i := 14) (by rfl))) (f D_is_setting (List.mem_of_getElem? (i := 14) (by rfl)))) (all_cons (z_is_whole_turn (m _ (List.mem_of_getElem? (i := 15) (by rfl))) (f D_is_whole_turn (List.mem_of_getElem? (i := 15) (by rfl)))) (all_cons (z_back_setting (m _ (List.mem_of_getElem? (i := 16) (by rfl))) (f D_back_setting (List.mem_of_getElem? (i := 16) (by rfl)))) (all_cons (z_double_of (m _ (List.mem_of_getElem? (i := 17) (by rfl))) (f D_double_of (List.mem_of_getElem? (i := 17) (by rfl)))) (all_cons (z_turn_rows (m _ (List.mem_of_getElem? (i := 18) (by rfl))) (f D_turn_rows (List.mem_of_getElem? (i := 18) (by rfl)))) (all_cons (z_reduced_table (m _ (List.mem_of_getElem? (i := 19) (by rfl))) (f D_reduced_table (List.mem_of_getElem? (i := 19) (by rfl)))) (all_cons (z_flipped (m _ (List.mem_of_getElem? (i := 20) (by rfl))) (f D_flipped (List.mem_of_getElem? (i := 20) (by rfl)))) (all_cons (z_rows_product (m _ (List.mem_of_getElem? (i := 21) (by rfl))) (f D_rows_product (List.mem_of_getElem? (i := 21) (by rfl)))) (all_cons (z_led_row (m _ (List.mem_of_getElem? (i := 22) (by rfl))) (f D_led_row (List.mem_of_getElem? (i := 22) (by rfl)))) (all_cons (z_led_five (m _ (List.mem_of_getElem? (i := 23) (by rfl))) (f D_led_five (List.mem_of_getElem? (i := 23) (by rfl)))) (all_nil))))))))))))
theorem part2 (m : ∀ x ∈ defs, mg x = some (.ref (He.ga Kf x))) (f : ∀ d ∈ fn, Fd Kf d) : ∀ x ∈ defs2, DefZ Kf mg tb (inBf bs) (cs.map (·.1)) defs kw x := all_cons (z_product_of_tables (m _ (List.mem_of_getElem? (i := 24) (by rfl))) (f D_product_of_tables (List.mem_of_getElem? (i := 24) (by rfl)))) (all_cons (z_is_share (m _ (List.mem_of_getElem? (i := 25) (by rfl))) (f D_is_share (List.mem_of_getElem? (i := 25) (by rfl)))) (all_cons (z_is_single (m _ (List.mem_of_getElem? (i := 26) (by rfl))) (f D_is_single (List.mem_of_getElem? (i := 26) (by rfl)))) (all_cons (z_is_plate (m _ (List.mem_of_getElem? (i := 27) (by rfl))) (f D_is_plate (List.mem_of_getElem? (i := 27) (by rfl)))) (all_cons (z_check_stack (m _ (List.mem_of_getElem? (i := 28) (by rfl))) (f D_check_stack (List.mem_of_getElem? (i := 28) (by rfl)))) (all_cons (z_framed (m _ (List.mem_of_getElem? (i := 29) (by rfl))) (f D_framed (List.mem_of_getElem? (i := 29) (by rfl)))) (all_cons (z_partial_table (m _ (List.mem_of_getElem? (i := 30) (by rfl))) (f D_partial_table (List.mem_of_getElem? (i := 30) (by rfl)))) (all_cons (z_magnet_table (m _ (List.mem_of_getElem? (i := 31) (by rfl))) (f D_magnet_table (List.mem_of_getElem? (i := 31) (by rfl)))) (all_cons (z_single_table (m _ (List.mem_of_getElem? (i := 32) (by rfl))) (f D_single_table (List.mem_of_getElem? (i := 32) (by rfl)))) (all_cons (z_table_with (m _ (List.mem_of_getElem? (i := 33) (by rfl))) (f D_table_with (List.mem_of_getElem? (i := 33) (by rfl)))) (all_cons (z_table_along (m _ (List.mem_of_getElem? (i := 34) (by rfl))) (f D_table_along (List.mem_of_getElem? (i := 34) (by rfl)))) (all_cons (z_rounds_of (m _ (List.mem_of_getElem? (i := 35) (by rfl))) (f D_rounds_of (List.mem_of_getElem? (i := 35) (by rfl)))) (all_nil))))))))))))
theorem part3 (m : ∀ x ∈ defs, mg x = some (.ref (He.ga Kf x))) (f : ∀ d ∈ fn, Fd Kf d) : ∀ x ∈ defs3, DefZ Kf mg tb (inBf bs) (cs.map (·.1)) defs kw x := all_cons (z_after_rounds (m _ (List.mem_of_getElem? (i := 36) (by rfl))) (f D_after_rounds (List.mem_of_getElem? (i := 36) (by rfl)))) (all_cons (z_dark_after (m _ (List.mem_of_getElem? (i := 37) (by rfl))) (f D_dark_after (List.mem_of_getElem? (i := 37) (by rfl)))) (all_cons (z__law_urn (m _ (List.mem_of_getElem? (i := 38) (by rfl))) (f D__law_urn (List.mem_of_getElem? (i := 38) (by rfl)))) (all_cons (z__law_pick (m _ (List.mem_of_getElem? (i := 39) (by rfl))) (f D__law_pick (List.mem_of_getElem? (i := 39) (by rfl)))) (all_cons (z__law_one (m _ (List.mem_of_getElem? (i := 40) (by rfl))) (f D__law_one (List.mem_of_getElem? (i := 40) (by rfl)))) (all_cons (z__law_between (m _ (List.mem_of_getElem? (i := 41) (by rfl))) (f D__law_between (List.mem_of_getElem? (i := 41) (by rfl)))) (all_cons (z__law_gcd (m _ (List.mem_of_getElem? (i := 42) (by rfl))) (f D__law_gcd (List.mem_of_getElem? (i := 42) (by rfl)))) (all_cons (z__law_ratio (m _ (List.mem_of_getElem? (i := 43) (by rfl))) (f D__law_ratio (List.mem_of_getElem? (i := 43) (by rfl)))) (all_cons (z__law_five (m _ (List.mem_of_getElem? (i := 44) (by rfl))) (f D__law_five (List.mem_of_getElem? (i := 44) (by rfl)))) (all_cons (z__law_table (m _ (List.mem_of_getElem? (i := 45) (by rfl))) (f D__law_table (List.mem_of_getElem? (i := 45) (by rfl)))) (all_cons (z__law_led (m _ (List.mem_of_getElem? (i := 46) (by rfl))) (f D__law_led (List.mem_of_getElem? (i := 46) (by rfl)))) (all_cons (z__law_then (m _ (List.mem_of_getElem? (i := 47) (by rfl))) (f D__law_then (List.mem_of_getElem? (i := 47) (by rfl)))) (all_nil))))))))))))
theorem part4 (m : ∀ x ∈ defs, mg x = some (.ref (He.ga Kf x))) (f : ∀ d ∈ fn, Fd Kf d) : ∀ x ∈ defs4, DefZ Kf mg tb (inBf bs) (cs.map (·.1)) defs kw x := all_cons (z__law_unit (m _ (List.mem_of_getElem? (i := 48) (by rfl))) (f D__law_unit (List.mem_of_getElem? (i := 48) (by rfl)))) (all_cons (z__law_spun (m _ (List.mem_of_getElem? (i := 49) (by rfl))) (f D__law_spun (List.mem_of_getElem? (i := 49) (by rfl)))) (all_cons (z__law_parted (m _ (List.mem_of_getElem? (i := 50) (by rfl))) (f D__law_parted (List.mem_of_getElem? (i := 50) (by rfl)))) (all_cons (z__law_of_plate (m _ (List.mem_of_getElem? (i := 51) (by rfl))) (f D__law_of_plate (List.mem_of_getElem? (i := 51) (by rfl)))) (all_cons (z__law_of_stack (m _ (List.mem_of_getElem? (i := 52) (by rfl))) (f D__law_of_stack (List.mem_of_getElem? (i := 52) (by rfl)))) (all_cons (z__law_kind (m _ (List.mem_of_getElem? (i := 53) (by rfl))) (f D__law_kind (List.mem_of_getElem? (i := 53) (by rfl)))) (all_cons (z__law_setting (m _ (List.mem_of_getElem? (i := 54) (by rfl))) (f D__law_setting (List.mem_of_getElem? (i := 54) (by rfl)))) (all_cons (z__law_turned (m _ (List.mem_of_getElem? (i := 55) (by rfl))) (f D__law_turned (List.mem_of_getElem? (i := 55) (by rfl)))) (all_cons (z__law_turn (m _ (List.mem_of_getElem? (i := 56) (by rfl))) (f D__law_turn (List.mem_of_getElem? (i := 56) (by rfl)))) (all_cons (z__law_share (m _ (List.mem_of_getElem? (i := 57) (by rfl))) (f D__law_share (List.mem_of_getElem? (i := 57) (by rfl)))) (all_cons (z__law_plate (m _ (List.mem_of_getElem? (i := 58) (by rfl))) (f D__law_plate (List.mem_of_getElem? (i := 58) (by rfl)))) (all_cons (z__law_stack (m _ (List.mem_of_getElem? (i := 59) (by rfl))) (f D__law_stack (List.mem_of_getElem? (i := 59) (by rfl)))) (all_nil))))))))))))
theorem part5 (m : ∀ x ∈ defs, mg x = some (.ref (He.ga Kf x))) (f : ∀ d ∈ fn, Fd Kf d) : ∀ x ∈ defs5, DefZ Kf mg tb (inBf bs) (cs.map (·.1)) defs kw x := all_cons (z__law_lamp (m _ (List.mem_of_getElem? (i := 60) (by rfl))) (f D__law_lamp (List.mem_of_getElem? (i := 60) (by rfl)))) (all_cons (z__law_bare (m _ (List.mem_of_getElem? (i := 61) (by rfl))) (f D__law_bare (List.mem_of_getElem? (i := 61) (by rfl)))) (all_cons (z__law_flip (m _ (List.mem_of_getElem? (i := 62) (by rfl))) (f D__law_flip (List.mem_of_getElem? (i := 62) (by rfl)))) (all_cons (z__law_opposite (m _ (List.mem_of_getElem? (i := 63) (by rfl))) (f D__law_opposite (List.mem_of_getElem? (i := 63) (by rfl)))) (all_cons (z__law_of_kind (m _ (List.mem_of_getElem? (i := 64) (by rfl))) (f D__law_of_kind (List.mem_of_getElem? (i := 64) (by rfl)))) (all_cons (z__law_lamp_for (m _ (List.mem_of_getElem? (i := 65) (by rfl))) (f D__law_lamp_for (List.mem_of_getElem? (i := 65) (by rfl)))) (all_cons (z__law_dim (m _ (List.mem_of_getElem? (i := 66) (by rfl))) (f D__law_dim (List.mem_of_getElem? (i := 66) (by rfl)))) (all_cons (z__law_right (m _ (List.mem_of_getElem? (i := 67) (by rfl))) (f D__law_right (List.mem_of_getElem? (i := 67) (by rfl)))) (all_cons (z_law (m _ (List.mem_of_getElem? (i := 68) (by rfl))) (f D_law (List.mem_of_getElem? (i := 68) (by rfl)))) (all_nil)))))))))
theorem defs_ok (m : ∀ x ∈ defs, mg x = some (.ref (He.ga Kf x))) (f : ∀ d ∈ fn, Fd Kf d) : ∀ x ∈ defs, DefZ Kf mg tb (inBf bs) (cs.map (·.1)) defs kw x := all_app (all_app (all_app (all_app (all_app (part0 m f) (part1 m f)) (part2 m f)) (part3 m f)) (part4 m f)) (part5 m f)
end
theorem law_is : tb "law" = some ⟨["_law_script"], d_law.N, b_law⟩ := by kernel_rfl
end K76
open PySem PySem.W PySem.Calls PyProof.Rows
theorem K76.holds_of (plain : ∀ ns : List Int, ns.length ≤ 63 → Zd.callD K76.tb K76.gv 60 "law" [.rd (ns.map .int)] [] = .ok (.d (.bool true)) []) : PySem.Challenge.rw_platelights_k76_whole_rounds_and_dark_af.Holds := by
  w_on; o_law
  refine HandSHeadRun.head_imp (r := K76.R) (q := K76.qv) (H := K76.hk) (ob := K76.ob) (M := 20000) (loose := K76.loose) (d := HandSHeadRun.topDef K76.R.prog 88) (kwd := []) K76.ob_eq K76.run (by kernel_rfl) (by kernel_rfl) (by kernel_rfl) (by rfl) (by first | assumption | decide +kernel) (by decide +kernel) ⟨rfl, rfl, rfl, rfl, rfl, by decide +kernel⟩ ?hw ?hc
  case hw => w_witness2
  case hc =>
    refine Zd.walk_ofG (l := PySem.Challenge.rw_platelights_k76_whole_rounds_and_dark_af) (n := 63) (k := 60) (x := "_law_script") rfl (by decide) (by kernel_rfl) ⟨rfl, by decide, by decide⟩ ?F
    intro w mg fa h Y nd G hmg0
    obtain ⟨K, KX, c⟩ := Y
    have hmg : mg ("law" : PySem.Str) = some (.ref fa) := by
      have e : (HandSHeadRun.topDef K76.R.prog 88).name = ("law" : PySem.Str) := by kernel_rfl
      rw [← e]
      exact hmg0
    obtain ⟨c1, c2⟩ := Zd.saysZ c
    obtain ⟨m, ms⟩ := Zd.md_of KX G c1
    have all : ∀ x, K76.defs.contains x = true → Zd.DefZ K mg K76.tb (Zd.inBf K76.bs) (K76.cs.map (·.1)) K76.defs K76.kw x := fun x hx => K76.defs_ok ms c2 x (List.contains_iff_mem.mp hx)
    have lawIn : K76.defs.contains "law" = true := by decide +kernel
    obtain ⟨fd, b, F⟩ := Zd.law_of_defs (h := h) nd (fun base nb => Zd.all_defs (P := (PySem.Challenge.rw_platelights_k76_whole_rounds_and_dark_af).prog) (w := w) (base := base) (tb := K76.tb) (gv := K76.gv) m nb all 60 "law" lawIn) hmg K76.law_is
    exact ⟨K, fd, _, KX, b, fun H sc ns hl got => Zd.law_promise got (plain ns hl), fun base _ _ nb => F base nb⟩
end
section
set_option Elab.async false
set_option linter.all false
set_option maxRecDepth 100000
set_option maxHeartbeats 1000000
/-! Zr0: running deep terms by rewriting. -/
namespace Zd
open PySem
section
variable {α β γ : Type}
@[simp] theorem bd_ret {a : α} {k : α → M β} : bd (Zd.ret a) k = k a := (rfl)
@[simp] theorem bd_bad {k : α → M β} : bd bad k = bad := rfl
@[simp] theorem bd_assoc {m : M α} {f : α → M β} {g : β → M γ} : bd (bd m f) g = bd m fun x => bd (f x) g := by
  funext st
  unfold bd
  cases m st <;> rfl
@[simp] theorem want_true {m : M α} : want true m = m := rfl
@[simp] theorem want_false {m : M α} : want false m = bad := rfl
@[simp] theorem ret_at {a : α} {st : Store} : Zd.ret a st = .ok a st := rfl
/-- by a truth value -/
def ifM (c : Bool) (a b : M α) : M α := match c with
  | true => a
  | false => b
@[simp] theorem ifM_true {a b : M α} : ifM true a b = a := rfl
@[simp] theorem ifM_false {a b : M α} : ifM false a b = b := rfl
theorem ifM_ret {c : Bool} {a b : α} : ifM c (Zd.ret a) (Zd.ret b) = Zd.ret (if c = true then a else b) := by cases c <;> rfl
/-- a step whose outcome is known -/
theorem bd_at {m : M α} {k : α → M β} {st st' : Store} {a : α} (h : m st = .ok a st') : bd m k st = k a st' := by
  unfold bd
  rw [h]
end
section
variable {C : Str → List W → M W} {gv : Str → Option PyData} {e : Nv}
@[simp] theorem ev_var {i : Nat} : (evP C gv (.var i)).v e = varM i e := by unfold evP; rfl
@[simp] theorem ev_cst {p : PyData} : (evP C gv (.cst p)).v e = Zd.ret (.d p) := by unfold evP; rfl
@[simp] theorem ev_glob {x : Str} : (evP C gv (.glob x)).v e = globM (gv x) := by unfold evP; rfl
@[simp] theorem ev_bin {op : Operator} {a b : E} : (evP C gv (.bin op a b)).v e = bd ((evP C gv a).v e) fun x => bd ((evP C gv b).v e) fun y => binW op x y := by
  conv => lhs; unfold evP
  try rfl
@[simp] theorem ev_neg {a : E} : (evP C gv (.neg a)).v e = bd ((evP C gv a).v e) negW := by
  conv => lhs; unfold evP
  try rfl
@[simp] theorem ev_not {a : E} : (evP C gv (.not_ a)).v e = bd ((evP C gv a).v e) fun w => bd (truthM w) fun k => Zd.bool (!k) := by
  conv => lhs; unfold evP
  try rfl
@[simp] theorem ev_cmp {op : CmpOp} {a b : E} : (evP C gv (.cmp op a b)).v e = bd ((evP C gv a).v e) fun x => bd ((evP C gv b).v e) fun y => bd (cmpB op x y) Zd.bool := by
  conv => lhs; unfold evP
  show bd (bd _ _) _ = _
  simp only [bd_assoc]
@[simp] theorem ev_chain {op op' : CmpOp} {a b c : E} : (evP C gv (.chain op op' a b c)).v e = bd ((evP C gv (.chain op op' a b c)).t e) Zd.bool := by
  conv => lhs; unfold evP
  conv => rhs; unfold evP
  rfl
@[simp] theorem et_cmp {op : CmpOp} {a b : E} : (evP C gv (.cmp op a b)).t e = bd ((evP C gv a).v e) fun x => bd ((evP C gv b).v e) fun y => cmpB op x y := by
  conv => lhs; unfold evP
  try rfl
@[simp] theorem et_chain {op op' : CmpOp} {a b c : E} : (evP C gv (.chain op op' a b c)).t e = bd ((evP C gv a).v e) fun x => bd ((evP C gv b).v e) fun y => bd (cmpB op x y) fun k => ifM k (bd ((evP C gv c).v e) fun z => cmpB op' y z) (Zd.ret false) := by
  conv => lhs; unfold evP
  try rfl
@[simp] theorem ev_and {a b : E} : (evP C gv (.and_ a b)).v e = bd ((evP C gv a).v e) fun x => bd (asB x) fun k => ifM k ((evP C gv b).v e) (Zd.bool false) := by
  conv => lhs; unfold evP
  try rfl
@[simp] theorem ev_or {a b : E} : (evP C gv (.or_ a b)).v e = bd ((evP C gv a).v e) fun x => bd (asB x) fun k => ifM k (Zd.bool true) ((evP C gv b).v e) := by
  conv => lhs; unfold evP
  try rfl
@[simp] theorem et_and {a b : E} : (evP C gv (.and_ a b)).t e = bd ((evP C gv a).t e) fun k => ifM k ((evP C gv b).t e) (Zd.ret false) := by
  conv => lhs; unfold evP
  try rfl
@[simp] theorem et_or {a b : E} : (evP C gv (.or_ a b)).t e = bd ((evP C gv a).t e) fun k => ifM k (Zd.ret true) ((evP C gv b).t e) := by
  conv => lhs; unfold evP
  try rfl
@[simp] theorem et_not {a : E} : (evP C gv (.not_ a)).t e = bd ((evP C gv a).t e) fun k => Zd.ret (!k) := by
  conv => lhs; unfold evP
  try rfl
@[simp] theorem ev_ife {c a b : E} : (evP C gv (.ife c a b)).v e = bd ((evP C gv c).t e) fun k => ifM k ((evP C gv a).v e) ((evP C gv b).v e) := by
  conv => lhs; unfold evP
  try rfl
@[simp] theorem ev_tup {xs : List E} : (evP C gv (.tup xs)).v e = bd (evs C gv xs e) fun ps => want (decide (ps.length ≤ line)) (Zd.ret (.d (.tuple ps))) := by
  conv => lhs; unfold evP
  try rfl
@[simp] theorem ev_lst {xs : List E} : (evP C gv (.lst xs)).v e = bd (evs C gv xs e) fun ps => want (decide (ps.length ≤ line)) (Zd.ret (.d (.list ps))) := by
  conv => lhs; unfold evP
  try rfl
@[simp] theorem ev_sub {a b : E} : (evP C gv (.sub a b)).v e = bd ((evP C gv a).v e) fun x => bd ((evP C gv b).v e) fun y => subW x y := by
  conv => lhs; unfold evP
  try rfl
@[simp] theorem ev_slice {a l h : E} : (evP C gv (.slice a l h)).v e = bd ((evP C gv a).v e) fun x => bd (prt C gv l e) fun l => bd (prt C gv h e) fun h => sliceV x l h := by
  conv => lhs; unfold evP
  try rfl
@[simp] theorem ev_call {f : Str} {xs : List E} : (evP C gv (.call f xs)).v e = bd (evw C gv xs e) fun ws => C f ws := by
  conv => lhs; unfold evP
  try rfl
@[simp] theorem ev_callK {f : Str} {pm : List Nat} {xs : List E} : (evP C gv (.callK f pm xs)).v e = bd (bd (evw C gv xs e) (wantN xs.length)) fun ws => C f (permW pm ws) := by
  conv => lhs; unfold evP
  try rfl
@[simp] theorem ev_blt {f : Bf} {xs : List E} : (evP C gv (.blt f xs)).v e = bd (evw C gv xs e) fun ws => bltW f ws := by
  conv => lhs; unfold evP
  try rfl
@[simp] theorem ev_isi {a : E} {ty : String} : (evP C gv (.isi a ty)).v e = bd ((evP C gv a).v e) fun x => isiW x ty := by
  conv => lhs; unfold evP
  try rfl
@[simp] theorem ev_comp {tg : T} {it : E} {ifs : List E} {elt : E} {own : List Nat} : (evP C gv (.comp tg it ifs elt own)).v e = bd ((evP C gv it).i e) fun xs =>
      bd (lim (compL (fun x => bd (asgT tg (.d x) (wipeE e own)) (oneM (evt C gv ifs) (evP C gv elt).v)) xs)) fun ps => Zd.ret (.d (.list ps)) := by
  conv => lhs; unfold evP
  try rfl
@[simp] theorem ev_comp2 {tg : T} {it : E} {ifs : List E} {tg1 : T} {it1 : E} {ifs1 : List E} {elt : E} {own own1 : List Nat} : (evP C gv (.comp2 tg it ifs tg1 it1 ifs1 elt own own1)).v e = bd ((evP C gv it).i e) fun xs =>
      bd (lim (compL (fun x => bd (asgT tg (.d x) (wipeE (hide e) own)) (twoM (evt C gv ifs) (evP C gv it1).i tg1 own1 (evt C gv ifs1) (evP C gv elt).v)) xs)) fun ps => Zd.ret (.d (.list ps)) := by
  conv => lhs; unfold evP
  try rfl
@[simp] theorem ei_rng {xs : List E} : (evP C gv (.rng xs)).i e = bd (bd (evw C gv xs e) (wantN xs.length)) rngM := by
  conv => lhs; unfold evP
  try rfl
@[simp] theorem ei_enm {a : E} : (evP C gv (.enm a)).i e = bd ((evP C gv a).i e) fun xs => Zd.ret (enumP xs) := by
  conv => lhs; unfold evP
  try rfl
@[simp] theorem ei_zip {a b : E} : (evP C gv (.zip a b)).i e = bd ((evP C gv a).v e) fun x => bd ((evP C gv b).v e) fun y => zipM x y zipP := by
  conv => lhs; unfold evP
  try rfl
theorem et_mk {a : E} (h : isMk a = true) : (evP C gv a).t e = bd ((evP C gv a).v e) truthM := by rw [(mk_v h).1]
theorem ei_mk {a : E} (h : isMk a = true) : (evP C gv a).i e = bd ((evP C gv a).v e) itemsM := by rw [(mk_v h).2]
@[simp] theorem es_nil : evs C gv [] e = Zd.ret [] := by
  conv => lhs; unfold evs
  try rfl
@[simp] theorem es_star {a : E} {r : List E} : evs C gv (.star a :: r) e = bd ((evP C gv a).i e) fun ps => bd (evs C gv r e) fun qs => Zd.ret (ps ++ qs) := by
  conv => lhs; unfold evs
  try rfl
theorem es_cons {a : E} {r : List E} (h : isStE a = false) : evs C gv (a :: r) e = bd ((evP C gv a).v e) fun w => bd (pureW w) fun p => bd (evs C gv r e) fun qs => Zd.ret (p :: qs) := by
  cases a <;> first | (cases h; done) | (conv => lhs; unfold evs)
@[simp] theorem ew_nil : evw C gv [] e = Zd.ret [] := by
  conv => lhs; unfold evw
  try rfl
@[simp] theorem ew_cons {a : E} {r : List E} : evw C gv (a :: r) e = bd ((evP C gv a).v e) fun w => bd (evw C gv r e) fun qs => Zd.ret (w :: qs) := by
  conv => lhs; unfold evw
  try rfl
@[simp] theorem ett_nil : evt C gv [] = [] := by unfold evt; rfl
@[simp] theorem ett_cons {a : E} {r : List E} : evt C gv (a :: r) = (evP C gv a).t :: evt C gv r := by
  conv => lhs; unfold evt
  try rfl
@[simp] theorem prt_no : prt C gv .no e = Zd.ret none := by
  conv => lhs; unfold prt
  try rfl
theorem prt_some {a : E} (h : isNo a = false) : prt C gv a e = bd ((evP C gv a).v e) partW := by cases a <;> first | (cases h; done) | (conv => lhs; unfold prt)
@[simp] theorem xs_nil : exPs C gv [] e = Zd.ret (.nx e) := by
  conv => lhs; unfold exPs
  try rfl
@[simp] theorem xs_cons {s : S} {r : List S} : exPs C gv (s :: r) e = bd (exP C gv s e) fun f => match f with
    | .nx e' => exPs C gv r e'
    | .rt w => Zd.ret (.rt w)
    | .bk e' => Zd.ret (.bk e')
    | .ct e' => Zd.ret (.ct e') := by
  conv => lhs; unfold exPs
  try rfl
@[simp] theorem x_expr {x : E} : exP C gv (.expr x) e = bd ((evP C gv x).v e) fun _ => Zd.ret (.nx e) := by
  conv => lhs; unfold exP
  try rfl
@[simp] theorem x_asg {t : T} {x : E} : exP C gv (.asg t x) e = bd ((evP C gv x).v e) fun w => bd (asgT t w e) fun e' => Zd.ret (.nx e') := by
  conv => lhs; unfold exP
  try rfl
@[simp] theorem x_own {i : Nat} {x : E} : exP C gv (.own i x) e = bd ((evP C gv x).v e) fun w => bd (ownOf w) fun ps => Zd.ret (.nx (e.set i (some (.own ps)))) := by
  conv => lhs; unfold exP
  try rfl
@[simp] theorem x_dem {i : Nat} : exP C gv (.dem i) e = demM i e := by
  conv => lhs; unfold exP
  try rfl
@[simp] theorem x_par {is : List Nat} {xs : List E} : exP C gv (.par is xs) e = bd (evs C gv xs e) fun ps => want (decide (ps.length = is.length)) (Zd.ret (.nx (parE is ps e))) := by
  conv => lhs; unfold exP
  try rfl
@[simp] theorem x_parQ {i j l : Nat} {a b c : E} : exP C gv (.parQ i j l a b c) e = bd ((evP C gv a).v e) fun w => bd (pureW w) fun p => bd ((evP C gv b).v e) fun u => bd (pureW u) fun q => bd ((evP C gv c).v e) fun z => bd (ownOf z) fun ps => Zd.ret (.nx (((e.set i (some (.d p))).set j (some (.d q))).set l (some (.own ps)))) := by
  conv => lhs; unfold exP
  try rfl
@[simp] theorem x_ret {x : E} : exP C gv (.ret x) e = bd ((evP C gv x).v e) fun w => Zd.ret (.rt w) := by
  conv => lhs; unfold exP
  try rfl
@[simp] theorem x_ite {c : E} {a b : List S} : exP C gv (.ite c a b) e = bd ((evP C gv c).t e) fun k => ifM k (exPs C gv a e) (exPs C gv b e) := by
  conv => lhs; unfold exP
  try rfl
@[simp] theorem x_for {t : T} {it : E} {b : List S} : exP C gv (.for_ t it b) e = bd ((evP C gv it).i e) fun xs => loopL (fun x e => bd (asgT t (.d x) e) fun e1 => exPs C gv b e1) xs e := by
  conv => lhs; unfold exP
  try rfl
@[simp] theorem x_while {c : E} {b : List S} : exP C gv (.while_ c b) e = whileR ((evP C gv c).t) (exPs C gv b) e := by
  conv => lhs; unfold exP
  try rfl
@[simp] theorem x_app {i : Nat} {x : E} : exP C gv (.app i x) e = appM i (evP C gv x).v e := by
  conv => lhs; unfold exP
  try rfl
@[simp] theorem x_setI {i : Nat} {ix x : E} : exP C gv (.setI i ix x) e = setM i (evP C gv ix).v (evP C gv x).v e := by
  conv => lhs; unfold exP
  try rfl
/-! values -/
@[simp] theorem var_zero {w : W} {e : Nv} : varM 0 (some w :: e) = Zd.ret w := rfl
@[simp] theorem var_succ {i : Nat} {o : Option W} {e : Nv} : varM (i + 1) (o :: e) = varM i e := rfl
@[simp] theorem pure_d {p : PyData} : pureW (.d p) = Zd.ret p := rfl
@[simp] theorem add_i {i j : Int} : binW .Add (.d (.int i)) (.d (.int j)) = Zd.ret (.d (.int (i + j))) := rfl
@[simp] theorem sub_i {i j : Int} : binW .Sub (.d (.int i)) (.d (.int j)) = Zd.ret (.d (.int (i - j))) := rfl
@[simp] theorem mul_i {i j : Int} (h : mulOk i j = true) : binW .Mult (.d (.int i)) (.d (.int j)) = Zd.ret (.d (.int (i * j))) := by
  show want (mulOk i j) _ = _
  rw [h]
  rfl
theorem fdiv_i {i j : Int} (h : j ≠ 0) (h2 : j.natAbs.log2 < 9000) : binW .FloorDiv (.d (.int i)) (.d (.int j)) = Zd.ret (.d (.int (i.fdiv j))) := by
  show want (decide (j ≠ 0) && decide (j.natAbs.log2 < 9000)) _ = _
  rw [decide_eq_true h, decide_eq_true h2]
  rfl
@[simp] theorem mod_i {i j : Int} (h : j ≠ 0) : binW .Mod (.d (.int i)) (.d (.int j)) = Zd.ret (.d (.int (i.fmod j))) := by
  show want (decide (j ≠ 0)) _ = _
  rw [decide_eq_true h]
  rfl
@[simp] theorem neg_i {i : Int} : negW (.d (.int i)) = Zd.ret (.d (.int (-i))) := rfl
@[simp] theorem lt_i {i j : Int} : cmpB .Lt (.d (.int i)) (.d (.int j)) = Zd.ret (decide (i < j)) := rfl
@[simp] theorem le_i {i j : Int} : cmpB .LtE (.d (.int i)) (.d (.int j)) = Zd.ret (decide (i ≤ j)) := rfl
@[simp] theorem gt_i {i j : Int} : cmpB .Gt (.d (.int i)) (.d (.int j)) = Zd.ret (decide (j < i)) := rfl
@[simp] theorem ge_i {i j : Int} : cmpB .GtE (.d (.int i)) (.d (.int j)) = Zd.ret (decide (j ≤ i)) := rfl
theorem eq_p {p q : PyData} (h : SeqAt.shaped p = true) (h' : SeqAt.shaped q = true) : cmpB .Eq (.d p) (.d q) = Zd.ret (PyData.eqv p q) := by
  funext st
  show want (SeqAt.shaped p && SeqAt.shaped q) (Zd.ret (PyData.eqv p q)) st = _
  rw [h, h']
  rfl
theorem ne_p {p q : PyData} (h : SeqAt.shaped p = true) (h' : SeqAt.shaped q = true) : cmpB .NotEq (.d p) (.d q) = Zd.ret (!PyData.eqv p q) := by
  show bd (cmpB .Eq (.d p) (.d q)) _ = _
  rw [eq_p h h']
  rfl
@[simp] theorem eq_i {i j : Int} : cmpB .Eq (.d (.int i)) (.d (.int j)) = Zd.ret (decide (i = j)) := by
  rw [eq_p (by unfold SeqAt.shaped; rfl) (by unfold SeqAt.shaped; rfl)]
  simp [PyData.eqv, Bool.beq_eq_decide_eq]
@[simp] theorem ne_i {i j : Int} : cmpB .NotEq (.d (.int i)) (.d (.int j)) = Zd.ret (!decide (i = j)) := by
  rw [ne_p (by unfold SeqAt.shaped; rfl) (by unfold SeqAt.shaped; rfl)]
  simp [PyData.eqv, Bool.beq_eq_decide_eq]
@[simp] theorem bool_is {b : Bool} : Zd.bool b = Zd.ret (.d (.bool b)) := rfl
@[simp] theorem asB_b {b : Bool} : asB (.d (.bool b)) = Zd.ret b := rfl
@[simp] theorem tru_b {b : Bool} : truthM (.d (.bool b)) = Zd.ret b := rfl
@[simp] theorem asg_nm {i : Nat} {p : PyData} {e : Nv} : asgT (.nm i) (.d p) e = Zd.ret (e.set i (some (.d p))) := by unfold asgT; rfl
@[simp] theorem asg_nmB {i n : Nat} {e : Nv} : asgT (.nm i) (.box n) e = Zd.ret (e.set i (some (.box n))) := by unfold asgT; rfl
theorem sub_tup {xs : List PyData} {i : Int} {p : PyData} (h : L2.atI xs i = some p) : subW (.d (.tuple xs)) (.d (.int i)) = Zd.ret (.d p) := by
  funext st
  show (match L2.atI xs i with | some p => Out.ok (W.d p) st | none => Out.bad) = _
  rw [h]
  rfl
theorem sub_lst {xs : List PyData} {i : Int} {p : PyData} (h : L2.atI xs i = some p) : subW (.d (.list xs)) (.d (.int i)) = Zd.ret (.d p) := by
  funext st
  show (match L2.atI xs i with | some p => Out.ok (W.d p) st | none => Out.bad) = _
  rw [h]
  rfl
@[simp] theorem items_l {xs : List PyData} : itemsM (.d (.list xs)) = Zd.ret xs := rfl
@[simp] theorem items_t {xs : List PyData} : itemsM (.d (.tuple xs)) = Zd.ret xs := rfl
@[simp] theorem isi_n {ty : String} : isiW (.d .none) ty = Zd.ret (.d (.bool ("NoneType" == ty || ("NoneType" == "bool" && ty == "int")))) := rfl
@[simp] theorem isi_b {b : Bool} {ty : String} : isiW (.d (.bool b)) ty = Zd.ret (.d (.bool ("bool" == ty || ("bool" == "bool" && ty == "int")))) := rfl
@[simp] theorem isi_i {i : Int} {ty : String} : isiW (.d (.int i)) ty = Zd.ret (.d (.bool ("int" == ty || ("int" == "bool" && ty == "int")))) := rfl
@[simp] theorem isi_s {x : Str} {ty : String} : isiW (.d (.str x)) ty = Zd.ret (.d (.bool ("str" == ty || ("str" == "bool" && ty == "int")))) := rfl
@[simp] theorem isi_l {x : List PyData} {ty : String} : isiW (.d (.list x)) ty = Zd.ret (.d (.bool ("list" == ty || ("list" == "bool" && ty == "int")))) := rfl
@[simp] theorem isi_t {x : List PyData} {ty : String} : isiW (.d (.tuple x)) ty = Zd.ret (.d (.bool ("tuple" == ty || ("tuple" == "bool" && ty == "int")))) := rfl
@[simp] theorem len_t {xs : List PyData} : bltW .len [.d (.tuple xs)] = Zd.ret (.d (.int xs.length)) := rfl
@[simp] theorem len_l {xs : List PyData} : bltW .len [.d (.list xs)] = Zd.ret (.d (.int xs.length)) := rfl
@[simp] theorem abs_i {i : Int} : bltW .abs [.d (.int i)] = Zd.ret (.d (.int (if i < 0 then -i else i))) := rfl
@[simp] theorem int_i {i : Int} : bltW .int [.d (.int i)] = Zd.ret (.d (.int i)) := rfl
@[simp] theorem tuple_l {xs : List PyData} : bltW .tuple [.d (.list xs)] = Zd.ret (.d (.tuple xs)) := rfl
@[simp] theorem tuple_t {xs : List PyData} : bltW .tuple [.d (.tuple xs)] = Zd.ret (.d (.tuple xs)) := rfl
@[simp] theorem tuple_o {xs : List PyData} : bltW .tuple [.own xs] = Zd.ret (.d (.tuple xs)) := rfl
@[simp] theorem list_l {xs : List PyData} : bltW .list [.d (.list xs)] = Zd.ret (.d (.list xs)) := rfl
@[simp] theorem list_t {xs : List PyData} : bltW .list [.d (.tuple xs)] = Zd.ret (.d (.list xs)) := rfl
@[simp] theorem gcd_i {i j : Int} : bltW .gcd [.d (.int i), .d (.int j)] = Zd.ret (.d (.int (Nat.gcd i.natAbs j.natAbs : Nat))) := rfl
@[simp] theorem max_i {i j : Int} : bltW .max [.d (.int i), .d (.int j)] = Zd.ret (.d (.int (if j > i then j else i))) := rfl
@[simp] theorem min_i {i j : Int} : bltW .min [.d (.int i), .d (.int j)] = Zd.ret (.d (.int (if j < i then j else i))) := rfl
@[simp] theorem add_l {xs ys : List PyData} (h : xs.length + ys.length ≤ line) : binW .Add (.d (.list xs)) (.d (.list ys)) = Zd.ret (.d (.list (xs ++ ys))) := by
  funext st
  show want (decide (xs.length + ys.length ≤ line)) (Zd.ret (W.d (.list (xs ++ ys)))) st = _
  rw [decide_eq_true h]
  rfl
@[simp] theorem add_t {xs ys : List PyData} (h : xs.length + ys.length ≤ line) : binW .Add (.d (.tuple xs)) (.d (.tuple ys)) = Zd.ret (.d (.tuple (xs ++ ys))) := by
  funext st
  show want (decide (xs.length + ys.length ≤ line)) (Zd.ret (W.d (.tuple (xs ++ ys)))) st = _
  rw [decide_eq_true h]
  rfl
theorem asg_tp {ts : List T} {xs : List PyData} {e : Nv} (h : lenB ts xs = true) : asgT (.tp ts) (.d (.tuple xs)) e = asgTs ts xs e := by
  conv => lhs; unfold asgT
  rw [h]
  rfl
@[simp] theorem asgs_nil {e : Nv} : asgTs [] [] e = Zd.ret e := by unfold asgTs; rfl
theorem asgs_cons {t : T} {ts : List T} {p : PyData} {ps : List PyData} {e : Nv} (h : isSt t = false) : asgTs (t :: ts) (p :: ps) e = bd (asgT t (.d p) e) fun e1 => asgTs ts ps e1 := by rw [asgTs_eq h]
@[simp] theorem slice_t {xs : List PyData} {l h : Option Int} : sliceV (.d (.tuple xs)) l h = Zd.ret (.d (.tuple (cutP xs l h))) := rfl
@[simp] theorem slice_l {xs : List PyData} {l h : Option Int} : sliceV (.d (.list xs)) l h = Zd.ret (.d (.list (cutP xs l h))) := rfl
@[simp] theorem slice_r {xs : List PyData} {l h : Option Int} : sliceV (.rd xs) l h = Zd.ret (.d (.list (cutP xs l h))) := rfl
@[simp] theorem part_i {i : Int} : partW (.d (.int i)) = Zd.ret (some i) := rfl
@[simp] theorem end_d {n : Nat} {p : PyData} {st : Store} : endM n (.ok (.rt (.d p)) st) = .ok (.d p) (st.take n) := rfl
@[simp] theorem end_o {n : Nat} {p : List PyData} {st : Store} : endM n (.ok (.rt (.own p)) st) = .ok (.d (.list p)) (st.take n) := rfl
@[simp] theorem end_b {n m : Nat} {st : Store} : endM n (.ok (.rt (.box m)) st) = .ok (.box m) st := rfl
@[simp] theorem end_n {n : Nat} {e : Nv} {st : Store} : endM n (.ok (.nx e) st) = .ok (.d .none) (st.take n) := rfl
@[simp] theorem es_var {i : Nat} {r : List E} : evs C gv ((.var i) :: r) e = bd ((evP C gv (.var i)).v e) fun w => bd (pureW w) fun p => bd (evs C gv r e) fun qs => Zd.ret (p :: qs) := es_cons rfl
@[simp] theorem prt_var {i : Nat} : prt C gv (.var i) e = bd ((evP C gv (.var i)).v e) partW := prt_some rfl
@[simp] theorem es_cst {p : PyData} {r : List E} : evs C gv ((.cst p) :: r) e = bd ((evP C gv (.cst p)).v e) fun w => bd (pureW w) fun p => bd (evs C gv r e) fun qs => Zd.ret (p :: qs) := es_cons rfl
@[simp] theorem prt_cst {p : PyData} : prt C gv (.cst p) e = bd ((evP C gv (.cst p)).v e) partW := prt_some rfl
@[simp] theorem es_glob {x : Str} {r : List E} : evs C gv ((.glob x) :: r) e = bd ((evP C gv (.glob x)).v e) fun w => bd (pureW w) fun p => bd (evs C gv r e) fun qs => Zd.ret (p :: qs) := es_cons rfl
@[simp] theorem prt_glob {x : Str} : prt C gv (.glob x) e = bd ((evP C gv (.glob x)).v e) partW := prt_some rfl
@[simp] theorem es_bin {op : Operator} {a b : E} {r : List E} : evs C gv ((.bin op a b) :: r) e = bd ((evP C gv (.bin op a b)).v e) fun w => bd (pureW w) fun p => bd (evs C gv r e) fun qs => Zd.ret (p :: qs) := es_cons rfl
@[simp] theorem prt_bin {op : Operator} {a b : E} : prt C gv (.bin op a b) e = bd ((evP C gv (.bin op a b)).v e) partW := prt_some rfl
@[simp] theorem es_neg {a : E} {r : List E} : evs C gv ((.neg a) :: r) e = bd ((evP C gv (.neg a)).v e) fun w => bd (pureW w) fun p => bd (evs C gv r e) fun qs => Zd.ret (p :: qs) := es_cons rfl
@[simp] theorem prt_neg {a : E} : prt C gv (.neg a) e = bd ((evP C gv (.neg a)).v e) partW := prt_some rfl
@[simp] theorem es_cmp {op : CmpOp} {a b : E} {r : List E} : evs C gv ((.cmp op a b) :: r) e = bd ((evP C gv (.cmp op a b)).v e) fun w => bd (pureW w) fun p => bd (evs C gv r e) fun qs => Zd.ret (p :: qs) := es_cons rfl
@[simp] theorem prt_cmp {op : CmpOp} {a b : E} : prt C gv (.cmp op a b) e = bd ((evP C gv (.cmp op a b)).v e) partW := prt_some rfl
@[simp] theorem es_chain {op op2 : CmpOp} {a b c : E} {r : List E} : evs C gv ((.chain op op2 a b c) :: r) e = bd ((evP C gv (.chain op op2 a b c)).v e) fun w => bd (pureW w) fun p => bd (evs C gv r e) fun qs => Zd.ret (p :: qs) := es_cons rfl
@[simp] theorem prt_chain {op op2 : CmpOp} {a b c : E} : prt C gv (.chain op op2 a b c) e = bd ((evP C gv (.chain op op2 a b c)).v e) partW := prt_some rfl
@[simp] theorem es_and {a b : E} {r : List E} : evs C gv ((.and_ a b) :: r) e = bd ((evP C gv (.and_ a b)).v e) fun w => bd (pureW w) fun p => bd (evs C gv r e) fun qs => Zd.ret (p :: qs) := es_cons rfl
@[simp] theorem prt_and {a b : E} : prt C gv (.and_ a b) e = bd ((evP C gv (.and_ a b)).v e) partW := prt_some rfl
@[simp] theorem es_or {a b : E} {r : List E} : evs C gv ((.or_ a b) :: r) e = bd ((evP C gv (.or_ a b)).v e) fun w => bd (pureW w) fun p => bd (evs C gv r e) fun qs => Zd.ret (p :: qs) := es_cons rfl
@[simp] theorem prt_or {a b : E} : prt C gv (.or_ a b) e = bd ((evP C gv (.or_ a b)).v e) partW := prt_some rfl
@[simp] theorem es_not {a : E} {r : List E} : evs C gv ((.not_ a) :: r) e = bd ((evP C gv (.not_ a)).v e) fun w => bd (pureW w) fun p => bd (evs C gv r e) fun qs => Zd.ret (p :: qs) := es_cons rfl
@[simp] theorem prt_not {a : E} : prt C gv (.not_ a) e = bd ((evP C gv (.not_ a)).v e) partW := prt_some rfl
@[simp] theorem es_ife {a b c : E} {r : List E} : evs C gv ((.ife a b c) :: r) e = bd ((evP C gv (.ife a b c)).v e) fun w => bd (pureW w) fun p => bd (evs C gv r e) fun qs => Zd.ret (p :: qs) := es_cons rfl
@[simp] theorem prt_ife {a b c : E} : prt C gv (.ife a b c) e = bd ((evP C gv (.ife a b c)).v e) partW := prt_some rfl
@[simp] theorem es_tup {xs : List E} {r : List E} : evs C gv ((.tup xs) :: r) e = bd ((evP C gv (.tup xs)).v e) fun w => bd (pureW w) fun p => bd (evs C gv r e) fun qs => Zd.ret (p :: qs) := es_cons rfl
@[simp] theorem prt_tup {xs : List E} : prt C gv (.tup xs) e = bd ((evP C gv (.tup xs)).v e) partW := prt_some rfl
@[simp] theorem es_lst {xs : List E} {r : List E} : evs C gv ((.lst xs) :: r) e = bd ((evP C gv (.lst xs)).v e) fun w => bd (pureW w) fun p => bd (evs C gv r e) fun qs => Zd.ret (p :: qs) := es_cons rfl
@[simp] theorem prt_lst {xs : List E} : prt C gv (.lst xs) e = bd ((evP C gv (.lst xs)).v e) partW := prt_some rfl
@[simp] theorem es_sub {a b : E} {r : List E} : evs C gv ((.sub a b) :: r) e = bd ((evP C gv (.sub a b)).v e) fun w => bd (pureW w) fun p => bd (evs C gv r e) fun qs => Zd.ret (p :: qs) := es_cons rfl
@[simp] theorem prt_sub {a b : E} : prt C gv (.sub a b) e = bd ((evP C gv (.sub a b)).v e) partW := prt_some rfl
@[simp] theorem es_slice {a b c : E} {r : List E} : evs C gv ((.slice a b c) :: r) e = bd ((evP C gv (.slice a b c)).v e) fun w => bd (pureW w) fun p => bd (evs C gv r e) fun qs => Zd.ret (p :: qs) := es_cons rfl
@[simp] theorem prt_slice {a b c : E} : prt C gv (.slice a b c) e = bd ((evP C gv (.slice a b c)).v e) partW := prt_some rfl
@[simp] theorem es_call {f : Str} {xs : List E} {r : List E} : evs C gv ((.call f xs) :: r) e = bd ((evP C gv (.call f xs)).v e) fun w => bd (pureW w) fun p => bd (evs C gv r e) fun qs => Zd.ret (p :: qs) := es_cons rfl
@[simp] theorem prt_call {f : Str} {xs : List E} : prt C gv (.call f xs) e = bd ((evP C gv (.call f xs)).v e) partW := prt_some rfl
@[simp] theorem es_callK {f : Str} {pm : List Nat} {xs : List E} {r : List E} : evs C gv ((.callK f pm xs) :: r) e = bd ((evP C gv (.callK f pm xs)).v e) fun w => bd (pureW w) fun p => bd (evs C gv r e) fun qs => Zd.ret (p :: qs) := es_cons rfl
@[simp] theorem prt_callK {f : Str} {pm : List Nat} {xs : List E} : prt C gv (.callK f pm xs) e = bd ((evP C gv (.callK f pm xs)).v e) partW := prt_some rfl
@[simp] theorem es_blt {f : Bf} {xs : List E} {r : List E} : evs C gv ((.blt f xs) :: r) e = bd ((evP C gv (.blt f xs)).v e) fun w => bd (pureW w) fun p => bd (evs C gv r e) fun qs => Zd.ret (p :: qs) := es_cons rfl
@[simp] theorem prt_blt {f : Bf} {xs : List E} : prt C gv (.blt f xs) e = bd ((evP C gv (.blt f xs)).v e) partW := prt_some rfl
@[simp] theorem es_isi {a : E} {ty : String} {r : List E} : evs C gv ((.isi a ty) :: r) e = bd ((evP C gv (.isi a ty)).v e) fun w => bd (pureW w) fun p => bd (evs C gv r e) fun qs => Zd.ret (p :: qs) := es_cons rfl
@[simp] theorem prt_isi {a : E} {ty : String} : prt C gv (.isi a ty) e = bd ((evP C gv (.isi a ty)).v e) partW := prt_some rfl
@[simp] theorem es_comp {tg : T} {it : E} {ifs : List E} {elt : E} {own : List Nat} {r : List E} : evs C gv ((.comp tg it ifs elt own) :: r) e = bd ((evP C gv (.comp tg it ifs elt own)).v e) fun w => bd (pureW w) fun p => bd (evs C gv r e) fun qs => Zd.ret (p :: qs) := es_cons rfl
@[simp] theorem prt_comp {tg : T} {it : E} {ifs : List E} {elt : E} {own : List Nat} : prt C gv (.comp tg it ifs elt own) e = bd ((evP C gv (.comp tg it ifs elt own)).v e) partW := prt_some rfl
@[simp] theorem es_comp2 {tg : T} {it : E} {ifs : List E} {tg1 : T} {it1 : E} {ifs1 : List E} {elt : E} {own own1 : List Nat} {r : List E} : evs C gv ((.comp2 tg it ifs tg1 it1 ifs1 elt own own1) :: r) e = bd ((evP C gv (.comp2 tg it ifs tg1 it1 ifs1 elt own own1)).v e) fun w => bd (pureW w) fun p => bd (evs C gv r e) fun qs => Zd.ret (p :: qs) := es_cons rfl
@[simp] theorem prt_comp2 {tg : T} {it : E} {ifs : List E} {tg1 : T} {it1 : E} {ifs1 : List E} {elt : E} {own own1 : List Nat} : prt C gv (.comp2 tg it ifs tg1 it1 ifs1 elt own own1) e = bd ((evP C gv (.comp2 tg it ifs tg1 it1 ifs1 elt own own1)).v e) partW := prt_some rfl
@[simp] theorem es_scp {a : E} {r : List E} : evs C gv ((.scp a) :: r) e = bd ((evP C gv (.scp a)).v e) fun w => bd (pureW w) fun p => bd (evs C gv r e) fun qs => Zd.ret (p :: qs) := es_cons rfl
@[simp] theorem prt_scp {a : E} : prt C gv (.scp a) e = bd ((evP C gv (.scp a)).v e) partW := prt_some rfl
@[simp] theorem et_var {i : Nat} : (evP C gv (.var i)).t e = bd ((evP C gv (.var i)).v e) truthM := et_mk rfl
@[simp] theorem ei_var {i : Nat} : (evP C gv (.var i)).i e = bd ((evP C gv (.var i)).v e) itemsM := ei_mk rfl
@[simp] theorem et_cst {p : PyData} : (evP C gv (.cst p)).t e = bd ((evP C gv (.cst p)).v e) truthM := et_mk rfl
@[simp] theorem ei_cst {p : PyData} : (evP C gv (.cst p)).i e = bd ((evP C gv (.cst p)).v e) itemsM := ei_mk rfl
@[simp] theorem et_glob {x : Str} : (evP C gv (.glob x)).t e = bd ((evP C gv (.glob x)).v e) truthM := et_mk rfl
@[simp] theorem ei_glob {x : Str} : (evP C gv (.glob x)).i e = bd ((evP C gv (.glob x)).v e) itemsM := ei_mk rfl
@[simp] theorem et_bin {op : Operator} {a b : E} : (evP C gv (.bin op a b)).t e = bd ((evP C gv (.bin op a b)).v e) truthM := et_mk rfl
@[simp] theorem ei_bin {op : Operator} {a b : E} : (evP C gv (.bin op a b)).i e = bd ((evP C gv (.bin op a b)).v e) itemsM := ei_mk rfl
@[simp] theorem et_neg {a : E} : (evP C gv (.neg a)).t e = bd ((evP C gv (.neg a)).v e) truthM := et_mk rfl
@[simp] theorem ei_neg {a : E} : (evP C gv (.neg a)).i e = bd ((evP C gv (.neg a)).v e) itemsM := ei_mk rfl
@[simp] theorem et_ife {a b c : E} : (evP C gv (.ife a b c)).t e = bd ((evP C gv (.ife a b c)).v e) truthM := et_mk rfl
@[simp] theorem ei_ife {a b c : E} : (evP C gv (.ife a b c)).i e = bd ((evP C gv (.ife a b c)).v e) itemsM := ei_mk rfl
@[simp] theorem et_tup {xs : List E} : (evP C gv (.tup xs)).t e = bd ((evP C gv (.tup xs)).v e) truthM := et_mk rfl
@[simp] theorem ei_tup {xs : List E} : (evP C gv (.tup xs)).i e = bd ((evP C gv (.tup xs)).v e) itemsM := ei_mk rfl
@[simp] theorem et_lst {xs : List E} : (evP C gv (.lst xs)).t e = bd ((evP C gv (.lst xs)).v e) truthM := et_mk rfl
@[simp] theorem ei_lst {xs : List E} : (evP C gv (.lst xs)).i e = bd ((evP C gv (.lst xs)).v e) itemsM := ei_mk rfl
@[simp] theorem et_sub {a b : E} : (evP C gv (.sub a b)).t e = bd ((evP C gv (.sub a b)).v e) truthM := et_mk rfl
@[simp] theorem ei_sub {a b : E} : (evP C gv (.sub a b)).i e = bd ((evP C gv (.sub a b)).v e) itemsM := ei_mk rfl
@[simp] theorem et_slice {a b c : E} : (evP C gv (.slice a b c)).t e = bd ((evP C gv (.slice a b c)).v e) truthM := et_mk rfl
@[simp] theorem ei_slice {a b c : E} : (evP C gv (.slice a b c)).i e = bd ((evP C gv (.slice a b c)).v e) itemsM := ei_mk rfl
@[simp] theorem et_call {f : Str} {xs : List E} : (evP C gv (.call f xs)).t e = bd ((evP C gv (.call f xs)).v e) truthM := et_mk rfl
@[simp] theorem ei_call {f : Str} {xs : List E} : (evP C gv (.call f xs)).i e = bd ((evP C gv (.call f xs)).v e) itemsM := ei_mk rfl
@[simp] theorem et_callK {f : Str} {pm : List Nat} {xs : List E} : (evP C gv (.callK f pm xs)).t e = bd ((evP C gv (.callK f pm xs)).v e) truthM := et_mk rfl
@[simp] theorem ei_callK {f : Str} {pm : List Nat} {xs : List E} : (evP C gv (.callK f pm xs)).i e = bd ((evP C gv (.callK f pm xs)).v e) itemsM := ei_mk rfl
@[simp] theorem et_blt {f : Bf} {xs : List E} : (evP C gv (.blt f xs)).t e = bd ((evP C gv (.blt f xs)).v e) truthM := et_mk rfl
@[simp] theorem ei_blt {f : Bf} {xs : List E} : (evP C gv (.blt f xs)).i e = bd ((evP C gv (.blt f xs)).v e) itemsM := ei_mk rfl
@[simp] theorem et_isi {a : E} {ty : String} : (evP C gv (.isi a ty)).t e = bd ((evP C gv (.isi a ty)).v e) truthM := et_mk rfl
@[simp] theorem ei_isi {a : E} {ty : String} : (evP C gv (.isi a ty)).i e = bd ((evP C gv (.isi a ty)).v e) itemsM := ei_mk rfl
@[simp] theorem et_comp {tg : T} {it : E} {ifs : List E} {elt : E} {own : List Nat} : (evP C gv (.comp tg it ifs elt own)).t e = bd ((evP C gv (.comp tg it ifs elt own)).v e) truthM := et_mk rfl
@[simp] theorem ei_comp {tg : T} {it : E} {ifs : List E} {elt : E} {own : List Nat} : (evP C gv (.comp tg it ifs elt own)).i e = bd ((evP C gv (.comp tg it ifs elt own)).v e) itemsM := ei_mk rfl
@[simp] theorem et_comp2 {tg : T} {it : E} {ifs : List E} {tg1 : T} {it1 : E} {ifs1 : List E} {elt : E} {own own1 : List Nat} : (evP C gv (.comp2 tg it ifs tg1 it1 ifs1 elt own own1)).t e = bd ((evP C gv (.comp2 tg it ifs tg1 it1 ifs1 elt own own1)).v e) truthM := et_mk rfl
@[simp] theorem ei_comp2 {tg : T} {it : E} {ifs : List E} {tg1 : T} {it1 : E} {ifs1 : List E} {elt : E} {own own1 : List Nat} : (evP C gv (.comp2 tg it ifs tg1 it1 ifs1 elt own own1)).i e = bd ((evP C gv (.comp2 tg it ifs tg1 it1 ifs1 elt own own1)).v e) itemsM := ei_mk rfl
@[simp] theorem et_scp {a : E} : (evP C gv (.scp a)).t e = bd ((evP C gv (.scp a)).v e) truthM := et_mk rfl
@[simp] theorem ei_scp {a : E} : (evP C gv (.scp a)).i e = bd ((evP C gv (.scp a)).v e) itemsM := ei_mk rfl
@[simp] theorem asgs_nm {i : Nat} {ts : List T} {p : PyData} {ps : List PyData} : asgTs ((.nm i) :: ts) (p :: ps) e = bd (asgT (.nm i) (.d p) e) fun e1 => asgTs ts ps e1 := asgs_cons rfl
@[simp] theorem asgs_tp {us : List T} {ts : List T} {p : PyData} {ps : List PyData} : asgTs ((.tp us) :: ts) (p :: ps) e = bd (asgT (.tp us) (.d p) e) fun e1 => asgTs ts ps e1 := asgs_cons rfl
@[simp] theorem asgs_sb {i : Nat} {k : Int} {ts : List T} {p : PyData} {ps : List PyData} : asgTs ((.sb i k) :: ts) (p :: ps) e = bd (asgT (.sb i k) (.d p) e) fun e1 => asgTs ts ps e1 := asgs_cons rfl
@[simp] theorem asg_tpW {ts : List T} {xs : List PyData} : asgT (.tp ts) (.d (.tuple xs)) e = want (lenB ts xs) (asgTs ts xs e) := by
  conv => lhs; unfold asgT
end
end Zd
end
section
set_option Elab.async false
set_option linter.all false
set_option maxRecDepth 100000
set_option maxHeartbeats 1000000
/-! Zr1: loops, comprehensions, bounds, by rewriting. -/
namespace Zd
open PySem
/-- a loop that keeps the store: P tells what an environment stands for -/
theorem loop_of {α : Type} {P : α → Nv → Prop} {F : PyData → Nv → M Fl} {st : Store} {step : α → PyData → α} : ∀ (xs : List PyData) (a : α) (e : Nv), P a e →
    (∀ a x e, x ∈ xs → P a e → ∃ e', F x e st = .ok (.nx e') st ∧ P (step a x) e') → ∃ e', loopL F xs e st = .ok (.nx e') st ∧ P (xs.foldl step a) e'
  | [], a, e, h, _ => ⟨e, rfl, h⟩
  | x :: xs, a, e, h, f => by
    obtain ⟨e1, h1, p1⟩ := f a x e List.mem_cons_self h
    obtain ⟨e2, h2, p2⟩ := loop_of xs (step a x) e1 p1 fun a y e hy p => f a y e (List.mem_cons_of_mem _ hy) p
    refine ⟨e2, ?_, p2⟩
    show bd (F x e) _ st = _
    rw [bd_at h1]
    exact h2
theorem comp_of {f : PyData → M (List PyData)} {g : PyData → PyData} {st : Store} : ∀ xs : List PyData, (∀ x ∈ xs, f x st = .ok [g x] st) → compL f xs st = .ok (xs.map g) st
  | [], _ => rfl
  | x :: xs, h => by
    unfold compL
    rw [bd_at (h x List.mem_cons_self), bd_at (comp_of xs fun y hy => h y (List.mem_cons_of_mem _ hy))]
    rfl
theorem lim_of {α : Type} {m : M (List α)} {a : List α} {st st' : Store} (h : m st = .ok a st') (hl : a.length ≤ line) : lim m st = .ok a st' := by
  unfold lim
  rw [h]
  simp [hl]
theorem one_is {g : Nv → M W} {e : Nv} : oneM [] g e = bd (g e) fun w => bd (pureW w) fun p => Zd.ret [p] := rfl
theorem one_if {t : Nv → M Bool} {g : Nv → M W} {e : Nv} : oneM [t] g e = bd (t e) fun k => ifM k (bd (g e) fun w => bd (pureW w) fun p => Zd.ret [p]) (Zd.ret []) := by
  funext st
  unfold oneM testsL testsL bd
  cases t e st with
  | ok k st' => cases k <;> rfl
  | exc x st' => rfl
  | bad => rfl

/-! ### while -/
section
variable {c : Nv → M Bool} {b : Nv → M Fl}
theorem whileN_up : ∀ (n : Nat) (e : Nv) (st : Store), whileN c b n e st ≠ .bad → whileN c b (n + 1) e st = whileN c b n e st
  | 0, e, st, h => absurd rfl h
  | n + 1, e, st, h => by
    have h' : bd (c e) (fun k => match k with
      | false => Zd.ret (Fl.nx e)
      | true => bd (b e) fun r => match r with
        | .nx e' => whileN c b n e'
        | .ct e' => whileN c b n e'
        | .bk e' => Zd.ret (.nx e')
        | .rt w => Zd.ret (.rt w)) st ≠ .bad := h
    show bd (c e) (fun k => match k with
      | false => Zd.ret (Fl.nx e)
      | true => bd (b e) fun r => match r with
        | .nx e' => whileN c b (n + 1) e'
        | .ct e' => whileN c b (n + 1) e'
        | .bk e' => Zd.ret (.nx e')
        | .rt w => Zd.ret (.rt w)) st = bd (c e) (fun k => match k with
      | false => Zd.ret (Fl.nx e)
      | true => bd (b e) fun r => match r with
        | .nx e' => whileN c b n e'
        | .ct e' => whileN c b n e'
        | .bk e' => Zd.ret (.nx e')
        | .rt w => Zd.ret (.rt w)) st
    unfold bd at h' ⊢
    cases ec : c e st with
    | bad => rfl
    | exc x st1 => rfl
    | ok k st1 =>
      rw [ec] at h'
      cases k with
      | false => rfl
      | true =>
        dsimp only at h' ⊢
        cases eb : b e st1 with
        | bad => rfl
        | exc x st2 => rfl
        | ok r st2 =>
          rw [eb] at h'
          cases r with
          | nx e' => exact whileN_up n e' st2 h'
          | ct e' => exact whileN_up n e' st2 h'
          | bk e' => rfl
          | rt w => rfl
theorem whileN_le {n m : Nat} {e : Nv} {st : Store} (h : whileN c b n e st ≠ .bad) (l : n ≤ m) : whileN c b m e st = whileN c b n e st := by
  induction m with
  | zero =>
    have : n = 0 := by omega
    rw [this]
  | succ m ih =>
    by_cases z : n = m + 1
    · rw [z]
    · have h1 := ih (by omega)
      rw [whileN_up m e st (by rw [h1]; exact h), h1]
theorem whileR_of {n : Nat} {e : Nv} {st st' : Store} {r : Fl} (h : whileN c b n e st = .ok r st') : whileR c b e st = .ok r st' := by
  have hn : whileN c b n e st ≠ .bad := by rw [h]; exact fun z => by cases z
  unfold whileR
  have ex : ∃ n, whileN c b n e st ≠ .bad := ⟨n, hn⟩
  rw [dif_pos ex]
  have hc := Classical.choose_spec ex
  rcases Nat.le_total n (Classical.choose ex) with l | l
  · rw [whileN_le hn l, h]
  · rw [← whileN_le hc l, h]
theorem whileN_stop {n : Nat} {e : Nv} {st st' : Store} (h : c e st = .ok false st') : whileN c b (n + 1) e st = .ok (.nx e) st' := by
  show bd (c e) _ st = _
  rw [bd_at h]
  rfl
theorem whileN_go {n : Nat} {e e' : Nv} {st st1 st2 : Store} (h : c e st = .ok true st1) (h2 : b e st1 = .ok (.nx e') st2) : whileN c b (n + 1) e st = whileN c b n e' st2 := by
  show bd (c e) _ st = _
  rw [bd_at h]
  show bd (b e) _ st1 = _
  rw [bd_at h2]
end

/-! ### sizes -/
theorem bd_one : True := trivial
def Bd (n : Nat) (i : Int) : Prop := i.natAbs < 2 ^ n
theorem Bd.mono {n m : Nat} {i : Int} (h : Bd n i) (l : n ≤ m) : Bd m i := Nat.lt_of_lt_of_le h (Nat.pow_le_pow_right (by decide) l)
theorem Bd.add {n m : Nat} {i j : Int} (h : Bd n i) (h' : Bd m j) : Bd (max n m + 1) (i + j) := by
  have h1 : Bd (max n m) i := h.mono (Nat.le_max_left _ _)
  have h2 : Bd (max n m) j := h'.mono (Nat.le_max_right _ _)
  unfold Bd at *
  rw [Nat.pow_succ]
  have := Int.natAbs_add_le i j
  omega
theorem Bd.neg {n : Nat} {i : Int} (h : Bd n i) : Bd n (-i) := by
  unfold Bd at *
  rw [Int.natAbs_neg]
  exact h
theorem Bd.sub {n m : Nat} {i j : Int} (h : Bd n i) (h' : Bd m j) : Bd (max n m + 1) (i - j) := by
  rw [Int.sub_eq_add_neg]
  exact h.add h'.neg
theorem Bd.mul {n m : Nat} {i j : Int} (h : Bd n i) (h' : Bd m j) : Bd (n + m) (i * j) := by
  unfold Bd at *
  rw [Int.natAbs_mul, Nat.pow_add]
  exact Nat.mul_lt_mul'' h h'
theorem bits_le {n : Nat} {i : Int} (h : Bd n i) : Builtin.Int.intBits i ≤ n := by
  unfold Builtin.Int.intBits
  unfold Bd at h
  split
  · exact Nat.zero_le _
  · rename_i z
    have : i.natAbs ≠ 0 := fun q => z (by simpa using q)
    have := (Nat.log2_lt this).mpr h
    omega
theorem Bd.one : Bd 1 1 := by unfold Bd; decide
theorem Bd.mone : Bd 1 (-1) := by unfold Bd; decide
theorem Bd.zero {n : Nat} : Bd n 0 := Nat.two_pow_pos n
theorem mulOk_of {n m : Nat} {i j : Int} (h : Bd n i) (h' : Bd m j) (l : n + m ≤ 60000000) : mulOk i j = true := by
  have h1 := bits_le h
  have h2 := bits_le h'
  have line : (Builtin.Int.intBits i + Builtin.Int.intBits j : Int) ≤ bitsLine := by
    show _ ≤ (134217728 : Int)
    omega
  unfold mulOk Builtin.Int.intTooBig
  rw [decide_eq_false (p := (Builtin.Int.intBits i : Int) + (Builtin.Int.intBits j : Int) > bitsLine) (by omega), Bool.and_false]
  rfl
end Zd
end
section
set_option Elab.async false
set_option linter.all false
set_option maxRecDepth 100000
set_option maxHeartbeats 1000000
/-! Zr2: texts of data made of numbers: that they may be made, and compared. -/
namespace Zd
open PySem
theorem ok_app (a b : Str) : PyData.strOk (a ++ b) = (PyData.strOk a && PyData.strOk b) := by
  show ((a.cps ++ b.cps).all _) = _
  rw [Array.all_append]
  rfl
theorem ok_of (s : String) : PyData.strOk (Str.ofString s) = true := by
  rw [Str.ofString_eq_toList]
  show ((s.toList.map Char.toNat).toArray.all _) = true
  rw [List.all_toArray, List.all_eq_true]
  intro n hn
  obtain ⟨c, _, rfl⟩ := List.mem_map.mp hn
  have := c.valid
  have e : c.toNat = c.val.toNat := rfl
  rw [decide_eq_true_eq, e]
  rcases this with h | ⟨_, h⟩
  · omega
  · omega
theorem ok_join (sep : Str) (hs : PyData.strOk sep = true) : ∀ ts : List Str, (∀ t ∈ ts, PyData.strOk t = true) → PyData.strOk (Str.join sep ts) = true
  | [], _ => (by decide +kernel : PyData.strOk Str.empty = true)
  | [x], h => h x (by simp)
  | x :: y :: r, h => by
    show PyData.strOk (x ++ sep ++ Str.join sep (y :: r)) = true
    rw [ok_app, ok_app, hs, h x (by simp), ok_join sep hs (y :: r) fun t ht => h t (List.mem_cons_of_mem _ ht)]
    rfl
theorem ok_from : ∀ (ts : List Str) (k : Nat) (acc : Str), PyData.strOk acc = true → (∀ t ∈ ts, PyData.strOk t = true) → PyData.strOk (textFrom k acc ts) = true
  | [], _, _, h, _ => h
  | t :: r, k, acc, h, g => by
    refine ok_from r (k + 1) _ ?_ fun u hu => g u (List.mem_cons_of_mem _ hu)
    rw [ok_app, ok_app, h, g t (by simp), ok_of]
    rfl
/-- numbers, truth values, None; lists and tuples of them -/
inductive Num : PyData → Prop
  | non : Num .none
  | bl (b : Bool) : Num (.bool b)
  | int (i : Int) : wideI i = true → Num (.int i)
  | lst (xs : List PyData) : (∀ x ∈ xs, Num x) → Num (.list xs)
  | tup (xs : List PyData) : (∀ x ∈ xs, Num x) → Num (.tuple xs)
theorem shownAll_map : ∀ xs : List PyData, PyData.shownAll xs = xs.map PyData.shown
  | [] => by simp only [PyData.shownAll, List.map_nil]
  | x :: xs => by simp only [PyData.shownAll, List.map_cons, shownAll_map xs]
theorem Num.ok {p : PyData} (h : Num p) : PyData.strOk p.shown = true := by
  induction h with
  | non => simp only [PyData.shown]; decide +kernel
  | bl b => cases b <;> (simp only [PyData.shown]; decide +kernel)
  | int i _ => simp only [PyData.shown]; exact ok_of _
  | lst xs _ ih =>
    simp only [PyData.shown]
    unfold listText
    rw [ok_app, ok_from _ _ _ (ok_of _) fun t ht => ?_, ok_of]
    · rfl
    · rw [shownAll_map] at ht
      obtain ⟨x, hx, rfl⟩ := List.mem_map.mp ht
      exact ih x hx
  | tup xs _ ih =>
    simp only [PyData.shown]
    unfold tupleText
    rw [ok_app, ok_app, ok_join _ (ok_of _) _ fun t ht => ?_, ok_of, ok_of]
    · rfl
    · rw [shownAll_map] at ht
      obtain ⟨x, hx, rfl⟩ := List.mem_map.mp ht
      exact ih x hx
theorem wideAll_all : ∀ xs : List PyData, wideAll xs = xs.all wideP
  | [] => by simp only [wideAll, List.all_nil]
  | x :: xs => by simp only [wideAll, List.all_cons, wideAll_all xs]
theorem canAll_all : ∀ xs : List PyData, PyData.canLayAll0 xs = xs.all PyData.canLay0
  | [] => by simp only [PyData.canLayAll0, List.all_nil]
  | x :: xs => by simp only [PyData.canLayAll0, List.all_cons, canAll_all xs]
theorem Num.wide {p : PyData} (h : Num p) : wideP p = true := by
  induction h with
  | non => simp only [wideP]
  | bl b => simp only [wideP]
  | int i h => simp only [wideP, h]
  | lst xs _ ih => simp only [wideP, wideAll_all, List.all_eq_true]; exact ih
  | tup xs _ ih => simp only [wideP, wideAll_all, List.all_eq_true]; exact ih
theorem Num.can {p : PyData} (h : Num p) : p.canLay0 = true := by
  induction h with
  | non => simp only [PyData.canLay0]
  | bl b => simp only [PyData.canLay0]
  | int i h => simp only [PyData.canLay0]
  | lst xs _ ih => simp only [PyData.canLay0, canAll_all, List.all_eq_true]; exact ih
  | tup xs _ ih => simp only [PyData.canLay0, canAll_all, List.all_eq_true]; exact ih
/-- how many signs its text has at most -/
def inkS : List Nat → Nat
  | [] => 0
  | a :: r => a + 2 + inkS r
mutual
def ink : PyData → Nat
  | .none => 5
  | .bool _ => 5
  | .int _ => 4301
  | .str _ => 0
  | .list xs => inks xs + 3
  | .tuple xs => inks xs + 3
  | .dict _ => 0
def inks : List PyData → Nat
  | [] => 0
  | x :: xs => ink x + 2 + inks xs
end
theorem len_join : ∀ (ts : List Str) (f : List Nat), ts.map Str.length = f → (Str.join ", " ts).length ≤ inkS f
  | [], _, rfl => Nat.le_refl 0
  | [x], _, rfl => by
    show x.length ≤ x.length + 2 + 0
    omega
  | x :: y :: r, _, rfl => by
    have ih := len_join (y :: r) _ rfl
    show (x ++ ", " ++ Str.join ", " (y :: r)).length ≤ x.length + 2 + inkS ((y :: r).map Str.length)
    rw [strLen_append, strLen_append]
    have e : ((", " : String) : Str).length = 2 := rfl
    omega
theorem len_from : ∀ (ts : List Str) (k : Nat) (acc : Str), (textFrom k acc ts).length ≤ acc.length + inkS (ts.map Str.length)
  | [], _, acc => Nat.le_refl _
  | t :: r, k, acc => by
    have ih := len_from r (k + 1) (acc ++ (if k > 0 then ", " else "" : String) ++ t)
    rw [strLen_append, strLen_append] at ih
    have e : ((if k > 0 then ", " else "" : String) : Str).length ≤ 2 := by split <;> decide +kernel
    show (textFrom (k + 1) (acc ++ (if k > 0 then ", " else "" : String) ++ t) r).length ≤ acc.length + (t.length + 2 + inkS (r.map Str.length))
    omega
theorem inkS_le : ∀ xs : List PyData, (∀ x ∈ xs, x.shown.length ≤ ink x) → inkS ((xs.map PyData.shown).map Str.length) ≤ inks xs
  | [], _ => Nat.le_refl 0
  | x :: xs, h => by
    have ih := inkS_le xs fun y hy => h y (List.mem_cons_of_mem _ hy)
    have h1 := h x (by simp)
    show x.shown.length + 2 + inkS ((xs.map PyData.shown).map Str.length) ≤ ink x + 2 + inks xs
    omega
theorem Num.len {p : PyData} (h : Num p) : p.shown.length ≤ ink p := by
  induction h with
  | non => simp only [PyData.shown, ink]; decide +kernel
  | bl b => cases b <;> (simp only [PyData.shown, ink]; decide +kernel)
  | int i h =>
    simp only [PyData.shown, ink]
    rw [ofString_length]
    exact int_text_length_le10 (k := 4300) (by decide) (wideI_small h)
  | lst xs _ ih =>
    simp only [PyData.shown, ink]
    unfold listText
    have l := inkS_le xs ih
    have f := len_from (PyData.shownAll xs) 0 "["
    rw [strLen_append]
    rw [shownAll_map] at f ⊢
    have e1 : ((("[" : String)) : Str).length = 1 := rfl
    have e2 : ((("]" : String)) : Str).length = 1 := rfl
    omega
  | tup xs _ ih =>
    simp only [PyData.shown, ink]
    unfold tupleText
    have l := inkS_le xs ih
    have f := len_join (PyData.shownAll xs) _ rfl
    rw [strLen_append, strLen_append]
    rw [shownAll_map] at f ⊢
    have e1 : (((("(" : String)) : Str)).length = 1 := rfl
    have e2 : (((if (xs.map PyData.shown).length == 1 then ",)" else ")" : String)) : Str).length ≤ 2 := by split <;> decide +kernel
    omega
theorem Num.shownOk {p : PyData} (h : Num p) (d : p.depth ≤ 64) (l : ink p ≤ 16777216) : shownOk p = true := by
  have e : (16777216 : Nat) = line := rfl
  unfold Zd.shownOk
  rw [h.wide, h.can, decide_eq_true d, decide_eq_true (by rw [← e]; exact Nat.le_trans h.len l)]
  rfl
theorem ne_same {s : Str} (h : PyData.strOk s = true) : cmpB .NotEq (.d (.str s)) (.d (.str s)) = Zd.ret false := by
  have sh : SeqAt.shaped (.str s) = true := by simp [SeqAt.shaped, PyData.canLay0, PyData.depth, h]
  rw [ne_p sh sh]
  simp [PyData.eqv]
theorem repr_num {p : PyData} (h : Num p) (d : p.depth ≤ 64) (l : ink p ≤ 16777216) : bltW .repr [.d p] = Zd.ret (.d (.str p.shown)) := by
  funext st
  show (match toP st (.d p) with | some p => want (Zd.shownOk p) (Zd.ret (W.d (.str p.shown))) st | none => Out.bad) = _
  show want (Zd.shownOk p) (Zd.ret (W.d (.str p.shown))) st = _
  rw [h.shownOk d l]
  rfl
end Zd
end
section
set_option Elab.async false
set_option linter.all false
set_option maxRecDepth 100000
set_option maxHeartbeats 1000000
/-! K76M1: what the small defs compute. -/
namespace K76
open PySem Zd
def ip (l : List Int) : List PyData := l.map .int
def gcdL (l : List Int) : Nat := l.foldl (fun g i => Nat.gcd g i.natAbs) 0
theorem ip_length (l : List Int) : (ip l).length = l.length := List.length_map _
theorem gcd_fold (l : List Int) (a : Nat) : (ip l).foldl (fun (g : Nat) p => match p with | .int i => Nat.gcd g i.natAbs | _ => g) a = l.foldl (fun g i => Nat.gcd g i.natAbs) a := by
  unfold ip
  rw [List.foldl_map]
theorem tb_common_part : tb "common_part" = some d_common_part := by kernel_rfl
theorem common_part_is (k : Nat) (l : List Int) (p : PyData) (hp : p = .tuple (ip l) ∨ p = .list (ip l)) (st : Store) : callD tb gv (k + 1) "common_part" [.d p] st = .ok (.d (.int (gcdL l : Nat))) st := by
  rw [callD_is tb_common_part]
  have it : itemsM (.d p) = Zd.ret (ip l) := by rcases hp with rfl | rfl <;> rfl
  simp [d_common_part, b_common_part, isOwn, it]
  obtain ⟨e', h1, h2⟩ := loop_of (P := fun (g : Nat) (e : Nv) => ∃ o, e = [some (.d p), some (.d (.int g)), o]) (st := st) (step := fun (g : Nat) q => match q with | .int i => Nat.gcd g i.natAbs | _ => g)
    (F := fun x e => bd (asgT (T.nm 2) (W.d x) e) fun e1 => exPs (callD tb gv k) gv [S.asg (.nm 1) (.blt .gcd [.var 1, .var 2])] e1) (ip l) 0 [some (.d p), some (.d (.int 0)), none] ⟨_, rfl⟩ (by
      rintro g x e hx ⟨o, rfl⟩
      obtain ⟨i, _, rfl⟩ := List.mem_map.mp hx
      refine ⟨_, ?_, ⟨some (.d (.int i)), rfl⟩⟩
      simp)
  obtain ⟨o, rfl⟩ := h2
  rw [gcd_fold] at h1
  simp at h1
  rw [bd_at h1]
  simp [gcdL]
theorem comp_div {g : Nat} (hg : g ≠ 0) (hz : g.log2 < 9000) : ((g : Int) ≠ 0) ∧ (g : Int).natAbs.log2 < 9000 := ⟨by omega, by simpa using hz⟩
def lowL (l : List Int) : List Int := l.map fun i => i / (gcdL l : Int)
theorem tb_lowest : tb "lowest" = some d_lowest := by kernel_rfl
theorem lowest_is (k : Nat) (l : List Int) (p : PyData) (hp : p = .tuple (ip l) ∨ p = .list (ip l)) (hl : l.length ≤ line) (hg : gcdL l ≠ 0) (hz : (gcdL l).log2 < 9000) (st : Store) : callD tb gv (k + 2) "lowest" [.d p] st = .ok (.d (.tuple (ip (lowL l)))) st := by
  rw [callD_is tb_lowest]
  have it : itemsM (.d p) = Zd.ret (ip l) := by rcases hp with rfl | rfl <;> rfl
  simp [d_lowest, b_lowest, isOwn, wipeE]
  rw [bd_at (common_part_is k l p hp st)]
  simp [it]
  rw [bd_at (lim_of (comp_of (g := fun q => match q with | .int i => .int (i / (gcdL l : Int)) | q => q) (ip l) fun x hx => ?_) (by rw [List.length_map, ip_length]; exact hl))]
  · simp [ip, lowL]
  · obtain ⟨i, _, rfl⟩ := List.mem_map.mp hx
    obtain ⟨h1, h2⟩ := comp_div hg hz
    simp [one_is, fdiv_i h1 h2, Int.fdiv_eq_ediv_of_nonneg i (Int.natCast_nonneg _)]
theorem comp_ints {F : PyData → M (List PyData)} {f : Int → Int} {l : List Int} {st : Store} (h : ∀ i ∈ l, F (.int i) st = .ok [.int (f i)] st) (hl : l.length ≤ line) : lim (compL F (ip l)) st = .ok (ip (l.map f)) st := by
  refine lim_of ?_ (by unfold ip; rw [List.length_map, List.length_map]; exact hl)
  rw [comp_of (g := fun q => match q with | .int i => .int (f i) | q => q) (ip l) fun x hx => ?_]
  · simp [ip]
  · obtain ⟨i, hi, rfl⟩ := List.mem_map.mp hx
    exact h i hi
theorem ip_app (l m : List Int) : ip l ++ ip m = ip (l ++ m) := by unfold ip; rw [List.map_append]
theorem tb_lowest_over : tb "lowest_over" = some d_lowest_over := by kernel_rfl
def sgn (b : Int) : Int := if 0 < b then 1 else -1
def overL (l : List Int) (b : Int) : List Int := lowL (l.map (fun i => sgn b * i) ++ [sgn b * b])
theorem mul_sgn {b i : Int} (n : Nat) (h : Bd n i) (hn : n ≤ 1000000) : mulOk (sgn b) i = true := mulOk_of (n := 1) (m := n) (by unfold sgn; split; exact Bd.one; exact Bd.mone) h (by omega)
theorem sgn_w {b : Int} : (if 0 < b then W.d (PyData.int 1) else W.d (PyData.int (-1))) = W.d (.int (sgn b)) := by unfold sgn; split <;> rfl
theorem sgn_abs {b : Int} (i : Int) : (sgn b * i).natAbs = i.natAbs := by unfold sgn; split <;> simp
theorem gcd_fold_le (l : List Int) : ∀ (a : Nat), l.foldl (fun g i => Nat.gcd g i.natAbs) a ∣ a ∧ ∀ i ∈ l, l.foldl (fun g i => Nat.gcd g i.natAbs) a ∣ i.natAbs := by
  induction l with
  | nil => intro a; exact ⟨Nat.dvd_refl _, fun i h => by cases h⟩
  | cons i l ih =>
    intro a
    obtain ⟨h1, h2⟩ := ih (Nat.gcd a i.natAbs)
    refine ⟨Nat.dvd_trans h1 (Nat.gcd_dvd_left _ _), fun j hj => ?_⟩
    rcases List.mem_cons.mp hj with e | e
    · subst e; exact Nat.dvd_trans h1 (Nat.gcd_dvd_right _ _)
    · exact h2 j e
theorem gcdL_dvd {l : List Int} {i : Int} (h : i ∈ l) : (gcdL l : Int) ∣ i := Int.ofNat_dvd_left.mpr ((gcd_fold_le l 0).2 i h)
theorem gcdL_ne {l : List Int} {i : Int} (h : i ∈ l) (h0 : i ≠ 0) : gcdL l ≠ 0 := fun z => by
  have := gcdL_dvd h
  rw [z] at this
  exact h0 (by simpa using this)
theorem gcdL_bd {l : List Int} {i : Int} {n : Nat} (h : i ∈ l) (h0 : i ≠ 0) (hb : Bd n i) : gcdL l < 2 ^ n := by
  have := Nat.le_of_dvd (by omega) ((gcd_fold_le l 0).2 i h)
  exact Nat.lt_of_le_of_lt this hb
theorem gcd_over {l : List Int} {b : Int} (n : Nat) (hn : n ≤ 9000) (hb : ∀ i ∈ l, Bd n i) (hbb : Bd n b) (b0 : b ≠ 0) : gcdL (l.map (fun i => sgn b * i) ++ [sgn b * b]) ≠ 0 ∧ (gcdL (l.map (fun i => sgn b * i) ++ [sgn b * b])).log2 < 9000 := by
  have m : sgn b * b ∈ l.map (fun i => sgn b * i) ++ [sgn b * b] := by simp
  have nz : sgn b * b ≠ 0 := fun z => b0 (by
    have := sgn_abs (b := b) b
    rw [z] at this
    omega)
  have g0 := gcdL_ne m nz
  refine ⟨g0, ?_⟩
  have lt := gcdL_bd m nz (n := n) (by unfold Bd; rw [sgn_abs]; exact hbb)
  exact Nat.lt_of_lt_of_le ((Nat.log2_lt g0).mpr lt) hn
theorem lowest_over_is (k : Nat) (l : List Int) (b : Int) (p : PyData) (hp : p = .tuple (ip l) ∨ p = .list (ip l)) (n : Nat) (hn : n ≤ 9000) (hb : ∀ i ∈ l, Bd n i) (hbb : Bd n b) (b0 : b ≠ 0) (hl : l.length < line) (st : Store) :
    callD tb gv (k + 3) "lowest_over" [.d p, .d (.int b)] st = .ok (.d (.tuple (ip (overL l b)))) st := by
  rw [callD_is tb_lowest_over]
  have it : itemsM (.d p) = Zd.ret (ip l) := by rcases hp with rfl | rfl <;> rfl
  simp [d_lowest_over, b_lowest_over, isOwn, wipeE, ifM_ret, sgn_w, it]
  rw [bd_at (comp_ints (f := fun i => sgn b * i) (fun i hi => ?_) (Nat.le_of_lt hl))]
  · have m1 := mul_sgn (b := b) n hbb (by omega)
    have e1 : ip (l.map fun i => sgn b * i) ++ [PyData.int (sgn b * b)] = ip (l.map (fun i => sgn b * i) ++ [sgn b * b]) := ip_app _ [sgn b * b]
    have h1 : (ip (l.map fun i => sgn b * i)).length + 1 ≤ line := by rw [ip_length, List.length_map]; exact hl
    have h2 : binW .Add (.d (.list (ip (l.map fun i => sgn b * i)))) (.d (.list [.int (sgn b * b)])) = Zd.ret (.d (.list (ip (l.map (fun i => sgn b * i) ++ [sgn b * b])))) := by
      rw [add_l h1, e1]
    have one : decide (1 ≤ line) = true := by decide
    simp [m1, one, h2]
    obtain ⟨g0, gz⟩ := gcd_over n hn hb hbb b0
    rw [bd_at (lowest_is k _ _ (.inr rfl) (by simp; exact hl) g0 gz st)]
    simp [overL]
  · have m2 := mul_sgn (b := b) n (hb i hi) (by omega)
    simp [one_is, m2]
end K76
end
section
set_option Elab.async false
set_option linter.all false
set_option maxRecDepth 100000
set_option maxHeartbeats 2000000
/-! K76M2: tables. -/
namespace K76
open PySem Zd
theorem comp_gen {F : PyData → M (List PyData)} {g : PyData → PyData} {xs : List PyData} {st : Store} (h : ∀ x ∈ xs, F x st = .ok [g x] st) (hl : xs.length ≤ line) : lim (compL F xs) st = .ok (xs.map g) st :=
  lim_of (comp_of xs h) (by rw [List.length_map]; exact hl)
theorem flat_of {f : PyData → M (List PyData)} {g : PyData → List PyData} {st : Store} : ∀ xs : List PyData, (∀ x ∈ xs, f x st = .ok (g x) st) → compL f xs st = .ok (xs.flatMap g) st
  | [], _ => rfl
  | x :: xs, h => by
    unfold compL
    rw [bd_at (h x List.mem_cons_self), bd_at (flat_of xs fun y hy => h y (List.mem_cons_of_mem _ hy))]
    rfl
theorem two_is {it : Nv → M (List PyData)} {T1 : T} {own1 : List Nat} {g : Nv → M W} {e : Nv} : twoM [] it T1 own1 [] g e = bd (it e) fun ys => compL (fun y => bd (asgT T1 (.d y) (wipeE e own1)) (oneM [] g)) ys := rfl
theorem ints_ip : ∀ l : List Int, intsOf (ip l) = some l
  | [] => rfl
  | i :: l => by
    show (intsOf (ip l)).map (i :: ·) = _
    rw [ints_ip l]
    rfl
theorem sum_ip (l : List Int) : bltW .sum [.d (.list (ip l))] = Zd.ret (.d (.int l.sum)) := by
  funext st
  show (match (some (ip l)).bind intsOf with | some ns => Zd.int ns.sum st | none => Out.bad) = _
  rw [Option.bind_some, ints_ip]
  rfl
def dotL (r o : List Int) : Int := ((r.zip o).map fun p => p.1 * p.2).sum
theorem tb_dot : tb "dot" = some d_dot := by kernel_rfl
theorem dot_is (k : Nat) (r o : List Int) (n : Nat) (hn : n ≤ 1000000) (hr : ∀ i ∈ r, Bd n i) (ho : ∀ i ∈ o, Bd n i) (hl : r.length ≤ line) (st : Store) : callD tb gv (k + 1) "dot" [.d (.tuple (ip r)), .d (.tuple (ip o))] st = .ok (.d (.int (dotL r o))) st := by
  rw [callD_is tb_dot]
  have z : zipM (.d (.tuple (ip r))) (.d (.tuple (ip o))) zipP = Zd.ret ((r.zip o).map fun p => .tuple [.int p.1, .int p.2]) := by
    show Zd.ret (zipP (ip r) (ip o)) = _
    congr 1
    unfold zipP ip
    rw [List.zip_map, List.map_map]
    rfl
  simp [d_dot, b_dot, isOwn, wipeE, z, lenB, isSt]
  rw [bd_at (comp_gen (g := fun q => match q with | .tuple [.int a, .int b] => .int (a * b) | q => q) (fun x hx => ?_) (by rw [List.length_map, List.length_zip]; omega))]
  · have e : ((r.zip o).map fun p => PyData.tuple [.int p.1, .int p.2]).map (fun q => match q with | .tuple [.int a, .int b] => .int (a * b) | q => q) = ip ((r.zip o).map fun p => p.1 * p.2) := by
      unfold ip
      rw [List.map_map, List.map_map]
      rfl
    rw [e]
    simp [sum_ip, dotL]
  · obtain ⟨⟨a, b⟩, hp, rfl⟩ := List.mem_map.mp hx
    obtain ⟨h1, h2⟩ := List.of_mem_zip hp
    have m : mulOk a b = true := mulOk_of (hr a h1) (ho b h2) (by omega)
    simp [one_is, m, lenB, isSt]
/-- a table by its seventeen numbers -/
def tabD (l : List Int) : PyData := .tuple [.tuple [.tuple (ip (l.take 4)), .tuple (ip ((l.drop 4).take 4)), .tuple (ip ((l.drop 8).take 4)), .tuple (ip ((l.drop 12).take 4))], .int (l.getD 16 0)]
theorem overL_length (l : List Int) (b : Int) : (overL l b).length = l.length + 1 := by unfold overL lowL; simp
theorem flat_rows (rows : List (List Int)) : (rows.map fun r => PyData.tuple (ip r)).flatMap (fun q => match q with | .tuple ps => ps | _ => []) = ip rows.flatten := by
  unfold ip
  rw [List.flatMap_map, List.map_flatten, List.flatMap_def]
theorem tb_reduced_table : tb "reduced_table" = some d_reduced_table := by kernel_rfl
theorem reduced_table_is (k : Nat) (rows : List (List Int)) (b : Int) (p : PyData) (hp : p = .tuple (rows.map fun r => .tuple (ip r)) ∨ p = .list (rows.map fun r => .tuple (ip r))) (h16 : rows.flatten.length = 16) (n : Nat) (hn : n ≤ 9000) (hr : ∀ i ∈ rows.flatten, Bd n i) (hb : Bd n b) (b0 : b ≠ 0) (st : Store) :
    callD tb gv (k + 4) "reduced_table" [.d p, .d (.int b)] st = .ok (.d (tabD (overL rows.flatten b))) st := by
  rw [callD_is tb_reduced_table]
  have it : itemsM (.d p) = Zd.ret (rows.map fun r => .tuple (ip r)) := by rcases hp with rfl | rfl <;> rfl
  simp [d_reduced_table, b_reduced_table, isOwn, wipeE, hide, it]
  rw [bd_at (lim_of (flat_of (g := fun q => match q with | .tuple ps => ps | _ => []) _ fun x hx => ?_) ?_)]
  · rw [flat_rows]
    rw [bd_at (lowest_over_is k rows.flatten b _ (.inr rfl) n hn hr hb b0 (by rw [h16]; decide) st)]
    have hl := overL_length rows.flatten b
    rw [h16] at hl
    generalize overL rows.flatten b = l at hl
    match l, hl with
    | [x0, x1, x2, x3, x4, x5, x6, x7, x8, x9, x10, x11, x12, x13, x14, x15, x16], _ =>
      have s1 : cutP (ip [x0, x1, x2, x3, x4, x5, x6, x7, x8, x9, x10, x11, x12, x13, x14, x15, x16]) none (some 4) = ip [x0, x1, x2, x3] := rfl
      have s2 : cutP (ip [x0, x1, x2, x3, x4, x5, x6, x7, x8, x9, x10, x11, x12, x13, x14, x15, x16]) (some 4) (some 8) = ip [x4, x5, x6, x7] := rfl
      have s3 : cutP (ip [x0, x1, x2, x3, x4, x5, x6, x7, x8, x9, x10, x11, x12, x13, x14, x15, x16]) (some 8) (some 12) = ip [x8, x9, x10, x11] := rfl
      have s4 : cutP (ip [x0, x1, x2, x3, x4, x5, x6, x7, x8, x9, x10, x11, x12, x13, x14, x15, x16]) (some 12) (some 16) = ip [x12, x13, x14, x15] := rfl
      have s5 : subW (.d (.tuple (ip [x0, x1, x2, x3, x4, x5, x6, x7, x8, x9, x10, x11, x12, x13, x14, x15, x16]))) (.d (.int 16)) = Zd.ret (.d (.int x16)) := sub_tup rfl
      have l4 : decide (4 ≤ line) = true := by decide
      have l2 : decide (2 ≤ line) = true := by decide
      simp [s1, s2, s3, s4, s5, l4, l2, tabD]
  · rw [flat_rows, ip_length, h16]
    decide
  · obtain ⟨r, _, rfl⟩ := List.mem_map.mp hx
    simp [two_is, wipeE]
    have z := comp_of (f := fun y => oneM [] (evP (callD tb gv (k + 3)) gv (E.var 4)).v [some (W.d p), some (W.d (.int b)), none, some (W.d (.tuple (ip r))), some (W.d y)]) (g := id) (st := st) (ip r) fun x hx => by simp [one_is]
    rw [List.map_id] at z
    exact z
def rowsD (R : List (List Int)) : PyData := .tuple (R.map fun r => .tuple (ip r))
def okR (R : List (List Int)) : Prop := R.length = 4 ∧ ∀ r ∈ R, r.length = 4
def transp (R : List (List Int)) : List (List Int) := (List.range 4).map fun j => R.map fun r => r.getD j 0
theorem at_ip {l : List Int} {j : Nat} (h : j < l.length) : L2.atI (ip l) (j : Int) = some (.int (l.getD j 0)) := by
  unfold L2.atI L2.ixN
  rw [ip_length]
  have h1 : (0 : Int) ≤ (j : Int) := Int.natCast_nonneg j
  simp [h1, h, ip]
theorem tb_flipped : tb "flipped" = some d_flipped := by kernel_rfl
theorem flipped_is (k : Nat) (R : List (List Int)) (h : okR R) (st : Store) : callD tb gv (k + 1) "flipped" [.d (rowsD R)] st = .ok (.d (rowsD (transp R))) st := by
  rw [callD_is tb_flipped]
  have r4 : rngM [.d (.int 4)] = Zd.ret ([0, 1, 2, 3].map fun i : Nat => .int (i : Int)) := rfl
  have w1 : wantN 1 [W.d (.int 4)] = Zd.ret [W.d (.int 4)] := rfl
  simp [d_flipped, b_flipped, isOwn, wipeE, w1, r4]
  rw [bd_at (comp_gen (g := fun q => match q with | .int i => .tuple (ip (R.map fun r => r.getD i.toNat 0)) | q => q) (fun x hx => ?_) (by decide))]
  · simp [rowsD, transp, List.range, List.range.loop]
  · have hx' : ∃ j : Nat, j < 4 ∧ x = .int (j : Int) := by
      simp at hx
      rcases hx with rfl | rfl | rfl | rfl
      · exact ⟨0, by decide, rfl⟩
      · exact ⟨1, by decide, rfl⟩
      · exact ⟨2, by decide, rfl⟩
      · exact ⟨3, by decide, rfl⟩
    obtain ⟨j, hj, rfl⟩ := hx'
    simp [one_is, rowsD, wipeE]
    rw [bd_at (comp_gen (g := fun q => match q with | .tuple ps => ps.getD j .none | q => q) (fun x hx => ?_) (by rw [List.length_map, h.1]; decide))]
    · simp
      unfold ip
      rw [List.map_map]
      refine List.map_congr_left fun r hr => ?_
      have hl := h.2 r hr
      simp [ip, hl, hj]
    · obtain ⟨r, hr, rfl⟩ := List.mem_map.mp hx
      have hl := h.2 r hr
      have s := sub_tup (at_ip (l := r) (j := j) (by omega))
      simp [one_is, s]
      simp [ip, hl, hj]
end K76
end
section
set_option Elab.async false
set_option linter.all false
set_option maxRecDepth 100000
set_option maxHeartbeats 2000000
/-! K76M3: products of tables. -/
namespace K76
open PySem Zd
def bdR (n : Nat) (R : List (List Int)) : Prop := ∀ r ∈ R, ∀ i ∈ r, Bd n i
theorem getD_bd {l : List Int} {n j : Nat} (h : ∀ i ∈ l, Bd n i) : Bd n (l.getD j 0) := by
  rw [List.getD_eq_getElem?_getD]
  cases e : l[j]? with
  | none => exact Bd.zero
  | some x => exact h x (List.mem_of_getElem? e)
theorem transp_bd {R : List (List Int)} {n : Nat} (h : bdR n R) : bdR n (transp R) := by
  intro r hr i hi
  obtain ⟨j, _, rfl⟩ := List.mem_map.mp hr
  obtain ⟨q, hq, rfl⟩ := List.mem_map.mp hi
  exact getD_bd (h q hq)
theorem transp_ok {R : List (List Int)} (h : okR R) : okR (transp R) := by
  refine ⟨by simp [transp], fun r hr => ?_⟩
  obtain ⟨j, _, rfl⟩ := List.mem_map.mp hr
  rw [List.length_map]
  exact h.1
def prodL (R O : List (List Int)) : List (List Int) := R.map fun r => (transp O).map fun c => dotL r c
theorem prodL_ok {R O : List (List Int)} (h : okR R) : okR (prodL R O) := by
  refine ⟨by simp [prodL, h.1], fun r hr => ?_⟩
  obtain ⟨q, _, rfl⟩ := List.mem_map.mp hr
  simp [transp]
theorem tb_rows_product : tb "rows_product" = some d_rows_product := by kernel_rfl
theorem rows_product_is (k : Nat) (R O : List (List Int)) (hR : okR R) (hO : okR O) (n : Nat) (hn : n ≤ 1000000) (bR : bdR n R) (bO : bdR n O) (st : Store) :
    callD tb gv (k + 2) "rows_product" [.d (rowsD R), .d (rowsD O)] st = .ok (.d (rowsD (prodL R O))) st := by
  rw [callD_is tb_rows_product]
  simp [d_rows_product, b_rows_product, isOwn, wipeE]
  rw [bd_at (flipped_is k O hO st)]
  have bT := transp_bd bO
  have okT := transp_ok hO
  generalize hT : transp O = T at bT okT
  have e1 : prodL R O = R.map fun r => T.map fun c => dotL r c := by unfold prodL; rw [hT]
  rw [e1]
  simp [rowsD]
  rw [bd_at (comp_gen (g := fun q => match q with | .tuple ps => .tuple (ip (T.map fun c => dotL (((intsOf ps).getD []) : List Int) c)) | q => q) (fun x hx => ?_) (by rw [List.length_map, hR.1]; decide))]
  · simp [ints_ip]
  · obtain ⟨r, hr, rfl⟩ := List.mem_map.mp hx
    simp [one_is, wipeE, ints_ip]
    rw [bd_at (comp_gen (g := fun q => match q with | .tuple ps => .int (dotL r ((intsOf ps).getD [])) | q => q) (fun x hx => ?_) (by rw [List.length_map, okT.1]; decide))]
    · have e2 : (T.map fun c => PyData.tuple (ip c)).map (fun q => match q with | .tuple ps => .int (dotL r ((intsOf ps).getD [])) | q => q) = ip (T.map fun c => dotL r c) := by
        unfold ip
        rw [List.map_map, List.map_map]
        refine List.map_congr_left fun c _ => ?_
        show PyData.int (dotL r ((intsOf (ip c)).getD [])) = _
        rw [ints_ip]
        rfl
      rw [e2]
      simp
    · obtain ⟨c, hc, rfl⟩ := List.mem_map.mp hx
      simp [one_is]
      rw [bd_at (dot_is k r c n hn (bR r hr) (bT c hc) (by rw [hR.2 r hr]; decide) st)]
      simp [ints_ip]
/-- a table: its rows, its whole -/
def tabR (R : List (List Int)) (b : Int) : PyData := .tuple [rowsD R, .int b]
def rowsOf (l : List Int) : List (List Int) := [l.take 4, (l.drop 4).take 4, (l.drop 8).take 4, (l.drop 12).take 4]
theorem tabD_is (l : List Int) : tabD l = tabR (rowsOf l) (l.getD 16 0) := rfl
theorem okR_flat {R : List (List Int)} (h : okR R) : R.flatten.length = 16 := by
  obtain ⟨h1, h2⟩ := h
  match R, h1 with
  | [a, b, c, d], _ =>
    have e1 := h2 a (by simp)
    have e2 := h2 b (by simp)
    have e3 := h2 c (by simp)
    have e4 := h2 d (by simp)
    simp [e1, e2, e3, e4]
theorem dotL_bd {r c : List Int} {n : Nat} (hr : ∀ i ∈ r, Bd n i) (hc : ∀ i ∈ c, Bd n i) (h4 : r.length = 4) (h4' : c.length = 4) : Bd (n + n + 4) (dotL r c) := by
  match r, c, h4, h4' with
  | [a, b, x, y], [e, f, g, h], _, _ =>
    have m1 := (hr a (by simp)).mul (hc e (by simp))
    have m2 := (hr b (by simp)).mul (hc f (by simp))
    have m3 := (hr x (by simp)).mul (hc g (by simp))
    have m4 := (hr y (by simp)).mul (hc h (by simp))
    have z : Bd (n + n) 0 := Bd.zero
    have s := m1.add (m2.add (m3.add (m4.add z)))
    exact Bd.mono s (by omega)
theorem prodL_bd {R O : List (List Int)} {n : Nat} (hR : okR R) (hO : okR O) (bR : bdR n R) (bO : bdR n O) : bdR (n + n + 4) (prodL R O) := by
  intro q hq i hi
  obtain ⟨r, hr, rfl⟩ := List.mem_map.mp hq
  obtain ⟨c, hc, rfl⟩ := List.mem_map.mp hi
  exact dotL_bd (bR r hr) (transp_bd bO c hc) (hR.2 r hr) ((transp_ok hO).2 c hc)
theorem tb_product_of_tables : tb "product_of_tables" = some d_product_of_tables := by kernel_rfl
theorem product_is (k : Nat) (R O : List (List Int)) (b c : Int) (hR : okR R) (hO : okR O) (n : Nat) (hn : n ≤ 4000) (bR : bdR n R) (bO : bdR n O) (hb : Bd n b) (hc : Bd n c) (b0 : b ≠ 0) (c0 : c ≠ 0) (st : Store) :
    callD tb gv (k + 5) "product_of_tables" [.d (tabR R b), .d (tabR O c)] st = .ok (.d (tabD (overL (prodL R O).flatten (b * c)))) st := by
  rw [callD_is tb_product_of_tables]
  have s1 : subW (.d (tabR R b)) (.d (.int 0)) = Zd.ret (.d (rowsD R)) := sub_tup rfl
  have s2 : subW (.d (tabR O c)) (.d (.int 0)) = Zd.ret (.d (rowsD O)) := sub_tup rfl
  have s3 : subW (.d (tabR R b)) (.d (.int 1)) = Zd.ret (.d (.int b)) := sub_tup rfl
  have s4 : subW (.d (tabR O c)) (.d (.int 1)) = Zd.ret (.d (.int c)) := sub_tup rfl
  have m : mulOk b c = true := mulOk_of hb hc (by omega)
  simp [d_product_of_tables, b_product_of_tables, isOwn, s1, s2, s3, s4]
  rw [bd_at (rows_product_is (k + 2) R O hR hO n (by omega) bR bO st)]
  simp [m]
  have bp := prodL_bd hR hO bR bO
  rw [bd_at (reduced_table_is k (prodL R O) (b * c) (rowsD (prodL R O)) (.inl rfl) (okR_flat (prodL_ok hR)) (n + n + 4) (by omega) (fun i hi => by
    obtain ⟨r, hr, hi⟩ := List.mem_flatten.mp hi
    exact bp r hr i hi) ((hb.mul hc).mono (by omega)) (fun z => by
      rcases Int.mul_eq_zero.mp z with z | z
      · exact b0 z
      · exact c0 z) st)]
  simp
end K76
end
section
set_option Elab.async false
set_option linter.all false
set_option maxRecDepth 100000
set_option maxHeartbeats 2000000
/-! K76M4: the law's own helpers. -/
namespace K76
open PySem Zd
theorem euclid (C : Str → List W → M W) (w : Option W) (o : Option W) (st : Store) : ∀ (r n f : Nat), r < n →
    whileN (evP C gv (.cmp .Gt (.var 3) (.cst (.int 0)))).t (exPs C gv [.par [1, 3] [(.var 3), (.bin .Mod (.blt .int [(.var 1)]) (.var 3))]]) n [w, some (.d (.int (f : Int))), o, some (.d (.int (r : Int)))] st = .ok (.nx [w, some (.d (.int (Nat.gcd f r : Nat))), o, some (.d (.int 0))]) st := by
  intro r
  induction r using Nat.strongRecOn with
  | _ r ih =>
    intro n f hn
    match n, hn with
    | n + 1, hn =>
      by_cases hr : r = 0
      · subst hr
        rw [whileN_stop (st' := st) (by simp)]
        simp
      · have h0 : (r : Int) ≠ 0 := by omega
        have pos : (0 : Int) < r := by omega
        have hm : (f : Int).fmod (r : Int) = ((f % r : Nat) : Int) := by
          rw [Int.fmod_eq_emod_of_nonneg _ (by omega)]
          rfl
        rw [whileN_go (e' := [w, some (.d (.int (r : Int))), o, some (.d (.int ((f % r : Nat) : Int)))]) (st1 := st) (st2 := st) (by simp; omega) (by simp [mod_i h0, hm, parE, want])]
        have lt : f % r < r := Nat.mod_lt _ (by omega)
        rw [ih (f % r) lt n r (by omega)]
        rw [Nat.gcd_comm f r, Nat.gcd_rec r f, Nat.gcd_comm (f % r) r]
def gstep (g : Nat) (q : PyData) : Nat := match q with
  | .int i => Nat.gcd g i.natAbs
  | _ => g
theorem gstep_fold (l : List Int) (a : Nat) : (ip l).foldl gstep a = l.foldl (fun g i => Nat.gcd g i.natAbs) a := by
  unfold ip
  rw [List.foldl_map]
  rfl
theorem tb__law_gcd : tb "_law_gcd" = some d__law_gcd := by kernel_rfl
theorem law_gcd_is (k : Nat) (l : List Int) (p : PyData) (hp : p = .tuple (ip l) ∨ p = .list (ip l)) (st : Store) : callD tb gv (k + 1) "_law_gcd" [.d p] st = .ok (.d (.int (gcdL l : Nat))) st := by
  rw [callD_is tb__law_gcd]
  have it : itemsM (.d p) = Zd.ret (ip l) := by rcases hp with rfl | rfl <;> rfl
  simp [d__law_gcd, b__law_gcd, isOwn, it]
  have step := loop_of (P := fun (g : Nat) (e : Nv) => ∃ o q, e = [some (.d p), some (.d (.int g)), o, q]) (st := st) (step := gstep)
    (F := fun x e => bd (asgT (T.nm 2) (W.d x) e) fun e1 => exPs (callD tb gv k) gv [.asg (.nm 3) (.blt .abs [(.var 2)]), .while_ (.cmp .Gt (.var 3) (.cst (.int 0))) [.par [1, 3] [(.var 3), (.bin .Mod (.blt .int [(.var 1)]) (.var 3))]]] e1) (ip l) 0 [some (.d p), some (.d (.int 0)), none, none] ⟨_, _, rfl⟩ (by
      rintro g x e hx ⟨o, q, rfl⟩
      obtain ⟨i, _, rfl⟩ := List.mem_map.mp hx
      have habs : (if i < 0 then -i else i) = (i.natAbs : Int) := by split <;> omega
      have wh := whileR_of (euclid (callD tb gv k) (some (.d p)) (some (.d (.int i))) st i.natAbs (i.natAbs + 1) g (Nat.lt_succ_self _))
      refine ⟨_, ?_, ⟨some (.d (.int i)), some (.d (.int 0)), rfl⟩⟩
      simp only [asg_nm, bd_ret, List.set, xs_cons, x_asg, x_while, ev_blt, ew_cons, ew_nil, ev_var, var_succ, var_zero, abs_i, habs, xs_nil, bd_assoc]
      rw [bd_at wh]
      rfl)
  obtain ⟨e', h1, o, q, rfl⟩ := step
  rw [gstep_fold] at h1
  simp at h1
  rw [bd_at h1]
  simp [gcdL]
end K76
end
section
set_option Elab.async false
set_option linter.all false
set_option maxRecDepth 100000
set_option maxHeartbeats 2000000
/-! K76M5: the law's ratio, five, table. -/
namespace K76
open PySem Zd
theorem gcdL_sgn (b : Int) (l : List Int) : gcdL (l.map fun i => sgn b * i) = gcdL l := by
  unfold gcdL
  rw [List.foldl_map]
  congr 1
  funext g i
  rw [sgn_abs]
/-- the same numbers, their sign turned after the division -/
theorem div_sgn {b i g : Int} (h : g ∣ i) : i.fdiv (sgn b * g) = (sgn b * i) / g := by
  have d : sgn b * g ∣ i := by
    unfold sgn
    split
    · rw [Int.one_mul]; exact h
    · rw [Int.neg_mul, Int.one_mul]
      exact Int.neg_dvd.mpr h
  rw [Int.fdiv_eq_ediv_of_dvd d]
  unfold sgn
  split
  · rw [Int.one_mul, Int.one_mul]
  · rw [Int.neg_mul, Int.one_mul, Int.neg_mul, Int.one_mul, Int.ediv_neg, Int.neg_ediv_of_dvd h]
theorem overL_is (l : List Int) (b : Int) : overL l b = (l ++ [b]).map fun i => (sgn b * i) / (gcdL (l ++ [b]) : Int) := by
  unfold overL lowL
  have e : l.map (fun i => sgn b * i) ++ [sgn b * b] = (l ++ [b]).map fun i => sgn b * i := by simp
  rw [e, gcdL_sgn, List.map_map]
  rfl
theorem sgn_sq (b : Int) : sgn b = 1 ∨ sgn b = -1 := by unfold sgn; split <;> simp
theorem tb__law_ratio : tb "_law_ratio" = some d__law_ratio := by kernel_rfl
theorem law_ratio_is (k : Nat) (a b : Int) (n : Nat) (hn : n ≤ 9000) (hb : Bd n b) (b0 : b ≠ 0) (st : Store) : callD tb gv (k + 2) "_law_ratio" [.d (.int a), .d (.int b)] st = .ok (.d (.tuple (ip (overL [a] b)))) st := by
  rw [callD_is tb__law_ratio]
  have g := law_gcd_is k [a, b] (.list (ip [a, b])) (.inr rfl) st
  have g' : callD tb gv (k + 1) "_law_gcd" [.d (.list [.int a, .int b])] st = .ok (.d (.int (gcdL [a, b] : Nat))) st := g
  have m : b ∈ [a, b] := by simp
  have ma : a ∈ [a, b] := by simp
  have g0 := gcdL_ne m b0
  have gz : (gcdL [a, b]).log2 < 9000 := Nat.lt_of_lt_of_le ((Nat.log2_lt g0).mpr (gcdL_bd m b0 hb)) hn
  have two : decide (2 ≤ line) = true := by decide
  have part : (sgn b * (gcdL [a, b] : Int)) ≠ 0 ∧ (sgn b * (gcdL [a, b] : Int)).natAbs.log2 < 9000 := by
    rw [sgn_abs]
    refine ⟨fun z => ?_, by simpa using gz⟩
    have := sgn_abs (b := b) (gcdL [a, b] : Int)
    rw [z] at this
    simp at this
    exact g0 this.symm
  have e1 : a.fdiv (sgn b * (gcdL [a, b] : Int)) = (sgn b * a) / (gcdL [a, b] : Int) := div_sgn (gcdL_dvd ma)
  have e2 : b.fdiv (sgn b * (gcdL [a, b] : Int)) = (sgn b * b) / (gcdL [a, b] : Int) := div_sgn (gcdL_dvd m)
  by_cases hb0 : 0 < b
  · have s1 : sgn b = 1 := by unfold sgn; rw [if_pos hb0]
    rw [s1, Int.one_mul] at part e1 e2
    simp [d__law_ratio, b__law_ratio, isOwn, hb0, line]
    rw [bd_at g']
    simp [fdiv_i part.1 part.2, e1, e2, overL_is, ip, s1]
  · have s1 : sgn b = -1 := by unfold sgn; rw [if_neg hb0]
    rw [s1, Int.neg_mul, Int.one_mul] at part e1 e2
    simp [d__law_ratio, b__law_ratio, isOwn, hb0, line]
    rw [bd_at g']
    simp [fdiv_i part.1 part.2, e1, e2, overL_is, ip, s1]
end K76
end
section
set_option Elab.async false
set_option linter.all false
set_option maxRecDepth 100000
set_option maxHeartbeats 2000000
/-! K76M6: the law's tables. -/
namespace K76
open PySem Zd
theorem gcd_from (l : List Int) : ∀ a : Nat, l.foldl (fun g i => Nat.gcd g i.natAbs) a = Nat.gcd a (gcdL l) := by
  unfold gcdL
  induction l with
  | nil => intro a; simp
  | cons i l ih =>
    intro a
    simp only [List.foldl_cons]
    rw [ih, ih (Nat.gcd 0 i.natAbs), Nat.gcd_zero_left, Nat.gcd_assoc]
theorem gcdL_app (l m : List Int) : gcdL (l ++ m) = Nat.gcd (gcdL l) (gcdL m) := by
  conv => lhs; unfold gcdL
  rw [List.foldl_append, gcd_from]
  rfl
theorem gcdL_one (i : Int) : gcdL [i] = i.natAbs := by simp [gcdL]
theorem gcdL_cons (i : Int) (l : List Int) : gcdL (i :: l) = Nat.gcd i.natAbs (gcdL l) := by
  rw [show i :: l = [i] ++ l from rfl, gcdL_app, gcdL_one]
theorem gcdL_rows (R : List (List Int)) : gcdL (R.map fun r => (gcdL r : Int)) = gcdL R.flatten := by
  induction R with
  | nil => rfl
  | cons r R ih => rw [List.map_cons, List.flatten_cons, gcdL_cons, gcdL_app, ih, Int.natAbs_natCast]
/-- the law's rows are lists -/
def rowsL (R : List (List Int)) : PyData := .list (R.map fun r => .list (ip r))
theorem rows_over {R : List (List Int)} {b : Int} (h : okR R) (hb : 0 < b) : tabD (overL R.flatten b) = tabR (R.map fun r => r.map fun i => i / (gcdL (R.flatten ++ [b]) : Int)) (b / (gcdL (R.flatten ++ [b]) : Int)) := by
  rw [overL_is]
  have s1 : sgn b = 1 := by unfold sgn; rw [if_pos hb]
  obtain ⟨h1, h2⟩ := h
  generalize gcdL (R.flatten ++ [b]) = g
  match R, h1 with
  | [x, y, z, w], _ =>
    have e1 := h2 x (by simp)
    have e2 := h2 y (by simp)
    have e3 := h2 z (by simp)
    have e4 := h2 w (by simp)
    match x, y, z, w, e1, e2, e3, e4 with
    | [_, _, _, _], [_, _, _, _], [_, _, _, _], [_, _, _, _], _, _, _, _ => simp [tabD, tabR, rowsD, s1]
theorem tb__law_table : tb "_law_table" = some d__law_table := by kernel_rfl
def lsI (q : PyData) : List Int := match q with
  | .list ps => (intsOf ps).getD []
  | .tuple ps => (intsOf ps).getD []
  | _ => []
@[simp] theorem lsI_l (r : List Int) : lsI (.list (ip r)) = r := by simp [lsI, ints_ip]
@[simp] theorem lsI_t (r : List Int) : lsI (.tuple (ip r)) = r := by simp [lsI, ints_ip]
theorem law_table_is (k : Nat) (R : List (List Int)) (b : Int) (h : okR R) (n : Nat) (hn : n ≤ 9000) (hb : Bd n b) (b0 : 0 < b) (st : Store) : callD tb gv (k + 2) "_law_table" [.d (rowsL R), .d (.int b)] st = .ok (.d (tabD (overL R.flatten b))) st := by
  rw [callD_is tb__law_table, rows_over h b0]
  have m : b ∈ R.flatten ++ [b] := by simp
  have g0 := gcdL_ne m (by omega)
  have gz : (gcdL (R.flatten ++ [b])).log2 < 9000 := Nat.lt_of_lt_of_le ((Nat.log2_lt g0).mpr (gcdL_bd m (by omega) hb)) hn
  have part := comp_div g0 gz
  have h4 : (R.map fun r => PyData.list (ip r)).length ≤ line := by rw [List.length_map, h.1]; decide
  simp [d__law_table, b__law_table, isOwn, wipeE, hide, rowsL, line]
  rw [bd_at (comp_gen (g := fun q => .int (gcdL (lsI q) : Nat)) (fun x hx => ?_) h4)]
  · have e : (R.map fun r => PyData.list (ip r)).map (fun q => PyData.int (gcdL (lsI q) : Nat)) = ip (R.map fun r => (gcdL r : Int)) := by
      unfold ip
      rw [List.map_map, List.map_map]
      refine List.map_congr_left fun r _ => ?_
      show PyData.int (gcdL (lsI (.list (ip r))) : Nat) = PyData.int (gcdL r : Nat)
      rw [lsI_l]
    rw [e]
    have l1 : (ip (R.map fun r => (gcdL r : Int))).length + 1 ≤ line := by rw [ip_length, List.length_map, h.1]; decide
    have a1 : binW .Add (.d (.list (ip (R.map fun r => (gcdL r : Int))))) (.d (.list [.int b])) = Zd.ret (.d (.list (ip ((R.map fun r => (gcdL r : Int)) ++ [b])))) := by
      rw [add_l l1, ← ip_app]
      rfl
    simp [a1]
    rw [bd_at (law_gcd_is k _ _ (.inr rfl) st)]
    have ge : gcdL ((R.map fun r => (gcdL r : Int)) ++ [b]) = gcdL (R.flatten ++ [b]) := by rw [gcdL_app, gcdL_rows, ← gcdL_app]
    rw [ge]
    simp
    rw [bd_at (comp_gen (g := fun q => .tuple (ip ((lsI q).map fun i => i / (gcdL (R.flatten ++ [b]) : Int)))) (fun x hx => ?_) h4)]
    · simp [fdiv_i part.1 part.2, Int.fdiv_eq_ediv_of_nonneg b (Int.natCast_nonneg _), tabR, rowsD]
    · obtain ⟨r, hr, rfl⟩ := List.mem_map.mp hx
      simp [one_is, wipeE]
      rw [bd_at (comp_ints (f := fun i => i / (gcdL (R.flatten ++ [b]) : Int)) (fun i hi => ?_) (by rw [h.2 r hr]; decide))]
      · simp
      · simp [one_is, fdiv_i part.1 part.2, Int.fdiv_eq_ediv_of_nonneg i (Int.natCast_nonneg _)]
  · obtain ⟨r, hr, rfl⟩ := List.mem_map.mp hx
    simp [one_is]
    rw [bd_at (law_gcd_is k r _ (.inr rfl) st)]
    simp
/-- rows of either sort, as the law hands them on -/
def rowD (t : Bool) (r : List Int) : PyData := if t then .tuple (ip r) else .list (ip r)
theorem ipGet {l : List Int} {j : Nat} (h : j < l.length) (p : PyData) (hp : p = .tuple (ip l) ∨ p = .list (ip l)) : subW (.d p) (.d (.int (j : Int))) = Zd.ret (.d (.int (l.getD j 0))) := by
  rcases hp with rfl | rfl
  · exact sub_tup (at_ip h)
  · exact sub_lst (at_ip h)
theorem tb__law_led : tb "_law_led" = some d__law_led := by kernel_rfl
end K76
end
section
set_option Elab.async false
set_option linter.all false
set_option maxRecDepth 100000
set_option maxHeartbeats 2000000
/-! K76M7: the law's products. -/
namespace K76
open PySem Zd
theorem r4 : rngM [.d (.int 4)] = Zd.ret [.int 0, .int 1, .int 2, .int 3] := rfl
theorem w14 : wantN 1 [W.d (.int 4)] = Zd.ret [W.d (.int 4)] := rfl
theorem dot4 {r v : List Int} (hr : r.length = 4) (hv : v.length = 4) : ([0, 1, 2, 3].map fun j : Nat => r.getD j 0 * v.getD j 0).sum = dotL r v := by
  match r, v, hr, hv with
  | [a, b, c, d], [e, f, g, h], _, _ => rfl
theorem in4 {x : PyData} (hx : x ∈ [PyData.int 0, .int 1, .int 2, .int 3]) : ∃ j : Nat, j < 4 ∧ x = .int (j : Int) := by
  simp at hx
  rcases hx with rfl | rfl | rfl | rfl
  · exact ⟨0, by decide, rfl⟩
  · exact ⟨1, by decide, rfl⟩
  · exact ⟨2, by decide, rfl⟩
  · exact ⟨3, by decide, rfl⟩
theorem law_led_is (k : Nat) (R : List (List Int)) (v : List Int) (p : PyData) (q : List Int → PyData) (hq : ∀ r, q r = .tuple (ip r) ∨ q r = .list (ip r)) (hp : p = .tuple (R.map q) ∨ p = .list (R.map q)) (hR : R.length ≤ line) (h4 : ∀ r ∈ R, r.length = 4) (hv : v.length = 4) (n m : Nat) (hn : n + m ≤ 60000000) (bR : bdR n R) (bv : ∀ i ∈ v, Bd m i) (st : Store) :
    callD tb gv (k + 1) "_law_led" [.d p, .d (.tuple (ip v))] st = .ok (.d (.list (ip (R.map fun r => dotL r v)))) st := by
  rw [callD_is tb__law_led]
  have it : itemsM (.d p) = Zd.ret (R.map q) := by rcases hp with rfl | rfl <;> rfl
  simp [d__law_led, b__law_led, isOwn, wipeE, it]
  rw [bd_at (comp_gen (g := fun z => .int (dotL (lsI z) v)) (fun x hx => ?_) (by rw [List.length_map]; exact hR))]
  · have e : (R.map q).map (fun z => PyData.int (dotL (lsI z) v)) = ip (R.map fun r => dotL r v) := by
      unfold ip
      rw [List.map_map, List.map_map]
      refine List.map_congr_left fun r _ => ?_
      show PyData.int (dotL (lsI (q r)) v) = PyData.int (dotL r v)
      rcases hq r with e | e <;> rw [e]
      · rw [lsI_t]
      · rw [lsI_l]
    rw [e]
    simp
  · obtain ⟨r, hr, rfl⟩ := List.mem_map.mp hx
    have hl := h4 r hr
    have lq : lsI (q r) = r := by rcases hq r with e | e <;> rw [e] <;> simp
    simp [one_is, wipeE, w14, r4]
    rw [bd_at (comp_gen (g := fun z => match z with | .int i => .int (r.getD i.toNat 0 * v.getD i.toNat 0) | z => z) (fun x hx => ?_) (by decide))]
    · have e : [PyData.int 0, .int 1, .int 2, .int 3].map (fun z => match z with | .int i => .int (r.getD i.toNat 0 * v.getD i.toNat 0) | z => z) = ip ([0, 1, 2, 3].map fun j : Nat => r.getD j 0 * v.getD j 0) := rfl
      rw [e]
      simp only [sum_ip, dot4 hl hv, bd_ret, lq]
      rfl
    · obtain ⟨j, hj, rfl⟩ := in4 hx
      have s1 := ipGet (l := r) (j := j) (by omega) (q r) (hq r)
      have s2 := ipGet (l := v) (j := j) (by omega) _ (.inl rfl)
      have mm : mulOk (r.getD j 0) (v.getD j 0) = true := mulOk_of (getD_bd (bR r hr)) (getD_bd bv) hn
      simp only [s1, s2, bd_ret]
      show _ = Out.ok [PyData.int (r.getD j 0 * v.getD j 0)] st
      generalize r.getD j 0 = x at mm
      generalize v.getD j 0 = y at mm
      simp [mm]
theorem tabR_0 (R : List (List Int)) (b : Int) : subW (.d (tabR R b)) (.d (.int 0)) = Zd.ret (.d (rowsD R)) := sub_tup rfl
theorem tabR_1 (R : List (List Int)) (b : Int) : subW (.d (tabR R b)) (.d (.int 1)) = Zd.ret (.d (.int b)) := sub_tup rfl
theorem tb__law_then : tb "_law_then" = some d__law_then := by kernel_rfl
theorem dotL_comm4 {r c : List Int} : dotL r c = dotL c r := by
  unfold dotL
  congr 1
  induction r generalizing c with
  | nil => cases c <;> rfl
  | cons a r ih =>
    cases c with
    | nil => rfl
    | cons b c => simp [ih, Int.mul_comm]
theorem law_then_is (k : Nat) (R O : List (List Int)) (b c : Int) (hR : okR R) (hO : okR O) (n m : Nat) (hn : n + m + 4 ≤ 9000) (bR : bdR n R) (bO : bdR m O) (hb : Bd n b) (hc : Bd m c) (b0 : 0 < b) (c0 : 0 < c) (st : Store) :
    callD tb gv (k + 3) "_law_then" [.d (tabR O c), .d (tabR R b)] st = .ok (.d (tabD (overL (prodL R O).flatten (c * b)))) st := by
  rw [callD_is tb__law_then]
  have mm : mulOk c b = true := mulOk_of hc hb (by omega)
  have bT := transp_bd bO
  have okT := transp_ok hO
  simp [d__law_then, b__law_then, isOwn, wipeE, hide, tabR_0, tabR_1, w14, r4]
  rw [bd_at (comp_gen (g := fun z => match z with | .int i => .list (ip (O.map fun r => r.getD i.toNat 0)) | z => z) (fun x hx => ?_) (by decide))]
  · have e : [PyData.int 0, .int 1, .int 2, .int 3].map (fun z => match z with | .int i => .list (ip (O.map fun r => r.getD i.toNat 0)) | z => z) = (transp O).map fun r => PyData.list (ip r) := by
      simp [transp, List.range, List.range.loop]
    rw [e]
    simp [rowsD]
    rw [bd_at (comp_gen (g := fun z => .list (ip ((transp O).map fun r => dotL r (lsI z)))) (fun x hx => ?_) (by rw [List.length_map, hR.1]; decide))]
    · have e2 : (R.map fun r => PyData.tuple (ip r)).map (fun z => .list (ip ((transp O).map fun r => dotL r (lsI z)))) = (prodL R O).map fun r => PyData.list (ip r) := by
        unfold prodL
        rw [List.map_map, List.map_map]
        refine List.map_congr_left fun r _ => ?_
        show PyData.list (ip ((transp O).map fun z => dotL z (lsI (.tuple (ip r))))) = PyData.list (ip ((transp O).map fun z => dotL r z))
        rw [lsI_t]
        congr 2
        exact List.map_congr_left fun z _ => dotL_comm4
      rw [e2]
      simp [mm]
      have t := law_table_is k (prodL R O) (c * b) (prodL_ok hR) (n + m) (by omega) (by
        have := hc.mul hb
        rwa [Nat.add_comm m n] at this) (Int.mul_pos c0 b0) st
      have t' : callD tb gv (k + 2) "_law_table" [.d (.list ((prodL R O).map fun r => PyData.list (ip r))), .d (.int (c * b))] st = .ok (.d (tabD (overL (prodL R O).flatten (c * b)))) st := t
      rw [bd_at t']
      simp
    · obtain ⟨r, hr, rfl⟩ := List.mem_map.mp hx
      simp [one_is]
      rw [bd_at (law_led_is (k + 1) (transp O) r _ (fun r => .list (ip r)) (fun _ => .inr rfl) (.inr rfl) (by rw [okT.1]; decide) okT.2 (hR.2 r hr) m n (by omega) bT (bR r hr) st)]
      simp
  · obtain ⟨j, hj, rfl⟩ := in4 hx
    simp only [one_is, wipeE, tabR_0, bd_ret]
    simp [wipeE, tabR_0, rowsD]
    rw [bd_at (comp_gen (g := fun z => .int ((lsI z).getD j 0)) (fun x hx => ?_) (by rw [List.length_map, hO.1]; decide))]
    · have e : (O.map fun r => PyData.tuple (ip r)).map (fun z => PyData.int ((lsI z).getD j 0)) = ip (O.map fun r => r.getD j 0) := by
        unfold ip
        rw [List.map_map, List.map_map]
        refine List.map_congr_left fun r _ => ?_
        show PyData.int ((lsI (.tuple (ip r))).getD j 0) = PyData.int (r.getD j 0)
        rw [lsI_t]
      rw [e]
      simp
    · obtain ⟨r, hr, rfl⟩ := List.mem_map.mp hx
      have hl := hO.2 r hr
      have s1 := ipGet (l := r) (j := j) (by omega) _ (.inl rfl)
      simp [one_is, s1]
end K76
end
section
set_option Elab.async false
set_option linter.all false
set_option maxRecDepth 100000
set_option maxHeartbeats 2000000
/-! K76M8: the law's own formulas. -/
namespace K76
open PySem Zd
theorem Bd.lit2 : Bd 2 2 := by unfold Bd; decide
theorem Bd.lit0 : Bd 0 0 := by unfold Bd; decide
def spunR (a b c d : Int) : List (List Int) := [[a * a + b * b + c * c + d * d, 0, 0, 0], [0, a * a + b * b - c * c - d * d, 2 * b * c - 2 * a * d, 2 * b * d + 2 * a * c], [0, 2 * b * c + 2 * a * d, a * a - b * b + c * c - d * d, 2 * c * d - 2 * a * b], [0, 2 * b * d - 2 * a * c, 2 * c * d + 2 * a * b, a * a - b * b - c * c + d * d]]
theorem spunR_ok (a b c d : Int) : okR (spunR a b c d) := ⟨rfl, by simp [spunR]⟩
theorem tb__law_spun : tb "_law_spun" = some d__law_spun := by kernel_rfl
theorem law_spun_is (k : Nat) (a b c d : Int) (n : Nat) (hn : n ≤ 4000) (ha : Bd n a) (hb : Bd n b) (hc : Bd n c) (hd : Bd n d) (pos : 0 < a * a + b * b + c * c + d * d) (st : Store) :
    callD tb gv (k + 3) "_law_spun" [.d (.tuple (ip [a, b, c, d]))] st = .ok (.d (tabD (overL (spunR a b c d).flatten (a * a + b * b + c * c + d * d)))) st := by
  rw [callD_is tb__law_spun]
  have m1 : ∀ x y : Int, Bd n x → Bd n y → mulOk x y = true := fun x y hx hy => mulOk_of hx hy (by omega)
  have m2 : ∀ x y : Int, Bd n x → Bd n y → mulOk (2 * x) y = true := fun x y hx hy => mulOk_of (Bd.lit2.mul hx) hy (by omega)
  have m3 : ∀ x : Int, Bd n x → mulOk 2 x = true := fun x hx => mulOk_of Bd.lit2 hx (by omega)
  have l4 : decide (4 ≤ line) = true := by decide
  simp [d__law_spun, b__law_spun, isOwn, lenB, isSt, ip, l4, m1 a a ha ha, m1 b b hb hb, m1 c c hc hc, m1 d d hd hd, m2 b c hb hc, m2 a d ha hd, m2 b d hb hd, m2 a c ha hc, m2 c d hc hd, m2 a b ha hb, m3 a ha, m3 b hb, m3 c hc]
  have t := law_table_is k (spunR a b c d) (a * a + b * b + c * c + d * d) (spunR_ok a b c d) (n + n + 3) (by omega) (((((ha.mul ha).add (hb.mul hb)).add (hc.mul hc)).add (hd.mul hd)).mono (by omega)) pos st
  refine (congrArg (endM _) (bd_at t)).trans ?_
  simp
end K76
end
section
set_option Elab.async false
set_option linter.all false
set_option maxRecDepth 100000
set_option maxHeartbeats 2000000
/-! K76M9: the law's partial plates. -/
namespace K76
open PySem Zd
/-- far, near, size, the kind's numbers -/
def partR (p q w x y z : Int) : List (List Int) := [[(p * p + q * q) * w * w, (p * p - q * q) * w * x, (p * p - q * q) * w * y, (p * p - q * q) * w * z],
  [(p * p - q * q) * w * x, (p - q) * (p - q) * x * x + 2 * p * q * w * w, (p - q) * (p - q) * x * y, (p - q) * (p - q) * x * z],
  [(p * p - q * q) * w * y, (p - q) * (p - q) * y * x, (p - q) * (p - q) * y * y + 2 * p * q * w * w, (p - q) * (p - q) * y * z],
  [(p * p - q * q) * w * z, (p - q) * (p - q) * z * x, (p - q) * (p - q) * z * y, (p - q) * (p - q) * z * z + 2 * p * q * w * w]]
theorem partR_ok (p q w x y z : Int) : okR (partR p q w x y z) := ⟨rfl, by simp [partR]⟩
theorem lim_ret {α : Type} {a : List α} : lim (Zd.ret a) = want (decide (a.length ≤ line)) (Zd.ret a) := by
  funext st
  show (match decide (a.length ≤ line) with | true => Out.ok a st | false => .bad) = want (decide (a.length ≤ line)) (Zd.ret a) st
  cases decide (a.length ≤ line) <;> rfl
theorem compL_cons {α : Type} {f : PyData → M (List α)} {x : PyData} {xs : List PyData} : compL f (x :: xs) = bd (f x) fun a => bd (compL f xs) fun as => Zd.ret (a ++ as) := rfl
theorem compL_nil {α : Type} {f : PyData → M (List α)} : compL f [] = Zd.ret [] := rfl
theorem sub_o0 {a b c : PyData} : subW (.own [a, b, c]) (.d (.int 0)) = Zd.ret (.d a) := rfl
theorem sub_o1 {a b c : PyData} : subW (.own [a, b, c]) (.d (.int 1)) = Zd.ret (.d b) := rfl
theorem sub_o2 {a b c : PyData} : subW (.own [a, b, c]) (.d (.int 2)) = Zd.ret (.d c) := rfl
theorem sub_l0 {a b c : PyData} : subW (.d (.list [a, b, c])) (.d (.int 0)) = Zd.ret (.d a) := rfl
theorem sub_l1 {a b c : PyData} : subW (.d (.list [a, b, c])) (.d (.int 1)) = Zd.ret (.d b) := rfl
theorem sub_l2 {a b c : PyData} : subW (.d (.list [a, b, c])) (.d (.int 2)) = Zd.ret (.d c) := rfl
theorem set_o0 {o0 o1 o2 o3 o4 o5 o6 o7 o8 o9 o10 o11 o12 o14 : Option W} {a b c p : PyData} : setAt 13 0 p [o0, o1, o2, o3, o4, o5, o6, o7, o8, o9, o10, o11, o12, some (.own [a, b, c]), o14] = Zd.ret [o0, o1, o2, o3, o4, o5, o6, o7, o8, o9, o10, o11, o12, some (.own [p, b, c]), o14] := rfl
theorem set_o1 {o0 o1 o2 o3 o4 o5 o6 o7 o8 o9 o10 o11 o12 o14 : Option W} {a b c p : PyData} : setAt 13 1 p [o0, o1, o2, o3, o4, o5, o6, o7, o8, o9, o10, o11, o12, some (.own [a, b, c]), o14] = Zd.ret [o0, o1, o2, o3, o4, o5, o6, o7, o8, o9, o10, o11, o12, some (.own [a, p, c]), o14] := rfl
theorem set_o2 {o0 o1 o2 o3 o4 o5 o6 o7 o8 o9 o10 o11 o12 o14 : Option W} {a b c p : PyData} : setAt 13 2 p [o0, o1, o2, o3, o4, o5, o6, o7, o8, o9, o10, o11, o12, some (.own [a, b, c]), o14] = Zd.ret [o0, o1, o2, o3, o4, o5, o6, o7, o8, o9, o10, o11, o12, some (.own [a, b, p]), o14] := rfl
theorem add_lo {xs ys : List PyData} (h : xs.length + ys.length ≤ line) : binW .Add (.d (.list xs)) (.own ys) = Zd.ret (.d (.list (xs ++ ys))) := by
  funext st
  show want (decide (xs.length + ys.length ≤ line)) (Zd.ret (W.d (.list (xs ++ ys)))) st = _
  rw [decide_eq_true h]
  rfl
theorem add_13 {x a b c : PyData} : binW .Add (.d (.list [x])) (.own [a, b, c]) = Zd.ret (.d (.list [x, a, b, c])) := add_lo (by show 4 ≤ line; decide)
theorem add_l13 {x a b c : PyData} : binW .Add (.d (.list [x])) (.d (.list [a, b, c])) = Zd.ret (.d (.list [x, a, b, c])) := add_l (by show 4 ≤ line; decide)
theorem tb__law_parted : tb "_law_parted" = some d__law_parted := by kernel_rfl
theorem r3 : rngM [.d (.int 3)] = Zd.ret [.int 0, .int 1, .int 2] := rfl
theorem w13 : wantN 1 [W.d (.int 3)] = Zd.ret [W.d (.int 3)] := rfl
theorem in3 {x : PyData} (hx : x ∈ [PyData.int 0, .int 1, .int 2]) : ∃ j : Nat, j < 3 ∧ x = .int (j : Int) := by
  simp at hx
  rcases hx with rfl | rfl | rfl
  · exact ⟨0, by decide, rfl⟩
  · exact ⟨1, by decide, rfl⟩
  · exact ⟨2, by decide, rfl⟩
theorem law_parted_is (k : Nat) (x y z w f0 f1 g0 g1 : Int) (n : Nat) (hn : n ≤ 1000) (hx : Bd n x) (hy : Bd n y) (hz : Bd n z) (hw : Bd n w) (h0 : Bd n f0) (h1 : Bd n f1) (i0 : Bd n g0) (i1 : Bd n g1) (w0 : 0 < w) (f0' : 0 < f1) (g0' : 0 < g1) (st : Store) :
    callD tb gv (k + 3) "_law_parted" [.d (.tuple (ip [x, y, z, w])), .d (.tuple (ip [f0, f1])), .d (.tuple (ip [g0, g1]))] st = .ok (.d (tabD (overL (partR (f0 * g1) (g0 * f1) w x y z).flatten (2 * (f1 * g1) * (f1 * g1) * w * w)))) st := by
  rw [callD_is tb__law_parted]
  have m1 : ∀ a b : Int, Bd n a → Bd n b → mulOk a b = true := fun a b ha hb => mulOk_of ha hb (by omega)
  have a1 : ∀ j : Nat, (ip [x, y, z, w])[j]? = (ip [x, y, z, w])[j]? := fun _ => rfl
  have s0 : subW (.d (.tuple (ip [x, y, z, w]))) (.d (.int 0)) = Zd.ret (.d (.int x)) := sub_tup rfl
  have s1 : subW (.d (.tuple (ip [x, y, z, w]))) (.d (.int 1)) = Zd.ret (.d (.int y)) := sub_tup rfl
  have s2 : subW (.d (.tuple (ip [x, y, z, w]))) (.d (.int 2)) = Zd.ret (.d (.int z)) := sub_tup rfl
  have s3 : subW (.d (.tuple (ip [x, y, z, w]))) (.d (.int 3)) = Zd.ret (.d (.int w)) := sub_tup rfl
  have t0 : subW (.d (.tuple (ip [f0, f1]))) (.d (.int 0)) = Zd.ret (.d (.int f0)) := sub_tup rfl
  have t1 : subW (.d (.tuple (ip [f0, f1]))) (.d (.int 1)) = Zd.ret (.d (.int f1)) := sub_tup rfl
  have u0 : subW (.d (.tuple (ip [g0, g1]))) (.d (.int 0)) = Zd.ret (.d (.int g0)) := sub_tup rfl
  have u1 : subW (.d (.tuple (ip [g0, g1]))) (.d (.int 1)) = Zd.ret (.d (.int g1)) := sub_tup rfl
  have c3 : cutP (ip [x, y, z, w]) none (some 3) = ip [x, y, z] := rfl
  have p0 : Bd (n + n) (f0 * g1) := h0.mul i1
  have q0 : Bd (n + n) (g0 * f1) := i0.mul h1
  have o0 : Bd (n + n) (f1 * g1) := h1.mul i1
  generalize hp : f0 * g1 = p at p0
  generalize hq : g0 * f1 = q at q0
  generalize ho : f1 * g1 = o at o0
  have opos : 0 < o := ho ▸ Int.mul_pos f0' g0'
  have b1 := p0.mul p0
  have b2 := q0.mul q0
  have b3 := (b1.sub b2)
  have b4 := b3.mul hw
  have b5 := (p0.sub q0)
  have b6 := b5.mul b5
  have b7 := Bd.lit2.mul p0
  have b8 := b7.mul q0
  have b9 := b8.mul hw
  have b10 := (b1.add b2).mul hw
  have b11 := Bd.lit2.mul o0
  have b12 := b11.mul o0
  have b13 := b12.mul hw
  have l1 : decide (1 ≤ line) = true := by decide
  have j0 : decide (0 < line) = true := by decide
  have j1 : decide (1 < line) = true := by decide
  have j2 : decide (2 < line) = true := by decide
  have l3 : decide (3 ≤ line) = true := by decide
  have l2 : decide (2 ≤ line) = true := by decide
  have k1 : mulOk p p = true := mulOk_of p0 p0 (by omega)
  have k2 : mulOk q q = true := mulOk_of q0 q0 (by omega)
  have k3 : mulOk (p - q) (p - q) = true := mulOk_of b5 b5 (by omega)
  have k4 : mulOk (p * p - q * q) w = true := mulOk_of b3 hw (by omega)
  have k5 : mulOk 2 p = true := mulOk_of Bd.lit2 p0 (by omega)
  have k6 : mulOk (2 * p) q = true := mulOk_of b7 q0 (by omega)
  have k7 : mulOk (2 * p * q) w = true := mulOk_of b8 hw (by omega)
  have k8 : mulOk (2 * p * q * w) w = true := mulOk_of b9 hw (by omega)
  have k9 : mulOk (p * p + q * q) w = true := mulOk_of (b1.add b2) hw (by omega)
  have k10 : mulOk ((p * p + q * q) * w) w = true := mulOk_of b10 hw (by omega)
  have k11 : mulOk 2 o = true := mulOk_of Bd.lit2 o0 (by omega)
  have k12 : mulOk (2 * o) o = true := mulOk_of b11 o0 (by omega)
  have k13 : mulOk (2 * o * o) w = true := mulOk_of b12 hw (by omega)
  have k14 : mulOk (2 * o * o * w) w = true := mulOk_of b13 hw (by omega)
  have n1 : ∀ a b : Int, Bd n a → Bd n b → mulOk ((p - q) * (p - q) * a) b = true := fun a b ha hb => mulOk_of (b6.mul ha) hb (by omega)
  have n2 : ∀ a : Int, Bd n a → mulOk ((p - q) * (p - q)) a = true := fun a ha => mulOk_of b6 ha (by omega)
  have g3 : itemsM (.d (.tuple (ip [x, y, z]))) = Zd.ret [.int x, .int y, .int z] := rfl
  have le : ∀ {xs : List PyData}, ownOf (.d (.list xs)) = Zd.ret xs := rfl
  simp [d__law_parted, b__law_parted, isOwn, wipeE, lenB, isSt, t0, t1, u0, u1, s3, m1 f1 g1 h1 i1, m1 f0 g1 h0 i1, m1 g0 f1 i0 h1, hp, hq, ho, k1, k2, k3, k4, l2, r3, w13, parE, compL_cons, compL_nil, lim_ret, one_is, s0, s1, s2, (mulOk_of b4 hx (by omega) : mulOk ((p * p - q * q) * w) x = true), (mulOk_of b4 hy (by omega) : mulOk ((p * p - q * q) * w) y = true), (mulOk_of b4 hz (by omega) : mulOk ((p * p - q * q) * w) z = true), l3, loopL, setM, appM, le, c3, g3, n1 x x hx hx, n1 x y hx hy, n1 x z hx hz, n1 y x hy hx, n1 y y hy hy, n1 y z hy hz, n1 z x hz hx, n1 z y hz hy, n1 z z hz hz, n2 x hx, n2 y hy, n2 z hz, sub_o0, sub_o1, sub_o2, sub_l0, sub_l1, sub_l2, set_o0, set_o1, set_o2, add_13, add_l13, l1, j0, j1, j2, k5, k6, k7, k8, k9, k10, k11, k12, k13, k14]
  have t := law_table_is k (partR p q w x y z) (2 * o * o * w * w) (partR_ok p q w x y z) _ (by omega) (b13.mul hw) (Int.mul_pos (Int.mul_pos (Int.mul_pos (Int.mul_pos (by decide) opos) opos) w0) w0) st
  refine (congrArg (endM _) (bd_at t)).trans ?_
  simp
end K76
end
section
set_option Elab.async false
set_option linter.all false
set_option maxRecDepth 100000
set_option maxHeartbeats 2000000
/-! K76M10: plates, and the law's table of each. -/
namespace K76
open PySem Zd
/-- a plate that is not set -/
inductive Bare where
  | pol (x y z w : Int)
  | part (x y z w f0 f1 g0 g1 : Int)
  | turn (a b c d : Int)
  | mag (a b : Int)
  | grey (t b : Int)
  | dull (t b : Int)
  | glass
def Bare.D : Bare → PyData
  | .pol x y z w => .tuple [.str "polariser", .tuple (ip [x, y, z, w])]
  | .part x y z w f0 f1 g0 g1 => .tuple [.str "partial", .tuple (ip [x, y, z, w]), .tuple (ip [f0, f1]), .tuple (ip [g0, g1])]
  | .turn a b c d => .tuple [.str "turner", .tuple (ip [a, b, c, d])]
  | .mag a b => .tuple [.str "magnet", .tuple (ip [a, b])]
  | .grey t b => .tuple [.str "grey", .tuple (ip [t, b])]
  | .dull t b => .tuple [.str "dull", .tuple (ip [t, b])]
  | .glass => .tuple [.str "glass"]
def glassR : List (List Int) := [[1, 0, 0, 0], [0, 1, 0, 0], [0, 0, 1, 0], [0, 0, 0, -1]]
def diagR (s t : Int) : List (List Int) := [[s, 0, 0, 0], [0, t, 0, 0], [0, 0, t, 0], [0, 0, 0, t]]
def Bare.R : Bare → List (List Int)
  | .pol x y z w => partR (1 * 1) (0 * 1) w x y z
  | .part x y z w f0 f1 g0 g1 => partR (f0 * g1) (g0 * f1) w x y z
  | .turn a b c d => spunR a b c d
  | .mag a b => spunR b 0 0 a
  | .grey t b => diagR t t
  | .dull t b => diagR b t
  | .glass => glassR
def Bare.b : Bare → Int
  | .pol x y z w => 2 * (1 * 1) * (1 * 1) * w * w
  | .part x y z w f0 f1 g0 g1 => 2 * (f1 * g1) * (f1 * g1) * w * w
  | .turn a b c d => a * a + b * b + c * c + d * d
  | .mag a b => b * b + 0 * 0 + 0 * 0 + a * a
  | .grey t b => b
  | .dull t b => b
  | .glass => 1
/-- small enough, and with a whole above nought -/
def Bare.ok (n : Nat) : Bare → Prop
  | .pol x y z w => Bd n x ∧ Bd n y ∧ Bd n z ∧ Bd n w ∧ 0 < w
  | .part x y z w f0 f1 g0 g1 => Bd n x ∧ Bd n y ∧ Bd n z ∧ Bd n w ∧ Bd n f0 ∧ Bd n f1 ∧ Bd n g0 ∧ Bd n g1 ∧ 0 < w ∧ 0 < f1 ∧ 0 < g1
  | .turn a b c d => Bd n a ∧ Bd n b ∧ Bd n c ∧ Bd n d ∧ 0 < a * a + b * b + c * c + d * d
  | .mag a b => Bd n a ∧ Bd n b ∧ 0 < b * b + 0 * 0 + 0 * 0 + a * a
  | .grey t b => Bd n t ∧ Bd n b ∧ 0 < b
  | .dull t b => Bd n t ∧ Bd n b ∧ 0 < b
  | .glass => True
def Bare.T (p : Bare) : PyData := tabD (overL p.R.flatten p.b)
theorem diagR_ok (s t : Int) : okR (diagR s t) := ⟨rfl, by simp [diagR]⟩
theorem tb__law_of_plate : tb "_law_of_plate" = some d__law_of_plate := by kernel_rfl
theorem eq_s {a b : Str} (h : PyData.strOk a = true) (h' : PyData.strOk b = true) : cmpB .Eq (.d (.str a)) (.d (.str b)) = Zd.ret (a == b) := by
  rw [eq_p (by simp [SeqAt.shaped, PyData.canLay0, PyData.depth, h]) (by simp [SeqAt.shaped, PyData.canLay0, PyData.depth, h'])]
  unfold PyData.eqv
  rfl
theorem w_polariser_polariser : (("polariser" : Str) == ("polariser" : Str)) = true := by decide +kernel
theorem w_polariser_partial : (("polariser" : Str) == ("partial" : Str)) = false := by decide +kernel
theorem w_polariser_turner : (("polariser" : Str) == ("turner" : Str)) = false := by decide +kernel
theorem w_polariser_magnet : (("polariser" : Str) == ("magnet" : Str)) = false := by decide +kernel
theorem w_polariser_set : (("polariser" : Str) == ("set" : Str)) = false := by decide +kernel
theorem w_polariser_glass : (("polariser" : Str) == ("glass" : Str)) = false := by decide +kernel
theorem w_polariser_grey : (("polariser" : Str) == ("grey" : Str)) = false := by decide +kernel
theorem w_partial_polariser : (("partial" : Str) == ("polariser" : Str)) = false := by decide +kernel
theorem w_partial_partial : (("partial" : Str) == ("partial" : Str)) = true := by decide +kernel
theorem w_partial_turner : (("partial" : Str) == ("turner" : Str)) = false := by decide +kernel
theorem w_partial_magnet : (("partial" : Str) == ("magnet" : Str)) = false := by decide +kernel
theorem w_partial_set : (("partial" : Str) == ("set" : Str)) = false := by decide +kernel
theorem w_partial_glass : (("partial" : Str) == ("glass" : Str)) = false := by decide +kernel
theorem w_partial_grey : (("partial" : Str) == ("grey" : Str)) = false := by decide +kernel
theorem w_turner_polariser : (("turner" : Str) == ("polariser" : Str)) = false := by decide +kernel
theorem w_turner_partial : (("turner" : Str) == ("partial" : Str)) = false := by decide +kernel
theorem w_turner_turner : (("turner" : Str) == ("turner" : Str)) = true := by decide +kernel
theorem w_turner_magnet : (("turner" : Str) == ("magnet" : Str)) = false := by decide +kernel
theorem w_turner_set : (("turner" : Str) == ("set" : Str)) = false := by decide +kernel
theorem w_turner_glass : (("turner" : Str) == ("glass" : Str)) = false := by decide +kernel
theorem w_turner_grey : (("turner" : Str) == ("grey" : Str)) = false := by decide +kernel
theorem w_magnet_polariser : (("magnet" : Str) == ("polariser" : Str)) = false := by decide +kernel
theorem w_magnet_partial : (("magnet" : Str) == ("partial" : Str)) = false := by decide +kernel
theorem w_magnet_turner : (("magnet" : Str) == ("turner" : Str)) = false := by decide +kernel
theorem w_magnet_magnet : (("magnet" : Str) == ("magnet" : Str)) = true := by decide +kernel
theorem w_magnet_set : (("magnet" : Str) == ("set" : Str)) = false := by decide +kernel
theorem w_magnet_glass : (("magnet" : Str) == ("glass" : Str)) = false := by decide +kernel
theorem w_magnet_grey : (("magnet" : Str) == ("grey" : Str)) = false := by decide +kernel
theorem w_set_polariser : (("set" : Str) == ("polariser" : Str)) = false := by decide +kernel
theorem w_set_partial : (("set" : Str) == ("partial" : Str)) = false := by decide +kernel
theorem w_set_turner : (("set" : Str) == ("turner" : Str)) = false := by decide +kernel
theorem w_set_magnet : (("set" : Str) == ("magnet" : Str)) = false := by decide +kernel
theorem w_set_set : (("set" : Str) == ("set" : Str)) = true := by decide +kernel
theorem w_set_glass : (("set" : Str) == ("glass" : Str)) = false := by decide +kernel
theorem w_set_grey : (("set" : Str) == ("grey" : Str)) = false := by decide +kernel
theorem w_glass_polariser : (("glass" : Str) == ("polariser" : Str)) = false := by decide +kernel
theorem w_glass_partial : (("glass" : Str) == ("partial" : Str)) = false := by decide +kernel
theorem w_glass_turner : (("glass" : Str) == ("turner" : Str)) = false := by decide +kernel
theorem w_glass_magnet : (("glass" : Str) == ("magnet" : Str)) = false := by decide +kernel
theorem w_glass_set : (("glass" : Str) == ("set" : Str)) = false := by decide +kernel
theorem w_glass_glass : (("glass" : Str) == ("glass" : Str)) = true := by decide +kernel
theorem w_glass_grey : (("glass" : Str) == ("grey" : Str)) = false := by decide +kernel
theorem w_grey_polariser : (("grey" : Str) == ("polariser" : Str)) = false := by decide +kernel
theorem w_grey_partial : (("grey" : Str) == ("partial" : Str)) = false := by decide +kernel
theorem w_grey_turner : (("grey" : Str) == ("turner" : Str)) = false := by decide +kernel
theorem w_grey_magnet : (("grey" : Str) == ("magnet" : Str)) = false := by decide +kernel
theorem w_grey_set : (("grey" : Str) == ("set" : Str)) = false := by decide +kernel
theorem w_grey_glass : (("grey" : Str) == ("glass" : Str)) = false := by decide +kernel
theorem w_grey_grey : (("grey" : Str) == ("grey" : Str)) = true := by decide +kernel
theorem w_dull_polariser : (("dull" : Str) == ("polariser" : Str)) = false := by decide +kernel
theorem w_dull_partial : (("dull" : Str) == ("partial" : Str)) = false := by decide +kernel
theorem w_dull_turner : (("dull" : Str) == ("turner" : Str)) = false := by decide +kernel
theorem w_dull_magnet : (("dull" : Str) == ("magnet" : Str)) = false := by decide +kernel
theorem w_dull_set : (("dull" : Str) == ("set" : Str)) = false := by decide +kernel
theorem w_dull_glass : (("dull" : Str) == ("glass" : Str)) = false := by decide +kernel
theorem w_dull_grey : (("dull" : Str) == ("grey" : Str)) = false := by decide +kernel
theorem o_polariser : PyData.strOk ("polariser" : Str) = true := by decide +kernel
theorem o_partial : PyData.strOk ("partial" : Str) = true := by decide +kernel
theorem o_turner : PyData.strOk ("turner" : Str) = true := by decide +kernel
theorem o_magnet : PyData.strOk ("magnet" : Str) = true := by decide +kernel
theorem o_set : PyData.strOk ("set" : Str) = true := by decide +kernel
theorem o_glass : PyData.strOk ("glass" : Str) = true := by decide +kernel
theorem o_grey : PyData.strOk ("grey" : Str) = true := by decide +kernel
theorem o_dull : PyData.strOk ("dull" : Str) = true := by decide +kernel
theorem sub_t0 {a : PyData} {r : List PyData} : subW (.d (.tuple (a :: r))) (.d (.int 0)) = Zd.ret (.d a) := sub_tup (by unfold L2.atI L2.ixN; simp)
theorem sub_t1 {a b : PyData} {r : List PyData} : subW (.d (.tuple (a :: b :: r))) (.d (.int 1)) = Zd.ret (.d b) := sub_tup (by unfold L2.atI L2.ixN; simp; rw [if_pos (by omega)]; rfl)
theorem sub_t2 {a b c : PyData} {r : List PyData} : subW (.d (.tuple (a :: b :: c :: r))) (.d (.int 2)) = Zd.ret (.d c) := sub_tup (by unfold L2.atI L2.ixN; simp; rw [if_pos (by omega)]; rfl)
theorem sub_t3 {a b c d : PyData} {r : List PyData} : subW (.d (.tuple (a :: b :: c :: d :: r))) (.d (.int 3)) = Zd.ret (.d d) := sub_tup (by unfold L2.atI L2.ixN; simp; rw [if_pos (by omega)]; rfl)
theorem law_of_bare_is (k : Nat) (p : Bare) (n : Nat) (hn : n ≤ 900) (h : p.ok n) (st : Store) : callD tb gv (k + 4) "_law_of_plate" [.d p.D] st = .ok (.d p.T) st := by
  rw [callD_is tb__law_of_plate]
  have l1 : decide (1 ≤ line) = true := by decide
  have l2 : decide (2 ≤ line) = true := by decide
  have l4 : decide (4 ≤ line) = true := by decide
  cases p with
  | glass =>
    simp [d__law_of_plate, b__law_of_plate, isOwn, lenB, isSt, Bare.D, sub_t0, eq_s, o_polariser, o_partial, o_turner, o_magnet, o_set, o_glass, o_grey, o_dull, w_glass_polariser, w_glass_partial, w_glass_turner, w_glass_magnet, w_glass_set, w_glass_glass, w_glass_grey, l2, l4]
    rfl
  | pol x y z w =>
    obtain ⟨hx, hy, hz, hw, w0⟩ := h
    simp [d__law_of_plate, b__law_of_plate, isOwn, lenB, isSt, Bare.D, sub_t0, sub_t1, eq_s, o_polariser, o_partial, o_turner, o_magnet, o_set, o_glass, o_grey, o_dull, w_polariser_polariser, w_polariser_partial, w_polariser_turner, w_polariser_magnet, w_polariser_set, w_polariser_glass, w_polariser_grey, l2, l4]
    have t := law_parted_is k x y z w 1 1 0 1 (n + 1) (by omega) (hx.mono (by omega)) (hy.mono (by omega)) (hz.mono (by omega)) (hw.mono (by omega)) (Bd.one.mono (by omega)) (Bd.one.mono (by omega)) Bd.zero (Bd.one.mono (by omega)) w0 (by decide) (by decide) st
    refine (congrArg (endM _) (bd_at t)).trans ?_
    simp only [ret_at, end_d, List.take_length]
    rfl
  | part x y z w f0 f1 g0 g1 =>
    obtain ⟨hx, hy, hz, hw, h0, h1, i0, i1, w0, f0', g0'⟩ := h
    simp [d__law_of_plate, b__law_of_plate, isOwn, lenB, isSt, Bare.D, sub_t0, sub_t1, sub_t2, sub_t3, eq_s, o_polariser, o_partial, o_turner, o_magnet, o_set, o_glass, o_grey, o_dull, w_partial_polariser, w_partial_partial, w_partial_turner, w_partial_magnet, w_partial_set, w_partial_glass, w_partial_grey, l2, l4]
    have t := law_parted_is k x y z w f0 f1 g0 g1 n (by omega) hx hy hz hw h0 h1 i0 i1 w0 f0' g0' st
    refine (congrArg (endM _) (bd_at t)).trans ?_
    simp only [ret_at, end_d, List.take_length]
    rfl
  | turn a b c d =>
    obtain ⟨ha, hb, hc, hd, pos⟩ := h
    simp [d__law_of_plate, b__law_of_plate, isOwn, lenB, isSt, Bare.D, sub_t0, sub_t1, eq_s, o_polariser, o_partial, o_turner, o_magnet, o_set, o_glass, o_grey, o_dull, w_turner_polariser, w_turner_partial, w_turner_turner, w_turner_magnet, w_turner_set, w_turner_glass, w_turner_grey, l2, l4]
    have t := law_spun_is k a b c d n (by omega) ha hb hc hd pos st
    refine (congrArg (endM _) (bd_at t)).trans ?_
    simp only [ret_at, end_d, List.take_length]
    rfl
  | mag a b =>
    obtain ⟨ha, hb, pos⟩ := h
    have i1 : ∀ a b : Int, subW (.d (.tuple (ip [a, b]))) (.d (.int 1)) = Zd.ret (.d (.int b)) := fun _ _ => sub_tup rfl
    have i0 : ∀ a b : Int, subW (.d (.tuple (ip [a, b]))) (.d (.int 0)) = Zd.ret (.d (.int a)) := fun _ _ => sub_tup rfl
    simp [d__law_of_plate, b__law_of_plate, isOwn, lenB, isSt, Bare.D, sub_t0, sub_t1, i0, i1, eq_s, o_polariser, o_partial, o_turner, o_magnet, o_set, o_glass, o_grey, o_dull, w_magnet_polariser, w_magnet_partial, w_magnet_turner, w_magnet_magnet, w_magnet_set, w_magnet_glass, w_magnet_grey, l2, l4]
    have t := law_spun_is k b 0 0 a n (by omega) hb Bd.zero Bd.zero ha pos st
    refine (congrArg (endM _) (bd_at t)).trans ?_
    simp only [ret_at, end_d, List.take_length]
    rfl
  | grey a b =>
    obtain ⟨ha, hb, pos⟩ := h
    simp [d__law_of_plate, b__law_of_plate, isOwn, lenB, isSt, Bare.D, sub_t0, sub_t1, eq_s, o_polariser, o_partial, o_turner, o_magnet, o_set, o_glass, o_grey, o_dull, w_grey_polariser, w_grey_partial, w_grey_turner, w_grey_magnet, w_grey_set, w_grey_glass, w_grey_grey, l2, l4, ip]
    have t := law_table_is (k + 1) (diagR a a) b (diagR_ok a a) n (by omega) hb pos st
    refine (congrArg (endM _) (bd_at t)).trans ?_
    simp only [ret_at, end_d, List.take_length]
    rfl
  | dull a b =>
    obtain ⟨ha, hb, pos⟩ := h
    simp [d__law_of_plate, b__law_of_plate, isOwn, lenB, isSt, Bare.D, sub_t0, sub_t1, eq_s, o_polariser, o_partial, o_turner, o_magnet, o_set, o_glass, o_grey, o_dull, w_dull_polariser, w_dull_partial, w_dull_turner, w_dull_magnet, w_dull_set, w_dull_glass, w_dull_grey, l2, l4, ip]
    have t := law_table_is (k + 1) (diagR b a) b (diagR_ok b a) n (by omega) hb pos st
    refine (congrArg (endM _) (bd_at t)).trans ?_
    simp only [ret_at, end_d, List.take_length]
    rfl
end K76
end
section
set_option Elab.async false
set_option linter.all false
set_option maxRecDepth 100000
set_option maxHeartbeats 2000000
/-! K76M11: the program's tables of plates. -/
namespace K76
open PySem Zd
def frameR (s a b c d e f g h i : Int) : List (List Int) := [[s, 0, 0, 0], [0, a, b, c], [0, d, e, f], [0, g, h, i]]
theorem frameR_ok (s a b c d e f g h i : Int) : okR (frameR s a b c d e f g h i) := ⟨rfl, by simp [frameR]⟩
theorem tb_framed : tb "framed" = some d_framed := by kernel_rfl
theorem framed_is (k : Nat) (s a b c d e f g h i w : Int) (n : Nat) (hn : n ≤ 9000) (hb : ∀ j ∈ (frameR s a b c d e f g h i).flatten, Bd n j) (hw : Bd n w) (w0 : w ≠ 0) (st : Store) :
    callD tb gv (k + 5) "framed" [.d (.int s), .d (.tuple [.tuple [.int a, .int b, .int c], .tuple [.int d, .int e, .int f], .tuple [.int g, .int h, .int i]]), .d (.int w)] st = .ok (.d (tabD (overL (frameR s a b c d e f g h i).flatten w))) st := by
  rw [callD_is tb_framed]
  have l1 : decide (1 ≤ line) = true := by decide
  have l3 : decide (3 ≤ line) = true := by decide
  have l4 : decide (4 ≤ line) = true := by decide
  have it : ∀ xs : List PyData, itemsM (.d (.tuple xs)) = Zd.ret xs := fun _ => rfl
  have at1 : ∀ x y z u : PyData, binW .Add (.d (.tuple [x])) (.d (.tuple [y, z, u])) = Zd.ret (.d (.tuple [x, y, z, u])) := fun x y z u => add_t (by show 4 ≤ line; decide)
  have tl : ∀ xs : List PyData, bltW .tuple [.d (.list xs)] = Zd.ret (.d (.tuple xs)) := fun _ => rfl
  simp [d_framed, b_framed, isOwn, wipeE, lenB, isSt, compL_cons, compL_nil, lim_ret, one_is, it, at1, tl, l1, l3, l4]
  have t := reduced_table_is k (frameR s a b c d e f g h i) w (rowsD (frameR s a b c d e f g h i)) (.inl rfl) (by simp [frameR]) n hn hb hw w0 st
  refine (congrArg (endM _) (bd_at t)).trans ?_
  simp
theorem tb_turn_rows : tb "turn_rows" = some d_turn_rows := by kernel_rfl
theorem turn_rows_is (k : Nat) (a b c d : Int) (n : Nat) (hn : n ≤ 4000) (ha : Bd n a) (hb : Bd n b) (hc : Bd n c) (hd : Bd n d) (st : Store) :
    callD tb gv (k + 1) "turn_rows" [.d (.tuple (ip [a, b, c, d]))] st = .ok (.d (.tuple [.tuple [.tuple [.int (a * a + b * b - c * c - d * d), .int (2 * (b * c - a * d)), .int (2 * (b * d + a * c))], .tuple [.int (2 * (b * c + a * d)), .int (a * a - b * b + c * c - d * d), .int (2 * (c * d - a * b))], .tuple [.int (2 * (b * d - a * c)), .int (2 * (c * d + a * b)), .int (a * a - b * b - c * c + d * d)]], .int (a * a + b * b + c * c + d * d)])) st := by
  rw [callD_is tb_turn_rows]
  have m1 : ∀ x y : Int, Bd n x → Bd n y → mulOk x y = true := fun x y hx hy => mulOk_of hx hy (by omega)
  have m2 : ∀ x y z u : Int, Bd n x → Bd n y → Bd n z → Bd n u → mulOk 2 (x * y - z * u) = true := fun x y z u hx hy hz hu => mulOk_of Bd.lit2 ((hx.mul hy).sub (hz.mul hu)) (by omega)
  have m3 : ∀ x y z u : Int, Bd n x → Bd n y → Bd n z → Bd n u → mulOk 2 (x * y + z * u) = true := fun x y z u hx hy hz hu => mulOk_of Bd.lit2 ((hx.mul hy).add (hz.mul hu)) (by omega)
  have l2 : decide (2 ≤ line) = true := by decide
  have l3 : decide (3 ≤ line) = true := by decide
  simp [d_turn_rows, b_turn_rows, isOwn, lenB, isSt, ip, l2, l3, m1 a a ha ha, m1 b b hb hb, m1 c c hc hc, m1 d d hd hd, m1 b c hb hc, m1 a d ha hd, m1 b d hb hd, m1 a c ha hc, m1 c d hc hd, m1 a b ha hb, m2 b c a d hb hc ha hd, m3 b d a c hb hd ha hc, m3 b c a d hb hc ha hd, m2 c d a b hc hd ha hb, m2 b d a c hb hd ha hc, m3 c d a b hc hd ha hb]
theorem tb_double_of : tb "double_of" = some d_double_of := by kernel_rfl
theorem double_of_is (k : Nat) (a b : Int) (n : Nat) (hn : n ≤ 4000) (ha : Bd n a) (hb : Bd n b) (st : Store) :
    callD tb gv (k + 1) "double_of" [.d (.tuple (ip [a, b]))] st = .ok (.d (.tuple [.int (b * b - a * a), .int (2 * a * b), .int (a * a + b * b)])) st := by
  rw [callD_is tb_double_of]
  have m1 : ∀ x y : Int, Bd n x → Bd n y → mulOk x y = true := fun x y hx hy => mulOk_of hx hy (by omega)
  have m2 : mulOk (2 * a) b = true := mulOk_of (Bd.lit2.mul ha) hb (by omega)
  have m3 : mulOk 2 a = true := mulOk_of Bd.lit2 ha (by omega)
  have l3 : decide (3 ≤ line) = true := by decide
  simp [d_double_of, b_double_of, isOwn, lenB, isSt, ip, l3, m1 a a ha ha, m1 b b hb hb, m2, m3]
end K76
end
section
set_option Elab.async false
set_option linter.all false
set_option maxRecDepth 100000
set_option maxHeartbeats 2000000
/-! K76M12: the program's magnets, partial plates. -/
namespace K76
open PySem Zd
def magR (a b : Int) : List (List Int) := frameR (a * a + b * b) (b * b - a * a) (-(2 * a * b)) 0 (2 * a * b) (b * b - a * a) 0 0 0 (a * a + b * b)
theorem tb_magnet_table : tb "magnet_table" = some d_magnet_table := by kernel_rfl
theorem neg_i {i : Int} : negW (.d (.int i)) = Zd.ret (.d (.int (-i))) := rfl
theorem magnet_table_is (k : Nat) (a b : Int) (n : Nat) (hn : n ≤ 4000) (ha : Bd n a) (hb : Bd n b) (pos : 0 < a * a + b * b) (st : Store) :
    callD tb gv (k + 6) "magnet_table" [.d (.tuple (ip [a, b]))] st = .ok (.d (tabD (overL (magR a b).flatten (a * a + b * b)))) st := by
  rw [callD_is tb_magnet_table]
  have l3 : decide (3 ≤ line) = true := by decide
  simp [d_magnet_table, b_magnet_table, isOwn, lenB, isSt]
  rw [bd_at (double_of_is (k + 4) a b n hn ha hb st)]
  have b1 : Bd (n + n + 2) (a * a + b * b) := ((ha.mul ha).add (hb.mul hb)).mono (by omega)
  have b2 : Bd (n + n + 2) (b * b - a * a) := ((hb.mul hb).sub (ha.mul ha)).mono (by omega)
  have b3 : Bd (n + n + 2) (2 * a * b) := ((Bd.lit2.mul ha).mul hb).mono (by omega)
  have t := framed_is k (a * a + b * b) (b * b - a * a) (-(2 * a * b)) 0 (2 * a * b) (b * b - a * a) 0 0 0 (a * a + b * b) (a * a + b * b) (n + n + 2) (by omega) (by
    intro j hj
    have z : Bd (n + n + 2) 0 := Bd.zero
    have b4 := b3.neg
    simp [frameR] at hj
    rcases hj with rfl | rfl | rfl | rfl | rfl | rfl | rfl | rfl | rfl | rfl | rfl | rfl | rfl | rfl | rfl | rfl <;> assumption) b1 (by omega) st
  simp [l3, lenB, isSt, neg_i]
  refine (congrArg (endM _) (bd_at t)).trans ?_
  simp
  rfl
end K76
end
section
set_option Elab.async false
set_option linter.all false
set_option maxRecDepth 100000
set_option maxHeartbeats 400000
/-! K76M13: the program's partial plates. -/
namespace K76
open PySem Zd
def partP (p q w x y z : Int) : List (List Int) := [[(p * p + q * q) * w * w, (p * p - q * q) * w * x, (p * p - q * q) * w * y, (p * p - q * q) * w * z],
  [(p * p - q * q) * w * x, (p * p + q * q - 2 * p * q) * x * x + 2 * p * q * w * w, (p * p + q * q - 2 * p * q) * x * y, (p * p + q * q - 2 * p * q) * x * z],
  [(p * p - q * q) * w * y, (p * p + q * q - 2 * p * q) * y * x, (p * p + q * q - 2 * p * q) * y * y + 2 * p * q * w * w, (p * p + q * q - 2 * p * q) * y * z],
  [(p * p - q * q) * w * z, (p * p + q * q - 2 * p * q) * z * x, (p * p + q * q - 2 * p * q) * z * y, (p * p + q * q - 2 * p * q) * z * z + 2 * p * q * w * w]]
theorem part_same (p q w x y z : Int) : partP p q w x y z = partR p q w x y z := by
  have e : p * p + q * q - 2 * p * q = (p - q) * (p - q) := by
    rw [Int.sub_mul, Int.mul_sub, Int.mul_sub, Int.mul_assoc 2 p q, Int.mul_comm q p]
    omega
  unfold partP partR
  rw [e]
theorem star_asg {a b c d : PyData} {e : Nv} : asgTs [T.st 3, T.nm 4] [a, b, c, d] e = Zd.ret ((e.set 3 (some (.d (.list [a, b, c])))).set 4 (some (.d d))) := by
  simp [asgTs, asgT, isSt]
theorem tb_partial_table : tb "partial_table" = some d_partial_table := by kernel_rfl
theorem partial_table_is (k : Nat) (x y z w f0 f1 g0 g1 : Int) (n : Nat) (hn : n ≤ 900) (hx : Bd n x) (hy : Bd n y) (hz : Bd n z) (hw : Bd n w) (h0 : Bd n f0) (h1 : Bd n f1) (i0 : Bd n g0) (i1 : Bd n g1) (w0 : 0 < w) (f0' : 0 < f1) (g0' : 0 < g1) (st : Store) :
    callD tb gv (k + 5) "partial_table" [.d (.tuple (ip [x, y, z, w])), .d (.tuple (ip [f0, f1])), .d (.tuple (ip [g0, g1]))] st = .ok (.d (tabD (overL (partR (f0 * g1) (g0 * f1) w x y z).flatten (2 * (f1 * g1) * (f1 * g1) * w * w)))) st := by
  rw [callD_is tb_partial_table]
  have m1 : ∀ a b : Int, Bd n a → Bd n b → mulOk a b = true := fun a b ha hb => mulOk_of ha hb (by omega)
  have a1 : ∀ j : Nat, (ip [x, y, z, w])[j]? = (ip [x, y, z, w])[j]? := fun _ => rfl
  have s0 : subW (.d (.tuple (ip [x, y, z, w]))) (.d (.int 0)) = Zd.ret (.d (.int x)) := sub_tup rfl
  have s1 : subW (.d (.tuple (ip [x, y, z, w]))) (.d (.int 1)) = Zd.ret (.d (.int y)) := sub_tup rfl
  have s2 : subW (.d (.tuple (ip [x, y, z, w]))) (.d (.int 2)) = Zd.ret (.d (.int z)) := sub_tup rfl
  have s3 : subW (.d (.tuple (ip [x, y, z, w]))) (.d (.int 3)) = Zd.ret (.d (.int w)) := sub_tup rfl
  have t0 : subW (.d (.tuple (ip [f0, f1]))) (.d (.int 0)) = Zd.ret (.d (.int f0)) := sub_tup rfl
  have t1 : subW (.d (.tuple (ip [f0, f1]))) (.d (.int 1)) = Zd.ret (.d (.int f1)) := sub_tup rfl
  have u0 : subW (.d (.tuple (ip [g0, g1]))) (.d (.int 0)) = Zd.ret (.d (.int g0)) := sub_tup rfl
  have u1 : subW (.d (.tuple (ip [g0, g1]))) (.d (.int 1)) = Zd.ret (.d (.int g1)) := sub_tup rfl
  have c3 : cutP (ip [x, y, z, w]) none (some 3) = ip [x, y, z] := rfl
  have p0 : Bd (n + n) (f0 * g1) := h0.mul i1
  have q0 : Bd (n + n) (g0 * f1) := i0.mul h1
  have o0 : Bd (n + n) (f1 * g1) := h1.mul i1
  generalize hp : f0 * g1 = p at p0
  generalize hq : g0 * f1 = q at q0
  generalize ho : f1 * g1 = o at o0
  have opos : 0 < o := ho ▸ Int.mul_pos f0' g0'
  have b1 := p0.mul p0
  have b2 := q0.mul q0
  have b3 := (b1.sub b2)
  have b4 := b3.mul hw
  have b5 := (p0.sub q0)
  have b6 := b5.mul b5
  have b7 := Bd.lit2.mul p0
  have b8 := b7.mul q0
  have b9 := b8.mul hw
  have b10 := (b1.add b2).mul hw
  have b11 := Bd.lit2.mul o0
  have b12 := b11.mul o0
  have b13 := b12.mul hw
  have l1 : decide (1 ≤ line) = true := by decide
  have j3 : decide (3 < line) = true := by decide
  have j0 : decide (0 < line) = true := by decide
  have j1 : decide (1 < line) = true := by decide
  have j2 : decide (2 < line) = true := by decide
  have l3 : decide (3 ≤ line) = true := by decide
  have l2 : decide (2 ≤ line) = true := by decide
  have k1 : mulOk p p = true := mulOk_of p0 p0 (by omega)
  have k2 : mulOk q q = true := mulOk_of q0 q0 (by omega)
  have k3 : mulOk (p - q) (p - q) = true := mulOk_of b5 b5 (by omega)
  have k4 : mulOk (p * p - q * q) w = true := mulOk_of b3 hw (by omega)
  have k5 : mulOk 2 p = true := mulOk_of Bd.lit2 p0 (by omega)
  have k6 : mulOk (2 * p) q = true := mulOk_of b7 q0 (by omega)
  have k7 : mulOk (2 * p * q) w = true := mulOk_of b8 hw (by omega)
  have k8 : mulOk (2 * p * q * w) w = true := mulOk_of b9 hw (by omega)
  have k9 : mulOk (p * p + q * q) w = true := mulOk_of (b1.add b2) hw (by omega)
  have k10 : mulOk ((p * p + q * q) * w) w = true := mulOk_of b10 hw (by omega)
  have k11 : mulOk 2 o = true := mulOk_of Bd.lit2 o0 (by omega)
  have k12 : mulOk (2 * o) o = true := mulOk_of b11 o0 (by omega)
  have k13 : mulOk (2 * o * o) w = true := mulOk_of b12 hw (by omega)
  have k14 : mulOk (2 * o * o * w) w = true := mulOk_of b13 hw (by omega)
  have n1 : ∀ a b : Int, Bd n a → Bd n b → mulOk ((p - q) * (p - q) * a) b = true := fun a b ha hb => mulOk_of (b6.mul ha) hb (by omega)
  have n2 : ∀ a : Int, Bd n a → mulOk ((p - q) * (p - q)) a = true := fun a ha => mulOk_of b6 ha (by omega)
  have g3 : itemsM (.d (.tuple (ip [x, y, z]))) = Zd.ret [.int x, .int y, .int z] := rfl
  have le : ∀ {xs : List PyData}, ownOf (.d (.list xs)) = Zd.ret xs := rfl
  have gt1 : decide (1 ≤ (ip [x, y, z, w]).length) = true := rfl
  have ipw : ip [x, y, z, w] = [.int x, .int y, .int z, .int w] := rfl
  rw [ipw] at s0 s1 s2 s3 gt1 ⊢
  have b14 := (b1.add b2).sub b8
  have n3 : ∀ a b : Int, Bd n a → Bd n b → mulOk ((p * p + q * q - 2 * p * q) * a) b = true := fun a b ha hb => mulOk_of (b14.mul ha) hb (by omega)
  have n4 : ∀ a : Int, Bd n a → mulOk (p * p + q * q - 2 * p * q) a = true := fun a ha => mulOk_of b14 ha (by omega)
  have g3 : ∀ xs : List PyData, itemsM (.d (.list xs)) = Zd.ret xs := fun _ => rfl
  have le : ∀ {xs : List PyData}, ownOf (.d (.list xs)) = Zd.ret xs := rfl
  have l4 : decide (4 ≤ line) = true := by decide
  simp [d_partial_table, b_partial_table, isOwn, wipeE, lenB, isSt, t0, t1, u0, u1, s3, m1 f1 g1 h1 i1, m1 f0 g1 h0 i1, m1 g0 f1 i0 h1, hp, hq, ho, k1, k2, k3, k4, l2, l3, l4, compL_cons, compL_nil, lim_ret, one_is, star_asg, loopL, setM, appM, demM, le, g3, enumP, List.zipIdx, n3 x x hx hx, n3 x y hx hy, n3 x z hx hz, n3 y x hy hx, n3 y y hy hy, n3 y z hy hz, n3 z x hz hx, n3 z y hz hy, n3 z z hz hz, n4 x hx, n4 y hy, n4 z hz, sub_o0, sub_o1, sub_o2, set_o0, set_o1, set_o2, l1, j0, j1, j2, j3, k5, k6, k7, k8, k9, k10, k11, k12, k13, k14, (mulOk_of b4 hx (by omega) : mulOk ((p * p - q * q) * w) x = true), (mulOk_of b4 hy (by omega) : mulOk ((p * p - q * q) * w) y = true), (mulOk_of b4 hz (by omega) : mulOk ((p * p - q * q) * w) z = true)]
  have t := reduced_table_is k (partP p q w x y z) (2 * o * o * w * w) (.list ((partP p q w x y z).map fun r => .tuple (ip r))) (.inr rfl) (by simp [partP]) (9 * n + 20) (by omega) (by
    have c1 := (b10.mul hw).mono (show _ ≤ 9 * n + 20 by omega)
    have c2 := (b4.mul hx).mono (show _ ≤ 9 * n + 20 by omega)
    have c3 := (b4.mul hy).mono (show _ ≤ 9 * n + 20 by omega)
    have c4 := (b4.mul hz).mono (show _ ≤ 9 * n + 20 by omega)
    have d1 : ∀ a b : Int, Bd n a → Bd n b → Bd (9 * n + 20) ((p * p + q * q - 2 * p * q) * a * b) := fun a b ha hb => ((b14.mul ha).mul hb).mono (by omega)
    have d2 : ∀ a b : Int, Bd n a → Bd n b → Bd (9 * n + 20) ((p * p + q * q - 2 * p * q) * a * b + 2 * p * q * w * w) := fun a b ha hb => (((b14.mul ha).mul hb).add (b9.mul hw)).mono (by omega)
    have e0 : ∀ j ∈ (partP p q w x y z).flatten, Bd (9 * n + 20) j := by simp only [partP, List.flatten_cons, List.flatten_nil, List.cons_append, List.nil_append, List.append_nil, List.forall_mem_cons, c1, c2, c3, c4, d1 x y hx hy, d1 x z hx hz, d1 y x hy hx, d1 y z hy hz, d1 z x hz hx, d1 z y hz hy, d2 x x hx hx, d2 y y hy hy, d2 z z hz hz, true_and]; simp
    exact e0) ((b13.mul hw).mono (by omega)) (Int.ne_of_gt (Int.mul_pos (Int.mul_pos (Int.mul_pos (Int.mul_pos (by decide) opos) opos) w0) w0)) st
  refine (congrArg (endM _) (bd_at t)).trans ?_
  simp [part_same]
end K76
end
section
set_option Elab.async false
set_option linter.all false
set_option maxRecDepth 100000
set_option maxHeartbeats 2000000
/-! K76M14: the program's table of a plate that is not set. -/
namespace K76
open PySem Zd
theorem tb_single_table : tb "single_table" = some d_single_table := by kernel_rfl
theorem mag_same (a b : Int) : magR a b = spunR b 0 0 a := by
  unfold magR frameR spunR
  simp [Int.mul_comm, Int.mul_left_comm, Int.add_comm]
theorem spun_same (a b c d : Int) : frameR (a * a + b * b + c * c + d * d) (a * a + b * b - c * c - d * d) (2 * (b * c - a * d)) (2 * (b * d + a * c)) (2 * (b * c + a * d)) (a * a - b * b + c * c - d * d) (2 * (c * d - a * b)) (2 * (b * d - a * c)) (2 * (c * d + a * b)) (a * a - b * b - c * c + d * d) = spunR a b c d := by
  unfold frameR spunR
  simp [Int.mul_sub, Int.mul_add, Int.mul_assoc]
theorem single_table_is (k : Nat) (p : Bare) (n : Nat) (hn : n ≤ 800) (h : p.ok n) (st : Store) : callD tb gv (k + 7) "single_table" [.d p.D] st = .ok (.d p.T) st := by
  rw [callD_is tb_single_table]
  have l1 : decide (1 ≤ line) = true := by decide
  have l2 : decide (2 ≤ line) = true := by decide
  have l3 : decide (3 ≤ line) = true := by decide
  cases p with
  | pol x y z w =>
    obtain ⟨hx, hy, hz, hw, w0⟩ := h
    simp [d_single_table, b_single_table, isOwn, lenB, isSt, Bare.D, sub_t0, sub_t1, sub_t2, sub_t3, eq_s, o_polariser, o_partial, o_turner, o_magnet, o_set, o_glass, o_grey, o_dull, w_polariser_polariser, w_polariser_partial, w_polariser_turner, w_polariser_magnet, w_polariser_glass, w_polariser_grey, l2, l3]
    have t := partial_table_is (k + 1) x y z w 1 1 0 1 (n + 1) (by omega) (hx.mono (by omega)) (hy.mono (by omega)) (hz.mono (by omega)) (hw.mono (by omega)) (Bd.one.mono (by omega)) (Bd.one.mono (by omega)) Bd.zero (Bd.one.mono (by omega)) w0 (by decide) (by decide) st
    refine (congrArg (endM _) (bd_at t)).trans ?_
    simp only [ret_at, end_d, List.take_length]
    rfl
  | part x y z w f0 f1 g0 g1 =>
    obtain ⟨hx, hy, hz, hw, h0, h1, i0, i1, w0, f0', g0'⟩ := h
    simp [d_single_table, b_single_table, isOwn, lenB, isSt, Bare.D, sub_t0, sub_t1, sub_t2, sub_t3, eq_s, o_polariser, o_partial, o_turner, o_magnet, o_set, o_glass, o_grey, o_dull, w_partial_polariser, w_partial_partial, w_partial_turner, w_partial_magnet, w_partial_glass, w_partial_grey, l2, l3]
    have t := partial_table_is (k + 1) x y z w f0 f1 g0 g1 n (by omega) hx hy hz hw h0 h1 i0 i1 w0 f0' g0' st
    refine (congrArg (endM _) (bd_at t)).trans ?_
    simp only [ret_at, end_d, List.take_length]
    rfl
  | mag a b =>
    obtain ⟨ha, hb, pos⟩ := h
    have e : b * b + 0 * 0 + 0 * 0 + a * a = a * a + b * b := by omega
    simp [d_single_table, b_single_table, isOwn, lenB, isSt, Bare.D, sub_t0, sub_t1, sub_t2, sub_t3, eq_s, o_polariser, o_partial, o_turner, o_magnet, o_set, o_glass, o_grey, o_dull, w_magnet_polariser, w_magnet_partial, w_magnet_turner, w_magnet_magnet, w_magnet_glass, w_magnet_grey, l2, l3]
    have t := magnet_table_is k a b n (by omega) ha hb (by omega) st
    refine (congrArg (endM _) (bd_at t)).trans ?_
    simp only [ret_at, end_d, List.take_length]
    rw [mag_same]
    show _ = Out.ok (W.d (tabD (overL (spunR b 0 0 a).flatten (b * b + 0 * 0 + 0 * 0 + a * a)))) st
    rw [e]
  | grey t b =>
    obtain ⟨ht, hb, pos⟩ := h
    simp [d_single_table, b_single_table, isOwn, lenB, isSt, Bare.D, sub_t0, sub_t1, sub_t2, sub_t3, eq_s, o_polariser, o_partial, o_turner, o_magnet, o_set, o_glass, o_grey, o_dull, w_grey_polariser, w_grey_partial, w_grey_turner, w_grey_magnet, w_grey_glass, w_grey_grey, l2, l3, ip]
    have t := framed_is (k + 1) t t 0 0 0 t 0 0 0 t b n (by omega) (by simp [frameR, ht, Bd.zero]) hb (by omega) st
    refine (congrArg (endM _) (bd_at t)).trans ?_
    simp only [ret_at, end_d, List.take_length]
    rfl
  | dull t b =>
    obtain ⟨ht, hb, pos⟩ := h
    simp [d_single_table, b_single_table, isOwn, lenB, isSt, Bare.D, sub_t0, sub_t1, sub_t2, sub_t3, eq_s, o_polariser, o_partial, o_turner, o_magnet, o_set, o_glass, o_grey, o_dull, w_dull_polariser, w_dull_partial, w_dull_turner, w_dull_magnet, w_dull_glass, w_dull_grey, l2, l3, ip]
    have t := framed_is (k + 1) b t 0 0 0 t 0 0 0 t b n (by omega) (by simp [frameR, ht, hb, Bd.zero]) hb (by omega) st
    refine (congrArg (endM _) (bd_at t)).trans ?_
    simp only [ret_at, end_d, List.take_length]
    rfl
  | glass =>
    simp [d_single_table, b_single_table, isOwn, lenB, isSt, Bare.D, sub_t0, sub_t1, sub_t2, sub_t3, eq_s, o_polariser, o_partial, o_turner, o_magnet, o_set, o_glass, o_grey, o_dull, w_glass_polariser, w_glass_partial, w_glass_turner, w_glass_magnet, w_glass_glass, w_glass_grey, l2, l3, neg_i]
    have t := framed_is (k + 1) 1 1 0 0 0 1 0 0 0 (-1) 1 1 (by omega) (by simp [frameR, Bd.zero, Bd.one, Bd.mone]) Bd.one (by omega) st
    refine (congrArg (endM _) (bd_at t)).trans ?_
    simp only [ret_at, end_d, List.take_length]
    rfl
  | turn a b c d =>
    obtain ⟨ha, hb, hc, hd, pos⟩ := h
    simp [d_single_table, b_single_table, isOwn, lenB, isSt, Bare.D, sub_t0, sub_t1, sub_t2, sub_t3, eq_s, o_polariser, o_partial, o_turner, o_magnet, o_set, o_glass, o_grey, o_dull, w_turner_polariser, w_turner_partial, w_turner_turner, w_turner_magnet, w_turner_glass, w_turner_grey, l2, l3]
    rw [bd_at (turn_rows_is (k + 5) a b c d n (by omega) ha hb hc hd st)]
    simp [lenB, isSt]
    have q : ∀ x y z u : Int, Bd n x → Bd n y → Bd n z → Bd n u → Bd (n + n + 5) (2 * (x * y - z * u)) := fun x y z u hx hy hz hu => (Bd.lit2.mul ((hx.mul hy).sub (hz.mul hu))).mono (by omega)
    have r : ∀ x y z u : Int, Bd n x → Bd n y → Bd n z → Bd n u → Bd (n + n + 5) (2 * (x * y + z * u)) := fun x y z u hx hy hz hu => (Bd.lit2.mul ((hx.mul hy).add (hz.mul hu))).mono (by omega)
    have e0 : Bd (n + n + 5) (a * a + b * b + c * c + d * d) := ((((ha.mul ha).add (hb.mul hb)).add (hc.mul hc)).add (hd.mul hd)).mono (by omega)
    have e1 : Bd (n + n + 5) (a * a + b * b - c * c - d * d) := ((((ha.mul ha).add (hb.mul hb)).sub (hc.mul hc)).sub (hd.mul hd)).mono (by omega)
    have e2 : Bd (n + n + 5) (a * a - b * b + c * c - d * d) := ((((ha.mul ha).sub (hb.mul hb)).add (hc.mul hc)).sub (hd.mul hd)).mono (by omega)
    have e3 : Bd (n + n + 5) (a * a - b * b - c * c + d * d) := ((((ha.mul ha).sub (hb.mul hb)).sub (hc.mul hc)).add (hd.mul hd)).mono (by omega)
    have t := framed_is (k + 1) (a * a + b * b + c * c + d * d) (a * a + b * b - c * c - d * d) (2 * (b * c - a * d)) (2 * (b * d + a * c)) (2 * (b * c + a * d)) (a * a - b * b + c * c - d * d) (2 * (c * d - a * b)) (2 * (b * d - a * c)) (2 * (c * d + a * b)) (a * a - b * b - c * c + d * d) (a * a + b * b + c * c + d * d) (n + n + 5) (by omega) (by simp [frameR, Bd.zero, e0, e1, e2, e3, q b c a d hb hc ha hd, r b d a c hb hd ha hc, r b c a d hb hc ha hd, q c d a b hc hd ha hb, q b d a c hb hd ha hc, r c d a b hc hd ha hb]) e0 (by omega) st
    refine (congrArg (endM _) (bd_at t)).trans ?_
    simp only [ret_at, end_d, List.take_length]
    rw [spun_same]
    rfl
end K76
end
section
set_option Elab.async false
set_option linter.all false
set_option maxRecDepth 100000
set_option maxHeartbeats 1000000
/-! K76M15: fractions of the law. -/
namespace K76
open PySem Zd
end K76
end
section
set_option Elab.async false
set_option linter.all false
set_option maxRecDepth 100000
set_option maxHeartbeats 1000000
/-! K76M16: plain facts of reduced lists. -/
namespace K76
open PySem Zd
theorem gcdL_mul (c : Int) (l : List Int) : gcdL (l.map fun i => c * i) = c.natAbs * gcdL l := by
  induction l with
  | nil => simp [gcdL]
  | cons i l ih => rw [List.map_cons, gcdL_cons, gcdL_cons, ih, Int.natAbs_mul, Nat.gcd_mul_left]
theorem sgn_mul (c b : Int) (c0 : c ≠ 0) (b0 : b ≠ 0) : sgn (c * b) = sgn c * sgn b := by
  unfold sgn
  rcases Int.lt_or_gt_of_ne c0 with h | h <;> rcases Int.lt_or_gt_of_ne b0 with h' | h'
  · have := Int.mul_pos_of_neg_of_neg h h'
    rw [if_pos this, if_neg (by omega), if_neg (by omega)]; rfl
  · have := Int.mul_neg_of_neg_of_pos h h'
    rw [if_neg (by omega), if_neg (by omega), if_pos h']; rfl
  · have := Int.mul_neg_of_pos_of_neg h h'
    rw [if_neg (by omega), if_pos h, if_neg (by omega)]; rfl
  · have := Int.mul_pos h h'
    rw [if_pos this, if_pos h, if_pos h']; rfl
theorem sgn_self (c : Int) : sgn c * c = (c.natAbs : Int) := by unfold sgn; split <;> omega
/-- a common factor is lost -/
theorem overL_scale (c b : Int) (l : List Int) (c0 : c ≠ 0) (b0 : b ≠ 0) : overL (l.map fun i => c * i) (c * b) = overL l b := by
  rw [overL_is, overL_is]
  have e : (l.map fun i => c * i) ++ [c * b] = (l ++ [b]).map fun i => c * i := by simp
  rw [e, gcdL_mul, List.map_map]
  refine List.map_congr_left fun i _ => ?_
  show sgn (c * b) * (c * i) / ((c.natAbs * gcdL (l ++ [b]) : Nat) : Int) = sgn b * i / (gcdL (l ++ [b]) : Int)
  have e2 : sgn (c * b) * (c * i) = (c.natAbs : Int) * (sgn b * i) := by
    rw [sgn_mul c b c0 b0, ← sgn_self c]
    simp [Int.mul_comm, Int.mul_left_comm, Int.mul_assoc]
  rw [e2, Int.natCast_mul, Int.mul_ediv_mul_of_pos _ _ (by omega)]
theorem overL_eq {l l' : List Int} {b b' : Int} (b0 : b ≠ 0) (b0' : b' ≠ 0) (h : (l.map fun i => b' * i) = l'.map fun i => b * i) : overL l b = overL l' b' := by
  rw [← overL_scale b' b l b0' b0, h, Int.mul_comm b' b, overL_scale b b' l' b0 b0']
/-- a reduced list, scaled back -/
theorem overL_back (l : List Int) (b : Int) (b0 : b ≠ 0) : ∃ g : Int, g ≠ 0 ∧ (overL l b).map (fun i => g * i) = l ++ [b] := by
  have g0 := gcdL_ne (l := l ++ [b]) (by simp) b0
  refine ⟨sgn b * (gcdL (l ++ [b]) : Int), fun z => ?_, ?_⟩
  · have := sgn_abs (b := b) (gcdL (l ++ [b]) : Int)
    rw [z] at this
    simp at this
    exact g0 this.symm
  · rw [overL_is, List.map_map]
    conv => rhs; rw [← List.map_id (l ++ [b])]
    refine List.map_congr_left fun i hi => ?_
    have d := gcdL_dvd hi
    show sgn b * (gcdL (l ++ [b]) : Int) * (sgn b * i / (gcdL (l ++ [b]) : Int)) = i
    rw [Int.mul_assoc, Int.mul_ediv_cancel' (Int.dvd_mul_of_dvd_right d), ← Int.mul_assoc]
    rcases sgn_sq b with e | e <;> rw [e] <;> simp
end K76
end
section
set_option Elab.async false
set_option linter.all false
set_option maxRecDepth 100000
set_option maxHeartbeats 1000000
/-! K76M17: the law's lights. -/
namespace K76
open PySem Zd
theorem tb__law_five : tb "_law_five" = some d__law_five := by kernel_rfl
theorem law_five_is (k : Nat) (l : List Int) (b : Int) (n : Nat) (hn : n ≤ 9000) (hb : Bd n b) (b0 : 0 < b) (hl : l.length < line) (st : Store) :
    callD tb gv (k + 2) "_law_five" [.d (.list (ip l)), .d (.int b)] st = .ok (.d (.tuple (ip (overL l b)))) st := by
  rw [callD_is tb__law_five]
  have l1 : decide (1 ≤ line) = true := by decide
  have ll : ∀ xs : List PyData, bltW .list [.d (.list xs)] = Zd.ret (.d (.list xs)) := fun _ => rfl
  have h1 : (ip l).length + 1 ≤ line := by rw [ip_length]; exact hl
  have a1 : binW .Add (.d (.list (ip l))) (.d (.list [.int b])) = Zd.ret (.d (.list (ip (l ++ [b])))) := by
    rw [add_l h1, ← ip_app]
    rfl
  have it : ∀ xs : List PyData, itemsM (.d (.list xs)) = Zd.ret xs := fun _ => rfl
  have m : b ∈ l ++ [b] := by simp
  have g0 := gcdL_ne m (by omega)
  have gz : (gcdL (l ++ [b])).log2 < 9000 := Nat.lt_of_lt_of_le ((Nat.log2_lt g0).mpr (gcdL_bd m (by omega) hb)) hn
  have part := comp_div g0 gz
  simp [d__law_five, b__law_five, isOwn, wipeE, ll, l1, a1]
  rw [bd_at (law_gcd_is k _ _ (.inr rfl) st)]
  simp [it, l1, ll, a1]
  rw [bd_at (comp_ints (f := fun i => i / (gcdL (l ++ [b]) : Int)) (fun i hi => ?_) (by simp; exact hl))]
  · have s1 : sgn b = 1 := by unfold sgn; rw [if_pos b0]
    rw [overL_is, s1]
    simp
  · simp [one_is, fdiv_i part.1 part.2, Int.fdiv_eq_ediv_of_nonneg i (Int.natCast_nonneg _)]
end K76
end
section
set_option Elab.async false
set_option linter.all false
set_option maxRecDepth 100000
set_option maxHeartbeats 1000000
/-! K76M18: products of tables, two sizes. -/
namespace K76
open PySem Zd
theorem dotL_bd2 {r c : List Int} {n m : Nat} (hr : ∀ i ∈ r, Bd n i) (hc : ∀ i ∈ c, Bd m i) (h4 : r.length = 4) (h4' : c.length = 4) : Bd (n + m + 4) (dotL r c) := by
  match r, c, h4, h4' with
  | [a, b, x, y], [e, f, g, h], _, _ =>
    have m1 := (hr a (by simp)).mul (hc e (by simp))
    have m2 := (hr b (by simp)).mul (hc f (by simp))
    have m3 := (hr x (by simp)).mul (hc g (by simp))
    have m4 := (hr y (by simp)).mul (hc h (by simp))
    have z : Bd (n + m) 0 := Bd.zero
    have s := m1.add (m2.add (m3.add (m4.add z)))
    exact Bd.mono s (by omega)
theorem prodL_bd2 {R O : List (List Int)} {n m : Nat} (hR : okR R) (hO : okR O) (bR : bdR n R) (bO : bdR m O) : bdR (n + m + 4) (prodL R O) := by
  intro q hq i hi
  obtain ⟨r, hr, rfl⟩ := List.mem_map.mp hq
  obtain ⟨c, hc, rfl⟩ := List.mem_map.mp hi
  exact dotL_bd2 (bR r hr) (transp_bd bO c hc) (hR.2 r hr) ((transp_ok hO).2 c hc)
theorem product2_is (k : Nat) (R O : List (List Int)) (b c : Int) (hR : okR R) (hO : okR O) (n m : Nat) (hn : n + m + 4 ≤ 9000) (bR : bdR n R) (bO : bdR m O) (hb : Bd n b) (hc : Bd m c) (b0 : b ≠ 0) (c0 : c ≠ 0) (st : Store) :
    callD tb gv (k + 5) "product_of_tables" [.d (tabR R b), .d (tabR O c)] st = .ok (.d (tabD (overL (prodL R O).flatten (b * c)))) st := by
  rw [callD_is tb_product_of_tables]
  have mm : mulOk b c = true := mulOk_of hb hc (by omega)
  have bR' : bdR (n + m) R := fun r hr i hi => (bR r hr i hi).mono (by omega)
  have bO' : bdR (n + m) O := fun r hr i hi => (bO r hr i hi).mono (by omega)
  simp [d_product_of_tables, b_product_of_tables, isOwn, tabR_0, tabR_1]
  rw [bd_at (rows_product_is (k + 2) R O hR hO (n + m) (by omega) bR' bO' st)]
  simp [mm]
  have bp := prodL_bd2 hR hO bR bO
  rw [bd_at (reduced_table_is k (prodL R O) (b * c) (rowsD (prodL R O)) (.inl rfl) (okR_flat (prodL_ok hR)) (n + m + 4) (by omega) (fun i hi => by
    obtain ⟨r, hr, hi⟩ := List.mem_flatten.mp hi
    exact bp r hr i hi) ((hb.mul hc).mono (by omega)) (Int.mul_ne_zero b0 c0) st)]
  simp
end K76
end
section
set_option Elab.async false
set_option linter.all false
set_option maxRecDepth 100000
set_option maxHeartbeats 1000000
/-! K76M19: tables up to a factor. -/
namespace K76
open PySem Zd
def scR (g : Int) (R : List (List Int)) : List (List Int) := R.map fun r => r.map fun i => g * i
theorem scR_flat (g : Int) (R : List (List Int)) : (scR g R).flatten = R.flatten.map fun i => g * i := by
  unfold scR
  rw [List.map_flatten]
theorem scR_ok {g : Int} {R : List (List Int)} (h : okR R) : okR (scR g R) := by
  refine ⟨by simp [scR, h.1], fun r hr => ?_⟩
  obtain ⟨q, hq, rfl⟩ := List.mem_map.mp hr
  rw [List.length_map]
  exact h.2 q hq
/-- the rows and the whole of a reduced table -/
theorem tab_back {R : List (List Int)} {b : Int} (h : okR R) (b0 : b ≠ 0) : ∃ g : Int, g ≠ 0 ∧ scR g (rowsOf (overL R.flatten b)) = R ∧ g * (overL R.flatten b).getD 16 0 = b ∧ okR (rowsOf (overL R.flatten b)) := by
  obtain ⟨g, g0, e⟩ := overL_back R.flatten b b0
  have hl := overL_length R.flatten b
  rw [okR_flat h] at hl
  refine ⟨g, g0, ?_⟩
  generalize overL R.flatten b = l at e hl
  obtain ⟨h1, h2⟩ := h
  match R, h1 with
  | [x, y, z, w], _ =>
    have e1 := h2 x (by simp)
    have e2 := h2 y (by simp)
    have e3 := h2 z (by simp)
    have e4 := h2 w (by simp)
    match x, y, z, w, e1, e2, e3, e4, l, hl with
    | [_, _, _, _], [_, _, _, _], [_, _, _, _], [_, _, _, _], _, _, _, _, [_, _, _, _, _, _, _, _, _, _, _, _, _, _, _, _, _], _ =>
      simp at e
      simp [scR, rowsOf, okR, e]
theorem dotL_sc (g h : Int) (r c : List Int) : dotL (r.map fun i => g * i) (c.map fun i => h * i) = (g * h) * dotL r c := by
  unfold dotL
  induction r generalizing c with
  | nil => simp
  | cons a r ih =>
    cases c with
    | nil => simp
    | cons b c =>
      simp only [List.map_cons, List.zip_cons_cons, List.sum_cons, Int.mul_add] at ih ⊢
      rw [ih c]
      congr 1
      simp [Int.mul_comm, Int.mul_left_comm]
theorem transp_sc (g : Int) (R : List (List Int)) : transp (scR g R) = scR g (transp R) := by
  unfold transp scR
  simp only [List.map_map]
  refine List.map_congr_left fun j _ => ?_
  show List.map _ _ = (R.map fun r => r.getD j 0).map fun i => g * i
  rw [List.map_map]
  refine List.map_congr_left fun r _ => ?_
  show (r.map fun i => g * i).getD j 0 = g * r.getD j 0
  rw [List.getD_eq_getElem?_getD, List.getD_eq_getElem?_getD, List.getElem?_map]
  cases r[j]? <;> simp
theorem prodL_sc (g h : Int) (R O : List (List Int)) : prodL (scR g R) (scR h O) = scR (g * h) (prodL R O) := by
  unfold prodL
  rw [transp_sc]
  unfold scR
  simp only [List.map_map]
  refine List.map_congr_left fun r _ => ?_
  show List.map _ _ = List.map _ _
  rw [List.map_map]
  refine List.map_congr_left fun c _ => ?_
  exact dotL_sc g h r c
/-- a product of reduced tables is the product, reduced -/
theorem prod_red {R O : List (List Int)} {b c : Int} (hR : okR R) (hO : okR O) (b0 : b ≠ 0) (c0 : c ≠ 0) :
    overL (prodL (rowsOf (overL R.flatten b)) (rowsOf (overL O.flatten c))).flatten ((overL R.flatten b).getD 16 0 * (overL O.flatten c).getD 16 0) = overL (prodL R O).flatten (b * c) := by
  obtain ⟨g, g0, e1, e2, _⟩ := tab_back hR b0
  obtain ⟨h, h0, e3, e4, _⟩ := tab_back hO c0
  generalize (overL R.flatten b).getD 16 0 = bb at e2
  generalize (overL O.flatten c).getD 16 0 = cc at e4
  have bb0 : bb ≠ 0 := fun z => b0 (by rw [← e2, z, Int.mul_zero])
  have cc0 : cc ≠ 0 := fun z => c0 (by rw [← e4, z, Int.mul_zero])
  generalize rowsOf (overL R.flatten b) = RR at e1
  generalize rowsOf (overL O.flatten c) = OO at e3
  subst e1 e2 e3 e4
  rw [prodL_sc, scR_flat, show g * bb * (h * cc) = g * h * (bb * cc) by simp [Int.mul_comm, Int.mul_left_comm], overL_scale _ _ _ (Int.mul_ne_zero g0 h0) (Int.mul_ne_zero bb0 cc0)]
end K76
end
section
set_option Elab.async false
set_option linter.all false
set_option maxRecDepth 100000
set_option maxHeartbeats 1000000
/-! K76M20: what is a plate, what are kinds. -/
namespace K76
open PySem Zd
theorem to_ret {m : M W} {w : W} (h : ∀ st, m st = .ok w st) : m = Zd.ret w := funext h
abbrev tp (l : List Int) : W := .d (.tuple (ip l))
theorem tb_is_whole : tb "is_whole" = some d_is_whole := by kernel_rfl
theorem is_whole_i (k : Nat) (i : Int) : callD tb gv (k + 1) "is_whole" [.d (.int i)] = Zd.ret (.d (.bool true)) := to_ret fun st => by
  rw [callD_is tb_is_whole]
  simp [d_is_whole, b_is_whole, isOwn]
theorem sh_l {xs : List PyData} (h : SeqAt.shaped (.list xs) = true) : SeqAt.shaped (.list xs) = true := h
theorem eq_nil : cmpB .Eq (.d (.list [])) (.d (.list [])) = Zd.ret true := by
  rw [eq_p (by decide +kernel) (by decide +kernel)]
  simp [PyData.eqv, PyData.eqvAll]
theorem tb_are_wholes : tb "are_wholes" = some d_are_wholes := by kernel_rfl
theorem compL_none {f : PyData → M (List PyData)} {st : Store} : ∀ xs : List PyData, (∀ x ∈ xs, f x st = .ok [] st) → compL f xs st = .ok [] st
  | [], _ => rfl
  | x :: xs, h => by
    unfold compL
    rw [bd_at (h x List.mem_cons_self), bd_at (compL_none xs fun y hy => h y (List.mem_cons_of_mem _ hy))]
    rfl
theorem are_wholes_i (k : Nat) (l : List Int) : callD tb gv (k + 2) "are_wholes" [tp l, .d (.int l.length)] = Zd.ret (.d (.bool true)) := to_ret fun st => by
  rw [callD_is tb_are_wholes]
  simp [d_are_wholes, b_are_wholes, isOwn, wipeE, ip_length]
  rw [bd_at (lim_of (compL_none (ip l) fun x hx => ?_) (by decide))]
  · simp [eq_nil]
  · obtain ⟨i, _, rfl⟩ := List.mem_map.mp hx
    simp [one_if, is_whole_i]
theorem are_wholes_2 (k : Nat) (a b : Int) : callD tb gv (k + 2) "are_wholes" [tp [a, b], .d (.int 2)] = Zd.ret (.d (.bool true)) := are_wholes_i k [a, b]
theorem are_wholes_4 (k : Nat) (a b c d : Int) : callD tb gv (k + 2) "are_wholes" [tp [a, b, c, d], .d (.int 4)] = Zd.ret (.d (.bool true)) := are_wholes_i k [a, b, c, d]
theorem common_part_t (k : Nat) (l : List Int) : callD tb gv (k + 1) "common_part" [tp l] = Zd.ret (.d (.int (gcdL l : Nat))) := to_ret fun st => common_part_is k l _ (.inl rfl) st
theorem is_between_i (k : Nat) (i lo hi : Int) (h1 : lo ≤ i) (h2 : i ≤ hi) : callD tb gv (k + 2) "is_between" [.d (.int i), .d (.int lo), .d (.int hi)] = Zd.ret (.d (.bool true)) := to_ret fun st => by
  rw [callD_is (show tb "is_between" = some d_is_between by kernel_rfl)]
  simp [d_is_between, b_is_between, isOwn, is_whole_i, h1, h2]
theorem g2_0 (a b : Int) : subW (tp [a, b]) (.d (.int 0)) = Zd.ret (.d (.int a)) := sub_tup rfl
theorem g2_1 (a b : Int) : subW (tp [a, b]) (.d (.int 1)) = Zd.ret (.d (.int b)) := sub_tup rfl
theorem g4_0 (a b c d : Int) : subW (tp [a, b, c, d]) (.d (.int 0)) = Zd.ret (.d (.int a)) := sub_tup rfl
theorem g4_1 (a b c d : Int) : subW (tp [a, b, c, d]) (.d (.int 1)) = Zd.ret (.d (.int b)) := sub_tup rfl
theorem g4_2 (a b c d : Int) : subW (tp [a, b, c, d]) (.d (.int 2)) = Zd.ret (.d (.int c)) := sub_tup rfl
theorem g4_3 (a b c d : Int) : subW (tp [a, b, c, d]) (.d (.int 3)) = Zd.ret (.d (.int d)) := sub_tup rfl
def shareV (a b : Int) : Prop := gcdL [a, b] = 1 ∧ 0 < b ∧ 0 ≤ a ∧ a ≤ b
def setV (a b : Int) : Prop := gcdL [a, b] = 1 ∧ (0 < b ∨ a = 1 ∧ b = 0)
def kindV (x y z w : Int) : Prop := gcdL [x, y, z, w] = 1 ∧ 1 ≤ w ∧ x * x + y * y + z * z = w * w
def leadPos (l : List Int) : Prop := ∃ i r, l.filter (· ≠ 0) = i :: r ∧ 0 < i
def turnV (a b c d : Int) : Prop := gcdL [a, b, c, d] = 1 ∧ leadPos [a, b, c, d]
theorem is_fraction_i (k : Nat) (a b : Int) (h : gcdL [a, b] = 1) (b0 : 0 < b) : callD tb gv (k + 3) "is_fraction" [tp [a, b]] = Zd.ret (.d (.bool true)) := to_ret fun st => by
  rw [callD_is (show tb "is_fraction" = some d_is_fraction by kernel_rfl)]
  simp [d_is_fraction, b_is_fraction, isOwn, are_wholes_2, common_part_t, g2_1, b0, h]
theorem is_share_i (k : Nat) (a b : Int) (h : shareV a b) : callD tb gv (k + 4) "is_share" [tp [a, b]] = Zd.ret (.d (.bool true)) := to_ret fun st => by
  obtain ⟨h1, h2, h3, h4⟩ := h
  rw [callD_is (show tb "is_share" = some d_is_share by kernel_rfl)]
  simp [d_is_share, b_is_share, isOwn, is_fraction_i, g2_0, g2_1, h1, h2, h3, h4]
theorem shaped2 (a b : Int) : SeqAt.shaped (.tuple (ip [a, b])) = true := by simp [ip, SeqAt.shaped, PyData.canLay0, PyData.canLayAll0, PyData.depth, PyData.depthAll]
theorem eqv2 (a b : Int) : PyData.eqv (.tuple (ip [a, b])) (.tuple [.int 1, .int 0]) = (a == 1 && b == 0) := by simp [ip, PyData.eqv, PyData.eqvAll]
theorem is_setting_i (k : Nat) (a b : Int) (h : setV a b) : callD tb gv (k + 3) "is_setting" [tp [a, b]] = Zd.ret (.d (.bool true)) := to_ret fun st => by
  obtain ⟨h1, h2⟩ := h
  rw [callD_is (show tb "is_setting" = some d_is_setting by kernel_rfl)]
  by_cases b0 : 0 < b
  · simp [d_is_setting, b_is_setting, isOwn, are_wholes_2, common_part_t, g2_1, h1, b0]
  · obtain ⟨rfl, rfl⟩ : a = 1 ∧ b = 0 := by omega
    have e : cmpB .Eq (tp [1, 0]) (.d (.tuple [.int 1, .int 0])) = Zd.ret true := by
      rw [eq_p (shaped2 1 0) (by exact shaped2 1 0), eqv2]
      rfl
    simp [d_is_setting, b_is_setting, isOwn, are_wholes_2, common_part_t, g2_1, h1, e, line]
theorem is_kind_i (k : Nat) (x y z w : Int) (n : Nat) (hn : n ≤ 1000) (hx : Bd n x) (hy : Bd n y) (hz : Bd n z) (hw : Bd n w) (h : kindV x y z w) : callD tb gv (k + 3) "is_kind" [tp [x, y, z, w]] = Zd.ret (.d (.bool true)) := to_ret fun st => by
  obtain ⟨h1, h2, h3⟩ := h
  rw [callD_is (show tb "is_kind" = some d_is_kind by kernel_rfl)]
  have m1 : ∀ a : Int, Bd n a → mulOk a a = true := fun a ha => mulOk_of ha ha (by omega)
  have w1 : ¬ w < 1 := by omega
  simp [d_is_kind, b_is_kind, isOwn, are_wholes_4, common_part_t, g4_0, g4_1, g4_2, g4_3, h1, w1, m1, hx, hy, hz, hw, h3]
theorem filt {f : PyData → M (List PyData)} {P : Int → Bool} {st : Store} : ∀ l : List Int, (∀ i, f (.int i) st = .ok (if P i then [.int i] else []) st) → compL f (ip l) st = .ok (ip (l.filter P)) st
  | [], _ => rfl
  | i :: l, h => by
    have e : ip (i :: l) = .int i :: ip l := rfl
    rw [e]
    unfold compL
    rw [bd_at (h i), bd_at (filt l h), List.filter_cons]
    cases P i <;> rfl
theorem sub_l0' {a : PyData} {r : List PyData} : subW (.d (.list (a :: r))) (.d (.int 0)) = Zd.ret (.d a) := sub_lst (by unfold L2.atI L2.ixN; simp)
theorem is_whole_turn_i (k : Nat) (a b c d : Int) (h : turnV a b c d) : callD tb gv (k + 3) "is_whole_turn" [tp [a, b, c, d]] = Zd.ret (.d (.bool true)) := to_ret fun st => by
  obtain ⟨h1, i, r, h2, h3⟩ := h
  rw [callD_is (show tb "is_whole_turn" = some d_is_whole_turn by kernel_rfl)]
  simp [d_is_whole_turn, b_is_whole_turn, isOwn, are_wholes_4, common_part_t, h1, wipeE]
  rw [bd_at (lim_of (filt (P := fun i => decide (i ≠ 0)) [a, b, c, d] fun j => ?_) (by rw [ip_length]; exact Nat.le_trans (List.length_filter_le _ _) (by show 4 ≤ line; decide)))]
  · rw [h2]
    simp [ip, sub_l0', h3]
  · by_cases h : j = 0 <;> simp [one_if, h]
end K76
end
section
set_option Elab.async false
set_option linter.all false
set_option maxRecDepth 100000
set_option maxHeartbeats 1000000
/-! K76M21: tables by rows and whole; plates, set ones too. -/
namespace K76
open PySem Zd
/-- the table of rows over a whole -/
def tabT (R : List (List Int)) (b : Int) : PyData := tabD (overL R.flatten b)
theorem quo_bd {n : Nat} {i : Int} (g : Nat) (s : Int) (hs : s = 1 ∨ s = -1) (h : Bd n i) : Bd n (s * i / (g : Int)) := by
  unfold Bd at *
  have e : (s * i).natAbs = i.natAbs := by rcases hs with rfl | rfl <;> simp
  have := Int.natAbs_ediv_le_natAbs (s * i) (g : Int)
  omega
theorem overL_bd {l : List Int} {b : Int} {n : Nat} (h : ∀ i ∈ l, Bd n i) (hb : Bd n b) : ∀ j ∈ overL l b, Bd n j := by
  intro j hj
  rw [overL_is] at hj
  obtain ⟨i, hi, rfl⟩ := List.mem_map.mp hj
  refine quo_bd _ _ (sgn_sq b) ?_
  rcases List.mem_append.mp hi with hi | hi
  · exact h i hi
  · rw [List.mem_singleton.mp hi]; exact hb
theorem rowsOf_bd {l : List Int} {n : Nat} (h : ∀ i ∈ l, Bd n i) : bdR n (rowsOf l) := by
  intro r hr i hi
  simp only [rowsOf, List.mem_cons, List.not_mem_nil, or_false] at hr
  rcases hr with rfl | rfl | rfl | rfl
  · exact h i (List.mem_of_mem_take hi)
  · exact h i (List.mem_of_mem_drop (List.mem_of_mem_take hi))
  · exact h i (List.mem_of_mem_drop (List.mem_of_mem_take hi))
  · exact h i (List.mem_of_mem_drop (List.mem_of_mem_take hi))
theorem flat_bd {R : List (List Int)} {n : Nat} (h : bdR n R) : ∀ i ∈ R.flatten, Bd n i := fun i hi => by
  obtain ⟨r, hr, hi⟩ := List.mem_flatten.mp hi
  exact h r hr i hi
theorem getD_mem_bd {l : List Int} {n j : Nat} (h : ∀ i ∈ l, Bd n i) : Bd n (l.getD j 0) := getD_bd h
theorem overL_last {l : List Int} {b : Int} (b0 : b ≠ 0) {k : Nat} (hk : l.length = k) : 0 < (overL l b).getD k 0 := by
  rw [overL_is]
  have e : ((l ++ [b]).map fun i => sgn b * i / (gcdL (l ++ [b]) : Int)).getD k 0 = sgn b * b / (gcdL (l ++ [b]) : Int) := by
    subst hk
    simp [List.getD_eq_getElem?_getD]
  rw [e, sgn_self]
  have g0 := gcdL_ne (l := l ++ [b]) (by simp) b0
  have d : (gcdL (l ++ [b]) : Int) ∣ (b.natAbs : Int) := by
    have := gcdL_dvd (l := l ++ [b]) (i := b) (by simp)
    exact Int.dvd_natAbs.mpr this
  exact Int.ediv_pos_of_pos_of_dvd (by omega) (by omega) d
/-- what a reduced table holds -/
theorem tab_facts {R : List (List Int)} {b : Int} {n : Nat} (h : okR R) (bR : bdR n R) (hb : Bd n b) (b0 : b ≠ 0) :
    okR (rowsOf (overL R.flatten b)) ∧ bdR n (rowsOf (overL R.flatten b)) ∧ Bd n ((overL R.flatten b).getD 16 0) ∧ 0 < (overL R.flatten b).getD 16 0 := by
  have bd := overL_bd (flat_bd bR) hb
  obtain ⟨_, _, _, _, q⟩ := tab_back h b0
  exact ⟨q, rowsOf_bd bd, getD_bd bd, overL_last b0 (okR_flat h)⟩
theorem then_T (k : Nat) {R O : List (List Int)} {b c : Int} (hR : okR R) (hO : okR O) {n m : Nat} (bR : bdR n R) (bO : bdR m O) (hb : Bd n b) (hc : Bd m c) (b0 : b ≠ 0) (c0 : c ≠ 0) (hn : n + m + 4 ≤ 9000) :
    callD tb gv (k + 3) "_law_then" [.d (tabT O c), .d (tabT R b)] = Zd.ret (.d (tabT (prodL R O) (c * b))) := to_ret fun st => by
  obtain ⟨r1, r2, r3, r4⟩ := tab_facts hR bR hb b0
  obtain ⟨o1, o2, o3, o4⟩ := tab_facts hO bO hc c0
  unfold tabT
  rw [tabD_is (overL R.flatten b), tabD_is (overL O.flatten c), law_then_is k _ _ _ _ r1 o1 n m hn r2 o2 r3 o3 r4 o4 st, Int.mul_comm, prod_red hR hO b0 c0, Int.mul_comm]
theorem prod_T (k : Nat) {R O : List (List Int)} {b c : Int} (hR : okR R) (hO : okR O) {n m : Nat} (bR : bdR n R) (bO : bdR m O) (hb : Bd n b) (hc : Bd m c) (b0 : b ≠ 0) (c0 : c ≠ 0) (hn : n + m + 4 ≤ 9000) :
    callD tb gv (k + 5) "product_of_tables" [.d (tabT R b), .d (tabT O c)] = Zd.ret (.d (tabT (prodL R O) (b * c))) := to_ret fun st => by
  obtain ⟨r1, r2, r3, r4⟩ := tab_facts hR bR hb b0
  obtain ⟨o1, o2, o3, o4⟩ := tab_facts hO bO hc c0
  unfold tabT
  rw [tabD_is (overL R.flatten b), tabD_is (overL O.flatten c), product2_is k _ _ _ _ r1 o1 n m hn r2 o2 r3 o3 (by omega) (by omega) st, prod_red hR hO b0 c0]
/-! plates -/
theorem Bare.okRR (p : Bare) : okR p.R := by
  cases p <;> first | exact partR_ok .. | exact spunR_ok .. | exact diagR_ok .. | exact ⟨rfl, by simp [Bare.R, glassR]⟩
def nrm (a b : Int) : Int := a * a + b * b
inductive Plate where
  | bare (p : Bare)
  | set (a b : Int) (p : Bare)
def Plate.D : Plate → PyData
  | .bare p => p.D
  | .set a b p => .tuple [.str "set", .tuple (ip [a, b]), p.D]
def Plate.R : Plate → List (List Int)
  | .bare p => p.R
  | .set a b p => prodL (spunR b 0 0 a) (prodL p.R (spunR b 0 0 (-a)))
def Plate.b : Plate → Int
  | .bare p => p.b
  | .set a b p => nrm a b * (p.b * nrm a b)
def Plate.T (p : Plate) : PyData := tabT p.R p.b
theorem Plate.okRR : ∀ p : Plate, okR p.R
  | .bare p => p.okRR
  | .set a b p => prodL_ok (spunR_ok ..)
/-- bits of a plate's table: n those of a set one's setting, m those of the rest -/
def Bare.small (m : Nat) (p : Bare) : Prop := bdR m p.R ∧ Bd m p.b ∧ p.b ≠ 0 ∧ p.ok 100
def Plate.small (n m : Nat) : Plate → Prop
  | .bare p => p.small m
  | .set a b p => Bd n a ∧ Bd n b ∧ nrm a b ≠ 0 ∧ p.small m
theorem spun_bd {n : Nat} {a b c d : Int} (ha : Bd n a) (hb : Bd n b) (hc : Bd n c) (hd : Bd n d) : bdR (n + n + 6) (spunR a b c d) := by
  have e0 : Bd (n + n + 6) (a * a + b * b + c * c + d * d) := ((((ha.mul ha).add (hb.mul hb)).add (hc.mul hc)).add (hd.mul hd)).mono (by omega)
  have e1 : Bd (n + n + 6) (a * a + b * b - c * c - d * d) := ((((ha.mul ha).add (hb.mul hb)).sub (hc.mul hc)).sub (hd.mul hd)).mono (by omega)
  have e2 : Bd (n + n + 6) (a * a - b * b + c * c - d * d) := ((((ha.mul ha).sub (hb.mul hb)).add (hc.mul hc)).sub (hd.mul hd)).mono (by omega)
  have e3 : Bd (n + n + 6) (a * a - b * b - c * c + d * d) := ((((ha.mul ha).sub (hb.mul hb)).sub (hc.mul hc)).add (hd.mul hd)).mono (by omega)
  have q : ∀ x y z u : Int, Bd n x → Bd n y → Bd n z → Bd n u → Bd (n + n + 6) (2 * x * y - 2 * z * u) := fun x y z u hx hy hz hu => (((Bd.lit2.mul hx).mul hy).sub ((Bd.lit2.mul hz).mul hu)).mono (by omega)
  have r : ∀ x y z u : Int, Bd n x → Bd n y → Bd n z → Bd n u → Bd (n + n + 6) (2 * x * y + 2 * z * u) := fun x y z u hx hy hz hu => (((Bd.lit2.mul hx).mul hy).add ((Bd.lit2.mul hz).mul hu)).mono (by omega)
  have z : Bd (n + n + 6) 0 := Bd.zero
  unfold bdR spunR
  simp only [List.forall_mem_cons, e0, e1, e2, e3, z, q b c a d hb hc ha hd, r b d a c hb hd ha hc, r b c a d hb hc ha hd, q c d a b hc hd ha hb, q b d a c hb hd ha hc, r c d a b hc hd ha hb, true_and, and_true]
  simp
theorem nrm_bd {n : Nat} {a b : Int} (ha : Bd n a) (hb : Bd n b) : Bd (n + n + 6) (nrm a b) := ((ha.mul ha).add (hb.mul hb)).mono (by omega)
theorem nrm_spun (a b : Int) : b * b + 0 * 0 + 0 * 0 + a * a = nrm a b := by unfold nrm; omega
theorem nrm_neg (a b : Int) : nrm (-a) b = nrm a b := by unfold nrm; rw [Int.neg_mul_neg]
/-- a plate's table: bits -/
def bitsP (n m : Nat) : Nat := 4 * n + m + 20
theorem Plate.bds {n m : Nat} : ∀ {p : Plate}, p.small n m → bdR (bitsP n m) p.R ∧ Bd (bitsP n m) p.b ∧ p.b ≠ 0
  | .bare p, h => ⟨fun r hr i hi => (h.1 r hr i hi).mono (by unfold bitsP; omega), h.2.1.mono (by unfold bitsP; omega), h.2.2.1⟩
  | .set a b p, ⟨ha, hb, n0, h1, h2, h3, _⟩ => by
    have z : Bd n 0 := Bd.zero
    have s1 := spun_bd hb z z ha
    have s2 := spun_bd hb z z ha.neg
    have i1 := prodL_bd2 p.okRR (spunR_ok b 0 0 (-a)) h1 s2
    have i2 := prodL_bd2 (spunR_ok b 0 0 a) (prodL_ok (O := spunR b 0 0 (-a)) p.okRR) s1 i1
    have nb := nrm_bd ha hb
    refine ⟨fun r hr i hi => (i2 r hr i hi).mono (by unfold bitsP; omega), (nb.mul (h2.mul nb)).mono (by unfold bitsP; omega), Int.mul_ne_zero n0 (Int.mul_ne_zero h3 n0)⟩
end K76
end
section
set_option Elab.async false
set_option linter.all false
set_option maxRecDepth 100000
set_option maxHeartbeats 1000000
/-! K76M22: the law's and the program's tables of any plate. -/
namespace K76
open PySem Zd
theorem Bare.T_is (p : Bare) : p.T = tabT p.R p.b := rfl
theorem law_of_bare (k : Nat) (p : Bare) (h : p.ok 100) : callD tb gv (k + 4) "_law_of_plate" [.d p.D] = Zd.ret (.d (tabT p.R p.b)) := to_ret fun st => law_of_bare_is k p 100 (by omega) h st
theorem single_bare (k : Nat) (p : Bare) (h : p.ok 100) : callD tb gv (k + 7) "single_table" [.d p.D] = Zd.ret (.d (tabT p.R p.b)) := to_ret fun st => single_table_is k p 100 (by omega) h st
theorem nrm_pos {a b : Int} (h : nrm a b ≠ 0) : 0 < nrm a b := by
  have h1 : 0 ≤ a * a := by rcases Int.le_total 0 a with h | h; exact Int.mul_nonneg h h; exact Int.mul_nonneg_of_nonpos_of_nonpos h h
  have h2 : 0 ≤ b * b := by rcases Int.le_total 0 b with h | h; exact Int.mul_nonneg h h; exact Int.mul_nonneg_of_nonpos_of_nonpos h h
  unfold nrm at *
  omega
theorem spun_T (k : Nat) {a b : Int} {n : Nat} (hn : n ≤ 4000) (ha : Bd n a) (hb : Bd n b) (h : nrm a b ≠ 0) : callD tb gv (k + 3) "_law_spun" [tp [b, 0, 0, a]] = Zd.ret (.d (tabT (spunR b 0 0 a) (nrm a b))) := to_ret fun st => by
  have e := nrm_spun a b
  have t := law_spun_is k b 0 0 a n hn hb Bd.zero Bd.zero ha (by rw [e]; exact nrm_pos h) st
  rw [e] at t
  exact t
theorem mag_T (k : Nat) {a b : Int} {n : Nat} (hn : n ≤ 4000) (ha : Bd n a) (hb : Bd n b) (h : nrm a b ≠ 0) : callD tb gv (k + 6) "magnet_table" [tp [a, b]] = Zd.ret (.d (tabT (spunR b 0 0 a) (nrm a b))) := to_ret fun st => by
  have t := magnet_table_is k a b n hn ha hb (nrm_pos h) st
  rw [mag_same] at t
  exact t
theorem set_head (a b : Int) (p : Bare) : subW (.d (Plate.set a b p).D) (.d (.int 0)) = Zd.ret (.d (.str "set")) := sub_tup rfl
theorem set_one (a b : Int) (p : Bare) : subW (.d (Plate.set a b p).D) (.d (.int 1)) = Zd.ret (tp [a, b]) := sub_tup rfl
theorem set_two (a b : Int) (p : Bare) : subW (.d (Plate.set a b p).D) (.d (.int 2)) = Zd.ret (.d p.D) := sub_tup rfl
theorem law_of_plate (k : Nat) {n m : Nat} (hn : 4 * n + m + 20 ≤ 9000) : ∀ {p : Plate}, p.small n m → callD tb gv (k + 5) "_law_of_plate" [.d p.D] = Zd.ret (.d p.T)
  | .bare p, h => law_of_bare (k + 1) p h.2.2.2
  | .set a b p, ⟨ha, hb, n0, h1, h2, h3, h4⟩ => to_ret fun st => by
    rw [callD_is tb__law_of_plate]
    have z : Bd n 0 := Bd.zero
    have s1 := spun_bd hb z z ha
    have s2 := spun_bd hb z z ha.neg
    have nb := nrm_bd ha hb
    have l4 : decide (4 ≤ line) = true := by decide
    have e1 : (Plate.set a b p).D = .tuple [.str "set", .tuple (ip [a, b]), p.D] := rfl
    have c1 := spun_T (k + 1) (n := n) (by omega) ha.neg hb (by rw [nrm_neg]; exact n0)
    rw [nrm_neg] at c1
    have c2 := law_of_bare k p h4
    have c3 := then_T (k + 1) p.okRR (spunR_ok b 0 0 (-a)) h1 s2 h2 nb h3 n0 (by omega)
    have c4 := spun_T (k + 1) (n := n) (by omega) ha hb n0
    have i1 := prodL_bd2 p.okRR (spunR_ok b 0 0 (-a)) h1 s2
    have c5 := then_T (k + 1) (spunR_ok b 0 0 a) (prodL_ok (O := spunR b 0 0 (-a)) p.okRR) s1 i1 nb ((nb.mul h2).mono (by omega)) n0 (Int.mul_ne_zero n0 h3) (by omega)
    have d1 : PyData.tuple [.int b, .int 0, .int 0, .int (-a)] = .tuple (ip [b, 0, 0, -a]) := rfl
    have d2 : PyData.tuple [.int b, .int 0, .int 0, .int a] = .tuple (ip [b, 0, 0, a]) := rfl
    have d3 : (PyData.tuple (ip [a, b])) = .tuple [.int a, .int b] := rfl
    simp [d__law_of_plate, b__law_of_plate, isOwn, lenB, isSt, e1, sub_t0, sub_t1, sub_t2, eq_s, o_polariser, o_partial, o_turner, o_magnet, o_set, w_set_polariser, w_set_partial, w_set_turner, w_set_magnet, w_set_set, l4, d3, d1, d2, c1, c2, c3, c4, c5]
    show tabT _ _ = tabT _ _
    congr 1
    show _ = nrm a b * (p.b * nrm a b)
    rw [Int.mul_comm (nrm a b) p.b, Int.mul_comm (p.b * nrm a b)]
theorem back_setting_i (k : Nat) (a b : Int) : callD tb gv (k + 1) "back_setting" [tp [a, b]] = Zd.ret (tp (if b = 0 then [a, b] else [-a, b])) := to_ret fun st => by
  rw [callD_is (show tb "back_setting" = some d_back_setting by kernel_rfl)]
  have l2 : decide (2 ≤ line) = true := by decide
  by_cases h : b = 0
  · simp [d_back_setting, b_back_setting, isOwn, g2_0, g2_1, h]
  · simp [d_back_setting, b_back_setting, isOwn, g2_0, g2_1, h, l2, ip]
theorem spun_flip (a : Int) : spunR 0 0 0 (-a) = spunR 0 0 0 a := by unfold spunR; grind
theorem mag_back (k : Nat) {a b : Int} {n : Nat} (hn : n ≤ 4000) (ha : Bd n a) (hb : Bd n b) (h : nrm a b ≠ 0) : callD tb gv (k + 6) "magnet_table" [tp (if b = 0 then [a, b] else [-a, b])] = Zd.ret (.d (tabT (spunR b 0 0 (-a)) (nrm a b))) := by
  by_cases z : b = 0
  · rw [if_pos z, mag_T k hn ha hb h]
    subst z
    rw [spun_flip]
  · rw [if_neg z, mag_T k hn ha.neg hb (by rw [nrm_neg]; exact h), nrm_neg]
theorem bare_head (p : Bare) : ∃ w : Str, subW (.d p.D) (.d (.int 0)) = Zd.ret (.d (.str w)) ∧ PyData.strOk w = true ∧ (w == ("set" : Str)) = false := by
  cases p
  · exact ⟨"polariser", sub_tup rfl, o_polariser, w_polariser_set⟩
  · exact ⟨"partial", sub_tup rfl, o_partial, w_partial_set⟩
  · exact ⟨"turner", sub_tup rfl, o_turner, w_turner_set⟩
  · exact ⟨"magnet", sub_tup rfl, o_magnet, w_magnet_set⟩
  · exact ⟨"grey", sub_tup rfl, o_grey, w_grey_set⟩
  · exact ⟨"dull", sub_tup rfl, o_dull, w_dull_set⟩
  · exact ⟨"glass", sub_tup rfl, o_glass, w_glass_set⟩
theorem ne_s {a b : Str} (h : PyData.strOk a = true) (h' : PyData.strOk b = true) : cmpB .NotEq (.d (.str a)) (.d (.str b)) = Zd.ret (!(a == b)) := by
  show bd (cmpB .Eq (.d (.str a)) (.d (.str b))) (fun k => Zd.ret (!k)) = _
  rw [eq_s h h']
  rfl
theorem tb_table_with : tb "table_with" = some d_table_with := by kernel_rfl
theorem table_with (k : Nat) {n m : Nat} (hn : 4 * n + m + 20 ≤ 9000) : ∀ {p : Plate}, p.small n m → callD tb gv (k + 8) "table_with" [.d p.D] = Zd.ret (.d p.T)
  | .bare p, h => to_ret fun st => by
    rw [callD_is tb_table_with]
    obtain ⟨w, e, ok, ne⟩ := bare_head p
    have e1 : (Plate.bare p).D = p.D := rfl
    simp [d_table_with, b_table_with, isOwn, e1, e, ne_s ok o_set, ne, single_bare k p h.2.2.2]
    rfl
  | .set a b p, ⟨ha, hb, n0, h1, h2, h3, h4⟩ => to_ret fun st => by
    rw [callD_is tb_table_with]
    have z : Bd n 0 := Bd.zero
    have s1 := spun_bd hb z z ha
    have s2 := spun_bd hb z z ha.neg
    have nb := nrm_bd ha hb
    have c1 := mag_back (k + 1) (by omega : n ≤ 4000) ha hb n0
    have c2 := single_bare k p h4
    have c3 := prod_T (k + 2) p.okRR (spunR_ok b 0 0 (-a)) h1 s2 h2 nb h3 n0 (by omega)
    have c4 := mag_T (k + 1) (by omega : n ≤ 4000) ha hb n0
    have i1 := prodL_bd2 p.okRR (spunR_ok b 0 0 (-a)) h1 s2
    have c5 := prod_T (k + 2) (spunR_ok b 0 0 a) (prodL_ok (O := spunR b 0 0 (-a)) p.okRR) s1 i1 nb ((h2.mul nb).mono (by omega)) n0 (Int.mul_ne_zero h3 n0) (by omega)
    simp [d_table_with, b_table_with, isOwn, set_head, set_one, set_two, ne_s o_set o_set, w_set_set, back_setting_i, c1, c2, c3, c4, c5]
    rfl
end K76
end
section
set_option Elab.async false
set_option linter.all false
set_option maxRecDepth 100000
set_option maxHeartbeats 1000000
/-! K76M23: stacks. -/
namespace K76
open PySem Zd
theorem loop_ind {β : Type} {g : β → PyData} {F : PyData → Nv → M Fl} {st : Store} {P : List β → Nv → Prop} (h : ∀ x xs e, P (x :: xs) e → ∃ e', F (g x) e st = .ok (.nx e') st ∧ P xs e') : ∀ xs e, P xs e → ∃ e', loopL F (xs.map g) e st = .ok (.nx e') st ∧ P [] e'
  | [], e, p => ⟨e, rfl, p⟩
  | x :: xs, e, p => by
    obtain ⟨e1, h1, p1⟩ := h x xs e p
    obtain ⟨e2, h2, p2⟩ := loop_ind h xs e1 p1
    refine ⟨e2, ?_, p2⟩
    show bd (F (g x) e) _ st = _
    rw [bd_at h1]
    exact h2
def accR (ps : List Plate) (R : List (List Int)) : List (List Int) := ps.foldl (fun R p => prodL p.R R) R
def accB (ps : List Plate) (b : Int) : Int := ps.foldl (fun b p => b * p.b) b
/-- from so many bits, through these plates, to so many -/
inductive Fits (m : Nat) : Nat → List Plate → Nat → Prop
  | nil {N : Nat} : Fits m N [] N
  | cons {N n N' : Nat} {p : Plate} {ps : List Plate} : p.small n m → N + bitsP n m + 4 ≤ 9000 → Fits m (N + bitsP n m + 4) ps N' → Fits m N (p :: ps) N'
structure Fine (N : Nat) (R : List (List Int)) (b : Int) : Prop where
  ok : okR R
  bR : bdR N R
  bb : Bd N b
  ne : b ≠ 0
theorem Fine.step {N n m : Nat} {R : List (List Int)} {b : Int} {p : Plate} (f : Fine N R b) (h : p.small n m) : Fine (N + bitsP n m + 4) (prodL p.R R) (b * p.b) where
  ok := prodL_ok p.okRR
  bR := fun r hr i hi => (prodL_bd2 p.okRR f.ok (Plate.bds h).1 f.bR r hr i hi).mono (by omega)
  bb := (f.bb.mul (Plate.bds h).2.1).mono (by omega)
  ne := Int.mul_ne_zero f.ne (Plate.bds h).2.2
theorem Fine.all {m : Nat} {ps : List Plate} {N N' : Nat} (ft : Fits m N ps N') : ∀ {R : List (List Int)} {b : Int}, Fine N R b → Fine N' (accR ps R) (accB ps b) := by
  induction ft with
  | nil => exact fun h => h
  | cons hp _ _ ih => exact fun h => ih (h.step hp)
def unitR : List (List Int) := [[1, 0, 0, 0], [0, 1, 0, 0], [0, 0, 1, 0], [0, 0, 0, 1]]
theorem unit_fine : Fine 1 unitR 1 := ⟨⟨rfl, by simp [unitR]⟩, by
  unfold bdR unitR
  simp [Bd.one, Bd.zero], Bd.one, by decide⟩
theorem unit_T : tabT unitR 1 = tabR unitR 1 := by
  unfold tabT
  rw [tabD_is]
  have e : overL unitR.flatten 1 = unitR.flatten ++ [1] := by decide +kernel
  rw [e]
  rfl
theorem tb__law_unit : tb "_law_unit" = some d__law_unit := by kernel_rfl
theorem law_unit (k : Nat) : callD tb gv (k + 1) "_law_unit" [] = Zd.ret (.d (tabT unitR 1)) := to_ret fun st => by
  rw [callD_is tb__law_unit, unit_T]
  have l4 : decide (4 ≤ line) = true := by decide
  have l2 : decide (2 ≤ line) = true := by decide
  simp [d__law_unit, b__law_unit, isOwn, l4, l2]
  rfl
theorem law_step (k : Nat) {N n m : Nat} {R : List (List Int)} {b : Int} {p : Plate} (f : Fine N R b) (h : p.small n m) (hn : N + bitsP n m + 4 ≤ 9000) : callD tb gv (k + 3) "_law_then" [.d (tabT R b), .d p.T] = Zd.ret (.d (tabT (prodL p.R R) (b * p.b))) :=
  then_T k p.okRR f.ok (Plate.bds h).1 f.bR (Plate.bds h).2.1 f.bb (Plate.bds h).2.2 f.ne (by omega)
theorem prog_step (k : Nat) {N n m : Nat} {R : List (List Int)} {b : Int} {p : Plate} (f : Fine N R b) (h : p.small n m) (hn : N + bitsP n m + 4 ≤ 9000) : callD tb gv (k + 5) "product_of_tables" [.d p.T, .d (tabT R b)] = Zd.ret (.d (tabT (prodL p.R R) (b * p.b))) := by
  rw [Int.mul_comm b]
  exact prod_T k p.okRR f.ok (Plate.bds h).1 f.bR (Plate.bds h).2.1 f.bb (Plate.bds h).2.2 f.ne (by omega)
theorem tb__law_of_stack : tb "_law_of_stack" = some d__law_of_stack := by kernel_rfl
theorem law_of_stack (k : Nat) {m : Nat} {ps : List Plate} {N' : Nat} (ft : Fits m 1 ps N') (q : PyData) (hq : q = .list (ps.map Plate.D) ∨ q = .tuple (ps.map Plate.D)) : callD tb gv (k + 6) "_law_of_stack" [.d q] = Zd.ret (.d (tabT (accR ps unitR) (accB ps 1))) := to_ret fun st => by
  rw [callD_is tb__law_of_stack]
  have it : itemsM (.d q) = Zd.ret (ps.map Plate.D) := by rcases hq with rfl | rfl <;> rfl
  simp [d__law_of_stack, b__law_of_stack, isOwn, law_unit, it]
  have lp := loop_ind (g := Plate.D) (st := st) (F := fun x e => bd (asgT (T.nm 2) (W.d x) e) fun e1 => exPs (callD tb gv (k + 5)) gv [S.asg (T.nm 1) (E.call "_law_then" [(.var 1), (.call "_law_of_plate" [(.var 2)])])] e1)
    (P := fun xs e => ∃ R b N o, e = [some (.d q), some (.d (tabT R b)), o] ∧ Fine N R b ∧ Fits m N xs N' ∧ accR xs R = accR ps unitR ∧ accB xs b = accB ps 1) (fun p xs e h => by
      obtain ⟨R, b, N, o, rfl, f, ft, e1, e2⟩ := h
      cases ft with
      | cons hp hb ft =>
        refine ⟨_, ?_, _, _, _, some (.d p.D), rfl, f.step hp, ft, e1, e2⟩
        have c1 := law_of_plate k (by unfold bitsP at hb; omega) hp
        have c2 := law_step (k + 2) f hp hb
        simp [c1, c2]) ps [some (.d q), some (.d (tabT unitR 1)), none] ⟨unitR, 1, 1, none, rfl, unit_fine, ft, rfl, rfl⟩
  obtain ⟨e', h1, R, b, N, o, rfl, _, _, e1, e2⟩ := lp
  simp at h1
  rw [bd_at h1]
  have e3 : R = accR ps unitR := e1
  have e4 : b = accB ps 1 := e2
  simp [e3, e4]
theorem unit_rows : gv "UNIT_ROWS" = some (rowsD unitR) := by kernel_rfl
theorem tb_table_along : tb "table_along" = some d_table_along := by kernel_rfl
theorem table_along (k : Nat) {m : Nat} {ps : List Plate} {N' : Nat} (ft : Fits m 1 ps N') : callD tb gv (k + 9) "table_along" [.d (.tuple (ps.map Plate.D))] = Zd.ret (.d (tabT (accR ps unitR) (accB ps 1))) := to_ret fun st => by
  rw [callD_is tb_table_along]
  have l2 : decide (2 ≤ line) = true := by decide
  have u : PyData.tuple [rowsD unitR, .int 1] = tabT unitR 1 := unit_T.symm
  simp [d_table_along, b_table_along, isOwn, unit_rows, globM, l2, u]
  have lp := loop_ind (g := Plate.D) (st := st) (F := fun x e => bd (asgT (T.nm 2) (W.d x) e) fun e1 => exPs (callD tb gv (k + 8)) gv [S.asg (T.nm 1) (E.call "product_of_tables" [(.call "table_with" [(.var 2)]), (.var 1)])] e1)
    (P := fun xs e => ∃ R b N o, e = [some (.d (.tuple (ps.map Plate.D))), some (.d (tabT R b)), o] ∧ Fine N R b ∧ Fits m N xs N' ∧ accR xs R = accR ps unitR ∧ accB xs b = accB ps 1) (fun p xs e h => by
      obtain ⟨R, b, N, o, rfl, f, ft, e1, e2⟩ := h
      cases ft with
      | cons hp hb ft =>
        refine ⟨_, ?_, _, _, _, some (.d p.D), rfl, f.step hp, ft, e1, e2⟩
        have c1 := table_with k (by unfold bitsP at hb; omega) hp
        have c2 := prog_step (k + 3) f hp hb
        simp [c1, c2]) ps [some (.d (.tuple (ps.map Plate.D))), some (.d (tabT unitR 1)), none] ⟨unitR, 1, 1, none, rfl, unit_fine, ft, rfl, rfl⟩
  obtain ⟨e', h1, R, b, N, o, rfl, _, _, e1, e2⟩ := lp
  simp at h1
  rw [bd_at h1]
  have e3 : R = accR ps unitR := e1
  have e4 : b = accB ps 1 := e2
  simp [e3, e4]
end K76
end
section
set_option Elab.async false
set_option linter.all false
set_option maxRecDepth 100000
set_option maxHeartbeats 1000000
/-! K76M24: drawn plates are plates. -/
namespace K76
open PySem Zd
def Bare.valid : Bare → Prop
  | .pol x y z w => kindV x y z w
  | .part x y z w f0 f1 g0 g1 => kindV x y z w ∧ shareV f0 f1 ∧ shareV g0 g1
  | .turn a b c d => turnV a b c d
  | .mag a b => setV a b
  | .grey t b => shareV t b
  | .dull t b => shareV t b
  | .glass => True
def Plate.valid : Plate → Prop
  | .bare p => p.valid
  | .set a b p => setV a b ∧ p.valid
theorem shares_is : gv "SHARES" = some (.tuple [.str "grey", .str "dull"]) := by kernel_rfl
theorem in_shares {w : Str} : cmpB .In (.d (.str w)) (.d (.tuple [.str "grey", .str "dull"])) = Zd.ret (("grey" : Str) == w || ("dull" : Str) == w) := by
  funext st
  show want (flatP (.str w) && [PyData.str "grey", .str "dull"].all flatP) (Zd.ret ([PyData.str "grey", .str "dull"].any fun y => PyData.eqv y (.str w))) st = _
  simp [flatP, PyData.eqv, List.any]
theorem s1 : (("grey" : Str) == ("polariser" : Str)) = false := by decide +kernel
theorem s2 : (("dull" : Str) == ("polariser" : Str)) = false := by decide +kernel
theorem s3 : (("grey" : Str) == ("turner" : Str)) = false := by decide +kernel
theorem s4 : (("dull" : Str) == ("turner" : Str)) = false := by decide +kernel
theorem s5 : (("grey" : Str) == ("magnet" : Str)) = false := by decide +kernel
theorem s6 : (("dull" : Str) == ("magnet" : Str)) = false := by decide +kernel
theorem s7 : (("grey" : Str) == ("grey" : Str)) = true := by decide +kernel
theorem s8 : (("dull" : Str) == ("dull" : Str)) = true := by decide +kernel
theorem tb_is_single : tb "is_single" = some d_is_single := by kernel_rfl
theorem is_single_i (k : Nat) (p : Bare) (h : p.valid) (ok : p.ok 100) : callD tb gv (k + 5) "is_single" [.d p.D] = Zd.ret (.d (.bool true)) := to_ret fun st => by
  rw [callD_is tb_is_single]
  cases p with
  | pol x y z w =>
    obtain ⟨hx, hy, hz, hw, w0⟩ := ok
    have c1 := is_kind_i (k + 1) x y z w 100 (by omega) hx hy hz hw h
    simp [d_is_single, b_is_single, isOwn, Bare.D, sub_t0, sub_t1, eq_s, o_polariser, o_partial, o_glass, w_polariser_glass, w_polariser_partial, w_polariser_polariser, shares_is, globM, in_shares, s1, s2, c1]
  | part x y z w f0 f1 g0 g1 =>
    obtain ⟨hx, hy, hz, hw, _⟩ := ok
    obtain ⟨v1, v2, v3⟩ := h
    have c1 := is_kind_i (k + 1) x y z w 100 (by omega) hx hy hz hw v1
    have c2 := is_share_i k f0 f1 v2
    have c3 := is_share_i k g0 g1 v3
    simp [d_is_single, b_is_single, isOwn, Bare.D, sub_t0, sub_t1, sub_t2, sub_t3, eq_s, o_polariser, o_partial, o_glass, w_partial_glass, w_partial_partial, c1, c2, c3]
  | turn a b c d =>
    have c1 := is_whole_turn_i (k + 1) a b c d h
    simp [d_is_single, b_is_single, isOwn, Bare.D, sub_t0, sub_t1, eq_s, o_polariser, o_partial, o_glass, o_turner, w_turner_glass, w_turner_partial, w_turner_polariser, w_turner_turner, shares_is, globM, in_shares, s3, s4, c1]
  | mag a b =>
    have c1 := is_setting_i (k + 1) a b h
    simp [d_is_single, b_is_single, isOwn, Bare.D, sub_t0, sub_t1, eq_s, o_polariser, o_partial, o_glass, o_turner, o_magnet, w_magnet_glass, w_magnet_partial, w_magnet_polariser, w_magnet_turner, w_magnet_magnet, shares_is, globM, in_shares, s5, s6, c1]
  | grey t b =>
    have c1 := is_share_i k t b h
    simp [d_is_single, b_is_single, isOwn, Bare.D, sub_t0, sub_t1, eq_s, o_polariser, o_partial, o_glass, o_grey, w_grey_glass, w_grey_partial, shares_is, globM, in_shares, s7, c1]
  | dull t b =>
    have c1 := is_share_i k t b h
    simp [d_is_single, b_is_single, isOwn, Bare.D, sub_t0, sub_t1, eq_s, o_polariser, o_partial, o_glass, o_dull, w_dull_glass, w_dull_partial, shares_is, globM, in_shares, s8, c1]
  | glass =>
    simp [d_is_single, b_is_single, isOwn, Bare.D, sub_t0, sub_t1, eq_s, o_polariser, o_partial, o_glass, w_glass_glass]
theorem tb_is_plate : tb "is_plate" = some d_is_plate := by kernel_rfl
theorem Bare.D_shape (p : Bare) : ∃ xs, p.D = .tuple xs ∧ xs.length ≠ 3 := by
  cases p <;> exact ⟨_, rfl, by simp⟩
theorem Plate.ok_of {n m : Nat} : ∀ {p : Plate}, p.small n m → (match p with | .bare p => p.ok 100 | .set _ _ p => p.ok 100)
  | .bare p, h => h.2.2.2
  | .set _ _ p, h => h.2.2.2.2.2.2
theorem is_plate_i (k : Nat) {n m : Nat} : ∀ (p : Plate), p.valid → p.small n m → callD tb gv (k + 6) "is_plate" [.d p.D] = Zd.ret (.d (.bool true))
  | .bare p, h, ok => to_ret fun st => by
    rw [callD_is tb_is_plate]
    obtain ⟨xs, e, ne⟩ := p.D_shape
    have e1 : (Plate.bare p).D = p.D := rfl
    have c1 := is_single_i k p h ok.2.2.2
    rw [e] at c1
    have ne' : ¬ (xs.length : Int) = 3 := by omega
    simp [d_is_plate, b_is_plate, isOwn, e1, e, c1, ne']
  | .set a b p, h, ok => to_ret fun st => by
    rw [callD_is tb_is_plate]
    have c1 := is_single_i k p h.2 ok.2.2.2.2.2.2
    have c2 := is_setting_i (k + 2) a b h.1
    have e1 : (Plate.set a b p).D = .tuple [.str "set", .tuple (ip [a, b]), p.D] := rfl
    simp [d_is_plate, b_is_plate, isOwn, e1, sub_t0, sub_t1, sub_t2, eq_s, o_set, w_set_set, c1, c2]
theorem most_plates : gv "MOST_PLATES" = some (.int 8) := by kernel_rfl
/-- a loop over enumerated items that changes nothing but its targets -/
theorem loop_enum {F : PyData → Nv → M Fl} {st : Store} {P : Nv → Prop} : ∀ (xs : List PyData) (n : Nat), (∀ i x e, x ∈ xs → n ≤ i → i < n + xs.length → P e → ∃ e', F (.tuple [.int (i : Nat), x]) e st = .ok (.nx e') st ∧ P e') → ∀ e, P e → ∃ e', loopL F ((xs.zipIdx n).map fun p => .tuple [.int (p.2 : Nat), p.1]) e st = .ok (.nx e') st ∧ P e'
  | [], n, _, e, p => ⟨e, rfl, p⟩
  | x :: xs, n, h, e, p => by
    obtain ⟨e1, h1, p1⟩ := h n x e List.mem_cons_self (Nat.le_refl _) (by simp) p
    obtain ⟨e2, h2, p2⟩ := loop_enum xs (n + 1) (fun i y e hy l1 l2 p => h i y e (List.mem_cons_of_mem _ hy) (by omega) (by simp only [List.length_cons]; omega) p) e1 p1
    refine ⟨e2, ?_, p2⟩
    show bd (F (.tuple [.int (n : Nat), x]) e) _ st = _
    rw [bd_at h1]
    exact h2
theorem tb_check_stack : tb "check_stack" = some d_check_stack := by kernel_rfl
theorem check_stack_i (k : Nat) {m : Nat} (ps : List Plate) (hl : ps.length ≤ 8) (h : ∀ p ∈ ps, p.valid ∧ ∃ n, p.small n m) : callD tb gv (k + 7) "check_stack" [.d (.tuple (ps.map Plate.D))] = Zd.ret (.d .none) := to_ret fun st => by
  rw [callD_is tb_check_stack]
  simp [d_check_stack, b_check_stack, isOwn]
  have lp := loop_enum (st := st) (F := fun x e => bd (asgT (T.tp [.nm 1, .nm 2]) (W.d x) e) fun e1 => exPs (callD tb gv (k + 6)) gv [S.ite (.or_ (.cmp .Eq (.var 1) (.glob "MOST_PLATES")) (.not_ (.call "is_plate" [(.var 2)]))) [.raise_ "" "" .no] []] e1)
    (P := fun e => ∃ o o', e = [some (.d (.tuple (ps.map Plate.D))), o, o']) (ps.map Plate.D) 0 (fun i x e hx l1 l2 h' => by
      obtain ⟨o, o', rfl⟩ := h'
      obtain ⟨p, hp, rfl⟩ := List.mem_map.mp hx
      obtain ⟨v, n, sm⟩ := h p hp
      have c := is_plate_i k p v sm
      have ne : ¬ (i : Int) = 8 := by
        rw [List.length_map] at l2
        omega
      refine ⟨_, ?_, some (.d (.int i)), some (.d p.D), rfl⟩
      simp [lenB, isSt, most_plates, globM, ne, c]) [some (.d (.tuple (ps.map Plate.D))), none, none] ⟨none, none, rfl⟩
  obtain ⟨e', h1, _⟩ := lp
  simp at h1
  have e1 : enumP (ps.map Plate.D) = ((ps.map Plate.D).zipIdx).map fun p => .tuple [.int (p.2 : Nat), p.1] := rfl
  rw [← e1] at h1
  rw [bd_at h1]
  simp
end K76
end
section
set_option Elab.async false
set_option linter.all false
set_option maxRecDepth 100000
set_option maxHeartbeats 1000000
/-! K76M25: settings added. -/
namespace K76
open PySem Zd
def nA (p q : Int) : Int := if 0 < q ∨ q = 0 ∧ 0 < p then p / (gcdL [p, q] : Int) else -(p / (gcdL [p, q] : Int))
def nB (p q : Int) : Int := if 0 < q ∨ q = 0 ∧ 0 < p then q / (gcdL [p, q] : Int) else -(q / (gcdL [p, q] : Int))
def sP (a b c d : Int) : Int := a * d + c * b
def sQ (a b c d : Int) : Int := b * d - a * c
theorem nrm_sum (a b c d : Int) : nrm (sP a b c d) (sQ a b c d) = nrm a b * nrm c d := by unfold nrm sP sQ; grind
theorem nrm_ne {p q : Int} (h : nrm p q ≠ 0) : p ≠ 0 ∨ q ≠ 0 := by
  by_cases hp : p = 0
  · refine .inr fun hq => h ?_
    rw [hp, hq]; rfl
  · exact .inl hp
theorem g2_ne {p q : Int} (h : p ≠ 0 ∨ q ≠ 0) : gcdL [p, q] ≠ 0 := by
  rcases h with h | h
  · exact gcdL_ne (i := p) (by simp) h
  · exact gcdL_ne (i := q) (by simp) h
theorem g2_log {n : Nat} {p q : Int} (hp : Bd n p) (hq : Bd n q) (h : p ≠ 0 ∨ q ≠ 0) (hn : n ≤ 9000) : (gcdL [p, q]).log2 < 9000 := by
  have g0 := g2_ne h
  have lt : gcdL [p, q] < 2 ^ n := by
    rcases h with h | h
    · exact gcdL_bd (i := p) (by simp) h hp
    · exact gcdL_bd (i := q) (by simp) h hq
  exact Nat.lt_of_lt_of_le ((Nat.log2_lt g0).mpr lt) hn
theorem d_p (p q : Int) : (gcdL [p, q] : Int) ∣ p := gcdL_dvd (by simp)
theorem d_q (p q : Int) : (gcdL [p, q] : Int) ∣ q := gcdL_dvd (by simp)
theorem fdiv_neg {p g : Int} (h : g ∣ p) : p.fdiv (-g) = -(p / g) := by rw [Int.fdiv_eq_ediv_of_dvd (Int.neg_dvd.mpr h), Int.ediv_neg]
theorem sP_bd {n m : Nat} {a b c d : Int} (ha : Bd n a) (hb : Bd n b) (hc : Bd m c) (hd : Bd m d) : Bd (n + m + 1) (sP a b c d) := ((ha.mul hd).add ((hc.mul hb).mono (show m + n ≤ n + m by omega))).mono (by omega)
theorem sQ_bd {n m : Nat} {a b c d : Int} (ha : Bd n a) (hb : Bd n b) (hc : Bd m c) (hd : Bd m d) : Bd (n + m + 1) (sQ a b c d) := ((hb.mul hd).sub (ha.mul hc)).mono (by omega)
theorem sub_0 (g : Int) : (0 : Int) - g = -g := by omega
theorem lowest2 (k : Nat) {p q : Int} {n : Nat} (hp : Bd n p) (hq : Bd n q) (h : p ≠ 0 ∨ q ≠ 0) (hn : n ≤ 9000) : callD tb gv (k + 2) "lowest" [.d (.tuple [.int p, .int q])] = Zd.ret (.d (.tuple [.int (p / (gcdL [p, q] : Int)), .int (q / (gcdL [p, q] : Int))])) := to_ret fun st =>
  lowest_is k [p, q] (.tuple (ip [p, q])) (.inl rfl) (by show 2 ≤ line; decide) (g2_ne h) (g2_log hp hq h hn) st
theorem quo_sign {p g : Int} (g0 : 0 < g) (d : g ∣ p) : (p / g < 0 ↔ p < 0) ∧ (p / g = 0 ↔ p = 0) := by
  obtain ⟨c, rfl⟩ := d
  rw [Int.mul_ediv_cancel_left _ (by omega)]
  constructor
  · constructor
    · intro h; exact Int.mul_neg_of_pos_of_neg g0 h
    · intro h
      rcases Int.lt_or_le c 0 with z | z
      · exact z
      · have := Int.mul_nonneg (Int.le_of_lt g0) z; omega
  · constructor
    · rintro rfl; simp
    · intro h; rcases Int.mul_eq_zero.mp h with z | z
      · omega
      · exact z
/-! what they are -/
theorem gcd2 (p q : Int) : gcdL [p, q] = Nat.gcd p.natAbs q.natAbs := by simp [gcdL]
theorem n_setV {p q : Int} (h : p ≠ 0 ∨ q ≠ 0) : setV (nA p q) (nB p q) := by
  have g0 := g2_ne h
  have e1 : (p / (gcdL [p, q] : Int)).natAbs = p.natAbs / gcdL [p, q] := by rw [Int.natAbs_ediv_of_dvd (d_p p q)]; simp
  have e2 : (q / (gcdL [p, q] : Int)).natAbs = q.natAbs / gcdL [p, q] := by rw [Int.natAbs_ediv_of_dvd (d_q p q)]; simp
  have cop : Nat.gcd (p.natAbs / gcdL [p, q]) (q.natAbs / gcdL [p, q]) = 1 := by
    rw [gcd2] at *
    exact Nat.coprime_div_gcd_div_gcd (by omega)
  obtain ⟨q1, q2⟩ := quo_sign (g := (gcdL [p, q] : Int)) (by omega) (d_q p q)
  obtain ⟨p1, p2⟩ := quo_sign (g := (gcdL [p, q] : Int)) (by omega) (d_p p q)
  have one : gcdL [nA p q, nB p q] = 1 := by
    rw [gcd2]
    unfold nA nB
    split <;> simp only [Int.natAbs_neg, e1, e2, cop]
  refine ⟨one, ?_⟩
  rw [gcd2] at one
  unfold nA nB at *
  split at one
  · rename_i hc
    rw [if_pos hc, if_pos hc]
    rcases hc with hc | ⟨hc, hp⟩
    · left
      have := (not_congr q1).mpr (by omega)
      have := (not_congr q2).mpr (by omega)
      omega
    · right
      have z := q2.mpr hc
      have pp := (not_congr p1).mpr (by omega)
      rw [z] at one
      simp at one
      exact ⟨by omega, z⟩
  · rename_i hc
    rw [if_neg hc, if_neg hc]
    by_cases hq : q = 0
    · right
      have z := q2.mpr hq
      have pn := p1.mpr (by omega)
      rw [z] at one
      simp at one
      exact ⟨by omega, by omega⟩
    · left
      have := q1.mpr (by omega)
      omega
theorem n_bd {n : Nat} {p q : Int} (hp : Bd n p) (hq : Bd n q) : Bd n (nA p q) ∧ Bd n (nB p q) := by
  have e : ∀ i : Int, Bd n i → Bd n (i / (gcdL [p, q] : Int)) := fun i h => by
    have := quo_bd (gcdL [p, q]) 1 (.inl rfl) h
    rwa [Int.one_mul] at this
  unfold nA nB
  split
  · exact ⟨e p hp, e q hq⟩
  · exact ⟨(e p hp).neg, (e q hq).neg⟩
theorem setV_ne {a b : Int} (h : setV a b) : a ≠ 0 ∨ b ≠ 0 := by
  by_cases ha : a = 0
  · by_cases hb : b = 0
    · exfalso
      have := h.1
      rw [ha, hb] at this
      revert this; decide
    · exact .inr hb
  · exact .inl ha
theorem setV_nrm {a b : Int} (h : setV a b) : nrm a b ≠ 0 := by
  have h1 : 0 ≤ a * a := by rcases Int.le_total 0 a with h | h; exact Int.mul_nonneg h h; exact Int.mul_nonneg_of_nonpos_of_nonpos h h
  have h2 : 0 ≤ b * b := by rcases Int.le_total 0 b with h | h; exact Int.mul_nonneg h h; exact Int.mul_nonneg_of_nonpos_of_nonpos h h
  intro z
  unfold nrm at z
  have z1 : a * a = 0 := by omega
  have z2 : b * b = 0 := by omega
  have a0 : a = 0 := by rcases Int.mul_eq_zero.mp z1 with z | z <;> exact z
  have b0 : b = 0 := by rcases Int.mul_eq_zero.mp z2 with z | z <;> exact z
  rcases setV_ne h with q | q
  · exact q a0
  · exact q b0
theorem n_same {a b : Int} (h : setV a b) : nA a b = a ∧ nB a b = b := by
  obtain ⟨h1, h2⟩ := h
  unfold nA nB
  rw [h1, if_pos (by omega), if_pos (by omega)]
  simp
theorem sum_ne {a b c d : Int} (h : setV a b) (h' : setV c d) : sP a b c d ≠ 0 ∨ sQ a b c d ≠ 0 := by
  apply nrm_ne
  rw [nrm_sum]
  exact Int.mul_ne_zero (setV_nrm h) (setV_nrm h')
end K76
end
section
set_option Elab.async false
set_option linter.all false
set_option maxRecDepth 100000
set_option maxHeartbeats 1000000
/-! K76M26: fans. -/
namespace K76
open PySem Zd
/-! a turn by nothing -/
/-! the law's list, and the program's -/
end K76
end
section
set_option Elab.async false
set_option linter.all false
set_option maxRecDepth 100000
set_option maxHeartbeats 1000000
/-! K76M27: the fan, the law's and the program's. -/
namespace K76
open PySem Zd
theorem loop_range {F : PyData → Nv → M Fl} {st : Store} {P : Nat → Nv → Prop} (lo : Int) (n : Nat) (h : ∀ j e, j < n → P j e → ∃ e', F (.int (lo + (j : Nat))) e st = .ok (.nx e') st ∧ P (j + 1) e') (e : Nv) (p : P 0 e) : ∃ e', loopL F (rangeP lo n) e st = .ok (.nx e') st ∧ P n e' := by
  have k : ∀ m j, j + m = n → ∀ e, P j e → ∃ e', loopL F ((List.range' j m).map fun i => .int (lo + (i : Nat))) e st = .ok (.nx e') st ∧ P n e' := by
    intro m
    induction m with
    | zero => intro j hj e p; exact ⟨e, rfl, by rw [← hj]; exact p⟩
    | succ m ih =>
      intro j hj e p
      obtain ⟨e1, h1, p1⟩ := h j e (by omega) p
      obtain ⟨e2, h2, p2⟩ := ih (j + 1) (by omega) e1 p1
      refine ⟨e2, ?_, p2⟩
      rw [List.range'_succ, List.map_cons]
      show bd (F (.int (lo + (j : Nat))) e) _ st = _
      rw [bd_at h1]
      exact h2
  obtain ⟨e', h1, h2⟩ := k n 0 (by omega) e p
  refine ⟨e', ?_, h2⟩
  unfold rangeP
  rw [List.range_eq_range']
  exact h1
theorem ne_01 (x y : Int) : cmpB .NotEq (tp [x, y]) (.d (.tuple [.int 0, .int 1])) = Zd.ret (!decide (x = 0 ∧ y = 1)) := by
  rw [ne_p (shaped2 x y) (by exact shaped2 0 1)]
  congr 1
  have e : PyData.eqv (.tuple (ip [x, y])) (.tuple [.int 0, .int 1]) = (x == 0 && y == 1) := by simp [ip, PyData.eqv, PyData.eqvAll]
  rw [e]
  by_cases h1 : x = 0 <;> by_cases h2 : y = 1 <;> simp [h1, h2]
theorem plate_head {n m : Nat} : ∀ (p : Plate), ∃ w : Str, subW (.d p.D) (.d (.int 0)) = Zd.ret (.d (.str w)) ∧ PyData.strOk w = true ∧ ((∃ a b q, p = .set a b q ∧ (w == ("set" : Str)) = true) ∨ (∃ q, p = .bare q ∧ (w == ("set" : Str)) = false))
  | .bare p => by
    obtain ⟨w, e, ok, ne⟩ := bare_head p
    exact ⟨w, e, ok, .inr ⟨p, rfl, ne⟩⟩
  | .set a b p => ⟨"set", set_head a b p, o_set, .inl ⟨a, b, p, rfl, w_set_set⟩⟩
theorem rng_n (n : Nat) (hn : n ≤ 1000) : rngM [.d (.int n)] = Zd.ret (rangeP 0 n) := by
  show want (b62 n) (Zd.ret (rangeP 0 (n : Int).toNat)) = _
  have : b62 n = true := by unfold b62; simp; omega
  rw [this]
  rfl
theorem want_1 (w : W) : wantN 1 [w] = Zd.ret [w] := rfl
theorem line_lt {a : Nat} (h : a < 16777216) : decide (a < line) = true := decide_eq_true h
end K76
end
section
set_option Elab.async false
set_option linter.all false
set_option maxRecDepth 100000
set_option maxHeartbeats 1000000
/-! K76M28: the program's fan. -/
namespace K76
open PySem Zd
end K76
end
section
set_option Elab.async false
set_option linter.all false
set_option maxRecDepth 100000
set_option maxHeartbeats 1000000
/-! K76M29: rows of kinds. -/
namespace K76
open PySem Zd
structure Kd where
  x : Int
  y : Int
  z : Int
  w : Int
def Kd.D (k : Kd) : PyData := .tuple (ip [k.x, k.y, k.z, k.w])
def Kd.V (k : Kd) : Prop := kindV k.x k.y k.z k.w
def Kd.B (n : Nat) (k : Kd) : Prop := Bd n k.x ∧ Bd n k.y ∧ Bd n k.z ∧ Bd n k.w
def kdot (k o : Kd) : Int := k.x * o.x + k.y * o.y + k.z * o.z
def kk (k o : Kd) : Int := k.w * o.w + kdot k o
theorem kw_pos {k : Kd} (h : k.V) : 0 < k.w := h.2.1
theorem kdot_bd {n : Nat} {k o : Kd} (h : k.B n) (h' : o.B n) : Bd (n + n + 2) (kdot k o) := (((h.1.mul h'.1).add (h.2.1.mul h'.2.1)).add (h.2.2.1.mul h'.2.2.1)).mono (by omega)
theorem kk_bd {n : Nat} {k o : Kd} (h : k.B n) (h' : o.B n) : Bd (n + n + 3) (kk k o) := ((h.2.2.2.mul h'.2.2.2).add (kdot_bd h h')).mono (by omega)
theorem d4_0 (k : Kd) : subW (.d k.D) (.d (.int 0)) = Zd.ret (.d (.int k.x)) := sub_tup rfl
theorem d4_1 (k : Kd) : subW (.d k.D) (.d (.int 1)) = Zd.ret (.d (.int k.y)) := sub_tup rfl
theorem d4_2 (k : Kd) : subW (.d k.D) (.d (.int 2)) = Zd.ret (.d (.int k.z)) := sub_tup rfl
theorem d4_3 (k : Kd) : subW (.d k.D) (.d (.int 3)) = Zd.ret (.d (.int k.w)) := sub_tup rfl
theorem d4_s (k : Kd) : sliceV (.d k.D) none (some 3) = Zd.ret (.d (.tuple (ip [k.x, k.y, k.z]))) := slice_t
theorem is_kind_d (k : Nat) (o : Kd) (hb : o.B 100) (h : o.V) : callD tb gv (k + 3) "is_kind" [.d o.D] = Zd.ret (.d (.bool true)) := is_kind_i k o.x o.y o.z o.w 100 (by omega) hb.1 hb.2.1 hb.2.2.1 hb.2.2.2 h
/-! the program's row -/
abbrev KP : Type := Kd × Kd
def pairsK (ks : List Kd) : List KP := ks.zip (ks.drop 1)
def rowTop (l : List KP) (t : Int) : Int := l.foldl (fun t p => t * kk p.1 p.2) t
def rowBel (l : List KP) (b : Int) : Int := l.foldl (fun b p => b * 2 * (p.1.w * p.2.w)) b
def pD (p : KP) : PyData := .tuple [p.1.D, p.2.D]
theorem zip_take {α β : Type} : ∀ (l : List α) (m : List β), m.length + 1 ≤ l.length + 1 → (l.take m.length).zip m = l.zip m
  | [], [], _ => rfl
  | _ :: _, [], _ => by simp
  | [], _ :: _, h => by simp at h
  | a :: l, b :: m, h => by
    simp only [List.length_cons, List.take_succ_cons, List.zip_cons_cons]
    rw [zip_take l m (by simp only [List.length_cons] at h; omega)]
theorem zip_kinds (ks : List Kd) (h : ks ≠ []) : zipM (.d (.tuple (cutP (ks.map Kd.D) none (some (-1))))) (.d (.tuple (cutP (ks.map Kd.D) (some 1) none))) zipP = Zd.ret ((pairsK ks).map pD) := by
  show Zd.ret (zipP _ _) = _
  congr 1
  have n1 : 1 ≤ ks.length := by
    cases ks with
    | nil => exact absurd rfl h
    | cons a l => simp
  have len : (ks.map Kd.D).length = ks.length := List.length_map _
  have a1 : cutP (ks.map Kd.D) none (some (-1)) = (ks.map Kd.D).take (ks.length - 1) := by
    unfold cutP
    have e2 : HT.sIx (ks.map Kd.D).length (ks.map Kd.D).length (some (-1)) = ks.length - 1 := by
      rw [len]
      show (if (-1 : Int) < 0 then ((-1 : Int) + (ks.length : Int)).toNat else min (-1 : Int).toNat ks.length) = _
      rw [if_pos (by decide)]
      omega
    rw [e2]
    rfl
  have a2 : cutP (ks.map Kd.D) (some 1) none = (ks.map Kd.D).drop 1 := by
    unfold cutP
    have e2 : HT.sIx (ks.map Kd.D).length 0 (some 1) = 1 := by
      rw [len]
      show (if (1 : Int) < 0 then ((1 : Int) + (ks.length : Int)).toNat else min (1 : Int).toNat ks.length) = _
      rw [if_neg (by decide)]
      show min 1 ks.length = 1
      omega
    rw [e2]
    show ((ks.map Kd.D).drop 1).take ((ks.map Kd.D).length - 1) = _
    rw [List.take_of_length_le (by simp)]
  rw [a1, a2]
  unfold zipP pairsK
  have l1 : ((ks.map Kd.D).drop 1).length = ks.length - 1 := by simp
  rw [← l1, zip_take _ _ (by simp), ← List.map_drop, List.zip_map, List.map_map]
  rfl
theorem top_ne : ∀ (l : List KP) (b : Int), b ≠ 0 → (∀ p ∈ l, 0 < p.1.w ∧ 0 < p.2.w) → rowBel l b ≠ 0
  | [], b, h, _ => h
  | p :: l, b, h, hp => by
    obtain ⟨h1, h2⟩ := hp p (by simp)
    exact top_ne l _ (Int.mul_ne_zero (Int.mul_ne_zero h (by decide)) (Int.mul_ne_zero (by omega) (by omega))) fun q hq => hp q (List.mem_cons_of_mem _ hq)
def rowBody : List S := [.asg (.nm 5) (.bin .Mult (.sub (.var 3) (.cst (.int 3))) (.sub (.var 4) (.cst (.int 3)))), .par [1, 2] [(.bin .Mult (.var 1) (.bin .Add (.var 5) (.call "dot" [(.slice (.var 3) .no (.cst (.int 3))), (.slice (.var 4) .no (.cst (.int 3)))]))), (.bin .Mult (.bin .Mult (.var 2) (.cst (.int 2))) (.var 5))]]
def rowE (ks : List Kd) (t b : Int) (o3 o4 o5 : Option W) : Nv := [some (.d (.tuple (ks.map Kd.D))), some (.d (.int t)), some (.d (.int b)), o3, o4, o5]
theorem dot_kd (k : Nat) {a b : Kd} {n : Nat} (hn : n ≤ 1000) (ha : a.B n) (hb : b.B n) : callD tb gv (k + 1) "dot" [.d (.tuple (ip [a.x, a.y, a.z])), .d (.tuple (ip [b.x, b.y, b.z]))] = Zd.ret (.d (.int (kdot a b))) := to_ret fun st => by
  rw [dot_is k [a.x, a.y, a.z] [b.x, b.y, b.z] n (by omega) (by simp [ha.1, ha.2.1, ha.2.2.1]) (by simp [hb.1, hb.2.1, hb.2.2.1]) (by show 3 ≤ line; decide) st]
  have e : dotL [a.x, a.y, a.z] [b.x, b.y, b.z] = kdot a b := by
    unfold dotL kdot
    simp
    omega
  rw [e]
theorem row_step (k : Nat) {ks : List Kd} {p : KP} {t b : Int} {n N : Nat} (hn : n ≤ 1000) (hN : N ≤ 1000) (ht : Bd N t) (hb : Bd N b) (h1 : p.1.B n) (h2 : p.2.B n) (o3 o4 o5 : Option W) :
    (bd (asgT (T.tp [.nm 3, .nm 4]) (W.d (pD p)) (rowE ks t b o3 o4 o5)) fun e1 => exPs (callD tb gv (k + 1)) gv rowBody e1) = Zd.ret (.nx (rowE ks (t * kk p.1 p.2) (b * 2 * (p.1.w * p.2.w)) (some (.d p.1.D)) (some (.d p.2.D)) (some (.d (.int (p.1.w * p.2.w)))))) := by
  have m1 : mulOk p.1.w p.2.w = true := mulOk_of h1.2.2.2 h2.2.2.2 (by omega)
  have m2 : mulOk t (p.1.w * p.2.w + kdot p.1 p.2) = true := mulOk_of ht (kk_bd h1 h2) (by omega)
  have m3 : mulOk b 2 = true := mulOk_of hb Bd.lit2 (by omega)
  have m4 : mulOk (b * 2) (p.1.w * p.2.w) = true := mulOk_of (hb.mul Bd.lit2) (h1.2.2.2.mul h2.2.2.2) (by omega)
  have c := dot_kd k hn h1 h2
  unfold rowBody pD rowE
  simp [lenB, isSt, d4_3, d4_s, m1, m2, m3, m4, c, parE, want]
  rfl
theorem row_loop (k : Nat) {ks : List Kd} {n : Nat} (hn : n ≤ 20) (st : Store) : ∀ (l : List KP), (∀ p ∈ l, p.1.B n ∧ p.2.B n) → ∀ (N : Nat) (t b : Int), N + l.length * (2 * n + 4) ≤ 1000 → Bd N t → Bd N b → ∀ o3 o4 o5 : Option W,
    ∃ o3' o4' o5', loopL (fun x e => bd (asgT (T.tp [.nm 3, .nm 4]) (W.d x) e) fun e1 => exPs (callD tb gv (k + 1)) gv rowBody e1) (l.map pD) (rowE ks t b o3 o4 o5) st = .ok (.nx (rowE ks (rowTop l t) (rowBel l b) o3' o4' o5')) st ∧ Bd (N + l.length * (2 * n + 4)) (rowTop l t) ∧ Bd (N + l.length * (2 * n + 4)) (rowBel l b)
  | [], _, N, t, b, _, ht, hb, o3, o4, o5 => ⟨o3, o4, o5, rfl, ht.mono (by omega), hb.mono (by omega)⟩
  | p :: l, h, N, t, b, hN, ht, hb, o3, o4, o5 => by
    obtain ⟨h1, h2⟩ := h p (by simp)
    have e : (p :: l).length * (2 * n + 4) = l.length * (2 * n + 4) + (2 * n + 4) := by rw [List.length_cons, Nat.succ_mul]
    rw [e] at hN ⊢
    have t' : Bd (N + (2 * n + 4)) (t * kk p.1 p.2) := (ht.mul (kk_bd h1 h2)).mono (by omega)
    have b' : Bd (N + (2 * n + 4)) (b * 2 * (p.1.w * p.2.w)) := ((hb.mul Bd.lit2).mul (h1.2.2.2.mul h2.2.2.2)).mono (by omega)
    obtain ⟨q3, q4, q5, r, r1, r2⟩ := row_loop k hn st l (fun q hq => h q (List.mem_cons_of_mem _ hq)) (N + (2 * n + 4)) _ _ (by omega) t' b' (some (.d p.1.D)) (some (.d p.2.D)) (some (.d (.int (p.1.w * p.2.w))))
    refine ⟨q3, q4, q5, ?_, r1.mono (by omega), r2.mono (by omega)⟩
    show bd (bd (asgT (T.tp [.nm 3, .nm 4]) (W.d (pD p)) (rowE ks t b o3 o4 o5)) fun e1 => exPs (callD tb gv (k + 1)) gv rowBody e1) _ st = _
    rw [row_step k (by omega) (by omega) ht hb h1 h2, bd_ret]
    exact r
/-- what a row lets through -/
def shareL (ks : List Kd) : List Int := match ks with
  | [] => [1, 1]
  | ks => overL [rowTop (pairsK ks) 1] (rowBel (pairsK ks) 2)
theorem pairs_mem {ks : List Kd} {p : KP} (h : p ∈ pairsK ks) : p.1 ∈ ks ∧ p.2 ∈ ks := by
  obtain ⟨h1, h2⟩ := List.of_mem_zip (show (p.1, p.2) ∈ ks.zip (ks.drop 1) from h)
  exact ⟨h1, List.mem_of_mem_drop h2⟩
theorem pairs_len (ks : List Kd) : (pairsK ks).length = ks.length - 1 := by
  unfold pairsK
  rw [List.length_zip, List.length_drop]
  omega
end K76
end
section
set_option Elab.async false
set_option linter.all false
set_option maxRecDepth 100000
set_option maxHeartbeats 1000000
/-! K76M30: the law's row: its due, and what an own table says. -/
namespace K76
open PySem Zd
theorem frac_len (t b : Int) : ∃ p q, overL [t] b = [p, q] := by
  have h := overL_length [t] b
  match overL [t] b, h with
  | [p, q], _ => exact ⟨p, q, rfl⟩
theorem frac_back {t b p q : Int} (b0 : b ≠ 0) (e : overL [t] b = [p, q]) : ∃ g : Int, g ≠ 0 ∧ g * p = t ∧ g * q = b := by
  obtain ⟨g, g0, h⟩ := overL_back [t] b b0
  rw [e] at h
  simp at h
  exact ⟨g, g0, h.1, h.2⟩
theorem frac_bd {t b p q : Int} {n : Nat} (ht : Bd n t) (hb : Bd n b) (e : overL [t] b = [p, q]) : Bd n p ∧ Bd n q := by
  have h := overL_bd (l := [t]) (b := b) (n := n) (by simpa using ht) hb
  rw [e] at h
  exact ⟨h p (by simp), h q (by simp)⟩
theorem frac_q0 {t b p q : Int} (b0 : b ≠ 0) (e : overL [t] b = [p, q]) : q ≠ 0 := fun z => by
  obtain ⟨g, _, _, h⟩ := frac_back b0 e
  rw [z, Int.mul_zero] at h
  exact b0 h.symm
theorem times_red {t b u v p q r s : Int} (b0 : b ≠ 0) (v0 : v ≠ 0) (e : overL [t] b = [p, q]) (f : overL [u] v = [r, s]) : overL [p * r] (q * s) = overL [t * u] (b * v) := by
  obtain ⟨g, g0, h1, h2⟩ := frac_back b0 e
  obtain ⟨g', g0', h3, h4⟩ := frac_back v0 f
  have q0 := frac_q0 b0 e
  have s0 := frac_q0 v0 f
  have := overL_scale (g * g') (q * s) [p * r] (Int.mul_ne_zero g0 g0') (Int.mul_ne_zero q0 s0)
  rw [← this]
  rw [← h1, ← h2, ← h3, ← h4]
  congr 1
  · simp only [List.map_cons, List.map_nil]; congr 1; grind
  · grind
theorem law_ratio_t (k : Nat) {a b : Int} {n : Nat} (hn : n ≤ 9000) (hb : Bd n b) (b0 : b ≠ 0) : callD tb gv (k + 2) "_law_ratio" [.d (.int a), .d (.int b)] = Zd.ret (tp (overL [a] b)) := to_ret fun st => law_ratio_is k a b n hn hb b0 st
/-! an own table -/
def colR (R : List (List Int)) : List Int := R.map fun r => dotL r [1, 0, 0, 0]
theorem behind_red {R : List (List Int)} {b c : Int} (v : List Int) (hR : okR R) (b0 : b ≠ 0) (c0 : c ≠ 0) : overL ((rowsOf (overL R.flatten b)).map fun r => dotL r v) ((overL R.flatten b).getD 16 0 * c) = overL (R.map fun r => dotL r v) (b * c) := by
  obtain ⟨g, g0, e1, e2, _⟩ := tab_back hR b0
  generalize (overL R.flatten b).getD 16 0 = bb at e2
  generalize rowsOf (overL R.flatten b) = RR at e1
  have bb0 : bb ≠ 0 := fun z => b0 (by rw [← e2, z, Int.mul_zero])
  rw [← overL_scale g (bb * c) _ g0 (Int.mul_ne_zero bb0 c0), ← e1, ← e2]
  congr 1
  · unfold scR
    rw [List.map_map, List.map_map]
    refine List.map_congr_left fun r _ => ?_
    have h := dotL_sc g 1 r v
    have e : (v.map fun i => 1 * i) = v := by simp
    rw [e, Int.mul_one] at h
    exact h.symm
  · rw [Int.mul_assoc]
theorem two_red {l : List Int} {b : Int} (b0 : b ≠ 0) (hl : l.length = 4) : overL [(overL l b).getD 0 0] ((overL l b).getD 4 0) = overL [l.getD 0 0] b := by
  obtain ⟨g, g0, h⟩ := overL_back l b b0
  have len := overL_length l b
  generalize overL l b = m at h len
  match l, hl, m, (by rw [len, hl] : m.length = 5) with
  | [a, x, y, z], _, [p, q, r, s, t], _ =>
    simp at h
    obtain ⟨h1, _, _, _, h5⟩ := h
    have t0 : t ≠ 0 := fun z => b0 (by rw [← h5, z, Int.mul_zero])
    show overL [p] t = overL [a] b
    rw [← h1, ← h5]
    exact (overL_scale g t [p] g0 t0).symm
/-! polarisers: what they leave of plain light -/
def polP (k : Kd) : Plate := .bare (.pol k.x k.y k.z k.w)
def kapL (k : Kd) : List Int := [k.w, k.x, k.y, k.z]
theorem pol_R (k : Kd) : (polP k).R = (kapL k).map fun a => (kapL k).map fun b => a * b := by
  show partR (1 * 1) (0 * 1) k.w k.x k.y k.z = _
  unfold partR kapL
  simp [Int.mul_comm]
theorem pol_b (k : Kd) : (polP k).b = 2 * k.w * k.w := by
  show 2 * (1 * 1) * (1 * 1) * k.w * k.w = _
  simp
theorem col_prod {P R : List (List Int)} (hP : okR P) (hR : okR R) : colR (prodL P R) = P.map fun r => dotL r (colR R) := by
  obtain ⟨h1, h2⟩ := hR
  obtain ⟨g1, g2⟩ := hP
  match R, h1 with
  | [x, y, z, w], _ =>
    have e1 := h2 x (by simp)
    have e2 := h2 y (by simp)
    have e3 := h2 z (by simp)
    have e4 := h2 w (by simp)
    match x, y, z, w, e1, e2, e3, e4 with
    | [x0, x1, x2, x3], [y0, y1, y2, y3], [z0, z1, z2, z3], [w0, w1, w2, w3], _, _, _, _ =>
      unfold colR prodL
      rw [List.map_map]
      refine List.map_congr_left fun r hr => ?_
      have hl := g2 r hr
      match r, hl with
      | [a, b, c, d], _ => simp [transp, dotL, List.range, List.range.loop]
theorem col_pol (k : Kd) (c : List Int) (hc : c.length = 4) : ((polP k).R.map fun r => dotL r c) = (kapL k).map fun a => a * dotL (kapL k) c := by
  rw [pol_R, List.map_map]
  refine List.map_congr_left fun a _ => ?_
  match c, hc with
  | [p, q, r, s], _ =>
    simp [dotL, kapL]
    grind
theorem kap_dot (k o : Kd) (s : Int) : dotL (kapL k) ((kapL o).map fun a => a * s) = kk o k * s := by
  simp [dotL, kapL, kk, kdot]
  grind
theorem col_len {R : List (List Int)} (h : okR R) : (colR R).length = 4 := by unfold colR; rw [List.length_map]; exact h.1
/-- the last kind, what is behind it, and what has been multiplied -/
structure Seen (k : Kd) (R : List (List Int)) (b t bel : Int) : Prop where
  ok : okR R
  sc : ∃ s : Int, (colR R = (kapL k).map fun a => a * s) ∧ k.w * s * bel = t * b
theorem seen_one (k : Kd) (w0 : k.w ≠ 0) : Seen k (prodL (polP k).R unitR) (1 * (polP k).b) 1 2 := by
  refine ⟨prodL_ok (polP k).okRR, k.w, ?_, ?_⟩
  · rw [col_prod (polP k).okRR ⟨rfl, by simp [unitR]⟩, col_pol k _ (by decide)]
    have : dotL (kapL k) (colR unitR) = k.w := by
      show dotL (kapL k) [1, 0, 0, 0] = _
      simp [dotL, kapL]
    rw [this]
  · rw [pol_b]; grind
theorem seen_step {k o : Kd} {R : List (List Int)} {b t bel : Int} (h : Seen k R b t bel) : Seen o (prodL (polP o).R R) (b * (polP o).b) (t * kk k o) (bel * 2 * (k.w * o.w)) := by
  obtain ⟨ok, s, h1, h2⟩ := h
  refine ⟨prodL_ok (polP o).okRR, kk k o * s, ?_, ?_⟩
  · rw [col_prod (polP o).okRR ok, col_pol o _ (col_len ok), h1, kap_dot]
  · rw [pol_b]
    have : o.w * (kk k o * s) * (bel * 2 * (k.w * o.w)) = kk k o * 2 * o.w * o.w * (k.w * s * bel) := by grind
    rw [this, h2]
    grind
theorem seen_all : ∀ (r : List Kd) (k : Kd) (R : List (List Int)) (b t bel : Int), Seen k R b t bel → ∃ o, Seen o (accR (r.map polP) R) (accB (r.map polP) b) (rowTop (pairsK (k :: r)) t) (rowBel (pairsK (k :: r)) bel)
  | [], k, R, b, t, bel, h => ⟨k, h⟩
  | o :: r, k, R, b, t, bel, h => by
    obtain ⟨q, hq⟩ := seen_all r o _ _ _ _ (seen_step (o := o) h)
    exact ⟨q, hq⟩
/-- the level behind the polarisers is the share -/
theorem share_table (ks : List Kd) (h : ∀ o ∈ ks, o.V) : overL [(colR (accR (ks.map polP) unitR)).getD 0 0] (accB (ks.map polP) 1) = shareL ks := by
  match ks with
  | [] => decide +kernel
  | k :: r =>
    have w0 := kw_pos (h k (by simp))
    obtain ⟨o, ok, s, h1, h2⟩ := seen_all r k _ _ _ _ (seen_one k (by omega))
    have bel0 : rowBel (pairsK (k :: r)) 2 ≠ 0 := top_ne _ _ (by decide) fun p hp => ⟨kw_pos (h _ (pairs_mem hp).1), kw_pos (h _ (pairs_mem hp).2)⟩
    have nb : ∀ (l : List Kd) (b : Int), b ≠ 0 → (∀ q ∈ l, q.V) → accB (l.map polP) b ≠ 0 := by
      intro l
      induction l with
      | nil => exact fun b h _ => h
      | cons q l ih =>
        intro b hb hq
        refine ih _ (Int.mul_ne_zero hb ?_) fun p hp => hq p (List.mem_cons_of_mem _ hp)
        rw [pol_b]
        have := kw_pos (hq q (by simp))
        exact Int.mul_ne_zero (Int.mul_ne_zero (by decide) (by omega)) (by omega)
    have b0 := nb (k :: r) 1 (by decide) h
    show overL _ _ = overL [rowTop (pairsK (k :: r)) 1] (rowBel (pairsK (k :: r)) 2)
    refine overL_eq b0 bel0 ?_
    have e1 : accR ((k :: r).map polP) unitR = accR (r.map polP) (prodL (polP k).R unitR) := rfl
    have e2 : accB ((k :: r).map polP) 1 = accB (r.map polP) (1 * (polP k).b) := rfl
    rw [e1, e2, h1]
    simp only [List.map_cons, List.map_nil]
    congr 1
    show rowBel (pairsK (k :: r)) 2 * (o.w * s) = _ * rowTop (pairsK (k :: r)) 1
    rw [Int.mul_comm, h2, Int.mul_comm]
end K76
end
section
set_option Elab.async false
set_option linter.all false
set_option maxRecDepth 100000
set_option maxHeartbeats 1000000
/-! K76M31: draws. -/
namespace K76
open PySem Zd
/-- the urn's store -/
def U (A M C : Int) : Store := [[.int A, .int M, .int C]]
def Urn (st : Store) : Prop := ∃ A M C, st = U A M C
theorem Urn.take {st : Store} (h : Urn st) : st.take st.length = st := List.take_length
section
variable {α β : Type} {A M C : Int}
theorem bu0 {k : W → Zd.M β} : bd (subW (.box 0) (.d (.int 0))) k (U A M C) = k (.d (.int A)) (U A M C) := bd_at rfl
theorem bu1 {k : W → Zd.M β} : bd (subW (.box 0) (.d (.int 1))) k (U A M C) = k (.d (.int M)) (U A M C) := bd_at rfl
theorem bu2 {k : W → Zd.M β} : bd (subW (.box 0) (.d (.int 2))) k (U A M C) = k (.d (.int C)) (U A M C) := bd_at rfl
theorem su0 {e : Nv} {i : Int} {k : Nv → Zd.M β} : bd (setAt 0 0 (.int i) (some (.box 0) :: e)) k (U A M C) = k (some (.box 0) :: e) (U i M C) := bd_at rfl
theorem su1 {e : Nv} {i : Int} {k : Nv → Zd.M β} : bd (setAt 0 1 (.int i) (some (.box 0) :: e)) k (U A M C) = k (some (.box 0) :: e) (U A i C) := bd_at rfl
theorem su2 {e : Nv} {i : Int} {k : Nv → Zd.M β} : bd (setAt 0 2 (.int i) (some (.box 0) :: e)) k (U A M C) = k (some (.box 0) :: e) (U A M i) := bd_at rfl
end
theorem mulOk_l {i j : Int} (h : i.natAbs < 2 ^ 64) : mulOk i j = true := by
  have := bits_le (n := 64) (i := i) h
  unfold mulOk
  rw [decide_eq_false (p := Builtin.Int.intBits i > shortFactorBits) (by show ¬ _ > 64; omega)]
  rfl
theorem mulOk_r {i j : Int} (h : j.natAbs < 2 ^ 64) : mulOk i j = true := by
  have := bits_le (n := 64) (i := j) h
  unfold mulOk
  rw [decide_eq_false (p := Builtin.Int.intBits j > shortFactorBits) (by show ¬ _ > 64; omega), Bool.and_false]
  rfl
theorem asg_sb {i : Nat} {k : Int} {p : PyData} {e : Nv} : asgT (.sb i k) (.d p) e = setAt i k p e := by
  conv => lhs; unfold asgT
theorem divmod_i {i j : Int} (h : 0 < j) (h' : j < 1073741824) : bltW .divmod [.d (.int i), .d (.int j)] = Zd.ret (.d (.tuple [.int (i / j), .int (i % j)])) := by
  show want (decide (0 < j) && decide (j < 1073741824)) _ = _
  rw [decide_eq_true h, decide_eq_true h']
  rfl
theorem tb__law_pick : tb "_law_pick" = some d__law_pick := by kernel_rfl
theorem pick (k : Nat) {m : Int} (h : 0 < m) (h' : m < 1073741824) {st : Store} (u : Urn st) : ∃ i st', callD tb gv (k + 1) "_law_pick" [.box 0, .d (.int m)] st = .ok (.d (.int i)) st' ∧ Urn st' ∧ 0 ≤ i ∧ i < m := by
  obtain ⟨A, M, C, rfl⟩ := u
  rw [callD_is tb__law_pick]
  by_cases a : 0 < A
  · refine ⟨A % m, U (A / m) M C, ?_, ⟨_, _, _, rfl⟩, Int.emod_nonneg _ (by omega), Int.emod_lt_of_pos _ h⟩
    simp [d__law_pick, b__law_pick, isOwn, bu0, a, divmod_i h h', lenB, isSt, asg_sb, su0]
    rfl
  · have m1 : ∀ j : Int, mulOk M ((j.fmod 30011) + 20011) = true := fun j => mulOk_r (by
      rw [Int.fmod_eq_emod_of_nonneg _ (by decide)]
      have h1 := Int.emod_nonneg j (show (30011 : Int) ≠ 0 by decide)
      have h2 := Int.emod_lt_of_pos j (show (0 : Int) < 30011 by decide)
      have : (2 : Nat) ^ 64 = 18446744073709551616 := by decide
      omega)
    have m2 : mulOk 91193 (C + 1) = true := mulOk_l (by decide)
    have d1 : (30011 : Int) ≠ 0 := by decide
    have d2 : (2147483629 : Int) ≠ 0 := by decide
    have d3 : ∀ i : Int, binW .FloorDiv (.d (.int i)) (.d (.int 61)) = Zd.ret (.d (.int (i.fdiv 61))) := fun i => fdiv_i (by decide) (by decide)
    have d4 : ∀ i : Int, binW .Mod (.d (.int i)) (.d (.int m)) = Zd.ret (.d (.int (i.fmod m))) := fun i => mod_i (by omega)
    have d5 : ∀ i : Int, binW .Mod (.d (.int i)) (.d (.int 30011)) = Zd.ret (.d (.int (i.fmod 30011))) := fun i => mod_i (by decide)
    have d6 : ∀ i : Int, binW .Mod (.d (.int i)) (.d (.int 2147483629)) = Zd.ret (.d (.int (i.fmod 2147483629))) := fun i => mod_i (by decide)
    refine ⟨((((M * (M.fmod 30011 + 20011) + 91193 * (C + 1) + 5).fmod 2147483629).fdiv 61).fmod m), U A ((M * (M.fmod 30011 + 20011) + 91193 * (C + 1) + 5).fmod 2147483629) (C + 1), ?_, ⟨_, _, _, rfl⟩, Int.fmod_nonneg_of_pos _ h, Int.fmod_lt_of_pos _ h⟩
    simp [d__law_pick, b__law_pick, isOwn, bu0, bu1, bu2, a, su1, su2, setM, d3, d4, d5, d6, m1, m2]
    rfl
theorem tb__law_between : tb "_law_between" = some d__law_between := by kernel_rfl
theorem between (k : Nat) {lo hi : Int} (h : lo ≤ hi) (h' : hi - lo < 1073741823) {st : Store} (u : Urn st) : ∃ i st', callD tb gv (k + 2) "_law_between" [.box 0, .d (.int lo), .d (.int hi)] st = .ok (.d (.int i)) st' ∧ Urn st' ∧ lo ≤ i ∧ i ≤ hi := by
  rw [callD_is tb__law_between]
  obtain ⟨i, st', e, u', h1, h2⟩ := pick k (m := hi - lo + 1) (by omega) (by omega) u
  refine ⟨lo + i, st', ?_, u', by omega, by omega⟩
  simp [d__law_between, b__law_between, isOwn]
  rw [bd_at e]
  obtain ⟨A, M, C, rfl⟩ := u
  obtain ⟨A', M', C', rfl⟩ := u'
  simp
  rfl
theorem tb__law_one : tb "_law_one" = some d__law_one := by kernel_rfl
theorem one_of (k : Nat) {xs : List PyData} (h : 0 < xs.length) (h' : xs.length < 1000) {st : Store} (u : Urn st) : ∃ (i : Nat) (p : PyData) (st' : Store), callD tb gv (k + 2) "_law_one" [.box 0, .d (.list xs)] st = .ok (.d p) st' ∧ Urn st' ∧ xs[i]? = some p := by
  rw [callD_is tb__law_one]
  obtain ⟨i, st', e, u', h1, h2⟩ := pick k (m := (xs.length : Int)) (by omega) (by omega) u
  have hi : i.toNat < xs.length := by omega
  refine ⟨i.toNat, xs[i.toNat], st', ?_, u', List.getElem?_eq_getElem hi⟩
  have at_ : L2.atI xs i = some xs[i.toNat] := by
    unfold L2.atI L2.ixN
    rw [if_pos h1, if_pos h2]
    simp
  have s := sub_lst at_
  simp [d__law_one, b__law_one, isOwn]
  rw [bd_at e, s]
  obtain ⟨A, M, C, rfl⟩ := u
  obtain ⟨A', M', C', rfl⟩ := u'
  simp
  rfl
end K76
end
section
set_option Elab.async false
set_option linter.all false
set_option maxRecDepth 100000
set_option maxHeartbeats 1000000
/-! K76M32: drawn kinds, settings, turns, shares. -/
namespace K76
open PySem Zd
instance (n : Nat) (i : Int) : Decidable (Bd n i) := inferInstanceAs (Decidable (i.natAbs < 2 ^ n))
def bdB (n : Nat) (i : Int) : Bool := decide (i.natAbs < 2 ^ n)
theorem bdB_ok {n : Nat} {i : Int} (h : bdB n i = true) : Bd n i := of_decide_eq_true h
theorem law_gcd_l (k : Nat) (l : List Int) : callD tb gv (k + 1) "_law_gcd" [.d (.list (ip l))] = Zd.ret (.d (.int (gcdL l : Nat))) := to_ret fun st => law_gcd_is k l _ (.inr rfl) st
theorem div_nat {i : Int} {g : Nat} (hg : g ≠ 0) (hz : g < 1000) : binW .FloorDiv (.d (.int i)) (.d (.int (g : Int))) = Zd.ret (.d (.int (i / (g : Int)))) := by
  rw [fdiv_i (by omega) (by
    rw [Int.natAbs_natCast]
    have := (Nat.log2_lt (k := 10) hg).mpr (by omega)
    omega), Int.fdiv_eq_ediv_of_nonneg i (Int.natCast_nonneg _)]
/-! kinds -/
def lensL (x y w : Int) : List Int := [2 * x * w, 2 * y * w, w * w - x * x - y * y, w * w + x * x + y * y]
def goodK (l : List Int) : Bool := match l with
  | [x, y, z, w] => decide (gcdL [x, y, z, w] = 1) && (decide (1 ≤ w) && (decide (x * x + y * y + z * z = w * w) && (bdB 5 x && (bdB 5 y && (bdB 5 z && bdB 5 w)))))
  | _ => false
theorem goodK_ok {l : List Int} (h : goodK l = true) : ∃ o : Kd, ip l = ip [o.x, o.y, o.z, o.w] ∧ o.V ∧ o.B 5 := by
  match l, h with
  | [x, y, z, w], h =>
    simp only [goodK, Bool.and_eq_true, decide_eq_true_eq] at h
    obtain ⟨h1, h2, h3, h4, h5, h6, h7⟩ := h
    exact ⟨⟨x, y, z, w⟩, rfl, ⟨h1, h2, h3⟩, bdB_ok h4, bdB_ok h5, bdB_ok h6, bdB_ok h7⟩
theorem lens_good : ∀ x ∈ [(-2 : Int), -1, 0, 1, 2], ∀ y ∈ [(-2 : Int), -1, 0, 1, 2], ∀ w ∈ [(1 : Int), 2, 3], goodK (lowL (lensL x y w)) = true ∧ gcdL (lensL x y w) ≠ 0 ∧ gcdL (lensL x y w) < 1000 := by decide +kernel
theorem five_of {x : Int} (h : -2 ≤ x) (h' : x ≤ 2) : x ∈ [(-2 : Int), -1, 0, 1, 2] := by simp; omega
theorem three_of {i : Nat} {p : PyData} (h : ([.int 1, .int 1, .int 1, .int 2, .int 3] : List PyData)[i]? = some p) : ∃ w : Int, p = .int w ∧ w ∈ [(1 : Int), 2, 3] := by
  have := List.mem_of_getElem? h
  simp at this
  rcases this with rfl | rfl | rfl
  · exact ⟨1, rfl, by simp⟩
  · exact ⟨2, rfl, by simp⟩
  · exact ⟨3, rfl, by simp⟩
theorem tb__law_kind : tb "_law_kind" = some d__law_kind := by kernel_rfl
theorem kind (k : Nat) {st : Store} (u : Urn st) : ∃ (o : Kd) (st' : Store), callD tb gv (k + 3) "_law_kind" [.box 0] st = .ok (.d o.D) st' ∧ Urn st' ∧ o.V ∧ o.B 5 := by
  have l4 : decide (4 ≤ line) = true := by decide
  have l5 : decide (5 ≤ line) = true := by decide
  obtain ⟨i, s1, e1, u1, _, _⟩ := pick (k + 1) (m := 16) (by decide) (by decide) u
  have len : st.length = 1 := by obtain ⟨_, _, _, rfl⟩ := u; rfl
  have tk : ∀ {s : Store}, Urn s → s.take 1 = s := fun h => by obtain ⟨_, _, _, rfl⟩ := h; rfl
  rw [callD_is tb__law_kind]
  by_cases hi : i = 0
  · refine ⟨⟨0, 0, -1, 1⟩, s1, ?_, u1, ⟨by decide, by decide, by decide⟩, by decide, by decide, by decide, by decide⟩
    simp [d__law_kind, b__law_kind, isOwn, len, bd_at e1, hi, l4, neg_i, tk u1]
    rfl
  · obtain ⟨x, s2, e2, u2, x1, x2⟩ := between k (lo := -2) (hi := 2) (by decide) (by decide) u1
    obtain ⟨y, s3, e3, u3, y1, y2⟩ := between k (lo := -2) (hi := 2) (by decide) (by decide) u2
    obtain ⟨j, p, s4, e4, u4, hp⟩ := one_of k (xs := [.int 1, .int 1, .int 1, .int 2, .int 3]) (by decide) (by decide) u3
    obtain ⟨w, rfl, hw⟩ := three_of hp
    obtain ⟨g1, g2, g3⟩ := lens_good x (five_of x1 x2) y (five_of y1 y2) w hw
    obtain ⟨o, eo, oV, oB⟩ := goodK_ok g1
    refine ⟨o, s4, ?_, u4, oV, oB⟩
    have hw' : w = 1 ∨ w = 2 ∨ w = 3 := by simpa using hw
    have mm : ∀ a b : Int, a.natAbs < 100 → mulOk a b = true := fun a b h => mulOk_l (Nat.lt_of_lt_of_le h (by decide))
    have m1 : mulOk 2 x = true := mm _ _ (by decide)
    have m2 : mulOk (2 * x) w = true := mm _ _ (by omega)
    have m3 : mulOk 2 y = true := mm _ _ (by decide)
    have m4 : mulOk (2 * y) w = true := mm _ _ (by omega)
    have m5 : mulOk w w = true := mm _ _ (by omega)
    have m6 : mulOk x x = true := mm _ _ (by omega)
    have m7 : mulOk y y = true := mm _ _ (by omega)
    have c1 := law_gcd_l (k + 1) (lensL x y w)
    have el : PyData.list [.int (2 * x * w), .int (2 * y * w), .int (w * w - x * x - y * y), .int (w * w + x * x + y * y)] = .list (ip (lensL x y w)) := rfl
    simp [d__law_kind, b__law_kind, isOwn, len, bd_at e1, hi, bd_at e2, bd_at e3, bd_at e4, l5, parE, want, m1, m2, m3, m4, m5, m6, m7, l4, el, c1, wipeE]
    rw [bd_at (comp_ints (f := fun i => i / (gcdL (lensL x y w) : Int)) (fun i _ => by simp [one_is, div_nat g2 g3]) (by show 4 ≤ line; decide))]
    simp [tk u4]
    show PyData.tuple (ip (lowL (lensL x y w))) = _
    rw [eo]
    rfl
/-! settings -/
def goodS (a b : Int) : Bool := decide (gcdL [a, b] = 1) && (decide (0 < b) && (bdB 2 a && bdB 2 b))
theorem set_good : ∀ a ∈ [(-3 : Int), -2, -1, 0, 1, 2, 3], ∀ b ∈ [(1 : Int), 2, 3], goodS (a / (gcdL [a, b] : Int)) (b / (gcdL [a, b] : Int)) = true ∧ gcdL [a, b] ≠ 0 ∧ gcdL [a, b] < 1000 := by decide +kernel
theorem tb__law_setting : tb "_law_setting" = some d__law_setting := by kernel_rfl
theorem setting (k : Nat) {st : Store} (u : Urn st) : ∃ (a b : Int) (st' : Store), callD tb gv (k + 3) "_law_setting" [.box 0] st = .ok (tp [a, b]) st' ∧ Urn st' ∧ setV a b ∧ Bd 2 a ∧ Bd 2 b := by
  have l2 : decide (2 ≤ line) = true := by decide
  have len : st.length = 1 := by obtain ⟨_, _, _, rfl⟩ := u; rfl
  have tk : ∀ {s : Store}, Urn s → s.take 1 = s := fun h => by obtain ⟨_, _, _, rfl⟩ := h; rfl
  obtain ⟨a, s1, e1, u1, a1, a2⟩ := between k (lo := -3) (hi := 3) (by decide) (by decide) u
  obtain ⟨b, s2, e2, u2, b1, b2⟩ := pick (k + 1) (m := 4) (by decide) (by decide) u1
  rw [callD_is tb__law_setting]
  have c1 : callD tb gv (k + 2) "_law_gcd" [.d (.list [.int a, .int b])] = Zd.ret (.d (.int (gcdL [a, b] : Nat))) := law_gcd_l (k + 1) [a, b]
  by_cases hb : 0 < b
  · obtain ⟨g1, g2, g3⟩ := set_good a (by simp; omega) b (by simp; omega)
    simp only [goodS, Bool.and_eq_true, decide_eq_true_eq] at g1
    obtain ⟨h1, h2, h3, h4⟩ := g1
    refine ⟨_, _, s2, ?_, u2, ⟨h1, .inl h2⟩, bdB_ok h3, bdB_ok h4⟩
    have d := fun i : Int => div_nat (i := i) g2 g3
    simp [d__law_setting, b__law_setting, isOwn, len, bd_at e1, bd_at e2, parE, want, l2, c1, hb, d, tk u2]
    rfl
  · refine ⟨1, 0, s2, ?_, u2, ⟨by decide, .inr ⟨rfl, rfl⟩⟩, by decide, by decide⟩
    simp [d__law_setting, b__law_setting, isOwn, len, bd_at e1, bd_at e2, parE, want, l2, c1, hb, tk u2]
    rfl
/-! shares -/
def goodH (l : List Int) : Bool := match l with
  | [a, b] => decide (gcdL [a, b] = 1) && (decide (0 < b) && (decide (0 ≤ a) && (decide (a ≤ b) && (bdB 3 a && bdB 3 b))))
  | _ => false
theorem share_good : ∀ b ∈ [(1 : Int), 2, 3, 4], ∀ a ∈ [(0 : Int), 1, 2, 3, 4], a ≤ b → goodH (overL [a] b) = true := by decide +kernel
theorem tb__law_share : tb "_law_share" = some d__law_share := by kernel_rfl
theorem share (k : Nat) {st : Store} (u : Urn st) : ∃ (a b : Int) (st' : Store), callD tb gv (k + 3) "_law_share" [.box 0] st = .ok (tp [a, b]) st' ∧ Urn st' ∧ shareV a b ∧ Bd 3 a ∧ Bd 3 b := by
  have len : st.length = 1 := by obtain ⟨_, _, _, rfl⟩ := u; rfl
  have tk : ∀ {s : Store}, Urn s → s.take 1 = s := fun h => by obtain ⟨_, _, _, rfl⟩ := h; rfl
  obtain ⟨b, s1, e1, u1, b1, b2⟩ := between k (lo := 1) (hi := 4) (by decide) (by decide) u
  obtain ⟨a, s2, e2, u2, a1, a2⟩ := pick (k + 1) (m := b + 1) (by omega) (by omega) u1
  have g := share_good b (by simp; omega) a (by simp; omega) (by omega)
  obtain ⟨p, q, eo⟩ := frac_len a b
  rw [eo] at g
  simp only [goodH, Bool.and_eq_true, decide_eq_true_eq] at g
  obtain ⟨h1, h2, h3, h4, h5, h6⟩ := g
  have c1 := law_ratio_t k (a := a) (b := b) (n := 3) (by decide) (by unfold Bd; omega) (by omega)
  rw [eo] at c1
  rw [callD_is tb__law_share]
  refine ⟨p, q, s2, ?_, u2, ⟨h1, h2, h3, h4⟩, bdB_ok h5, bdB_ok h6⟩
  simp [d__law_share, b__law_share, isOwn, len, bd_at e1, bd_at e2, c1, tk u2]
end K76
end
section
set_option Elab.async false
set_option linter.all false
set_option maxRecDepth 100000
set_option maxHeartbeats 1000000
/-! K76M33: drawn turns, plates. -/
namespace K76
open PySem Zd
def goodT (l : List Int) : Bool := match l with
  | [a, b, c, d] => decide (gcdL [a, b, c, d] = 1) && ((match [a, b, c, d].filter (· ≠ 0) with
    | i :: _ => decide (0 < i)
    | [] => false) && (bdB 2 a && (bdB 2 b && (bdB 2 c && bdB 2 d))))
  | _ => false
theorem goodT_ok {l : List Int} (h : goodT l = true) : ∃ a b c d, l = [a, b, c, d] ∧ turnV a b c d ∧ Bd 2 a ∧ Bd 2 b ∧ Bd 2 c ∧ Bd 2 d := by
  match l, h with
  | [a, b, c, d], h =>
    simp only [goodT, Bool.and_eq_true, decide_eq_true_eq] at h
    obtain ⟨h1, h2, h3, h4, h5, h6⟩ := h
    refine ⟨a, b, c, d, rfl, ⟨h1, ?_⟩, bdB_ok h3, bdB_ok h4, bdB_ok h5, bdB_ok h6⟩
    unfold leadPos
    split at h2
    · rename_i i r e
      exact ⟨i, r, e, of_decide_eq_true h2⟩
    · cases h2
/-- the turn along four numbers -/
def turnedL (l : List Int) : List Int := l.map fun i => if 0 < (l.filter (· ≠ 0)).headD 0 then i / (gcdL l : Int) else -(i / (gcdL l : Int))
theorem turned_good : ∀ a ∈ [(-2 : Int), -1, 0, 1, 2], ∀ b ∈ [(-2 : Int), -1, 0, 1, 2], ∀ c ∈ [(-2 : Int), -1, 0, 1, 2], ∀ d ∈ [(-2 : Int), -1, 0, 1, 2], [a, b, c, d] ≠ [0, 0, 0, 0] → goodT (turnedL [a, b, c, d]) = true ∧ gcdL [a, b, c, d] ≠ 0 ∧ gcdL [a, b, c, d] < 1000 ∧ (([a, b, c, d].filter (· ≠ 0)).length ≠ 0) := by decide +kernel
theorem comp_fl {F : PyData → M (List PyData)} {P : Int → Bool} {l : List Int} {st : Store} (h : ∀ i, F (.int i) st = .ok (if P i then [.int i] else []) st) (hl : l.length ≤ line) : lim (compL F (ip l)) st = .ok (ip (l.filter P)) st :=
  lim_of (filt l h) (by rw [ip_length]; exact Nat.le_trans (List.length_filter_le _ _) hl)
theorem div_neg {i : Int} {g : Nat} (hg : g ≠ 0) (hz : g < 1000) (d : (g : Int) ∣ i) : binW .FloorDiv (.d (.int i)) (.d (.int (-(g : Int)))) = Zd.ret (.d (.int (-(i / (g : Int))))) := by
  rw [fdiv_i (by omega) (by
    rw [Int.natAbs_neg, Int.natAbs_natCast]
    have := (Nat.log2_lt (k := 10) hg).mpr (by omega)
    omega), fdiv_neg d]
theorem tb__law_turned : tb "_law_turned" = some d__law_turned := by kernel_rfl
theorem law_turned (k : Nat) {l : List Int} (hl : l.length ≤ 100) (h0 : (l.filter (· ≠ 0)).length ≠ 0) (g2 : gcdL l ≠ 0) (g3 : gcdL l < 1000) : callD tb gv (k + 2) "_law_turned" [.d (.list (ip l))] = Zd.ret (tp (turnedL l)) := to_ret fun st => by
  rw [callD_is tb__law_turned]
  have ll : l.length ≤ line := Nat.le_trans hl (by decide)
  obtain ⟨i, r, e⟩ : ∃ i r, l.filter (· ≠ 0) = i :: r := by
    cases hh : l.filter (· ≠ 0) with
    | nil => rw [hh] at h0; exact absurd rfl h0
    | cons i r => exact ⟨i, r, rfl⟩
  have c1 := law_gcd_l k l
  simp [d__law_turned, b__law_turned, isOwn, wipeE]
  rw [bd_at (comp_fl (P := fun i => decide (i ≠ 0)) (l := l) (fun j => by by_cases h : j = 0 <;> simp [one_if, h]) ll), e]
  have hd : (l.filter (· ≠ 0)).headD 0 = i := by rw [e]; rfl
  have ei : ip (i :: r) = .int i :: ip r := rfl
  by_cases hi : 0 < i
  · simp [ei, sub_l0', hi, c1]
    rw [bd_at (comp_ints (f := fun j => j / (gcdL l : Int)) (fun j _ => by simp [one_is, div_nat g2 g3]) ll)]
    have t : turnedL l = l.map fun j => j / (gcdL l : Int) := by unfold turnedL; rw [hd]; simp only [if_pos hi]
    simp [t]
  · simp [ei, sub_l0', hi, c1]
    rw [bd_at (comp_ints (f := fun j => -(j / (gcdL l : Int))) (fun j hj => by simp [one_is, div_neg g2 g3 (gcdL_dvd hj)]) ll)]
    have t : turnedL l = l.map fun j => -(j / (gcdL l : Int)) := by unfold turnedL; rw [hd]; simp only [if_neg hi]
    simp [t]
theorem eq4 (a b c d : Int) : cmpB .NotEq (.d (.list (ip [a, b, c, d]))) (.d (.list [.int 0, .int 0, .int 0, .int 0])) = Zd.ret (!decide ([a, b, c, d] = [0, 0, 0, 0])) := by
  rw [ne_p (by simp [ip, SeqAt.shaped, PyData.canLay0, PyData.canLayAll0, PyData.depth, PyData.depthAll]) (by simp [SeqAt.shaped, PyData.canLay0, PyData.canLayAll0, PyData.depth, PyData.depthAll])]
  congr 1
  have e : PyData.eqv (.list (ip [a, b, c, d])) (.list [.int 0, .int 0, .int 0, .int 0]) = (a == 0 && (b == 0 && (c == 0 && d == 0))) := by simp [ip, PyData.eqv, PyData.eqvAll]
  rw [e]
  by_cases h1 : a = 0 <;> by_cases h2 : b = 0 <;> by_cases h3 : c = 0 <;> by_cases h4 : d = 0 <;> simp [h1, h2, h3, h4]
theorem tb__law_turn : tb "_law_turn" = some d__law_turn := by kernel_rfl
theorem turn (k : Nat) {st : Store} (u : Urn st) : ∃ (a b c d : Int) (st' : Store), callD tb gv (k + 3) "_law_turn" [.box 0] st = .ok (tp [a, b, c, d]) st' ∧ Urn st' ∧ turnV a b c d ∧ Bd 2 a ∧ Bd 2 b ∧ Bd 2 c ∧ Bd 2 d := by
  have len : st.length = 1 := by obtain ⟨_, _, _, rfl⟩ := u; rfl
  have tk : ∀ {s : Store}, Urn s → s.take 1 = s := fun h => by obtain ⟨_, _, _, rfl⟩ := h; rfl
  obtain ⟨a, s1, e1, u1, a1, a2⟩ := between k (lo := -2) (hi := 2) (by decide) (by decide) u
  obtain ⟨b, s2, e2, u2, b1, b2⟩ := between k (lo := -2) (hi := 2) (by decide) (by decide) u1
  obtain ⟨c, s3, e3, u3, c1, c2⟩ := between k (lo := -2) (hi := 2) (by decide) (by decide) u2
  obtain ⟨d, s4, e4, u4, d1, d2⟩ := between k (lo := -2) (hi := 2) (by decide) (by decide) u3
  have l4 : decide (4 ≤ line) = true := by decide
  rw [callD_is tb__law_turn]
  have cmp : lim (compL (fun x => bd (asgT (T.nm 2) (W.d x) [some (.box 0), none, none]) (oneM [] (evP (callD tb gv (k + 2)) gv (.call "_law_between" [(.var 0), (.neg (.cst (.int 2))), (.cst (.int 2))])).v)) [.int 0, .int 1, .int 2, .int 3]) st = .ok (ip [a, b, c, d]) s4 := by
    refine lim_of ?_ (by show 4 ≤ line; decide)
    simp [compL_cons, compL_nil, one_is, neg_i, bd_at e1, bd_at e2, bd_at e3, bd_at e4]
    rfl
  by_cases z : [a, b, c, d] = [0, 0, 0, 0]
  · refine ⟨1, 0, 0, 0, s4, ?_, u4, ⟨by decide, 1, [], by decide, by decide⟩, by decide, by decide, by decide, by decide⟩
    simp [d__law_turn, b__law_turn, isOwn, len, wipeE, w14, r4] at cmp ⊢
    rw [bd_at cmp]
    simp [l4, eq4, z, tk u4]
    rfl
  · obtain ⟨g1, g2, g3, g4⟩ := turned_good a (five_of a1 a2) b (five_of b1 b2) c (five_of c1 c2) d (five_of d1 d2) z
    obtain ⟨p, q, r, s, eo, tv, t1, t2, t3, t4⟩ := goodT_ok g1
    refine ⟨p, q, r, s, s4, ?_, u4, tv, t1, t2, t3, t4⟩
    have ct := law_turned k (l := [a, b, c, d]) (by show 4 ≤ 100; decide) g4 g2 g3
    rw [eo] at ct
    simp [d__law_turn, b__law_turn, isOwn, len, wipeE, w14, r4] at cmp ⊢
    rw [bd_at cmp]
    simp only [l4, eq4, want_true, bd_ret, decide_eq_false z, Bool.not_false, ifM_true]
    simp [ct, tk u4]
end K76
end
section
set_option Elab.async false
set_option linter.all false
set_option maxRecDepth 100000
set_option maxHeartbeats 1000000
/-! K76M34: drawn plates and rows of kinds. -/
namespace K76
open PySem Zd
theorem partR_bd {p q w x y z : Int} (hp : Bd 6 p) (hq : Bd 6 q) (hw : Bd 5 w) (hx : Bd 5 x) (hy : Bd 5 y) (hz : Bd 5 z) : bdR 30 (partR p q w x y z) := by
  have b1 := hp.mul hp
  have b2 := hq.mul hq
  have e0 : Bd 30 ((p * p + q * q) * w * w) := (((b1.add b2).mul hw).mul hw).mono (by decide)
  have e1 : ∀ a, Bd 5 a → Bd 30 ((p * p - q * q) * w * a) := fun a ha => (((b1.sub b2).mul hw).mul ha).mono (by decide)
  have b3 := (hp.sub hq).mul (hp.sub hq)
  have e2 : ∀ a b, Bd 5 a → Bd 5 b → Bd 30 ((p - q) * (p - q) * a * b) := fun a b ha hb => ((b3.mul ha).mul hb).mono (by decide)
  have b4 := (((Bd.lit2.mul hp).mul hq).mul hw).mul hw
  have e3 : ∀ a b, Bd 5 a → Bd 5 b → Bd 30 ((p - q) * (p - q) * a * b + 2 * p * q * w * w) := fun a b ha hb => (((b3.mul ha).mul hb).add b4).mono (by decide)
  unfold bdR partR
  simp only [List.forall_mem_cons, e0, e1 x hx, e1 y hy, e1 z hz, e2 x y hx hy, e2 x z hx hz, e2 y x hy hx, e2 y z hy hz, e2 z x hz hx, e2 z y hz hy, e3 x x hx hx, e3 y y hy hy, e3 z z hz hz, true_and, and_true]
  simp
theorem pol_small {o : Kd} (v : o.V) (h : o.B 5) : (Bare.pol o.x o.y o.z o.w).small 30 := by
  obtain ⟨hx, hy, hz, hw⟩ := h
  have w0 : 0 < o.w := v.2.1
  refine ⟨partR_bd (show Bd 6 (1 * 1) by decide) (show Bd 6 (0 * 1) by decide) hw hx hy hz, ?_, ?_, hx.mono (by decide), hy.mono (by decide), hz.mono (by decide), hw.mono (by decide), w0⟩
  · exact (((Bd.mul (n := 4) (show Bd 4 (2 * (1 * 1) * (1 * 1)) by decide) hw).mul hw).mono (by decide))
  · exact Int.mul_ne_zero (Int.mul_ne_zero (by decide) (by omega)) (by omega)
theorem part_small {o : Kd} {f0 f1 g0 g1 : Int} (v : o.V) (h : o.B 5) (vf : shareV f0 f1) (vg : shareV g0 g1) (h0 : Bd 3 f0) (h1 : Bd 3 f1) (i0 : Bd 3 g0) (i1 : Bd 3 g1) : (Bare.part o.x o.y o.z o.w f0 f1 g0 g1).small 30 := by
  obtain ⟨hx, hy, hz, hw⟩ := h
  have w0 : 0 < o.w := v.2.1
  have f1' := vf.2.1
  have g1' := vg.2.1
  have q := Int.mul_pos f1' g1'
  refine ⟨partR_bd (h0.mul i1) (i0.mul h1) hw hx hy hz, ?_, ?_, hx.mono (by decide), hy.mono (by decide), hz.mono (by decide), hw.mono (by decide), h0.mono (by decide), h1.mono (by decide), i0.mono (by decide), i1.mono (by decide), w0, f1', g1'⟩
  · exact (((((Bd.lit2.mul (h1.mul i1)).mul (h1.mul i1)).mul hw).mul hw).mono (by decide))
  · exact Int.mul_ne_zero (Int.mul_ne_zero (Int.mul_ne_zero (Int.mul_ne_zero (by decide) (by omega)) (by omega)) (by omega)) (by omega)
theorem sum4_ne {a b c d : Int} (h : turnV a b c d) : 0 < a * a + b * b + c * c + d * d := by
  have sq : ∀ x : Int, 0 ≤ x * x := fun x => by rcases Int.le_total 0 x with h | h; exact Int.mul_nonneg h h; exact Int.mul_nonneg_of_nonpos_of_nonpos h h
  have nz : ∀ x : Int, x * x = 0 → x = 0 := fun x h => by rcases Int.mul_eq_zero.mp h with z | z <;> exact z
  have := sq a
  have := sq b
  have := sq c
  have := sq d
  by_cases z : a * a + b * b + c * c + d * d = 0
  · exfalso
    have ha := nz a (by omega)
    have hb := nz b (by omega)
    have hc := nz c (by omega)
    have hd := nz d (by omega)
    have g := h.1
    rw [ha, hb, hc, hd] at g
    revert g; decide
  · omega
theorem turn_small' {a b c d : Int} (v : turnV a b c d) (ha : Bd 2 a) (hb : Bd 2 b) (hc : Bd 2 c) (hd : Bd 2 d) : (Bare.turn a b c d).small 30 := by
  have q := sum4_ne v
  refine ⟨fun r hr i hi => (spun_bd ha hb hc hd r hr i hi).mono (by decide), ?_, ?_, ha.mono (by decide), hb.mono (by decide), hc.mono (by decide), hd.mono (by decide), q⟩
  · exact ((((ha.mul ha).add (hb.mul hb)).add (hc.mul hc)).add (hd.mul hd)).mono (by decide)
  · show a * a + b * b + c * c + d * d ≠ 0
    omega
theorem mag_small {a b : Int} (v : setV a b) (ha : Bd 2 a) (hb : Bd 2 b) : (Bare.mag a b).small 30 := by
  have q := nrm_pos (setV_nrm v)
  have z : Bd 2 0 := Bd.zero
  have e := nrm_spun a b
  refine ⟨fun r hr i hi => (spun_bd hb z z ha r hr i hi).mono (by decide), ?_, ?_, ha.mono (by decide), hb.mono (by decide), ?_⟩
  · show Bd 30 (b * b + 0 * 0 + 0 * 0 + a * a)
    rw [e]
    exact (nrm_bd ha hb).mono (by decide)
  · show b * b + 0 * 0 + 0 * 0 + a * a ≠ 0
    rw [e]
    omega
  · rw [e]; exact q
theorem diag_bd {s t : Int} (hs : Bd 3 s) (ht : Bd 3 t) : bdR 30 (diagR s t) := by
  unfold bdR diagR
  have z : Bd 30 0 := Bd.zero
  simp only [List.forall_mem_cons, hs.mono (show 3 ≤ 30 by decide), ht.mono (show 3 ≤ 30 by decide), z, true_and, and_true]
  simp
theorem grey_small {a b : Int} (v : shareV a b) (ha : Bd 3 a) (hb : Bd 3 b) : (Bare.grey a b).small 30 := by
  have q := v.2.1
  exact ⟨diag_bd ha ha, hb.mono (by decide), by show b ≠ 0; omega, ha.mono (by decide), hb.mono (by decide), q⟩
theorem dull_small {a b : Int} (v : shareV a b) (ha : Bd 3 a) (hb : Bd 3 b) : (Bare.dull a b).small 30 := by
  have q := v.2.1
  exact ⟨diag_bd hb ha, hb.mono (by decide), by show b ≠ 0; omega, ha.mono (by decide), hb.mono (by decide), q⟩
theorem glass_small : Bare.glass.small 30 := ⟨by
  show bdR 30 glassR
  unfold bdR glassR
  simp only [List.forall_mem_cons, show Bd 30 1 by decide, show Bd 30 0 by decide, show Bd 30 (-1) by decide, true_and, and_true]
  simp, by decide, by decide, trivial⟩
theorem words_of {i : Nat} {p : PyData} (h : ([.str "grey", .str "dull", .str "dull"] : List PyData)[i]? = some p) : p = .str "grey" ∨ p = .str "dull" := by
  have := List.mem_of_getElem? h
  simpa using this
theorem tb__law_bare : tb "_law_bare" = some d__law_bare := by kernel_rfl
theorem bare (k : Nat) {st : Store} (u : Urn st) : ∃ (p : Bare) (st' : Store), callD tb gv (k + 4) "_law_bare" [.box 0] st = .ok (.d p.D) st' ∧ Urn st' ∧ p.valid ∧ p.small 30 := by
  have len : st.length = 1 := by obtain ⟨_, _, _, rfl⟩ := u; rfl
  have tk : ∀ {s : Store}, Urn s → s.take 1 = s := fun h => by obtain ⟨_, _, _, rfl⟩ := h; rfl
  have l1 : decide (1 ≤ line) = true := by decide
  have l2 : decide (2 ≤ line) = true := by decide
  have l3 : decide (3 ≤ line) = true := by decide
  have l4 : decide (4 ≤ line) = true := by decide
  obtain ⟨i, s1, e1, u1, i1, i2⟩ := pick (k + 2) (m := 8) (by decide) (by decide) u
  rw [callD_is tb__law_bare]
  by_cases h1 : i < 2
  · obtain ⟨o, s2, e2, u2, v, b⟩ := kind k u1
    refine ⟨.pol o.x o.y o.z o.w, s2, ?_, u2, v, pol_small v b⟩
    simp [d__law_bare, b__law_bare, isOwn, len, bd_at e1, h1, bd_at e2, l2, tk u2]
    rfl
  · by_cases h2 : i = 2
    · obtain ⟨o, s2, e2, u2, v, b⟩ := kind k u1
      obtain ⟨f0, f1, s3, e3, u3, vf, h0, h1'⟩ := share k u2
      obtain ⟨g0, g1, s4, e4, u4, vg, i0, i1'⟩ := share k u3
      refine ⟨.part o.x o.y o.z o.w f0 f1 g0 g1, s4, ?_, u4, ⟨v, vf, vg⟩, part_small v b vf vg h0 h1' i0 i1'⟩
      subst h2
      simp [d__law_bare, b__law_bare, isOwn, len, bd_at e1, bd_at e2, bd_at e3, bd_at e4, l4, tk u4]
      rfl
    · by_cases h3 : i < 5
      · obtain ⟨a, b, c, d, s2, e2, u2, v, t1, t2, t3, t4⟩ := turn k u1
        refine ⟨.turn a b c d, s2, ?_, u2, v, turn_small' v t1 t2 t3 t4⟩
        simp [d__law_bare, b__law_bare, isOwn, len, bd_at e1, h1, h2, h3, bd_at e2, l2, tk u2]
        rfl
      · by_cases h4 : i = 5
        · obtain ⟨a, b, s2, e2, u2, v, t1, t2⟩ := setting k u1
          refine ⟨.mag a b, s2, ?_, u2, v, mag_small v t1 t2⟩
          subst h4
          simp [d__law_bare, b__law_bare, isOwn, len, bd_at e1, bd_at e2, l2, tk u2]
          rfl
        · by_cases h5 : i = 6
          · obtain ⟨j, p, s2, e2, u2, hp⟩ := one_of (k + 1) (xs := [.str "grey", .str "dull", .str "dull"]) (by decide) (by decide) u1
            obtain ⟨a, b, s3, e3, u3, v, t1, t2⟩ := share k u2
            subst h5
            rcases words_of hp with rfl | rfl
            · refine ⟨.grey a b, s3, ?_, u3, v, grey_small v t1 t2⟩
              simp [d__law_bare, b__law_bare, isOwn, len, bd_at e1, bd_at e2, bd_at e3, l2, l3, tk u3]
              rfl
            · refine ⟨.dull a b, s3, ?_, u3, v, dull_small v t1 t2⟩
              simp [d__law_bare, b__law_bare, isOwn, len, bd_at e1, bd_at e2, bd_at e3, l2, l3, tk u3]
              rfl
          · refine ⟨.glass, s1, ?_, u1, trivial, glass_small⟩
            simp [d__law_bare, b__law_bare, isOwn, len, bd_at e1, h1, h2, h3, h4, h5, l1, tk u1]
            rfl
theorem tb__law_plate : tb "_law_plate" = some d__law_plate := by kernel_rfl
theorem plate (k : Nat) {st : Store} (u : Urn st) : ∃ (p : Plate) (st' : Store), callD tb gv (k + 5) "_law_plate" [.box 0] st = .ok (.d p.D) st' ∧ Urn st' ∧ p.valid ∧ p.small 2 30 := by
  have len : st.length = 1 := by obtain ⟨_, _, _, rfl⟩ := u; rfl
  have tk : ∀ {s : Store}, Urn s → s.take 1 = s := fun h => by obtain ⟨_, _, _, rfl⟩ := h; rfl
  have l3 : decide (3 ≤ line) = true := by decide
  obtain ⟨p, s1, e1, u1, v, s⟩ := bare k u
  obtain ⟨i, s2, e2, u2, _, _⟩ := pick (k + 3) (m := 5) (by decide) (by decide) u1
  rw [callD_is tb__law_plate]
  by_cases hi : i = 0
  · obtain ⟨a, b, s3, e3, u3, v', t1, t2⟩ := setting (k + 1) u2
    refine ⟨.set a b p, s3, ?_, u3, ⟨v', v⟩, ⟨t1, t2, setV_nrm v', s⟩⟩
    subst hi
    simp [d__law_plate, b__law_plate, isOwn, len, bd_at e1, bd_at e2, bd_at e3, l3, tk u3]
    rfl
  · refine ⟨.bare p, s2, ?_, u2, v, s⟩
    simp [d__law_plate, b__law_plate, isOwn, len, bd_at e1, bd_at e2, hi, tk u2]
    rfl
end K76
end
section
set_option Elab.async false
set_option linter.all false
set_option maxRecDepth 100000
set_option maxHeartbeats 1000000
/-! K76M35: a drawn row of kinds. -/
namespace K76
open PySem Zd
theorem loop_range_st {F : PyData → Nv → M Fl} {P : Nat → Nv → Store → Prop} (lo : Int) (n : Nat) (h : ∀ j e st, j < n → P j e st → ∃ e' st', F (.int (lo + (j : Nat))) e st = .ok (.nx e') st' ∧ P (j + 1) e' st') (e : Nv) (st : Store) (p : P 0 e st) : ∃ e' st', loopL F (rangeP lo n) e st = .ok (.nx e') st' ∧ P n e' st' := by
  have k : ∀ m j, j + m = n → ∀ e st, P j e st → ∃ e' st', loopL F ((List.range' j m).map fun i => .int (lo + (i : Nat))) e st = .ok (.nx e') st' ∧ P n e' st' := by
    intro m
    induction m with
    | zero => intro j hj e st p; exact ⟨e, st, rfl, by rw [← hj]; exact p⟩
    | succ m ih =>
      intro j hj e st p
      obtain ⟨e1, s1, h1, p1⟩ := h j e st (by omega) p
      obtain ⟨e2, s2, h2, p2⟩ := ih (j + 1) (by omega) e1 s1 p1
      refine ⟨e2, s2, ?_, p2⟩
      rw [List.range'_succ, List.map_cons]
      show bd (F (.int (lo + (j : Nat))) e) _ st = _
      rw [bd_at h1]
      exact h2
  obtain ⟨e', s', h1, h2⟩ := k n 0 (by omega) e st p
  refine ⟨e', s', ?_, h2⟩
  unfold rangeP
  rw [List.range_eq_range']
  exact h1
theorem kd_can (k : Kd) : k.D.canLay0 = true := by simp [Kd.D, ip, PyData.canLay0, PyData.canLayAll0]
theorem kd_depth (k : Kd) : k.D.depth = 1 := by simp [Kd.D, ip, PyData.depth, PyData.depthAll]
theorem kds_depth : ∀ ks : List Kd, PyData.depthAll (ks.map Kd.D) ≤ 1
  | [] => by simp [PyData.depthAll]
  | k :: ks => by
    simp only [List.map_cons, PyData.depthAll, kd_depth]
    exact Nat.max_le.mpr ⟨Nat.le_refl _, kds_depth ks⟩
theorem kds_can : ∀ ks : List Kd, PyData.canLayAll0 (ks.map Kd.D) = true
  | [] => by simp [PyData.canLayAll0]
  | k :: ks => by simp only [List.map_cons, PyData.canLayAll0, kd_can, kds_can ks, Bool.and_self]
theorem kds_shaped (ks : List Kd) : SeqAt.shaped (.list (ks.map Kd.D)) = true := by
  have := kds_depth ks
  unfold SeqAt.shaped
  rw [Bool.and_eq_true, decide_eq_true_eq]
  exact ⟨by simp only [PyData.canLay0]; exact kds_can ks, by simp only [PyData.depth]; omega⟩
theorem kds_shapedT (ks : List Kd) : SeqAt.shaped (.tuple (ks.map Kd.D)) = true := by
  have := kds_depth ks
  unfold SeqAt.shaped
  rw [Bool.and_eq_true, decide_eq_true_eq]
  exact ⟨by simp only [PyData.canLay0]; exact kds_can ks, by simp only [PyData.depth]; omega⟩
theorem eq_own_nil (ks : List Kd) : cmpB .Eq (.own (ks.map Kd.D)) (.d (.list [])) = Zd.ret ks.isEmpty := by
  funext st
  show want (SeqAt.shaped (.list (ks.map Kd.D)) && SeqAt.shaped (.list [])) (Zd.ret (PyData.eqv (.list (ks.map Kd.D)) (.list []))) st = _
  rw [kds_shaped, show SeqAt.shaped (.list []) = true by decide +kernel]
  cases ks <;> simp [PyData.eqv, PyData.eqvAll]
theorem sub_own_last (ks : List Kd) (k : Kd) : subW (.own ((ks ++ [k]).map Kd.D)) (.d (.int (-1))) = Zd.ret (.d k.D) := by
  funext st
  show (match L2.atI ((ks ++ [k]).map Kd.D) (-1) with | some p => Out.ok (W.d p) st | none => Out.bad) = _
  have e : L2.atI ((ks ++ [k]).map Kd.D) (-1) = some k.D := by
    unfold L2.atI L2.ixN
    simp
    have e1 : (-1 + ((ks.length : Int) + 1)).toNat = ks.length := by omega
    rw [if_pos (by omega), e1]
    simp
  rw [e]
  rfl
def Kd.opp (k : Kd) : Kd := ⟨-k.x, -k.y, -k.z, k.w⟩
theorem opp_V {k : Kd} (h : k.V) : k.opp.V := by
  obtain ⟨h1, h2, h3⟩ := h
  refine ⟨?_, h2, ?_⟩
  · show gcdL [-k.x, -k.y, -k.z, k.w] = 1
    rw [← h1]
    simp [gcdL]
  · show (-k.x) * (-k.x) + (-k.y) * (-k.y) + (-k.z) * (-k.z) = k.w * k.w
    simp only [Int.neg_mul_neg]
    exact h3
theorem opp_B {k : Kd} {n : Nat} (h : k.B n) : k.opp.B n := ⟨h.1.neg, h.2.1.neg, h.2.2.1.neg, h.2.2.2⟩
theorem opposite (k : Nat) (o : Kd) : callD tb gv (k + 1) "_law_opposite" [.d o.D] = Zd.ret (.d o.opp.D) := to_ret fun st => by
  rw [callD_is (show tb "_law_opposite" = some d__law_opposite by kernel_rfl)]
  have l4 : decide (4 ≤ line) = true := by decide
  simp [d__law_opposite, b__law_opposite, isOwn, d4_0, d4_1, d4_2, d4_3, l4]
  rfl
def ksBody : List S := [.asg (.nm 3) (.call "_law_pick" [(.var 0), (.cst (.int 8))]), .asg (.nm 4) (.ife (.or_ (.cmp .Eq (.var 1) (.lst [])) (.cmp .Gt (.var 3) (.cst (.int 1)))) (.call "_law_kind" [(.var 0)]) (.sub (.var 1) (.neg (.cst (.int 1))))), .app 1 (.ife (.and_ (.cmp .Eq (.var 3) (.cst (.int 1))) (.cmp .Eq (.call "_law_pick" [(.var 0), (.cst (.int 2))]) (.cst (.int 0)))) (.call "_law_opposite" [(.var 4)]) (.var 4))]
def ksE (ks : List Kd) (o2 o3 o4 : Option W) : Nv := [some (.box 0), some (.own (ks.map Kd.D)), o2, o3, o4]
theorem ks_step (k : Nat) {ks : List Kd} (hl : ks.length < 100) (h : ∀ o ∈ ks, o.V ∧ o.B 5) (i : PyData) (o2 o3 o4 : Option W) {st : Store} (u : Urn st) :
    ∃ (o : Kd) (q3 q4 : Option W) (st' : Store), (bd (asgT (T.nm 2) (W.d i) (ksE ks o2 o3 o4)) fun e1 => exPs (callD tb gv (k + 3)) gv ksBody e1) st = .ok (.nx (ksE (ks ++ [o]) (some (.d i)) q3 q4)) st' ∧ Urn st' ∧ o.V ∧ o.B 5 := by
  obtain ⟨w, s1, e1, u1, w1, w2⟩ := pick (k + 2) (m := 8) (by decide) (by decide) u
  have lt : decide ((ks.map Kd.D).length < line) = true := by
    rw [List.length_map]
    exact line_lt (by omega)
  have l0 : decide (0 ≤ line) = true := by decide
  -- the kind before it is turned
  have mid : ∃ (o : Kd) (s2 : Store), (evP (callD tb gv (k + 3)) gv (.ife (.or_ (.cmp .Eq (.var 1) (.lst [])) (.cmp .Gt (.var 3) (.cst (.int 1)))) (.call "_law_kind" [(.var 0)]) (.sub (.var 1) (.neg (.cst (.int 1)))))).v [some (.box 0), some (.own (ks.map Kd.D)), some (.d i), some (.d (.int w)), o4] s1 = .ok (.d o.D) s2 ∧ Urn s2 ∧ o.V ∧ o.B 5 := by
    by_cases hk : ks = [] ∨ 1 < w
    · obtain ⟨o, s2, e2, u2, v, b⟩ := kind k u1
      refine ⟨o, s2, ?_, u2, v, b⟩
      rcases hk with rfl | hk
      · have e0 : cmpB .Eq (.own []) (.d (.list [])) = Zd.ret true := eq_own_nil []
        simp [l0, e0, e2]
      · cases hn : ks.isEmpty <;> simp [l0, eq_own_nil, hn, hk, e2]
    · have hne : ks ≠ [] := fun z => hk (.inl z)
      have hw : ¬ 1 < w := fun z => hk (.inr z)
      obtain ⟨r, o, rfl⟩ : ∃ r o, ks = r ++ [o] := ⟨ks.dropLast, ks.getLast hne, (List.dropLast_concat_getLast hne).symm⟩
      obtain ⟨v, b⟩ := h o (by simp)
      have em : (r ++ [o]).isEmpty = false := by simp
      refine ⟨o, s1, ?_, u1, v, b⟩
      have s := sub_own_last r o
      have q := eq_own_nil (r ++ [o])
      rw [em] at q
      generalize (r ++ [o]).map Kd.D = l at *
      simp [l0, q, hw, neg_i, s]
  obtain ⟨o, s2, e2, u2, v, b⟩ := mid
  have fin : ∃ (o' : Kd) (s3 : Store), (evP (callD tb gv (k + 3)) gv (.ife (.and_ (.cmp .Eq (.var 3) (.cst (.int 1))) (.cmp .Eq (.call "_law_pick" [(.var 0), (.cst (.int 2))]) (.cst (.int 0)))) (.call "_law_opposite" [(.var 4)]) (.var 4))).v [some (.box 0), some (.own (ks.map Kd.D)), some (.d i), some (.d (.int w)), some (.d o.D)] s2 = .ok (.d o'.D) s3 ∧ Urn s3 ∧ o'.V ∧ o'.B 5 := by
    by_cases hw : w = 1
    · obtain ⟨j, s3, e3, u3, _, _⟩ := pick (k + 2) (m := 2) (by decide) (by decide) u2
      by_cases hj : j = 0
      · exact ⟨o.opp, s3, by simp [hw, bd_at e3, hj, opposite], u3, opp_V v, opp_B b⟩
      · exact ⟨o, s3, by simp [hw, bd_at e3, hj], u3, v, b⟩
    · exact ⟨o, s2, by simp [hw], u2, v, b⟩
  obtain ⟨o', s3, e3, u3, v', b'⟩ := fin
  refine ⟨o', some (.d (.int w)), some (.d o.D), s3, ?_, u3, v', b'⟩
  unfold ksBody ksE
  simp only [asg_nm, bd_ret, List.set, xs_cons, x_asg, ev_call, ew_cons, ew_nil, ev_var, var_zero, ev_cst, bd_assoc]
  rw [bd_at e1]
  simp only [asg_nm, bd_ret, List.set, bd_assoc]
  rw [bd_at e2]
  simp only [asg_nm, bd_ret, List.set, x_app, appM, List.getElem?_cons_succ, List.getElem?_cons_zero, bd_assoc]
  rw [bd_at e3]
  simp only [pure_d, bd_ret, lt, want_true, xs_nil]
  simp
end K76
end
section
set_option Elab.async false
set_option linter.all false
set_option maxRecDepth 100000
set_option maxHeartbeats 1000000
/-! K76M36: the urn; the row's half of the law. -/
namespace K76
open PySem Zd
end K76
end
section
set_option Elab.async false
set_option linter.all false
set_option maxRecDepth 100000
set_option maxHeartbeats 1000000
/-! K76M37: the first half of the law's run. -/
namespace K76
open PySem Zd
theorem fits_pol : ∀ (ks : List Kd), (∀ o ∈ ks, o.V ∧ o.B 5) → ∀ N, N + 54 * ks.length ≤ 9000 → Fits 30 N (ks.map polP) (N + 54 * ks.length)
  | [], _, N, _ => .nil
  | o :: ks, h, N, hn => by
    obtain ⟨v, b⟩ := h o (by simp)
    have e : N + 54 * (o :: ks).length = N + bitsP 0 30 + 4 + 54 * ks.length := by rw [List.length_cons]; unfold bitsP; omega
    rw [e]
    have s : (polP o).small 0 30 := pol_small v b
    rw [List.length_cons] at hn
    exact .cons s (by unfold bitsP; omega) (fits_pol ks (fun q hq => h q (List.mem_cons_of_mem _ hq)) _ (by unfold bitsP; omega))
theorem wide_bd {i : Int} {n : Nat} (h : Bd n i) (hn : n ≤ 12900) : wideI i = true := by
  unfold wideI
  by_cases z : i.natAbs = 0
  · rw [z]; decide
  · exact decide_eq_true (Nat.lt_of_lt_of_le ((Nat.log2_lt z).mpr h) hn)
theorem num_ip {l : List Int} {n : Nat} (h : ∀ i ∈ l, Bd n i) (hn : n ≤ 12900) : Num (.tuple (ip l)) := .tup _ fun x hx => by
  obtain ⟨i, hi, rfl⟩ := List.mem_map.mp hx
  exact .int i (wide_bd (h i hi) hn)
theorem share_len (ks : List Kd) : (shareL ks).length = 2 := by
  cases ks with
  | nil => rfl
  | cons a r => exact overL_length _ _
theorem eq_tup_nil (ks : List Kd) : cmpB .Eq (.d (.tuple (ks.map Kd.D))) (.d (.tuple [])) = Zd.ret ks.isEmpty := by
  rw [eq_p (kds_shapedT ks) (by decide +kernel)]
  cases ks <;> simp [PyData.eqv, PyData.eqvAll]
def rs2 : S := .asg (.nm 2) (.ife (.cmp .Eq (.var 1) (.tup [])) (.tup [(.cst (.int 1)), (.cst (.int 1))]) (.tup [(.cst (.int 1)), (.cst (.int 2))]))
def rs6 : S := .ite (.cmp .NotEq (.blt .repr [(.var 5)]) (.blt .repr [(.lst [(.var 2), (.var 2), (.var 2)])])) [.ret (.cst (.bool false))] []
def told3 (ks : List Kd) : PyData := .list [.tuple (ip (shareL ks)), .tuple (ip (shareL ks)), .tuple (ip (shareL ks))]
theorem ink_told (ks : List Kd) : ink (told3 ks) ≤ 16777216 ∧ (told3 ks).depth ≤ 64 := by
  have hl := share_len ks
  unfold told3
  match shareL ks, hl with
  | [a, b], _ => exact ⟨by simp [ip, ink, inks], by simp [ip, PyData.depth, PyData.depthAll]⟩
def rightE0 : Nv := [some (.box 0), none, none, none, none, none, none, none, none, none, none, none, none, none, none]
section
variable {k : Nat} {ks : List Kd}
theorem rng_1 (n : Nat) (h : n ≤ 1000) : rngM [.d (.int 1), .d (.int (n : Int))] = Zd.ret (rangeP 1 (n - 1)) := by
  show want (b62 1 && b62 (n : Int)) (Zd.ret (rangeP 1 ((n : Int) - 1).toNat)) = _
  have : b62 (n : Int) = true := by unfold b62; simp; omega
  rw [this, show b62 1 = true by decide]
  have e : ((n : Int) - 1).toNat = n - 1 := by omega
  rw [e]
  rfl
theorem want_2 (a b : W) : wantN 2 [a, b] = Zd.ret [a, b] := rfl
end
end K76
end
section
set_option Elab.async false
set_option linter.all false
set_option maxRecDepth 100000
set_option maxHeartbeats 1000000
/-! K76M38: the second half of the law's run. -/
namespace K76
open PySem Zd
def lE (q1 q2 q3 q4 q5 o6 o7 o8 o9 o10 q11 q12 q13 : Option W) : Nv := [some (.box 0), q1, q2, q3, q4, q5, o6, o7, o8, o9, o10, q11, q12, q13, none]
def rs7 : S := .par [6, 7] [(.call "_law_plate" [(.var 0)]), (.call "_law_setting" [(.var 0)])]
def rs8 : S := .asg (.nm 8) (.call "_law_one" [(.var 0), (.lst [(.cst (.int 1)), (.cst (.int 2)), (.cst (.int 3)), (.cst (.int 4)), (.cst (.int 5)), (.cst (.int 8)), (.bin .Add (.cst (.int 1)) (.call "_law_pick" [(.var 0), (.cst (.int 24))]))])])
def rs10 : S := .asg (.nm 10) (.call "_law_of_stack" [(.var 9)])
def rs12 : S := .ite (.cmp .NotEq (.blt .repr [(.var 5)]) (.blt .repr [(.lst [(.var 10), (.var 10)])])) [.ret (.cst (.bool false))] []
section
variable {q1 q2 q3 q4 q5 q11 q12 q13 : Option W} {p : Plate} {c d : Int} {n : Nat}
theorem x7 (k : Nat) {st : Store} (u : Urn st) : ∃ (p : Plate) (c d : Int) (st' : Store), exP (callD tb gv (k + 5)) gv rs7 (lE q1 q2 q3 q4 q5 none none none none none q11 q12 q13) st = .ok (.nx (lE q1 q2 q3 q4 q5 (some (.d p.D)) (some (tp [c, d])) none none none q11 q12 q13)) st' ∧ Urn st' ∧ p.valid ∧ p.small 2 30 ∧ setV c d ∧ Bd 2 c ∧ Bd 2 d := by
  obtain ⟨p, s1, e1, u1, v, s⟩ := plate k u
  obtain ⟨c, d, s2, e2, u2, v', b1, b2⟩ := setting (k + 2) u1
  refine ⟨p, c, d, s2, ?_, u2, v, s, v', b1, b2⟩
  unfold rs7 lE
  simp [bd_at e1, bd_at e2, parE, want]
theorem many_of {j : Int} (h1 : 0 ≤ j) (h2 : j < 24) {i : Nat} {p : PyData} (h : ([.int 1, .int 2, .int 3, .int 4, .int 5, .int 8, .int (1 + j)] : List PyData)[i]? = some p) : ∃ n : Nat, p = .int (n : Int) ∧ 1 ≤ n ∧ n ≤ 24 := by
  have := List.mem_of_getElem? h
  simp at this
  rcases this with rfl | rfl | rfl | rfl | rfl | rfl | rfl
  · exact ⟨1, rfl, by decide, by decide⟩
  · exact ⟨2, rfl, by decide, by decide⟩
  · exact ⟨3, rfl, by decide, by decide⟩
  · exact ⟨4, rfl, by decide, by decide⟩
  · exact ⟨5, rfl, by decide, by decide⟩
  · exact ⟨8, rfl, by decide, by decide⟩
  · exact ⟨(1 + j).toNat, by congr 1; omega, by omega, by omega⟩
theorem x8 (k : Nat) {o6 o7 : Option W} {st : Store} (u : Urn st) : ∃ (n : Nat) (st' : Store), exP (callD tb gv (k + 2)) gv rs8 (lE q1 q2 q3 q4 q5 o6 o7 none none none q11 q12 q13) st = .ok (.nx (lE q1 q2 q3 q4 q5 o6 o7 (some (.d (.int (n : Int)))) none none q11 q12 q13)) st' ∧ Urn st' ∧ 1 ≤ n ∧ n ≤ 24 := by
  obtain ⟨j, s1, e1, u1, j1, j2⟩ := pick (k + 1) (m := 24) (by decide) (by decide) u
  obtain ⟨i, p, s2, e2, u2, hp⟩ := one_of k (xs := [.int 1, .int 2, .int 3, .int 4, .int 5, .int 8, .int (1 + j)]) (by simp) (by simp) u1
  obtain ⟨n, rfl, n1, n2⟩ := many_of j1 j2 hp
  have l7 : decide (7 ≤ line) = true := by decide
  refine ⟨n, s2, ?_, u2, n1, n2⟩
  unfold rs8 lE
  simp [bd_at e1, bd_at e2, l7]
theorem inks_ip : ∀ l : List Int, inks (ip l) = 4303 * l.length
  | [] => by simp [ip, inks]
  | i :: l => by
    show inks (.int i :: ip l) = _
    simp only [inks, ink, inks_ip l, List.length_cons]
    omega
theorem dall_ip : ∀ l : List Int, PyData.depthAll (ip l) = 0
  | [] => by simp [ip, PyData.depthAll]
  | i :: l => by
    show PyData.depthAll (.int i :: ip l) = _
    simp only [PyData.depthAll, PyData.depth, dall_ip l]
    rfl
theorem num_tab {R : List (List Int)} {b : Int} {N : Nat} (f : Fine N R b) (hN : N ≤ 12900) : Num (tabT R b) ∧ ink (tabT R b) ≤ 100000 ∧ (tabT R b).depth ≤ 60 := by
  have bds := overL_bd (flat_bd f.bR) f.bb
  unfold tabT
  generalize overL R.flatten b = l at bds
  have m1 : ∀ i ∈ l.take 4, Bd N i := fun i hi => bds i (List.mem_of_mem_take hi)
  have m2 : ∀ k, ∀ i ∈ (l.drop k).take 4, Bd N i := fun k i hi => bds i (List.mem_of_mem_drop (List.mem_of_mem_take hi))
  have n1 : ∀ m : List Int, (m.take 4).length ≤ 4 := fun m => by rw [List.length_take]; omega
  refine ⟨?_, ?_, ?_⟩
  · refine .tup _ fun x hx => ?_
    rcases List.mem_cons.mp hx with rfl | hx
    · refine .tup _ fun y hy => ?_
      rcases List.mem_cons.mp hy with rfl | hy
      · exact num_ip m1 hN
      · rcases List.mem_cons.mp hy with rfl | hy
        · exact num_ip (m2 4) hN
        · rcases List.mem_cons.mp hy with rfl | hy
          · exact num_ip (m2 8) hN
          · rw [List.mem_singleton.mp hy]
            exact num_ip (m2 12) hN
    · rw [List.mem_singleton.mp hx]
      exact .int _ (wide_bd (getD_bd bds) hN)
  · have h1 := n1 l
    have h2 := n1 (l.drop 4)
    have h3 := n1 (l.drop 8)
    have h4 := n1 (l.drop 12)
    simp only [tabD, ink, inks, inks_ip]
    omega
  · simp only [tabD, PyData.depth, PyData.depthAll, dall_ip]
    decide
end
end K76
end
section
set_option Elab.async false
set_option linter.all false
set_option maxRecDepth 100000
set_option maxHeartbeats 1000000
/-! K76M39: the urn, the law. -/
namespace K76
open PySem Zd
theorem br {α β : Type} {a : α} {k : α → Zd.M β} : bd (Zd.ret a) k = k a := (rfl)
theorem ev_lstB {C : Str → List W → M W} {gv : Str → Option PyData} {xs : List E} {e : Nv} : (evP C gv (.lstB xs)).v e = bd (evs C gv xs e) fun ps => want (decide (ps.length ≤ line)) fun st => .ok (.box st.length) (st ++ [ps]) := by
  conv => lhs; unfold evP
  try rfl
theorem ev_scp {C : Str → List W → M W} {gv : Str → Option PyData} {a : E} {e : Nv} {st : Store} : (evP C gv (.scp a)).v e st = bd ((evP C gv a).v e) (dropTo st.length) st := by
  conv => lhs; unfold evP
  try rfl
theorem len_rd {xs : List PyData} : bltW .len [.rd xs] = Zd.ret (.d (.int xs.length)) := rfl
theorem sub_rd {ns : List Int} {j : Nat} (h : j < ns.length) : subW (.rd (ip ns)) (.d (.int (j : Int))) = Zd.ret (.d (.int (ns.getD j 0))) := by
  funext st
  show (match L2.atI (ip ns) (j : Int) with | some p => Out.ok (W.d p) st | none => Out.bad) = _
  rw [at_ip h]
  rfl
theorem cut_ip (ns : List Int) (n : Nat) : cutP (ip ns) none (some (n : Int)) = ip (ns.take n) := by
  unfold cutP ip
  rw [← List.map_drop, ← List.map_take]
  congr 1
  rw [List.length_map]
  have e1 : HT.sIx ns.length 0 none = 0 := rfl
  have e2 : HT.sIx ns.length ns.length (some (n : Int)) = min n ns.length := HT.sIx_nat ..
  rw [e1, e2, List.drop_zero, Nat.sub_zero]
  rcases Nat.le_total n ns.length with h | h
  · rw [Nat.min_eq_left h]
  · rw [Nat.min_eq_right h, List.take_of_length_le (Nat.le_refl _), List.take_of_length_le h]
def urnBody : List S := [.asg (.nm 3) (.bin .Mod (.blt .int [(.bin .Add (.bin .Add (.bin .Mult (.var 3) (.cst (.int 69069))) (.bin .Mod (.blt .int [(.var 4)]) (.cst (.int 2147483629)))) (.cst (.int 3)))]) (.cst (.int 2147483629)))]
theorem add_ll {l m : List Int} (h : l.length + m.length ≤ line) : binW .Add (.d (.list (ip l))) (.d (.list (ip m))) = Zd.ret (.d (.list (ip (l ++ m)))) := by
  rw [add_l (by rw [ip_length, ip_length]; exact h), ip_app]
theorem pow_10 : binW .Pow (.d (.int 10)) (.d (.int 18)) = Zd.ret (.d (.int (10 ^ 18))) := by
  funext st
  show want (decide ((0 : Int) ≤ 18) && decide ((18 : Int) ≤ 1000000) && decide ((10 : Int).natAbs < 2 ^ 64)) (Zd.int (10 ^ (18 : Int).toNat)) st = _
  rfl
theorem urn_big (k : Nat) (q M : Int) (w0 w1 o4 : Option W) : ∃ X : Int, (evP (callD tb gv k) gv (.ife (.or_ (.cmp .Lt (.var 2) (.cst (.int 0))) (.cmp .GtE (.var 2) (.bin .Pow (.cst (.int 10)) (.cst (.int 18))))) (.blt .abs [(.var 2)]) (.cst (.int 0)))).v [w0, w1, some (.d (.int q)), some (.d (.int M)), o4] = Zd.ret (.d (.int X)) := by
  rw [ev_ife, et_or, et_cmp, et_cmp, ev_bin]
  simp only [ev_var, ev_cst, var_succ, var_zero, bd_ret, lt_i, pow_10, ge_i]
  cases decide (q < 0)
  · rw [ifM_false]
    cases decide ((10 : Int) ^ 18 ≤ q)
    · exact ⟨0, rfl⟩
    · rw [bd_ret, ifM_true, ev_blt, ew_cons, ew_nil]
      simp only [ev_var, var_succ, var_zero, bd_ret, abs_i]
      exact ⟨_, rfl⟩
  · rw [ifM_true, bd_ret, ifM_true, ev_blt, ew_cons, ew_nil]
    simp only [ev_var, var_succ, var_zero, bd_ret, abs_i]
    exact ⟨_, rfl⟩
theorem urn_loop (k : Nat) {W0 W1 W2 : Option W} (st : Store) (l : List Int) : ∀ (M : Int) (o : Option W), ∃ M' o', loopL (fun x e => bd (asgT (T.nm 4) (W.d x) e) fun e1 => exPs (callD tb gv k) gv urnBody e1) (ip l) [W0, W1, W2, some (.d (.int M)), o] st = .ok (.nx [W0, W1, W2, some (.d (.int M')), o']) st := by
  induction l with
  | nil => exact fun M o => ⟨M, o, rfl⟩
  | cons i l ih =>
    intro M o
    obtain ⟨M', o', h⟩ := ih ((M * 69069 + i.fmod 2147483629 + 3).fmod 2147483629) (some (.d (.int i)))
    refine ⟨M', o', ?_⟩
    show bd (bd (asgT (T.nm 4) (W.d (.int i)) [W0, W1, W2, some (.d (.int M)), o]) fun e1 => exPs (callD tb gv k) gv urnBody e1) _ st = _
    have m1 : mulOk M 69069 = true := mulOk_r (by decide)
    have d6 : ∀ i : Int, binW .Mod (.d (.int i)) (.d (.int 2147483629)) = Zd.ret (.d (.int (i.fmod 2147483629))) := fun i => mod_i (by decide)
    have s : (bd (asgT (T.nm 4) (W.d (.int i)) [W0, W1, W2, some (.d (.int M)), o]) fun e1 => exPs (callD tb gv k) gv urnBody e1) = Zd.ret (.nx [W0, W1, W2, some (.d (.int ((M * 69069 + i.fmod 2147483629 + 3).fmod 2147483629))), some (.d (.int i))]) := by
      unfold urnBody
      simp [m1, d6]
    rw [s, bd_ret]
    exact h
theorem urn_end (X M : Int) : endM 0 (bd (fun st => Out.ok (W.box (List.length st)) (st ++ [[PyData.int X, PyData.int M, PyData.int 0]])) (fun w => Zd.ret (Fl.rt w)) []) = Out.ok (W.box 0) (U X M 0) := by
  rfl
theorem tb__law_urn : tb "_law_urn" = some d__law_urn := by kernel_rfl
theorem urn (k : Nat) (ns : List Int) (hl : ns.length ≤ 63) (i : Nat) : ∃ st', callD tb gv (k + 1) "_law_urn" [.rd (ip ns), .d (.int (i : Int))] [] = .ok (.box 0) st' ∧ Urn st' := by
  rw [callD_is tb__law_urn]
  have m1 : mulOk 60013 (i : Int) = true := mulOk_l (by decide)
  have m2 : mulOk 3571 (i : Int) = true := mulOk_l (by decide)
  have d5 : ∀ i : Int, binW .Mod (.d (.int i)) (.d (.int 1000033)) = Zd.ret (.d (.int (i.fmod 1000033))) := fun i => mod_i (by decide)
  have c3 : cutP (ip ns) none (some 3) = ip (ns.take 3) := cut_ip ns 3
  have c9 : cutP (ip ns) none (some 9) = ip (ns.take 9) := cut_ip ns 9
  have l1 : decide (1 ≤ line) = true := by decide
  have l3 : decide (3 ≤ line) = true := by decide
  -- the own number
  have own : ∃ q : Int, (evP (callD tb gv k) gv (.ife (.cmp .Lt (.var 1) (.blt .len [(.var 0)])) (.blt .int [(.sub (.var 0) (.var 1))]) (.bin .Add (.bin .Add (.bin .Mod (.blt .int [(.blt .sum [(.slice (.var 0) .no (.cst (.int 3)))])]) (.cst (.int 1000033))) (.bin .Mult (.cst (.int 60013)) (.var 1))) (.cst (.int 29))))).v [some (.rd (ip ns)), some (.d (.int (i : Int))), none, none, none] = Zd.ret (.d (.int q)) := by
    by_cases h : i < ns.length
    · have g : (i : Int) < ((ip ns).length : Int) := by rw [ip_length]; omega
      exact ⟨ns.getD i 0, by simp [len_rd, g, sub_rd h]⟩
    · have g : ¬ (i : Int) < ((ip ns).length : Int) := by rw [ip_length]; omega
      exact ⟨(ns.take 3).sum.fmod 1000033 + 60013 * (i : Int) + 29, by simp [len_rd, g, c3, sum_ip, d5, m1]⟩
  obtain ⟨q, eq⟩ := own
  have e0 : b__law_urn = [.asg (.nm 2) (.ife (.cmp .Lt (.var 1) (.blt .len [(.var 0)])) (.blt .int [(.sub (.var 0) (.var 1))]) (.bin .Add (.bin .Add (.bin .Mod (.blt .int [(.blt .sum [(.slice (.var 0) .no (.cst (.int 3)))])]) (.cst (.int 1000033))) (.bin .Mult (.cst (.int 60013)) (.var 1))) (.cst (.int 29)))),
    .asg (.nm 3) (.bin .Add (.cst (.int 22697)) (.bin .Mult (.cst (.int 3571)) (.var 1))), .for_ (.nm 4) (.bin .Add (.slice (.var 0) .no (.cst (.int 9))) (.lst [(.var 2)])) urnBody,
    .ret (.lstB [(.ife (.or_ (.cmp .Lt (.var 2) (.cst (.int 0))) (.cmp .GtE (.var 2) (.bin .Pow (.cst (.int 10)) (.cst (.int 18))))) (.blt .abs [(.var 2)]) (.cst (.int 0))), (.var 3), (.cst (.int 0))])] := rfl
  obtain ⟨M', o', lp⟩ := urn_loop k (W0 := some (.rd (ip ns))) (W1 := some (.d (.int (i : Int)))) (W2 := some (.d (.int q))) [] (ns.take 9 ++ [q]) (22697 + 3571 * (i : Int)) none
  have a1 : binW .Add (.d (.list (ip (ns.take 9)))) (.d (.list [.int q])) = Zd.ret (.d (.list (ip (ns.take 9 ++ [q])))) := add_ll (l := ns.take 9) (m := [q]) (by
    have : (ns.take 9).length ≤ 9 := by rw [List.length_take]; omega
    show (ns.take 9).length + 1 ≤ 16777216
    omega)
  simp only [d__law_urn, e0]
  simp only [List.length_cons, List.length_nil, Nat.zero_add, Nat.reduceAdd, decide_true, List.any_cons, isOwn, List.any_nil, Bool.or_self, Bool.not_false, Bool.and_self, want_true, List.map_cons, List.map_nil, Nat.reduceSub, List.reduceReplicate, List.cons_append, List.nil_append, xs_cons, x_asg]
  rw [eq]
  simp only [br, asg_nm, List.set, bd_assoc, ev_bin, ev_cst, ev_var, var_succ, var_zero, mul_i m2, add_i, x_for, ei_bin, ev_slice, prt_no, prt_cst, part_i, slice_r, c9, ev_lst, es_var, es_nil, pure_d, List.length_cons, List.length_nil, Nat.zero_add, Nat.reduceAdd, l1, want_true, a1, items_l]
  simp only [asg_nm, br] at lp
  rw [bd_at lp]
  obtain ⟨X, eX⟩ := urn_big k q M' (some (.rd (ip ns))) (some (.d (.int (i : Int)))) o'
  refine ⟨U X M' 0, ?_, ⟨_, _, _, rfl⟩⟩
  simp only [x_ret, ev_lstB, es_ife, eX, br, bd_assoc, pure_d, es_var, ev_var, var_succ, var_zero, es_cst, ev_cst, es_nil, List.length_cons, List.length_nil, Nat.zero_add, Nat.reduceAdd, l3, want_true]
  have z : endM 0 (bd (fun st => Out.ok (W.box (List.length st)) (st ++ [[PyData.int X, PyData.int M', PyData.int 0]])) (fun w => Zd.ret (Fl.rt w)) []) = Out.ok (W.box 0) (U X M' 0) := urn_end X M'
  exact z
theorem tb_law : tb "law" = some d_law := by kernel_rfl
end K76
end
section
set_option linter.all false
set_option maxRecDepth 100000
set_option maxHeartbeats 2000000
/-! Cone: four numbers of lights; a table that leads lights to lights makes dark within two rounds or never. -/
namespace Cone
structure V4 where
  a : Int
  b : Int
  c : Int
  d : Int
deriving DecidableEq
def V4.q (v : V4) : Int := v.a * v.a - v.b * v.b - v.c * v.c - v.d * v.d
def V4.p (v w : V4) : Int := v.a * w.a - v.b * w.b - v.c * w.c - v.d * w.d
def K (v : V4) : Prop := 0 ≤ v.a ∧ 0 ≤ v.q
def lin (m n : Int) (v w : V4) : V4 := ⟨m * v.a + n * w.a, m * v.b + n * w.b, m * v.c + n * w.c, m * v.d + n * w.d⟩
def zero : V4 := ⟨0, 0, 0, 0⟩
theorem sq0 (x : Int) : 0 ≤ x * x := by rcases Int.le_total 0 x with h | h; exact Int.mul_nonneg h h; exact Int.mul_nonneg_of_nonpos_of_nonpos h h
theorem sq_eq {x : Int} (h : x * x ≤ 0) : x = 0 := by
  have := sq0 x
  have e : x * x = 0 := by omega
  rcases Int.mul_eq_zero.mp e with z | z <;> exact z
theorem sq_le {x y : Int} (hy : 0 ≤ y) (h : x * x ≤ y * y) : x ≤ y := by
  rcases Int.lt_or_le y x with z | z
  · exfalso
    have h1 : y * y < x * x := by
      have : y * y ≤ y * x := Int.mul_le_mul_of_nonneg_left (by omega) hy
      have : y * x < x * x := Int.mul_lt_mul_of_pos_right z (by omega)
      omega
    omega
  · exact z
theorem q_lin (m n : Int) (v w : V4) : (lin m n v w).q = m * m * v.q + 2 * m * n * v.p w + n * n * w.q := by unfold lin V4.q V4.p; grind
/-- Cauchy and Schwarz, three numbers -/
theorem cauchy (b c d x y z : Int) : (b * x + c * y + d * z) * (b * x + c * y + d * z) ≤ (b * b + c * c + d * d) * (x * x + y * y + z * z) := by
  have e : (b * b + c * c + d * d) * (x * x + y * y + z * z) - (b * x + c * y + d * z) * (b * x + c * y + d * z) = (b * y - c * x) * (b * y - c * x) + (b * z - d * x) * (b * z - d * x) + (c * z - d * y) * (c * z - d * y) := by grind
  have h1 := sq0 (b * y - c * x)
  have h2 := sq0 (b * z - d * x)
  have h3 := sq0 (c * z - d * y)
  omega
theorem dot_le {v w : V4} (hv : K v) (hw : K w) : v.b * w.b + v.c * w.c + v.d * w.d ≤ v.a * w.a := by
  obtain ⟨v0, vq⟩ := hv
  obtain ⟨w0, wq⟩ := hw
  unfold V4.q at vq wq
  refine sq_le (Int.mul_nonneg v0 w0) ?_
  have c := cauchy v.b v.c v.d w.b w.c w.d
  have h1 : (v.b * v.b + v.c * v.c + v.d * v.d) * (w.b * w.b + w.c * w.c + w.d * w.d) ≤ (v.a * v.a) * (w.a * w.a) := by
    have := sq0 w.b
    have := sq0 w.c
    have := sq0 w.d
    exact Int.mul_le_mul (by omega) (by omega) (by omega) (sq0 _)
  have e : v.a * w.a * (v.a * w.a) = (v.a * v.a) * (w.a * w.a) := by grind
  omega
theorem p_pos {v w : V4} (hv : K v) (hw : K w) : 0 ≤ v.p w := by
  have := dot_le hv hw
  unfold V4.p
  omega
theorem K_lin {m n : Int} {v w : V4} (hm : 0 ≤ m) (hn : 0 ≤ n) (hv : K v) (hw : K w) : K (lin m n v w) := by
  have p := p_pos hv hw
  refine ⟨?_, ?_⟩
  · have := Int.mul_nonneg hm hv.1
    have := Int.mul_nonneg hn hw.1
    show 0 ≤ m * v.a + n * w.a
    omega
  · rw [q_lin]
    have h1 := Int.mul_nonneg (sq0 m) hv.2
    have h2 := Int.mul_nonneg (sq0 n) hw.2
    have h3 := Int.mul_nonneg (Int.mul_nonneg (Int.mul_nonneg (by decide : (0 : Int) ≤ 2) hm) hn) p
    omega
/-- on the edge, two lights are multiples -/
theorem par {v w : V4} (hv : K v) (hw : K w) (h : v.p w = 0) : v.a * w.b = w.a * v.b ∧ v.a * w.c = w.a * v.c ∧ v.a * w.d = w.a * v.d := by
  obtain ⟨v0, vq⟩ := hv
  obtain ⟨w0, wq⟩ := hw
  unfold V4.q at vq wq
  unfold V4.p at h
  have e : (v.a * w.b - w.a * v.b) * (v.a * w.b - w.a * v.b) + (v.a * w.c - w.a * v.c) * (v.a * w.c - w.a * v.c) + (v.a * w.d - w.a * v.d) * (v.a * w.d - w.a * v.d) = v.a * v.a * (w.b * w.b + w.c * w.c + w.d * w.d) - 2 * (v.a * w.a) * (v.b * w.b + v.c * w.c + v.d * w.d) + w.a * w.a * (v.b * v.b + v.c * v.c + v.d * v.d) := by grind
  have h1 : v.a * v.a * (w.b * w.b + w.c * w.c + w.d * w.d) ≤ v.a * v.a * (w.a * w.a) := Int.mul_le_mul_of_nonneg_left (by omega) (sq0 _)
  have h2 : w.a * w.a * (v.b * v.b + v.c * v.c + v.d * v.d) ≤ w.a * w.a * (v.a * v.a) := Int.mul_le_mul_of_nonneg_left (by omega) (sq0 _)
  have h3 : v.b * w.b + v.c * w.c + v.d * w.d = v.a * w.a := by omega
  rw [h3] at e
  have e4 : 2 * (v.a * w.a) * (v.a * w.a) = v.a * v.a * (w.a * w.a) + w.a * w.a * (v.a * v.a) := by grind
  have s1 := sq0 (v.a * w.b - w.a * v.b)
  have s2 := sq0 (v.a * w.c - w.a * v.c)
  have s3 := sq0 (v.a * w.d - w.a * v.d)
  have z1 := sq_eq (x := v.a * w.b - w.a * v.b) (by omega)
  have z2 := sq_eq (x := v.a * w.c - w.a * v.c) (by omega)
  have z3 := sq_eq (x := v.a * w.d - w.a * v.d) (by omega)
  omega
/-- within, everything is below a multiple -/
theorem below {x y : V4} (hx : K x) (hq : 0 < x.q) (hy : K y) : ∃ C : Int, 0 < C ∧ K (lin C (-1) x y) := by
  obtain ⟨x0, _⟩ := hx
  obtain ⟨y0, yq⟩ := hy
  have xp : 0 < x.a := by
    rcases Int.lt_or_le 0 x.a with h | h
    · exact h
    · exfalso
      have z : x.a = 0 := by omega
      unfold V4.q at hq
      rw [z] at hq
      have := sq0 x.b
      have := sq0 x.c
      have := sq0 x.d
      omega
  have xy := Int.mul_nonneg x0 y0
  refine ⟨4 * (x.a * y.a) + y.a + 1, by omega, ?_, ?_⟩
  · show 0 ≤ (4 * (x.a * y.a) + y.a + 1) * x.a + -1 * y.a
    have h1 : y.a * 1 ≤ y.a * x.a := Int.mul_le_mul_of_nonneg_left (by omega) y0
    have h2 := Int.mul_nonneg (Int.mul_nonneg (by decide : (0 : Int) ≤ 4) xy) x0
    have e : (4 * (x.a * y.a) + y.a + 1) * x.a = 4 * (x.a * y.a) * x.a + y.a * x.a + x.a := by grind
    omega
  · rw [q_lin]
    generalize hC : 4 * (x.a * y.a) + y.a + 1 = C
    have C0 : 0 < C := by omega
    have pb : x.p y ≤ 2 * (x.a * y.a) := by
      have n : K ⟨x.a, -x.b, -x.c, -x.d⟩ := ⟨x0, by unfold V4.q at *; simp only [Int.neg_mul_neg]; omega⟩
      have := dot_le n ⟨y0, yq⟩
      simp only [Int.neg_mul] at this
      unfold V4.p
      omega
    have h1 : C * (2 * x.p y) ≤ C * C := Int.mul_le_mul_of_nonneg_left (by omega) (by omega)
    have h2 : C * C * 1 ≤ C * C * x.q := Int.mul_le_mul_of_nonneg_left (by omega) (sq0 _)
    have e : 2 * C * -1 * x.p y = -(C * (2 * x.p y)) := by grind
    omega
structure Map (f : V4 → V4) : Prop where
  lin : ∀ m n v w, f (lin m n v w) = lin m n (f v) (f w)
  keep : ∀ v, K v → K (f v)
theorem dark_of {v : V4} (h : K v) (z : v.a ≤ 0) : v = zero := by
  obtain ⟨v0, vq⟩ := h
  have a0 : v.a = 0 := by omega
  unfold V4.q at vq
  rw [a0] at vq
  have := sq0 v.b
  have := sq0 v.c
  have := sq0 v.d
  have hb := sq_eq (x := v.b) (by omega)
  have hc := sq_eq (x := v.c) (by omega)
  have hd := sq_eq (x := v.d) (by omega)
  obtain ⟨a, b, c, d⟩ := v
  simp only at a0 hb hc hd
  subst a0 hb hc hd
  rfl
theorem map_zero {f : V4 → V4} (F : Map f) : f zero = zero := by
  have h := F.lin 0 0 zero zero
  have e : ∀ v w : V4, lin 0 0 v w = zero := fun v w => by unfold lin zero; simp
  rw [e, e] at h
  exact h
/-- what is dark after three rounds is dark after two -/
theorem three {f : V4 → V4} (F : Map f) {v : V4} (hv : K v) (h : f (f (f v)) = zero) : f (f v) = zero := by
  have hu := F.keep v hv
  have ht := F.keep _ hu
  generalize hue : f v = u at *
  generalize hte : f u = t at *
  rcases Int.lt_or_le 0 t.a with t0 | t0
  · exfalso
    rcases Int.lt_or_le 0 u.q with uq | uq
    · obtain ⟨C, C0, k1⟩ := below hu uq hv
      have k2 := F.keep _ (F.keep _ k1)
      rw [F.lin, F.lin, hue, hte, h] at k2
      have := k2.1
      simp only [lin, zero] at this
      omega
    · have uz : u.q = 0 := by have := hu.2; omega
      have hx := K_lin (m := 1) (n := 1) (by decide) (by decide) hv ht
      rcases Int.lt_or_le 0 (lin 1 1 v t).q with xq | xq
      · obtain ⟨C, C0, k1⟩ := below hx xq hu
        have k2 := F.keep _ k1
        rw [F.lin, F.lin, hue, hte, h] at k2
        have e : lin C (-1) (lin 1 1 u zero) t = lin C (-1) u t := by unfold lin zero; simp
        rw [e] at k2
        have pq := p_pos k2 ht
        have pz : (lin C (-1) u t).p t = 0 := by
          have k := k2.2
          rw [q_lin, uz] at k
          have tq := ht.2
          have e2 : (lin C (-1) u t).p t = C * u.p t - t.q := by unfold lin V4.p V4.q; grind
          have e3 : 2 * C * -1 * u.p t = -(2 * (C * u.p t)) := by grind
          rw [e2] at pq ⊢
          have e4 : C * C * 0 = 0 := by simp
          have e5 : -1 * -1 * t.q = t.q := by simp
          omega
        obtain ⟨p1, p2, p3⟩ := par k2 ht pz
        have g : lin u.a 0 t zero = lin t.a 0 u zero := by
          have c1 : C * (u.a * t.b) = C * (t.a * u.b) := by
            simp only [lin] at p1
            grind
          have c2 : C * (u.a * t.c) = C * (t.a * u.c) := by
            simp only [lin] at p2
            grind
          have c3 : C * (u.a * t.d) = C * (t.a * u.d) := by
            simp only [lin] at p3
            grind
          have C0' : C ≠ 0 := by omega
          have d1 := Int.eq_of_mul_eq_mul_left C0' c1
          have d2 := Int.eq_of_mul_eq_mul_left C0' c2
          have d3 := Int.eq_of_mul_eq_mul_left C0' c3
          unfold lin zero
          simp only [Int.mul_zero, Int.add_zero, Int.zero_mul, d1, d2, d3, Int.mul_comm]
        have g2 := congrArg f g
        rw [F.lin, F.lin, h, hte, map_zero F] at g2
        have g3 := congrArg V4.a g2
        simp only [lin, zero, Int.mul_zero, Int.add_zero] at g3
        have := Int.mul_pos t0 t0
        omega
      · have xz : (lin 1 1 v t).q ≤ 0 := xq
        rw [q_lin] at xz
        have pv := p_pos hv ht
        have vq := hv.2
        have tq := ht.2
        have pz : v.p t = 0 := by
          have e1 : (1 : Int) * 1 * v.q = v.q := by simp
          have e2 : (2 : Int) * 1 * 1 * v.p t = 2 * v.p t := by simp
          have e3 : (1 : Int) * 1 * t.q = t.q := by simp
          omega
        obtain ⟨p1, p2, p3⟩ := par hv ht pz
        have g : lin v.a 0 t zero = lin t.a 0 v zero := by
          unfold lin zero
          simp only [Int.mul_zero, Int.add_zero, Int.zero_mul, p1, p2, p3, Int.mul_comm]
        have g2 := congrArg f g
        rw [F.lin, F.lin, h, hue, map_zero F] at g2
        have ga := congrArg V4.a g2
        simp only [lin, zero, Int.mul_zero, Int.add_zero] at ga
        have ua : u.a = 0 := by
          rcases Int.mul_eq_zero.mp ga.symm with z | z
          · omega
          · exact z
        have uz' := dark_of hu (by omega)
        have : t = zero := by rw [← hte, uz', map_zero F]
        rw [this] at t0
        simp [zero] at t0
  · exact dark_of ht t0
def iter (f : V4 → V4) : Nat → V4 → V4
  | 0, v => v
  | n + 1, v => f (iter f n v)
theorem iter_K {f : V4 → V4} (F : Map f) {v : V4} (h : K v) : ∀ n, K (iter f n v)
  | 0 => h
  | n + 1 => F.keep _ (iter_K F h n)
/-- dark at some time: dark after two rounds -/
theorem two {f : V4 → V4} (F : Map f) {v : V4} (h : K v) : ∀ n, iter f (n + 2) v = zero → iter f 2 v = zero
  | 0, z => z
  | n + 1, z => two F h n (three F (iter_K F h n) z)
/-- and dark from then on -/
theorem stay {f : V4 → V4} (F : Map f) {v : V4} {n : Nat} (z : iter f n v = zero) : ∀ m, iter f (n + m) v = zero
  | 0 => z
  | m + 1 => by
    show f (iter f (n + m) v) = zero
    rw [stay F z m, map_zero F]
end Cone
end
section
set_option Elab.async false
set_option linter.all false
set_option maxRecDepth 100000
set_option maxHeartbeats 2000000
/-! K76N1: tables of plates lead lights to lights. -/
namespace K76
open PySem Zd Cone
def _root_.Cone.V4.L (v : V4) : List Int := [v.a, v.b, v.c, v.d]
def appV (R : List (List Int)) (v : V4) : V4 := ⟨dotL (R.getD 0 []) v.L, dotL (R.getD 1 []) v.L, dotL (R.getD 2 []) v.L, dotL (R.getD 3 []) v.L⟩
theorem dot4e (p q r s a b c d : Int) : dotL [p, q, r, s] [a, b, c, d] = p * a + q * b + r * c + s * d := by
  unfold dotL
  simp
  omega
theorem L_app {R : List (List Int)} (h : okR R) (v : V4) : (R.map fun r => dotL r v.L) = (appV R v).L := by
  obtain ⟨h1, _⟩ := h
  match R, h1 with
  | [_, _, _, _], _ => rfl
theorem appV_lin {R : List (List Int)} (h : okR R) (m n : Int) (v w : V4) : appV R (lin m n v w) = lin m n (appV R v) (appV R w) := by
  obtain ⟨h1, h2⟩ := h
  match R, h1 with
  | [x, y, z, u], _ =>
    have k : ∀ r : List Int, r.length = 4 → dotL r (lin m n v w).L = m * dotL r v.L + n * dotL r w.L := fun r hr => by
      match r, hr with
      | [p, q, r, s], _ =>
        unfold V4.L
        simp only [lin]
        rw [dot4e, dot4e, dot4e]
        grind
    have e1 := k x (h2 x (by simp))
    have e2 := k y (h2 y (by simp))
    have e3 := k z (h2 z (by simp))
    have e4 := k u (h2 u (by simp))
    show (⟨_, _, _, _⟩ : V4) = ⟨_, _, _, _⟩
    congr 1
theorem appV_prod {P R : List (List Int)} (hP : okR P) (hR : okR R) (v : V4) : appV (prodL P R) v = appV P (appV R v) := by
  obtain ⟨h1, h2⟩ := hP
  obtain ⟨g1, g2⟩ := hR
  match R, g1 with
  | [x, y, z, w], _ =>
    have e1 := g2 x (by simp)
    have e2 := g2 y (by simp)
    have e3 := g2 z (by simp)
    have e4 := g2 w (by simp)
    match x, y, z, w, e1, e2, e3, e4 with
    | [x0, x1, x2, x3], [y0, y1, y2, y3], [z0, z1, z2, z3], [w0, w1, w2, w3], _, _, _, _ =>
      have k : ∀ r : List Int, r.length = 4 → dotL ((transp [[x0, x1, x2, x3], [y0, y1, y2, y3], [z0, z1, z2, z3], [w0, w1, w2, w3]]).map fun c => dotL r c) v.L = dotL r (appV [[x0, x1, x2, x3], [y0, y1, y2, y3], [z0, z1, z2, z3], [w0, w1, w2, w3]] v).L := fun r hr => by
        match r, hr with
        | [p, q, r, s], _ =>
          have t : transp [[x0, x1, x2, x3], [y0, y1, y2, y3], [z0, z1, z2, z3], [w0, w1, w2, w3]] = [[x0, y0, z0, w0], [x1, y1, z1, w1], [x2, y2, z2, w2], [x3, y3, z3, w3]] := rfl
          rw [t]
          unfold V4.L appV V4.L
          simp only [List.map_cons, List.map_nil, dot4e, List.getD_cons_zero, List.getD_cons_succ]
          grind
      match P, h1 with
      | [a, b, c, d], _ =>
        have f1 := k a (h2 a (by simp))
        have f2 := k b (h2 b (by simp))
        have f3 := k c (h2 c (by simp))
        have f4 := k d (h2 d (by simp))
        show (⟨_, _, _, _⟩ : V4) = ⟨_, _, _, _⟩
        congr 1
def Keeps (R : List (List Int)) : Prop := okR R ∧ ∀ v, K v → K (appV R v)
theorem Keeps.prod {P R : List (List Int)} (hP : Keeps P) (hR : Keeps R) : Keeps (prodL P R) := ⟨prodL_ok hP.1, fun v h => by
  rw [appV_prod hP.1 hR.1]
  exact hP.2 _ (hR.2 _ h)⟩
theorem Keeps.map {R : List (List Int)} (h : Keeps R) : Map (appV R) := ⟨appV_lin h.1, h.2⟩
theorem keeps_unit : Keeps unitR := ⟨⟨rfl, by simp [unitR]⟩, fun v h => by
  have e : appV unitR v = v := by
    unfold appV unitR V4.L
    simp only [List.getD_cons_zero, List.getD_cons_succ, dot4e]
    simp
  rw [e]
  exact h⟩
theorem keeps_glass : Keeps glassR := ⟨⟨rfl, by simp [glassR]⟩, fun v h => by
  have e : appV glassR v = ⟨v.a, v.b, v.c, -v.d⟩ := by
    unfold appV glassR V4.L
    simp only [List.getD_cons_zero, List.getD_cons_succ, dot4e]
    simp
  rw [e]
  refine ⟨h.1, ?_⟩
  have := h.2
  unfold V4.q at *
  simp only [Int.neg_mul_neg]
  exact this⟩
theorem keeps_diag {s t : Int} (h0 : 0 ≤ t) (h1 : t ≤ s) : Keeps (diagR s t) := ⟨diagR_ok s t, fun v h => by
  have e : appV (diagR s t) v = ⟨s * v.a, t * v.b, t * v.c, t * v.d⟩ := by
    unfold appV diagR V4.L
    simp only [List.getD_cons_zero, List.getD_cons_succ, dot4e]
    simp
  rw [e]
  refine ⟨Int.mul_nonneg (by omega) h.1, ?_⟩
  have q := h.2
  unfold V4.q at *
  have k1 : t * t * (v.b * v.b + v.c * v.c + v.d * v.d) ≤ t * t * (v.a * v.a) := Int.mul_le_mul_of_nonneg_left (by omega) (sq0 t)
  have k2 : t * t * (v.a * v.a) ≤ s * s * (v.a * v.a) := Int.mul_le_mul_of_nonneg_right (Int.mul_le_mul h1 h1 h0 (by omega)) (sq0 _)
  show 0 ≤ s * v.a * (s * v.a) - t * v.b * (t * v.b) - t * v.c * (t * v.c) - t * v.d * (t * v.d)
  have e1 : s * v.a * (s * v.a) = s * s * (v.a * v.a) := by grind
  have e2 : t * v.b * (t * v.b) + t * v.c * (t * v.c) + t * v.d * (t * v.d) = t * t * (v.b * v.b + v.c * v.c + v.d * v.d) := by grind
  omega⟩
theorem keeps_spun (a b c d : Int) : Keeps (spunR a b c d) := ⟨spunR_ok a b c d, fun v h => by
  obtain ⟨p, x, y, z⟩ := v
  obtain ⟨h0, h1⟩ := h
  unfold V4.q at h1
  simp only at h0 h1
  have n0 : 0 ≤ a * a + b * b + c * c + d * d := by
    have := sq0 a
    have := sq0 b
    have := sq0 c
    have := sq0 d
    omega
  have e : appV (spunR a b c d) ⟨p, x, y, z⟩ = ⟨(a * a + b * b + c * c + d * d) * p, (a * a + b * b - c * c - d * d) * x + (2 * b * c - 2 * a * d) * y + (2 * b * d + 2 * a * c) * z, (2 * b * c + 2 * a * d) * x + (a * a - b * b + c * c - d * d) * y + (2 * c * d - 2 * a * b) * z, (2 * b * d - 2 * a * c) * x + (2 * c * d + 2 * a * b) * y + (a * a - b * b - c * c + d * d) * z⟩ := by
    unfold appV spunR V4.L
    simp only [List.getD_cons_zero, List.getD_cons_succ, dot4e]
    simp
  rw [e]
  refine ⟨Int.mul_nonneg n0 h0, ?_⟩
  have k : V4.q ⟨(a * a + b * b + c * c + d * d) * p, (a * a + b * b - c * c - d * d) * x + (2 * b * c - 2 * a * d) * y + (2 * b * d + 2 * a * c) * z, (2 * b * c + 2 * a * d) * x + (a * a - b * b + c * c - d * d) * y + (2 * c * d - 2 * a * b) * z, (2 * b * d - 2 * a * c) * x + (2 * c * d + 2 * a * b) * y + (a * a - b * b - c * c + d * d) * z⟩ = (a * a + b * b + c * c + d * d) * (a * a + b * b + c * c + d * d) * (p * p - x * x - y * y - z * z) := by
    unfold V4.q
    simp only
    grind
  rw [k]
  exact Int.mul_nonneg (sq0 _) h1⟩
theorem keeps_part {p q w x y z : Int} (hp : 0 ≤ p) (hq : 0 ≤ q) (hw : 0 ≤ w) (hk : x * x + y * y + z * z = w * w) : Keeps (partR p q w x y z) := ⟨partR_ok .., fun v h => by
  obtain ⟨a, b, c, d⟩ := v
  obtain ⟨h0, h1⟩ := h
  unfold V4.q at h1
  simp only at h0 h1
  generalize ht : x * b + y * c + z * d = t
  generalize hs : b * b + c * c + d * d = s
  have cs := cauchy x y z b c d
  rw [ht, hs, hk] at cs
  have e : appV (partR p q w x y z) ⟨a, b, c, d⟩ = ⟨w * (p * p * (w * a + t) + q * q * (w * a - t)), x * ((p * p - q * q) * w * a + (p - q) * (p - q) * t) + 2 * p * q * w * w * b, y * ((p * p - q * q) * w * a + (p - q) * (p - q) * t) + 2 * p * q * w * w * c, z * ((p * p - q * q) * w * a + (p - q) * (p - q) * t) + 2 * p * q * w * w * d⟩ := by
    unfold appV partR V4.L
    simp only [List.getD_cons_zero, List.getD_cons_succ, dot4e]
    subst ht
    congr 1 <;> grind
  rw [e]
  generalize hm : (p * p - q * q) * w * a + (p - q) * (p - q) * t = m
  have sa : s ≤ a * a := by omega
  have tw : t * t ≤ (w * a) * (w * a) := by
    have k : w * w * s ≤ w * w * (a * a) := Int.mul_le_mul_of_nonneg_left sa (sq0 w)
    have e : (w * a) * (w * a) = w * w * (a * a) := by grind
    omega
  have wa := Int.mul_nonneg hw h0
  have t1 : t ≤ w * a := sq_le wa tw
  have t2 : -t ≤ w * a := sq_le wa (by rw [Int.neg_mul_neg]; exact tw)
  refine ⟨?_, ?_⟩
  · have k1 := Int.mul_nonneg (sq0 p) (show 0 ≤ w * a + t by omega)
    have k2 := Int.mul_nonneg (sq0 q) (show 0 ≤ w * a - t by omega)
    exact Int.mul_nonneg hw (by omega)
  · have k : V4.q ⟨w * (p * p * (w * a + t) + q * q * (w * a - t)), x * m + 2 * p * q * w * w * b, y * m + 2 * p * q * w * w * c, z * m + 2 * p * q * w * w * d⟩ = w * (p * p * (w * a + t) + q * q * (w * a - t)) * (w * (p * p * (w * a + t) + q * q * (w * a - t))) - (m * m * (x * x + y * y + z * z) + 2 * m * (2 * p * q * w * w) * (x * b + y * c + z * d) + (2 * p * q * w * w) * (2 * p * q * w * w) * (b * b + c * c + d * d)) := by
      unfold V4.q
      simp only
      grind
    rw [k, hk, ht, hs, ← hm]
    have k2 : w * (p * p * (w * a + t) + q * q * (w * a - t)) * (w * (p * p * (w * a + t) + q * q * (w * a - t))) - (((p * p - q * q) * w * a + (p - q) * (p - q) * t) * ((p * p - q * q) * w * a + (p - q) * (p - q) * t) * (w * w) + 2 * ((p * p - q * q) * w * a + (p - q) * (p - q) * t) * (2 * p * q * w * w) * t + 2 * p * q * w * w * (2 * p * q * w * w) * s) = (2 * p * q * w * w) * (2 * p * q * w * w) * (a * a - s) := by grind
    rw [k2]
    exact Int.mul_nonneg (sq0 _) (by omega)⟩
theorem Bare.keeps : ∀ {p : Bare}, p.valid → Keeps p.R
  | .pol x y z w, h => keeps_part (by decide) (by decide) (by have := h.2.1; omega) h.2.2
  | .part x y z w f0 f1 g0 g1, h => by
    obtain ⟨k, f, g⟩ := h
    exact keeps_part (Int.mul_nonneg f.2.2.1 (by have := g.2.1; omega)) (Int.mul_nonneg g.2.2.1 (by have := f.2.1; omega)) (by have := k.2.1; omega) k.2.2
  | .turn a b c d, _ => keeps_spun a b c d
  | .mag a b, _ => keeps_spun b 0 0 a
  | .grey t b, h => keeps_diag h.2.2.1 (Int.le_refl _)
  | .dull t b, h => keeps_diag h.2.2.1 h.2.2.2
  | .glass, _ => keeps_glass
theorem Plate.keeps : ∀ {p : Plate}, p.valid → Keeps p.R
  | .bare p, h => Bare.keeps h
  | .set a b p, h => (keeps_spun b 0 0 a).prod ((Bare.keeps h.2).prod (keeps_spun b 0 0 (-a)))
theorem acc_keeps : ∀ (ps : List Plate) {R : List (List Int)}, (∀ p ∈ ps, p.valid) → Keeps R → Keeps (accR ps R)
  | [], _, _, h => h
  | p :: ps, R, hv, h => acc_keeps ps (fun q hq => hv q (List.mem_cons_of_mem _ hq)) ((Plate.keeps (hv p (by simp))).prod h)
end K76
end
section
set_option Elab.async false
set_option linter.all false
set_option maxRecDepth 100000
set_option maxHeartbeats 1000000
/-! K76N2: lights, and what a table makes of them in rounds. -/
namespace K76
open PySem Zd Cone
def lightV (l : List Int) : Prop := ∃ v : V4, ∃ e : Int, l = v.L ++ [e] ∧ gcdL l = 1 ∧ 0 < e ∧ K v
theorem g5_4 (v : V4) (e : Int) : subW (tp (v.L ++ [e])) (.d (.int 4)) = Zd.ret (.d (.int e)) := sub_tup rfl
theorem c5_4 (v : V4) (e : Int) : sliceV (tp (v.L ++ [e])) none (some 4) = Zd.ret (tp v.L) := rfl
theorem v4_0 (v : V4) : subW (tp v.L) (.d (.int 0)) = Zd.ret (.d (.int v.a)) := sub_tup rfl
theorem v4_1 (v : V4) : subW (tp v.L) (.d (.int 1)) = Zd.ret (.d (.int v.b)) := sub_tup rfl
theorem v4_2 (v : V4) : subW (tp v.L) (.d (.int 2)) = Zd.ret (.d (.int v.c)) := sub_tup rfl
theorem v4_3 (v : V4) : subW (tp v.L) (.d (.int 3)) = Zd.ret (.d (.int v.d)) := sub_tup rfl
def bdV (n : Nat) (v : V4) : Prop := Bd n v.a ∧ Bd n v.b ∧ Bd n v.c ∧ Bd n v.d
theorem bdV_L {n : Nat} {v : V4} (h : bdV n v) : ∀ i ∈ v.L, Bd n i := by
  obtain ⟨h1, h2, h3, h4⟩ := h
  simp [V4.L, h1, h2, h3, h4]
theorem are_wholes_5 (k : Nat) (v : V4) (e : Int) : callD tb gv (k + 2) "are_wholes" [tp (v.L ++ [e]), .d (.int 5)] = Zd.ret (.d (.bool true)) := are_wholes_i k (v.L ++ [e])
theorem product_of (k : Nat) {v : V4} {n : Nat} (hn : n ≤ 10000) (h : bdV n v) : callD tb gv (k + 1) "product_of" [tp v.L, tp v.L] = Zd.ret (.d (.int v.q)) := to_ret fun st => by
  rw [callD_is (show tb "product_of" = some d_product_of by kernel_rfl)]
  obtain ⟨h1, h2, h3, h4⟩ := h
  have m : ∀ i : Int, Bd n i → mulOk i i = true := fun i hi => mulOk_of hi hi (by omega)
  simp [d_product_of, b_product_of, isOwn, v4_0, v4_1, v4_2, v4_3, m, h1, h2, h3, h4, V4.q]
theorem is_light (k : Nat) {v : V4} {e : Int} {n : Nat} (hn : n ≤ 10000) (h : bdV n v) (g : gcdL (v.L ++ [e]) = 1) (e0 : 0 < e) (hK : K v) : callD tb gv (k + 4) "is_light" [tp (v.L ++ [e])] = Zd.ret (.d (.bool true)) := to_ret fun st => by
  have c1 := are_wholes_5 k v e
  have c2 := common_part_t (k + 1) (v.L ++ [e])
  have c3 := product_of (k + 1) hn h
  have f : callD tb gv (k + 3) "is_five" [tp (v.L ++ [e])] = Zd.ret (.d (.bool true)) := to_ret fun st => by
    rw [callD_is (show tb "is_five" = some d_is_five by kernel_rfl)]
    have s := g5_4 v e
    generalize v.L ++ [e] = l at *
    simp [d_is_five, b_is_five, isOwn, c1, s, e0, c2, g]
  have l : callD tb gv (k + 3) "is_like_light" [tp v.L] = Zd.ret (.d (.bool true)) := to_ret fun st => by
    rw [callD_is (show tb "is_like_light" = some d_is_like_light by kernel_rfl)]
    have s := v4_0 v
    obtain ⟨k1, k2⟩ := hK
    generalize v.L = l at *
    simp [d_is_like_light, b_is_like_light, isOwn, s, k1, c3, k2]
  rw [callD_is (show tb "is_light" = some d_is_light by kernel_rfl)]
  have s := c5_4 v e
  generalize v.L ++ [e] = m at *
  generalize v.L = u at *
  simp [d_is_light, b_is_light, isOwn, f, s, l]
theorem check_light (k : Nat) {v : V4} {e : Int} {n : Nat} (hn : n ≤ 10000) (h : bdV n v) (g : gcdL (v.L ++ [e]) = 1) (e0 : 0 < e) (hK : K v) : callD tb gv (k + 5) "check_light" [tp (v.L ++ [e])] = Zd.ret (.d .none) := to_ret fun st => by
  rw [callD_is (show tb "check_light" = some d_check_light by kernel_rfl)]
  have c := is_light k hn h g e0 hK
  generalize v.L ++ [e] = m at *
  simp [d_check_light, b_check_light, isOwn, c]
/-! rounds -/
theorem led_row (k : Nat) {R : List (List Int)} (hR : okR R) {v : List Int} {n m : Nat} (hn : n + m ≤ 1000000) (bR : bdR n R) (bv : ∀ i ∈ v, Bd m i) : callD tb gv (k + 2) "led_row" [.d (rowsD R), tp v] = Zd.ret (tp (R.map fun r => dotL r v)) := to_ret fun st => by
  rw [callD_is (show tb "led_row" = some d_led_row by kernel_rfl)]
  simp [d_led_row, b_led_row, isOwn, wipeE, rowsD]
  rw [bd_at (comp_gen (g := fun z => .int (dotL (lsI z) v)) (fun x hx => ?_) (by rw [List.length_map, hR.1]; decide))]
  · have e : (R.map fun r => PyData.tuple (ip r)).map (fun z => PyData.int (dotL (lsI z) v)) = ip (R.map fun r => dotL r v) := by
      unfold ip
      rw [List.map_map, List.map_map]
      refine List.map_congr_left fun r _ => ?_
      show PyData.int (dotL (lsI (.tuple (ip r))) v) = PyData.int (dotL r v)
      rw [lsI_t]
    rw [e]
    simp
  · obtain ⟨r, hr, rfl⟩ := List.mem_map.mp hx
    simp [one_is]
    rw [bd_at (dot_is k r v (n + m) (by omega) (fun i hi => (bR r hr i hi).mono (by omega)) (fun i hi => (bv i hi).mono (by omega)) (by rw [hR.2 r hr]; decide) st)]
    simp
theorem five_shape {l : List Int} (h : l.length = 5) : ∃ v : V4, ∃ e : Int, l = v.L ++ [e] := by
  match l, h with
  | [a, b, c, d, e], _ => exact ⟨⟨a, b, c, d⟩, e, rfl⟩
theorem L_len (v : V4) : v.L.length = 4 := rfl
/-- one round of reduced numbers -/
theorem led_five (k : Nat) {R : List (List Int)} {b : Int} (hR : okR R) {n m : Nat} (hn : n + m + 4 ≤ 9000) (bR : bdR n R) (hb : Bd n b) (b0 : b ≠ 0) {v : V4} {e : Int} (hv : bdV m v) (he : Bd m e) (e0 : e ≠ 0) :
    callD tb gv (k + 4) "led_five" [.d (tabR R b), tp (overL v.L e)] = Zd.ret (tp (overL (appV R v).L (b * e))) := to_ret fun st => by
  obtain ⟨w, f, ew⟩ := five_shape (l := overL v.L e) (by rw [overL_length, L_len])
  have bds := overL_bd (bdV_L hv) he
  rw [ew] at bds ⊢
  have bw : ∀ i ∈ w.L, Bd m i := fun i hi => bds i (List.mem_append_left _ hi)
  have bf : Bd m f := bds f (by simp)
  obtain ⟨g, g0, hg⟩ := overL_back v.L e e0
  rw [ew] at hg
  have hw : w.L.map (fun i => g * i) = v.L ∧ g * f = e := by
    rw [List.map_append] at hg
    have := List.append_inj hg rfl
    exact ⟨this.1, by simpa using this.2⟩
  have f0 : f ≠ 0 := fun z => e0 (by rw [← hw.2, z, Int.mul_zero])
  have c1 := led_row (k + 1) hR (by omega : n + m ≤ 1000000) bR bw
  have mm : mulOk b f = true := mulOk_of hb bf (by omega)
  have c2 : callD tb gv (k + 3) "lowest_over" [tp (R.map fun r => dotL r w.L), .d (.int (b * f))] = Zd.ret (tp (overL (R.map fun r => dotL r w.L) (b * f))) := to_ret fun st =>
    lowest_over_is k _ _ _ (.inl rfl) (n + m + 4) (by omega) (fun i hi => by
      obtain ⟨r, hr, rfl⟩ := List.mem_map.mp hi
      exact dotL_bd2 (bR r hr) bw (hR.2 r hr) rfl) ((hb.mul bf).mono (by omega)) (Int.mul_ne_zero b0 f0) (by rw [List.length_map, hR.1]; decide) st
  have fin : overL (R.map fun r => dotL r w.L) (b * f) = overL (appV R v).L (b * e) := by
    rw [← L_app hR, ← overL_scale g (b * f) _ g0 (Int.mul_ne_zero b0 f0), List.map_map, ← hw.1, ← hw.2]
    congr 1
    · refine List.map_congr_left fun r _ => ?_
      have h := dotL_sc 1 g r w.L
      have e1 : (r.map fun i => 1 * i) = r := by simp
      rw [e1, Int.one_mul] at h
      exact h.symm
    · grind
  rw [fin] at c2
  rw [callD_is (show tb "led_five" = some d_led_five by kernel_rfl)]
  have s1 := c5_4 w f
  have s2 := g5_4 w f
  generalize w.L ++ [f] = l at *
  generalize (R.map fun r => dotL r w.L) = u at *
  generalize w.L = x at *
  simp [d_led_five, b_led_five, isOwn, tabR_0, tabR_1, s1, s2, c1, mm, c2]
def den (b e : Int) : Nat → Int
  | 0 => e
  | n + 1 => b * den b e n
theorem den_pos {b e : Int} (hb : 0 < b) (he : 0 < e) : ∀ n, 0 < den b e n
  | 0 => he
  | n + 1 => Int.mul_pos hb (den_pos hb he n)
theorem appV_bd {R : List (List Int)} (hR : okR R) {n m : Nat} (bR : bdR n R) {v : V4} (hv : bdV m v) : bdV (n + m + 4) (appV R v) := by
  obtain ⟨h1, h2⟩ := hR
  match R, h1 with
  | [x, y, z, w], _ => exact ⟨dotL_bd2 (bR x (by simp)) (bdV_L hv) (h2 x (by simp)) rfl, dotL_bd2 (bR y (by simp)) (bdV_L hv) (h2 y (by simp)) rfl, dotL_bd2 (bR z (by simp)) (bdV_L hv) (h2 z (by simp)) rfl, dotL_bd2 (bR w (by simp)) (bdV_L hv) (h2 w (by simp)) rfl⟩
theorem iter_bd {R : List (List Int)} (hR : okR R) {n m : Nat} (bR : bdR n R) {b e : Int} (hb : Bd n b) {v : V4} (hv : bdV m v) (he : Bd m e) : ∀ j, bdV (m + j * (n + 4)) (iter (appV R) j v) ∧ Bd (m + j * (n + 4)) (den b e j)
  | 0 => by
    have z : m + 0 * (n + 4) = m := by omega
    rw [z]
    exact ⟨hv, he⟩
  | j + 1 => by
    obtain ⟨h1, h2⟩ := iter_bd hR bR hb hv he j
    have q := appV_bd hR bR h1
    have e1 : n + (m + j * (n + 4)) + 4 = m + (j + 1) * (n + 4) := by rw [Nat.succ_mul]; omega
    rw [e1] at q
    exact ⟨q, (hb.mul h2).mono (by omega)⟩
/-- the light after so many rounds -/
def after (R : List (List Int)) (b : Int) (v : V4) (e : Int) (j : Nat) : List Int := overL (iter (appV R) j v).L (den b e j)
def roBody : List S := [.asg (.nm 3) (.call "led_five" [(.var 0), (.var 3)])]
def roE (q L : PyData) (j : Nat) (r : PyData) (o : Option W) : Nv := [some (.d q), some (.d L), some (.d (.int (j : Int))), some (.d r), o]
theorem ro_step (k : Nat) {q L r r' i : PyData} {j : Nat} {o : Option W} (c : callD tb gv k "led_five" [.d q, .d r] = Zd.ret (.d r')) : (bd (asgT (T.nm 4) (W.d i) (roE q L j r o)) fun e1 => exPs (callD tb gv k) gv roBody e1) = Zd.ret (.nx (roE q L j r' (some (.d i)))) := by
  have e1 : (roE q L j r o).set 4 (some (.d i)) = roE q L j r (some (.d i)) := rfl
  have v0 : varM 0 (roE q L j r (some (.d i))) = Zd.ret (.d q) := rfl
  have v3 : varM 3 (roE q L j r (some (.d i))) = Zd.ret (.d r) := rfl
  have e2 : (roE q L j r (some (.d i))).set 3 (some (.d r')) = roE q L j r' (some (.d i)) := rfl
  unfold roBody
  rw [asg_nm, bd_ret, e1, xs_cons, x_asg, ev_call, ew_cons, ev_var, v0, bd_ret, ew_cons, ev_var, v3, bd_ret, ew_nil, bd_ret, bd_ret, bd_ret, c, bd_ret, asg_nm, bd_ret, e2, bd_ret]
  dsimp only
  rw [xs_nil]
theorem rounds_of (k : Nat) {R : List (List Int)} {b : Int} (hR : okR R) {n m : Nat} (bR : bdR n R) (hb : Bd n b) (b0 : 0 < b) {v : V4} {e : Int} (hv : bdV m v) (he : Bd m e) (e0 : 0 < e) (j : Nat) (hj : j ≤ 24) (hn : m + 25 * (n + 4) ≤ 9000) :
    callD tb gv (k + 5) "rounds_of" [.d (tabR R b), tp (after R b v e 0), .d (.int (j : Int))] = Zd.ret (tp (after R b v e j)) := to_ret fun st => by
  rw [callD_is (show tb "rounds_of" = some d_rounds_of by kernel_rfl)]
  obtain ⟨e', h1, o, rfl⟩ := loop_range (st := st) (F := fun x e => bd (asgT (T.nm 4) (W.d x) e) fun e1 => exPs (callD tb gv (k + 4)) gv roBody e1) (P := fun i E => ∃ o, E = roE (tabR R b) (.tuple (ip (after R b v e 0))) j (.tuple (ip (after R b v e i))) o) 0 j (fun i E hi hE => by
      obtain ⟨o, rfl⟩ := hE
      obtain ⟨q1, q2⟩ := iter_bd hR bR hb hv he i
      have le : i * (n + 4) ≤ 23 * (n + 4) := Nat.mul_le_mul (by omega) (Nat.le_refl _)
      have c : callD tb gv (k + 4) "led_five" [.d (tabR R b), tp (after R b v e i)] = Zd.ret (tp (after R b v e (i + 1))) := led_five k hR (m := m + i * (n + 4)) (by omega) bR hb (by omega) q1 q2 (by have := den_pos b0 e0 i; omega)
      exact ⟨_, congrFun (ro_step (k + 4) c) st, _, rfl⟩) (roE (tabR R b) (.tuple (ip (after R b v e 0))) j (.tuple (ip (after R b v e 0))) none) ⟨none, rfl⟩
  have e1 : b_rounds_of = [.asg (.nm 3) (.var 1), .for_ (.nm 4) (.rng [(.var 2)]) roBody, .ret (.var 3)] := rfl
  have s0 : [some (W.d (tabR R b)), some (tp (after R b v e 0)), some (.d (.int (j : Int))), some (tp (after R b v e 0)), none] = roE (tabR R b) (.tuple (ip (after R b v e 0))) j (.tuple (ip (after R b v e 0))) none := rfl
  have v2 : varM 2 (roE (tabR R b) (.tuple (ip (after R b v e 0))) j (.tuple (ip (after R b v e 0))) none) = Zd.ret (.d (.int (j : Int))) := rfl
  have v3 : varM 3 (roE (tabR R b) (.tuple (ip (after R b v e 0))) j (.tuple (ip (after R b v e j))) o) = Zd.ret (tp (after R b v e j)) := rfl
  simp only [d_rounds_of, e1]
  simp only [List.length_cons, List.length_nil, Nat.zero_add, Nat.reduceAdd, decide_true, List.any_cons, isOwn, List.any_nil, Bool.or_self, Bool.not_false, Bool.and_self, want_true, List.map_cons, List.map_nil, Nat.reduceSub, List.reduceReplicate, List.cons_append, List.nil_append]
  rw [xs_cons, x_asg, ev_var, var_succ, var_zero, bd_ret, asg_nm, bd_ret, bd_ret]
  simp only [List.set]
  rw [s0, xs_cons, x_for, ei_rng, ew_cons, ev_var, v2, bd_ret, ew_nil, bd_ret, bd_ret, List.length_cons, List.length_nil, want_1, bd_ret, rng_n j (by omega), bd_ret, bd_at h1]
  dsimp only
  rw [xs_cons, x_ret, ev_var, v3, bd_ret, bd_ret]
  dsimp only
  rw [ret_at, end_d, List.take_length]
end K76
end
section
set_option Elab.async false
set_option linter.all false
set_option maxRecDepth 100000
set_option maxHeartbeats 1000000
/-! K76N3: after_rounds, dark_after. -/
namespace K76
open PySem Zd Cone
theorem reduced_same {l : List Int} {e : Int} (g : gcdL (l ++ [e]) = 1) (e0 : 0 < e) : overL l e = l ++ [e] := by
  rw [overL_is, g]
  have s : sgn e = 1 := by unfold sgn; rw [if_pos e0]
  rw [s]
  conv => rhs; rw [← List.map_id (l ++ [e])]
  refine List.map_congr_left fun i _ => ?_
  show 1 * i / ((1 : Nat) : Int) = i
  simp
/-! the stack's table, reduced -/
def TR (ps : List Plate) : List (List Int) := rowsOf (overL (accR ps unitR).flatten (accB ps 1))
def TB (ps : List Plate) : Int := (overL (accR ps unitR).flatten (accB ps 1)).getD 16 0
theorem T_is (ps : List Plate) : tabT (accR ps unitR) (accB ps 1) = tabR (TR ps) (TB ps) := rfl
theorem mul_pos4 {a b c d : Int} (ha : 0 < a) (hb : 0 < b) (hc : 0 < c) (hd : 0 < d) : 0 < a * b * c * d := Int.mul_pos (Int.mul_pos (Int.mul_pos ha hb) hc) hd
theorem Bare.bpos : ∀ {p : Bare}, p.valid → 0 < p.b
  | .pol x y z w, h => by
    have w0 := h.2.1
    exact Int.mul_pos (Int.mul_pos (by decide) (by omega)) (by omega)
  | .part x y z w f0 f1 g0 g1, h => by
    obtain ⟨k, f, g⟩ := h
    have w0 := k.2.1
    have q := Int.mul_pos f.2.1 g.2.1
    exact Int.mul_pos (Int.mul_pos (Int.mul_pos (Int.mul_pos (by decide) q) q) (by omega)) (by omega)
  | .turn a b c d, h => sum4_ne h
  | .mag a b, h => by
    show 0 < b * b + 0 * 0 + 0 * 0 + a * a
    rw [nrm_spun]
    exact nrm_pos (setV_nrm h)
  | .grey t b, h => h.2.1
  | .dull t b, h => h.2.1
  | .glass, _ => by decide
theorem Plate.bpos : ∀ {p : Plate}, p.valid → 0 < p.b
  | .bare p, h => Bare.bpos h
  | .set a b p, h => by
    have n := nrm_pos (setV_nrm h.1)
    exact Int.mul_pos n (Int.mul_pos (Bare.bpos h.2) n)
theorem accB_pos : ∀ (ps : List Plate) (b : Int), (∀ p ∈ ps, p.valid) → 0 < b → 0 < accB ps b
  | [], _, _, h => h
  | p :: ps, b, hv, h => accB_pos ps _ (fun q hq => hv q (List.mem_cons_of_mem _ hq)) (Int.mul_pos h (Plate.bpos (hv p (by simp))))
theorem appV_sc (g : Int) {R : List (List Int)} (h : okR R) (v : V4) : appV (scR g R) v = lin g 0 (appV R v) zero := by
  obtain ⟨h1, h2⟩ := h
  match R, h1 with
  | [x, y, z, w], _ =>
    have k : ∀ r : List Int, dotL (r.map fun i => g * i) v.L = g * dotL r v.L := fun r => by
      have h := dotL_sc g 1 r v.L
      have e1 : (v.L.map fun i => 1 * i) = v.L := by simp
      rw [e1, Int.mul_one] at h
      exact h
    show (⟨dotL (x.map fun i => g * i) v.L, dotL (y.map fun i => g * i) v.L, dotL (z.map fun i => g * i) v.L, dotL (w.map fun i => g * i) v.L⟩ : V4) = ⟨g * dotL x v.L + 0 * 0, g * dotL y v.L + 0 * 0, g * dotL z v.L + 0 * 0, g * dotL w v.L + 0 * 0⟩
    rw [k, k, k, k]
    simp
theorem K_sc {g : Int} {w : V4} (g0 : 0 < g) (h : K (lin g 0 w zero)) : K w := by
  obtain ⟨h1, h2⟩ := h
  rw [q_lin] at h2
  have e1 : (lin g 0 w zero).a = g * w.a := by simp [lin, zero]
  rw [e1] at h1
  have e2 : g * g * w.q + 2 * g * 0 * w.p zero + 0 * 0 * zero.q = g * g * w.q := by simp
  rw [e2] at h2
  have gg := Int.mul_pos g0 g0
  refine ⟨?_, ?_⟩
  · rcases Int.lt_or_le w.a 0 with z | z
    · have := Int.mul_neg_of_pos_of_neg g0 z
      omega
    · exact z
  · rcases Int.lt_or_le w.q 0 with z | z
    · have := Int.mul_neg_of_pos_of_neg gg z
      omega
    · exact z
theorem TR_keeps {ps : List Plate} {N : Nat} (f : Fine N (accR ps unitR) (accB ps 1)) (hv : ∀ p ∈ ps, p.valid) : Keeps (TR ps) := by
  obtain ⟨g, g0, e1, e2, ok⟩ := tab_back f.ok f.ne
  have kk := acc_keeps ps hv keeps_unit
  have bp := accB_pos ps 1 hv (by decide)
  have tp := (tab_facts f.ok f.bR f.bb f.ne).2.2.2
  have gp : 0 < g := by
    rcases Int.lt_or_le 0 g with z | z
    · exact z
    · have := Int.mul_nonpos_of_nonpos_of_nonneg z (Int.le_of_lt tp)
      omega
  refine ⟨ok, fun v h => ?_⟩
  have k := kk.2 v h
  rw [← e1, appV_sc g ok] at k
  exact K_sc gp k
/-! what dark is -/
theorem after_len (R : List (List Int)) (b : Int) (v : V4) (e : Int) (j : Nat) : (after R b v e j).length = 5 := by unfold after; rw [overL_length, L_len]
theorem over_dark {v : V4} {d : Int} (d0 : 0 < d) : overL v.L d = [0, 0, 0, 0, 1] ↔ v = zero := by
  constructor
  · intro h
    obtain ⟨g, g0, e⟩ := overL_back v.L d (by omega)
    rw [h] at e
    obtain ⟨a, b, c, f⟩ := v
    simp [V4.L] at e
    obtain ⟨h1, h2, h3, h4, _⟩ := e
    subst h1 h2 h3 h4
    rfl
  · rintro rfl
    have e : zero.L = [0, 0, 0, 0] := rfl
    have s := overL_scale d 1 [0, 0, 0, 0] (by omega) (by decide)
    rw [e]
    have e2 : ([0, 0, 0, 0] : List Int).map (fun i => d * i) = [0, 0, 0, 0] := by simp
    rw [e2, Int.mul_one] at s
    rw [s]
    decide +kernel
theorem after_dark {R : List (List Int)} {b : Int} {v : V4} {e : Int} (b0 : 0 < b) (e0 : 0 < e) (j : Nat) : after R b v e j = [0, 0, 0, 0, 1] ↔ iter (appV R) j v = zero := over_dark (den_pos b0 e0 j)
theorem eqvAll_ip : ∀ l m : List Int, PyData.eqvAll (ip l) (ip m) = decide (l = m)
  | [], [] => by simp [ip, PyData.eqvAll]
  | [], _ :: _ => by simp [ip, PyData.eqvAll]
  | _ :: _, [] => by simp [ip, PyData.eqvAll]
  | i :: l, j :: m => by
    show PyData.eqvAll (.int i :: ip l) (.int j :: ip m) = _
    simp only [PyData.eqvAll, eqvAll_ip l m, PyData.eqv]
    by_cases h : i = j <;> by_cases h' : l = m <;> simp [h, h']
theorem canAll_ip : ∀ l : List Int, PyData.canLayAll0 (ip l) = true
  | [] => by simp [ip, PyData.canLayAll0]
  | i :: l => by
    show PyData.canLayAll0 (.int i :: ip l) = true
    simp only [PyData.canLayAll0, PyData.canLay0, canAll_ip l, Bool.and_self]
theorem shaped_ip (l : List Int) : SeqAt.shaped (.tuple (ip l)) = true := by
  unfold SeqAt.shaped
  rw [Bool.and_eq_true, decide_eq_true_eq]
  exact ⟨by simp only [PyData.canLay0]; exact canAll_ip l, by simp only [PyData.depth, dall_ip]; decide⟩
theorem eq_ip (l m : List Int) : cmpB .Eq (tp l) (tp m) = Zd.ret (decide (l = m)) := by
  rw [eq_p (shaped_ip l) (shaped_ip m)]
  simp only [PyData.eqv, eqvAll_ip]
theorem dark_is : gv "DARK" = some (.tuple (ip [0, 0, 0, 0, 1])) := by kernel_rfl
theorem most_rounds : gv "MOST_ROUNDS" = some (.int 24) := by kernel_rfl
/-- a stack that may go through rounds -/
structure Go (ps : List Plate) (N : Nat) : Prop where
  len : ps.length ≤ 8
  vs : ∀ p ∈ ps, p.valid ∧ ∃ n, p.small n 30
  ft : Fits 30 1 ps N
  few : N ≤ 260
theorem Go.fine {ps : List Plate} {N : Nat} (g : Go ps N) : Fine N (accR ps unitR) (accB ps 1) := Fine.all g.ft unit_fine
theorem Go.facts {ps : List Plate} {N : Nat} (g : Go ps N) : okR (TR ps) ∧ bdR N (TR ps) ∧ Bd N (TB ps) ∧ 0 < TB ps := tab_facts g.fine.ok g.fine.bR g.fine.bb g.fine.ne
theorem Go.map {ps : List Plate} {N : Nat} (g : Go ps N) : Map (appV (TR ps)) := Keeps.map (TR_keeps g.fine fun p hp => (g.vs p hp).1)
/-- a light -/
structure Lt (v : V4) (e : Int) (m : Nat) : Prop where
  k : K v
  e0 : 0 < e
  g : gcdL (v.L ++ [e]) = 1
  bv : bdV m v
  be : Bd m e
  few : m ≤ 2000
theorem Lt.first {v : V4} {e : Int} {m : Nat} (h : Lt v e m) (R : List (List Int)) (b : Int) : after R b v e 0 = v.L ++ [e] := reduced_same h.g h.e0
section
variable {ps : List Plate} {N : Nat} {v : V4} {e : Int} {m : Nat}
theorem rounds_go (k : Nat) (g : Go ps N) (h : Lt v e m) (j : Nat) (hj : j ≤ 24) : callD tb gv (k + 5) "rounds_of" [.d (tabR (TR ps) (TB ps)), tp (v.L ++ [e]), .d (.int (j : Int))] = Zd.ret (tp (after (TR ps) (TB ps) v e j)) := by
  obtain ⟨f1, f2, f3, f4⟩ := g.facts
  have nf := g.few
  have mf := h.few
  have q : 25 * (N + 4) ≤ 25 * 264 := Nat.mul_le_mul (Nat.le_refl _) (by omega)
  have r := rounds_of k f1 f2 f3 f4 h.bv h.be h.e0 j hj (by omega)
  rw [h.first] at r
  exact r
theorem after_rounds (k : Nat) (g : Go ps N) (h : Lt v e m) (j : Nat) (hj : j ≤ 24) : callD tb gv (k + 10) "after_rounds" [.d (.tuple (ps.map Plate.D)), tp (v.L ++ [e]), .d (.int (j : Int))] = Zd.ret (tp (after (TR ps) (TB ps) v e j)) := to_ret fun st => by
  have mf := h.few
  have c1 := check_stack_i (k + 2) ps g.len g.vs
  have c2 := check_light (k + 4) (by omega : m ≤ 10000) h.bv h.g h.e0 h.k
  have c3 := is_between_i (k + 7) j 0 24 (by omega) (by omega)
  have c4 := table_along k g.ft
  rw [T_is] at c4
  have c5 := rounds_go (k + 4) g h j hj
  rw [callD_is (show tb "after_rounds" = some d_after_rounds by kernel_rfl)]
  generalize v.L ++ [e] = l at *
  generalize ps.map Plate.D = s at *
  simp [d_after_rounds, b_after_rounds, isOwn, c1, c2, c3, most_rounds, globM, c4, c5]
/-- when it is dark first, of none, one and two rounds -/
def darkW (f : V4 → V4) (v : V4) : PyData := if iter f 0 v = zero then .int 0 else if iter f 1 v = zero then .int 1 else if iter f 2 v = zero then .int 2 else .none
theorem dark_after (k : Nat) (g : Go ps N) (h : Lt v e m) : callD tb gv (k + 10) "dark_after" [.d (.tuple (ps.map Plate.D)), tp (v.L ++ [e])] = Zd.ret (.d (darkW (appV (TR ps)) v)) := to_ret fun st => by
  have mf := h.few
  have c1 := check_stack_i (k + 2) ps g.len g.vs
  have c2 := check_light (k + 4) (by omega : m ≤ 10000) h.bv h.g h.e0 h.k
  have c4 := table_along k g.ft
  rw [T_is] at c4
  have d0 := rounds_go (k + 4) g h 0 (by decide)
  have d1 := rounds_go (k + 4) g h 1 (by decide)
  have d2 := rounds_go (k + 4) g h 2 (by decide)
  obtain ⟨_, _, _, f4⟩ := g.facts
  have z0 := after_dark (R := TR ps) (v := v) f4 h.e0 0
  have z1 := after_dark (R := TR ps) (v := v) f4 h.e0 1
  have z2 := after_dark (R := TR ps) (v := v) f4 h.e0 2
  rw [callD_is (show tb "dark_after" = some d_dark_after by kernel_rfl)]
  unfold darkW
  generalize after (TR ps) (TB ps) v e 0 = a0 at *
  generalize after (TR ps) (TB ps) v e 1 = a1 at *
  generalize after (TR ps) (TB ps) v e 2 = a2 at *
  generalize v.L ++ [e] = l at *
  generalize ps.map Plate.D = s at *
  have d0' : callD tb gv (k + 9) "rounds_of" [.d (tabR (TR ps) (TB ps)), tp l, .d (.int 0)] = Zd.ret (tp a0) := d0
  have d1' : callD tb gv (k + 9) "rounds_of" [.d (tabR (TR ps) (TB ps)), tp l, .d (.int 1)] = Zd.ret (tp a1) := d1
  have d2' : callD tb gv (k + 9) "rounds_of" [.d (tabR (TR ps) (TB ps)), tp l, .d (.int 2)] = Zd.ret (tp a2) := d2
  by_cases y0 : a0 = [0, 0, 0, 0, 1]
  · rw [if_pos (z0.mp y0)]
    simp [d_dark_after, b_dark_after, isOwn, c1, c2, c4, w13, r3, loopL, d0', dark_is, globM, eq_ip, y0]
  · rw [if_neg fun q => y0 (z0.mpr q)]
    by_cases y1 : a1 = [0, 0, 0, 0, 1]
    · rw [if_pos (z1.mp y1)]
      simp [d_dark_after, b_dark_after, isOwn, c1, c2, c4, w13, r3, loopL, d0', d1', dark_is, globM, eq_ip, y0, y1]
    · rw [if_neg fun q => y1 (z1.mpr q)]
      by_cases y2 : a2 = [0, 0, 0, 0, 1]
      · rw [if_pos (z2.mp y2)]
        simp [d_dark_after, b_dark_after, isOwn, c1, c2, c4, w13, r3, loopL, d0', d1', d2', dark_is, globM, eq_ip, y0, y1, y2]
      · rw [if_neg fun q => y2 (z2.mpr q)]
        simp [d_dark_after, b_dark_after, isOwn, c1, c2, c4, w13, r3, loopL, d0', d1', d2', dark_is, globM, eq_ip, y0, y1, y2]
end
end K76
end
section
set_option Elab.async false
set_option linter.all false
set_option maxRecDepth 100000
set_option maxHeartbeats 1000000
/-! K76N4: drawn stacks and lamps. -/
namespace K76
open PySem Zd Cone
theorem comp_draw {β : Type} {D : β → PyData} {Good : β → Prop} {f : PyData → Zd.M (List PyData)} (h : ∀ x st, Urn st → ∃ y st', f x st = .ok [D y] st' ∧ Urn st' ∧ Good y) : ∀ (xs : List PyData) (st : Store), Urn st → ∃ (ys : List β) (st' : Store), compL f xs st = .ok (ys.map D) st' ∧ Urn st' ∧ ys.length = xs.length ∧ ∀ y ∈ ys, Good y
  | [], st, u => ⟨[], st, rfl, u, rfl, fun _ z => by cases z⟩
  | x :: xs, st, u => by
    obtain ⟨y, s1, e1, u1, g⟩ := h x st u
    obtain ⟨ys, s2, e2, u2, l, gs⟩ := comp_draw h xs s1 u1
    refine ⟨y :: ys, s2, ?_, u2, by simp [l], fun z hz => ?_⟩
    · unfold compL
      rw [bd_at e1, bd_at e2]
      rfl
    · rcases List.mem_cons.mp hz with rfl | hz
      · exact g
      · exact gs z hz
theorem take1 {s : Store} (h : Urn s) : s.take 1 = s := by obtain ⟨_, _, _, rfl⟩ := h; rfl
theorem len1 {s : Store} (h : Urn s) : s.length = 1 := by obtain ⟨_, _, _, rfl⟩ := h; rfl
theorem stack (k : Nat) {m : Nat} (hm : m ≤ 100) {st : Store} (u : Urn st) : ∃ (ps : List Plate) (st' : Store), callD tb gv (k + 6) "_law_stack" [.box 0, .d (.int (m : Int))] st = .ok (.d (.tuple (ps.map Plate.D))) st' ∧ Urn st' ∧ ps.length ≤ m ∧ ∀ p ∈ ps, p.valid ∧ p.small 2 30 := by
  obtain ⟨n, s1, e1, u1, n1, n2⟩ := pick (k + 4) (m := (m : Int) + 1) (by omega) (by omega) u
  obtain ⟨j, rfl⟩ := Int.eq_ofNat_of_zero_le n1
  obtain ⟨ps, s2, e2, u2, l, g⟩ := comp_draw (D := Plate.D) (Good := fun p => p.valid ∧ p.small 2 30) (f := fun x => bd (asgT (T.nm 2) (W.d x) (wipeE [some (.box 0), some (.d (.int (m : Int))), none] [2])) (oneM [] (evP (callD tb gv (k + 5)) gv (.call "_law_plate" [(.var 0)])).v)) (fun x st u => by
    obtain ⟨p, s', e, u', v, s⟩ := plate k u
    refine ⟨p, s', ?_, u', v, s⟩
    simp [wipeE, one_is, bd_at e]) (rangeP 0 j) s1 u1
  have len : (rangeP 0 j).length = j := by unfold rangeP; simp
  rw [len] at l
  refine ⟨ps, s2, ?_, u2, by omega, g⟩
  have lm := lim_of e2 (by rw [List.length_map, l]; exact Nat.le_trans (by omega : j ≤ 100) (by decide))
  rw [callD_is (show tb "_law_stack" = some d__law_stack by kernel_rfl)]
  have e0 : b__law_stack = [.ret (.blt .tuple [(.comp (.nm 2) (.rng [(.call "_law_pick" [(.var 0), (.bin .Add (.var 1) (.cst (.int 1)))])]) [] (.call "_law_plate" [(.var 0)]) [2])])] := rfl
  simp only [d__law_stack, e0]
  simp only [List.length_cons, List.length_nil, Nat.zero_add, Nat.reduceAdd, decide_true, List.any_cons, isOwn, List.any_nil, Bool.or_self, Bool.not_false, Bool.and_self, want_true, List.map_cons, List.map_nil, Nat.reduceSub, List.reduceReplicate, List.cons_append, List.nil_append]
  rw [xs_cons, x_ret, ev_blt, ew_cons, ev_comp, ei_rng, ew_cons, ev_call, ew_cons, ev_var, var_zero, bd_ret, ew_cons, ev_bin, ev_var, var_succ, var_zero, bd_ret, ev_cst, bd_ret, add_i, bd_ret, ew_nil, bd_ret, bd_ret]
  simp only [bd_assoc, bd_ret]
  rw [bd_at e1]
  simp only [bd_ret, bd_assoc, ett_nil, List.length_cons, List.length_nil, Nat.zero_add, want_1, rng_n j (by omega : j ≤ 1000)]
  rw [bd_at lm]
  simp only [bd_ret, ew_nil, tuple_l]
  rw [ret_at, end_d, len1 u, take1 u2]
/-! lights -/
theorem gcd_low {l : List Int} (h : gcdL l ≠ 0) : gcdL (lowL l) = 1 := by
  have e : (lowL l).map (fun i => (gcdL l : Int) * i) = l := by
    unfold lowL
    rw [List.map_map]
    conv => rhs; rw [← List.map_id l]
    refine List.map_congr_left fun i hi => ?_
    exact Int.mul_ediv_cancel' (gcdL_dvd hi)
  have g := gcdL_mul (gcdL l : Int) (lowL l)
  rw [e, Int.natAbs_natCast] at g
  have p : 0 < gcdL l := by omega
  have : gcdL l * 1 = gcdL l * gcdL (lowL l) := by omega
  exact (Nat.eq_of_mul_eq_mul_left p this).symm
theorem gcd_over1 {l : List Int} {b : Int} (b0 : b ≠ 0) : gcdL (overL l b) = 1 := by
  unfold overL
  apply gcd_low
  have e : l.map (fun i => sgn b * i) ++ [sgn b * b] = (l ++ [b]).map fun i => sgn b * i := by simp
  rw [e, gcdL_sgn]
  exact gcdL_ne (i := b) (by simp) b0
theorem five_Lt {v : V4} {e : Int} {m : Nat} (hK : K v) (e0 : 0 < e) (bv : bdV m v) (be : Bd m e) (few : m ≤ 2000) : ∃ w f, overL v.L e = w.L ++ [f] ∧ Lt w f m := by
  obtain ⟨w, f, ew⟩ := five_shape (l := overL v.L e) (by rw [overL_length, L_len])
  refine ⟨w, f, ew, ?_⟩
  have bds := overL_bd (bdV_L bv) be
  obtain ⟨g, g0, hg⟩ := overL_back v.L e (by omega)
  have last := overL_last (l := v.L) (b := e) (by omega) (L_len v)
  have gc := gcd_over1 (l := v.L) (b := e) (by omega)
  rw [ew] at bds hg last gc
  have hw : w.L.map (fun i => g * i) = v.L ∧ g * f = e := by
    rw [List.map_append] at hg
    have := List.append_inj hg rfl
    exact ⟨this.1, by simpa using this.2⟩
  have f0 : 0 < f := last
  have gp : 0 < g := by
    rcases Int.lt_or_le 0 g with z | z
    · exact z
    · have := Int.mul_nonpos_of_nonpos_of_nonneg z (Int.le_of_lt f0)
      omega
  have vw : v = lin g 0 w zero := by
    have h := hw.1
    obtain ⟨a, b, c, d⟩ := v
    obtain ⟨p, q, r, s⟩ := w
    simp [V4.L] at h
    obtain ⟨h1, h2, h3, h4⟩ := h
    simp [lin, zero, h1, h2, h3, h4]
  refine ⟨K_sc gp (vw ▸ hK), f0, gc, ⟨?_, ?_, ?_, ?_⟩, bds f (by simp), few⟩
  · exact bds w.a (by simp [V4.L])
  · exact bds w.b (by simp [V4.L])
  · exact bds w.c (by simp [V4.L])
  · exact bds w.d (by simp [V4.L])
theorem law_five_v (k : Nat) {v : V4} {e : Int} {m : Nat} (few : m ≤ 2000) (e0 : 0 < e) (be : Bd m e) : callD tb gv (k + 2) "_law_five" [.d (.list (ip v.L)), .d (.int e)] = Zd.ret (tp (overL v.L e)) := to_ret fun st => law_five_is k v.L e m (by omega) be e0 (by show 4 < line; decide) st
theorem kind_K {o : Kd} {t : Int} (t0 : 0 ≤ t) (h : o.V) : K ⟨t * o.w, t * o.x, t * o.y, t * o.z⟩ := by
  obtain ⟨_, w1, q⟩ := h
  refine ⟨Int.mul_nonneg t0 (by omega), ?_⟩
  unfold V4.q
  have e : t * o.w * (t * o.w) - t * o.x * (t * o.x) - t * o.y * (t * o.y) - t * o.z * (t * o.z) = t * t * (o.w * o.w - (o.x * o.x + o.y * o.y + o.z * o.z)) := by grind
  show 0 ≤ t * o.w * (t * o.w) - t * o.x * (t * o.x) - t * o.y * (t * o.y) - t * o.z * (t * o.z)
  rw [e, q]
  simp
theorem law_of_kind (k : Nat) {o : Kd} {t b : Int} (h : o.V) (hb : o.B 15) (t0 : 0 < t) (t1 : Bd 40 t) (b0 : 0 < b) (b1 : Bd 40 b) : ∃ w f, callD tb gv (k + 3) "_law_of_kind" [.d o.D, .d (.int t), .d (.int b)] = Zd.ret (tp (w.L ++ [f])) ∧ Lt w f 60 := by
  have ow := kw_pos h
  obtain ⟨w, f, e, L⟩ := five_Lt (v := ⟨t * o.w, t * o.x, t * o.y, t * o.z⟩) (e := b * o.w) (m := 60) (kind_K (by omega) h) (Int.mul_pos b0 ow) ⟨(t1.mul hb.2.2.2).mono (by decide), (t1.mul hb.1).mono (by decide), (t1.mul hb.2.1).mono (by decide), (t1.mul hb.2.2.1).mono (by decide)⟩ ((b1.mul hb.2.2.2).mono (by decide)) (by decide)
  refine ⟨w, f, to_ret fun st => ?_, L⟩
  have c := law_five_v k (v := ⟨t * o.w, t * o.x, t * o.y, t * o.z⟩) (e := b * o.w) (m := 60) (by decide) (Int.mul_pos b0 ow) ((b1.mul hb.2.2.2).mono (by decide))
  rw [e] at c
  have c' : callD tb gv (k + 2) "_law_five" [.d (.list [.int (t * o.w), .int (t * o.x), .int (t * o.y), .int (t * o.z)]), .d (.int (b * o.w))] = Zd.ret (tp (w.L ++ [f])) := c
  have m1 : ∀ i, Bd 15 i → mulOk t i = true := fun i hi => mulOk_of t1 hi (by decide)
  have m2 : mulOk b o.w = true := mulOk_of b1 hb.2.2.2 (by decide)
  have l4 : decide (4 ≤ line) = true := by decide
  rw [callD_is (show tb "_law_of_kind" = some d__law_of_kind by kernel_rfl)]
  generalize w.L ++ [f] = r at *
  simp [d__law_of_kind, b__law_of_kind, isOwn, d4_0, d4_1, d4_2, d4_3, m1, hb.1, hb.2.1, hb.2.2.1, hb.2.2.2, m2, l4, c']
theorem pow_9 : binW .Pow (.d (.int 10)) (.d (.int 9)) = Zd.ret (.d (.int 1000000000)) := by
  funext st
  show want (decide ((0 : Int) ≤ 9) && decide ((9 : Int) ≤ 1000000) && decide ((10 : Int).natAbs < 2 ^ 64)) (Zd.int (10 ^ (9 : Int).toNat)) st = _
  rfl
theorem tops {j : Int} (h1 : 0 ≤ j) (h2 : j < 1000000000) {i : Nat} {p : PyData} (h : ([.int 1, .int 1, .int 2, .int 3, .int (1000003 + j)] : List PyData)[i]? = some p) : ∃ t : Int, p = .int t ∧ 0 < t ∧ Bd 31 t := by
  have := List.mem_of_getElem? h
  simp at this
  rcases this with rfl | rfl | rfl | rfl
  · exact ⟨1, rfl, by decide, by decide⟩
  · exact ⟨2, rfl, by decide, by decide⟩
  · exact ⟨3, rfl, by decide, by decide⟩
  · refine ⟨1000003 + j, rfl, by omega, ?_⟩
    have : (2 : Nat) ^ 31 = 2147483648 := by decide
    unfold Bd
    omega
/-- the root, step by step -/
def rootF (s : Int) : Nat → Int
  | 0 => 0
  | j + 1 => if rootF s j * rootF s j < s then rootF s j + 1 else rootF s j
theorem root_ok : ∀ s : Nat, s < 49 → (s : Int) ≤ rootF (s : Int) 7 * rootF (s : Int) 7 ∧ 0 ≤ rootF (s : Int) 7 ∧ rootF (s : Int) 7 ≤ 7 := by decide +kernel
theorem root_step {s : Int} (j : Nat) : 0 ≤ rootF s j ∧ rootF s j ≤ j := by
  induction j with
  | zero => exact ⟨Int.le_refl _, Int.le_refl _⟩
  | succ j ih =>
    unfold rootF
    split <;> omega
end K76
end
section
set_option Elab.async false
set_option linter.all false
set_option maxRecDepth 100000
set_option maxHeartbeats 1000000
/-! K76N5: lamps. -/
namespace K76
open PySem Zd Cone
def lampL : List S := [.asg (.nm 5) (.ife (.cmp .Lt (.bin .Mult (.var 5) (.var 5)) (.var 6)) (.bin .Add (.var 5) (.cst (.int 1))) (.var 5))]
def lampE (i b t x y z r : Int) (s : Int) (o : Option W) : Nv := [some (.box 0), some (.d (.int i)), some (.d (.int b)), some (.d (.int t)), some (.d (.list (ip [x, y, z]))), some (.d (.int r)), some (.d (.int s)), o, none]
theorem lamp_step (k : Nat) {i b t x y z r s : Int} (hr : r.natAbs < 100) (j : PyData) (o : Option W) : (bd (asgT (T.nm 7) (W.d j) (lampE i b t x y z r s o)) fun e1 => exPs (callD tb gv k) gv lampL e1) = Zd.ret (.nx (lampE i b t x y z (if r * r < s then r + 1 else r) s (some (.d j)))) := by
  have m : mulOk r r = true := mulOk_l (Nat.lt_of_lt_of_le hr (by decide))
  unfold lampL lampE
  by_cases h : r * r < s <;> simp [m, h]
theorem lamp_loop (k : Nat) {i b t x y z s : Int} (st : Store) : ∃ o, loopL (fun x' e => bd (asgT (T.nm 7) (W.d x') e) fun e1 => exPs (callD tb gv k) gv lampL e1) (rangeP 0 7) (lampE i b t x y z 0 s none) st = .ok (.nx (lampE i b t x y z (rootF s 7) s o)) st := by
  obtain ⟨e', h, o, rfl⟩ := loop_range (st := st) (F := fun x' e => bd (asgT (T.nm 7) (W.d x') e) fun e1 => exPs (callD tb gv k) gv lampL e1) (P := fun j e => ∃ o, e = lampE i b t x y z (rootF s j) s o) 0 7 (fun j e hj he => by
    obtain ⟨o, rfl⟩ := he
    obtain ⟨r1, r2⟩ := root_step (s := s) j
    exact ⟨_, congrFun (lamp_step k (by omega) (.int (0 + (j : Nat))) o) st, _, rfl⟩) (lampE i b t x y z 0 s none) ⟨none, rfl⟩
  exact ⟨o, h⟩
theorem roots {i : Nat} {p : PyData} (h : ([.int 0, .int 0, .int 1, .int 2, .int 7] : List PyData)[i]? = some p) : ∃ c : Int, p = .int c ∧ 0 ≤ c ∧ c ≤ 7 := by
  have := List.mem_of_getElem? h
  simp at this
  rcases this with rfl | rfl | rfl | rfl
  · exact ⟨0, rfl, by decide, by decide⟩
  · exact ⟨1, rfl, by decide, by decide⟩
  · exact ⟨2, rfl, by decide, by decide⟩
  · exact ⟨7, rfl, by decide, by decide⟩
theorem dark_Lt : Lt zero 1 60 := ⟨⟨by decide, by decide⟩, by decide, by decide, ⟨by decide, by decide, by decide, by decide⟩, by decide, by decide⟩
theorem l3_0 (x y z : Int) : subW (.d (.list (ip [x, y, z]))) (.d (.int 0)) = Zd.ret (.d (.int x)) := sub_lst rfl
theorem l3_1 (x y z : Int) : subW (.d (.list (ip [x, y, z]))) (.d (.int 1)) = Zd.ret (.d (.int y)) := sub_lst rfl
theorem l3_2 (x y z : Int) : subW (.d (.list (ip [x, y, z]))) (.d (.int 2)) = Zd.ret (.d (.int z)) := sub_lst rfl
theorem small_bd {t c : Int} (ht : Bd 31 t) (hc : c.natAbs < 64) : Bd 60 (t * c) := (ht.mul (m := 6) (by unfold Bd; omega)).mono (by decide)
theorem tb__law_lamp : tb "_law_lamp" = some d__law_lamp := by kernel_rfl
def lA : S := .par [1, 2] [(.call "_law_pick" [(.var 0), (.cst (.int 10))]), (.call "_law_between" [(.var 0), (.cst (.int 1)), (.cst (.int 5))])]
def lB : S := .asg (.nm 3) (.call "_law_one" [(.var 0), (.lst [(.cst (.int 1)), (.cst (.int 1)), (.cst (.int 2)), (.cst (.int 3)), (.bin .Add (.cst (.int 1000003)) (.call "_law_pick" [(.var 0), (.bin .Pow (.cst (.int 10)) (.cst (.int 9)))]))])])
def lTail : List S := [.par [4, 5] [(.comp (.nm 7) (.rng [(.cst (.int 3))]) [] (.call "_law_between" [(.var 0), (.neg (.cst (.int 4))), (.cst (.int 4))]) [7]), (.cst (.int 0))],
  .asg (.nm 6) (.bin .Add (.bin .Add (.bin .Mult (.sub (.var 4) (.cst (.int 0))) (.sub (.var 4) (.cst (.int 0)))) (.bin .Mult (.sub (.var 4) (.cst (.int 1))) (.sub (.var 4) (.cst (.int 1))))) (.bin .Mult (.sub (.var 4) (.cst (.int 2))) (.sub (.var 4) (.cst (.int 2))))),
  .for_ (.nm 7) (.rng [(.cst (.int 7))]) lampL,
  .asg (.nm 5) (.bin .Add (.var 5) (.call "_law_one" [(.var 0), (.lst [(.cst (.int 0)), (.cst (.int 0)), (.cst (.int 1)), (.cst (.int 2)), (.cst (.int 7))])])),
  .ret (.call "_law_five" [(.lst [(.bin .Mult (.var 3) (.var 5)), (.bin .Mult (.var 3) (.sub (.var 4) (.cst (.int 0)))), (.bin .Mult (.var 3) (.sub (.var 4) (.cst (.int 1)))), (.bin .Mult (.var 3) (.sub (.var 4) (.cst (.int 2))))]), (.var 2)])]
theorem r7 : rngM [.d (.int 7)] = Zd.ret (rangeP 0 7) := rfl
/-- a lamp of any sort: the last way -/
theorem lamp_tail (k : Nat) {i b t : Int} (t0 : 0 < t) (tB : Bd 31 t) (b1 : 1 ≤ b) (b2 : b ≤ 5) {st : Store} (u : Urn st) : ∃ w f st', exPs (callD tb gv (k + 2)) gv lTail [some (.box 0), some (.d (.int i)), some (.d (.int b)), some (.d (.int t)), none, none, none, none, none] st = .ok (.rt (tp (w.L ++ [f]))) st' ∧ Urn st' ∧ Lt w f 60 := by
  obtain ⟨x, s1, e1, u1, x1, x2⟩ := between k (lo := -4) (hi := 4) (by decide) (by decide) u
  obtain ⟨y, s2, e2, u2, y1, y2⟩ := between k (lo := -4) (hi := 4) (by decide) (by decide) u1
  obtain ⟨z, s3, e3, u3, z1, z2⟩ := between k (lo := -4) (hi := 4) (by decide) (by decide) u2
  have sq : ∀ q : Int, -4 ≤ q → q ≤ 4 → 0 ≤ q * q ∧ q * q ≤ 16 := fun q h1 h2 => by
    have : q = -4 ∨ q = -3 ∨ q = -2 ∨ q = -1 ∨ q = 0 ∨ q = 1 ∨ q = 2 ∨ q = 3 ∨ q = 4 := by omega
    rcases this with rfl | rfl | rfl | rfl | rfl | rfl | rfl | rfl | rfl <;> decide
  obtain ⟨xx0, xx1⟩ := sq x x1 x2
  obtain ⟨yy0, yy1⟩ := sq y y1 y2
  obtain ⟨zz0, zz1⟩ := sq z z1 z2
  generalize hs : x * x + y * y + z * z = s
  obtain ⟨sn, rfl⟩ := Int.eq_ofNat_of_zero_le (show 0 ≤ s by omega)
  obtain ⟨r1, r2, r3'⟩ := root_ok sn (by omega)
  obtain ⟨o, lp⟩ := lamp_loop (k + 2) (i := i) (b := b) (t := t) (x := x) (y := y) (z := z) (s := (sn : Int)) s3
  generalize rootF (sn : Int) 7 = r at *
  obtain ⟨j, p, s4, e4, u4, hp⟩ := one_of k (xs := [.int 0, .int 0, .int 1, .int 2, .int 7]) (by decide) (by decide) u3
  obtain ⟨c, rfl, c1, c2⟩ := roots hp
  have rr : (sn : Int) ≤ (r + c) * (r + c) := by
    have : r * r ≤ (r + c) * (r + c) := Int.mul_le_mul (by omega) (by omega) r2 (by omega)
    omega
  have hK : K ⟨t * (r + c), t * x, t * y, t * z⟩ := by
    refine ⟨Int.mul_nonneg (by omega) (by omega), ?_⟩
    unfold V4.q
    show 0 ≤ t * (r + c) * (t * (r + c)) - t * x * (t * x) - t * y * (t * y) - t * z * (t * z)
    have e : t * (r + c) * (t * (r + c)) - t * x * (t * x) - t * y * (t * y) - t * z * (t * z) = t * t * ((r + c) * (r + c) - (x * x + y * y + z * z)) := by grind
    rw [e, hs]
    exact Int.mul_nonneg (sq0 t) (by omega)
  have bB : Bd 60 b := by
    unfold Bd
    have : (60 : Nat) ≤ 2 ^ 60 := by decide
    omega
  obtain ⟨w, f, ew, L⟩ := five_Lt (m := 60) hK (by omega : 0 < b) ⟨small_bd tB (by omega), small_bd tB (by omega), small_bd tB (by omega), small_bd tB (by omega)⟩ bB (by decide)
  refine ⟨w, f, s4, ?_, u4, L⟩
  have c5 := law_five_v k (v := ⟨t * (r + c), t * x, t * y, t * z⟩) (e := b) (m := 60) (by decide) (by omega) bB
  rw [ew] at c5
  have c5' : callD tb gv (k + 2) "_law_five" [.d (.list [.int (t * (r + c)), .int (t * x), .int (t * y), .int (t * z)]), .d (.int b)] = Zd.ret (tp (w.L ++ [f])) := c5
  have cmp : lim (compL (fun x' => bd (asgT (T.nm 7) (W.d x') [some (.box 0), some (.d (.int i)), some (.d (.int b)), some (.d (.int t)), none, none, none, none, none]) (oneM [] (evP (callD tb gv (k + 2)) gv (.call "_law_between" [(.var 0), (.neg (.cst (.int 4))), (.cst (.int 4))])).v)) [.int 0, .int 1, .int 2]) st = .ok (ip [x, y, z]) s3 := by
    refine lim_of ?_ (by show 3 ≤ line; decide)
    simp [compL_cons, compL_nil, one_is, neg_i, bd_at e1, bd_at e2, bd_at e3]
    rfl
  have mq : ∀ q : Int, -4 ≤ q → q ≤ 4 → mulOk q q = true := fun q h1 h2 => mulOk_l (Nat.lt_of_lt_of_le (by omega : q.natAbs < 100) (by decide))
  have mt : ∀ q : Int, q.natAbs < 100 → mulOk t q = true := fun q h => mulOk_r (Nat.lt_of_lt_of_le h (by decide))
  have l4 : decide (4 ≤ line) = true := by decide
  have l5 : decide (5 ≤ line) = true := by decide
  have wp : wipeE [some (W.box 0), some (.d (.int i)), some (.d (.int b)), some (.d (.int t)), none, none, none, none, none] [7] = [some (.box 0), some (.d (.int i)), some (.d (.int b)), some (.d (.int t)), none, none, none, none, none] := rfl
  have s0 : [some (W.box 0), some (.d (.int i)), some (.d (.int b)), some (.d (.int t)), some (.d (.list (ip [x, y, z]))), some (.d (.int 0)), some (.d (.int (sn : Int))), none, none] = lampE i b t x y z 0 (sn : Int) none := rfl
  unfold lTail
  rw [xs_cons, x_par, es_comp, ev_comp, ei_rng, ew_cons, ev_cst, bd_ret, ew_nil, bd_ret, bd_ret]
  simp only [bd_ret, List.length_cons, List.length_nil, Nat.zero_add, w13, r3, bd_assoc, wp, ett_nil]
  rw [bd_at cmp]
  simp only [bd_ret, pure_d, es_cst, ev_cst, es_nil, List.length_cons, List.length_nil, Nat.zero_add, Nat.reduceAdd, decide_true, want_true, parE, List.set]
  rw [xs_cons, x_asg]
  simp only [ev_bin, ev_sub, ev_var, ev_cst, var_succ, var_zero, bd_ret, l3_0, l3_1, l3_2, mul_i (mq x x1 x2), mul_i (mq y y1 y2), mul_i (mq z z1 z2), add_i, hs, asg_nm, List.set]
  rw [s0, xs_cons, x_for, ei_rng, ew_cons, ev_cst, bd_ret, ew_nil, bd_ret, bd_ret]
  simp only [bd_ret, List.length_cons, List.length_nil, Nat.zero_add, want_1, r7]
  rw [bd_at lp]
  dsimp only
  unfold lampE
  simp [bd_at e4, l5, l3_0, l3_1, l3_2, mt (r + c) (by omega), mt x (by omega), mt y (by omega), mt z (by omega), l4, c5']
theorem lamp (k : Nat) {st : Store} (u : Urn st) : ∃ w f st', callD tb gv (k + 4) "_law_lamp" [.box 0] st = .ok (tp (w.L ++ [f])) st' ∧ Urn st' ∧ Lt w f 60 := by
  obtain ⟨i, s1, e1, u1, i1, i2⟩ := pick (k + 2) (m := 10) (by decide) (by decide) u
  obtain ⟨b, s2, e2, u2, b1, b2⟩ := between (k + 1) (lo := 1) (hi := 5) (by decide) (by decide) u1
  obtain ⟨j, s3, e3, u3, j1, j2⟩ := pick (k + 2) (m := 1000000000) (by decide) (by decide) u2
  obtain ⟨a, p, s4, e4, u4, hp⟩ := one_of (k + 1) (xs := [.int 1, .int 1, .int 2, .int 3, .int (1000003 + j)]) (by simp) (by simp) u3
  obtain ⟨t, rfl, t0, tB⟩ := tops j1 j2 hp
  have l4 : decide (4 ≤ line) = true := by decide
  have l5 : decide (5 ≤ line) = true := by decide
  have bB : Bd 60 b := by
    unfold Bd
    have : (60 : Nat) ≤ 2 ^ 60 := by decide
    omega
  have pA : exP (callD tb gv (k + 3)) gv lA [some (.box 0), none, none, none, none, none, none, none, none] st = .ok (.nx [some (.box 0), some (.d (.int i)), some (.d (.int b)), none, none, none, none, none, none]) s2 := by
    unfold lA
    simp [bd_at e1, bd_at e2, parE, want]
  have pB : exP (callD tb gv (k + 3)) gv lB [some (.box 0), some (.d (.int i)), some (.d (.int b)), none, none, none, none, none, none] s2 = .ok (.nx [some (.box 0), some (.d (.int i)), some (.d (.int b)), some (.d (.int t)), none, none, none, none, none]) s4 := by
    unfold lB
    simp [pow_9, bd_at e3, bd_at e4, l5]
  have e0 : b__law_lamp = lA :: lB :: .ite (.cmp .Eq (.var 1) (.cst (.int 0))) [.ret (.tup [(.cst (.int 0)), (.cst (.int 0)), (.cst (.int 0)), (.cst (.int 0)), (.cst (.int 1))])] [] ::
    .ite (.cmp .Lt (.var 1) (.cst (.int 3))) [.ret (.call "_law_five" [(.lst [(.var 3), (.cst (.int 0)), (.cst (.int 0)), (.cst (.int 0))]), (.var 2)])] [] ::
    .ite (.cmp .Lt (.var 1) (.cst (.int 6))) [.asg (.nm 8) (.call "_law_kind" [(.var 0)]), .ret (.call "_law_five" [(.lst [(.bin .Mult (.var 3) (.sub (.var 8) (.cst (.int 3)))), (.bin .Mult (.var 3) (.sub (.var 8) (.cst (.int 0)))), (.bin .Mult (.var 3) (.sub (.var 8) (.cst (.int 1)))), (.bin .Mult (.var 3) (.sub (.var 8) (.cst (.int 2))))]), (.var 2)])] [] :: lTail := rfl
  rw [callD_is tb__law_lamp]
  simp only [d__law_lamp, e0]
  simp only [List.length_cons, List.length_nil, Nat.zero_add, Nat.reduceAdd, decide_true, List.any_cons, isOwn, List.any_nil, Bool.or_self, Bool.not_false, Bool.and_self, want_true, List.map_cons, List.map_nil, Nat.reduceSub, List.reduceReplicate, List.cons_append, List.nil_append, len1 u]
  rw [xs_cons, bd_at pA]
  dsimp only
  rw [xs_cons, bd_at pB]
  dsimp only
  by_cases h1 : i = 0
  · refine ⟨zero, 1, s4, ?_, u4, dark_Lt⟩
    rw [xs_cons]
    simp [h1, l5, take1 u4]
    rfl
  · by_cases h2 : i < 3
    · have hK : K ⟨t, 0, 0, 0⟩ := ⟨by show 0 ≤ t; omega, by unfold V4.q; have := sq0 t; simp; exact this⟩
      obtain ⟨w, f, ew, L⟩ := five_Lt (m := 60) hK (by omega : 0 < b) ⟨tB.mono (by decide), by show Bd 60 0; decide, by show Bd 60 0; decide, by show Bd 60 0; decide⟩ bB (by decide)
      have c5 := law_five_v (k + 1) (v := ⟨t, 0, 0, 0⟩) (e := b) (m := 60) (by decide) (by omega) bB
      rw [ew] at c5
      have c5' : callD tb gv (k + 3) "_law_five" [.d (.list [.int t, .int 0, .int 0, .int 0]), .d (.int b)] = Zd.ret (tp (w.L ++ [f])) := c5
      refine ⟨w, f, s4, ?_, u4, L⟩
      generalize w.L ++ [f] = r at *
      rw [xs_cons]
      simp [h1, h2, l4, c5', take1 u4]
    · by_cases h3 : i < 6
      · obtain ⟨o, s5, e5, u5, v, hb⟩ := kind k u4
        obtain ⟨w, f, ew, L⟩ := five_Lt (v := ⟨t * o.w, t * o.x, t * o.y, t * o.z⟩) (e := b) (m := 60) (kind_K (by omega) v) (by omega) ⟨(tB.mul hb.2.2.2).mono (by decide), (tB.mul hb.1).mono (by decide), (tB.mul hb.2.1).mono (by decide), (tB.mul hb.2.2.1).mono (by decide)⟩ bB (by decide)
        have c5 := law_five_v (k + 1) (v := ⟨t * o.w, t * o.x, t * o.y, t * o.z⟩) (e := b) (m := 60) (by decide) (by omega) bB
        rw [ew] at c5
        have c5' : callD tb gv (k + 3) "_law_five" [.d (.list [.int (t * o.w), .int (t * o.x), .int (t * o.y), .int (t * o.z)]), .d (.int b)] = Zd.ret (tp (w.L ++ [f])) := c5
        have m1 : ∀ i, Bd 5 i → mulOk t i = true := fun i hi => mulOk_of tB hi (by decide)
        refine ⟨w, f, s5, ?_, u5, L⟩
        generalize w.L ++ [f] = r at *
        rw [xs_cons]
        simp [h1, h2, h3, bd_at e5, d4_0, d4_1, d4_2, d4_3, m1, hb.1, hb.2.1, hb.2.2.1, hb.2.2.2, l4, c5', take1 u5]
      · obtain ⟨w, f, s5, e5, u5, L⟩ := lamp_tail (k + 1) (i := i) t0 tB b1 b2 u4
        refine ⟨w, f, s5, ?_, u5, L⟩
        generalize w.L ++ [f] = r at *
        rw [xs_cons]
        simp [h1, h2, h3]
        rw [e5, end_d, take1 u5]
end K76
end
section
set_option Elab.async false
set_option linter.all false
set_option maxRecDepth 100000
set_option maxHeartbeats 1000000
/-! K76N6: drawn stacks that dim, lamps for a stack. -/
namespace K76
open PySem Zd Cone
theorem gcd_neg (l : List Int) : gcdL (l.map fun i => -i) = gcdL l := by
  have h := gcdL_mul (-1) l
  simp at h
  exact h
theorem gcd_turned {l : List Int} (h : gcdL l ≠ 0) : gcdL (turnedL l) = 1 := by
  have g := gcd_low h
  unfold turnedL
  split
  · exact g
  · rw [← gcd_neg]
    have e : ((l.map fun i => -(i / (gcdL l : Int))).map fun i => -i) = lowL l := by
      unfold lowL
      rw [List.map_map]
      refine List.map_congr_left fun i _ => ?_
      show - -(i / (gcdL l : Int)) = _
      omega
    rw [e, g]
theorem quo_pos {a : Int} {g : Nat} (g0 : g ≠ 0) (d : (g : Int) ∣ a) : (0 < a → 0 < a / (g : Int)) ∧ (a < 0 → a / (g : Int) < 0) := by
  obtain ⟨q1, q2⟩ := quo_sign (g := (g : Int)) (by omega) d
  refine ⟨fun h => ?_, fun h => q1.mpr h⟩
  have n1 := (not_congr q1).mpr (by omega)
  have n2 := (not_congr q2).mpr (by omega)
  omega
/-- a half turn across two numbers -/
theorem flip_turn {a b : Int} {n : Nat} (hn : n ≤ 15) (h : a ≠ 0 ∨ b ≠ 0) (ha : Bd n a) (hb : Bd n b) : ∃ p q r s, turnedL [0, a, b, 0] = [p, q, r, s] ∧ turnV p q r s ∧ Bd n p ∧ Bd n q ∧ Bd n r ∧ Bd n s ∧ gcdL [0, a, b, 0] ≠ 0 ∧ gcdL [0, a, b, 0] < 100000 ∧ ([0, a, b, 0].filter (· ≠ 0)).length ≠ 0 := by
  have g0 : gcdL [0, a, b, 0] ≠ 0 := by
    rcases h with h | h
    · exact gcdL_ne (i := a) (by simp) h
    · exact gcdL_ne (i := b) (by simp) h
  have gl : gcdL [0, a, b, 0] < 100000 := by
    have : gcdL [0, a, b, 0] < 2 ^ n := by
      rcases h with h | h
      · exact gcdL_bd (i := a) (by simp) h ha
      · exact gcdL_bd (i := b) (by simp) h hb
    have := Nat.pow_le_pow_right (show 0 < 2 by decide) hn
    omega
  have g1 := gcd_turned g0
  have bq : ∀ i : Int, Bd n i → Bd n (i / (gcdL [0, a, b, 0] : Int)) := fun i hi => by
    have := quo_bd (gcdL [0, a, b, 0]) 1 (.inl rfl) hi
    rwa [Int.one_mul] at this
  have da : (gcdL [0, a, b, 0] : Int) ∣ a := gcdL_dvd (by simp)
  have db : (gcdL [0, a, b, 0] : Int) ∣ b := gcdL_dvd (by simp)
  obtain ⟨pa, na⟩ := quo_pos g0 da
  obtain ⟨pb, nb⟩ := quo_pos g0 db
  have z15 : Bd n 0 := Bd.zero
  unfold turnedL at *
  generalize gcdL [0, a, b, 0] = g at *
  by_cases a0 : a = 0
  · subst a0
    have b0 : b ≠ 0 := h.resolve_left (fun z => z rfl)
    have fl : ([0, 0, b, 0] : List Int).filter (· ≠ 0) = [b] := by simp [b0]
    rw [fl] at g1 ⊢
    have z0 : (0 : Int) / (g : Int) = 0 := Int.zero_ediv _
    rcases Int.lt_or_gt_of_ne b0 with hb0 | hb0
    · have n1 : ¬ 0 < ([b] : List Int).headD 0 := by show ¬ 0 < b; omega
      simp only [if_neg n1, List.map_cons, List.map_nil, z0] at g1 ⊢
      refine ⟨_, _, _, _, rfl, ⟨g1, -(b / (g : Int)), [], ?_, by have := nb hb0; omega⟩, z15.neg, z15.neg, (bq b hb).neg, z15.neg, g0, gl, by simp⟩
      have : -(b / (g : Int)) ≠ 0 := by have := nb hb0; omega
      simp [this]
    · have n1 : 0 < ([b] : List Int).headD 0 := by show 0 < b; omega
      simp only [if_pos n1, List.map_cons, List.map_nil, z0] at g1 ⊢
      refine ⟨_, _, _, _, rfl, ⟨g1, b / (g : Int), [], ?_, pb hb0⟩, z15, z15, bq b hb, z15, g0, gl, by simp⟩
      have : b / (g : Int) ≠ 0 := by have := pb hb0; omega
      simp [this]
  · obtain ⟨r, fl⟩ : ∃ r, ([0, a, b, 0] : List Int).filter (· ≠ 0) = a :: r := by
      by_cases b0 : b = 0
      · exact ⟨[], by simp [a0, b0]⟩
      · exact ⟨[b], by simp [a0, b0]⟩
    rw [fl] at g1 ⊢
    have z0 : (0 : Int) / (g : Int) = 0 := Int.zero_ediv _
    rcases Int.lt_or_gt_of_ne a0 with ha0 | ha0
    · have n1 : ¬ 0 < (a :: r : List Int).headD 0 := by show ¬ 0 < a; omega
      simp only [if_neg n1, List.map_cons, List.map_nil, z0] at g1 ⊢
      have ne : -(a / (g : Int)) ≠ 0 := by have := na ha0; omega
      refine ⟨_, _, _, _, rfl, ⟨g1, -(a / (g : Int)), ([-(b / (g : Int)), -0] : List Int).filter (· ≠ 0), ?_, by have := na ha0; omega⟩, z15.neg, (bq a ha).neg, (bq b hb).neg, z15.neg, g0, gl, by simp⟩
      rw [List.filter_cons_of_neg (by simp), List.filter_cons_of_pos (by simpa using ne)]
    · have n1 : 0 < (a :: r : List Int).headD 0 := by show 0 < a; omega
      simp only [if_pos n1, List.map_cons, List.map_nil, z0] at g1 ⊢
      have ne : a / (g : Int) ≠ 0 := by have := pa ha0; omega
      refine ⟨_, _, _, _, rfl, ⟨g1, a / (g : Int), ([b / (g : Int), 0] : List Int).filter (· ≠ 0), ?_, pa ha0⟩, z15, bq a ha, bq b hb, z15, g0, gl, by simp⟩
      rw [List.filter_cons_of_neg (by simp), List.filter_cons_of_pos (by simpa using ne)]
theorem div_nat2 {i : Int} {g : Nat} (hg : g ≠ 0) (hz : g < 100000) : binW .FloorDiv (.d (.int i)) (.d (.int (g : Int))) = Zd.ret (.d (.int (i / (g : Int)))) := by
  rw [fdiv_i (by omega) (by
    rw [Int.natAbs_natCast]
    have := (Nat.log2_lt (k := 17) hg).mpr (by omega)
    omega), Int.fdiv_eq_ediv_of_nonneg i (Int.natCast_nonneg _)]
theorem turn_small15 {a b c d : Int} (v : turnV a b c d) (ha : Bd 5 a) (hb : Bd 5 b) (hc : Bd 5 c) (hd : Bd 5 d) : (Bare.turn a b c d).small 30 := by
  have q := sum4_ne v
  refine ⟨fun r hr i hi => (spun_bd ha hb hc hd r hr i hi).mono (by decide), ?_, ?_, ha.mono (by decide), hb.mono (by decide), hc.mono (by decide), hd.mono (by decide), q⟩
  · exact ((((ha.mul ha).add (hb.mul hb)).add (hc.mul hc)).add (hd.mul hd)).mono (by decide)
  · show a * a + b * b + c * c + d * d ≠ 0
    omega
theorem law_turned2 (k : Nat) {l : List Int} (hl : l.length ≤ 100) (h0 : (l.filter (· ≠ 0)).length ≠ 0) (g2 : gcdL l ≠ 0) (g3 : gcdL l < 1000) : callD tb gv (k + 2) "_law_turned" [.d (.list (ip l))] = Zd.ret (tp (turnedL l)) := law_turned k hl h0 g2 g3
theorem tb__law_flip : tb "_law_flip" = some d__law_flip := by kernel_rfl
theorem flip (k : Nat) {o : Kd} (h : o.V) (hb : o.B 5) : ∃ a b c d, callD tb gv (k + 3) "_law_flip" [.d o.D] = Zd.ret (tp [a, b, c, d]) ∧ turnV a b c d ∧ Bd 5 a ∧ Bd 5 b ∧ Bd 5 c ∧ Bd 5 d := by
  have l4 : decide (4 ≤ line) = true := by decide
  by_cases z : o.x = 0 ∧ o.y = 0
  · refine ⟨0, 1, 0, 0, to_ret fun st => ?_, ⟨by decide, 1, [], by decide, by decide⟩, by decide, by decide, by decide, by decide⟩
    rw [callD_is tb__law_flip]
    simp [d__law_flip, b__law_flip, isOwn, d4_0, d4_1, z.1, z.2, l4, ip]
  · have ne : o.y ≠ 0 ∨ -o.x ≠ 0 := by omega
    obtain ⟨p, q, r, s, e, v, t1, t2, t3, t4, g0, _, f0⟩ := flip_turn (by decide : 5 ≤ 15) ne hb.2.1 hb.1.neg
    have gl : gcdL [0, o.y, -o.x, 0] < 1000 := by
      have : gcdL [0, o.y, -o.x, 0] < 2 ^ 5 := by
        rcases ne with h | h
        · exact gcdL_bd (i := o.y) (by simp) h hb.2.1
        · exact gcdL_bd (i := -o.x) (by simp) h hb.1.neg
      omega
    have c := law_turned k (l := [0, o.y, -o.x, 0]) (by show 4 ≤ 100; decide) f0 g0 gl
    rw [e] at c
    have c' : callD tb gv (k + 2) "_law_turned" [.d (.list [.int 0, .int o.y, .int (-o.x), .int 0])] = Zd.ret (tp [p, q, r, s]) := c
    refine ⟨p, q, r, s, to_ret fun st => ?_, v, t1, t2, t3, t4⟩
    rw [callD_is tb__law_flip]
    by_cases x0 : o.x = 0
    · have y0 : o.y ≠ 0 := fun y => z ⟨x0, y⟩
      rw [x0] at c'
      simp [d__law_flip, b__law_flip, isOwn, d4_0, d4_1, x0, y0, l4]
      rw [show (-0 : Int) = 0 from rfl] at c'
      simp [c']
    · simp [d__law_flip, b__law_flip, isOwn, d4_0, d4_1, x0, l4, c']
/-! the kinds of a stack -/
def kindOf : Plate → Option Kd
  | .bare (.pol x y z w) => some ⟨x, y, z, w⟩
  | .bare (.part x y z w _ _ _ _) => some ⟨x, y, z, w⟩
  | _ => none
theorem abs_le {x w : Int} (w0 : 0 ≤ w) (h : x * x ≤ w * w) : x.natAbs ≤ w.natAbs := by
  have h1 : x ≤ w := sq_le w0 h
  have h2 : -x ≤ w := sq_le w0 (by rw [Int.neg_mul_neg]; exact h)
  omega
theorem kd_B15 {o : Kd} (h : o.V) (q : Bd 30 (o.w * o.w)) : o.B 15 := by
  obtain ⟨_, w1, e⟩ := h
  have wb : o.w.natAbs < 2 ^ 15 := by
    unfold Bd at q
    rw [Int.natAbs_mul] at q
    rcases Nat.lt_or_ge o.w.natAbs (2 ^ 15) with z | z
    · exact z
    · have := Nat.mul_le_mul z z
      have e : (2 : Nat) ^ 15 * 2 ^ 15 = 2 ^ 30 := by decide
      omega
  have sx := sq0 o.x
  have sy := sq0 o.y
  have sz := sq0 o.z
  have k : ∀ x : Int, x * x ≤ o.w * o.w → Bd 15 x := fun x hx => Nat.lt_of_le_of_lt (abs_le (by omega) hx) wb
  exact ⟨k _ (by omega), k _ (by omega), k _ (by omega), wb⟩
theorem kindOf_ok {p : Plate} {o : Kd} {n : Nat} (h : kindOf p = some o) (v : p.valid) (s : p.small n 30) : o.V ∧ o.B 15 := by
  match p, h with
  | .bare (.pol x y z w), h =>
    cases h
    have V : Kd.V ⟨x, y, z, w⟩ := v
    refine ⟨V, kd_B15 V ?_⟩
    have q := s.2.1
    have e : (Bare.pol x y z w).b = 2 * w * w := by show 2 * (1 * 1) * (1 * 1) * w * w = _; simp
    rw [e] at q
    have ww := sq0 w
    have e2 : 2 * w * w = 2 * (w * w) := Int.mul_assoc _ _ _
    rw [e2] at q
    unfold Bd at q ⊢
    show (w * w).natAbs < 2 ^ 30
    omega
  | .bare (.part x y z w f0 f1 g0 g1), h =>
    cases h
    have V : Kd.V ⟨x, y, z, w⟩ := v.1
    refine ⟨V, kd_B15 V ?_⟩
    have q := s.2.1
    have f1p := v.2.1.2.1
    have g1p := v.2.2.2.1
    have fg := Int.mul_pos f1p g1p
    have ww := sq0 w
    have e : (Bare.part x y z w f0 f1 g0 g1).b = 2 * ((f1 * g1) * (f1 * g1)) * (w * w) := by show 2 * (f1 * g1) * (f1 * g1) * w * w = _; grind
    rw [e] at q
    have fq := Int.mul_pos fg fg
    have k1 : 1 * (w * w) ≤ 2 * ((f1 * g1) * (f1 * g1)) * (w * w) := Int.mul_le_mul_of_nonneg_right (by omega) ww
    unfold Bd at q ⊢
    show (w * w).natAbs < 2 ^ 30
    omega
theorem in_words {w : Str} : cmpB .In (.d (.str w)) (.d (.list [.str "polariser", .str "partial"])) = Zd.ret (("polariser" : Str) == w || ("partial" : Str) == w) := by
  funext st
  show want (flatP (.str w) && [PyData.str "polariser", .str "partial"].all flatP) (Zd.ret ([PyData.str "polariser", .str "partial"].any fun y => PyData.eqv y (.str w))) st = _
  simp [flatP, PyData.eqv, List.any]
theorem pick_kind {C : Str → List W → Zd.M W} (p : Plate) (o0 o1 o2 o3 : Option W) : (bd (asgT (T.nm 4) (W.d p.D) [o0, o1, o2, o3, none]) (oneM [(evP C gv (.cmp .In (.sub (.var 4) (.cst (.int 0))) (.lst [(.cst (.str "polariser")), (.cst (.str "partial"))]))).t] (evP C gv (.sub (.var 4) (.cst (.int 1)))).v)) = Zd.ret ((kindOf p).toList.map Kd.D) := by
  have l2 : decide (2 ≤ line) = true := by decide
  match p with
  | .set a b q => 
    have e1 : (("polariser" : Str) == ("set" : Str)) = false := by decide +kernel
    have e2 : (("partial" : Str) == ("set" : Str)) = false := by decide +kernel
    simp [one_if, set_head, in_words, e1, e2, l2, kindOf]
  | .bare (.pol x y z w) =>
    have e1 : (("polariser" : Str) == ("polariser" : Str)) = true := by decide +kernel
    simp [one_if, Plate.D, Bare.D, sub_t0, sub_t1, in_words, e1, l2, kindOf, Kd.D]
  | .bare (.part x y z w f0 f1 g0 g1) =>
    have e1 : (("polariser" : Str) == ("partial" : Str)) = false := by decide +kernel
    have e2 : (("partial" : Str) == ("partial" : Str)) = true := by decide +kernel
    simp [one_if, Plate.D, Bare.D, sub_t0, sub_t1, in_words, e1, e2, l2, kindOf, Kd.D]
  | .bare (.turn a b c d) =>
    have e1 : (("polariser" : Str) == ("turner" : Str)) = false := by decide +kernel
    have e2 : (("partial" : Str) == ("turner" : Str)) = false := by decide +kernel
    simp [one_if, Plate.D, Bare.D, sub_t0, sub_t1, in_words, e1, e2, l2, kindOf]
  | .bare (.mag a b) =>
    have e1 : (("polariser" : Str) == ("magnet" : Str)) = false := by decide +kernel
    have e2 : (("partial" : Str) == ("magnet" : Str)) = false := by decide +kernel
    simp [one_if, Plate.D, Bare.D, sub_t0, sub_t1, in_words, e1, e2, l2, kindOf]
  | .bare (.grey a b) =>
    have e1 : (("polariser" : Str) == ("grey" : Str)) = false := by decide +kernel
    have e2 : (("partial" : Str) == ("grey" : Str)) = false := by decide +kernel
    simp [one_if, Plate.D, Bare.D, sub_t0, sub_t1, in_words, e1, e2, l2, kindOf]
  | .bare (.dull a b) =>
    have e1 : (("polariser" : Str) == ("dull" : Str)) = false := by decide +kernel
    have e2 : (("partial" : Str) == ("dull" : Str)) = false := by decide +kernel
    simp [one_if, Plate.D, Bare.D, sub_t0, sub_t1, in_words, e1, e2, l2, kindOf]
  | .bare .glass =>
    have e1 : (("polariser" : Str) == ("glass" : Str)) = false := by decide +kernel
    have e2 : (("partial" : Str) == ("glass" : Str)) = false := by decide +kernel
    simp [one_if, Plate.D, Bare.D, sub_t0, sub_t1, in_words, e1, e2, l2, kindOf]
end K76
end
section
set_option Elab.async false
set_option linter.all false
set_option maxRecDepth 100000
set_option maxHeartbeats 1000000
/-! K76N7: a lamp for a stack; stacks that dim. -/
namespace K76
open PySem Zd Cone
def kindsOf (ps : List Plate) : List Kd := ps.flatMap fun p => (kindOf p).toList
theorem kinds_all {ps : List Plate} {n : Nat} (h : ∀ p ∈ ps, p.valid ∧ ∃ n, p.small n 30) : ∀ o ∈ kindsOf ps, o.V ∧ o.B 15 := by
  intro o ho
  obtain ⟨p, hp, hk⟩ := List.mem_flatMap.mp ho
  obtain ⟨v, n, s⟩ := h p hp
  exact kindOf_ok (by simpa using hk) v s
theorem kinds_len : ∀ ps : List Plate, (kindsOf ps).length ≤ ps.length
  | [] => by simp [kindsOf]
  | p :: ps => by
    have := kinds_len ps
    unfold kindsOf at *
    rw [List.flatMap_cons, List.length_append]
    have : (kindOf p).toList.length ≤ 1 := by cases kindOf p <;> simp
    simp only [List.length_cons]
    omega
theorem kinds_comp {C : Str → List W → Zd.M W} (o0 o1 o2 o3 : Option W) (st : Store) : ∀ ps : List Plate, compL (fun x => bd (asgT (T.nm 4) (W.d x) [o0, o1, o2, o3, none]) (oneM [(evP C gv (.cmp .In (.sub (.var 4) (.cst (.int 0))) (.lst [(.cst (.str "polariser")), (.cst (.str "partial"))]))).t] (evP C gv (.sub (.var 4) (.cst (.int 1)))).v)) (ps.map Plate.D) st = .ok ((kindsOf ps).map Kd.D) st
  | [] => rfl
  | p :: ps => by
    rw [List.map_cons, compL_cons, pick_kind, bd_ret, bd_at (kinds_comp o0 o1 o2 o3 st ps)]
    unfold kindsOf
    rw [List.flatMap_cons, List.map_append]
    rfl
theorem eq_kinds_nil (ks : List Kd) : cmpB .Eq (.d (.list (ks.map Kd.D))) (.d (.list [])) = Zd.ret ks.isEmpty := by
  rw [eq_p (kds_shaped ks) (by decide +kernel)]
  cases ks <;> simp [PyData.eqv, PyData.eqvAll]
theorem tb__law_lamp_for : tb "_law_lamp_for" = some d__law_lamp_for := by kernel_rfl
theorem lamp_for (k : Nat) {ps : List Plate} (hl : ps.length ≤ 100) (h : ∀ p ∈ ps, p.valid ∧ ∃ n, p.small n 30) {st : Store} (u : Urn st) : ∃ w f st', callD tb gv (k + 5) "_law_lamp_for" [.box 0, .d (.tuple (ps.map Plate.D))] st = .ok (tp (w.L ++ [f])) st' ∧ Urn st' ∧ Lt w f 60 := by
  have l0 : decide (0 ≤ line) = true := by decide
  have kl := kinds_len ps
  have ka := kinds_all (n := 0) h
  have cmp := lim_of (kinds_comp (C := callD tb gv (k + 4)) (some (.box 0)) (some (.d (.tuple (ps.map Plate.D)))) none none st ps) (by rw [List.length_map]; exact Nat.le_trans (by omega : (kindsOf ps).length ≤ 100) (by decide))
  generalize kindsOf ps = ks at *
  have q := eq_kinds_nil ks
  have e0 : b__law_lamp_for = [.asg (.nm 2) (.comp (.nm 4) (.var 1) [(.cmp .In (.sub (.var 4) (.cst (.int 0))) (.lst [(.cst (.str "polariser")), (.cst (.str "partial"))]))] (.sub (.var 4) (.cst (.int 1))) [4]),
    .ite (.or_ (.cmp .Eq (.var 2) (.lst [])) (.cmp .Eq (.call "_law_pick" [(.var 0), (.cst (.int 3))]) (.cst (.int 0)))) [.ret (.call "_law_lamp" [(.var 0)])] [],
    .asg (.nm 3) (.call "_law_one" [(.var 0), (.var 2)]), .asg (.nm 3) (.ife (.cmp .Eq (.call "_law_pick" [(.var 0), (.cst (.int 3))]) (.cst (.int 0))) (.var 3) (.call "_law_opposite" [(.var 3)])),
    .ret (.call "_law_of_kind" [(.var 3), (.bin .Add (.cst (.int 1)) (.call "_law_pick" [(.var 0), (.cst (.int 6))])), (.bin .Add (.cst (.int 1)) (.call "_law_pick" [(.var 0), (.cst (.int 6))]))])] := rfl
  have wp : wipeE [some (W.box 0), some (.d (.tuple (ps.map Plate.D))), none, none, none] [4] = [some (.box 0), some (.d (.tuple (ps.map Plate.D))), none, none, none] := rfl
  -- after the first statement
  have start : callD tb gv (k + 5) "_law_lamp_for" [.box 0, .d (.tuple (ps.map Plate.D))] st = endM st.length (exPs (callD tb gv (k + 4)) gv (b__law_lamp_for.drop 1) [some (.box 0), some (.d (.tuple (ps.map Plate.D))), some (.d (.list (ks.map Kd.D))), none, none] st) := by
    rw [callD_is tb__law_lamp_for]
    simp only [d__law_lamp_for, e0]
    simp only [List.length_cons, List.length_nil, Nat.zero_add, Nat.reduceAdd, decide_true, List.any_cons, isOwn, List.any_nil, Bool.or_self, Bool.not_false, Bool.and_self, want_true, List.map_cons, List.map_nil, Nat.reduceSub, List.reduceReplicate, List.cons_append, List.nil_append, List.drop_succ_cons, List.drop_zero]
    rw [xs_cons, x_asg, ev_comp, ei_var, ev_var, var_succ, var_zero, bd_ret, items_t, bd_ret, wp, ett_cons, ett_nil]
    simp only [bd_assoc]
    rw [bd_at cmp]
    simp only [bd_ret, asg_nm, List.set]
  rw [start, e0]
  simp only [List.drop_succ_cons, List.drop_zero]
  by_cases he : ks.isEmpty = true
  · rw [he] at q
    obtain ⟨w, f, s1, e1, u1, L⟩ := lamp k u
    refine ⟨w, f, s1, ?_, u1, L⟩
    generalize w.L ++ [f] = r at *
    generalize ks.map Kd.D = l at *
    simp [l0, q, bd_at e1, len1 u, take1 u1]
  · rw [Bool.not_eq_true] at he
    rw [he] at q
    obtain ⟨i, s1, e1, u1, _, _⟩ := pick (k + 3) (m := 3) (by decide) (by decide) u
    by_cases hi : i = 0
    · obtain ⟨w, f, s2, e2, u2, L⟩ := lamp k u1
      refine ⟨w, f, s2, ?_, u2, L⟩
      generalize w.L ++ [f] = r at *
      generalize ks.map Kd.D = l at *
      simp [l0, q, bd_at e1, hi, bd_at e2, len1 u, take1 u2]
    · have kp : 0 < ks.length := by
        cases ks with
        | nil => cases he
        | cons a r => simp
      obtain ⟨j, p, s2, e2, u2, hp⟩ := one_of (k + 2) (xs := ks.map Kd.D) (by rw [List.length_map]; exact kp) (by rw [List.length_map]; omega) u1
      obtain ⟨o, ho, rfl⟩ := List.mem_map.mp (List.mem_of_getElem? hp)
      obtain ⟨V, B⟩ := ka o ho
      obtain ⟨i2, s3, e3, u3, _, _⟩ := pick (k + 3) (m := 3) (by decide) (by decide) u2
      obtain ⟨a, s4, e4, u4, a1, a2⟩ := pick (k + 3) (m := 6) (by decide) (by decide) u3
      obtain ⟨b, s5, e5, u5, b1, b2⟩ := pick (k + 3) (m := 6) (by decide) (by decide) u4
      have small : ∀ x : Int, 0 ≤ x → x < 6 → Bd 40 (1 + x) := fun x h1 h2 => by
        unfold Bd
        have : (40 : Nat) ≤ 2 ^ 40 := by decide
        omega
      by_cases h2 : i2 = 0
      · obtain ⟨w, f, ew, L⟩ := law_of_kind (k + 1) V B (by omega : 0 < 1 + a) (small a a1 a2) (by omega : 0 < 1 + b) (small b b1 b2)
        refine ⟨w, f, s5, ?_, u5, L⟩
        generalize w.L ++ [f] = r at *
        generalize ks.map Kd.D = l at *
        simp [l0, q, bd_at e1, hi, bd_at e2, bd_at e3, h2, bd_at e4, bd_at e5, ew, len1 u, take1 u5]
      · obtain ⟨w, f, ew, L⟩ := law_of_kind (k + 1) (opp_V V) (opp_B B) (by omega : 0 < 1 + a) (small a a1 a2) (by omega : 0 < 1 + b) (small b b1 b2)
        have c := opposite (k + 3) o
        refine ⟨w, f, s5, ?_, u5, L⟩
        generalize w.L ++ [f] = r at *
        generalize ks.map Kd.D = l at *
        simp [l0, q, bd_at e1, hi, bd_at e2, bd_at e3, h2, c, bd_at e4, bd_at e5, ew, len1 u, take1 u5]
/-! stacks -/
theorem polS {o : Kd} (v : o.V) (b : o.B 5) : (Plate.bare (.pol o.x o.y o.z o.w)).valid ∧ (Plate.bare (.pol o.x o.y o.z o.w)).small 2 30 := ⟨v, pol_small v b⟩
theorem tb__law_dim : tb "_law_dim" = some d__law_dim := by kernel_rfl
theorem dim (k : Nat) {st : Store} (u : Urn st) : ∃ (ps : List Plate) (st' : Store), callD tb gv (k + 7) "_law_dim" [.box 0] st = .ok (.d (.tuple (ps.map Plate.D))) st' ∧ Urn st' ∧ ps.length ≤ 4 ∧ ∀ p ∈ ps, p.valid ∧ p.small 2 30 := by
  have l1 : decide (1 ≤ line) = true := by decide
  have l2 : decide (2 ≤ line) = true := by decide
  have l4 : decide (4 ≤ line) = true := by decide
  obtain ⟨i, s1, e1, u1, _, _⟩ := pick (k + 5) (m := 5) (by decide) (by decide) u
  obtain ⟨o, s2, e2, u2, V, B⟩ := kind (k + 3) u1
  have addT : ∀ xs ys : List PyData, xs.length ≤ 10 → ys.length ≤ 10 → binW .Add (.d (.tuple xs)) (.d (.tuple ys)) = Zd.ret (.d (.tuple (xs ++ ys))) := fun xs ys h1 h2 => add_t (Nat.le_trans (by omega : xs.length + ys.length ≤ 20) (by decide))
  rw [callD_is tb__law_dim]
  by_cases h0 : i = 0
  · obtain ⟨a, b, c, d, ef, tv, t1, t2, t3, t4⟩ := flip (k + 3) V B
    obtain ⟨ps, s3, e3', u3, pl, pg⟩ := stack k (m := 1) (by decide) u2
    have e3 : callD tb gv (k + 6) "_law_stack" [.box 0, .d (.int 1)] s2 = .ok (.d (.tuple (ps.map Plate.D))) s3 := e3'
    refine ⟨.bare (.pol o.x o.y o.z o.w) :: .bare (.turn a b c d) :: ps, s3, ?_, u3, by simp only [List.length_cons]; omega, fun p hp => ?_⟩
    · have ad := addT [.tuple [.str "polariser", o.D], .tuple [.str "turner", .tuple (ip [a, b, c, d])]] (ps.map Plate.D) (by simp) (by rw [List.length_map]; omega)
      generalize hps : ps.map Plate.D = l at *
      simp [d__law_dim, b__law_dim, isOwn, len1 u, bd_at e1, bd_at e2, parE, want, h0, ef, l2, bd_at e3, ad, take1 u3, hps]
      exact ⟨rfl, rfl⟩
    · rcases List.mem_cons.mp hp with rfl | hp
      · exact polS V B
      · rcases List.mem_cons.mp hp with rfl | hp
        · exact ⟨tv, turn_small15 tv t1 t2 t3 t4⟩
        · exact pg p hp
  · by_cases h1 : i = 1
    · obtain ⟨ps, s3, e3', u3, pl, pg⟩ := stack k (m := 1) (by decide) u2
      have e3 : callD tb gv (k + 6) "_law_stack" [.box 0, .d (.int 1)] s2 = .ok (.d (.tuple (ps.map Plate.D))) s3 := e3'
      have c := opposite (k + 5) o
      refine ⟨ps ++ [.bare (.pol o.x o.y o.z o.w), .bare (.pol o.opp.x o.opp.y o.opp.z o.opp.w)], s3, ?_, u3, by simp only [List.length_append, List.length_cons, List.length_nil]; omega, fun p hp => ?_⟩
      · have ad := addT (ps.map Plate.D) [.tuple [.str "polariser", o.D], .tuple [.str "polariser", o.opp.D]] (by rw [List.length_map]; omega) (by simp)
        rw [List.map_append]
        generalize hps : ps.map Plate.D = l at *
        subst h1
        simp [d__law_dim, b__law_dim, isOwn, len1 u, bd_at e1, bd_at e2, parE, want, bd_at e3, c, l2, ad, take1 u3]
        exact ⟨rfl, rfl⟩
      · rcases List.mem_append.mp hp with hp | hp
        · exact pg p hp
        · simp only [List.mem_cons, List.not_mem_nil, or_false] at hp
          rcases hp with rfl | rfl
          · exact polS V B
          · exact polS (opp_V V) (opp_B B)
    · by_cases h2 : i = 2
      · obtain ⟨f0, f1, s3, e3, u3, vf, hf0, hf1⟩ := share (k + 3) u2
        obtain ⟨g0, g1, s4, e4, u4, vg, hg0, hg1⟩ := share (k + 3) u3
        obtain ⟨ps, s5, e5', u5, pl, pg⟩ := stack k (m := 1) (by decide) u4
        have e5 : callD tb gv (k + 6) "_law_stack" [.box 0, .d (.int 1)] s4 = .ok (.d (.tuple (ps.map Plate.D))) s5 := e5'
        refine ⟨.bare (.part o.x o.y o.z o.w f0 f1 g0 g1) :: ps, s5, ?_, u5, by simp only [List.length_cons]; omega, fun p hp => ?_⟩
        · have ad := addT [.tuple [.str "partial", o.D, .tuple (ip [f0, f1]), .tuple (ip [g0, g1])]] (ps.map Plate.D) (by simp) (by rw [List.length_map]; omega)
          generalize hps : ps.map Plate.D = l at *
          subst h2
          simp [d__law_dim, b__law_dim, isOwn, len1 u, bd_at e1, bd_at e2, parE, want, bd_at e3, bd_at e4, l1, l4, bd_at e5, ad, take1 u5, hps]
          rfl
        · rcases List.mem_cons.mp hp with rfl | hp
          · exact ⟨⟨V, vf, vg⟩, part_small V B vf vg hf0 hf1 hg0 hg1⟩
          · exact pg p hp
      · obtain ⟨ps, s3, e3', u3, pl, pg⟩ := stack k (m := 4) (by decide) u2
        have e3 : callD tb gv (k + 6) "_law_stack" [.box 0, .d (.int 4)] s2 = .ok (.d (.tuple (ps.map Plate.D))) s3 := e3'
        refine ⟨ps, s3, ?_, u3, pl, pg⟩
        generalize hps : ps.map Plate.D = l at *
        simp [d__law_dim, b__law_dim, isOwn, len1 u, bd_at e1, bd_at e2, parE, want, h0, h1, h2, bd_at e3, take1 u3]
end K76
end
section
set_option Elab.async false
set_option linter.all false
set_option maxRecDepth 100000
set_option maxHeartbeats 1000000
/-! K76N8: the law's rounds. -/
namespace K76
open PySem Zd Cone
theorem law_led_l (k : Nat) {R : List (List Int)} {v : List Int} (hR : okR R) (hv : v.length = 4) {n m : Nat} (hn : n + m ≤ 60000000) (bR : bdR n R) (bv : ∀ i ∈ v, Bd m i) :
    callD tb gv (k + 1) "_law_led" [.d (rowsD R), .d (.list (ip v))] = Zd.ret (.d (.list (ip (R.map fun r => dotL r v)))) := to_ret fun st => by
  rw [callD_is tb__law_led]
  simp [d__law_led, b__law_led, isOwn, wipeE, rowsD]
  rw [bd_at (comp_gen (g := fun z => .int (dotL (lsI z) v)) (fun x hx => ?_) (by rw [List.length_map, hR.1]; decide))]
  · have e : (R.map fun r => PyData.tuple (ip r)).map (fun z => PyData.int (dotL (lsI z) v)) = ip (R.map fun r => dotL r v) := by
      unfold ip
      rw [List.map_map, List.map_map]
      refine List.map_congr_left fun r _ => ?_
      show PyData.int (dotL (lsI (.tuple (ip r))) v) = PyData.int (dotL r v)
      rw [lsI_t]
    rw [e]
    simp
  · obtain ⟨r, hr, rfl⟩ := List.mem_map.mp hx
    have hl := hR.2 r hr
    simp [one_is, wipeE, w14, r4]
    rw [bd_at (comp_gen (g := fun z => match z with | .int i => .int (r.getD i.toNat 0 * v.getD i.toNat 0) | z => z) (fun x hx => ?_) (by decide))]
    · have e : [PyData.int 0, .int 1, .int 2, .int 3].map (fun z => match z with | .int i => .int (r.getD i.toNat 0 * v.getD i.toNat 0) | z => z) = ip ([0, 1, 2, 3].map fun j : Nat => r.getD j 0 * v.getD j 0) := rfl
      rw [e]
      simp only [sum_ip, dot4 hl hv, bd_ret]
      rfl
    · obtain ⟨j, hj, rfl⟩ := in4 hx
      have s1 := ipGet (l := r) (j := j) (by omega) (.tuple (ip r)) (.inl rfl)
      have s2 := ipGet (l := v) (j := j) (by omega) (.list (ip v)) (.inr rfl)
      have mm : mulOk (r.getD j 0) (v.getD j 0) = true := mulOk_of (getD_bd (bR r hr)) (getD_bd bv) hn
      simp only [s1, s2, bd_ret]
      show _ = Out.ok [PyData.int (r.getD j 0 * v.getD j 0)] st
      generalize r.getD j 0 = x at mm
      generalize v.getD j 0 = y at mm
      simp [mm]
theorem in_ints {i : Int} {l : List Int} : cmpB .In (.d (.int i)) (.d (.list (ip l))) = Zd.ret (l.any fun j => j == i) := by
  funext st
  show want (flatP (.int i) && (ip l).all flatP) (Zd.ret ((ip l).any fun y => PyData.eqv y (.int i))) st = _
  have h1 : (ip l).all flatP = true := by
    rw [List.all_eq_true]
    intro x hx
    obtain ⟨j, _, rfl⟩ := List.mem_map.mp hx
    rfl
  have h2 : ((ip l).any fun y => PyData.eqv y (.int i)) = l.any fun j => j == i := by
    unfold ip
    rw [List.any_map]
    congr 1
  rw [h1, h2]
  rfl
/-! the dues -/
def inL (many : Int) (i : Nat) : Bool := [0, 1, 2, 3, 24, many].any fun j => j == (i : Int)
section
variable (R : List (List Int)) (b : Int) (v : V4) (e many : Int)
def dueD (i : Nat) : PyData := if inL many i then .tuple (ip (after R b v e i)) else .none
def dues (j : Nat) : List PyData := (List.range (j + 1)).map (dueD R b v e many)
end
theorem dues_len {R : List (List Int)} {b : Int} {v : V4} {e many : Int} (j : Nat) : (dues R b v e many j).length = j + 1 := by unfold dues; simp
theorem dues_succ {R : List (List Int)} {b : Int} {v : V4} {e many : Int} (j : Nat) : dues R b v e many (j + 1) = dues R b v e many j ++ [dueD R b v e many (j + 1)] := by unfold dues; rw [List.range_succ, List.map_append]; rfl
theorem dues_at {R : List (List Int)} {b : Int} {v : V4} {e many : Int} {j i : Nat} (h : i ≤ j) : subW (.own (dues R b v e many j)) (.d (.int (i : Int))) = Zd.ret (.d (dueD R b v e many i)) := by
  funext st
  show (match L2.atI (dues R b v e many j) (i : Int) with | some p => Out.ok (W.d p) st | none => Out.bad) = _
  have e : L2.atI (dues R b v e many j) (i : Int) = some (dueD R b v e many i) := by
    unfold L2.atI L2.ixN
    rw [dues_len, if_pos (Int.natCast_nonneg i), if_pos (by omega)]
    show (dues R b v e many j)[(i : Int).toNat]? = _
    unfold dues
    rw [Int.toNat_natCast, List.getElem?_map, List.getElem?_range (by omega)]
    rfl
  rw [e]
  rfl
def inE (PS LP TA : PyData) (o4 : Option W) (L : PyData) (many : Int) (nums : PyData) (below : Int) (du : List PyData) (o10 o11 o12 : Option W) : Nv := [some (.box 0), some (.d PS), some (.d LP), some (.d TA), o4, some (.d L), some (.d (.int many)), some (.d nums), some (.d (.int below)), some (.own du), o10, o11, o12]
def lapsD : PyData := .list (ip [0, 1, 2, 3, 24])
def lapBody : List S := [.par [7, 8] [(.call "_law_led" [(.sub (.var 3) (.cst (.int 0))), (.var 7)]), (.bin .Mult (.var 8) (.sub (.var 3) (.cst (.int 1))))], .app 9 (.ife (.cmp .In (.bin .Add (.var 10) (.cst (.int 1))) (.bin .Add (.var 2) (.lst [(.var 6)]))) (.call "_law_five" [(.var 7), (.var 8)]) (.cst .none))]
theorem lap_step (k : Nat) {R : List (List Int)} {b : Int} (hR : okR R) {n m : Nat} (bR : bdR n R) (hb : Bd n b) (b0 : 0 < b) {v : V4} {e : Int} (hv : bdV m v) (he : Bd m e) (e0 : 0 < e) (hn : m + 25 * (n + 4) ≤ 9000) {j : Nat} (hj : j < 24) (PS L : PyData) (many : Int) (o4 o10 o11 o12 : Option W) :
    (bd (asgT (T.nm 10) (W.d (.int (j : Int))) (inE PS lapsD (tabR R b) o4 L many (.list (ip (iter (appV R) j v).L)) (den b e j) (dues R b v e many j) o10 o11 o12)) fun e1 => exPs (callD tb gv (k + 3)) gv lapBody e1) = Zd.ret (.nx (inE PS lapsD (tabR R b) o4 L many (.list (ip (iter (appV R) (j + 1) v).L)) (den b e (j + 1)) (dues R b v e many (j + 1)) (some (.d (.int (j : Int)))) o11 o12)) := by
  obtain ⟨q1, q2⟩ := iter_bd hR bR hb hv he j
  obtain ⟨p1, p2⟩ := iter_bd hR bR hb hv he (j + 1)
  have le : (j + 1) * (n + 4) ≤ 24 * (n + 4) := Nat.mul_le_mul (by omega) (Nat.le_refl _)
  have le2 : j * (n + 4) ≤ 24 * (n + 4) := Nat.mul_le_mul (by omega) (Nat.le_refl _)
  have c1 := law_led_l (k + 2) hR (L_len (iter (appV R) j v)) (n := n) (m := m + j * (n + 4)) (by omega) bR (bdV_L q1)
  have eL : (R.map fun r => dotL r (iter (appV R) j v).L) = (iter (appV R) (j + 1) v).L := L_app hR _
  rw [eL] at c1
  have mm : mulOk (den b e j) b = true := mulOk_of q2 hb (by omega)
  have eD : den b e j * b = den b e (j + 1) := Int.mul_comm _ _
  have c2 : callD tb gv (k + 3) "_law_five" [.d (.list (ip (iter (appV R) (j + 1) v).L)), .d (.int (den b e (j + 1)))] = Zd.ret (tp (after R b v e (j + 1))) := to_ret fun st => law_five_is (k + 1) _ _ (m + (j + 1) * (n + 4)) (by omega) p2 (den_pos b0 e0 (j + 1)) (by show 4 < line; decide) st
  have cat : binW .Add (.d lapsD) (.d (.list [.int many])) = Zd.ret (.d (.list (ip [0, 1, 2, 3, 24, many]))) := add_l (by show 6 ≤ line; decide)
  have inl := in_ints (i := (j : Int) + 1) (l := [0, 1, 2, 3, 24, many])
  have e1 : ([0, 1, 2, 3, 24, many].any fun i => i == (j : Int) + 1) = inL many (j + 1) := by unfold inL; rfl
  rw [e1] at inl
  have l1 : decide (1 ≤ line) = true := by decide
  have lt : decide ((dues R b v e many j).length < line) = true := by
    rw [dues_len]
    exact line_lt (by omega)
  rw [dues_succ]
  unfold dueD lapBody inE
  generalize iter (appV R) (j + 1) v = w at *
  generalize iter (appV R) j v = w' at *
  generalize after R b v e (j + 1) = aft at *
  generalize den b e (j + 1) = dd at *
  generalize dues R b v e many j = du at *
  cases hI : inL many (j + 1) <;> rw [hI] at inl <;> simp [tabR_0, tabR_1, c1, mm, eD, parE, want, appM, l1, cat, inl, c2, lt]
theorem lap_loop (k : Nat) {R : List (List Int)} {b : Int} (hR : okR R) {n m : Nat} (bR : bdR n R) (hb : Bd n b) (b0 : 0 < b) {v : V4} {e : Int} (hv : bdV m v) (he : Bd m e) (e0 : 0 < e) (hn : m + 25 * (n + 4) ≤ 9000) (PS L : PyData) (many : Int) (o4 o10 o11 o12 : Option W) (st : Store) :
    ∃ q10, loopL (fun x e1 => bd (asgT (T.nm 10) (W.d x) e1) fun e1 => exPs (callD tb gv (k + 3)) gv lapBody e1) (rangeP 0 24) (inE PS lapsD (tabR R b) o4 L many (.list (ip v.L)) e (dues R b v e many 0) o10 o11 o12) st = .ok (.nx (inE PS lapsD (tabR R b) o4 L many (.list (ip (iter (appV R) 24 v).L)) (den b e 24) (dues R b v e many 24) q10 o11 o12)) st := by
  obtain ⟨e', lp, q10, rfl⟩ := loop_range (st := st) (F := fun x e1 => bd (asgT (T.nm 10) (W.d x) e1) fun e1 => exPs (callD tb gv (k + 3)) gv lapBody e1) (P := fun j E => ∃ q, E = inE PS lapsD (tabR R b) o4 L many (.list (ip (iter (appV R) j v).L)) (den b e j) (dues R b v e many j) q o11 o12) 0 24 (fun j E hj hE => by
    obtain ⟨q, rfl⟩ := hE
    have s := lap_step k hR bR hb b0 hv he e0 hn hj PS L many o4 q o11 o12
    rw [Int.zero_add]
    exact ⟨_, congrFun s st, _, rfl⟩) (inE PS lapsD (tabR R b) o4 L many (.list (ip v.L)) e (dues R b v e many 0) o10 o11 o12) ⟨o10, rfl⟩
  exact ⟨q10, lp⟩
/-! dark -/
theorem first_zero {v : V4} {d : Int} (hK : K v) (d0 : 0 < d) : ((overL v.L d).getD 0 0 = 0) ↔ v = zero := by
  obtain ⟨g, g0, e⟩ := overL_back v.L d (by omega)
  have hl := overL_length v.L d
  rw [L_len] at hl
  generalize overL v.L d = l at e hl
  match l, hl with
  | [p, q, r, s, t], _ =>
    have e' : [g * p, g * q, g * r, g * s, g * t] = [v.a, v.b, v.c, v.d, d] := e
    simp only [List.cons.injEq, and_true] at e'
    obtain ⟨h1, _⟩ := e'
    show p = 0 ↔ _
    constructor
    · intro z
      rw [z, Int.mul_zero] at h1
      exact dark_of hK (by omega)
    · intro z
      rw [z] at h1
      have h2 : g * p = 0 := h1
      rcases Int.mul_eq_zero.mp h2 with y | y
      · exact absurd y g0
      · exact y
def darkB (R : List (List Int)) (b : Int) (v : V4) (e : Int) (i : Int) : Bool := decide ((after R b v e i.toNat).getD 0 0 = 0)
theorem darkB_is {R : List (List Int)} {b : Int} {v : V4} {e : Int} (F : Map (appV R)) (hK : K v) (b0 : 0 < b) (e0 : 0 < e) (i : Nat) : darkB R b v e (i : Int) = decide (iter (appV R) i v = zero) := by
  unfold darkB
  rw [Int.toNat_natCast]
  exact decide_eq_decide.mpr (first_zero (iter_K F hK i) (den_pos b0 e0 i))
def headW (l : List Int) : PyData := match l with
  | [] => .none
  | i :: _ => .int i
theorem dark_head {R : List (List Int)} {b : Int} {v : V4} {e : Int} (F : Map (appV R)) (hK : K v) (b0 : 0 < b) (e0 : 0 < e) {many : Nat} (h4 : 4 ≤ many) : headW ([0, 1, 2, 3, (many : Int), 24].filter (darkB R b v e)) = darkW (appV R) v := by
  have d0 := darkB_is F hK b0 e0 0
  have d1 := darkB_is F hK b0 e0 1
  have d2 := darkB_is F hK b0 e0 2
  have d3 := darkB_is F hK b0 e0 3
  have dm := darkB_is F hK b0 e0 many
  have d24 := darkB_is F hK b0 e0 24
  have d0' : darkB R b v e 0 = decide (iter (appV R) 0 v = zero) := d0
  have d1' : darkB R b v e 1 = decide (iter (appV R) 1 v = zero) := d1
  have d2' : darkB R b v e 2 = decide (iter (appV R) 2 v = zero) := d2
  have d3' : darkB R b v e 3 = decide (iter (appV R) 3 v = zero) := d3
  have d24' : darkB R b v e 24 = decide (iter (appV R) 24 v = zero) := d24
  unfold darkW
  by_cases z0 : iter (appV R) 0 v = zero
  · rw [if_pos z0, List.filter_cons_of_pos (by rw [d0']; exact decide_eq_true z0)]
    rfl
  · rw [if_neg z0, List.filter_cons_of_neg (by rw [d0', decide_eq_false z0]; simp)]
    by_cases z1 : iter (appV R) 1 v = zero
    · rw [if_pos z1, List.filter_cons_of_pos (by rw [d1']; exact decide_eq_true z1)]
      rfl
    · rw [if_neg z1, List.filter_cons_of_neg (by rw [d1', decide_eq_false z1]; simp)]
      by_cases z2 : iter (appV R) 2 v = zero
      · rw [if_pos z2, List.filter_cons_of_pos (by rw [d2']; exact decide_eq_true z2)]
        rfl
      · have never : ∀ n, iter (appV R) (n + 2) v ≠ zero := fun n q => z2 (two F hK n q)
        have n3 := never 1
        have nm : iter (appV R) many v ≠ zero := by
          have := never (many - 2)
          rwa [show many - 2 + 2 = many by omega] at this
        have n24 := never 22
        rw [if_neg z2, List.filter_cons_of_neg (by rw [d2', decide_eq_false z2]; simp), List.filter_cons_of_neg (by rw [d3', decide_eq_false n3]; simp), List.filter_cons_of_neg (by rw [dm, decide_eq_false nm]; simp), List.filter_cons_of_neg (by rw [d24', decide_eq_false n24]; simp)]
        rfl
end K76
end
section
set_option Elab.async false
set_option linter.all false
set_option maxRecDepth 100000
set_option maxHeartbeats 1000000
/-! K76N9: what is asked of one light. -/
namespace K76
open PySem Zd Cone
theorem after_bd {ps : List Plate} {N : Nat} {v : V4} {e : Int} {m : Nat} (g : Go ps N) (h : Lt v e m) {j : Nat} (hj : j ≤ 24) : ∀ i ∈ after (TR ps) (TB ps) v e j, Bd 9000 i := by
  obtain ⟨f1, f2, f3, f4⟩ := g.facts
  obtain ⟨q1, q2⟩ := iter_bd f1 f2 f3 h.bv h.be j
  have le : j * (N + 4) ≤ 24 * 264 := Nat.mul_le_mul hj (by have := g.few; omega)
  have mf := h.few
  exact fun i hi => (overL_bd (bdV_L q1) q2 i hi).mono (by omega)
theorem num_after {ps : List Plate} {N : Nat} {v : V4} {e : Int} {m : Nat} (g : Go ps N) (h : Lt v e m) {j : Nat} (hj : j ≤ 24) : Num (.tuple (ip (after (TR ps) (TB ps) v e j))) := num_ip (after_bd g h hj) (by decide)
theorem small_after (R : List (List Int)) (b : Int) (v : V4) (e : Int) (j : Nat) : ink (.tuple (ip (after R b v e j))) ≤ 30000 ∧ (PyData.tuple (ip (after R b v e j))).depth = 1 := by
  refine ⟨?_, ?_⟩
  · simp only [ink, inks_ip, after_len]
    omega
  · simp only [PyData.depth, dall_ip]
theorem num_dark (f : V4 → V4) (v : V4) : Num (darkW f v) ∧ ink (darkW f v) ≤ 5000 ∧ (darkW f v).depth = 0 := by
  unfold darkW
  split
  · exact ⟨.int 0 (by decide +kernel), by simp only [ink]; omega, by simp only [PyData.depth]⟩
  · split
    · exact ⟨.int 1 (by decide +kernel), by simp only [ink]; omega, by simp only [PyData.depth]⟩
    · split
      · exact ⟨.int 2 (by decide +kernel), by simp only [ink]; omega, by simp only [PyData.depth]⟩
      · exact ⟨.non, by simp only [ink]; omega, by simp only [PyData.depth]⟩
theorem ne_ints_nil (l : List Int) : cmpB .NotEq (.d (.list (ip l))) (.d (.list [])) = Zd.ret (!l.isEmpty) := by
  have sh : SeqAt.shaped (.list (ip l)) = true := by
    unfold SeqAt.shaped
    rw [Bool.and_eq_true, decide_eq_true_eq]
    exact ⟨by simp only [PyData.canLay0]; exact canAll_ip l, by simp only [PyData.depth, dall_ip]; decide⟩
  rw [ne_p sh (by decide +kernel)]
  cases l <;> simp [ip, PyData.eqv, PyData.eqvAll]
/-- the first of the dark laps, or None -/
def headX : E := .ife (.cmp .NotEq (.var 11) (.lst [])) (.sub (.var 11) (.cst (.int 0))) (.cst .none)
theorem head_is {C : Str → List W → Zd.M W} {e : Nv} {l : List Int} (h : varM 11 e = Zd.ret (.d (.list (ip l)))) : (evP C gv headX).v e = Zd.ret (.d (headW l)) := by
  have l0 : decide (0 ≤ line) = true := by decide
  have ne := ne_ints_nil l
  unfold headX
  rw [ev_ife, et_cmp, ev_var, h, bd_ret, ev_lst, es_nil, bd_ret]
  simp only [List.length_nil, l0, want_true, bd_ret, ne]
  cases l with
  | nil => simp [headW]
  | cons i r =>
    have s : subW (.d (.list (ip (i :: r)))) (.d (.int 0)) = Zd.ret (.d (.int i)) := sub_l0'
    simp only [List.isEmpty_cons, Bool.not_false, ifM_true, ev_sub, ev_var, h, bd_ret, ev_cst, s, headW]
def chkBody : List S := [.ite (.cmp .NotEq (.blt .repr [(.call "after_rounds" [(.var 1), (.var 5), (.var 10)])]) (.blt .repr [(.sub (.var 9) (.var 10))])) [.ret (.cst (.bool false))] []]
section
variable {ps : List Plate} {N : Nat} {v : V4} {e : Int} {m : Nat}
abbrev psD (ps : List Plate) : PyData := .tuple (ps.map Plate.D)
abbrev ltD (v : V4) (e : Int) : PyData := .tuple (ip (v.L ++ [e]))
theorem chk_step (k : Nat) (g : Go ps N) (h : Lt v e m) {many : Int} {i : Nat} (hi : i ≤ 24) (hI : inL many i = true) (nums : PyData) (below : Int) (o4 o10 o11 o12 : Option W) :
    (bd (asgT (T.nm 10) (W.d (.int (i : Int))) (inE (psD ps) lapsD (tabR (TR ps) (TB ps)) o4 (ltD v e) many nums below (dues (TR ps) (TB ps) v e many 24) o10 o11 o12)) fun e1 => exPs (callD tb gv (k + 10)) gv chkBody e1) = Zd.ret (.nx (inE (psD ps) lapsD (tabR (TR ps) (TB ps)) o4 (ltD v e) many nums below (dues (TR ps) (TB ps) v e many 24) (some (.d (.int (i : Int)))) o11 o12)) := by
  have c1 := after_rounds k g h i hi
  have c2 := dues_at (R := TR ps) (b := TB ps) (v := v) (e := e) (many := many) (j := 24) hi
  have c3 : dueD (TR ps) (TB ps) v e many i = .tuple (ip (after (TR ps) (TB ps) v e i)) := by unfold dueD; rw [if_pos hI]
  rw [c3] at c2
  have na := num_after g h hi
  obtain ⟨s1, s2⟩ := small_after (TR ps) (TB ps) v e i
  have rp := repr_num na (by omega) (by omega)
  have ns := ne_same na.ok
  unfold chkBody inE
  rw [asg_nm, bd_ret]
  simp only [List.set, xs_cons, x_ite, et_cmp, ev_blt, ew_cons, ew_nil, ev_call, ev_sub, ev_var, var_succ, var_zero, bd_ret, bd_assoc, c1, c2, rp, ns, ifM_false, xs_nil]
theorem inL_is {mn : Nat} : ∀ i ∈ [0, 1, 2, 3, mn, 24], inL (mn : Int) i = true := by
  intro i hi
  unfold inL
  rw [List.any_eq_true]
  simp only [List.mem_cons, List.not_mem_nil, or_false] at hi
  refine ⟨(i : Int), ?_, by simp⟩
  rcases hi with rfl | rfl | rfl | rfl | rfl | rfl <;> simp
theorem chk_loop (k : Nat) (g : Go ps N) (h : Lt v e m) {mn : Nat} (m24 : mn ≤ 24) (nums : PyData) (below : Int) (o4 o10 o11 o12 : Option W) (st : Store) :
    ∃ q10, loopL (fun x e1 => bd (asgT (T.nm 10) (W.d x) e1) fun e1 => exPs (callD tb gv (k + 10)) gv chkBody e1) [.int 0, .int 1, .int 2, .int 3, .int (mn : Int), .int 24] (inE (psD ps) lapsD (tabR (TR ps) (TB ps)) o4 (ltD v e) (mn : Int) nums below (dues (TR ps) (TB ps) v e (mn : Int) 24) o10 o11 o12) st = .ok (.nx (inE (psD ps) lapsD (tabR (TR ps) (TB ps)) o4 (ltD v e) (mn : Int) nums below (dues (TR ps) (TB ps) v e (mn : Int) 24) q10 o11 o12)) st := by
  obtain ⟨e', lp, _, q10, rfl⟩ := loop_ind (g := fun i : Nat => PyData.int (i : Int)) (st := st) (F := fun x e1 => bd (asgT (T.nm 10) (W.d x) e1) fun e1 => exPs (callD tb gv (k + 10)) gv chkBody e1) (P := fun xs E => (∀ i ∈ xs, i ≤ 24 ∧ inL (mn : Int) i = true) ∧ ∃ q, E = inE (psD ps) lapsD (tabR (TR ps) (TB ps)) o4 (ltD v e) (mn : Int) nums below (dues (TR ps) (TB ps) v e (mn : Int) 24) q o11 o12) (fun i xs E hE => by
    obtain ⟨hx, q, rfl⟩ := hE
    obtain ⟨i24, iL⟩ := hx i (by simp)
    exact ⟨_, congrFun (chk_step k g h i24 iL nums below o4 q o11 o12) st, fun j hj => hx j (List.mem_cons_of_mem _ hj), _, rfl⟩) [0, 1, 2, 3, mn, 24] (inE (psD ps) lapsD (tabR (TR ps) (TB ps)) o4 (ltD v e) (mn : Int) nums below (dues (TR ps) (TB ps) v e (mn : Int) 24) o10 o11 o12) ⟨fun i hi => ⟨by
      simp only [List.mem_cons, List.not_mem_nil, or_false] at hi
      omega, inL_is i hi⟩, o10, rfl⟩
  exact ⟨q10, lp⟩
theorem filt_mem {f : PyData → Zd.M (List PyData)} {P : Int → Bool} {st : Store} : ∀ l : List Int, (∀ i ∈ l, f (.int i) st = .ok (if P i then [.int i] else []) st) → compL f (ip l) st = .ok (ip (l.filter P)) st
  | [], _ => rfl
  | i :: l, h => by
    have e : ip (i :: l) = .int i :: ip l := rfl
    rw [e]
    unfold compL
    rw [bd_at (h i (by simp)), bd_at (filt_mem l fun j hj => h j (List.mem_cons_of_mem _ hj)), List.filter_cons]
    cases P i <;> rfl
def darkX : E := .cmp .Eq (.sub (.sub (.var 9) (.var 10)) (.cst (.int 0))) (.cst (.int 0))
theorem dark_comp (k : Nat) (g : Go ps N) (h : Lt v e m) {mn : Nat} (m24 : mn ≤ 24) (nums : PyData) (below : Int) (o4 o11 o12 : Option W) (st : Store) :
    lim (compL (fun x => bd (asgT (T.nm 10) (W.d x) (inE (psD ps) lapsD (tabR (TR ps) (TB ps)) o4 (ltD v e) (mn : Int) nums below (dues (TR ps) (TB ps) v e (mn : Int) 24) none o11 o12)) (oneM [(evP (callD tb gv k) gv darkX).t] (evP (callD tb gv k) gv (.var 10)).v)) [.int 0, .int 1, .int 2, .int 3, .int (mn : Int), .int 24]) st = .ok (ip ([0, 1, 2, 3, (mn : Int), 24].filter (darkB (TR ps) (TB ps) v e))) st := by
  refine lim_of (filt_mem [0, 1, 2, 3, (mn : Int), 24] fun i hi => ?_) (by
    rw [ip_length]
    exact Nat.le_trans (List.length_filter_le _ _) (by show 6 ≤ line; decide))
  have hi' : ∃ j : Nat, i = (j : Int) ∧ j ∈ [0, 1, 2, 3, mn, 24] := by
    simp only [List.mem_cons, List.not_mem_nil, or_false] at hi
    rcases hi with rfl | rfl | rfl | rfl | rfl | rfl
    · exact ⟨0, rfl, by simp⟩
    · exact ⟨1, rfl, by simp⟩
    · exact ⟨2, rfl, by simp⟩
    · exact ⟨3, rfl, by simp⟩
    · exact ⟨mn, rfl, by simp⟩
    · exact ⟨24, rfl, by simp⟩
  obtain ⟨j, rfl, hj⟩ := hi'
  have j24 : j ≤ 24 := by
    simp only [List.mem_cons, List.not_mem_nil, or_false] at hj
    omega
  have c2 := dues_at (R := TR ps) (b := TB ps) (v := v) (e := e) (many := (mn : Int)) (j := 24) j24
  have c3 : dueD (TR ps) (TB ps) v e (mn : Int) j = .tuple (ip (after (TR ps) (TB ps) v e j)) := by unfold dueD; rw [if_pos (inL_is j hj)]
  rw [c3] at c2
  have c4 : subW (tp (after (TR ps) (TB ps) v e j)) (.d (.int 0)) = Zd.ret (.d (.int ((after (TR ps) (TB ps) v e j).getD 0 0))) := ipGet (j := 0) (by rw [after_len]; decide) _ (.inl rfl)
  have cnd : darkB (TR ps) (TB ps) v e (j : Int) = decide ((after (TR ps) (TB ps) v e j).getD 0 0 = 0) := by unfold darkB; rw [Int.toNat_natCast]
  rw [cnd]
  unfold darkX inE
  generalize (after (TR ps) (TB ps) v e j).getD 0 0 = q at *
  rw [asg_nm, bd_ret, one_if, et_cmp, ev_sub, ev_sub, ev_var]
  simp only [List.set, ev_var, var_succ, var_zero, bd_ret, bd_assoc, c2, c4, ev_cst, eq_i, pure_d]
  cases decide (q = 0) <;> rfl
end
end K76
end
section
set_option Elab.async false
set_option linter.all false
set_option maxRecDepth 100000
set_option maxHeartbeats 1000000
/-! K76N10: one light's run. -/
namespace K76
open PySem Zd Cone
def n1 : S := .par [5, 6] [(.call "_law_lamp_for" [(.var 0), (.var 1)]), (.bin .Add (.cst (.int 4)) (.call "_law_pick" [(.var 0), (.cst (.int 20))]))]
def n2 : S := .parQ 7 8 9 (.blt .list [(.slice (.var 5) .no (.cst (.int 4)))]) (.sub (.var 5) (.cst (.int 4))) (.lst [(.var 5)])
def n3 : S := .for_ (.nm 10) (.rng [(.cst (.int 24))]) lapBody
def sixX : E := .lst [(.cst (.int 0)), (.cst (.int 1)), (.cst (.int 2)), (.cst (.int 3)), (.var 6), (.cst (.int 24))]
def n4 : S := .for_ (.nm 10) sixX chkBody
def n5 : S := .asg (.nm 11) (.comp (.nm 10) sixX [darkX] (.var 10) [10])
def n6 : S := .ite (.cmp .NotEq (.blt .repr [(.call "dark_after" [(.var 1), (.var 5)])]) (.blt .repr [headX])) [.ret (.cst (.bool false))] []
def n7 : S := .asg (.nm 12) (.lst [(.callK "after_rounds" [2, 1, 0] [(.var 6), (.var 5), (.var 1)]), (.callK "dark_after" [1, 0] [(.var 5), (.var 1)])])
def n8 : S := .ite (.cmp .NotEq (.blt .repr [(.var 12)]) (.blt .repr [(.lst [(.sub (.var 9) (.var 6)), headX])])) [.ret (.cst (.bool false))] []
def outE (PS TA : PyData) (o4 o5 o6 o7 o8 o9 o10 o11 o12 : Option W) : Nv := [some (.box 0), some (.d PS), some (.d lapsD), some (.d TA), o4, o5, o6, o7, o8, o9, o10, o11, o12]
theorem six_v {C : Str → List W → Zd.M W} {E : Nv} {mn : Int} (h : varM 6 E = Zd.ret (.d (.int mn))) : (evP C gv sixX).i E = Zd.ret [.int 0, .int 1, .int 2, .int 3, .int mn, .int 24] := by
  have l6 : decide (6 ≤ line) = true := by decide
  unfold sixX
  rw [ei_lst, ev_lst]
  simp only [es_cst, es_var, ev_cst, ev_var, h, bd_ret, pure_d, es_nil, List.length_cons, List.length_nil, Nat.zero_add, Nat.reduceAdd, l6, want_true, items_l]
section
variable {ps : List Plate} {N : Nat} {v : V4} {e : Int} {m : Nat} {mn : Nat}
abbrev E9 (ps : List Plate) (v : V4) (e : Int) (mn : Nat) (nums : PyData) (below : Int) (o4 o10 o11 o12 : Option W) : Nv := inE (psD ps) lapsD (tabR (TR ps) (TB ps)) o4 (ltD v e) (mn : Int) nums below (dues (TR ps) (TB ps) v e (mn : Int) 24) o10 o11 o12
theorem y1 (k : Nat) (g : Go ps N) {st : Store} (u : Urn st) (TA : PyData) (o4 o5 o6 o7 o8 o9 o10 o11 o12 : Option W) : ∃ v e mn st', exP (callD tb gv (k + 5)) gv n1 (outE (psD ps) TA o4 o5 o6 o7 o8 o9 o10 o11 o12) st = .ok (.nx (outE (psD ps) TA o4 (some (.d (ltD v e))) (some (.d (.int ((mn : Nat) : Int)))) o7 o8 o9 o10 o11 o12)) st' ∧ Urn st' ∧ Lt v e 60 ∧ 4 ≤ mn ∧ mn ≤ 24 := by
  obtain ⟨w, f, s1, e1, u1, L⟩ := lamp_for k (by have := g.len; omega) g.vs u
  obtain ⟨i, s2, e2, u2, i1, i2⟩ := pick (k + 4) (m := 20) (by decide) (by decide) u1
  obtain ⟨j, rfl⟩ := Int.eq_ofNat_of_zero_le i1
  refine ⟨w, f, 4 + j, s2, ?_, u2, L, by omega, by omega⟩
  have c : (4 : Int) + (j : Int) = ((4 + j : Nat) : Int) := by omega
  unfold n1 outE
  rw [x_par, es_call, ev_call, ew_cons, ev_var, var_zero, bd_ret, ew_cons, ev_var, var_succ, var_zero, bd_ret, ew_nil, bd_ret, bd_ret, bd_ret]
  simp only [bd_assoc]
  rw [bd_at e1]
  simp only [pure_d, bd_ret, es_bin, ev_bin, ev_cst, ev_call, ew_cons, ew_nil, ev_var, var_zero, bd_assoc]
  rw [bd_at e2]
  simp only [add_i, bd_ret, pure_d, es_nil, List.length_cons, List.length_nil, Nat.zero_add, Nat.reduceAdd, decide_true, want_true, parE, List.set, c]
  rfl
theorem y2 (k : Nat) (h : Lt v e m) (PS : PyData) (o4 o7 o8 o9 o10 o11 o12 : Option W) : exP (callD tb gv k) gv n2 (outE PS (tabR (TR ps) (TB ps)) o4 (some (.d (ltD v e))) (some (.d (.int (mn : Int)))) o7 o8 o9 o10 o11 o12) = Zd.ret (.nx (inE PS lapsD (tabR (TR ps) (TB ps)) o4 (ltD v e) (mn : Int) (.list (ip v.L)) e (dues (TR ps) (TB ps) v e (mn : Int) 0) o10 o11 o12)) := by
  have l1 : decide (1 ≤ line) = true := by decide
  have s1 := c5_4 v e
  have s2 := g5_4 v e
  have d0 : dues (TR ps) (TB ps) v e (mn : Int) 0 = [ltD v e] := by
    show [dueD (TR ps) (TB ps) v e (mn : Int) 0] = _
    unfold dueD
    rw [if_pos (inL_is 0 (by simp)), h.first]
  rw [d0]
  unfold n2 outE inE
  generalize hq : v.L ++ [e] = q at *
  rw [x_parQ, ev_blt, ew_cons, ev_slice]
  simp only [ev_var, var_succ, var_zero, bd_ret, prt_no, prt_cst, ev_cst, part_i, s1, ew_nil, list_t, pure_d, ev_sub, s2, ev_lst, es_var, es_nil, List.length_cons, List.length_nil, Nat.zero_add, l1, want_true, List.set]
  rfl
theorem y3 (k : Nat) (g : Go ps N) (h : Lt v e m) (PS L : PyData) (o4 o10 o11 o12 : Option W) (st : Store) : ∃ q10, exP (callD tb gv (k + 3)) gv n3 (inE PS lapsD (tabR (TR ps) (TB ps)) o4 L (mn : Int) (.list (ip v.L)) e (dues (TR ps) (TB ps) v e (mn : Int) 0) o10 o11 o12) st = .ok (.nx (inE PS lapsD (tabR (TR ps) (TB ps)) o4 L (mn : Int) (.list (ip (iter (appV (TR ps)) 24 v).L)) (den (TB ps) e 24) (dues (TR ps) (TB ps) v e (mn : Int) 24) q10 o11 o12)) st := by
  obtain ⟨f1, f2, f3, f4⟩ := g.facts
  have nf := g.few
  have mf := h.few
  have q : 25 * (N + 4) ≤ 25 * 264 := Nat.mul_le_mul (Nat.le_refl _) (by omega)
  obtain ⟨q10, lp⟩ := lap_loop k f1 f2 f3 f4 h.bv h.be h.e0 (by omega) PS L (mn : Int) o4 o10 o11 o12 st
  refine ⟨q10, ?_⟩
  have r24 : rngM [.d (.int 24)] = Zd.ret (rangeP 0 24) := rng_n 24 (by decide)
  unfold n3
  rw [x_for, ei_rng, ew_cons, ev_cst, bd_ret, ew_nil, bd_ret, bd_ret, List.length_cons, List.length_nil, want_1, bd_ret, r24, bd_ret]
  exact lp
theorem y4 (k : Nat) (g : Go ps N) (h : Lt v e m) (m24 : mn ≤ 24) (nums : PyData) (below : Int) (o4 o10 o11 o12 : Option W) (st : Store) : ∃ q10, exP (callD tb gv (k + 10)) gv n4 (E9 ps v e mn nums below o4 o10 o11 o12) st = .ok (.nx (E9 ps v e mn nums below o4 q10 o11 o12)) st := by
  obtain ⟨q10, lp⟩ := chk_loop k g h m24 nums below o4 o10 o11 o12 st
  refine ⟨q10, ?_⟩
  have s := six_v (C := callD tb gv (k + 10)) (E := E9 ps v e mn nums below o4 o10 o11 o12) (mn := (mn : Int)) rfl
  unfold n4
  rw [x_for, s, bd_ret]
  exact lp
def darkL (ps : List Plate) (v : V4) (e : Int) (mn : Nat) : List Int := [0, 1, 2, 3, (mn : Int), 24].filter (darkB (TR ps) (TB ps) v e)
theorem y5 (k : Nat) (g : Go ps N) (h : Lt v e m) (m24 : mn ≤ 24) (nums : PyData) (below : Int) (o4 o10 o11 o12 : Option W) : exP (callD tb gv k) gv n5 (E9 ps v e mn nums below o4 o10 o11 o12) = Zd.ret (.nx (E9 ps v e mn nums below o4 o10 (some (.d (.list (ip (darkL ps v e mn))))) o12)) := funext fun st => by
  have s := six_v (C := callD tb gv k) (E := E9 ps v e mn nums below o4 o10 o11 o12) (mn := (mn : Int)) rfl
  have c := dark_comp k g h m24 nums below o4 o11 o12 st
  have wp : wipeE (E9 ps v e mn nums below o4 o10 o11 o12) [10] = E9 ps v e mn nums below o4 none o11 o12 := rfl
  have st11 : ∀ p, (E9 ps v e mn nums below o4 o10 o11 o12).set 11 (some (.d p)) = E9 ps v e mn nums below o4 o10 (some (.d p)) o12 := fun _ => rfl
  unfold n5
  rw [x_asg, ev_comp, s, bd_ret, wp, ett_cons, ett_nil, bd_assoc, bd_at c, bd_ret, asg_nm, bd_ret, st11]
  rfl
theorem y6 (k : Nat) (g : Go ps N) (h : Lt v e m) (m4 : 4 ≤ mn) (nums : PyData) (below : Int) (o4 o10 o12 : Option W) : exP (callD tb gv (k + 10)) gv n6 (E9 ps v e mn nums below o4 o10 (some (.d (.list (ip (darkL ps v e mn))))) o12) = Zd.ret (.nx (E9 ps v e mn nums below o4 o10 (some (.d (.list (ip (darkL ps v e mn))))) o12)) := by
  have c1 := dark_after k g h
  have hd := head_is (C := callD tb gv (k + 10)) (e := E9 ps v e mn nums below o4 o10 (some (.d (.list (ip (darkL ps v e mn))))) o12) (l := darkL ps v e mn) rfl
  have hw : headW (darkL ps v e mn) = darkW (appV (TR ps)) v := dark_head g.map h.k g.facts.2.2.2 h.e0 m4
  rw [hw] at hd
  obtain ⟨nd, i1, i2⟩ := num_dark (appV (TR ps)) v
  have rp := repr_num nd (by omega) (by omega)
  have ns := ne_same nd.ok
  have v1 : varM 1 (E9 ps v e mn nums below o4 o10 (some (.d (.list (ip (darkL ps v e mn))))) o12) = Zd.ret (.d (psD ps)) := rfl
  have v5 : varM 5 (E9 ps v e mn nums below o4 o10 (some (.d (.list (ip (darkL ps v e mn))))) o12) = Zd.ret (.d (ltD v e)) := rfl
  unfold n6
  rw [x_ite, et_cmp, ev_blt, ev_blt]
  simp only [ew_cons, ew_nil, ev_call, ev_var, v1, v5, bd_ret, bd_assoc, c1, hd, rp, ns, ifM_false, xs_nil]
def told2 (ps : List Plate) (v : V4) (e : Int) (mn : Nat) : PyData := .list [.tuple (ip (after (TR ps) (TB ps) v e mn)), darkW (appV (TR ps)) v]
theorem y7 (k : Nat) (g : Go ps N) (h : Lt v e m) (m24 : mn ≤ 24) (nums : PyData) (below : Int) (o4 o10 o11 o12 : Option W) : exP (callD tb gv (k + 10)) gv n7 (E9 ps v e mn nums below o4 o10 o11 o12) = Zd.ret (.nx (E9 ps v e mn nums below o4 o10 o11 (some (.d (told2 ps v e mn))))) := by
  have c1 := after_rounds k g h mn m24
  have c2 := dark_after k g h
  have l2 : decide (2 ≤ line) = true := by decide
  have w3 : ∀ a b c : W, wantN 3 [a, b, c] = Zd.ret [a, b, c] := fun _ _ _ => rfl
  have w2 : ∀ a b : W, wantN 2 [a, b] = Zd.ret [a, b] := fun _ _ => rfl
  have p3 : ∀ a b c : W, permW [2, 1, 0] [a, b, c] = [c, b, a] := fun _ _ _ => rfl
  have p2 : ∀ a b : W, permW [1, 0] [a, b] = [b, a] := fun _ _ => rfl
  have v1 : varM 1 (E9 ps v e mn nums below o4 o10 o11 o12) = Zd.ret (.d (psD ps)) := rfl
  have v5 : varM 5 (E9 ps v e mn nums below o4 o10 o11 o12) = Zd.ret (.d (ltD v e)) := rfl
  have v6 : varM 6 (E9 ps v e mn nums below o4 o10 o11 o12) = Zd.ret (.d (.int (mn : Int))) := rfl
  have st12 : ∀ p, (E9 ps v e mn nums below o4 o10 o11 o12).set 12 (some (.d p)) = E9 ps v e mn nums below o4 o10 o11 (some (.d p)) := fun _ => rfl
  unfold n7
  rw [x_asg, ev_lst]
  simp only [es_callK, ev_callK, ew_cons, ew_nil, ev_var, v1, v5, v6, bd_ret, bd_assoc, List.length_cons, List.length_nil, Nat.zero_add, Nat.reduceAdd, w3, w2, p3, p2, c1, c2, pure_d, es_nil, l2, want_true, asg_nm, st12]
  rfl
theorem y8 (k : Nat) (g : Go ps N) (h : Lt v e m) (m4 : 4 ≤ mn) (m24 : mn ≤ 24) (nums : PyData) (below : Int) (o4 o10 : Option W) : exP (callD tb gv k) gv n8 (E9 ps v e mn nums below o4 o10 (some (.d (.list (ip (darkL ps v e mn))))) (some (.d (told2 ps v e mn)))) = Zd.ret (.nx (E9 ps v e mn nums below o4 o10 (some (.d (.list (ip (darkL ps v e mn))))) (some (.d (told2 ps v e mn))))) := by
  have hd := head_is (C := callD tb gv k) (e := E9 ps v e mn nums below o4 o10 (some (.d (.list (ip (darkL ps v e mn))))) (some (.d (told2 ps v e mn)))) (l := darkL ps v e mn) rfl
  have hw : headW (darkL ps v e mn) = darkW (appV (TR ps)) v := dark_head g.map h.k g.facts.2.2.2 h.e0 m4
  rw [hw] at hd
  have l2 : decide (2 ≤ line) = true := by decide
  have c2 := dues_at (R := TR ps) (b := TB ps) (v := v) (e := e) (many := (mn : Int)) (j := 24) m24
  have c3 : dueD (TR ps) (TB ps) v e (mn : Int) mn = .tuple (ip (after (TR ps) (TB ps) v e mn)) := by unfold dueD; rw [if_pos (inL_is mn (by simp))]
  rw [c3] at c2
  obtain ⟨nd, i1, i2⟩ := num_dark (appV (TR ps)) v
  obtain ⟨s1, s2⟩ := small_after (TR ps) (TB ps) v e mn
  have nt : Num (told2 ps v e mn) := .lst _ fun x hx => by
    simp only [List.mem_cons, List.not_mem_nil, or_false] at hx
    rcases hx with rfl | rfl
    · exact num_after g h m24
    · exact nd
  have rp := repr_num nt (by simp only [told2, PyData.depth, PyData.depthAll] at s2 ⊢; omega) (by simp only [told2, ink, inks] at s1 ⊢; omega)
  have ns := ne_same nt.ok
  have v9 : varM 9 (E9 ps v e mn nums below o4 o10 (some (.d (.list (ip (darkL ps v e mn))))) (some (.d (told2 ps v e mn)))) = Zd.ret (.own (dues (TR ps) (TB ps) v e (mn : Int) 24)) := rfl
  have v6 : varM 6 (E9 ps v e mn nums below o4 o10 (some (.d (.list (ip (darkL ps v e mn))))) (some (.d (told2 ps v e mn)))) = Zd.ret (.d (.int (mn : Int))) := rfl
  have v12 : varM 12 (E9 ps v e mn nums below o4 o10 (some (.d (.list (ip (darkL ps v e mn))))) (some (.d (told2 ps v e mn)))) = Zd.ret (.d (told2 ps v e mn)) := rfl
  have e2 : PyData.list [.tuple (ip (after (TR ps) (TB ps) v e mn)), darkW (appV (TR ps)) v] = told2 ps v e mn := rfl
  have es : evs (callD tb gv k) gv [headX] (E9 ps v e mn nums below o4 o10 (some (.d (.list (ip (darkL ps v e mn))))) (some (.d (told2 ps v e mn)))) = Zd.ret [darkW (appV (TR ps)) v] := by
    rw [show headX = .ife (.cmp .NotEq (.var 11) (.lst [])) (.sub (.var 11) (.cst (.int 0))) (.cst .none) from rfl] at hd ⊢
    rw [es_ife, hd, bd_ret, pure_d, bd_ret, es_nil, bd_ret]
  unfold n8
  rw [x_ite, et_cmp, ev_blt, ev_blt]
  simp only [ew_cons, ew_nil, ev_lst, es_sub, ev_sub, ev_var, v12, v9, v6, bd_ret, bd_assoc, c2, pure_d, es, List.length_cons, List.length_nil, Nat.zero_add, Nat.reduceAdd, l2, want_true, e2, rp, ns, ifM_false, xs_nil]
def lightBody : List S := [n1, n2, n3, n4, n5, n6, n7, n8]
/-- one light -/
theorem light_run (k : Nat) (g : Go ps N) {st : Store} (u : Urn st) (o4 o5 o6 o7 o8 o9 o10 o11 o12 : Option W) : ∃ p5 p6 p7 p8 p9 p10 p11 p12 st', exPs (callD tb gv (k + 10)) gv lightBody (outE (psD ps) (tabR (TR ps) (TB ps)) o4 o5 o6 o7 o8 o9 o10 o11 o12) st = .ok (.nx (outE (psD ps) (tabR (TR ps) (TB ps)) o4 p5 p6 p7 p8 p9 p10 p11 p12)) st' ∧ Urn st' := by
  obtain ⟨v, e, mn, s1, e1, u1, h, m4, m24⟩ := y1 (k + 5) g u (tabR (TR ps) (TB ps)) o4 o5 o6 o7 o8 o9 o10 o11 o12
  have e2 := y2 (ps := ps) (mn := mn) (k + 10) h (psD ps) o4 o7 o8 o9 o10 o11 o12
  obtain ⟨q10, e3⟩ := y3 (mn := mn) (k + 7) g h (psD ps) (ltD v e) o4 o10 o11 o12 s1
  obtain ⟨q11, e4⟩ := y4 k g h m24 (.list (ip (iter (appV (TR ps)) 24 v).L)) (den (TB ps) e 24) o4 q10 o11 o12 s1
  have e5 := y5 (k + 10) g h m24 (.list (ip (iter (appV (TR ps)) 24 v).L)) (den (TB ps) e 24) o4 q11 o11 o12
  have e6 := y6 k g h m4 (.list (ip (iter (appV (TR ps)) 24 v).L)) (den (TB ps) e 24) o4 q11 o12
  have e7 := y7 k g h m24 (.list (ip (iter (appV (TR ps)) 24 v).L)) (den (TB ps) e 24) o4 q11 (some (.d (.list (ip (darkL ps v e mn))))) o12
  have e8 := y8 (k + 10) g h m4 m24 (.list (ip (iter (appV (TR ps)) 24 v).L)) (den (TB ps) e 24) o4 q11
  refine ⟨some (.d (ltD v e)), some (.d (.int (mn : Int))), some (.d (.list (ip (iter (appV (TR ps)) 24 v).L))), some (.d (.int (den (TB ps) e 24))), some (.own (dues (TR ps) (TB ps) v e (mn : Int) 24)), q11, some (.d (.list (ip (darkL ps v e mn)))), some (.d (told2 ps v e mn)), s1, ?_, u1⟩
  unfold lightBody
  rw [xs_cons, bd_at e1]
  dsimp only
  rw [xs_cons, e2, bd_ret]
  dsimp only
  rw [xs_cons, bd_at e3]
  dsimp only
  rw [xs_cons, bd_at e4]
  dsimp only
  rw [xs_cons, e5, bd_ret]
  dsimp only
  rw [xs_cons, e6, bd_ret]
  dsimp only
  rw [xs_cons, e7, bd_ret]
  dsimp only
  rw [xs_cons, e8, bd_ret]
  dsimp only
  rw [xs_nil]
  rfl
end
end K76
end
section
set_option Elab.async false
set_option linter.all false
set_option maxRecDepth 100000
set_option maxHeartbeats 1000000
/-! K76N11: the law. -/
namespace K76
open PySem Zd Cone
theorem fits_small : ∀ (ps : List Plate), (∀ p ∈ ps, p.small 2 30) → ∀ N, N + 62 * ps.length ≤ 9000 → Fits 30 N ps (N + 62 * ps.length)
  | [], _, N, _ => .nil
  | p :: ps, h, N, hn => by
    have e : N + 62 * (p :: ps).length = N + bitsP 2 30 + 4 + 62 * ps.length := by rw [List.length_cons]; unfold bitsP; omega
    rw [e]
    rw [List.length_cons] at hn
    exact .cons (h p (by simp)) (by unfold bitsP; omega) (fits_small ps (fun q hq => h q (List.mem_cons_of_mem _ hq)) _ (by unfold bitsP; omega))
theorem go_of {ps : List Plate} (hl : ps.length ≤ 4) (h : ∀ p ∈ ps, p.valid ∧ p.small 2 30) : Go ps (1 + 62 * ps.length) :=
  ⟨by omega, fun p hp => ⟨(h p hp).1, 2, (h p hp).2⟩, fits_small ps (fun p hp => (h p hp).2) 1 (by omega), by omega⟩
def r1S : S := .par [1, 2] [(.call "_law_dim" [(.var 0)]), (.lst [(.cst (.int 0)), (.cst (.int 1)), (.cst (.int 2)), (.cst (.int 3)), (.cst (.int 24))])]
def r2S : S := .asg (.nm 3) (.call "_law_of_stack" [(.var 1)])
theorem tb__law_right : tb "_law_right" = some d__law_right := by kernel_rfl
theorem right (k : Nat) {st : Store} (u : Urn st) : ∃ st', callD tb gv (k + 11) "_law_right" [.box 0] st = .ok (.d (.bool true)) st' ∧ Urn st' := by
  have l5 : decide (5 ≤ line) = true := by decide
  obtain ⟨ps, s1, e1, u1, pl, pg⟩ := dim (k + 3) u
  have g := go_of pl pg
  have c2 := law_of_stack (k + 4) g.ft (.tuple (ps.map Plate.D)) (.inr rfl)
  rw [T_is] at c2
  have x1 : exP (callD tb gv (k + 10)) gv r1S [some (.box 0), none, none, none, none, none, none, none, none, none, none, none, none] st = .ok (.nx [some (.box 0), some (.d (psD ps)), some (.d lapsD), none, none, none, none, none, none, none, none, none, none]) s1 := by
    unfold r1S
    rw [x_par, es_call, ev_call, ew_cons, ev_var, var_zero, bd_ret, ew_nil, bd_ret, bd_ret]
    simp only [bd_assoc]
    rw [bd_at e1]
    simp only [pure_d, bd_ret, es_lst, ev_lst, es_cst, ev_cst, es_nil, List.length_cons, List.length_nil, Nat.zero_add, Nat.reduceAdd, l5, want_true, decide_true, parE, List.set]
    rfl
  have x2 : exP (callD tb gv (k + 10)) gv r2S [some (.box 0), some (.d (psD ps)), some (.d lapsD), none, none, none, none, none, none, none, none, none, none] = Zd.ret (.nx (outE (psD ps) (tabR (TR ps) (TB ps)) none none none none none none none none none)) := by
    unfold r2S
    rw [x_asg, ev_call, ew_cons, ev_var, var_succ, var_zero, bd_ret, ew_nil, bd_ret, bd_ret, c2, bd_ret, asg_nm, bd_ret]
    rfl
  obtain ⟨e', s2, lp, p4, p5, p6, p7, p8, p9, p10, p11, p12, rfl, u2⟩ := loop_range_st (F := fun x e1 => bd (asgT (T.nm 4) (W.d x) e1) fun e1 => exPs (callD tb gv (k + 10)) gv lightBody e1) (P := fun _ E st => ∃ o4 o5 o6 o7 o8 o9 o10 o11 o12, E = outE (psD ps) (tabR (TR ps) (TB ps)) o4 o5 o6 o7 o8 o9 o10 o11 o12 ∧ Urn st) 0 3 (fun j E st hj hE => by
    obtain ⟨o4, o5, o6, o7, o8, o9, o10, o11, o12, rfl, u⟩ := hE
    obtain ⟨p5, p6, p7, p8, p9, p10, p11, p12, s', r, u'⟩ := light_run k g u (some (.d (.int (0 + (j : Nat))))) o5 o6 o7 o8 o9 o10 o11 o12
    refine ⟨_, s', ?_, some (.d (.int (0 + (j : Nat)))), p5, p6, p7, p8, p9, p10, p11, p12, rfl, u'⟩
    rw [asg_nm, bd_ret]
    exact r) (outE (psD ps) (tabR (TR ps) (TB ps)) none none none none none none none none none) s1 ⟨none, none, none, none, none, none, none, none, none, rfl, u1⟩
  refine ⟨s2, ?_, u2⟩
  have e0 : b__law_right = [r1S, r2S, .for_ (.nm 4) (.rng [(.cst (.int 3))]) lightBody, .ret (.cst (.bool true))] := rfl
  have r3' : rngM [.d (.int 3)] = Zd.ret (rangeP 0 3) := rng_n 3 (by decide)
  rw [callD_is tb__law_right]
  simp only [d__law_right, e0]
  simp only [List.length_cons, List.length_nil, Nat.zero_add, Nat.reduceAdd, decide_true, List.any_cons, isOwn, List.any_nil, Bool.or_self, Bool.not_false, Bool.and_self, want_true, List.map_cons, List.map_nil, Nat.reduceSub, List.reduceReplicate, List.cons_append, List.nil_append]
  rw [xs_cons, bd_at x1]
  dsimp only
  rw [xs_cons, x2, bd_ret]
  dsimp only
  rw [xs_cons, x_for, ei_rng, ew_cons, ev_cst, bd_ret, ew_nil, bd_ret, bd_ret, List.length_cons, List.length_nil, want_1, bd_ret, r3', bd_ret, bd_at lp]
  dsimp only
  rw [xs_cons, x_ret, ev_cst, bd_ret, bd_ret]
  dsimp only
  rw [ret_at, end_d, len1 u, take1 u2]
theorem plainK (k : Nat) (ns : List Int) (hl : ns.length ≤ 63) : callD tb gv (k + 11 + 1) "law" [.rd (ip ns)] [] = .ok (.d (.bool true)) [] := by
  rw [callD_is tb_law]
  have lm : (ip ns).length = ns.length := ip_length ns
  obtain ⟨n, hn, n3⟩ : ∃ n : Nat, (if (if (3 : Int) < (ns.length : Int) then 3 else (ns.length : Int)) > 2 then (if (3 : Int) < (ns.length : Int) then 3 else (ns.length : Int)) else 2) = (n : Int) ∧ n ≤ 3 := by
    by_cases h : (3 : Int) < (ns.length : Int)
    · exact ⟨3, by simp [h], by decide⟩
    · by_cases h2 : (ns.length : Int) > 2
      · exact ⟨ns.length, by simp only [h, if_false]; rw [if_pos h2], by omega⟩
      · exact ⟨2, by simp only [h, if_false]; rw [if_neg h2]; rfl, by decide⟩
  have one : ∀ j : Nat, (oneM [] (evP (callD tb gv (k + 11)) gv (.scp (.call "_law_right" [(.call "_law_urn" [(.var 0), (.var 1)])]))).v) [some (.rd (ip ns)), some (.d (.int (j : Int)))] [] = .ok [.bool true] [] := fun j => by
    obtain ⟨s1, e1, u1⟩ := urn (k + 10) ns hl j
    obtain ⟨s2, e2, u2⟩ := right k u1
    have sc : (evP (callD tb gv (k + 11)) gv (.scp (.call "_law_right" [(.call "_law_urn" [(.var 0), (.var 1)])]))).v [some (.rd (ip ns)), some (.d (.int (j : Int)))] [] = .ok (.d (.bool true)) [] := by
      rw [ev_scp]
      simp only [ev_call, ew_cons, ew_nil, ev_var, var_zero, var_succ, bd_ret, bd_assoc]
      rw [bd_at e1, bd_at e2]
      rfl
    rw [one_is, bd_at sc]
    rfl
  have cmp : lim (compL (fun x => bd (asgT (T.nm 1) (W.d x) [some (.rd (ip ns)), none]) (oneM [] (evP (callD tb gv (k + 11)) gv (.scp (.call "_law_right" [(.call "_law_urn" [(.var 0), (.var 1)])]))).v)) (rangeP 0 n)) [] = .ok ((rangeP 0 n).map fun _ => .bool true) [] := by
    refine comp_gen (g := fun _ => .bool true) (fun x hx => ?_) (by unfold rangeP; rw [List.length_map, List.length_range]; exact Nat.le_trans n3 (by decide))
    obtain ⟨j, _, rfl⟩ := List.mem_map.mp hx
    rw [Int.zero_add, asg_nm, bd_ret]
    exact one j
  have al : ∀ l : List PyData, bltW .all [.d (.list (l.map fun _ => .bool true))] = Zd.ret (.d (.bool true)) := fun l => by
    have b1 : ∀ l : List PyData, boolsOf (l.map fun _ => PyData.bool true) = some (l.map fun _ => true) := fun l => by
      induction l with
      | nil => rfl
      | cons x l ih =>
        show (boolsOf (l.map fun _ => PyData.bool true)).map (true :: ·) = _
        rw [ih]
        rfl
    funext st
    show (match (some (l.map fun _ => PyData.bool true)).bind boolsOf with | some bs => Zd.bool (bs.all id) st | none => Out.bad) = _
    rw [Option.bind_some, b1]
    show Zd.bool _ st = _
    have : (l.map fun _ => true).all id = true := by simp
    rw [this]
    rfl
  have rn := rng_n n (by omega)
  have w1 : wipeE [some (W.rd (ip ns)), none] [1] = [some (.rd (ip ns)), none] := rfl
  have e0 : b_law = [.ret (.blt .all [(.comp (.nm 1) (.rng [(.blt .max [(.cst (.int 2)), (.blt .min [(.blt .len [(.var 0)]), (.cst (.int 3))])])]) [] (.scp (.call "_law_right" [(.call "_law_urn" [(.var 0), (.var 1)])])) [1])])] := rfl
  simp only [d_law, e0]
  simp only [List.length_cons, List.length_nil, Nat.zero_add, Nat.reduceAdd, decide_true, List.any_cons, isOwn, List.any_nil, Bool.or_self, Bool.not_false, Bool.and_self, want_true, List.map_cons, List.map_nil, Nat.reduceSub, List.reduceReplicate, List.cons_append, List.nil_append, xs_cons, x_ret, ev_blt, ew_cons, ev_comp, ei_rng, ew_nil, ev_cst, ev_var, var_zero, br, bd_assoc, len_rd, lm, min_i, max_i, hn, want_1, rn, ett_nil, w1]
  rw [bd_at cmp]
  simp only [br, al, ret_at]
  rfl
theorem plain (ns : List Int) (hl : ns.length ≤ 63) : callD tb gv 60 "law" [.rd (ns.map .int)] [] = .ok (.d (.bool true)) [] := plainK 48 ns hl
end K76
end
open PySem PySem.W PyProof.Rows
set_option Elab.async false
set_option maxRecDepth 100000 in
set_option maxHeartbeats 8000000 in
theorem PySem.Challenge.cw_platelights_k76_whole_rounds_and_dark_af_holds : PySem.Challenge.rw_platelights_k76_whole_rounds_and_dark_af.Holds := by
  exact K76.holds_of K76.plain
