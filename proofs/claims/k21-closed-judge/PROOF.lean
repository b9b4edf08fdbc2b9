import PyProof.Rows.All
import Wide.All
import OpenK.AllK
import Wide.FinOn
import HandS.ForMost
import HandS.CallSlots
import HandS.TryMany
import HandS.WordsExc
import HandS.ExcInit
import HandS.NoneIn
import HandS.ExcField
import HandS.ExcIs
import HandS.TupAny
import HandS.TupMul
import HandS.TupLe
import HandS.WideBits
import HandS.Deep
import HandS.IsInst
import HandS.Conv
import HandS.SortInts
import HandS.SortRule
import HandS.Flow
import HandS.Flt
import HandS.Rev
import HandS.WordsDict
import PyProof.Rows.SetFrom
import KE.GoesEnum
import KE.GoesMore
import KE.GoesZip
import HandS.Set
import HandS.More
import HandS.Small
import PyProof.Rows.RuleB_and
import PyProof.Rows.RuleB_or
import PyProof.Rows.RuleB_xor
import KE.KExcIs
import HandS.Codes
import HandS.Defaults
import HandS.Head0
import HandS.Head1
import HandS.Head2
import HandS.HeadEnd
import HandS.HeadHook1
import HandS.HeadHook2
import HandS.HeadHook3
import HandS.HeadHook4
import KE.KStateDown
import PySem.Challenge.RW_widewebs_k21_closed_judge

set_option Elab.async false
set_option linter.all false
/-! Wv1: values, the IR of the Python subset, its evaluator. -/
namespace Wv
open PySem (Str Operator UnaryOp CmpOp)

/-- a mutable node: owned by one slot (or temporary); frozen for good; the script -/
inductive Tg where | own | fro | scr
  deriving DecidableEq, Repr, Inhabited

inductive D where
  | non | bl (b : Bool) | int (i : Int) | str (s : Str)
  | tup (xs : List D)
  | lst (t : Tg) (xs : List D)
  | obj (t : Tg) (c : String) (ns : List String) (xs : List D)
  | iset (t : Tg) (xs : List Int)
  | dic (t : Tg) (ks vs : List D)
  deriving Inhabited, Repr

mutual
/-- all nodes frozen -/
def D.froz : D → D
  | .tup xs => .tup (frozs xs)
  | .lst .scr xs => .lst .scr xs
  | .lst _ xs => .lst .fro (frozs xs)
  | .obj _ c ns xs => .obj .fro c ns (frozs xs)
  | .iset _ xs => .iset .fro xs
  | .dic _ ks vs => .dic .fro ks (frozs vs)
  | d => d
def frozs : List D → List D
  | [] => []
  | x :: xs => x.froz :: frozs xs
end
mutual
/-- every mutable node is frozen: it may be kept anywhere -/
def D.stb : D → Bool
  | .tup xs => stbs xs
  | .lst t xs => t != .own && stbs xs
  | .obj t _ _ xs => t != .own && stbs xs
  | .iset t _ => t != .own
  | .dic t ks vs => t != .own && stbs ks && stbs vs
  | _ => true
def stbs : List D → Bool
  | [] => true
  | x :: xs => x.stb && stbs xs
end
mutual
/-- how deep it is nested -/
def D.dp : D → Nat
  | .tup xs | .lst _ xs => dps xs + 1
  | _ => 0
def dps : List D → Nat
  | [] => 0
  | x :: xs => max x.dp (dps xs)
end
mutual
/-- data alone: None, bools, ints, texts, tuples, lists -/
def D.plain : D → Bool
  | .non | .bl _ | .int _ => true
  | .str s => PySem.PyData.strOk s
  | .tup xs | .lst _ xs => plains xs
  | _ => false
def plains : List D → Bool
  | [] => true
  | x :: xs => x.plain && plains xs
end
def D.num : D → Option Int
  | .bl b => some (if b then 1 else 0)
  | .int i => some i
  | _ => none
mutual
/-- == of data -/
def eqB : D → D → Bool
  | .non, .non => true
  | .str a, .str b => a == b
  | .bl a, e => match e.num with | some j => (if a then 1 else 0) == j | none => false
  | .int i, e => match e.num with | some j => i == j | none => false
  | .tup a, .tup b => eqBs a b
  | .lst _ a, .lst _ b => eqBs a b
  | _, _ => false
def eqBs : List D → List D → Bool
  | [], [] => true
  | a :: as, b :: bs => eqB a b && eqBs as bs
  | _, _ => false
end
def eqD (a b : D) : Option Bool := if a.plain && b.plain && decide (min a.dp b.dp ≤ 60) then some (eqB a b) else none

def fits (n : Nat) : Bool := decide (n ≤ 16777216)
/-- the root of a fresh list or set frozen -/
def D.fz0 : D → D
  | .lst .own xs => .lst .fro xs
  | .iset .own xs => .iset .fro xs
  | d => d
/-- a temporary whose parts are owned by nobody else -/
def D.fresh : D → Bool
  | .lst .own xs => stbs xs
  | .iset .own _ => true
  | d => d.stb

def arith : Operator → Int → Int → Option Int
  | .Add, i, j => some (i + j)
  | .Sub, i, j => some (i - j)
  | .Mult, i, j => if (-(2 ^ 64) < i ∧ i < 2 ^ 64) ∨ (-(2 ^ 64) < j ∧ j < 2 ^ 64) then some (i * j) else none
  | .Mod, i, j => if 0 < j then some (i % j) else none
  | .FloorDiv, i, j => if 0 < j ∧ j < 1073741824 then some (i / j) else none
  | .Pow, i, j => if 0 ≤ j ∧ j ≤ 1000000 ∧ i.natAbs < 2 ^ 64 then some (i ^ j.toNat) else none
  | .LShift, i, j => if 0 ≤ j ∧ j ≤ 1000000 ∧ i.natAbs < 2 ^ 128 then some (i * 2 ^ j.toNat) else none
  | .RShift, i, j => if 0 ≤ j then some (i / 2 ^ j.toNat) else none
  | .BitAnd, i, j => some (PySem.Builtin.bitAnd i j)
  | .BitOr, i, j => some (PySem.Builtin.bitOr i j)
  | .BitXor, i, j => some (PySem.Builtin.bitXor i j)
  | _, _, _ => none
def binD : Operator → D → D → Option D
  | op, .int i, .int j => (arith op i j).map .int
  | .Add, .str a, .str b => if fits (a.length + b.length) then some (.str (a ++ b)) else none
  | .Add, .tup a, .tup b => if fits (a.length + b.length) && stbs a && stbs b then some (.tup (a ++ b)) else none
  | .Add, .lst s a, .lst t b => if s != .scr && t != .scr && fits (a.length + b.length) && stbs a && stbs b then some (.lst .own (a ++ b)) else none
  | .Mult, .lst s a, .int k => if s != .scr && decide (-(2 ^ 63) ≤ k ∧ k < 2 ^ 63) && fits (a.length * k.toNat) && stbs a then some (.lst .own (List.replicate k.toNat a).flatten) else none
  | .Mult, .tup a, .int k => if decide (k ≤ 1000) && decide (-1000 ≤ k) && decide (a.length ≤ 1000) && stbs a then some (.tup (List.replicate k.toNat a).flatten) else none
  | _, _, _ => none
def unD : UnaryOp → D → Option D
  | .USub, .int i => some (.int (-i))
  | .Invert, .int i => some (.int (PySem.Builtin.bitNot i))
  | _, _ => none
/-- truth -/
def truD : D → Option Bool
  | .non => some false
  | .bl b => some b
  | .int i => some (i != 0)
  | .str s => if fits s.length then some (s.length != 0) else none
  | .tup xs | .lst _ xs => some (!xs.isEmpty)
  | _ => none
def ints? : List D → Option (List Int)
  | [] => some []
  | .int i :: xs => (ints? xs).map (i :: ·)
  | _ => none
def bls? : List D → Option (List Bool)
  | [] => some []
  | .bl i :: xs => (bls? xs).map (i :: ·)
  | _ => none
def strs? : List D → Option (List Str)
  | [] => some []
  | .str i :: xs => (strs? xs).map (i :: ·)
  | _ => none
/-- the lexicographic order of int lists -/
def lexLt : List Int → List Int → Bool
  | [], [] => false
  | [], _ :: _ => true
  | _ :: _, [] => false
  | a :: as, b :: bs => if a = b then lexLt as bs else decide (a < b)
/-- ints, and tuples of such, so deep -/
def ordk : Nat → D → Bool
  | 0, .int _ => true
  | n + 1, .tup xs => xs.all (ordk n)
  | _, _ => false
/-- which is ahead, by the first that is not equal -/
def lexD (lt : D → D → Bool) : List D → List D → Bool
  | [], [] => false
  | [], _ :: _ => true
  | _ :: _, [] => false
  | a :: as, b :: bs => if eqB a b then lexD lt as bs else lt a b
def ltk : Nat → D → D → Bool
  | 0, .int i, .int j => decide (i < j)
  | n + 1, .tup a, .tup b => lexD (ltk n) a b
  | _, _, _ => false
def ordN (xs : List D) : Option Nat := if xs.all (ordk 1) then some 1 else if xs.all (ordk 2) then some 2 else if xs.all (ordk 3) then some 3 else none
def fixk (n : Nat) (d : D) : D := if ordk n d then d else .tup []
def lek (n : Nat) (a b : D) : Bool := !ltk n (fixk n b) (fixk n a)
def neT : D → Bool
  | .tup (_ :: _) => true
  | _ => false
def cmpL (op : CmpOp) (lt eq : Bool) : Option Bool := match op with
  | .Lt => some lt
  | .LtE => some (lt || eq)
  | .Gt => some (!lt && !eq)
  | .GtE => some (!lt)
  | _ => none
def isK (i : Int) : D → Bool
  | .int j => decide (j = i)
  | _ => false
/-- among a set's members, a dict's keys -/
def memK (d x : D) : Option Bool := match d, x with
  | .iset _ xs, .int k => some (decide (k ∈ xs))
  | .dic _ ks _, .int k => some (ks.any (isK k))
  | _, _ => none
def memD (x : D) (xs : List D) : Option Bool := if x.plain && plains xs && decide (min x.dp (dps xs) ≤ 60) then some (xs.any fun z => eqB z x) else none
def D.isNon : D → Bool
  | .non => true
  | _ => false
def D.isB : D → Bool → Bool
  | .bl c, b => c == b
  | _, _ => false
def cmpD : CmpOp → D → D → Option Bool
  | .Eq, a, b => eqD a b
  | .NotEq, a, b => (eqD a b).map (!·)
  | .Is, a, .non => some a.isNon
  | .IsNot, a, .non => some (!a.isNon)
  | .Is, a, .bl b => some (a.isB b)
  | .IsNot, a, .bl b => some (!a.isB b)
  | .In, x, .lst _ xs => memD x xs
  | .In, x, .tup xs => memD x xs
  | .NotIn, x, .lst _ xs => (memD x xs).map (!·)
  | .NotIn, x, .tup xs => (memD x xs).map (!·)
  | .In, x, .iset t xs => memK (.iset t xs) x
  | .NotIn, x, .iset t xs => (memK (.iset t xs) x).map (!·)
  | .In, x, .dic t ks vs => memK (.dic t ks vs) x
  | .NotIn, x, .dic t ks vs => (memK (.dic t ks vs) x).map (!·)
  | op, .int i, .int j => cmpL op (decide (i < j)) (decide (i = j))
  | .Lt, .tup a, .tup b => match ints? a, ints? b with
    | some x, some y => some (lexLt x y)
    | _, _ => (ordN [.tup a, .tup b]).map fun n => ltk n (.tup a) (.tup b)
  | .LtE, .tup a, .tup b => match ints? a, ints? b with
    | some x, some y => some (lexLt x y || x == y)
    | _, _ => (ordN [.tup a, .tup b]).map fun n => !ltk n (.tup b) (.tup a)
  | _, _, _ => none

def ixN (n : Nat) (i : Int) : Option Nat := if 0 ≤ i then (if i < n then some i.toNat else none) else if -(n : Int) ≤ i then some (i + n).toNat else none
def atI {α : Type} (xs : List α) (i : Int) : Option α := (ixN xs.length i).bind fun j => xs[j]?
def look (ks vs : List D) (k : D) : Option D := match ks, vs with
  | a :: as, v :: r => if eqB a k then some v else look as r k
  | _, _ => none
def idxD : D → D → Option D
  | .lst _ xs, .int i => atI xs i
  | .tup xs, .int i => atI xs i
  | .str s, .int i => if fits s.length then (atI s.cps.toList i).map fun c => .str ⟨#[c]⟩ else none
  | _, _ => none
def sIx (n d : Nat) : Option Int → Nat
  | none => d
  | some v => if v < 0 then (v + (n : Int)).toNat else min v.toNat n
def cut {α : Type} (xs : List α) (lo hi : Option Int) : List α := (xs.drop (sIx xs.length 0 lo)).take (sIx xs.length xs.length hi - sIx xs.length 0 lo)
def slcD : D → Option Int → Option Int → Option D
  | .lst _ xs, lo, hi => if stbs xs then some (.lst .own (cut xs lo hi)) else none
  | .tup xs, lo, hi => if stbs xs then some (.tup (cut xs lo hi)) else none
  | .str s, lo, hi => if fits s.length then some (.str ⟨(cut s.cps.toList lo hi).toArray⟩) else none
  | _, _, _ => none
def fld : List String → List D → String → Option D
  | n :: ns, v :: vs, f => if n = f then some v else fld ns vs f
  | _, _, _ => none
/-- a class's own attributes' names -/
abbrev Flds := String → List String
def putFld : List String → List D → String → D → List String × List D
  | n :: ns, v :: vs, f, d => if n = f then (n :: ns, d :: vs) else let r := putFld ns vs f d; (n :: r.1, v :: r.2)
  | _, _, f, d => ([f], [d])
def maxI : List Int → Option Int
  | [] => none
  | x :: xs => some (xs.foldl (fun m y => if y > m then y else m) x)
def minI : List Int → Option Int
  | [] => none
  | x :: xs => some (xs.foldl (fun m y => if y < m then y else m) x)
def insI (x : Int) : List Int → List Int
  | [] => [x]
  | y :: ys => if x < y then x :: y :: ys else if x = y then y :: ys else y :: insI x ys
def sortI (xs : List Int) : List Int := xs.mergeSort (fun a b => decide (a ≤ b))
def pairs? : List D → Option (List (Int × Int))
  | [] => some []
  | .tup [.int i, .int j] :: xs => (pairs? xs).map ((i, j) :: ·)
  | _ => none
def lePair (a b : Int × Int) : Bool := decide (a.1 < b.1) || (a.1 == b.1 && decide (a.2 ≤ b.2))
def joinS (sep : Str) : List Str → Str
  | [] => Str.empty
  | [x] => x
  | x :: xs => x ++ sep ++ joinS sep xs
def items? : D → Option (List D)
  | .lst _ xs => some xs
  | .tup xs => some xs
  | _ => none
def sortD (xs : List D) : Option (List D) := match ints? xs with
  | some is => some ((sortI is).map .int)
  | none => match pairs? xs with
    | some ps => if fits ps.length then some ((ps.mergeSort lePair).map fun p => .tup [.int p.1, .int p.2]) else none
    | none => match ordN xs with
      | some n => if fits xs.length && (decide (xs.length ≤ 1) || xs.all neT) then some (xs.mergeSort (lek n)) else none
      | none => none
/-- built-in functions, by value -/
def biD_len (ds : List D) : Option D := match ds with
    | [.str s] => if fits s.length then some (.int s.length) else none
    | [.lst _ xs] => some (.int xs.length)
    | [.tup xs] => some (.int xs.length)
    | [.dic _ ks _] => some (.int ks.length)
    | _ => none
def biD_int (ds : List D) : Option D := match ds with
    | [.int i] => some (.int i)
    | [.bl b] => some (.int (if b then 1 else 0))
    | _ => none
def biD_str (ds : List D) : Option D := match ds with
    | [.int i] => if i.natAbs.log2 < 1920 then some (.str (Str.ofString (toString i))) else none
    | _ => none
def biD_abs (ds : List D) : Option D := match ds with
    | [.int i] => some (.int (if i < 0 then -i else i))
    | _ => none
def biD_max (ds : List D) : Option D := match ds with
    | [.int i, .int j] => some (.int (if j > i then j else i))
    | [.lst _ xs] => (ints? xs).bind fun is => (maxI is).map .int
    | _ => none
def biD_min (ds : List D) : Option D := match ds with
    | [.int i, .int j] => some (.int (if j < i then j else i))
    | [.int i, .int j, .int k] => some (.int (if k < (if j < i then j else i) then k else (if j < i then j else i)))
    | [.lst _ xs] => (ints? xs).bind fun is => (minI is).map .int
    | _ => none
def biD_sum (ds : List D) : Option D := match ds with
    | [.lst _ xs] => (ints? xs).map fun is => .int is.sum
    | _ => none
def biD_all (ds : List D) : Option D := match ds with
    | [.lst _ xs] => (bls? xs).map fun bs => .bl (bs.all id)
    | _ => none
def biD_any (ds : List D) : Option D := match ds with
    | [.lst _ xs] => (bls? xs).map fun bs => .bl (bs.any id)
    | _ => none
def biD_tuple (ds : List D) : Option D := match ds with
    | [.lst _ xs] => if stbs xs then some (.tup xs) else none
    | [.tup xs] => if stbs xs then some (.tup xs) else none
    | _ => none
def biD_list (ds : List D) : Option D := match ds with
    | [.lst _ xs] => if stbs xs then some (.lst .own xs) else none
    | [.tup xs] => if stbs xs then some (.lst .own xs) else none
    | [.dic _ ks _] => if (ints? ks).isSome then some (.lst .own ks) else none
    | _ => none
def biD_set (ds : List D) : Option D := match ds with
    | [.lst _ xs] => match ints? xs with
      | some is => if is.length < 4000 then some (.iset .own (is.foldl (fun a i => insI i a) [])) else none
      | none => none
    | _ => none
def biD_sorted (ds : List D) : Option D := match ds with
    | [.lst _ xs] => (sortD xs).map (.lst .own)
    | _ => none
def biD (f : String) (ds : List D) : Option D :=
  if f = "len" then biD_len ds
  else if f = "int" then biD_int ds
  else if f = "str" then biD_str ds
  else if f = "abs" then biD_abs ds
  else if f = "max" then biD_max ds
  else if f = "min" then biD_min ds
  else if f = "sum" then biD_sum ds
  else if f = "all" then biD_all ds
  else if f = "any" then biD_any ds
  else if f = "tuple" then biD_tuple ds
  else if f = "list" then biD_list ds
  else if f = "sorted" then biD_sorted ds
  else if f = "set" then biD_set ds
  else none
/-- .. and calls of one upon a call of another -/
def bicD_sortedset (ds : List D) : Option D := match ds with
    | [.lst _ xs] => match ints? xs with
      | some is => some (.lst .own ((is.foldl (fun a i => insI i a) []).map .int))
      | none => (pairs? xs).map fun ps => .lst .own ((ps.mergeSort lePair).eraseDups.map fun p => .tup [.int p.1, .int p.2])
    | _ => none
def bicD_tuplereversed (ds : List D) : Option D := match ds with
    | [.lst _ xs] => if stbs xs then some (.tup xs.reverse) else none
    | [.tup xs] => if stbs xs then some (.tup xs.reverse) else none
    | _ => none
def bicD_listreversed (ds : List D) : Option D := match ds with
    | [.lst _ xs] => if stbs xs then some (.lst .own xs.reverse) else none
    | [.tup xs] => if stbs xs then some (.lst .own xs.reverse) else none
    | _ => none
def bicD_listrange (ds : List D) : Option D := match ds with
    | [.int n] => if fits n.toNat then some (.lst .own ((List.range n.toNat).map fun (k : Nat) => .int k)) else none
    | _ => none
def bicD_tuplerange (ds : List D) : Option D := match ds with
    | [.int n] => if fits n.toNat then some (.tup ((List.range n.toNat).map fun (k : Nat) => .int k)) else none
    | [.int n, .int m, .int c] => if c = -1 ∧ m = -1 ∧ fits (n + 1).toNat then some (.tup ((List.range (n + 1).toNat).map fun (k : Nat) => .int (n - k))) else none
    | _ => none
def bicD_rev (ds : List D) : Option D := match ds with
    | [.lst _ xs] => if stbs xs then some (.lst .own xs.reverse) else none
    | [.tup xs] => if stbs xs then some (.tup xs.reverse) else none
    | _ => none
def bicD (f : String) (ds : List D) : Option D :=
  if f = "sortedset" then bicD_sortedset ds
  else if f = "tuplereversed" then bicD_tuplereversed ds
  else if f = "listreversed" then bicD_listreversed ds
  else if f = "listrange" then bicD_listrange ds
  else if f = "tuplerange" then bicD_tuplerange ds
  else if f = "rev" then bicD_rev ds
  else none
def findIx (d : D) : List D → Nat → Option Nat
  | [], _ => none
  | x :: xs, k => if eqB x d then some k else findIx d xs (k + 1)
/-- methods of built-in types that change nothing -/
def bmD : String → D → List D → Option D
  | "bit_length", .int i, [] => some (.int (if i = 0 then 0 else i.natAbs.log2 + 1))
  | "join", .str s, [.lst _ xs] => (strs? xs).bind fun ys => let r := joinS s ys; if fits r.length && fits xs.length then some (.str r) else none
  | "index", .lst _ xs, [d] => if plains xs && d.plain then (findIx d xs 0).map fun k => .int k else none
  | "count", .lst _ xs, [d] => if plains xs && d.plain then some (.int (xs.countP fun z => eqB z d)) else none
  | _, _, _ => none
/-- methods that change their list or set: the result, what stands then -/
def mmApp : D → List D → Option (D × D)
  | .lst .own xs, [d] => if xs.length < 16777216 then some (.non, .lst .own (xs ++ [d])) else none
  | _, _ => none
def mmExt : D → List D → Option (D × D)
  | .lst .own xs, [.lst .own ys] => if fits (xs.length + ys.length) && stbs ys then some (.non, .lst .own (xs ++ ys)) else none
  | .lst .own xs, [.lst .fro ys] => if fits (xs.length + ys.length) && stbs ys then some (.non, .lst .own (xs ++ ys)) else none
  | _, _ => none
def mmPop : D → List D → Option (D × D)
  | .lst .own xs, [] => match xs.getLast? with | some d => if d.stb then some (d, .lst .own xs.dropLast) else none | none => none
  | .lst .own xs, [.int i] => match ixN xs.length i with | some k => (xs[k]?).bind fun d => if d.stb && fits xs.length then some (d, .lst .own (xs.eraseIdx k)) else none | none => none
  | _, _ => none
def mmIns : D → List D → Option (D × D)
  | .lst .own xs, [.int i, d] => if xs.length < 16777216 && decide (0 ≤ i ∧ i ≤ xs.length) then some (.non, .lst .own (xs.take i.toNat ++ [d] ++ xs.drop i.toNat)) else none
  | _, _ => none
def mmAdd : D → List D → Option (D × D)
  | .iset .own xs, [.int i] => if xs.length < 4000 then some (.non, .iset .own (insI i xs)) else none
  | _, _ => none
def mmRem : D → List D → Option (D × D)
  | .lst .own xs, [d] => if plains xs && d.plain then (findIx d xs 0).map fun k => (.non, .lst .own (xs.eraseIdx k)) else none
  | _, _ => none
def mmD (m : String) (d : D) (ds : List D) : Option (D × D) :=
  if m = "append" then mmApp d ds else if m = "extend" then mmExt d ds else if m = "pop" then mmPop d ds
  else if m = "insert" then mmIns d ds else if m = "add" then mmAdd d ds else if m = "remove" then mmRem d ds else none
theorem mmD_app {d : D} {ds : List D} : mmD "append" d ds = mmApp d ds := rfl
theorem mmD_ext {d : D} {ds : List D} : mmD "extend" d ds = mmExt d ds := rfl
theorem mmD_pop {d : D} {ds : List D} : mmD "pop" d ds = mmPop d ds := rfl
theorem mmD_ins {d : D} {ds : List D} : mmD "insert" d ds = mmIns d ds := rfl
theorem mmD_add {d : D} {ds : List D} : mmD "add" d ds = mmAdd d ds := rfl
/-- an int -/
def D.isI : D → Bool
  | .int _ => true
  | _ => false
/-- d[k] = v of a dict -/
def putK (ks vs : List D) (i : Int) (d : D) : List D × List D :=
  if ks.any (isK i) then (ks, List.zipWith (fun k v => if isK i k then d else v) ks vs) else (ks ++ [.int i], vs ++ [d])
/-- o[i] = v of a list -/
def setL : D → D → D → Option D
  | .lst .own xs, .int i, d => match ixN xs.length i with | some k => some (.lst .own (xs.set k d)) | none => none
  | _, _, _ => none
/-- o[i] = v -/
def setD : D → D → D → Option D
  | .dic .own ks vs, .int i, d => if d.stb && decide (ks.length < 16777216) && (ints? ks).isSome then some (.dic .own (putK ks vs i d).1 (putK ks vs i d).2) else none
  | .lst .own xs, .int i, d => match ixN xs.length i with | some k => some (.lst .own (xs.set k d)) | none => none
  | _, _, _ => none

/-! ### the IR -/
/-- quiet expressions: they change nothing, raise nothing -/
inductive Qx where
  | non | tr (b : Bool) | int (i : Int) | str (s : String)
  | var (i : Nat) | glob (x : String)
  | bin (op : Operator) (a b : Qx) | un (op : UnaryOp) (a : Qx) | nt (a : Qx)
  | cmp (op : CmpOp) (a b : Qx) | ch2 (o1 o2 : CmpOp) (a b c : Qx)
  | and (es : List Qx) | or (es : List Qx) | ite (c a b : Qx)
  | idx (a i : Qx) | slc (a : Qx) (lo hi : Option Qx) | attr (a : Qx) (f : String)
  | tup (es : List Qx) | lst (es : List Qx)
  | bi (f : String) (es : List Qx) | bic (f : String) (es : List Qx) | bm (a : Qx) (m : String) (es : List Qx)
  | isi (a : Qx) (cs : List String)
  | xf (i : Nat) (f : String) | xi (i : Nat) (cs : List String)
  deriving Inhabited
inductive Pat where
  | v (i : Nat) | tup (ps : List Pat)
  deriving Inhabited
inductive PEl where | ix (e : Qx) | at_ (f : String)
  deriving Inhabited
mutual
inductive Ex where
  | q (e : Qx)
  | fz (xs : List Nat) (e : Qx)
  | mv (i : Nat)
  | fr (e : Ex)
  | bad
  | mk0 (b : Bool)
  | brv (i : Nat) | mt (i : Nat)
  | bin (op : Operator) (a b : Ex) | un (op : UnaryOp) (a : Ex) | nt (a : Ex)
  | cmp (op : CmpOp) (a b : Ex)
  | and (es : List Ex) | or (es : List Ex) | ite (c a b : Ex)
  | idx (a i : Ex) | slc (a : Ex) (lo hi : Option Qx) | attr (a : Ex) (f : String)
  | tup (es : List Ex) | lst (es : List Ex)
  | bi (f : String) (es : List Ex) | bic (f : String) (es : List Ex) | bm (a : Ex) (m : String) (es : List Ex)
  | isi (a : Ex) (cs : List String)
  | call (f : String) (es : List Ex) (ks : List String)
  | new (c : String) (es : List Ex) (ks : List String)
  | meth (o : Qx) (m : String) (es : List Ex)
  | mm (x : Nat) (path : List PEl) (m : String) (es : List Ex)
  | comp (own : List Nat) (p : Pat) (s : Src) (ifs : List Ex) (elt : Ex)
  | comp2 (own : List Nat) (p : Pat) (s : Src) (ifs : List Ex) (own2 : List Nat) (p2 : Pat) (s2 : Src) (ifs2 : List Ex) (elt : Ex)
inductive Src where
  | rng (a b c : Option Ex)
  | itq (e : Qx) | itv (e : Ex)
  | enq (e : Qx) | env (e : Ex)
  | zipq (es : List Qx)
  | revq (e : Qx)
end
instance : Inhabited Ex := ⟨.mv 0⟩
mutual
inductive St where
  | asg (p : Pat) (e : Ex)
  | setI (x : Nat) (path : List PEl) (i : Qx) (e : Ex)
  | augV (x : Nat) (op : Operator) (e : Ex)
  | augI (x : Nat) (path : List PEl) (i : Qx) (op : Operator) (e : Ex)
  | setA (x : Nat) (f : String) (e : Ex)
  | expr (e : Ex)
  | ret (e : Ex) | retN
  | ifS (c : Ex) (a b : List St)
  | whil (c : Ex) (b : List St)
  | forS (p : Pat) (s : Src) (b : List St)
  | brk | cnt | pas
  | rais (c : String) (es : List Ex)
  | raisN (c : String) (es : List Ex)
  | tryS (b : List St) (hs : List Hd)
  | bad
inductive Hd where
  | mk (cs : List String) (n : Option Nat) (b : List St)
end
instance : Inhabited St := ⟨.pas⟩

/-! ### slots -/
/-- a slot: empty; owning its value's nodes; the same, a parameter that the call changes; showing nodes that others own; its own nodes shown by a loop for now; a caught exception -/
inductive Slot where | no | me (d : D) | mp (d : D) | br (d : D) | lk (d : D) | xc (c : String) (ns : List String) (ds : List D)
  deriving Inhabited, Repr
abbrev Env := List Slot
def getS (env : Env) (i : Nat) : Option D := match env[i]? with
  | some (.me d) => some d
  | some (.mp d) => some d
  | some (.br d) => some d
  | some (.lk d) => some d
  | _ => none
/-- a slot that no loop walks is set -/
def setS (env : Env) (i : Nat) (d : D) : Option Env := match env[i]? with
  | some (.lk _) => none
  | some (.mp _) => none
  | some _ => some (env.set i (.me d))
  | none => none
inductive Res (α : Type) where
  | ok (a : α) (env : Env)
  | ex (c : String) (ds : List D) (env : Env)
  | bad
def Res.bind {α β : Type} (r : Res α) (f : α → Env → Res β) : Res β := match r with
  | .ok a e => f a e
  | .ex c ds e => .ex c ds e
  | .bad => .bad
def Res.of {α : Type} (o : Option α) (env : Env) : Res α := match o with
  | some a => .ok a env
  | none => .bad
/-- what a call gives: the value (or the exception) and what its lent-to-change arguments are then -/
inductive CRes where
  | ok (d : D) (outs : List D)
  | ex (c : String) (ds : List D) (outs : List D)
  | bad
structure Cfg where
  cf : String → List Slot → CRes
  gl : String → Option D
  mro : String → List String
  fl : Flds
  pl : List String
  ec : List String
  gf : List String
  pn : String → List String
  kws : List (String × Nat × List String)
  wf : Nat
  hot : Bool := false
/-- keyword arguments stand last; put in the parameters' order -/
def pickG {α : Type} (kw : List (String × α)) : List String → Option (List α)
  | [] => some []
  | p :: ps => match kw.lookup p, pickG kw ps with
    | some x, some r => some (x :: r)
    | _, _ => none
def pickL {α : Type} (ps ks : List String) (us ws : List α) : Option (List α) := (pickG (ks.zip ws) (ps.drop us.length)).map (us ++ ·)
def picks {α : Type} (G : Cfg) (f : String) (ks : List String) (ss : List α) : Option (List α) :=
  if ks.isEmpty then some ss else if G.kws.contains (f, ss.length - ks.length, ks) && decide (ks.length ≤ ss.length) then pickL (G.pn f) ks (ss.take (ss.length - ks.length)) (ss.drop (ss.length - ks.length)) else none

def attrD (G : Cfg) : D → String → Option D
  | .obj _ c ns vs, f => if G.pl.contains c && (G.fl c).contains f then fld ns vs f else none
  | _, _ => none
def isiB (G : Cfg) : D → String → Option Bool
  | .int _, t => some (t == "int")
  | .bl _, t => some (t == "bool" || t == "int")
  | .str _, t => some (t == "str")
  | .tup _, t => some (t == "tuple")
  | .lst _ _, t => some (t == "list")
  | .non, _ => some false
  | .obj _ c _ _, t => if G.pl.contains c then some ((G.mro c).contains t) else none
  | _, _ => none
def isiD (G : Cfg) (d : D) : List String → Option Bool
  | [] => some false
  | t :: ts => match isiB G d t with
    | some true => some true
    | some false => isiD G d ts
    | none => none

/-- a caught exception's field; its class -/
def xfD (G : Cfg) (env : Env) (i : Nat) (f : String) : Option D := match env[i]? with
  | some (.xc c ns ds) => if (G.fl c).contains f then fld ns ds f else none
  | _ => none
def xiD (G : Cfg) (env : Env) (i : Nat) (cs : List String) : Option Bool := match env[i]? with
  | some (.xc c _ _) => if G.ec.contains c then some (cs.any fun t => (G.mro c).contains t) else none
  | _ => none
section
variable (G : Cfg)
mutual
def qv : Qx → Env → Option D
  | .non, _ => some .non
  | .tr b, _ => some (.bl b)
  | .int i, _ => some (.int i)
  | .str s, _ => some (.str (Str.ofString s))
  | .var i, env => getS env i
  | .glob x, _ => G.gl x
  | .bin op a b, env => do (binD op (← qv a env) (← qv b env)).map D.fz0
  | .un op a, env => do unD op (← qv a env)
  | .nt a, env => do return .bl (!(← truD (← qv a env)))
  | .cmp op a b, env => do return .bl (← cmpD op (← qv a env) (← qv b env))
  | .ch2 o1 o2 a b c, env => do
    let x ← qv a env
    let y ← qv b env
    if ← cmpD o1 x y then return .bl (← cmpD o2 y (← qv c env)) else return .bl false
  | .and es, env => qand es env
  | .or es, env => qor es env
  | .ite c a b, env => do if ← qt c env then qv a env else qv b env
  | .idx a i, env => do idxD (← qv a env) (← qv i env)
  | .slc a lo hi, env => do
    let d ← qv a env
    let l ← qo lo env
    let h ← qo hi env
    (slcD d l h).map D.fz0
  | .attr a f, env => do attrD G (← qv a env) f
  | .tup es, env => do
    let ds ← qvs es env
    if stbs ds && fits ds.length then some (.tup ds) else none
  | .lst es, env => do
    let ds ← qvs es env
    if stbs ds && fits ds.length then some (.lst .fro ds) else none
  | .bi f es, env => do if G.hot && f != "len" then none else (biD f (← qvs es env)).map D.fz0
  | .bic f es, env => do if G.hot then none else (bicD f (← qvs es env)).map D.fz0
  | .bm a m es, env => do
    let d ← qv a env
    (bmD m d (← qvs es env)).map D.fz0
  | .isi a cs, env => do return .bl (← isiD G (← qv a env) cs)
  | .xf i f, env => xfD G env i f
  | .xi i cs, env => (xiD G env i cs).map .bl
/-- as a test -/
def qt : Qx → Env → Option Bool
  | .nt a, env => do return !(← qt a env)
  | .and es, env => qtand es env
  | .or es, env => qtor es env
  | .non, _ => some false
  | .tr b, _ => some b
  | .int i, _ => truD (.int i)
  | .str s, _ => truD (.str (Str.ofString s))
  | .var i, env => do truD (← getS env i)
  | .glob x, _ => do truD (← G.gl x)
  | .bin op a b, env => do truD (← binD op (← qv a env) (← qv b env))
  | .un op a, env => do truD (← unD op (← qv a env))
  | .cmp op a b, env => do cmpD op (← qv a env) (← qv b env)
  | .ch2 o1 o2 a b c, env => do
    let x ← qv a env
    let y ← qv b env
    if ← cmpD o1 x y then cmpD o2 y (← qv c env) else return false
  | .ite c a b, env => do if ← qt c env then qt a env else qt b env
  | .idx a i, env => do truD (← idxD (← qv a env) (← qv i env))
  | .slc _ _ _, _ => none
  | .attr a f, env => do truD (← attrD G (← qv a env) f)
  | .tup _, _ => none
  | .lst _, _ => none
  | .bi f es, env => do if G.hot && f != "len" then none else truD (← biD f (← qvs es env))
  | .bic _ _, _ => none
  | .bm _ _ _, _ => none
  | .isi a cs, env => do isiD G (← qv a env) cs
  | .xf i f, env => do truD (← xfD G env i f)
  | .xi i cs, env => xiD G env i cs
def qvs : List Qx → Env → Option (List D)
  | [], _ => some []
  | e :: es, env => do
    let d ← qv e env
    return d :: (← qvs es env)
def qand : List Qx → Env → Option D
  | [], _ => none
  | [e], env => qv e env
  | e :: es, env => do
    match ← qv e env with
    | .bl true => qand es env
    | .bl false => return .bl false
    | _ => none
def qor : List Qx → Env → Option D
  | [], _ => none
  | [e], env => qv e env
  | e :: es, env => do
    match ← qv e env with
    | .bl false => qor es env
    | .bl true => return .bl true
    | _ => none
def qtand : List Qx → Env → Option Bool
  | [], _ => none
  | [e], env => qt e env
  | e :: es, env => do if ← qt e env then qtand es env else return false
def qtor : List Qx → Env → Option Bool
  | [], _ => none
  | [e], env => qt e env
  | e :: es, env => do if ← qt e env then return true else qtor es env
def qo : Option Qx → Env → Option (Option Int)
  | none, _ => some none
  | some e, env => do
    match ← qv e env with
    | .int i => return some i
    | _ => none
end

mutual
/-- the slots whose nodes a quiet expression's value may show -/
def roots : Qx → List Nat
  | .var i => [i]
  | .idx a _ => roots a
  | .attr a _ => roots a
  | .ite _ a b => roots a ++ roots b
  | .and es | .or es => rootss es
  | _ => []
def rootss : List Qx → List Nat
  | [] => []
  | e :: es => roots e ++ rootss es
end
def lockS : Slot → Slot
  | .me d => if d.stb then .me d else .lk d
  | .mp d => if d.stb then .mp d else .lk d
  | s => s
def lock (env : Env) : List Nat → Env
  | [] => env
  | i :: is => let e := lock env is; match e[i]? with
    | some s => e.set i (lockS s)
    | none => e
/-- behind a loop: the slots that were locked for it as they were -/
def unlock (env0 env : Env) : List Nat → Env
  | [] => env
  | i :: is => let e := unlock env0 env is; match env0[i]?, e[i]? with
    | some (.me d), some (.lk _) => e.set i (.me d)
    | some (.mp d), some (.lk _) => e.set i (.mp d)
    | some (.me _), some (.br _) => e.set i .no
    | some (.mp _), some (.br _) => e.set i .no
    | _, _ => e
mutual
/-- a loop's target takes an item: lent, if it shows nodes that another slot owns -/
def bindP : Pat → D → Env → Option Env
  | .v i, d, env => match env[i]? with
    | some (.lk _) => none
    | some (.mp _) => none
    | some _ => some (env.set i (if d.stb then .me d else .br d))
    | none => none
  | .tup ps, .tup ds, env => bindPs ps ds env
  | .tup ps, .lst _ ds, env => bindPs ps ds env
  | .tup _, _, _ => none
def bindPs : List Pat → List D → Env → Option Env
  | [], [], env => some env
  | p :: ps, d :: ds, env => match bindP p d env with
    | some e => bindPs ps ds e
    | none => none
  | _, _, _ => none
end
mutual
def patV : Pat → List Nat
  | .v i => [i]
  | .tup ps => patVs ps
def patVs : List Pat → List Nat
  | [] => []
  | p :: ps => patV p ++ patVs ps
end
/-- the target's slots, where they are lent, let go -/
def clearP (env : Env) : List Nat → Env
  | [] => env
  | i :: is => let e := clearP env is; match e[i]? with
    | some (.br _) => e.set i .no
    | _ => e
mutual
/-- an assignment's target takes a value -/
def asgP : Pat → D → Env → Option Env
  | .v i, d, env => setS env i d
  | .tup ps, .tup ds, env => asgPs ps ds env
  | .tup ps, .lst _ ds, env => asgPs ps ds env
  | .tup _, _, _ => none
def asgPs : List Pat → List D → Env → Option Env
  | [], [], env => some env
  | p :: ps, d :: ds, env => match asgP p d env with
    | some e => asgPs ps ds e
    | none => none
  | _, _, _ => none
end
def wipe (env : Env) : List Nat → Env
  | [] => env
  | i :: is => (wipe env is).set i .no
def restore (env0 env : Env) : List Nat → Env
  | [] => env
  | i :: is => match env0[i]? with
    | some s => (restore env0 env is).set i s
    | none => restore env0 env is
/-- slots frozen -/
def freeze (env : Env) : List Nat → Option Env
  | [] => some env
  | i :: is => match freeze env is with
    | some e => match e[i]? with
      | some (.me d) => if d.stb then some e else some (e.set i (.me d.froz))
      | some (.br d) => if d.stb then some e else none
      | _ => none
    | none => none
def isQ : Ex → Bool
  | .q _ => true
  | _ => false
def quiets : List Ex → Bool
  | [] => true
  | .q _ :: es => quiets es
  | .brv _ :: es => quiets es
  | .mt _ :: es => quiets es
  | _ => false
def muts : List Ex → List Nat
  | [] => []
  | .mt i :: es => i :: muts es
  | _ :: es => muts es
/-- the owned node at a path, changed -/
def updAt : List (Sum Int String) → D → (D → Option (D × D)) → Option (D × D)
  | [], d, f => f d
  | .inl i :: r, .lst .own xs, f => match ixN xs.length i with
    | some k => match xs[k]? with
      | some x => (updAt r x f).map fun p => (p.1, .lst .own (xs.set k p.2))
      | none => none
    | none => none
  | .inr a :: r, .obj .own c ns vs, f => match fld ns vs a with
    | some x => (updAt r x f).map fun p => let q := putFld ns vs a p.2; (p.1, .obj .own c q.1 q.2)
    | none => none
  | _, _, _ => none
def pels (env : Env) : List PEl → Option (List (Sum Int String))
  | [] => some []
  | .at_ f :: r => (pels env r).map (.inr f :: ·)
  | .ix e :: r => match qv G e env with
    | some (.int i) => (pels env r).map (.inl i :: ·)
    | _ => none
def updS (env : Env) (x : Nat) (path : List (Sum Int String)) (f : D → Option (D × D)) : Option (D × Env) := match env[x]? with
  | some (.me d) => (updAt path d f).map fun p => (p.1, env.set x (.me p.2))
  | some (.mp d) => (updAt path d f).map fun p => (p.1, env.set x (.mp p.2))
  | _ => none
def putMuts (env : Env) : List Nat → List D → Option Env
  | [], [] => some env
  | i :: is, d :: ds => match env[i]? with
    | some (.mp _) => putMuts (env.set i (.mp d)) is ds
    | _ => putMuts (env.set i (.me d)) is ds
  | _, _ => none
def zipD : List (List D) → List D
  | [a, b] => List.zipWith (fun x y => .tup [x, y]) a b
  | [a, b, c] => List.zipWith (fun (xy : D × D) z => .tup [xy.1, xy.2, z]) (List.zip a b) c
  | _ => []
def itemss? : List D → Option (List (List D))
  | [] => some []
  | d :: ds => match items? d with
    | some xs => (itemss? ds).map (xs :: ·)
    | none => none
def enumD (xs : List D) : List D := (List.range xs.length).zipWith (fun (k : Nat) x => .tup [.int k, x]) xs
def rangeD (a b : Int) : Option (List D) := if -(2 ^ 62) ≤ a ∧ a < 2 ^ 62 ∧ -(2 ^ 62) ≤ b ∧ b < 2 ^ 62 then some ((List.range (b - a).toNat).map fun (k : Nat) => .int (a + k)) else none

/-- a comprehension's turns -/
def compL (f : D → Env → Res (Option D)) : List D → Env → Res (List D)
  | [], env => .ok [] env
  | x :: xs, env => match f x env with
    | .ok (some y) e => (compL f xs e).bind fun ys e => .ok (y :: ys) e
    | .ok none e => compL f xs e
    | _ => .bad
def compLL (f : D → Env → Res (List D)) : List D → Env → Res (List D)
  | [], env => .ok [] env
  | x :: xs, env => match f x env with
    | .ok y e => (compLL f xs e).bind fun ys e => .ok (y ++ ys) e
    | _ => .bad

end
end Wv

set_option Elab.async false
set_option linter.all false
/-! Wv1b: the evaluator of expressions with effects, of statements, of programs. -/
namespace Wv
open PySem (Str Operator UnaryOp CmpOp)
def isL : Option D → Bool
  | some (.lst _ _) => true
  | _ => false
def isM (m : String) (o : Option D) : Bool := match o with
  | some (.lst _ _) => m != "add"
  | some (.iset _ _) => m == "add"
  | _ => false
section
variable (G : Cfg)
mutual
/-- the value: a temporary, or one that may be kept -/
def ev : Ex → Env → Res D
  | .q e, env => match qv G e env with
    | some d => if d.stb then .ok d env else .bad
    | none => .bad
  | .fz xs e, env => match qv G e env with
    | some d => if d.stb then .ok d env else match freeze env xs with
      | some env' => match qv G e env' with
        | some d => if d.stb then .ok d env' else .bad
        | none => .bad
      | none => .bad
    | none => .bad
  | .mv i, env => match env[i]? with
    | some (.me d) => .ok d (env.set i .no)
    | _ => .bad
  | .fr e, env => (ev e env).bind fun d e => .ok (if d.stb then d else d.froz) e
  | .bad, _ => .bad
  | .mk0 b, env => .ok (if b then .iset .own [] else .dic .own [] []) env
  | .brv _, _ => .bad
  | .mt _, _ => .bad
  | .bin op a b, env =>
    (lk a (isQ b) env).bind fun x e => (lk b true e).bind fun y e => match binD op x y with
      | some d => if d.fresh then .ok d e else .bad
      | none => .bad
  | .un op a, env => (lk a true env).bind fun x e => Res.of (unD op x) e
  | .nt a, env => (lk a true env).bind fun x e => Res.of ((truD x).map fun b => .bl (!b)) e
  | .cmp op a b, env => (lk a (isQ b) env).bind fun x e => (lk b true e).bind fun y e => Res.of ((cmpD op x y).map .bl) e
  | .and es, env => evand es env
  | .or es, env => evor es env
  | .ite c a b, env => (te c env).bind fun t e => if t then ev a e else ev b e
  | .idx a i, env => (ev a env).bind fun x e => (lk i true e).bind fun y e => Res.of (idxD x y) e
  | .slc a lo hi, env => (lk a true env).bind fun x e => match qo G lo e, qo G hi e with
      | some l, some h => match slcD x l h with
        | some d => if d.fresh then .ok d e else .bad
        | none => .bad
      | _, _ => .bad
  | .attr a f, env => (ev a env).bind fun x e => Res.of (attrD G x f) e
  | .tup es, env => (evs es env).bind fun ds e => if fits ds.length then .ok (.tup ds) e else .bad
  | .lst es, env => (evs es env).bind fun ds e => if fits ds.length then .ok (.lst .own ds) e else .bad
  | .bi f es, env => if G.hot && f != "len" then .bad else (lks es env).bind fun ds e => match biD f ds with
      | some d => if d.fresh then .ok d e else .bad
      | none => .bad
  | .bic f es, env => if G.hot then .bad else (lks es env).bind fun ds e => match bicD f ds with
      | some d => if d.fresh then .ok d e else .bad
      | none => .bad
  | .bm a m es, env => (lk a (quiets es) env).bind fun x e => (lks es e).bind fun ds e => match bmD m x ds with
      | some d => if d.fresh then .ok d e else .bad
      | none => .bad
  | .isi a cs, env => (lk a true env).bind fun x e => Res.of ((isiD G x cs).map .bl) e
  | .call f es ks, env => if G.hot || decide ((muts es).Nodup = False) then .bad else
    if !ks.isEmpty && !(muts es).isEmpty then .bad else
    (evA (muts es) es env).bind fun ss e => match (match picks G f ks ss with
      | some ss => G.cf f ss
      | none => .bad) with
      | .ok d outs => match putMuts e (muts es) outs with
        | some e' => .ok d e'
        | none => .bad
      | .ex c ds outs => match putMuts e (muts es) outs with
        | some e' => .ex c ds e'
        | none => .bad
      | .bad => .bad
  | .new c es ks, env => if G.hot || !(muts es).isEmpty then .bad else
    (evA [] es env).bind fun ss e => match (match picks G (c ++ ".__init__") ks (.mp (.obj .own c [] []) :: ss) with
      | some ss => G.cf (c ++ ".__init__") ss
      | none => .bad) with
      | .ok .non [o] => .ok o.froz e
      | .ex c ds _ => .ex c ds e
      | _ => .bad
  | .meth o m es, env => if G.hot || !(muts es).isEmpty || !quiets es then .bad else
    match qv G o env with
    | some (.obj t c ns vs) => (evA [] es env).bind fun ss e => match G.cf (c ++ "." ++ m) (.br (.obj t c ns vs) :: ss) with
      | .ok d [] => .ok d e
      | .ex c ds [] => .ex c ds e
      | _ => .bad
    | _ => .bad
  | .mm x path m es, env => if !path.isEmpty && !quiets es then .bad else if !isM m (getS env x) && path.isEmpty then .bad else
    match pels G env path with
    | some p => (evs es env).bind fun ds e => match updS e x p (fun d => mmD m d ds) with
      | some (d, e') => .ok d e'
      | none => .bad
    | none => .bad
  | .comp own p s ifs elt, env => if G.hot then .bad else
    (src s env).bind fun (is, rs) e0 =>
      let e1 := lock e0 rs
      let r := compL (fun x e => match bindP p x (wipe e own) with
        | some e => (tes ifs e).bind fun t e => if t then (ev elt e).bind fun y e => .ok (some y) e else .ok none e
        | none => .bad) is (wipe e1 own)
      match r with
      | .ok ds e => if fits ds.length then .ok (.lst .own ds) (unlock e0 (restore e1 (wipe e own) own) rs) else .bad
      | _ => .bad
  | .comp2 own p s ifs own2 p2 s2 ifs2 elt, env => if G.hot then .bad else
    (src s env).bind fun (is, rs) e0 =>
      let e1 := lock e0 rs
      let r := compLL (fun x e => match bindP p x (wipe e own) with
        | some e => (tes ifs e).bind fun t e => if t then
            (src s2 e).bind fun (is2, rs2) e2 =>
              let e3 := lock e2 rs2
              match compL (fun x e => match bindP p2 x (wipe e own2) with
                | some e => (tes ifs2 e).bind fun t e => if t then (ev elt e).bind fun y e => .ok (some y) e else .ok none e
                | none => .bad) is2 e3 with
              | .ok ys e => .ok ys (unlock e2 (restore e3 e own2) rs2)
              | _ => .bad
            else .ok [] e
        | none => .bad) is (wipe e1 own)
      match r with
      | .ok ds e => if fits ds.length then .ok (.lst .own ds) (unlock e0 (restore e1 e own) rs) else .bad
      | _ => .bad
/-- the value looked at alone: it may show what slots own (v: nothing is done between) -/
def lk : Ex → Bool → Env → Res D
  | .q e, v, env => match qv G e env with
    | some d => if v || d.stb then .ok d env else .bad
    | none => .bad
  | e, _, env => ev e env
def te : Ex → Env → Res Bool
  | .q e, env => Res.of (qt G e env) env
  | .nt a, env => (te a env).bind fun t e => .ok (!t) e
  | .and es, env => teand es env
  | .or es, env => teor es env
  | .ite c a b, env => (te c env).bind fun t e => if t then te a e else te b e
  | .cmp op a b, env => (lk a (isQ b) env).bind fun x e => (lk b true e).bind fun y e => Res.of (cmpD op x y) e
  | .fz _ _, _ => .bad
  | .fr _, _ => .bad
  | e, env => (ev e env).bind fun d e => Res.of (truD d) e
def evs : List Ex → Env → Res (List D)
  | [], env => .ok [] env
  | x :: xs, env => (ev x env).bind fun d e => (evs xs e).bind fun ds e => .ok (d :: ds) e
def lks : List Ex → Env → Res (List D)
  | [], env => .ok [] env
  | x :: xs, env => (lk x (quiets xs) env).bind fun d e => (lks xs e).bind fun ds e => .ok (d :: ds) e
def tes : List Ex → Env → Res Bool
  | [], env => .ok true env
  | x :: xs, env => (te x env).bind fun t e => if t then tes xs e else .ok false e
def evand : List Ex → Env → Res D
  | [], _ => .bad
  | [x], env => ev x env
  | x :: xs, env => (ev x env).bind fun d e => match d with
    | .bl true => evand xs e
    | .bl false => .ok (.bl false) e
    | _ => .bad
def evor : List Ex → Env → Res D
  | [], _ => .bad
  | [x], env => ev x env
  | x :: xs, env => (ev x env).bind fun d e => match d with
    | .bl false => evor xs e
    | .bl true => .ok (.bl true) e
    | _ => .bad
def teand : List Ex → Env → Res Bool
  | [], _ => .bad
  | [x], env => te x env
  | x :: xs, env => (te x env).bind fun t e => if t then teand xs e else .ok false e
def teor : List Ex → Env → Res Bool
  | [], _ => .bad
  | [x], env => te x env
  | x :: xs, env => (te x env).bind fun t e => if t then .ok true e else teor xs e
/-- arguments of a call, ms the slots that are lent to be changed -/
def evA (ms : List Nat) : List Ex → Env → Res (List Slot)
  | [], env => .ok [] env
  | .mt i :: r, env => if (getS env i).isNone then .bad else (evA ms r env).bind fun ss e => match e[i]? with
    | some (.me d) => .ok (.mp d :: ss) e
    | some (.mp d) => .ok (.mp d :: ss) e
    | _ => .bad
  | .brv i :: r, env => if (getS env i).isNone then .bad else (evA ms r env).bind fun ss e => if ms.contains i then .bad else match getS e i with
    | some d => .ok (.br d :: ss) e
    | none => .bad
  | .q x :: r, env => match qv G x env with
    | some d => if d.stb || (ms.isEmpty && quiets r) then (evA ms r env).bind fun ss e => .ok (.br d :: ss) e else .bad
    | none => .bad
  | x :: r, env => (ev x env).bind fun d e => (evA ms r e).bind fun ss e => .ok (.br d :: ss) e
/-- what a loop walks: the items, the slots to be locked -/
def src : Src → Env → Res (List D × List Nat)
  | .rng none (some b) none, env => (lk b true env).bind fun y e => match y with
    | .int j => Res.of ((rangeD 0 j).map fun ds => (ds, [])) e
    | _ => .bad
  | .rng (some a) (some b) none, env => (lk a true env).bind fun x e => (lk b true e).bind fun y e => match x, y with
    | .int i, .int j => Res.of ((rangeD i j).map fun ds => (ds, [])) e
    | _, _ => .bad
  | .rng _ _ _, _ => .bad
  | .itq x, env => match qv G x env with
    | some d => Res.of ((items? d).map fun ds => (ds, roots x)) env
    | none => .bad
  | .itv x, env => (ev x env).bind fun d e => Res.of ((items? d.froz).map fun ds => (ds, [])) e
  | .enq x, env => match qv G x env with
    | some d => Res.of ((items? d).map fun ds => (enumD ds, roots x)) env
    | none => .bad
  | .env x, env => (ev x env).bind fun d e => Res.of ((items? d.froz).map fun ds => (enumD ds, [])) e
  | .zipq xs, env => match qvs G xs env with
    | some ds => Res.of ((itemss? ds).bind fun l => if l.all stbs then some (zipD l, rootss xs) else none) env
    | none => .bad
  | .revq x, env => match qv G x env with
    | some d => Res.of ((items? d).map fun ds => (ds.reverse, roots x)) env
    | none => .bad
end

def noLk (env : Env) : List Nat → Bool
  | [] => true
  | i :: is => (match env[i]? with | some (.lk _) => false | _ => true) && noLk env is
/-! ### statements -/
inductive SR where
  | nx (e : Env) | bk (e : Env) | ct (e : Env) | rt (d : D) (e : Env) | ex (c : String) (ds : List D) (e : Env) | bad
def SR.then (r : SR) (f : Env → SR) : SR := match r with
  | .nx e => f e
  | r => r
def Res.st {α : Type} (r : Res α) (f : α → Env → SR) : SR := match r with
  | .ok a e => f a e
  | .ex c ds e => .ex c ds e
  | .bad => .bad
def SR.mapE (r : SR) (f : Env → Env) : SR := match r with
  | .nx e => .nx (f e) | .bk e => .bk (f e) | .ct e => .ct (f e) | .rt d e => .rt d (f e) | .ex c ds e => .ex c ds (f e) | .bad => .bad
/-- a suite lets nothing out -/
def noEx : SR → SR
  | .ex _ _ _ => .bad
  | r => r
def SR.of (o : Option Env) : SR := match o with
  | some e => .nx e
  | none => .bad
def forL (f : D → Env → SR) : List D → Env → SR
  | [], env => .nx env
  | x :: xs, env => match f x env with
    | .nx e => forL f xs e
    | .ct e => forL f xs e
    | .bk e => .nx e
    | r => r
def whileL (t : Env → Res Bool) (b : Env → SR) : Nat → Env → SR
  | 0, _ => .bad
  | n + 1, env => (t env).st fun c e => if c then (match b e with
    | .nx e => whileL t b n e
    | .ct e => whileL t b n e
    | .bk e => .nx e
    | r => r) else .nx e
/-- names of an exception class's fields -/
def catches (mro : String → List String) (c : String) : List String → Bool
  | [] => false
  | t :: ts => (mro c).contains t || catches mro c ts
end
section
variable (G : Cfg)
def hotG : Cfg := { G with hot := true }
mutual
def exec : Bool → St → Env → SR
  | h, .asg p e, env => (ev (if h then hotG G else G) e env).st fun d e => SR.of (asgP p d e)
  | h, .setI x path i e, env => if !path.isEmpty && !isQ e then .bad else
    (ev (if h then hotG G else G) e env).st fun d e => match pels (if h then hotG G else G) e path, qv (if h then hotG G else G) i e with
      | some p, some k => match updS e x p (fun o => (setD o k d).map fun o' => (.non, o')) with
        | some (_, e') => .nx e'
        | none => .bad
      | _, _ => .bad
  | h, .augV x op e, env => match env[x]? with
    | some (.me (.int i)) => (ev (if h then hotG G else G) e env).st fun d e => match binD op (.int i) d with
      | some r => SR.of (setS e x r)
      | none => .bad
    | _ => .bad
  | h, .augI x path i op e, env => if !isQ e then .bad else
    (ev (if h then hotG G else G) e env).st fun d e => match pels (if h then hotG G else G) e path, qv (if h then hotG G else G) i e with
      | some p, some k => match updS e x p (fun o => (idxD o k).bind fun v => (binD op v d).bind fun r => if r.isI then (setL o k r).map fun o' => (.non, o') else none) with
        | some (_, e') => .nx e'
        | none => .bad
      | _, _ => .bad
  | h, .setA x f e, env => (ev (if h then hotG G else G) e env).st fun d e => match updS e x [] (fun o => match o with
      | .obj .own c ns vs => if (G.fl c).contains f && (G.pl.contains c && decide (ns.length < 1000)) then let q := putFld ns vs f d; some (.non, .obj .own c q.1 q.2) else none
      | _ => none) with
    | some (_, e') => .nx e'
    | none => .bad
  | h, .expr e, env => (ev (if h then hotG G else G) e env).st fun _ e => .nx e
  | h, .ret e, env => (ev (if h then hotG G else G) e env).st fun d e => .rt d e
  | _, .retN, env => .rt .non env
  | h, .ifS c a b, env => (te (if h then hotG G else G) c env).st fun t e => if t then execs h a e else execs h b e
  | h, .whil c b, env => if h then .bad else whileL (te G c) (execs h b) G.wf env
  | h, .forS p s b, env => if h then .bad else
    (src G s env).st fun (is, rs) e0 => if !noLk e0 (patV p) then .bad else
      (forL (fun x e => match bindP p x e with
        | some e => execs h b e
        | none => .bad) is (lock e0 rs)).mapE fun e => unlock e0 (clearP e (patV p)) rs
  | _, .brk, env => .bk env
  | _, .cnt, env => .ct env
  | _, .pas, env => .nx env
  | _, .bad, _ => .bad
  | h, .rais c es, env => if h then .bad else (evs G es env).st fun ds e => if (G.fl c).length = ds.length then .ex c (frozs ds).reverse e else .bad
  | h, .raisN c es, env => if h then (evs (hotG G) es env).st fun ds e => .ex c (frozs ds).reverse e else .bad
  | h, .tryS b hs, env => if h then .bad else match execs h b env with
    | .ex c ds e => handle hs c ds e
    | r => r
def execs : Bool → List St → Env → SR
  | _, [], env => .nx env
  | h, s :: ss, env => (exec h s env).then fun e => execs h ss e
def handle : List Hd → String → List D → Env → SR
  | [], c, ds, env => .ex c ds env
  | .mk cs n b :: hs, c, ds, env => if !G.ec.contains c then .bad else if catches G.mro c cs then
      match n with
      | none => noEx (execs true b env)
      | some i => match env[i]? with
        | some (.lk _) => .bad
        | some (.mp _) => .bad
        | some _ => (noEx (execs true b (env.set i (.xc c (G.fl c) ds)))).mapE fun e => e.set i .no
        | none => .bad
    else handle hs c ds env
end
end

/-! ### defs -/
structure Fn where
  np : Nat
  nv : Nat
  ps : List String
  body : List St
def outs : List Slot → Env → Option (List D)
  | [], _ => some []
  | .mp _ :: as, .mp d :: env => (outs as env).map (d :: ·)
  | .mp _ :: _, _ => none
  | _ :: as, _ :: env => outs as env
  | _ :: _, [] => none
def isArg : Slot → Bool
  | .mp _ => true
  | .br _ => true
  | _ => false
def runFn (G : Cfg) (fn : Fn) (as : List Slot) : CRes :=
  if as.length = fn.np ∧ as.all isArg = true then
    match execs G false fn.body (as ++ List.replicate (fn.nv - fn.np) .no) with
    | .nx e => match outs as e with | some o => .ok .non o | none => .bad
    | .rt d e => match outs as e with | some o => .ok d o | none => .bad
    | .ex c ds e => match outs as e with | some o => .ex c ds o | none => .bad
    | _ => .bad
  else .bad
structure Prog where
  fns : String → Option Fn
  gl : String → Option D
  mro : String → List String
  fl : Flds
  pl : List String
  ec : List String
  gf : List String
  kws : List (String × Nat × List String)
  wf : Nat
def cfg (P : Prog) (cf : String → List Slot → CRes) : Cfg := { cf := cf, gl := P.gl, mro := P.mro, fl := P.fl, pl := P.pl, ec := P.ec, gf := P.gf, kws := P.kws, wf := P.wf, pn := fun f => match P.fns f with
  | some fn => fn.ps
  | none => [] }
def callN (P : Prog) : Nat → String → List Slot → CRes
  | 0, _, _ => .bad
  | n + 1, f, ss => match P.fns f with
    | some fn => runFn (cfg P (callN P n)) fn ss
    | none => .bad
end Wv

set_option Elab.async false
set_option linter.all false
set_option maxRecDepth 100000
/-! Wv2: how values stand in the abstract heap; what changes and what stays. -/
namespace Wv
open PySem PySem.Spec PyProof.Rows L2

abbrev Sets := Addr → Prop
def E0s : Sets := fun _ => False

/-- a list that the written part holds -/
def KLit (K : PySem.W.Frag) (a : Addr) (vs : List V) : Prop := ∃ (o : Obj) (its : Array Value) (n : Nat), K.lookup a = some o ∧ o.cls = .type "list" ∧ o.dict = none ∧ o.data = .seq its n ∧ its.size ≤ sizeLine ∧ Vals vs its.toList
section
variable (K : PySem.W.Frag) (cl : String → Addr) (F : Sets) (H : Hp)
mutual
/-- the value d stands as v; fp has the nodes that it owns -/
def Rp : D → V → Sets → Prop
  | .non, v, _ => v = .non
  | .bl b, v, _ => v = .bl b
  | .int i, v, _ => v = .int i
  | .str s, v, _ => v = .str s
  | .tup ds, v, fp => ∃ a vs, v = .ref a ∧ SqT K H a vs ∧ Rps ds vs fp
  | .lst .own ds, v, fp => ∃ a vs f, v = .ref a ∧ H a = some (.lst vs) ∧ fp a ∧ ¬ f a ∧ (∀ b, f b → fp b) ∧ Rps ds vs f
  | .lst .fro ds, v, _ => ∃ a vs, v = .ref a ∧ F a ∧ H a = some (.lst vs) ∧ Rps ds vs E0s
  | .lst .scr ds, v, _ => ∃ a vs, v = .ref a ∧ ((F a ∧ Rd H a (.lst vs)) ∨ KLit K a vs) ∧ Rps ds vs E0s
  | .obj .own c ns ds, v, fp => ∃ a dx vs f, v = .ref a ∧ H a = some (.ins (cl c) dx ((ns.map Str.ofString).zip vs)) ∧ ns.length = ds.length ∧ fp a ∧ ¬ f a ∧ (∀ b, f b → fp b) ∧ Rps ds vs f
  | .obj .fro c ns ds, v, _ => ∃ a dx vs, v = .ref a ∧ F a ∧ H a = some (.ins (cl c) dx ((ns.map Str.ofString).zip vs)) ∧ ns.length = ds.length ∧ Rps ds vs E0s
  | .obj .scr _ _ _, _, _ => False
  | .iset .own xs, v, fp => ∃ (a : Addr) (S : Int → Bool), v = .ref a ∧ H a = some (.set S xs.length) ∧ fp a ∧ xs.Pairwise (· < ·) ∧ ∀ k, S k = decide (k ∈ xs)
  | .iset .fro xs, v, _ => ∃ (a : Addr) (S : Int → Bool), v = .ref a ∧ F a ∧ H a = some (.set S xs.length) ∧ xs.Pairwise (· < ·) ∧ ∀ k, S k = decide (k ∈ xs)
  | .iset .scr _, _, _ => False
  | .dic .own ks ds, v, fp => ∃ (a : Addr) (kvs : List (Key × V)) (is : List Int), v = .ref a ∧ H a = some (.dK kvs) ∧ fp a ∧ ks = is.map D.int ∧ kvs.map (·.1) = is.map Sum.inl ∧ Rps ds (kvs.map (·.2)) E0s
  | .dic .fro ks ds, v, _ => ∃ (a : Addr) (kvs : List (Key × V)) (is : List Int), v = .ref a ∧ F a ∧ H a = some (.dK kvs) ∧ ks = is.map D.int ∧ kvs.map (·.1) = is.map Sum.inl ∧ Rps ds (kvs.map (·.2)) E0s
  | .dic .scr _ _, _, _ => False
def Rps : List D → List V → Sets → Prop
  | [], vs, _ => vs = []
  | d :: ds, vs, fp => ∃ v r f g, vs = v :: r ∧ Rp d v f ∧ Rps ds r g ∧ (∀ a, f a → g a → False) ∧ (∀ a, f a → fp a) ∧ (∀ a, g a → fp a)
end
end

section
variable {K : PySem.W.Frag} {cl : String → Addr} {F F' : Sets} {H H' : Hp}

mutual
theorem Rp.mono : ∀ {d : D} {v : V} {f g : Sets}, Rp K cl F H d v f → (∀ a, f a → g a) → Rp K cl F H d v g
  | .non, _, _, _, h, _ => h
  | .bl _, _, _, _, h, _ => h
  | .int _, _, _, _, h, _ => h
  | .str _, _, _, _, h, _ => h
  | .tup ds, v, f, g, h, m => by
    simp only [Rp] at h ⊢
    obtain ⟨a, vs, e, s, r⟩ := h
    exact ⟨a, vs, e, s, Rps.mono r m⟩
  | .lst .own ds, v, f, g, h, m => by
    simp only [Rp] at h ⊢
    obtain ⟨a, vs, k, e, s, h1, h2, h3, r⟩ := h
    exact ⟨a, vs, k, e, s, m _ h1, h2, fun b z => m _ (h3 b z), r⟩
  | .lst .fro ds, v, f, g, h, m => by simp only [Rp] at h ⊢; exact h
  | .lst .scr ds, v, f, g, h, m => by simp only [Rp] at h ⊢; exact h
  | .obj .own c ns ds, v, f, g, h, m => by
    simp only [Rp] at h ⊢
    obtain ⟨a, dx, vs, k, e, s, l, h1, h2, h3, r⟩ := h
    exact ⟨a, dx, vs, k, e, s, l, m _ h1, h2, fun b z => m _ (h3 b z), r⟩
  | .obj .fro c ns ds, v, f, g, h, m => by simp only [Rp] at h ⊢; exact h
  | .obj .scr c ns ds, v, f, g, h, m => by simp only [Rp] at h
  | .iset .own xs, v, f, g, h, m => by
    simp only [Rp] at h ⊢
    obtain ⟨a, S, e, s, h1, h2⟩ := h
    exact ⟨a, S, e, s, m _ h1, h2⟩
  | .iset .fro xs, _, _, _, h, _ => by simp only [Rp] at h ⊢; exact h
  | .iset .scr xs, _, _, _, h, _ => by simp only [Rp] at h
  | .dic .own ks ds, v, f, g, h, m => by
    simp only [Rp] at h ⊢
    obtain ⟨a, kvs, is, e, s, h1, h2⟩ := h
    exact ⟨a, kvs, is, e, s, m _ h1, h2⟩
  | .dic .fro ks ds, _, _, _, h, _ => by simp only [Rp] at h ⊢; exact h
  | .dic .scr ks ds, _, _, _, h, _ => by simp only [Rp] at h
theorem Rps.mono : ∀ {ds : List D} {vs : List V} {f g : Sets}, Rps K cl F H ds vs f → (∀ a, f a → g a) → Rps K cl F H ds vs g
  | [], _, _, _, h, _ => by simp only [Rps] at h ⊢; exact h
  | d :: ds, vs, f, g, h, m => by
    simp only [Rps] at h ⊢
    obtain ⟨v, r, p, q, e, h1, h2, h3, h4, h5⟩ := h
    exact ⟨v, r, p, q, e, h1, h2, h3, fun a z => m _ (h4 a z), fun a z => m _ (h5 a z)⟩
end

/-- what stays: the frozen, the given set's, all that can't change -/
structure Kp (F : Sets) (H : Hp) (S : Sets) (F' : Sets) (H' : Hp) : Prop where
  fro : ∀ a, F a → F' a
  keep : ∀ a o, H a = some o → (F a ∨ S a ∨ ¬ Mut (some o)) → H' a = some o
theorem Kp.sub {S T : Sets} (k : Kp F H S F' H') (h : ∀ a, T a → S a) : Kp F H T F' H' :=
  ⟨k.fro, fun a o e z => k.keep a o e (z.elim .inl fun z => z.elim (fun z => .inr (.inl (h a z))) fun z => .inr (.inr z))⟩
theorem Kp.rd {S : Sets} (k : Kp F H S F' H') {a : Addr} {u : HO} (h : Rd H a u) (nm : ¬ Mut (some u)) : Rd H' a u := by
  rcases h with h | ⟨o, h⟩
  · exact .inl (k.keep a _ h (.inr (.inr nm)))
  · exact .inr ⟨o, k.keep a _ h (.inr (.inr fun z => z))⟩
theorem Kp.sqT {S : Sets} (k : Kp F H S F' H') {a : Addr} {vs : List V} (h : SqT K H a vs) : SqT K H' a vs := by
  rcases h with h | h
  · exact .inl (k.rd h fun z => z)
  · exact .inr h

mutual
theorem Rp.kp : ∀ {d : D} {v : V} {f : Sets}, Rp K cl F H d v f → Kp F H f F' H' → Rp K cl F' H' d v f
  | .non, _, _, h, _ => h
  | .bl _, _, _, h, _ => h
  | .int _, _, _, h, _ => h
  | .str _, _, _, h, _ => h
  | .tup ds, v, f, h, k => by
    simp only [Rp] at h ⊢
    obtain ⟨a, vs, e, s, r⟩ := h
    exact ⟨a, vs, e, k.sqT s, Rps.kp r k⟩
  | .lst .own ds, v, f, h, k => by
    simp only [Rp] at h ⊢
    obtain ⟨a, vs, g, e, s, h1, h2, h3, r⟩ := h
    exact ⟨a, vs, g, e, k.keep a _ s (.inr (.inl h1)), h1, h2, h3, Rps.kp r (k.sub h3)⟩
  | .lst .fro ds, v, f, h, k => by
    simp only [Rp] at h ⊢
    obtain ⟨a, vs, e, h1, s, r⟩ := h
    exact ⟨a, vs, e, k.fro a h1, k.keep a _ s (.inl h1), Rps.kp r (k.sub fun _ z => z.elim)⟩
  | .lst .scr ds, v, f, h, k => by
    simp only [Rp] at h ⊢
    obtain ⟨a, vs, e, s, r⟩ := h
    refine ⟨a, vs, e, ?_, Rps.kp r (k.sub fun _ z => z.elim)⟩
    rcases s with ⟨h1, s⟩ | s
    · refine .inl ⟨k.fro a h1, ?_⟩
      rcases s with s | ⟨o, s⟩
      · exact .inl (k.keep a _ s (.inl h1))
      · exact .inr ⟨o, k.keep a _ s (.inl h1)⟩
    · exact .inr s
  | .obj .own c ns ds, v, f, h, k => by
    simp only [Rp] at h ⊢
    obtain ⟨a, dx, vs, g, e, s, l, h1, h2, h3, r⟩ := h
    exact ⟨a, dx, vs, g, e, k.keep a _ s (.inr (.inl h1)), l, h1, h2, h3, Rps.kp r (k.sub h3)⟩
  | .obj .fro c ns ds, v, f, h, k => by
    simp only [Rp] at h ⊢
    obtain ⟨a, dx, vs, e, h1, s, l, r⟩ := h
    exact ⟨a, dx, vs, e, k.fro a h1, k.keep a _ s (.inl h1), l, Rps.kp r (k.sub fun _ z => z.elim)⟩
  | .obj .scr c ns ds, v, f, h, k => by simp only [Rp] at h
  | .iset .own xs, v, f, h, k => by
    simp only [Rp] at h ⊢
    obtain ⟨a, S, e, s, h1, h2⟩ := h
    exact ⟨a, S, e, k.keep a _ s (.inr (.inl h1)), h1, h2⟩
  | .iset .fro xs, v, f, h, k => by
    simp only [Rp] at h ⊢
    obtain ⟨a, S, e, h1, s, h2⟩ := h
    exact ⟨a, S, e, k.fro a h1, k.keep a _ s (.inl h1), h2⟩
  | .iset .scr xs, _, _, h, _ => by simp only [Rp] at h
  | .dic .own ks ds, v, f, h, k => by
    simp only [Rp] at h ⊢
    obtain ⟨a, kvs, is, e, s, h1, h2, h3, r⟩ := h
    exact ⟨a, kvs, is, e, k.keep a _ s (.inr (.inl h1)), h1, h2, h3, Rps.kp r (k.sub fun _ z => z.elim)⟩
  | .dic .fro ks ds, v, f, h, k => by
    simp only [Rp] at h ⊢
    obtain ⟨a, kvs, is, e, h1, s, h2, h3, r⟩ := h
    exact ⟨a, kvs, is, e, k.fro a h1, k.keep a _ s (.inl h1), h2, h3, Rps.kp r (k.sub fun _ z => z.elim)⟩
  | .dic .scr ks ds, _, _, h, _ => by simp only [Rp] at h
theorem Rps.kp : ∀ {ds : List D} {vs : List V} {f : Sets}, Rps K cl F H ds vs f → Kp F H f F' H' → Rps K cl F' H' ds vs f
  | [], _, _, h, _ => by simp only [Rps] at h ⊢; exact h
  | d :: ds, vs, f, h, k => by
    simp only [Rps] at h ⊢
    obtain ⟨v, r, p, q, e, h1, h2, h3, h4, h5⟩ := h
    exact ⟨v, r, p, q, e, Rp.kp h1 (k.sub h4), Rps.kp h2 (k.sub h5), h3, h4, h5⟩
end

mutual
/-- a value whose nodes are all frozen owns nothing -/
theorem Rp.stb : ∀ {d : D} {v : V} {f g : Sets}, Rp K cl F H d v f → d.stb = true → Rp K cl F H d v g
  | .non, _, _, _, h, _ => h
  | .bl _, _, _, _, h, _ => h
  | .int _, _, _, _, h, _ => h
  | .str _, _, _, _, h, _ => h
  | .tup ds, v, f, g, h, m => by
    simp only [Rp] at h ⊢
    obtain ⟨a, vs, e, s, r⟩ := h
    exact ⟨a, vs, e, s, Rps.stb r (by simpa only [D.stb] using m)⟩
  | .lst .own ds, v, f, g, h, m => by simp [D.stb] at m
  | .lst .fro ds, v, f, g, h, m => by simp only [Rp] at h ⊢; exact h
  | .lst .scr ds, v, f, g, h, m => by simp only [Rp] at h ⊢; exact h
  | .obj .own c ns ds, v, f, g, h, m => by simp [D.stb] at m
  | .obj .fro c ns ds, v, f, g, h, m => by simp only [Rp] at h ⊢; exact h
  | .obj .scr c ns ds, v, f, g, h, m => by simp only [Rp] at h
  | .iset .own xs, v, f, g, h, m => by simp [D.stb] at m
  | .iset .fro xs, v, f, g, h, m => by simp only [Rp] at h ⊢; exact h
  | .iset .scr xs, _, _, _, h, _ => by simp only [Rp] at h
  | .dic .own ks ds, v, f, g, h, m => by simp [D.stb] at m
  | .dic .fro ks ds, v, f, g, h, m => by simp only [Rp] at h ⊢; exact h
  | .dic .scr ks ds, _, _, _, h, _ => by simp only [Rp] at h
theorem Rps.stb : ∀ {ds : List D} {vs : List V} {f g : Sets}, Rps K cl F H ds vs f → stbs ds = true → Rps K cl F H ds vs g
  | [], _, _, _, h, _ => by simp only [Rps] at h ⊢; exact h
  | d :: ds, vs, f, g, h, m => by
    simp only [Rps] at h ⊢
    simp only [stbs, Bool.and_eq_true] at m
    obtain ⟨v, r, p, q, e, h1, h2, h3, h4, h5⟩ := h
    exact ⟨v, r, E0s, E0s, e, Rp.stb h1 m.1, Rps.stb h2 m.2, fun _ z => z.elim, fun _ z => z.elim, fun _ z => z.elim⟩
end

mutual
/-- its nodes are frozen -/
theorem Rp.froz : ∀ {d : D} {v : V} {f g : Sets}, Rp K cl F H d v f → (∀ a, f a → F' a) → (∀ a, F a → F' a) → Rp K cl F' H d.froz v g
  | .non, _, _, _, h, _, _ => h
  | .bl _, _, _, _, h, _, _ => h
  | .int _, _, _, _, h, _, _ => h
  | .str _, _, _, _, h, _, _ => h
  | .tup ds, v, f, g, h, m, n => by
    simp only [Rp, D.froz] at h ⊢
    obtain ⟨a, vs, e, s, r⟩ := h
    exact ⟨a, vs, e, s, Rps.froz r m n⟩
  | .lst .own ds, v, f, g, h, m, n => by
    simp only [Rp, D.froz] at h ⊢
    obtain ⟨a, vs, k, e, s, h1, h2, h3, r⟩ := h
    exact ⟨a, vs, e, m _ h1, s, Rps.froz r (fun b z => m _ (h3 b z)) n⟩
  | .lst .fro ds, v, f, g, h, m, n => by
    simp only [Rp, D.froz] at h ⊢
    obtain ⟨a, vs, e, h1, s, r⟩ := h
    exact ⟨a, vs, e, n _ h1, s, Rps.froz r (fun b z => z.elim) n⟩
  | .lst .scr ds, v, f, g, h, m, n => by
    simp only [Rp, D.froz] at h ⊢
    obtain ⟨a, vs, e, s, r⟩ := h
    exact ⟨a, vs, e, s.imp (fun z => ⟨n _ z.1, z.2⟩) id, Rps.kp r ⟨n, fun b o e z => e⟩⟩
  | .obj .own c ns ds, v, f, g, h, m, n => by
    simp only [Rp, D.froz] at h ⊢
    obtain ⟨a, dx, vs, k, e, s, l, h1, h2, h3, r⟩ := h
    exact ⟨a, dx, vs, e, m _ h1, s, by rw [frozs_length]; exact l, Rps.froz r (fun b z => m _ (h3 b z)) n⟩
  | .obj .fro c ns ds, v, f, g, h, m, n => by
    simp only [Rp, D.froz] at h ⊢
    obtain ⟨a, dx, vs, e, h1, s, l, r⟩ := h
    exact ⟨a, dx, vs, e, n _ h1, s, by rw [frozs_length]; exact l, Rps.froz r (fun b z => z.elim) n⟩
  | .obj .scr c ns ds, v, f, g, h, m, n => by simp only [Rp] at h
  | .iset .own xs, v, f, g, h, m, n => by
    simp only [Rp, D.froz] at h ⊢
    obtain ⟨a, S, e, s, h1, h2⟩ := h
    exact ⟨a, S, e, m _ h1, s, h2⟩
  | .iset .fro xs, v, f, g, h, m, n => by
    simp only [Rp, D.froz] at h ⊢
    obtain ⟨a, S, e, h1, s, h2⟩ := h
    exact ⟨a, S, e, n _ h1, s, h2⟩
  | .iset .scr xs, _, _, _, h, _, _ => by simp only [Rp] at h
  | .dic .own ks ds, v, f, g, h, m, n => by
    simp only [Rp, D.froz] at h ⊢
    obtain ⟨a, kvs, is, e, s, h1, h2, h3, r⟩ := h
    exact ⟨a, kvs, is, e, m _ h1, s, h2, h3, Rps.froz r (fun b z => z.elim) n⟩
  | .dic .fro ks ds, v, f, g, h, m, n => by
    simp only [Rp, D.froz] at h ⊢
    obtain ⟨a, kvs, is, e, h1, s, h2, h3, r⟩ := h
    exact ⟨a, kvs, is, e, n _ h1, s, h2, h3, Rps.froz r (fun b z => z.elim) n⟩
  | .dic .scr ks ds, _, _, _, h, _, _ => by simp only [Rp] at h
theorem Rps.froz : ∀ {ds : List D} {vs : List V} {f g : Sets}, Rps K cl F H ds vs f → (∀ a, f a → F' a) → (∀ a, F a → F' a) → Rps K cl F' H (frozs ds) vs g
  | [], _, _, _, h, _, _ => by simp only [Rps, frozs] at h ⊢; exact h
  | d :: ds, vs, f, g, h, m, n => by
    simp only [Rps, frozs] at h ⊢
    obtain ⟨v, r, p, q, e, h1, h2, h3, h4, h5⟩ := h
    exact ⟨v, r, E0s, E0s, e, Rp.froz h1 (fun a z => m _ (h4 a z)) n, Rps.froz h2 (fun a z => m _ (h5 a z)) n, fun _ z => z.elim, fun _ z => z.elim, fun _ z => z.elim⟩
theorem frozs_length : ∀ ds : List D, (frozs ds).length = ds.length
  | [] => by simp only [frozs]
  | d :: ds => by simp only [frozs, List.length_cons, frozs_length ds]
end
theorem Rps.length : ∀ {ds : List D} {vs : List V} {f : Sets}, Rps K cl F H ds vs f → ds.length = vs.length
  | [], _, _, h => by simp only [Rps] at h; subst h; rfl
  | d :: ds, vs, f, h => by
    simp only [Rps] at h
    obtain ⟨v, r, p, q, e, h1, h2, h3, h4, h5⟩ := h
    subst e
    simp only [List.length_cons, Rps.length h2]
/-- the item at a place -/
theorem Rps.get : ∀ {ds : List D} {vs : List V} {f : Sets} {i : Nat} {d : D}, Rps K cl F H ds vs f → ds[i]? = some d → ∃ v, vs[i]? = some v ∧ Rp K cl F H d v f
  | [], _, _, _, _, _, e => by simp at e
  | d :: ds, vs, f, 0, x, h, e => by
    simp only [Rps] at h
    obtain ⟨v, r, p, q, rfl, h1, h2, h3, h4, h5⟩ := h
    simp at e; subst e
    exact ⟨v, rfl, h1.mono h4⟩
  | d :: ds, vs, f, i + 1, x, h, e => by
    simp only [Rps] at h
    obtain ⟨v, r, p, q, rfl, h1, h2, h3, h4, h5⟩ := h
    obtain ⟨u, e1, e2⟩ := Rps.get (i := i) h2 (by simpa using e)
    exact ⟨u, by simpa using e1, e2.mono h5⟩
theorem Rps.cons {d : D} {v : V} {ds : List D} {vs : List V} {f g h : Sets} (h1 : Rp K cl F H d v f) (h2 : Rps K cl F H ds vs g) (s : ∀ a, f a → g a → False) (hf : ∀ a, f a → h a) (hg : ∀ a, g a → h a) : Rps K cl F H (d :: ds) (v :: vs) h := by
  simp only [Rps]
  exact ⟨v, vs, f, g, rfl, h1, h2, s, hf, hg⟩
theorem Rps.append : ∀ {ds es : List D} {vs ws : List V} {f g h : Sets}, Rps K cl F H ds vs f → Rps K cl F H es ws g → (∀ a, f a → g a → False) → (∀ a, f a → h a) → (∀ a, g a → h a) → Rps K cl F H (ds ++ es) (vs ++ ws) h
  | [], es, vs, ws, f, g, h, h1, h2, _, _, hg => by
    simp only [Rps] at h1
    subst h1
    exact h2.mono hg
  | d :: ds, es, vs, ws, f, g, h, h1, h2, s, hf, hg => by
    simp only [Rps] at h1
    obtain ⟨v, r, p, q, rfl, k1, k2, k3, k4, k5⟩ := h1
    refine Rps.cons (f := p) (g := fun a => q a ∨ g a) k1 (Rps.append k2 h2 (fun a x y => s a (k5 a x) y) (fun a z => .inl z) fun a z => .inr z) (fun a x y => ?_) (fun a z => hf a (k4 a z)) (fun a z => ?_)
    · rcases y with y | y
      · exact k3 a x y
      · exact s a (k4 a x) y
    · rcases z with z | z
      · exact hf a (k5 a z)
      · exact hg a z
/-- lists of stable things, item by item -/
theorem Rps.of_stb : ∀ {ds : List D} {vs : List V} {f : Sets}, ds.length = vs.length → (∀ (i : Nat) (d : D) (v : V), ds[i]? = some d → vs[i]? = some v → Rp K cl F H d v E0s) → Rps K cl F H ds vs f
  | [], vs, _, l, _ => by
    simp only [Rps]
    exact List.eq_nil_of_length_eq_zero (by simpa using l.symm)
  | d :: ds, [], _, l, _ => by simp at l
  | d :: ds, v :: vs, f, l, h => Rps.cons (f := E0s) (g := E0s) (h 0 d v rfl rfl) (Rps.of_stb (by simpa using l) fun i d' v' e1 e2 => h (i + 1) d' v' (by simpa using e1) (by simpa using e2)) (fun _ z => z.elim) (fun _ z => z.elim) fun _ z => z.elim
end

/-! ### the state of a frame -/
/-- what is fixed for now: the exceptions caught, the values of slots that nobody sets -/
structure Fx where
  x : Nat → Addr → String → Addr → Prop
  p : Nat → Option V
  l : Nat → Option V
  v : Nat → Sets
section
variable (K : PySem.W.Frag) (cl : String → Addr) (fx : Fx)
structure RS (F L : Sets) (H : Hp) (σ : L2.St) (env : Env) (A : Nat → Sets) : Prop where
  len : σ.length = env.length
  me : ∀ (i : Nat) (d : D), env[i]? = some (.me d) → ∃ v, σ[i]? = some (some v) ∧ Rp K cl F H d v (A i)
  mp : ∀ (i : Nat) (d : D), env[i]? = some (.mp d) → ∃ v, σ[i]? = some (some v) ∧ Rp K cl F H d v (A i) ∧ fx.p i = some v
  vw : ∀ (i : Nat) (d : D), env[i]? = some (.br d) → ∃ v f, σ[i]? = some (some v) ∧ Rp K cl F H d v f ∧ ∀ a, f a → fx.v i a
  lk : ∀ (i : Nat) (d : D), env[i]? = some (.lk d) → ∃ v f, σ[i]? = some (some v) ∧ Rp K cl F H d v f ∧ (∀ a, f a → fx.v i a) ∧ fx.l i = some v
  xc : ∀ (i : Nat) (c : String) (ns : List String) (ds : List D), env[i]? = some (.xc c ns ds) → ∃ a dx vs, σ[i]? = some (some (.ref a)) ∧ fx.x i a c dx ∧ H dx = some (.xd ((ns.map Str.ofString).zip vs)) ∧ ns.length = ds.length ∧ Rps K cl F H ds vs E0s
  sep : ∀ (i j : Nat) (a : Addr), i ≠ j → A i a → A j a → False
  own : ∀ (i : Nat) (a : Addr), A i a → ¬ F a ∧ ¬ L a ∧ Mut (H a)
  dom : ∀ a, F a ∨ L a → H a ≠ none
  vl : ∀ i a, fx.v i a → L a
end
def Un (A : Nat → Sets) : Sets := fun a => ∃ i, A i a

/-- only new things -/
structure Gr (F : Sets) (H : Hp) (F' : Sets) (H' : Hp) : Prop where
  fro : ∀ a, F a → F' a
  new : ∀ a, F' a → F a ∨ H a = none
  keep : ∀ a o, H a = some o → H' a = some o
  dom : ∀ a, F' a → F a ∨ H' a ≠ none
theorem Gr.refl {F : Sets} {H : Hp} : Gr F H F H := ⟨fun _ z => z, fun _ z => .inl z, fun _ _ z => z, fun _ z => .inl z⟩
theorem Gr.trans {F F1 F2 : Sets} {H H1 H2 : Hp} (a : Gr F H F1 H1) (b : Gr F1 H1 F2 H2) : Gr F H F2 H2 :=
  ⟨fun x z => b.fro x (a.fro x z), (fun x z => by
    rcases b.new x z with z | z
    · exact a.new x z
    · refine .inr ?_
      cases q : H x with
      | none => rfl
      | some o => rw [a.keep x o q] at z; cases z), fun x o z => b.keep x o (a.keep x o z), (fun x z => by
    rcases b.dom x z with z | z
    · rcases a.dom x z with z | z
      · exact .inl z
      · refine .inr fun e => ?_
        cases q : H1 x with
        | none => exact z q
        | some o => rw [b.keep x o q] at e; cases e
    · exact .inr z)⟩
theorem Gr.kp {F F' : Sets} {H H' : Hp} (g : Gr F H F' H') {S : Sets} : Kp F H S F' H' := ⟨g.fro, fun a o e _ => g.keep a o e⟩
theorem Gr.free {F F' : Sets} {H H' : Hp} (g : Gr F H F' H') {a : Addr} (e : H' a = none) : H a = none := by
  cases q : H a with
  | none => rfl
  | some o => rw [g.keep a o q] at e; cases e
theorem Mut.some {o : Option HO} (m : Mut o) : o ≠ none := by
  intro e; rw [e] at m; exact m
section
variable {K : PySem.W.Frag} {cl : String → Addr} {fx : Fx} {F F' L : Sets} {H H' : Hp} {σ : L2.St} {env : Env} {A : Nat → Sets}
theorem RS.gr (r : RS K cl fx F L H σ env A) (g : Gr F H F' H') : RS K cl fx F' L H' σ env A where
  len := r.len
  me := fun i d e => by
    obtain ⟨v, h1, h2⟩ := r.me i d e
    exact ⟨v, h1, h2.kp g.kp⟩
  mp := fun i d e => by
    obtain ⟨v, h1, h2, h3⟩ := r.mp i d e
    exact ⟨v, h1, h2.kp g.kp, h3⟩
  vw := fun i d e => by
    obtain ⟨v, f, h1, h2, h3⟩ := r.vw i d e
    exact ⟨v, f, h1, h2.kp g.kp, h3⟩
  lk := fun i d e => by
    obtain ⟨v, f, h1, h2, h3, h4⟩ := r.lk i d e
    exact ⟨v, f, h1, h2.kp g.kp, h3, h4⟩
  xc := fun i c ns ds e => by
    obtain ⟨a, dx, vs, h1, h2, h3, h4, h5⟩ := r.xc i c ns ds e
    exact ⟨a, dx, vs, h1, h2, g.keep _ _ h3, h4, h5.kp g.kp⟩
  sep := r.sep
  own := fun i a z => by
    obtain ⟨h1, h2, h3⟩ := r.own i a z
    refine ⟨fun q => ?_, h2, ?_⟩
    · rcases g.new a q with q | q
      · exact h1 q
      · exact Mut.some h3 q
    · cases q : H a with
      | none => exact (Mut.some h3 q).elim
      | some o => rw [g.keep a o q]; rw [q] at h3; exact h3
  dom := fun a z => by
    rcases z with z | z
    · rcases g.dom a z with z | z
      · intro e; exact r.dom a (.inl z) (g.free e)
      · exact z
    · intro e; exact r.dom a (.inr z) (g.free e)
  vl := r.vl
theorem RS.vwL (r : RS K cl fx F L H σ env A) (i : Nat) (d : D) (e : env[i]? = some (.br d)) : ∃ v f, σ[i]? = some (some v) ∧ Rp K cl F H d v f ∧ ∀ a, f a → L a := by
  obtain ⟨v, f, h1, h2, h3⟩ := r.vw i d e
  exact ⟨v, f, h1, h2, fun a z => r.vl i a (h3 a z)⟩
theorem RS.lkL (r : RS K cl fx F L H σ env A) (i : Nat) (d : D) (e : env[i]? = some (.lk d)) : ∃ v f, σ[i]? = some (some v) ∧ Rp K cl F H d v f ∧ (∀ a, f a → L a) ∧ fx.l i = some v := by
  obtain ⟨v, f, h1, h2, h3, h4⟩ := r.lk i d e
  exact ⟨v, f, h1, h2, fun a z => r.vl i a (h3 a z), h4⟩
/-- a new frozen object -/
theorem Gr.alloc {p : Addr} {o : HO} (hp : H p = none) : Gr F H (fun a => F a ∨ a = p) (upd H p o) :=
  ⟨fun _ z => .inl z, (fun a z => by
    rcases z with z | z
    · exact .inl z
    · subst z; exact .inr hp), (fun a u e => by rw [upd_ne (ne_of_none e hp)]; exact e), (fun a z => by
    rcases z with z | z
    · exact .inl z
    · subst z; exact .inr (by rw [upd_same]; intro q; cases q))⟩
/-- a new object that nobody freezes -/
theorem Gr.alloc0 {p : Addr} {o : HO} (hp : H p = none) : Gr F H F (upd H p o) :=
  ⟨fun _ z => z, fun a z => .inl z, (fun a u e => by rw [upd_ne (ne_of_none e hp)]; exact e), fun a z => .inl z⟩
end
end Wv

set_option Elab.async false
set_option linter.all false
set_option maxRecDepth 100000
/-! Wv2b: what effects leave; what calls promise. -/
namespace Wv
open PySem PySem.Spec PyProof.Rows L2

/-- only what the slots own changes -/
structure Ext (F : Sets) (H : Hp) (A : Nat → Sets) (F' : Sets) (H' : Hp) (A' : Nat → Sets) : Prop where
  fro : ∀ a, F a → F' a
  new : ∀ a, F' a → F a ∨ H a = none ∨ Un A a
  own : ∀ a, Un A' a → Un A a ∨ H a = none
  keep : ∀ a o, H a = some o → (¬ Un A a ∨ ¬ Mut (some o)) → H' a = some o
  live : ∀ a, H' a = none → H a = none
section
variable {F F1 F2 F' : Sets} {H H1 H2 H' : Hp} {A A1 A2 A' : Nat → Sets} {L fp S : Sets}
theorem Ext.refl : Ext F H A F H A := ⟨fun _ z => z, fun _ z => .inl z, fun _ z => .inl z, fun _ _ e _ => e, fun _ e => e⟩
theorem Ext.trans (x : Ext F H A F1 H1 A1) (y : Ext F1 H1 A1 F2 H2 A2) : Ext F H A F2 H2 A2 where
  fro := fun a z => y.fro a (x.fro a z)
  new := fun a z => by
    rcases y.new a z with z | z | z
    · exact x.new a z
    · exact .inr (.inl (x.live a z))
    · rcases x.own a z with z | z
      · exact .inr (.inr z)
      · exact .inr (.inl z)
  own := fun a z => by
    rcases y.own a z with z | z
    · exact x.own a z
    · exact .inr (x.live a z)
  keep := fun a o e z => by
    refine y.keep a o (x.keep a o e z) ?_
    rcases z with z | z
    · refine .inl fun u => ?_
      rcases x.own a u with u | u
      · exact z u
      · rw [e] at u; cases u
    · exact .inr z
  live := fun a z => x.live a (y.live a z)
theorem Gr.ext (g : Gr F H F' H') : Ext F H A F' H' A :=
  ⟨g.fro, fun a z => (g.new a z).elim .inl fun z => .inr (.inl z), fun _ z => .inl z, fun a o e _ => g.keep a o e, fun a e => g.free e⟩
theorem Ext.kp (x : Ext F H A F' H' A') (h : ∀ a, F a ∨ S a → ¬ Un A a) : Kp F H S F' H' :=
  ⟨x.fro, fun a o e z => x.keep a o e (by
    rcases z with z | z | z
    · exact .inl (h a (.inl z))
    · exact .inl (h a (.inr z))
    · exact .inr z)⟩
/-- a temporary's nodes -/
def Tp (F L : Sets) (H : Hp) (A : Nat → Sets) (fp : Sets) : Prop := ∀ a, fp a → ¬ F a ∧ ¬ L a ∧ ¬ Un A a ∧ Mut (H a)
/-- .. where they came from -/
def Fr (H : Hp) (A : Nat → Sets) (fp : Sets) : Prop := ∀ a, fp a → H a = none ∨ Un A a
theorem Tp.ext (t : Tp F L H A fp) (x : Ext F H A F' H' A') : Tp F' L H' A' fp := fun a z => by
  obtain ⟨t1, t2, t3, t4⟩ := t a z
  have hn : H a ≠ none := Mut.some t4
  refine ⟨fun u => ?_, t2, fun u => ?_, ?_⟩
  · rcases x.new a u with u | u | u
    · exact t1 u
    · exact hn u
    · exact t3 u
  · rcases x.own a u with u | u
    · exact t3 u
    · exact hn u
  · cases q : H a with
    | none => exact (hn q).elim
    | some o => rw [x.keep a o q (.inl t3)]; rw [q] at t4; exact t4
theorem Fr.ext (f : Fr H1 A1 fp) (x : Ext F H A F1 H1 A1) : Fr H A fp := fun a z => by
  rcases f a z with z | z
  · exact .inl (x.live a z)
  · rcases x.own a z with z | z
    · exact .inr z
    · exact .inl z
theorem Tp.e0 : Tp F L H A E0s := fun _ z => z.elim
theorem Fr.e0 : Fr H A E0s := fun _ z => z.elim
theorem Tp.un (t : Tp F L H A S) (t' : Tp F L H A fp) : Tp F L H A (fun a => S a ∨ fp a) := fun a z => z.elim (t a) (t' a)
theorem Fr.un (t : Fr H A S) (t' : Fr H A fp) : Fr H A (fun a => S a ∨ fp a) := fun a z => z.elim (t a) (t' a)
/-- what came later is apart from what was there -/
theorem Tp.apart (t : Tp F L H A fp) (f : Fr H A S) : ∀ a, fp a → S a → False := fun a z u => by
  obtain ⟨_, _, t3, t4⟩ := t a z
  rcases f a u with u | u
  · exact Mut.some t4 u
  · exact t3 u
end

/-! ### what a def promises -/
def putOuts : List Slot → List D → Option (List Slot)
  | [], [] => some []
  | [], _ :: _ => none
  | .mp _ :: ss, d :: ds => (putOuts ss ds).map (.mp d :: ·)
  | .mp _ :: _, [] => none
  | s :: ss, ds => (putOuts ss ds).map (s :: ·)
def fxa (vs : List V) (L : Sets) : Fx := ⟨fun _ _ _ _ => False, fun i => vs[i]?, fun _ => none, fun _ => L⟩
def crP (K : PySem.W.Frag) (cl : String → Addr) (fl : Flds) (F L : Sets) (H : Hp) (A : Nat → Sets) (vs : List V) (ss : List Slot) (r : CRes) (Q : VK) (E : XK) : Prop := match r with
  | .ok d outs => ∀ v F' A' H' fp ss', Ext F H A F' H' A' → putOuts ss outs = some ss' → RS K cl (fxa vs L) F' L H' (vs.map some) ss' A' → Rp K cl F' H' d v fp → Tp F' L H' A' fp → Fr H A fp → Q v H'
  | .ex c ds outs => ∀ F' A' H' dx ws ss', Ext F H A F' H' A' → putOuts ss outs = some ss' → RS K cl (fxa vs L) F' L H' (vs.map some) ss' A' → H' dx = some (.xd (((fl c).map Str.ofString).zip ws)) → Rps K cl F' H' ds ws E0s → (fl c).length = ds.length → E (.ref (cl c)) (some dx) H'
  | .bad => False
def spF (K : PySem.W.Frag) (cl : String → Addr) (fl : Flds) (cf : List Slot → CRes) : Sp := fun vs H Q E => ∃ F L ss A, RS K cl (fxa vs L) F L H (vs.map some) ss A ∧ crP K cl fl F L H A vs ss (cf ss) Q E
/-- an exception class's own __init__ -/
def spX (C : Addr) (fl : List String) : Sp := fun vs H Q _ => ∃ a ys, vs = .ref a :: ys ∧ ys.length = fl.length ∧ H a = some (exo a C none) ∧
  ∀ H2 dx, H dx = none → dx ≠ a → H2 a = some (exo a C (some dx)) → H2 dx = some (exd dx ((fl.map Str.ofString).zip ys.reverse)) → (∀ b, b ≠ a → b ≠ dx → H2 b = H b) → Q .non H2
def KBd (K : PySem.W.Frag) (fd : FuncData) (ps : List String) (n : Nat) (ks : List String) : Prop := ∀ (s : Shared) (us ws zs : List Value), K.In s.heap → us.length = n → ws.length = ks.length → pickL ps ks us ws = some zs →
  BindsTo s fd ⟨us, (ks.map Str.ofString).zip ws⟩ ((ps.map Str.ofString).zip zs)
end Wv

set_option Elab.async false
set_option linter.all false
set_option maxRecDepth 100000
/-! Wv3: the operations by values keep to binD, cmpD, .. -/
namespace L2
open PySem PySem.Spec PyProof.Rows
/-- t * k, the same tuple or the empty one -/
theorem tuple_mulS (l : Addr) (items : Array Value) (n : Nat) (dd : Option Addr) (sl : Array (Option Value)) (x : Int) (u : Tok) (c0 : (decide (x < -(2 ^ 63)) || decide (x ≥ 2 ^ 63)) = false) (c1 : (items.isEmpty || x == 1) = true) :
    Meets (Builtin.«tuple.__mul__» ⟨[.ref l, .int x u], []⟩) (fun _ R s => s.heap.get? l = some { cls := .type "tuple", dict := dd, data := .seq items n, slots := sl } ∧
      R (.ok (.ret (Value.ref l))) s) :=
  .of_wp fun prog w A R s h => by
    obtain ⟨hp, g, d, tk, os⟩ := s
    obtain ⟨hl, h⟩ := h
    have f1 := AutoSeq1.idx_int
    wp_walk using wpAny_loadPart' hl
    repeat (first
      | (refine wpAny_ite_false (decide_eq_false (by rw [c0]; exact Bool.false_ne_true)) ?_; wp_walk using wpAny_loadPart' hl)
      | (refine wpAny_ite_true (decide_eq_true (by rw [c1])) ?_; wp_walk using wpAny_loadPart' hl))
    all_goals first
      | exact ⟨_, rfl, h⟩
      | trace_state
theorem tuple_mulZ (l : Addr) (items : Array Value) (n : Nat) (dd : Option Addr) (sl : Array (Option Value)) (x : Int) (u : Tok) (c0 : (decide (x < -(2 ^ 63)) || decide (x ≥ 2 ^ 63)) = false) (c1 : (items.isEmpty || x == 1) = false) (c2 : (decide (x ≤ 0) || items.isEmpty) = true) :
    Meets (Builtin.«tuple.__mul__» ⟨[.ref l, .int x u], []⟩) (fun _ R s => s.heap.get? l = some { cls := .type "tuple", dict := dd, data := .seq items n, slots := sl } ∧
      R (.ok (.ret (Value.ref s.heap.objs.size))) { s with heap := s.heap.push { cls := Value.type "tuple", data := Data.seq #[] }, toks := s.toks }) :=
  .of_wp fun prog w A R s h => by
    obtain ⟨hp, g, d, tk, os⟩ := s
    obtain ⟨hl, h⟩ := h
    have f1 := AutoSeq1.idx_int
    wp_walk using wpAny_loadPart' hl
    repeat (first
      | (refine wpAny_ite_false (decide_eq_false (by rw [c0]; exact Bool.false_ne_true)) ?_; wp_walk using wpAny_loadPart' hl)
      | (refine wpAny_ite_false (decide_eq_false (by rw [c1]; exact Bool.false_ne_true)) ?_; wp_walk using wpAny_loadPart' hl)
      | (refine wpAny_ite_true (decide_eq_true (by rw [c2])) ?_; wp_walk using wpAny_loadPart' hl)
      | (refine wpAny_ite_false (decide_eq_false (Nat.not_lt.mpr (by simp))) ?_; wp_walk using wpAny_loadPart' hl))
    exact ⟨_, rfl, h⟩
/-- a tuple times an int within bounds -/
def rRepA (K : PySem.W.Frag) : R2 := fun x y H Q => ∃ l k xs, x = .ref l ∧ y = .int k ∧ SqT K H l xs ∧ -1000 ≤ k ∧ k ≤ 1000 ∧ xs.length ≤ 1000 ∧
  ((xs = [] ∨ k = 1) → Q (.ref l) H) ∧ (xs ≠ [] → k ≠ 1 → ∀ p, H p = none → Q (.ref p) (upd H p (.tup (List.replicate k.toNat xs).flatten)))
theorem op_repA {X : Cx} : OpR X (binaryOp .Mult) (rRepA X.K) := by
  intro pins s σ H x y v u Q I rx ry h
  obtain ⟨l, k, xs, rfl, rfl, hT, h1, h2, hz, q1, q2⟩ := h
  by_cases hne : xs = [] ∨ k = 1
  · cases rx
    obtain ⟨t, rfl⟩ := ry
    obtain ⟨its, r, ⟨⟨cls, dd, data, sl⟩, ho, hc, n, hd⟩, hs⟩ := I.tuple hT
    simp only at hc hd
    subst hc hd
    have hle : its.length = xs.length := r.length.symm
    have c0 : (decide (k < -(2 ^ 63)) || decide (k ≥ 2 ^ 63)) = false := by
      rw [decide_eq_false (by omega), decide_eq_false (by omega)] <;> rfl
    have c1 : (its.toArray.isEmpty || k == 1) = true := by
      rcases hne with e | e
      · subst e
        have : its = [] := List.eq_nil_of_length_eq_zero hle
        subst this
        rfl
      · subst e
        simp
    refine wpAny_binaryOp_repeat_ref (T := "tuple") (U := "int") (by decide) ⟨_, ho, rfl⟩ (fun s' => typeIs_int s' k t) noFill_tuple_mul F.fills_int_mul F.slot_int_rmul repeat_tuple F.slot_int_index.lookup
      (call_meets F.slot_int_rmul (typeIs_int s k t) F.entry_int_rmul (F.args_int_rmul_2 _ _) (int_rmul_tuple k t l its.toArray n dd sl)
        ⟨ho, rfl, ⟨_, ho, rfl⟩, call_meets F.slot_tuple_mul ⟨_, ho, rfl⟩ F.entry_tuple_mul (F.args_tuple_mul_2 _ _) (tuple_mulS l its.toArray n dd sl k t c0 c1) ⟨ho, ?_⟩⟩)
    exact ⟨.ref l, H, I, rfl, q1 hne⟩
  · have hx : xs ≠ [] := fun e => hne (.inl e)
    have hk : k ≠ 1 := fun e => hne (.inr e)
    by_cases h3 : 2 ≤ k
    · exact op_repT pins s σ H _ _ v u Q I rx ry ⟨l, k, xs, rfl, rfl, hT, hx, h3, h2, hz, q2 hx hk⟩
    · cases rx
      obtain ⟨t, rfl⟩ := ry
      obtain ⟨its, r, ⟨⟨cls, dd, data, sl⟩, ho, hc, n, hd⟩, hs⟩ := I.tuple hT
      simp only at hc hd
      subst hc hd
      have hle : its.length = xs.length := r.length.symm
      have hn : its ≠ [] := fun e => hx (by
        rw [e] at hle
        exact List.eq_nil_of_length_eq_zero hle.symm)
      have hi : its.toArray.isEmpty = false := by
        cases its with
        | nil => exact absurd rfl hn
        | cons a b => rfl
      have c0 : (decide (k < -(2 ^ 63)) || decide (k ≥ 2 ^ 63)) = false := by
        rw [decide_eq_false (by omega), decide_eq_false (by omega)] <;> rfl
      have c1 : (its.toArray.isEmpty || k == 1) = false := by
        rw [hi, Bool.false_or]
        exact beq_eq_false_iff_ne.mpr (by omega)
      have c2 : (decide (k ≤ 0) || its.toArray.isEmpty) = true := by
        rw [decide_eq_true (by omega)]
        rfl
      refine wpAny_binaryOp_repeat_ref (T := "tuple") (U := "int") (by decide) ⟨_, ho, rfl⟩ (fun s' => typeIs_int s' k t) noFill_tuple_mul F.fills_int_mul F.slot_int_rmul repeat_tuple F.slot_int_index.lookup
        (call_meets F.slot_int_rmul (typeIs_int s k t) F.entry_int_rmul (F.args_int_rmul_2 _ _) (int_rmul_tuple k t l its.toArray n dd sl)
          ⟨ho, rfl, ⟨_, ho, rfl⟩, call_meets F.slot_tuple_mul ⟨_, ho, rfl⟩ F.entry_tuple_mul (F.args_tuple_mul_2 _ _) (tuple_mulZ l its.toArray n dd sl k t c0 c1 c2) ⟨ho, ?_⟩⟩)
      have e0 : (List.replicate k.toNat xs).flatten = [] := by
        rw [show k.toNat = 0 by omega]
        rfl
      have q3 := q2 hx hk
      rw [e0] at q3
      refine ⟨.ref s.heap.objs.size, _, I.laid (t' := s.toks) (o := .tup []) (fun b ob q => Heap.get?_push_of_some _ q) (Nat.le_refl _) ?_, rfl, q3 _ (I.hok.fresh (Nat.le_refl _))⟩
      exact ⟨Nat.zero_le _, [], .nil, IsTup.new _ _⟩
end L2

namespace Wv
open PySem PySem.Spec PyProof.Rows L2
abbrev FD (F : Sets) (H : Hp) : Prop := ∀ a, F a → H a ≠ none
section
variable {K : PySem.W.Frag} {cl : String → Addr} {F F' : Sets} {H H' : Hp}
/-- what is wanted of a fresh result -/
def OpPost (K : PySem.W.Frag) (cl : String → Addr) (F : Sets) (H : Hp) (d : D) (Q : VK) : Prop :=
  ∀ v F' H' fp, Gr F H F' H' → Rp K cl F' H' d v fp → (∀ a, fp a → H a = none ∧ ¬ F' a ∧ Mut (H' a)) → Q v H'
theorem OpPost.val {d : D} {Q : VK} (q : OpPost K cl F H d Q) {v : V} (r : Rp K cl F H d v E0s) : Q v H :=
  q v F H E0s Gr.refl r fun _ z => z.elim
theorem OpPost.tup {ds : List D} {Q : VK} (q : OpPost K cl F H (.tup ds) Q) {vs : List V} (r : Rps K cl F H ds vs E0s) : ∀ p, H p = none → Q (.ref p) (upd H p (.tup vs)) := fun p hp =>
  q _ F _ E0s (Gr.alloc0 hp) (by simp only [Rp]; exact ⟨p, vs, rfl, .inl (.inl upd_same), r.kp (Gr.alloc0 hp).kp⟩) fun _ z => z.elim
theorem OpPost.lst {ds : List D} {Q : VK} (fd : FD F H) (q : OpPost K cl F H (.lst .own ds) Q) {vs : List V} (r : Rps K cl F H ds vs E0s) : ∀ p, H p = none → Q (.ref p) (upd H p (.lst vs)) := fun p hp =>
  q _ F _ (fun a => a = p) (Gr.alloc0 hp) (by simp only [Rp]; exact ⟨p, vs, E0s, rfl, upd_same, rfl, fun z => z.elim, fun _ z => z.elim, r.kp (Gr.alloc0 hp).kp⟩) fun a z => by
    subst z
    exact ⟨hp, fun z => fd _ z hp, by rw [upd_same]; trivial⟩
theorem Rps.nilV {vs : List V} {f : Sets} (r : Rps K cl F H [] vs f) : vs = [] := by simpa only [Rps] using r
theorem Rp.lst_at {t : Tg} {ds : List D} {v : V} {f : Sets} (r : Rp K cl F H (.lst t ds) v f) : ∃ a vs g, v = .ref a ∧ SqL K H a vs ∧ (t ≠ .scr → H a = some (.lst vs)) ∧ Rps K cl F H ds vs g := by
  cases t with
  | own =>
    simp only [Rp] at r
    obtain ⟨a, vs, g, e, s, _, _, _, r⟩ := r
    exact ⟨a, vs, g, e, .inl (.inl s), fun _ => s, r⟩
  | fro =>
    simp only [Rp] at r
    obtain ⟨a, vs, e, _, s, r⟩ := r
    exact ⟨a, vs, _, e, .inl (.inl s), fun _ => s, r⟩
  | scr =>
    simp only [Rp] at r
    obtain ⟨a, vs, e, s, r⟩ := r
    exact ⟨a, vs, _, e, s.imp (·.2) id, fun z => absurd rfl z, r⟩
theorem stbs_append : ∀ (a b : List D), stbs (a ++ b) = (stbs a && stbs b)
  | [], b => by simp [stbs]
  | x :: a, b => by simp [stbs, stbs_append a b, Bool.and_assoc]
theorem Rps.rep {ds : List D} {vs : List V} {f : Sets} (r : Rps K cl F H ds vs f) (st : stbs ds = true) : ∀ n : Nat, Rps K cl F H (List.replicate n ds).flatten (List.replicate n vs).flatten E0s
  | 0 => by simp [Rps]
  | n + 1 => by
    simp only [List.replicate_succ, List.flatten_cons]
    exact Rps.append (f := E0s) (g := E0s) (r.stb st) (Rps.rep r st n) (fun _ z => z.elim) (fun _ z => z.elim) fun _ z => z.elim
theorem fits_le {n : Nat} (h : fits n = true) : n ≤ sizeLine := by
  have := of_decide_eq_true h
  rw [sizeLine_eq]
  exact this

def rBin (K : PySem.W.Frag) (cl : String → Addr) (op : Operator) : R2 := fun x y H Q =>
  ∃ F a b f g d, FD F H ∧ Rp K cl F H a x f ∧ Rp K cl F H b y g ∧ binD op a b = some d ∧ OpPost K cl F H d Q
theorem op_bin {X : Cx} {op : Operator} : OpR X (binaryOp op) (rBin X.K cl op) := by
  intro pins s σ H x y v u Q I rx ry h
  obtain ⟨F, a, b, f, g, d, fd, ra, rb, e, q⟩ := h
  unfold binD at e
  split at e
  · rename_i i j
    simp only [Rp] at ra rb
    subst ra rb
    cases ha : arith op i j with
    | none => rw [ha] at e; cases e
    | some k =>
      rw [ha] at e
      obtain rfl : d = .int k := (Option.some.inj e).symm
      have q' : Q (.int k) H := q.val (by simp only [Rp])
      unfold arith at ha
      split at ha
      · cases ha; exact op_add pins s σ H _ _ v u Q I rx ry ⟨i, j, rfl, rfl, q'⟩
      · cases ha; exact op_sub pins s σ H _ _ v u Q I rx ry ⟨i, j, rfl, rfl, q'⟩
      · split at ha
        · cases ha; exact op_mul pins s σ H _ _ v u Q I rx ry ⟨i, j, rfl, rfl, by assumption, q'⟩
        · cases ha
      · split at ha
        · cases ha; exact op_mod pins s σ H _ _ v u Q I rx ry ⟨i, j, rfl, rfl, by assumption, q'⟩
        · cases ha
      · split at ha
        · cases ha; exact op_fdiv pins s σ H _ _ v u Q I rx ry ⟨i, j, rfl, rfl, by assumption, q'⟩
        · cases ha
      · split at ha
        · cases ha; exact op_pow pins s σ H _ _ v u Q I rx ry ⟨i, j, rfl, rfl, by assumption, q'⟩
        · cases ha
      · split at ha
        · rename_i hc
          cases ha
          refine op_shlW pins s σ H _ _ v u Q I rx ry ⟨i, j, rfl, rfl, ⟨hc.1, ?_⟩, q'⟩
          have b1 : Builtin.Int.intBits i ≤ i.natAbs.log2 + 1 := by
            unfold Builtin.Int.intBits
            split <;> omega
          have b2 : i.natAbs.log2 < 128 := by
            by_cases h0 : i.natAbs = 0
            · rw [h0]; decide
            · exact (Nat.log2_lt h0).mpr hc.2.2
          omega
        · cases ha
      · split at ha
        · cases ha; exact op_shr pins s σ H _ _ v u Q I rx ry ⟨i, j, rfl, rfl, by assumption, q'⟩
        · cases ha
      · cases ha; exact op_and pins s σ H _ _ v u Q I rx ry ⟨i, j, rfl, rfl, q'⟩
      · cases ha; exact op_or pins s σ H _ _ v u Q I rx ry ⟨i, j, rfl, rfl, q'⟩
      · cases ha; exact op_xor pins s σ H _ _ v u Q I rx ry ⟨i, j, rfl, rfl, q'⟩
      · cases ha
  · rename_i i j
    simp only [Rp] at ra rb
    subst ra rb
    split at e
    · rename_i hf
      cases e
      exact op_add_str pins s σ H _ _ v u Q I rx ry ⟨i, j, rfl, rfl, fits_le hf, q.val (by simp only [Rp])⟩
    · cases e
  · rename_i i j
    simp only [Rp] at ra rb
    obtain ⟨p, vs, rfl, s1, r1⟩ := ra
    obtain ⟨p', ws, rfl, s2, r2⟩ := rb
    split at e
    · rename_i hf
      cases e
      simp only [Bool.and_eq_true] at hf
      obtain ⟨⟨hf, st1⟩, st2⟩ := hf
      have r1' := r1.stb (g := E0s) st1
      have r2' := r2.stb (g := E0s) st2
      refine op_catA pins s σ H _ _ v u Q I rx ry ⟨p, p', vs, ws, rfl, rfl, s1, s2, by rw [← r1.length, ← r2.length]; exact fits_le hf, fun e1 => ?_, fun _ e2 => ?_, fun _ _ => q.tup (Rps.append (f := E0s) (g := E0s) r1' r2' (fun _ z => z.elim) (fun _ z => z.elim) fun _ z => z.elim)⟩
      · subst e1
        have : i = [] := List.eq_nil_of_length_eq_zero r1.length
        subst this
        refine q.val ?_
        simp only [Rp]
        exact ⟨p', ws, rfl, s2, r2'⟩
      · subst e2
        have : j = [] := List.eq_nil_of_length_eq_zero r2.length
        subst this
        refine q.val ?_
        simp only [Rp, List.append_nil]
        exact ⟨p, vs, rfl, s1, r1'⟩
    · cases e
  · rename_i t1 i t2 j
    split at e
    · rename_i hf
      cases e
      simp only [Bool.and_eq_true, bne_iff_ne, ne_eq] at hf
      obtain ⟨⟨⟨⟨n1, n2⟩, hf⟩, st1⟩, st2⟩ := hf
      obtain ⟨p, vs, f1, rfl, _, s1, r1⟩ := ra.lst_at
      obtain ⟨p', ws, f2, rfl, _, s2, r2⟩ := rb.lst_at
      have r1' := r1.stb (g := E0s) st1
      have r2' := r2.stb (g := E0s) st2
      exact op_cat pins s σ H _ _ v u Q I rx ry ⟨p, p', vs, ws, rfl, rfl, s1 n1, s2 n2, by rw [← r1.length, ← r2.length]; exact fits_le hf, q.lst fd (Rps.append (f := E0s) (g := E0s) r1' r2' (fun _ z => z.elim) (fun _ z => z.elim) fun _ z => z.elim)⟩
    · cases e
  · rename_i t1 i k
    split at e
    · rename_i hf
      cases e
      simp only [Bool.and_eq_true, bne_iff_ne, ne_eq, decide_eq_true_eq] at hf
      obtain ⟨⟨⟨n1, hk⟩, hf⟩, st1⟩ := hf
      obtain ⟨p, vs, f1, rfl, _, s1, r1⟩ := ra.lst_at
      simp only [Rp] at rb
      subst rb
      exact op_rep pins s σ H _ _ v u Q I rx ry ⟨p, k, vs, rfl, rfl, s1 n1, hk.1, hk.2, by rw [← r1.length]; exact fits_le hf, q.lst fd (r1.rep st1 _)⟩
    · cases e
  · rename_i i k
    split at e
    · rename_i hf
      cases e
      simp only [Bool.and_eq_true, decide_eq_true_eq] at hf
      obtain ⟨⟨⟨k1, k2⟩, hl⟩, st1⟩ := hf
      simp only [Rp] at ra rb
      obtain ⟨p, vs, rfl, s1, r1⟩ := ra
      subst rb
      refine op_repA pins s σ H _ _ v u Q I rx ry ⟨p, k, vs, rfl, rfl, s1, k2, k1, by rw [← r1.length]; exact hl, fun z => ?_, fun _ _ => q.tup (r1.rep st1 _)⟩
      refine q.val ?_
      simp only [Rp]
      refine ⟨p, vs, rfl, s1, ?_⟩
      rcases z with z | z
      · subst z
        have : i = [] := List.eq_nil_of_length_eq_zero r1.length
        subst this
        have e : (List.replicate k.toNat ([] : List D)).flatten = [] := by simp
        rw [e]
        simp [Rps]
      · subst z
        have e : (List.replicate (1 : Int).toNat i).flatten = i := by simp
        rw [e]
        exact r1.stb st1
    · cases e
  · cases e
end
end Wv

set_option Elab.async false
set_option linter.all false
set_option maxRecDepth 100000
/-! Wv4: comparisons, tests, subscripts. -/
namespace Wv
open PySem PySem.Spec PyProof.Rows L2
mutual
def toPy : D → PyData
  | .non => .none
  | .bl b => .bool b
  | .int i => .int i
  | .str s => .str s
  | .tup xs => .tuple (toPys xs)
  | .lst _ xs => .list (toPys xs)
  | _ => .none
def toPys : List D → List PyData
  | [] => []
  | x :: xs => toPy x :: toPys xs
end
mutual
theorem toPy_depth : ∀ d : D, (toPy d).depth = d.dp
  | .non | .bl _ | .int _ | .str _ | .obj _ _ _ _ | .iset _ _ | .dic _ _ _ => by simp only [toPy, D.dp, PyData.depth]
  | .tup xs => by simp only [toPy, D.dp, PyData.depth, toPys_depth xs]
  | .lst _ xs => by simp only [toPy, D.dp, PyData.depth, toPys_depth xs]
theorem toPys_depth : ∀ ds : List D, PyData.depthAll (toPys ds) = dps ds
  | [] => by simp only [toPys, dps, PyData.depthAll]
  | x :: xs => by simp only [toPys, dps, PyData.depthAll, toPy_depth x, toPys_depth xs]
end
mutual
theorem toPy_lay : ∀ d : D, d.plain = true → (toPy d).canLay0 = true
  | .non, _ | .bl _, _ | .int _, _ => by simp only [toPy, PyData.canLay0]
  | .str s, h => by simpa only [toPy, PyData.canLay0, D.plain] using h
  | .tup xs, h => by
    simp only [toPy, PyData.canLay0]
    exact toPys_lay xs (by simpa only [D.plain] using h)
  | .lst _ xs, h => by
    simp only [toPy, PyData.canLay0]
    exact toPys_lay xs (by simpa only [D.plain] using h)
  | .obj _ _ _ _, h | .iset _ _, h | .dic _ _ _, h => by simp [D.plain] at h
theorem toPys_lay : ∀ ds : List D, plains ds = true → PyData.canLayAll0 (toPys ds) = true
  | [], _ => by simp only [toPys, PyData.canLayAll0]
  | x :: xs, h => by
    simp only [plains, Bool.and_eq_true] at h
    simp only [toPys, PyData.canLayAll0, toPy_lay x h.1, toPys_lay xs h.2, Bool.and_self]
end
mutual
theorem eqB_py : ∀ a b : D, a.plain = true → b.plain = true → PyData.eqv (toPy a) (toPy b) = eqB a b
  | .non, b, _, hb => by cases b <;> simp [toPy, eqB, PyData.eqv, D.plain] at hb ⊢
  | .bl x, b, _, hb => by
    cases b with
    | bl y => cases x <;> cases y <;> simp [toPy, eqB, PyData.eqv, D.num]
    | _ => simp [toPy, eqB, PyData.eqv, D.plain, D.num] at hb ⊢
  | .int x, b, _, hb => by cases b <;> simp [toPy, eqB, PyData.eqv, D.plain, D.num] at hb ⊢
  | .str x, b, _, hb => by cases b <;> simp [toPy, eqB, PyData.eqv, D.plain] at hb ⊢
  | .tup xs, b, ha, hb => by
    cases b <;> simp [toPy, eqB, PyData.eqv, D.plain] at ha hb ⊢
    exact eqBs_py xs _ ha hb
  | .lst _ xs, b, ha, hb => by
    cases b <;> simp [toPy, eqB, PyData.eqv, D.plain] at ha hb ⊢
    exact eqBs_py xs _ ha hb
  | .obj _ _ _ _, _, h, _ | .iset _ _, _, h, _ | .dic _ _ _, _, h, _ => by simp [D.plain] at h
theorem eqBs_py : ∀ a b : List D, plains a = true → plains b = true → PyData.eqvAll (toPys a) (toPys b) = eqBs a b
  | [], [], _, _ => by simp [toPys, eqBs, PyData.eqvAll]
  | [], _ :: _, _, _ => by simp [toPys, eqBs, PyData.eqvAll]
  | _ :: _, [], _, _ => by simp [toPys, eqBs, PyData.eqvAll]
  | x :: xs, y :: ys, ha, hb => by
    simp only [plains, Bool.and_eq_true] at ha hb
    simp only [toPys, eqBs, PyData.eqvAll, eqB_py x y ha.1 hb.1, eqBs_py xs ys ha.2 hb.2]
end
theorem any_py (d : D) (hd : d.plain = true) : ∀ ds : List D, plains ds = true → ((toPys ds).any fun y => PyData.eqv y (toPy d)) = ds.any fun z => eqB z d
  | [], _ => by simp [toPys]
  | x :: xs, h => by
    simp only [plains, Bool.and_eq_true] at h
    simp only [toPys, List.any_cons, eqB_py x d h.1 hd, any_py d hd xs h.2]
section
variable {K : PySem.W.Frag} {cl : String → Addr} {F F' : Sets} {H H' : Hp}
mutual
theorem Rp.toDp : ∀ {d : D} {v : V} {f : Sets}, Rp K cl F H d v f → d.plain = true → Dp K H v (toPy d)
  | .non, _, _, h, _ => by simp only [Rp] at h; subst h; simp only [toPy]; exact .non
  | .bl _, _, _, h, _ => by simp only [Rp] at h; subst h; simp only [toPy]; exact .bl _
  | .int _, _, _, h, _ => by simp only [Rp] at h; subst h; simp only [toPy]; exact .int _
  | .str _, _, _, h, _ => by simp only [Rp] at h; subst h; simp only [toPy]; exact .str _
  | .tup ds, v, f, h, p => by
    simp only [Rp] at h
    obtain ⟨a, vs, rfl, s, r⟩ := h
    simp only [toPy]
    exact .tup s (Rps.toDp r (by simpa only [D.plain] using p))
  | .lst t ds, v, f, h, p => by
    obtain ⟨a, vs, g, rfl, s, _, r⟩ := h.lst_at
    simp only [toPy]
    exact .lst s (Rps.toDp r (by simpa only [D.plain] using p))
  | .obj _ _ _ _, _, _, _, h | .iset _ _, _, _, _, h | .dic _ _ _, _, _, _, h => by simp [D.plain] at h
theorem Rps.toDp : ∀ {ds : List D} {vs : List V} {f : Sets}, Rps K cl F H ds vs f → plains ds = true → DpAll K H vs (toPys ds)
  | [], _, _, h, _ => by simp only [Rps] at h; subst h; simp only [toPys]; exact .nil
  | d :: ds, vs, f, h, p => by
    simp only [Rps] at h
    obtain ⟨v, r, g, k, rfl, h1, h2, _⟩ := h
    simp only [plains, Bool.and_eq_true] at p
    simp only [toPys]
    exact .cons (Rp.toDp h1 p.1) (Rps.toDp h2 p.2)
end
def rCmp (K : PySem.W.Frag) (cl : String → Addr) (op : CmpOp) : R2 := fun x y H Q =>
  ∃ F a b f g k, Rp K cl F H a x f ∧ Rp K cl F H b y g ∧ cmpD op a b = some k ∧ Q (.bl k) H
theorem ints_map : ∀ {ds : List D} {is : List Int}, ints? ds = some is → ds = is.map .int
  | [], is, h => by simp [ints?] at h; subst h; rfl
  | d :: ds, is, h => by
    cases d <;> simp [ints?] at h
    obtain ⟨js, h1, rfl⟩ := h
    simp [ints_map h1]
theorem Rps.ints : ∀ {is : List Int} {vs : List V} {f : Sets}, Rps K cl F H (is.map D.int) vs f → vs = is.map V.int
  | [], vs, f, h => by simpa [Rps] using h
  | i :: is, vs, f, h => by
    simp only [List.map_cons, Rps, Rp] at h
    obtain ⟨v, r, _, _, rfl, rfl, h2, _⟩ := h
    rw [Rps.ints h2, List.map_cons]
theorem lexLe_at : ∀ (ns ms : List Int) (k i : Nat) (N M : List Int), N.drop i = ns → M.drop i = ms → i ≤ N.length → i ≤ M.length → k = min ns.length ms.length → decide (N.length ≤ M.length) = decide (ns.length ≤ ms.length) →
    Ob.lexAt (fun j => decide (N.getD j 0 = M.getD j 0)) (fun j => decide (N.getD j 0 ≤ M.getD j 0)) (decide (N.length ≤ M.length)) i k = (lexLt ns ms || ns == ms) := by
  intro ns
  induction ns with
  | nil =>
    intro ms k i N M e1 e2 l1 l2 hk hl
    simp at hk; subst hk
    rw [Ob.lexAt_zero, hl]
    cases ms <;> simp [lexLt]
  | cons a ns ih =>
    intro ms
    cases ms with
    | nil =>
      intro k i N M e1 e2 l1 l2 hk hl
      simp at hk; subst hk
      rw [Ob.lexAt_zero, hl]
      simp [lexLt]
    | cons b ms =>
      intro k i N M e1 e2 l1 l2 hk hl
      have hk' : k = min ns.length ms.length + 1 := by simp at hk; omega
      subst hk'
      rw [Ob.lexAt_succ]
      have hN : N[i]? = some a := by
        have q := congrArg List.head? e1
        rwa [List.head?_drop] at q
      have hM : M[i]? = some b := by
        have q := congrArg List.head? e2
        rwa [List.head?_drop] at q
      have gN : N.getD i 0 = a := by rw [List.getD_eq_getElem?_getD, hN]; rfl
      have gM : M.getD i 0 = b := by rw [List.getD_eq_getElem?_getD, hM]; rfl
      obtain ⟨lN, _⟩ := List.getElem?_eq_some_iff.mp hN
      obtain ⟨lM, _⟩ := List.getElem?_eq_some_iff.mp hM
      rw [gN, gM]
      have d1 : N.drop (i + 1) = ns := by rw [← List.tail_drop, e1]; rfl
      have d2 : M.drop (i + 1) = ms := by rw [← List.tail_drop, e2]; rfl
      by_cases hab : a = b
      · subst hab
        rw [if_pos (by simp), ih ms _ (i + 1) N M d1 d2 lN lM rfl (by rw [hl]; simp)]
        simp [lexLt]
      · rw [if_neg (by simpa using hab)]
        simp only [lexLt, if_neg hab]
        have : ((a :: ns) == (b :: ms)) = false := by simp [hab]
        rw [this, Bool.or_false]
        by_cases h : a < b
        · rw [decide_eq_true h, decide_eq_true (by omega)]
        · rw [decide_eq_false h, decide_eq_false (by omega)]
theorem lexLt_HT : ∀ a b : List Int, HT.lexLt a b = lexLt a b
  | [], [] => rfl
  | [], _ :: _ => rfl
  | _ :: _, [] => rfl
  | x :: xs, y :: ys => by
    show (if x = y then HT.lexLt xs ys else decide (x < y)) = _
    rw [lexLt_HT xs ys]; rfl
theorem mem_ok {op : CmpOp} {X : Cx} (hu : X.A.units + 64 < cLine) {pins : List (Addr × Obj)} {s : Shared} {σ : L2.St} {x y : V} {v u : Value} {Q : VK} (I : Inv X pins σ H s) (rx : RelV x v) (ry : RelV y u)
    {d : D} {ds : List D} {f g : Sets} {k : Bool} (ra : Rp X.K cl F H d x f) (e : memD d ds = some k) (rb : (∃ t, Rp X.K cl F H (.lst t ds) y g) ∨ Rp X.K cl F H (.tup ds) y g) :
    (op = .In → Q (.bl k) H → wpAny (model X.prog X.w) X.A (compareOp op v u) (EP X pins σ Q) X.xe s) ∧ (op = .NotIn → Q (.bl (!k)) H → wpAny (model X.prog X.w) X.A (compareOp op v u) (EP X pins σ Q) X.xe s) := by
  unfold memD at e
  split at e
  · rename_i hp
    cases e
    simp only [Bool.and_eq_true, decide_eq_true_eq] at hp
    obtain ⟨⟨p1, p2⟩, hd⟩ := hp
    have hroom : X.A.units + 1 + min (PyData.depthAll (toPys ds)) (toPy d).depth < cLine := by
      rw [toPys_depth, toPy_depth]
      omega
    obtain ⟨as, r1⟩ := Dp.reads I _ x v (ra.toDp p1) rx
    have la := toPy_lay d p1
    have lb := toPys_lay ds p2
    rcases rb with ⟨t, rb⟩ | rb
    · obtain ⟨bs, r2⟩ := Dp.reads I _ y u (rb.toDp (by simpa only [D.plain] using p2)) ry
      simp only [toPy] at r2
      refine ⟨fun h q => ?_, fun h q => ?_⟩
      · subst h
        exact SeqAt.in_list_reads r2 r1 lb la hroom ⟨.bl _, H, I, rfl, by rw [any_py d p1 ds p2]; exact q⟩
      · subst h
        exact SeqAt.notIn_list_reads r2 r1 lb la hroom ⟨.bl _, H, I, rfl, by rw [any_py d p1 ds p2]; exact q⟩
    · obtain ⟨bs, r2⟩ := Dp.reads I _ y u (rb.toDp (by simpa only [D.plain] using p2)) ry
      simp only [toPy] at r2
      refine ⟨fun h q => ?_, fun h q => ?_⟩
      · subst h
        exact SeqAt.in_tuple_reads r2 r1 lb la hroom ⟨.bl _, H, I, rfl, by rw [any_py d p1 ds p2]; exact q⟩
      · subst h
        exact SeqAt.notIn_tuple_reads r2 r1 lb la hroom ⟨.bl _, H, I, rfl, by rw [any_py d p1 ds p2]; exact q⟩
  · cases e
theorem is_bool_rel {M : Model} {A : Around} {Q : Value → Shared → Prop} {E : Value → Shared → Prop} {s : Shared} {x : V} {v : Value} {b : Bool} (r : RelV x v) (h : Q (.bool (decide (x = .bl b))) s) : wpAny M A (compareOp .Is v (.bool b)) Q E s := by
  cases x with
  | non => cases r; exact wpAny_pure (show Q (.bool false) s by simpa using h)
  | bl c =>
    cases r
    by_cases e : c = b
    · subst e
      exact wpAny_is_self rfl (by simpa using h)
    · exact wpAny_is_other rfl (fun z => e (Value.bool.inj z)) (by simpa [e] using h)
  | int i => obtain ⟨t, rfl⟩ := r; exact wpAny_pure (show Q (.bool false) s by simpa using h)
  | str i => obtain ⟨t, rfl⟩ := r; exact wpAny_pure (show Q (.bool false) s by simpa using h)
  | byt i => obtain ⟨t, rfl⟩ := r; exact wpAny_pure (show Q (.bool false) s by simpa using h)
  | flt i => obtain ⟨t, rfl⟩ := r; exact wpAny_pure (show Q (.bool false) s by simpa using h)
  | ref a => cases r; exact wpAny_pure (show Q (.bool false) s by simpa using h)
  | ty n => cases r; exact wpAny_pure (show Q (.bool false) s by simpa using h)
theorem isnot_bool_rel {M : Model} {A : Around} {Q : Value → Shared → Prop} {E : Value → Shared → Prop} {s : Shared} {x : V} {v : Value} {b : Bool} (r : RelV x v) (h : Q (.bool (!decide (x = .bl b))) s) : wpAny M A (compareOp .IsNot v (.bool b)) Q E s := by
  cases x with
  | non => cases r; exact wpAny_pure (show Q (.bool true) s by simpa using h)
  | bl c =>
    cases r
    by_cases e : c = b
    · subst e
      exact wpAny_isNot_self rfl (by simpa using h)
    · exact wpAny_isNot_other rfl (fun z => e (Value.bool.inj z)) (by simpa [e] using h)
  | int i => obtain ⟨t, rfl⟩ := r; exact wpAny_pure (show Q (.bool true) s by simpa using h)
  | str i => obtain ⟨t, rfl⟩ := r; exact wpAny_pure (show Q (.bool true) s by simpa using h)
  | byt i => obtain ⟨t, rfl⟩ := r; exact wpAny_pure (show Q (.bool true) s by simpa using h)
  | flt i => obtain ⟨t, rfl⟩ := r; exact wpAny_pure (show Q (.bool true) s by simpa using h)
  | ref a => cases r; exact wpAny_pure (show Q (.bool true) s by simpa using h)
  | ty n => cases r; exact wpAny_pure (show Q (.bool true) s by simpa using h)
theorem Rp.is_non {d : D} {v : V} {f : Sets} (r : Rp K cl F H d v f) : decide (v = .non) = d.isNon := by
  cases d with
  | lst t _ => obtain ⟨a, vs, g, rfl, _⟩ := r.lst_at; rfl
  | obj t _ _ _ => cases t <;> simp only [Rp] at r <;> first | (obtain ⟨a, _, _, _, rfl, _⟩ := r; rfl) | (obtain ⟨a, _, _, rfl, _⟩ := r; rfl)
  | tup _ => simp only [Rp] at r; obtain ⟨a, _, rfl, _⟩ := r; rfl
  | iset t _ => cases t <;> simp only [Rp] at r <;> first | (obtain ⟨a, _, rfl, _⟩ := r; rfl)
  | dic t _ _ => cases t <;> simp only [Rp] at r <;> first | (obtain ⟨a, _, _, rfl, _⟩ := r; rfl)
  | _ => simp only [Rp] at r; subst r; rfl
theorem Rp.is_bl {d : D} {v : V} {f : Sets} {b : Bool} (r : Rp K cl F H d v f) : decide (v = .bl b) = d.isB b := by
  cases d with
  | lst t _ => obtain ⟨a, vs, g, rfl, _⟩ := r.lst_at; simp [D.isB]
  | obj t _ _ _ => cases t <;> simp only [Rp] at r <;> first | (obtain ⟨a, _, _, _, rfl, _⟩ := r; simp [D.isB]) | (obtain ⟨a, _, _, rfl, _⟩ := r; simp [D.isB])
  | tup _ => simp only [Rp] at r; obtain ⟨a, _, rfl, _⟩ := r; simp [D.isB]
  | iset t _ => cases t <;> simp only [Rp] at r <;> first | (obtain ⟨a, _, rfl, _⟩ := r; simp [D.isB])
  | dic t _ _ => cases t <;> simp only [Rp] at r <;> first | (obtain ⟨a, _, _, rfl, _⟩ := r; simp [D.isB])
  | bl c => simp only [Rp] at r; subst r; by_cases e : c = b <;> simp [e, D.isB]
  | _ => simp only [Rp] at r; subst r; simp [D.isB]
theorem le_cmp (i j : Int) : (decide (i < j) || decide (i = j)) = decide (i ≤ j) := by
  by_cases h : i < j
  · simp [h, Int.le_of_lt h]
  · by_cases h' : i = j
    · simp [h']
    · simp [h, h']; omega
theorem gt_cmp (i j : Int) : (!decide (i < j) && !decide (i = j)) = decide (j < i) := by
  by_cases h : i < j
  · simp [h]; omega
  · by_cases h' : i = j
    · simp [h']
    · simp [h, h']; omega
theorem ge_cmp (i j : Int) : (!decide (i < j)) = decide (j ≤ i) := by
  by_cases h : i < j
  · simp [h]
  · simp [h]; omega
/-! ### order of tuples, nested -/
section
open PySem.SeqAt Ob
/-- a value of an order stands -/
def OrdAt (h : Heap) : Nat → Value → D → Prop
  | 0, v, d => ∃ i t, v = .int i t ∧ d = .int i
  | n + 1, v, d => ∃ a o vs k ds, v = .ref a ∧ d = .tup ds ∧ h.get? a = some o ∧ o.cls = .type "tuple" ∧ o.data = .seq vs k ∧ vs.toList.length = ds.length ∧ ∀ (j : Nat) (x : Value) (y : D), vs.toList[j]? = some x → ds[j]? = some y → OrdAt h n x y
theorem OrdAt.keeps {h h' : Heap} (k : ∀ b o, h.get? b = some o → o.cls = .type "tuple" → h'.get? b = some o) : ∀ {n : Nat} {v : Value} {d : D}, OrdAt h n v d → OrdAt h' n v d
  | 0, _, _, z => z
  | n + 1, _, _, ⟨a, o, vs, m, ds, e, ed, ho, hc, hd, hl, hi⟩ => ⟨a, o, vs, m, ds, e, ed, k _ _ ho hc, hc, hd, hl, fun j x y hx hy => (hi j x y hx hy).keeps k⟩
theorem OrdAt.uniq {h : Heap} : ∀ {n : Nat} {v : Value} {d e : D}, OrdAt h n v d → OrdAt h n v e → d = e
  | 0, _, _, _, ⟨i, t, e1, e2⟩, ⟨j, u, e3, e4⟩ => by
    subst e1; cases e3; rw [e2, e4]
  | n + 1, _, _, _, ⟨a, o, vs, m, ds, e, ed, ho, hc, hd, hl, hi⟩, ⟨a2, o2, vs2, m2, es, e2, ed2, ho2, hc2, hd2, hl2, hi2⟩ => by
    subst e; cases e2
    rw [ho] at ho2; cases ho2
    rw [hd] at hd2; cases hd2
    rw [ed, ed2]
    congr 1
    apply List.ext_getElem?
    intro j
    by_cases hj : j < ds.length
    · have h1 : ds[j]? = some ds[j] := List.getElem?_eq_getElem hj
      have h2 : es[j]? = some (es[j]'(by omega)) := List.getElem?_eq_getElem _
      have h3 : vs.toList[j]? = some (vs.toList[j]'(by omega)) := List.getElem?_eq_getElem _
      rw [h1, h2, (hi j _ _ h3 h1).uniq (hi2 j _ _ h3 h2)]
    · rw [List.getElem?_eq_none (by omega), List.getElem?_eq_none (by omega)]
theorem OrdAt.ok {h : Heap} : ∀ {n : Nat} {v : Value} {d : D}, OrdAt h n v d → ordk n d = true
  | 0, _, _, ⟨i, t, _, e⟩ => by subst e; rfl
  | n + 1, _, _, ⟨a, o, vs, m, ds, e, ed, ho, hc, hd, hl, hi⟩ => by
    subst ed
    simp only [ordk, List.all_eq_true]
    intro x hx
    obtain ⟨j, hj, rfl⟩ := List.getElem_of_mem hx
    exact (hi j (vs.toList[j]'(by omega)) _ (List.getElem?_eq_getElem _) (List.getElem?_eq_getElem hj)).ok
theorem readsAll_of {h : Heap} : ∀ {vs : List Value} {ds : List D}, vs.length = ds.length → (∀ (j : Nat) (x : Value) (y : D), vs[j]? = some x → ds[j]? = some y → ∃ as, Reads h x (toPy y) as) → ∃ as, ReadsAll h vs (toPys ds) as
  | [], [], _, _ => ⟨[], by simp only [toPys]; exact .nil⟩
  | [], _ :: _, e, _ => by simp at e
  | _ :: _, [], e, _ => by simp at e
  | v :: vs, d :: ds, e, k => by
    obtain ⟨as, h1⟩ := k 0 v d rfl rfl
    obtain ⟨bs, h2⟩ := readsAll_of (vs := vs) (ds := ds) (by simpa using e) fun j x y hx hy => k (j + 1) x y (by simpa using hx) (by simpa using hy)
    simp only [toPys]
    exact ⟨_, .cons h1 h2⟩
theorem OrdAt.reads {h : Heap} : ∀ {n : Nat} {v : Value} {d : D}, OrdAt h n v d → ∃ as, Reads h v (toPy d) as
  | 0, _, _, ⟨i, t, e, ed⟩ => by subst e ed; simp only [toPy]; exact ⟨_, .int i t⟩
  | n + 1, _, _, ⟨a, o, vs, m, ds, e, ed, ho, hc, hd, hl, hi⟩ => by
    subst e ed
    obtain ⟨as, r⟩ := readsAll_of (h := h) hl fun j x y hx hy => (hi j x y hx hy).reads
    simp only [toPy]
    exact ⟨_, .tuple ho hc hd r⟩
theorem ordk_tup {n : Nat} {d : D} (h : ordk (n + 1) d = true) : ∃ xs, d = .tup xs ∧ ∀ x ∈ xs, ordk n x = true := by
  cases d with
  | tup xs => exact ⟨xs, rfl, fun x hx => List.all_eq_true.mp h x hx⟩
  | _ => simp [ordk] at h
theorem ltk_tup {n : Nat} {a b : D} (h : ltk (n + 1) a b = true) : ∃ xs ys, a = .tup xs ∧ b = .tup ys := by
  cases a with
  | tup xs =>
    cases b with
    | tup ys => exact ⟨xs, ys, rfl, rfl⟩
    | _ => simp [ltk] at h
  | _ => simp [ltk] at h
theorem ordk_plain : ∀ {n : Nat} {d : D}, ordk n d = true → d.plain = true ∧ d.dp ≤ n
  | 0, d, h => by cases d <;> simp [ordk] at h; exact ⟨rfl, by simp [D.dp]⟩
  | n + 1, d, h => by
    obtain ⟨xs, rfl, h'⟩ := ordk_tup h
    clear h
    have h := h'
    clear h'
    have h1 : plains xs = true ∧ dps xs ≤ n := by
      induction xs with
      | nil => exact ⟨rfl, by simp [dps]⟩
      | cons x xs ih =>
        obtain ⟨a, b⟩ := ih fun y hy => h y (by simp [hy])
        obtain ⟨c, d⟩ := ordk_plain (h x (by simp))
        exact ⟨by simp [plains, a, c], by simp only [dps]; omega⟩
    exact ⟨by simpa only [D.plain] using h1.1, by simp only [D.dp]; omega⟩
theorem OrdAt.eqAt {n : Nat} {v w : Value} {x y : D} {A : Around} {s : Shared} (h1 : OrdAt s.heap n v x) (h2 : OrdAt s.heap n w y) (hu : A.units + n < cLine) : EqAt A s v w (eqB x y) := by
  obtain ⟨as, r1⟩ := h1.reads
  obtain ⟨bs, r2⟩ := h2.reads
  obtain ⟨p1, d1⟩ := ordk_plain h1.ok
  obtain ⟨p2, d2⟩ := ordk_plain h2.ok
  have := eqAt_reads (toPy x) (toPy y) A s v w as bs r1 r2 (toPy_lay x p1) (toPy_lay y p2) (by rw [toPy_depth, toPy_depth]; omega)
  rwa [eqB_py x y p1 p2] at this
/-- `<` of the first that is not equal, or of the lengths -/
theorem lexAt_lex {e r : Nat → Bool} {lt : D → D → Bool} {z : Bool} : ∀ {as bs : List D} {i : Nat}, (∀ j a b, as[j]? = some a → bs[j]? = some b → e (i + j) = eqB a b ∧ (eqB a b = false → r (i + j) = lt a b)) → z = decide (as.length < bs.length) → lexAt e r z i (min as.length bs.length) = lexD lt as bs
  | [], [], i, _, hz => by simp [lexAt, lexD, hz]
  | [], b :: bs, i, _, hz => by simp [lexAt, lexD, hz]
  | a :: as, [], i, _, hz => by simp [lexAt, lexD, hz]
  | a :: as, b :: bs, i, h, hz => by
    obtain ⟨h1, h2⟩ := h 0 a b rfl rfl
    have ih := lexAt_lex (e := e) (r := r) (lt := lt) (z := z) (as := as) (bs := bs) (i := i + 1) (fun j x y hx hy => by
      have := h (j + 1) x y (by simpa using hx) (by simpa using hy)
      rwa [show i + (j + 1) = i + 1 + j by omega] at this) (by rw [hz]; simp)
    have hm : min (a :: as).length (b :: bs).length = min as.length bs.length + 1 := by simp <;> omega
    rw [hm, lexAt_succ]
    simp only [Nat.add_zero] at h1 h2
    simp only [lexD]
    cases hq : eqB a b with
    | true => rw [hq] at h1; rw [h1, if_pos rfl, if_pos rfl, ih]
    | false => rw [hq] at h1; rw [h1, if_neg (by simp), if_neg (by simp), h2 hq]
/-- equal where both have an order: the same -/
theorem eqB_ord : ∀ {n : Nat} {a b : D}, ordk n a = true → ordk n b = true → (eqB a b = true ↔ a = b)
  | 0, a, b, h1, h2 => by
    cases a <;> simp [ordk] at h1
    cases b <;> simp [ordk] at h2
    simp [eqB, D.num]
  | n + 1, a, b, h1, h2 => by
    obtain ⟨xs, rfl, k1⟩ := ordk_tup h1
    obtain ⟨ys, rfl, k2⟩ := ordk_tup h2
    clear h1 h2
    simp only [eqB, D.tup.injEq]
    induction xs generalizing ys with
    | nil => cases ys <;> simp [eqBs]
    | cons x xs ih =>
      cases ys with
      | nil => simp [eqBs]
      | cons y ys =>
        have e1 := eqB_ord (k1 x (by simp)) (k2 y (by simp))
        have e2 := ih (fun z hz => k1 z (by simp [hz])) ys (fun z hz => k2 z (by simp [hz]))
        simp only [eqBs, Bool.and_eq_true, e1, e2, List.cons.injEq]
theorem lexD_asym {lt : D → D → Bool} (eqs : ∀ a b, eqB a b = eqB b a) (as_ : ∀ a b, lt a b = true → lt b a = false) : ∀ (x y : List D), lexD lt x y = true → lexD lt y x = false
  | [], [], h => by simp [lexD] at h
  | [], _ :: _, _ => by simp [lexD]
  | _ :: _, [], h => by simp [lexD] at h
  | a :: x, b :: y, h => by
    simp only [lexD] at h ⊢
    rw [eqs b a]
    split at h
    · rename_i e; rw [if_pos e]; exact lexD_asym eqs as_ x y h
    · rename_i e; rw [if_neg e]; exact as_ a b h
mutual
theorem eqB_symm : ∀ a b : D, eqB a b = eqB b a
  | .non, b => by cases b <;> simp [eqB, D.num]
  | .bl x, b => by cases b <;> simp [eqB, D.num] <;> exact Bool.beq_comm
  | .int x, b => by cases b <;> simp [eqB, D.num] <;> exact Bool.beq_comm
  | .str x, b => by cases b <;> simp [eqB, D.num]; exact Bool.beq_comm
  | .tup xs, b => by
    cases b <;> simp [eqB, D.num]
    exact eqBs_symm xs _
  | .lst _ xs, b => by
    cases b <;> simp [eqB, D.num]
    exact eqBs_symm xs _
  | .obj _ _ _ _, b | .iset _ _, b | .dic _ _ _, b => by cases b <;> simp [eqB, D.num]
theorem eqBs_symm : ∀ a b : List D, eqBs a b = eqBs b a
  | [], [] => rfl
  | [], _ :: _ => by simp [eqBs]
  | _ :: _, [] => by simp [eqBs]
  | x :: xs, y :: ys => by simp only [eqBs, eqB_symm x y, eqBs_symm xs ys]
end
/-- a total order -/
structure TOk (n : Nat) : Prop where
  asym : ∀ a b, ltk n a b = true → ltk n b a = false
  tot : ∀ a b, ordk n a = true → ordk n b = true → ltk n a b = false → ltk n b a = false → a = b
  tr : ∀ a b c, ordk n a = true → ordk n b = true → ordk n c = true → ltk n a b = true → ltk n b c = true → ltk n a c = true
theorem lexD_tot {n : Nat} (t : TOk n) : ∀ (x y : List D), (∀ a ∈ x, ordk n a = true) → (∀ a ∈ y, ordk n a = true) → lexD (ltk n) x y = false → lexD (ltk n) y x = false → x = y
  | [], [], _, _, _, _ => rfl
  | [], _ :: _, _, _, h, _ => by simp [lexD] at h
  | _ :: _, [], _, _, _, h => by simp [lexD] at h
  | a :: x, b :: y, hx, hy, h1, h2 => by
    simp only [lexD] at h1 h2
    rw [eqB_symm b a] at h2
    by_cases e : eqB a b = true
    · rw [if_pos e] at h1 h2
      rw [(eqB_ord (hx a (by simp)) (hy b (by simp))).mp e, lexD_tot t x y (fun z hz => hx z (by simp [hz])) (fun z hz => hy z (by simp [hz])) h1 h2]
    · rw [if_neg e] at h1 h2
      have := t.tot a b (hx a (by simp)) (hy b (by simp)) h1 h2
      exact absurd ((eqB_ord (hx a (by simp)) (hy b (by simp))).mpr this) e
theorem lexD_tr {n : Nat} (t : TOk n) : ∀ (x y z : List D), (∀ a ∈ x, ordk n a = true) → (∀ a ∈ y, ordk n a = true) → (∀ a ∈ z, ordk n a = true) → lexD (ltk n) x y = true → lexD (ltk n) y z = true → lexD (ltk n) x z = true
  | [], [], z, _, _, _, h1, _ => by simp [lexD] at h1
  | [], _ :: _, [], _, _, _, _, h2 => by simp [lexD] at h2
  | [], _ :: _, _ :: _, _, _, _, _, _ => by simp [lexD]
  | _ :: _, [], _, _, _, _, h1, _ => by simp [lexD] at h1
  | _ :: _, _ :: _, [], _, _, _, _, h2 => by simp [lexD] at h2
  | a :: x, b :: y, c :: z, hx, hy, hz, h1, h2 => by
    have oa := hx a (by simp)
    have ob := hy b (by simp)
    have oc := hz c (by simp)
    simp only [lexD] at h1 h2 ⊢
    by_cases e1 : eqB a b = true
    · have := (eqB_ord oa ob).mp e1
      subst this
      rw [if_pos e1] at h1
      by_cases e2 : eqB a c = true
      · rw [if_pos e2] at h2 ⊢
        exact lexD_tr t x y z (fun w hw => hx w (by simp [hw])) (fun w hw => hy w (by simp [hw])) (fun w hw => hz w (by simp [hw])) h1 h2
      · rw [if_neg e2] at h2 ⊢; exact h2
    · rw [if_neg e1] at h1
      by_cases e2 : eqB b c = true
      · have := (eqB_ord ob oc).mp e2
        subst this
        rw [if_neg e1]; exact h1
      · rw [if_neg e2] at h2
        have h3 := t.tr a b c oa ob oc h1 h2
        by_cases e3 : eqB a c = true
        · have := (eqB_ord oa oc).mp e3
          subst this
          have := t.asym a a h3
          rw [h3] at this; cases this
        · rw [if_neg e3]; exact h3
theorem ltk_to : ∀ n, TOk n
  | 0 => ⟨fun a b h => by
      cases a <;> cases b <;> simp [ltk] at h ⊢
      omega, fun a b h1 h2 h3 h4 => by
      cases a <;> simp [ordk] at h1
      cases b <;> simp [ordk] at h2
      simp [ltk] at h3 h4
      congr 1; omega, fun a b c h1 h2 h3 h4 h5 => by
      cases a <;> simp [ordk] at h1
      cases b <;> simp [ordk] at h2
      cases c <;> simp [ordk] at h3
      simp [ltk] at h4 h5 ⊢
      omega⟩
  | n + 1 => ⟨fun a b h => by
      obtain ⟨xs, ys, rfl, rfl⟩ := ltk_tup h
      exact lexD_asym eqB_symm (ltk_to n).asym _ _ h, fun a b h1 h2 h3 h4 => by
      obtain ⟨xs, rfl, k1⟩ := ordk_tup h1
      obtain ⟨ys, rfl, k2⟩ := ordk_tup h2
      rw [lexD_tot (ltk_to n) _ _ k1 k2 h3 h4], fun a b c h1 h2 h3 h4 h5 => by
      obtain ⟨xs, rfl, k1⟩ := ordk_tup h1
      obtain ⟨ys, rfl, k2⟩ := ordk_tup h2
      obtain ⟨zs, rfl, k3⟩ := ordk_tup h3
      exact lexD_tr (ltk_to n) _ _ _ k1 k2 k3 h4 h5⟩
theorem ltk_refl {n : Nat} {a : D} : ltk n a a = false := by
  cases h : ltk n a a with
  | false => rfl
  | true => have := (ltk_to n).asym a a h; rw [h] at this; exact this
theorem lexAt_le {e r : Nat → Bool} {lt : D → D → Bool} {z : Bool} : ∀ {as bs : List D} {i : Nat}, (∀ j a b, as[j]? = some a → bs[j]? = some b → e (i + j) = eqB a b ∧ (eqB a b = false → r (i + j) = !lt b a)) → z = decide (as.length ≤ bs.length) → lexAt e r z i (min as.length bs.length) = !lexD lt bs as
  | [], [], i, _, hz => by simp [lexAt, lexD, hz]
  | [], b :: bs, i, _, hz => by simp [lexAt, lexD, hz]
  | a :: as, [], i, _, hz => by simp [lexAt, lexD, hz]
  | a :: as, b :: bs, i, h, hz => by
    obtain ⟨h1, h2⟩ := h 0 a b rfl rfl
    have ih := lexAt_le (e := e) (r := r) (lt := lt) (z := z) (as := as) (bs := bs) (i := i + 1) (fun j x y hx hy => by
      have := h (j + 1) x y (by simpa using hx) (by simpa using hy)
      rwa [show i + (j + 1) = i + 1 + j by omega] at this) (by rw [hz]; simp)
    have hm : min (a :: as).length (b :: bs).length = min as.length bs.length + 1 := by simp <;> omega
    rw [hm, lexAt_succ]
    simp only [Nat.add_zero] at h1 h2
    simp only [lexD]
    rw [eqB_symm b a]
    cases hq : eqB a b with
    | true => rw [hq] at h1; rw [h1, if_pos rfl, if_pos rfl, ih]
    | false => rw [hq] at h1; rw [h1, if_neg (by simp), if_neg (by simp), h2 hq]
theorem rc_ord : ∀ {n : Nat} {v w : Value} {x y : D} {A : Around} {s : Shared}, OrdAt s.heap n v x → OrdAt s.heap n w y → A.units + n < cLine → RcOp .Lt A s v w (ltk n x y) ∧ RcOp .LtE A s v w (!ltk n y x)
  | 0, _, _, _, _, A, s, ⟨i, t, e1, e2⟩, ⟨j, u, e3, e4⟩, hu => by
    subst e1 e2 e3 e4
    refine ⟨RcOp.lt_int i j t u, ?_⟩
    have := RcOp.le_int (A := A) (s := s) i j t u
    have e : decide (i ≤ j) = !ltk 0 (.int j) (.int i) := by
      simp only [ltk]
      by_cases h : j < i
      · simp [h]
      · simp [h]; omega
    rwa [e] at this
  | n + 1, _, _, _, _, A, s, ⟨a, o, vs, m, ds, e, ed, ho, hc, hd, hl, hi⟩, ⟨a2, o2, vs2, m2, es, e2, ed2, ho2, hc2, hd2, hl2, hi2⟩, hu => by
    subst e ed e2 ed2
    have t1 : s.heap.IsTuple a vs := ⟨o, ho, hc, m, hd⟩
    have t2 : s.heap.IsTuple a2 vs2 := ⟨o2, ho2, hc2, m2, hd2⟩
    have s1 : vs.size = ds.length := by rw [← hl]; simp
    have s2 : vs2.size = es.length := by rw [← hl2]; simp
    have at1 : ∀ j (h1 : j < vs.size), OrdAt s.heap n vs[j] (ds.getD j .non) := fun j h1 => by
      refine hi j _ _ ?_ ?_
      · rw [Array.getElem?_toList]; exact Array.getElem?_eq_getElem h1
      · rw [List.getD_eq_getElem?_getD, List.getElem?_eq_getElem (by omega)]; rfl
    have at2 : ∀ j (h1 : j < vs2.size), OrdAt s.heap n vs2[j] (es.getD j .non) := fun j h1 => by
      refine hi2 j _ _ ?_ ?_
      · rw [Array.getElem?_toList]; exact Array.getElem?_eq_getElem h1
      · rw [List.getD_eq_getElem?_getD, List.getElem?_eq_getElem (by omega)]; rfl
    have hu' : A.in1.units + n < cLine := by rw [Around.in1_units]; omega
    have gd : ∀ {l : List D} {j : Nat} {d : D}, l[j]? = some d → l.getD j .non = d := fun {l j d} h => by rw [List.getD_eq_getElem?_getD, h]; rfl
    constructor
    · have R := RcOp.tuples_lt (A := A) (s := s) (e := fun j => eqB (ds.getD j .non) (es.getD j .non)) (r := fun j => ltk n (ds.getD j .non) (es.getD j .non)) t1 t2 (by omega)
        (fun j h1 h2 => OrdAt.eqAt (s := s) (at1 j h1) (at2 j h2) hu') (fun j h1 h2 _ => (rc_ord (at1 j h1) (at2 j h2) hu').1)
      rw [s1, s2, lexAt_lex (lt := ltk n) (fun j x y hx hy => by rw [Nat.zero_add, gd hx, gd hy]; exact ⟨rfl, fun _ => rfl⟩) rfl] at R
      exact R
    · have R := RcOp.tuples_le (A := A) (s := s) (e := fun j => eqB (ds.getD j .non) (es.getD j .non)) (r := fun j => !ltk n (es.getD j .non) (ds.getD j .non)) t1 t2 (by omega)
        (fun j h1 h2 => OrdAt.eqAt (s := s) (at1 j h1) (at2 j h2) hu') (fun j h1 h2 _ => (rc_ord (at1 j h1) (at2 j h2) hu').2)
      rw [s1, s2, lexAt_le (lt := ltk n) (fun j x y hx hy => by rw [Nat.zero_add, gd hx, gd hy]; exact ⟨rfl, fun _ => rfl⟩) rfl] at R
      exact R
theorem OrdAt.of_rp {X : Cx} {cl : String → Addr} {F : Sets} {H : Hp} {pins : List (Addr × Obj)} {σ : L2.St} {s : Shared} (I : Inv X pins σ H s) : ∀ {n : Nat} {d : D} {v : V} {f : Sets} {u : Value}, Rp X.K cl F H d v f → ordk n d = true → RelV v u → OrdAt s.heap n u d
  | 0, d, v, f, u, r, h, rv => by
    cases d <;> simp [ordk] at h
    simp only [Rp] at r
    subst r
    obtain ⟨t, rfl⟩ := rv
    exact ⟨_, t, rfl, rfl⟩
  | n + 1, d, v, f, u, r, h, rv => by
    obtain ⟨xs, rfl, k⟩ := ordk_tup h
    simp only [Rp] at r
    obtain ⟨a, vs, rfl, hq, rs⟩ := r
    obtain rfl : u = Value.ref a := rv
    obtain ⟨its, rv2, ht, _⟩ := I.tuple hq
    obtain ⟨o, ho, hc, m, hd⟩ := ht
    refine ⟨a, o, _, m, xs, rfl, rfl, ho, hc, hd, ?_, fun j x y hx hy => ?_⟩
    · rw [List.toList_toArray, ← rv2.length, rs.length]
    · rw [List.toList_toArray] at hx
      obtain ⟨w, hw, rw_⟩ := rs.get hy
      obtain ⟨x', hx', hr⟩ := rv2.get hw
      rw [hx] at hx'
      cases hx'
      exact OrdAt.of_rp I rw_ (k y (List.mem_of_getElem? hy)) hr
end
theorem ordN_inv {xs : List D} {n : Nat} (h : ordN xs = some n) : n ≤ 3 ∧ ∀ x ∈ xs, ordk n x = true := by
  unfold ordN at h
  split at h
  · rename_i h1; cases h; exact ⟨by omega, List.all_eq_true.mp h1⟩
  · split at h
    · rename_i h1; cases h; exact ⟨by omega, List.all_eq_true.mp h1⟩
    · split at h
      · rename_i h1; cases h; exact ⟨by omega, List.all_eq_true.mp h1⟩
      · cases h
theorem ordN_pos {xs : List D} {n : Nat} (h : ordN xs = some n) : 1 ≤ n := by
  unfold ordN at h
  split at h
  · cases h; omega
  · split at h
    · cases h; omega
    · split at h
      · cases h; omega
      · cases h
theorem ord_inv {a b : D} {f : Nat → Bool} {k : Bool} (e : (ordN [a, b]).map f = some k) : ∃ n, n ≤ 3 ∧ n ≤ 3 ∧ ordk n a = true ∧ ordk n b = true ∧ k = f n := by
  simp only [Option.map_eq_some_iff] at e
  obtain ⟨n, hn, rfl⟩ := e
  obtain ⟨h1, h2⟩ := ordN_inv hn
  exact ⟨n, h1, h1, h2 a (by simp), h2 b (by simp), rfl⟩
theorem int_is {P : Program} {w : World} {i : Int} {t : Tok} : (intKind P w).is i (.int i t) = true := by
  show Value.isInt i (.int i t) = true
  simp [Value.isInt]
theorem isK_any {i : Int} {kvs : List (Key × V)} {is : List Int} (h : kvs.map (·.1) = is.map Sum.inl) : (is.map D.int).any (isK i) = (valV kvs (Sum.inl i)).isSome := by
  rw [← valV_any]
  have e : (kvs.any fun kv => decide (kv.1 = Sum.inl i)) = (kvs.map (·.1)).any fun k => decide (k = Sum.inl i) := by rw [List.any_map]; rfl
  rw [e, h, List.any_map, List.any_map]
  congr 1
  funext j
  simp [isK]
theorem memK_ok {X : Cx} (hu : X.A.units + 64 < cLine) {pins : List (Addr × Obj)} {s : Shared} {σ : L2.St} {x y : V} {v u : Value} {Q : VK} (I : Inv X pins σ H s) (rx : RelV x v) (ry : RelV y u)
    {d e : D} {f g : Sets} {k : Bool} (ra : Rp X.K cl F H d x f) (he : memK e d = some k) (rb : Rp X.K cl F H e y g) :
    (Q (.bl k) H → wpAny (model X.prog X.w) X.A (compareOp .In v u) (EP X pins σ Q) X.xe s) ∧ (Q (.bl (!k)) H → wpAny (model X.prog X.w) X.A (compareOp .NotIn v u) (EP X pins σ Q) X.xe s) := by
  unfold memK at he
  split at he
  · rename_i t xs i
    cases he
    simp only [Rp] at ra
    subst ra
    obtain ⟨tk, rfl⟩ := rx
    obtain ⟨a, S, rfl, hs, hS⟩ : ∃ a S, y = .ref a ∧ H a = some (.set S xs.length) ∧ ∀ k, S k = decide (k ∈ xs) := by
      cases t with
      | own => simp only [Rp] at rb; obtain ⟨a, S, e1, e2, _, _, e3⟩ := rb; exact ⟨a, S, e1, e2, e3⟩
      | fro => simp only [Rp] at rb; obtain ⟨a, S, e1, _, e2, _, e3⟩ := rb; exact ⟨a, S, e1, e2, e3⟩
      | scr => simp only [Rp] at rb
    cases ry
    have hso : s.heap.SetOf (intKind X.prog X.w) a S xs.length := I.hok a _ hs
    rw [← hS i]
    exact ⟨fun q => wpAny_inSet_of (key := .int i tk) int_is rfl hso ⟨.bl (S i), H, I.tok _, rfl, q⟩, fun q => wpAny_notInSet_of (key := .int i tk) int_is rfl hso ⟨.bl (!S i), H, I.tok _, rfl, q⟩⟩
  · rename_i t ks vs i
    cases he
    simp only [Rp] at ra
    subst ra
    obtain ⟨a, kvs, is, rfl, hs, rfl, hk⟩ : ∃ (a : Addr) (kvs : List (Key × V)) (is : List Int), y = .ref a ∧ H a = some (.dK kvs) ∧ ks = is.map D.int ∧ kvs.map (·.1) = is.map Sum.inl := by
      cases t with
      | own => simp only [Rp] at rb; obtain ⟨a, kvs, is, e1, e2, _, e3, e4, _⟩ := rb; exact ⟨a, kvs, is, e1, e2, e3, e4⟩
      | fro => simp only [Rp] at rb; obtain ⟨a, kvs, is, e1, _, e2, e3, e4, _⟩ := rb; exact ⟨a, kvs, is, e1, e2, e3, e4⟩
      | scr => simp only [Rp] at rb
    cases ry
    have e1 := isK_any (i := i) hk
    rw [e1]
    exact ⟨fun q => d_in (by omega) I (DGet.k (k := Sum.inl i) hs) rx fun s3 I3 => ⟨.bl _, H, I3, rfl, q⟩, fun q => d_notIn (by omega) I (DGet.k (k := Sum.inl i) hs) rx fun s3 I3 => ⟨.bl _, H, I3, rfl, q⟩⟩
  · cases he
theorem op_cmp {X : Cx} (hu : X.A.units + 64 < cLine) {op : CmpOp} : OpR X (compareOp op) (rCmp X.K cl op) := by
  intro pins s σ H x y v u Q I rx ry h
  obtain ⟨F, a, b, f, g, k, ra, rb, e, q⟩ := h
  have eq_ok : ∀ k', eqD a b = some k' → (Q (.bl k') H → wpAny (model X.prog X.w) X.A (compareOp .Eq v u) (EP X pins σ Q) X.xe s) ∧ (Q (.bl (!k')) H → wpAny (model X.prog X.w) X.A (compareOp .NotEq v u) (EP X pins σ Q) X.xe s) := by
    intro k' e
    unfold eqD at e
    split at e
    · rename_i hp
      cases e
      simp only [Bool.and_eq_true, decide_eq_true_eq] at hp
      obtain ⟨⟨p1, p2⟩, hd⟩ := hp
      obtain ⟨as, r1⟩ := Dp.reads I _ x v (ra.toDp p1) rx
      obtain ⟨bs, r2⟩ := Dp.reads I _ y u (rb.toDp p2) ry
      have hroom : X.A.units + min (toPy a).depth (toPy b).depth < cLine := by
        rw [toPy_depth, toPy_depth]
        omega
      refine ⟨fun q => ?_, fun q => ?_⟩
      · exact SeqAt.compareEq_reads r1 r2 (toPy_lay a p1) (toPy_lay b p2) hroom ⟨.bl _, H, I, rfl, by rw [eqB_py a b p1 p2]; exact q⟩
      · exact SeqAt.compareNe_reads r1 r2 (toPy_lay a p1) (toPy_lay b p2) hroom ⟨.bl _, H, I, rfl, by rw [eqB_py a b p1 p2]; exact q⟩
    · cases e
  unfold cmpD at e
  split at e
  · exact (eq_ok k e).1 q
  · cases h1 : eqD a b with
    | none => rw [h1] at e; cases e
    | some k' =>
      rw [h1] at e; cases e
      exact (eq_ok k' h1).2 q
  · simp only [Rp] at rb; subst rb
    cases e
    exact op_isN pins s σ H _ _ v u Q I rx ry ⟨rfl, by rw [ra.is_non]; exact q⟩
  · simp only [Rp] at rb; subst rb
    cases e
    exact op_notN pins s σ H _ _ v u Q I rx ry ⟨rfl, by rw [ra.is_non]; exact q⟩
  · simp only [Rp] at rb; subst rb
    cases e
    cases ry
    exact is_bool_rel rx ⟨.bl _, H, I, rfl, by rw [ra.is_bl]; exact q⟩
  · simp only [Rp] at rb; subst rb
    cases e
    cases ry
    exact isnot_bool_rel rx ⟨.bl _, H, I, rfl, by rw [ra.is_bl]; exact q⟩
  · exact (mem_ok hu I rx ry ra e (.inl ⟨_, rb⟩)).1 rfl q
  · exact (mem_ok hu I rx ry ra e (.inr rb)).1 rfl q
  · rename_i ds
    cases h1 : memD a ds with
    | none => rw [h1] at e; cases e
    | some k' =>
      rw [h1] at e; cases e
      exact (mem_ok hu I rx ry ra h1 (.inl ⟨_, rb⟩)).2 rfl q
  · rename_i ds
    cases h1 : memD a ds with
    | none => rw [h1] at e; cases e
    | some k' =>
      rw [h1] at e; cases e
      exact (mem_ok hu I rx ry ra h1 (.inr rb)).2 rfl q
  · exact (memK_ok hu I rx ry ra e rb).1 q
  · rename_i t xs
    cases h1 : memK (.iset t xs) a with
    | none => rw [h1] at e; cases e
    | some k' =>
      rw [h1] at e; cases e
      exact (memK_ok hu I rx ry ra h1 rb).2 q
  · exact (memK_ok hu I rx ry ra e rb).1 q
  · rename_i t ks vs
    cases h1 : memK (.dic t ks vs) a with
    | none => rw [h1] at e; cases e
    | some k' =>
      rw [h1] at e; cases e
      exact (memK_ok hu I rx ry ra h1 rb).2 q
  · simp only [Rp] at ra rb
    subst ra rb
    unfold cmpL at e
    split at e
    · cases e
      exact op_lt pins s σ H _ _ v u Q I rx ry ⟨_, _, rfl, rfl, q⟩
    · cases e
      rw [le_cmp] at q
      exact op_le pins s σ H _ _ v u Q I rx ry ⟨_, _, rfl, rfl, q⟩
    · cases e
      rw [gt_cmp] at q
      exact op_gt pins s σ H _ _ v u Q I rx ry ⟨_, _, rfl, rfl, q⟩
    · cases e
      rw [ge_cmp] at q
      exact op_ge pins s σ H _ _ v u Q I rx ry ⟨_, _, rfl, rfl, q⟩
    · cases e
  · split at e
    · rename_i xs ys h1 h2
      cases e
      have e1 := ints_map h1
      have e2 := ints_map h2
      subst e1 e2
      simp only [Rp] at ra rb
      obtain ⟨p, vs, rfl, s1, r1⟩ := ra
      obtain ⟨p', ws, rfl, s2, r2⟩ := rb
      rw [r1.ints] at s1
      rw [r2.ints] at s2
      exact op_ltT (by omega) pins s σ H _ _ v u Q I rx ry ⟨p, p', xs, ys, rfl, rfl, s1, s2, by rw [lexLt_HT]; exact q⟩
    · obtain ⟨n, hn, hle, h1, h2, rfl⟩ := ord_inv e
      exact (rc_ord (OrdAt.of_rp I ra h1 rx) (OrdAt.of_rp I rb h2 ry) (by omega)).1 X.prog X.w X.xe (EP X pins σ Q) ⟨.bl _, H, I, rfl, q⟩
  · split at e
    · rename_i xs ys h1 h2
      cases e
      have e1 := ints_map h1
      have e2 := ints_map h2
      subst e1 e2
      simp only [Rp] at ra rb
      obtain ⟨p, vs, rfl, s1, r1⟩ := ra
      obtain ⟨p', ws, rfl, s2, r2⟩ := rb
      rw [r1.ints] at s1
      rw [r2.ints] at s2
      refine op_leT (by omega) pins s σ H _ _ v u Q I rx ry ⟨p, p', xs, ys, rfl, rfl, s1, s2, ?_⟩
      rw [lexLe_at xs ys _ 0 xs ys rfl rfl (Nat.zero_le _) (Nat.zero_le _) rfl rfl]
      exact q
    · obtain ⟨n, hn, hle, h1, h2, rfl⟩ := ord_inv e
      exact (rc_ord (OrdAt.of_rp I ra h1 rx) (OrdAt.of_rp I rb h2 ry) (by omega)).2 X.prog X.w X.xe (EP X pins σ Q) ⟨.bl _, H, I, rfl, q⟩
  · cases e
end
end Wv

set_option Elab.async false
set_option linter.all false
set_option maxRecDepth 100000
/-! Wv5: subscripts, slices, truth, built-ins by values. -/
namespace Wv
open PySem PySem.Spec PyProof.Rows L2
section
variable {K : PySem.W.Frag} {cl : String → Addr} {F F' : Sets} {H H' : Hp}
theorem ixN_eq (n : Nat) (i : Int) : L2.ixN n i = Wv.ixN n i := rfl
theorem Rps.atI {ds : List D} {vs : List V} {f : Sets} {i : Int} {d : D} (r : Rps K cl F H ds vs f) (e : Wv.atI ds i = some d) : ∃ v, L2.atI vs i = some v ∧ Rp K cl F H d v f := by
  unfold Wv.atI at e
  unfold L2.atI
  rw [r.length] at e
  show ∃ v, ((Wv.ixN vs.length i).bind fun j => vs[j]?) = some v ∧ _
  cases h : Wv.ixN vs.length i with
  | none => rw [h] at e; cases e
  | some j =>
    rw [h] at e
    obtain ⟨v, h1, h2⟩ := r.get (i := j) (by simpa using e)
    exact ⟨v, by simpa using h1, h2⟩
def rIdx (K : PySem.W.Frag) (cl : String → Addr) : R2 := fun x y H Q =>
  ∃ F a b f g d, Rp K cl F H a x f ∧ Rp K cl F H b y g ∧ idxD a b = some d ∧ ∀ v, Rp K cl F H d v f → Q v H
theorem Rp.lst_mono {t : Tg} {ds : List D} {v : V} {f : Sets} (r : Rp K cl F H (.lst t ds) v f) : ∃ a vs, v = .ref a ∧ SqL K H a vs ∧ Rps K cl F H ds vs f := by
  cases t with
  | own =>
    simp only [Rp] at r
    obtain ⟨a, vs, g, e, s, _, _, m, r⟩ := r
    exact ⟨a, vs, e, .inl (.inl s), r.mono m⟩
  | fro =>
    simp only [Rp] at r
    obtain ⟨a, vs, e, _, s, r⟩ := r
    exact ⟨a, vs, e, .inl (.inl s), r.mono fun _ z => z.elim⟩
  | scr =>
    simp only [Rp] at r
    obtain ⟨a, vs, e, s, r⟩ := r
    exact ⟨a, vs, e, s.imp (·.2) id, r.mono fun _ z => z.elim⟩
theorem ix_idx {X : Cx} : IxR X (rIdx X.K cl) := by
  intro value slice pins s σ H x y v u Q I rx ry h hs
  obtain ⟨F, a, b, f, g, d, ra, rb, e, q⟩ := h
  unfold idxD at e
  split at e
  · obtain ⟨p, vs, rfl, s1, r1⟩ := ra.lst_mono
    simp only [Rp] at rb
    subst rb
    obtain ⟨w, e1, e2⟩ := r1.atI e
    exact ix_list value slice pins s σ H _ _ v u Q I rx ry ⟨p, vs, _, w, rfl, rfl, s1, e1, q w e2⟩ hs
  · simp only [Rp] at ra rb
    subst rb
    obtain ⟨p, vs, rfl, s1, r1⟩ := ra
    obtain ⟨w, e1, e2⟩ := r1.atI e
    exact ix_tup value slice pins s σ H _ _ v u Q I rx ry ⟨p, vs, _, w, rfl, rfl, s1, e1, q w e2⟩ hs
  · rename_i z i
    simp only [Rp] at ra rb
    subst ra rb
    split at e
    · rename_i hf
      cases h1 : Wv.atI z.cps.toList i with
      | none => rw [h1] at e; cases e
      | some c =>
        rw [h1] at e; cases e
        exact ix_str value slice pins s σ H _ _ v u Q I rx ry ⟨z, i, c, rfl, rfl, fits_le hf, h1, q _ (by simp only [Rp])⟩ hs
    · cases e
  · cases e
theorem Rps.drop : ∀ {ds : List D} {vs : List V} {f : Sets}, Rps K cl F H ds vs f → ∀ n, Rps K cl F H (ds.drop n) (vs.drop n) f
  | _, _, _, h, 0 => by simpa using h
  | [], vs, f, h, n + 1 => by simp only [Rps] at h; subst h; simp [Rps]
  | d :: ds, vs, f, h, n + 1 => by
    simp only [Rps] at h
    obtain ⟨v, r, p, q, rfl, h1, h2, h3, h4, h5⟩ := h
    simpa using Rps.drop (h2.mono h5) n
theorem Rps.take : ∀ {ds : List D} {vs : List V} {f : Sets}, Rps K cl F H ds vs f → ∀ n, Rps K cl F H (ds.take n) (vs.take n) f
  | _, _, _, h, 0 => by simp [Rps]
  | [], vs, f, h, n + 1 => by simp only [Rps] at h; subst h; simp [Rps]
  | d :: ds, vs, f, h, n + 1 => by
    simp only [Rps] at h
    obtain ⟨v, r, p, q, rfl, h1, h2, h3, h4, h5⟩ := h
    simp only [List.take_succ_cons]
    exact Rps.cons h1 (Rps.take h2 n) h3 h4 h5
theorem sIx_eq (n d : Nat) (o : Option Int) : HT.sIx n d o = Wv.sIx n d o := by cases o <;> rfl
theorem Rps.cut {ds : List D} {vs : List V} {f : Sets} (h : Rps K cl F H ds vs f) (lo hi : Option Int) : Rps K cl F H (Wv.cut ds lo hi) (cutV vs lo hi) f := by
  unfold Wv.cut cutV
  rw [sIx_eq, sIx_eq, h.length]
  exact (h.drop _).take _
theorem stbs_drop : ∀ (ds : List D) (n : Nat), stbs ds = true → stbs (ds.drop n) = true
  | ds, 0, h => by simpa using h
  | [], n + 1, _ => by simp [stbs]
  | d :: ds, n + 1, h => by
    simp only [stbs, Bool.and_eq_true] at h
    simpa using stbs_drop ds n h.2
theorem stbs_take : ∀ (ds : List D) (n : Nat), stbs ds = true → stbs (ds.take n) = true
  | ds, 0, h => by simp [stbs]
  | [], n + 1, _ => by simp [stbs]
  | d :: ds, n + 1, h => by
    simp only [stbs, Bool.and_eq_true] at h
    simp [stbs, h.1, stbs_take ds n h.2]
theorem stbs_cut (ds : List D) (lo hi : Option Int) (h : stbs ds = true) : stbs (Wv.cut ds lo hi) = true := stbs_take _ _ (stbs_drop _ _ h)
theorem stbs_flat (ds : List D) (h : stbs ds = true) : ∀ n : Nat, stbs (List.replicate n ds).flatten = true
  | 0 => by simp [stbs]
  | n + 1 => by simp [List.replicate_succ, stbs_append, h, stbs_flat ds h n]
def rSlc (K : PySem.W.Frag) (cl : String → Addr) : V → Option Int → Option Int → Hp → VK → Prop := fun x lo hi H Q =>
  ∃ F a f d, FD F H ∧ Rp K cl F H a x f ∧ slcD a lo hi = some d ∧ OpPost K cl F H d Q
theorem sl_slc {X : Cx} : L2.SlR X (rSlc X.K cl) := by
  intro pins s σ H x v vl vu lo hi sl Q I rx hs pl pu h
  obtain ⟨F, a, f, d, fd, ra, e, q⟩ := h
  unfold slcD at e
  split at e
  · split at e
    · rename_i st
      cases e
      obtain ⟨p, vs, rfl, s1, r1⟩ := ra.lst_mono
      exact sl_list pins s σ H _ v vl vu lo hi sl Q I rx hs pl pu ⟨p, vs, rfl, s1, q.lst fd ((r1.cut lo hi).stb (stbs_cut _ _ _ st))⟩
    · cases e
  · split at e
    · rename_i ds st
      cases e
      simp only [Rp] at ra
      obtain ⟨p, vs, rfl, s1, r1⟩ := ra
      refine sl_tupA pins s σ H _ v vl vu lo hi sl Q I rx hs pl pu ⟨p, vs, rfl, s1, fun z => ?_, fun _ => q.tup ((r1.cut lo hi).stb (stbs_cut _ _ _ st))⟩
      refine q.val ?_
      simp only [Rp]
      refine ⟨p, vs, rfl, s1, ?_⟩
      have e1 : Wv.cut ds lo hi = ds := by
        unfold Wv.cut
        rw [← sIx_eq, ← sIx_eq, r1.length, z.1, z.2]
        simp [← r1.length]
      rw [e1]
      exact r1.stb st
    · cases e
  · split at e
    · rename_i z hf
      cases e
      simp only [Rp] at ra
      subst ra
      refine sl_str pins s σ H _ v vl vu lo hi sl Q I rx hs pl pu ⟨z, rfl, fits_le hf, ?_⟩
      refine q.val ?_
      simp only [Rp]
      unfold cutS Wv.cut
      rw [sIx_eq, sIx_eq]
      rfl
    · cases e
  · cases e
/-- truth -/
theorem Rp.tru {d : D} {v : V} {f : Sets} {b : Bool} (r : Rp K cl F H d v f) (e : truD d = some b) : TruV K v H b := by
  cases d with
  | non => simp only [Rp] at r; subst r; cases e; rfl
  | bl c => simp only [Rp] at r; subst r; cases e; rfl
  | int i => simp only [Rp] at r; subst r; cases e; rfl
  | str s =>
    simp only [Rp] at r; subst r
    simp only [truD] at e
    split at e
    · rename_i hf
      cases e
      refine ⟨fits_le hf, ?_⟩
      by_cases h : s.length = 0
      · simp [h]
      · have : ((s.length : Int) != 0) = true := by simpa using h
        rw [this]
        simpa using h
    · cases e
  | tup xs =>
    simp only [Rp] at r
    obtain ⟨a, vs, rfl, s1, r1⟩ := r
    cases e
    refine .inr (.inl ⟨vs, s1, ?_⟩)
    have := r1.length
    cases xs <;> cases vs <;> simp at this ⊢
  | lst t xs =>
    obtain ⟨a, vs, rfl, s1, r1⟩ := r.lst_mono
    cases e
    refine .inl ⟨vs, s1, ?_⟩
    have := r1.length
    cases xs <;> cases vs <;> simp at this ⊢
  | obj _ _ _ _ => cases e
  | iset _ _ => cases e
  | dic _ _ _ => cases e
def rUn (K : PySem.W.Frag) (cl : String → Addr) (op : UnaryOp) : V → Hp → VK → Prop := fun x H Q =>
  ∃ F a f d, Rp K cl F H a x f ∧ unD op a = some d ∧ ∀ v, Rp K cl F H d v E0s → Q v H
theorem un_op {X : Cx} {op : UnaryOp} : UnR X (unaryOp op) (rUn X.K cl op) := by
  intro pins s σ H x v Q I rx h
  obtain ⟨F, a, f, d, ra, e, q⟩ := h
  unfold unD at e
  split at e
  · cases e
    simp only [Rp] at ra; subst ra
    exact un_neg pins s σ H _ v Q I rx ⟨_, rfl, q _ (by simp only [Rp])⟩
  · cases e
    simp only [Rp] at ra; subst ra
    exact un_inv pins s σ H _ v Q I rx ⟨_, rfl, q _ (by simp only [Rp])⟩
  · cases e

/-! ### built-in functions -/
/-- item by item; two may show the same nodes -/
def Rws (K : PySem.W.Frag) (cl : String → Addr) (F : Sets) (H : Hp) : List D → List V → Sets → Prop
  | [], vs, _ => vs = []
  | d :: ds, vs, f => ∃ v r, vs = v :: r ∧ Rp K cl F H d v f ∧ Rws K cl F H ds r f
theorem Rws.length : ∀ {ds : List D} {vs : List V} {f : Sets}, Rws K cl F H ds vs f → ds.length = vs.length
  | [], _, _, h => by simp only [Rws] at h; subst h; rfl
  | d :: ds, vs, f, h => by
    simp only [Rws] at h
    obtain ⟨v, r, rfl, _, h2⟩ := h
    simp only [List.length_cons, Rws.length h2]
theorem Rws.stb : ∀ {ds : List D} {vs : List V} {f g : Sets}, Rws K cl F H ds vs f → stbs ds = true → Rps K cl F H ds vs g
  | [], _, _, _, h, _ => by simp only [Rws] at h; simp only [Rps]; exact h
  | d :: ds, vs, f, g, h, m => by
    simp only [Rws] at h
    obtain ⟨v, r, rfl, h1, h2⟩ := h
    simp only [stbs, Bool.and_eq_true] at m
    exact Rps.cons (f := E0s) (g := E0s) (h1.stb m.1) (Rws.stb h2 m.2) (fun _ z => z.elim) (fun _ z => z.elim) fun _ z => z.elim
theorem Rws.kp : ∀ {ds : List D} {vs : List V} {f : Sets}, Rws K cl F H ds vs f → Kp F H f F' H' → Rws K cl F' H' ds vs f
  | [], _, _, h, _ => by simp only [Rws] at h ⊢; exact h
  | d :: ds, vs, f, h, k => by
    simp only [Rws] at h ⊢
    obtain ⟨v, r, e, h1, h2⟩ := h
    exact ⟨v, r, e, h1.kp k, Rws.kp h2 k⟩
theorem Rws.mono : ∀ {ds : List D} {vs : List V} {f g : Sets}, Rws K cl F H ds vs f → (∀ a, f a → g a) → Rws K cl F H ds vs g
  | [], _, _, _, h, _ => by simp only [Rws] at h ⊢; exact h
  | d :: ds, vs, f, g, h, k => by
    simp only [Rws] at h ⊢
    obtain ⟨v, r, e, h1, h2⟩ := h
    exact ⟨v, r, e, h1.mono k, Rws.mono h2 k⟩
theorem Rps.w : ∀ {ds : List D} {vs : List V} {f : Sets}, Rps K cl F H ds vs f → Rws K cl F H ds vs f
  | [], _, _, h => by simp only [Rps] at h; simp only [Rws]; exact h
  | d :: ds, vs, f, h => by
    simp only [Rps] at h
    obtain ⟨v, r, p, q, e, h1, h2, h3, h4, h5⟩ := h
    simp only [Rws]
    exact ⟨v, r, e, h1.mono h4, (Rps.w h2).mono h5⟩
def rBi (K : PySem.W.Frag) (cl : String → Addr) (f : String) : List V → Hp → VK → Prop := fun xs H Q =>
  ∃ F ds g d, FD F H ∧ Rws K cl F H ds xs g ∧ biD f ds = some d ∧ OpPost K cl F H d Q
theorem Rws.one {d : D} {vs : List V} {f : Sets} (r : Rws K cl F H [d] vs f) : ∃ v, vs = [v] ∧ Rp K cl F H d v f := by
  simp only [Rws] at r
  obtain ⟨v, t, rfl, h1, rfl⟩ := r
  exact ⟨v, rfl, h1⟩
theorem Rws.two {d e : D} {vs : List V} {f : Sets} (r : Rws K cl F H [d, e] vs f) : ∃ v w, vs = [v, w] ∧ Rp K cl F H d v f ∧ Rp K cl F H e w f := by
  simp only [Rws] at r
  obtain ⟨v, t, rfl, h1, w, t', rfl, h2, rfl⟩ := r
  exact ⟨v, w, rfl, h1, h2⟩
theorem bls_map : ∀ {ds : List D} {is : List Bool}, bls? ds = some is → ds = is.map .bl
  | [], is, h => by simp [bls?] at h; subst h; rfl
  | d :: ds, is, h => by
    cases d <;> simp [bls?] at h
    obtain ⟨js, h1, rfl⟩ := h
    simp [bls_map h1]
theorem Rps.bls : ∀ {is : List Bool} {vs : List V} {f : Sets}, Rps K cl F H (is.map D.bl) vs f → vs = is.map V.bl
  | [], vs, f, h => by simpa [Rps] using h
  | i :: is, vs, f, h => by
    simp only [List.map_cons, Rps, Rp] at h
    obtain ⟨v, r, _, _, rfl, rfl, h2, _⟩ := h
    rw [Rps.bls h2, List.map_cons]
theorem strs_map : ∀ {ds : List D} {is : List Str}, strs? ds = some is → ds = is.map .str
  | [], is, h => by simp [strs?] at h; subst h; rfl
  | d :: ds, is, h => by
    cases d <;> simp [strs?] at h
    obtain ⟨js, h1, rfl⟩ := h
    simp [strs_map h1]
theorem Rps.strsV : ∀ {is : List Str} {vs : List V} {f : Sets}, Rps K cl F H (is.map D.str) vs f → vs = is.map V.str
  | [], vs, f, h => by simpa [Rps] using h
  | i :: is, vs, f, h => by
    simp only [List.map_cons, Rps, Rp] at h
    obtain ⟨v, r, _, _, rfl, rfl, h2, _⟩ := h
    rw [Rps.strsV h2, List.map_cons]
theorem Rps.of_ints (is : List Int) : Rps K cl F H (is.map D.int) (is.map V.int) E0s := by
  induction is with
  | nil => simp [Rps]
  | cons i is ih => exact Rps.cons (f := E0s) (g := E0s) (by simp only [Rp]) ih (fun _ z => z.elim) (fun _ z => z.elim) fun _ z => z.elim
theorem items_at {d : D} {xs : List D} {v : V} {f : Sets} (r : Rp K cl F H d v f) (e : items? d = some xs) : ∃ a vs, v = .ref a ∧ (SqL K H a vs ∨ SqT K H a vs) ∧ Rps K cl F H xs vs f := by
  unfold items? at e
  split at e
  · cases e
    obtain ⟨a, vs, rfl, s1, r1⟩ := r.lst_mono
    exact ⟨a, vs, rfl, .inl s1, r1⟩
  · cases e
    simp only [Rp] at r
    obtain ⟨a, vs, rfl, s1, r1⟩ := r
    exact ⟨a, vs, rfl, .inr s1, r1⟩
  · cases e
theorem Rp.dic_at {t : Tg} {ks ds : List D} {v : V} {f : Sets} (r : Rp K cl F H (.dic t ks ds) v f) : ∃ (a : Addr) (kvs : List (Key × V)) (is : List Int), v = .ref a ∧ H a = some (.dK kvs) ∧ ks = is.map D.int ∧ kvs.map (·.1) = is.map Sum.inl := by
  cases t with
  | own => simp only [Rp] at r; obtain ⟨a, kvs, is, e1, e2, _, e3, e4, _⟩ := r; exact ⟨a, kvs, is, e1, e2, e3, e4⟩
  | fro => simp only [Rp] at r; obtain ⟨a, kvs, is, e1, _, e2, e3, e4, _⟩ := r; exact ⟨a, kvs, is, e1, e2, e3, e4⟩
  | scr => simp only [Rp] at r
theorem bi_len {X : Cx} : CallR X (.builtin "len") (rBi X.K cl "len") := by
  intro pins s σ H xs us Q I rx h
  obtain ⟨F, ds, g, d, fd, rs, e, q⟩ := h
  simp only [biD, if_pos, biD_len] at e
  split at e
  · split at e
    · rename_i hf
      cases e
      obtain ⟨v, rfl, r⟩ := rs.one
      simp only [Rp] at r; subst r
      exact call_len pins s σ H _ us Q I rx ⟨_, _, rfl, ⟨fits_le hf, rfl⟩, q.val (by simp only [Rp])⟩
    · cases e
  · cases e
    obtain ⟨v, rfl, r⟩ := rs.one
    obtain ⟨a, vs, rfl, s1, r1⟩ := r.lst_mono
    exact call_len pins s σ H _ us Q I rx ⟨_, _, rfl, .inl ⟨vs, s1, rfl⟩, q.val (by simp only [Rp]; rw [r1.length])⟩
  · cases e
    obtain ⟨v, rfl, r⟩ := rs.one
    simp only [Rp] at r
    obtain ⟨a, vs, rfl, s1, r1⟩ := r
    exact call_len pins s σ H _ us Q I rx ⟨_, _, rfl, .inr ⟨vs, s1, rfl⟩, q.val (by simp only [Rp]; rw [r1.length])⟩
  · cases e
    obtain ⟨v, rfl, r⟩ := rs.one
    obtain ⟨a, kvs, is, rfl, hs, rfl, hk⟩ := r.dic_at
    exact call_lenD pins s σ H _ us Q I rx ⟨a, kvs, rfl, hs, q.val (by
      have := congrArg List.length hk
      simp only [List.length_map] at this
      simp only [Rp, List.length_map, this])⟩
  · cases e
theorem bi_int {X : Cx} : CallR X (.type "int") (rBi X.K cl "int") := by
  intro pins s σ H xs us Q I rx h
  obtain ⟨F, ds, g, d, fd, rs, e, q⟩ := h
  simp only [biD, biD_int, String.reduceEq, if_false, if_true] at e
  split at e
  · cases e
    obtain ⟨v, rfl, r⟩ := rs.one
    simp only [Rp] at r; subst r
    exact call_int1 pins s σ H _ us Q I rx (.inl ⟨_, rfl, q.val (by simp only [Rp])⟩)
  · cases e
    obtain ⟨v, rfl, r⟩ := rs.one
    simp only [Rp] at r; subst r
    exact call_int1 pins s σ H _ us Q I rx (.inr ⟨_, rfl, q.val (by simp only [Rp])⟩)
  · cases e
theorem bi_str {X : Cx} : CallR X (.type "str") (rBi X.K cl "str") := by
  intro pins s σ H xs us Q I rx h
  obtain ⟨F, ds, g, d, fd, rs, e, q⟩ := h
  simp only [biD, biD_str, String.reduceEq, if_false, if_true] at e
  split at e
  · split at e
    · rename_i hf
      cases e
      obtain ⟨v, rfl, r⟩ := rs.one
      simp only [Rp] at r; subst r
      exact call_str_int pins s σ H _ us Q I rx ⟨_, rfl, hf, q.val (by simp only [Rp])⟩
    · cases e
  · cases e
theorem bi_abs {X : Cx} : CallR X (.builtin "abs") (rBi X.K cl "abs") := by
  intro pins s σ H xs us Q I rx h
  obtain ⟨F, ds, g, d, fd, rs, e, q⟩ := h
  simp only [biD, biD_abs, String.reduceEq, if_false, if_true] at e
  split at e
  · cases e
    obtain ⟨v, rfl, r⟩ := rs.one
    simp only [Rp] at r; subst r
    exact call_abs pins s σ H _ us Q I rx ⟨_, rfl, q.val (by simp only [Rp])⟩
  · cases e
theorem maxI_ok : ∀ {ns : List Int} {m : Int}, maxI ns = some m → m ∈ ns ∧ ∀ y ∈ ns, y ≤ m := by
  intro ns m h
  cases ns with
  | nil => cases h
  | cons x xs =>
    simp only [maxI, Option.some.injEq] at h
    have key : ∀ (xs : List Int) (x : Int), (xs.foldl (fun m y => if y > m then y else m) x) ∈ x :: xs ∧ (∀ y ∈ x :: xs, y ≤ xs.foldl (fun m y => if y > m then y else m) x) := by
      intro xs
      induction xs with
      | nil => intro x; simp
      | cons z zs ih =>
        intro x
        simp only [List.foldl_cons]
        obtain ⟨h1, h2⟩ := ih (if z > x then z else x)
        refine ⟨?_, fun y hy => ?_⟩
        · rcases List.mem_cons.mp h1 with e | e
          · rw [e]
            split <;> simp
          · exact List.mem_cons_of_mem _ (List.mem_cons_of_mem _ e)
        · have hm := h2 (if z > x then z else x) List.mem_cons_self
          have hx : x ≤ (if z > x then z else x) := by split <;> omega
          have hz : z ≤ (if z > x then z else x) := by split <;> omega
          rcases List.mem_cons.mp hy with e | hy
          · subst e
            exact Int.le_trans hx hm
          · rcases List.mem_cons.mp hy with e | hy
            · subst e
              exact Int.le_trans hz hm
            · exact h2 y (List.mem_cons_of_mem _ hy)
    rw [← h]
    exact key xs x
theorem minI_ok : ∀ {ns : List Int} {m : Int}, minI ns = some m → m ∈ ns ∧ ∀ y ∈ ns, m ≤ y := by
  intro ns m h
  cases ns with
  | nil => cases h
  | cons x xs =>
    simp only [minI, Option.some.injEq] at h
    have key : ∀ (xs : List Int) (x : Int), (xs.foldl (fun m y => if y < m then y else m) x) ∈ x :: xs ∧ (∀ y ∈ x :: xs, xs.foldl (fun m y => if y < m then y else m) x ≤ y) := by
      intro xs
      induction xs with
      | nil => intro x; simp
      | cons z zs ih =>
        intro x
        simp only [List.foldl_cons]
        obtain ⟨h1, h2⟩ := ih (if z < x then z else x)
        refine ⟨?_, fun y hy => ?_⟩
        · rcases List.mem_cons.mp h1 with e | e
          · rw [e]
            split <;> simp
          · exact List.mem_cons_of_mem _ (List.mem_cons_of_mem _ e)
        · have hm := h2 (if z < x then z else x) List.mem_cons_self
          have hx : (if z < x then z else x) ≤ x := by split <;> omega
          have hz : (if z < x then z else x) ≤ z := by split <;> omega
          rcases List.mem_cons.mp hy with e | hy
          · subst e
            exact Int.le_trans hm hx
          · rcases List.mem_cons.mp hy with e | hy
            · subst e
              exact Int.le_trans hm hz
            · exact h2 y (List.mem_cons_of_mem _ hy)
    rw [← h]
    exact key xs x
theorem bi_max {X : Cx} (hc : X.calm = true) : CallR X (.builtin "max") (rBi X.K cl "max") := by
  intro pins s σ H xs us Q I rx h
  obtain ⟨F, ds, g, d, fd, rs, e, q⟩ := h
  simp only [biD, biD_max, String.reduceEq, if_false, if_true] at e
  split at e
  · cases e
    obtain ⟨v, w, rfl, r1, r2⟩ := rs.two
    simp only [Rp] at r1 r2; subst r1 r2
    exact call_max2 hc pins s σ H _ us Q I rx ⟨_, _, rfl, q.val (by simp only [Rp])⟩
  · rename_i ds
    obtain ⟨v, rfl, r⟩ := rs.one
    obtain ⟨a, vs, rfl, s1, r1⟩ := r.lst_mono
    cases h1 : ints? ds with
    | none => rw [h1] at e; cases e
    | some is =>
      rw [h1] at e
      cases h2 : maxI is with
      | none => simp [h2] at e
      | some m =>
        simp [h2] at e
        subst e
        have e1 := ints_map h1
        subst e1
        rw [r1.ints] at s1
        obtain ⟨m1, m2⟩ := maxI_ok h2
        refine cr_max hc pins s σ H _ us Q I rx ⟨a, is, rfl, s1, List.length_pos_of_mem m1, fun m' k1 k2 => ?_⟩
        have : m' = m := Int.le_antisymm (m2 _ k1) (k2 _ m1)
        subst this
        exact q.val (by simp only [Rp])
  · cases e
theorem bi_min {X : Cx} (hc : X.calm = true) : CallR X (.builtin "min") (rBi X.K cl "min") := by
  intro pins s σ H xs us Q I rx h
  obtain ⟨F, ds, g, d, fd, rs, e, q⟩ := h
  simp only [biD, biD_min, String.reduceEq, if_false, if_true] at e
  split at e
  · cases e
    obtain ⟨v, w, rfl, r1, r2⟩ := rs.two
    simp only [Rp] at r1 r2; subst r1 r2
    exact call_min2 hc pins s σ H _ us Q I rx ⟨_, _, rfl, q.val (by simp only [Rp])⟩
  · rename_i i j k
    cases e
    simp only [Rws] at rs
    obtain ⟨v, t, rfl, r1, v2, t2, rfl, r2, v3, t3, rfl, r3, rfl⟩ := rs
    simp only [Rp] at r1 r2 r3; subst r1 r2 r3
    have q1 := q.val (v := .int (if k < (if j < i then j else i) then k else (if j < i then j else i))) (by simp only [Rp])
    refine call_min3Nu hc pins s σ H _ us Q I rx ⟨_, _, _, _, rfl, ?_, q1⟩
    show (some (if decide (j < i) = true then V.int j else V.int i)).bind (fun m => nuMin2 m (.int k)) = _
    have hlt : ∀ a b : Int, nuLt (.int a) (.int b) = some (decide (a < b)) := fun _ _ => rfl
    by_cases h1 : j < i
    · by_cases h2 : k < j
      · simp [h1, h2, nuMin2, hlt]
      · simp [h1, h2, nuMin2, hlt]
    · by_cases h2 : k < i
      · simp [h1, h2, nuMin2, hlt]
      · simp [h1, h2, nuMin2, hlt]
  · rename_i ds
    obtain ⟨v, rfl, r⟩ := rs.one
    obtain ⟨a, vs, rfl, s1, r1⟩ := r.lst_mono
    cases h1 : ints? ds with
    | none => rw [h1] at e; cases e
    | some is =>
      rw [h1] at e
      cases h2 : minI is with
      | none => simp [h2] at e
      | some m =>
        simp [h2] at e
        subst e
        have e1 := ints_map h1
        subst e1
        rw [r1.ints] at s1
        obtain ⟨m1, m2⟩ := minI_ok h2
        refine cr_min hc pins s σ H _ us Q I rx ⟨a, is, rfl, s1, List.length_pos_of_mem m1, fun m' k1 k2 => ?_⟩
        have : m' = m := Int.le_antisymm (k2 _ m1) (m2 _ k1)
        subst this
        exact q.val (by simp only [Rp])
  · cases e
theorem bi_sum {X : Cx} (hc : X.calm = true) : CallR X (.builtin "sum") (rBi X.K cl "sum") := by
  intro pins s σ H xs us Q I rx h
  obtain ⟨F, ds, g, d, fd, rs, e, q⟩ := h
  simp only [biD, biD_sum, String.reduceEq, if_false, if_true] at e
  split at e
  · rename_i ds
    obtain ⟨v, rfl, r⟩ := rs.one
    obtain ⟨a, vs, rfl, s1, r1⟩ := r.lst_mono
    cases h1 : ints? ds with
    | none => rw [h1] at e; cases e
    | some is =>
      rw [h1] at e
      cases e
      have e1 := ints_map h1
      subst e1
      rw [r1.ints] at s1
      exact cr_sum hc pins s σ H _ us Q I rx ⟨a, is, rfl, s1, q.val (by simp only [Rp])⟩
  · cases e
theorem bi_all {X : Cx} (hc : X.calm = true) : CallR X (.builtin "all") (rBi X.K cl "all") := by
  intro pins s σ H xs us Q I rx h
  obtain ⟨F, ds, g, d, fd, rs, e, q⟩ := h
  simp only [biD, biD_all, String.reduceEq, if_false, if_true] at e
  split at e
  · rename_i ds
    obtain ⟨v, rfl, r⟩ := rs.one
    obtain ⟨a, vs, rfl, s1, r1⟩ := r.lst_mono
    cases h1 : bls? ds with
    | none => rw [h1] at e; cases e
    | some is =>
      rw [h1] at e
      cases e
      have e1 := bls_map h1
      subst e1
      rw [r1.bls] at s1
      exact cr_all hc pins s σ H _ us Q I rx ⟨a, is, rfl, s1, q.val (by simp only [Rp])⟩
  · cases e
theorem bi_any {X : Cx} (hc : X.calm = true) : CallR X (.builtin "any") (rBi X.K cl "any") := by
  intro pins s σ H xs us Q I rx h
  obtain ⟨F, ds, g, d, fd, rs, e, q⟩ := h
  simp only [biD, biD_any, String.reduceEq, if_false, if_true] at e
  split at e
  · rename_i ds
    obtain ⟨v, rfl, r⟩ := rs.one
    obtain ⟨a, vs, rfl, s1, r1⟩ := r.lst_mono
    cases h1 : bls? ds with
    | none => rw [h1] at e; cases e
    | some is =>
      rw [h1] at e
      cases e
      have e1 := bls_map h1
      subst e1
      rw [r1.bls] at s1
      exact cr_any hc pins s σ H _ us Q I rx ⟨a, is, rfl, s1, q.val (by simp only [Rp])⟩
  · cases e
theorem bi_tuple {X : Cx} : CallR X (.type "tuple") (rBi X.K cl "tuple") := by
  intro pins s σ H xs us Q I rx h
  obtain ⟨F, ds, g, d, fd, rs, e, q⟩ := h
  simp only [biD, biD_tuple, String.reduceEq, if_false, if_true] at e
  split at e
  · split at e
    · rename_i st
      cases e
      obtain ⟨v, rfl, r⟩ := rs.one
      obtain ⟨a, vs, rfl, s1, r1⟩ := r.lst_mono
      exact call_tuple_of pins s σ H _ us Q I rx ⟨a, vs, rfl, .inl ⟨s1, q.tup (r1.stb st)⟩⟩
    · cases e
  · split at e
    · rename_i st
      cases e
      obtain ⟨v, rfl, r⟩ := rs.one
      simp only [Rp] at r
      obtain ⟨a, vs, rfl, s1, r1⟩ := r
      exact call_tuple_of pins s σ H _ us Q I rx ⟨a, vs, rfl, .inr ⟨s1, q.val (by simp only [Rp]; exact ⟨a, vs, rfl, s1, r1.stb st⟩)⟩⟩
    · cases e
  · cases e
theorem bi_list {X : Cx} (hc : X.calm = true) : CallR X (.type "list") (rBi X.K cl "list") := by
  intro pins s σ H xs us Q I rx h
  obtain ⟨F, ds, g, d, fd, rs, e, q⟩ := h
  simp only [biD, biD_list, String.reduceEq, if_false, if_true] at e
  split at e
  · split at e
    · rename_i st
      cases e
      obtain ⟨v, rfl, r⟩ := rs.one
      obtain ⟨a, vs, rfl, s1, r1⟩ := r.lst_mono
      exact call_list_of pins s σ H _ us Q I rx ⟨a, vs, rfl, .inl s1, q.lst fd (r1.stb st)⟩
    · cases e
  · split at e
    · rename_i st
      cases e
      obtain ⟨v, rfl, r⟩ := rs.one
      simp only [Rp] at r
      obtain ⟨a, vs, rfl, s1, r1⟩ := r
      exact call_list_of pins s σ H _ us Q I rx ⟨a, vs, rfl, .inr s1, q.lst fd (r1.stb st)⟩
    · cases e
  · split at e
    · cases e
      obtain ⟨v, rfl, r⟩ := rs.one
      obtain ⟨a, kvs, is, rfl, hs, rfl, hk⟩ := r.dic_at
      refine call_list_dK hc pins s σ H _ us Q I rx ⟨a, kvs, rfl, hs, ?_⟩
      have e1 : (kvs.map fun kv => kV kv.1) = is.map V.int := by
        have : (kvs.map fun kv => kV kv.1) = (kvs.map (·.1)).map kV := by rw [List.map_map]; rfl
        rw [this, hk, List.map_map]
        rfl
      rw [e1]
      exact q.lst fd (Rps.of_ints is)
    · cases e
  · cases e
end
/-! ### sets of ints -/
theorem mem_insI {x k : Int} : ∀ {xs : List Int}, k ∈ insI x xs ↔ k = x ∨ k ∈ xs
  | [] => by simp [insI]
  | y :: ys => by
    unfold insI
    split
    · simp
    · split
      · rename_i h; subst h; simp
      · simp only [List.mem_cons, mem_insI (xs := ys)]
        constructor
        · rintro (h | h | h)
          · exact .inr (.inl h)
          · exact .inl h
          · exact .inr (.inr h)
        · rintro (h | h | h)
          · exact .inr (.inl h)
          · exact .inl h
          · exact .inr (.inr h)
theorem insI_asc {x : Int} : ∀ {xs : List Int}, xs.Pairwise (· < ·) → (insI x xs).Pairwise (· < ·)
  | [], _ => by simp [insI]
  | y :: ys, h => by
    have h1 := List.pairwise_cons.mp h
    unfold insI
    split
    · rename_i hx
      refine List.pairwise_cons.mpr ⟨fun z hz => ?_, h⟩
      rcases List.mem_cons.mp hz with rfl | hz
      · exact hx
      · exact Int.lt_trans hx (h1.1 z hz)
    · split
      · exact h
      · refine List.pairwise_cons.mpr ⟨fun z hz => ?_, insI_asc h1.2⟩
        rcases mem_insI.mp hz with rfl | hz
        · omega
        · exact h1.1 z hz
theorem insI_len {x : Int} : ∀ {xs : List Int}, xs.Pairwise (· < ·) → (insI x xs).length = if x ∈ xs then xs.length else xs.length + 1
  | [], _ => by simp [insI]
  | y :: ys, h => by
    have h1 := List.pairwise_cons.mp h
    unfold insI
    split
    · rename_i hx
      have : x ∉ y :: ys := fun z => by
        rcases List.mem_cons.mp z with rfl | z
        · omega
        · have := h1.1 _ z; omega
      rw [if_neg this]
      rfl
    · split
      · rename_i hx; subst hx
        simp
      · rename_i hx hy
        rw [List.length_cons, insI_len h1.2]
        by_cases hm : x ∈ ys
        · simp [hm]
        · simp [hm, hy]
theorem dedup_ins : ∀ (l ks xs : List Int), xs.Pairwise (· < ·) → (∀ k, k ∈ ks ↔ k ∈ xs) → ks.length = xs.length →
    (l.foldl (fun a i => insI i a) xs).Pairwise (· < ·) ∧ (∀ k, k ∈ l.foldl PyProof.Rows.step_dedup ks ↔ k ∈ l.foldl (fun a i => insI i a) xs) ∧ (l.foldl PyProof.Rows.step_dedup ks).length = (l.foldl (fun a i => insI i a) xs).length
  | [], ks, xs, h1, h2, h3 => ⟨h1, h2, h3⟩
  | i :: l, ks, xs, h1, h2, h3 => by
    simp only [List.foldl_cons]
    have ha : ∀ k, (ks.any (· == k)) = decide (k ∈ ks) := fun k => by
      rw [Bool.eq_iff_iff]; simp
    refine dedup_ins l _ _ (insI_asc h1) (fun k => ?_) ?_
    · have := PyProof.Rows.step_any ks i k
      rw [ha, Bool.eq_iff_iff] at this
      simp only [List.any_eq_true, beq_iff_eq, exists_eq_right, Bool.or_eq_true, decide_eq_true_eq] at this
      rw [this, mem_insI, h2]
      exact Or.comm
    · rw [PyProof.Rows.step_length, insI_len h1, ha, h3]
      by_cases hm : i ∈ xs
      · simp [hm, (h2 i).2 hm]
      · have hm' : i ∉ ks := fun z => hm ((h2 i).1 z)
        simp [hm, hm']
theorem ints_rw {K : PySem.W.Frag} {cl : String → Addr} {F : Sets} {H : Hp} : ∀ {is : List Int} {vs : List V} {f : Sets} {us : List Value}, Rps K cl F H (is.map D.int) vs f → Vals vs us → PyProof.Rows.IntsAre us is
  | [], vs, f, us, r, w => by
    simp only [List.map_nil, Rps] at r; subst r
    cases w
    exact .nil
  | i :: is, vs, f, us, r, w => by
    simp only [List.map_cons, Rps] at r
    obtain ⟨v, r0, f1, g1, rfl, r1, r2, _⟩ := r
    simp only [Rp] at r1; subst r1
    cases w with
    | cons q w =>
      obtain ⟨t, rfl⟩ := q
      exact .cons _ _ (ints_rw r2 w)
section
variable {K : PySem.W.Frag} {cl : String → Addr}
theorem bi_set {X : Cx} (hc : X.calm = true) : CallR X (.type "set") (rBi X.K cl "set") := by
  intro pins s σ H xs us Q I rx h
  obtain ⟨F, ds, g, d, fd, rs, e, q⟩ := h
  simp only [biD, biD_set, String.reduceEq, if_false, if_true] at e
  split at e
  · split at e
    · rename_i is his
      split at e
      · rename_i hlen
        cases e
        obtain ⟨v, rfl, r⟩ := rs.one
        obtain ⟨a, vs, rfl, s1, r1⟩ := r.lst_mono
        rw [ints_map his] at r1
        obtain ⟨its, rv, pl, hz⟩ := I.list s1
        rw [Vals.ref1 rx]
        have hl1 := r1.length
        have hl2 := rv.length
        simp only [List.length_map] at hl1
        have hn : H s.heap.objs.size = none := I.hok.fresh (Nat.le_refl _)
        refine PySem.call_set_list (ns := is) (I.ok.hd hc) pl.isList (by simpa using ints_rw r1 rv) (by simp only [List.size_toArray]; rw [← hl2, ← hl1]; show is.length + 1 < 4096; omega) fun h' tk hS hk => ?_
        obtain ⟨k1, k2, k3⟩ := dedup_ins is [] [] .nil (fun _ => Iff.rfl) rfl
        have e1 : PyProof.Rows.firstMet (fun i => is.getD i 0) its.toArray.size = is.foldl PyProof.Rows.step_dedup [] := by
          have e : (List.range is.length).map (fun i => is.getD i 0) = is := by
            apply List.ext_getElem
            · rw [List.length_map, List.length_range]
            · intro i h1 h2
              rw [List.getElem_map, List.getElem_range, List.getD_eq_getElem?_getD, List.getElem?_eq_getElem h2]
              rfl
          have : its.toArray.size = is.length := by simp only [List.size_toArray]; omega
          rw [this]
          unfold PyProof.Rows.firstMet
          rw [e]
        rw [e1] at hS
        generalize is.foldl PyProof.Rows.step_dedup [] = ks at hS k2 k3
        generalize is.foldl (fun a i => insI i a) [] = zs at k1 k2 k3 q
        rw [k3] at hS
        refine ⟨.ref s.heap.objs.size, upd H s.heap.objs.size (.set (fun k' => ks.any (· == k')) zs.length), I.laid (t' := tk) (fun b o q => hk b o (Heap.lt_size q) q) (Nat.le_refl _) hS, rfl, ?_⟩
        refine q _ F _ (fun a => a = s.heap.objs.size) (Gr.alloc0 hn) ?_ fun a z => by
          subst z
          exact ⟨hn, fun z => fd _ z hn, by rw [upd_same]; trivial⟩
        simp only [Rp]
        refine ⟨_, _, rfl, upd_same, rfl, k1, fun k => ?_⟩
        rw [Bool.eq_iff_iff, decide_eq_true_eq, ← k2 k]
        simp
      · cases e
    · cases e
  · cases e
end
end Wv

set_option Elab.async false
set_option linter.all false
set_option maxRecDepth 100000
/-! Wv5b: tuple(reversed(x)), x a tuple or a list. -/
namespace Wv
open PySem PySem.Spec PyProof.Rows L2 RT
theorem rt_nolen : typeLookup (.type "reversed") "__len__" = pure none := by
  rw [typeLookup_type, builtinLookup_eq_fast] <;> kernel_rfl
theorem rt_slot_hint : SlotG "reversed" "__length_hint__" "reversed.__length_hint__" := .of (owner := "reversed") (n := "__length_hint__") (by rw [typeLookup_type, builtinLookup_eq_fast] <;> kernel_rfl) (by decide +kernel) (by decide +kernel) (by decide +kernel) (.inr (by decide +kernel)) (by rw [isSubtype_type] <;> kernel_rfl)
theorem rt_plain_hint : plainId "reversed.__length_hint__" = true := by decide +kernel
theorem rt_entry_hint : entryFor table "reversed.__length_hint__" = some Builtin.«reversed.__length_hint__» :=
  entryFor_of_fast (by kernel_rfl)
theorem rt_args_hint (a : Value) : argsOk "reversed.__length_hint__" ⟨[a], []⟩ := by
  unfold argsOk
  rw [signature?_of (id := "reversed.__length_hint__") (n := ['_', '_', 't', 'n', 'i', 'h', '_', 'h', 't', 'g', 'n', 'e', 'l', '_', '_']) (o := ['d', 'e', 's', 'r', 'e', 'v', 'e', 'r']) (by kernel_rfl) RT.owner_rt] <;> kernel_rfl
section
variable {prog : Program} {w : World} {A : Around} {E : Value → Shared → Prop} {s : Shared}
theorem walks_rt (hh : A.handled = none) (it t : Addr) (hne : t ≠ it) (items : Array Value) (hn : items.size ≤ sizeLine) :
    Walks prog w A it [it, t] [it] items.size (fun i v => items[items.size - 1 - i]? = some v) (fun i h => i ≤ items.size ∧ IsRt h it t ((items.size : Int) - 1 - (i : Int)) ∧ IsTup h t items) where
  sub := fun b hb => by rw [List.mem_singleton.mp hb]; exact List.mem_cons_self
  frame := fun i h h' x hk => by
    obtain ⟨x1, x2, x3⟩ := x
    refine ⟨x1, x2.at fun o e => hk it (by simp) o e, ?_⟩
    obtain ⟨o, e, c⟩ := x3
    exact ⟨o, hk t (by simp) o e, c⟩
  item := fun i s Q E hi x hQ => by
    obtain ⟨x1, hit, x3⟩ := x
    have e : (items.size : Int) - 1 - (i : Int) = ((items.size - 1 - i : Nat) : Int) := by omega
    rw [e] at hit
    have hx := Array.getElem?_eq_getElem (xs := items) (i := items.size - 1 - i) (by omega)
    refine next_rt_item hit x3 hx hn fun h' st sb => ?_
    refine hQ _ h' (s.toks + 1) hx ⟨hi, ?_, ?_⟩ fun b o hb eo => (sb.2 b fun z => hb (by rw [z]; exact List.mem_cons_self)).trans eo
    · rw [show (items.size : Int) - 1 - ((i + 1 : Nat) : Int) = ((items.size - 1 - i : Nat) : Int) - 1 by omega]; exact st
    · obtain ⟨o, eo, c⟩ := x3
      exact ⟨o, (sb.2 t hne).trans eo, c⟩
  done := fun s Q E x hQ => by
    obtain ⟨x1, hit, x3⟩ := x
    rw [show (items.size : Int) - 1 - ((items.size : Nat) : Int) = -1 by omega] at hit
    exact next_rt_end hh hit fun h' eb => hQ h' s.toks fun b o hb eo => eb b o (fun z => hb (by rw [z]; exact List.mem_cons_self)) eo
  self := fun i s Q E x h => iter_rt x.2.1 h
theorem hint_rt {it t : Addr} {items : Array Value} {Q : Bool → Shared → Prop} (hit : IsRt s.heap it t ((items.size : Int) - 1)) (ht : IsTup s.heap t items) (hn : items.size ≤ sizeLine)
    (hQ : ∀ b k, Q b { s with toks := k }) : wpAny (model prog w) A (Builtin.List.listLengthHint (.ref it)) Q E s := by
  unfold Builtin.List.listLengthHint
  have hT := hit.typeIs
  refine wpAny_bind (wpAny_specialOf hT rt_nolen ?_)
  show wpAny _ _ (specialOf (.ref it) (Str.ofString "__length_hint__") >>= _) _ _ _
  refine wpAny_bind (wpAny_specialOf hT rt_slot_hint.lookup ?_)
  generalize hid : ("reversed.__length_hint__" : String) = id0
  wp_delta
  rw [show splitId id0 = some ("reversed", "__length_hint__") from by subst hid <;> decide +kernel]
  subst hid
  refine wpAny_bind (wpAny_isInstance (b := true) hT (by rw [isSubtype_type] <;> kernel_rfl) ?_)
  rw [if_neg (by decide)]
  try dsimp only
  rw [if_neg (by decide +kernel)]
  refine wpAny_bind (wpAny_rule ?_)
  simp only [rt_slot_hint.bind]
  refine wpAny_bind (wpAny_pure (wpAny_bind (wpAny_attempt (wpAny_call (codeAny_call_builtin rt_plain_hint rt_entry_hint (rt_slot_hint.check _ _ _ _ _ _ _ _ hT (rt_args_hint _) ?_))))))
  unfold Builtin.«reversed.__length_hint__»
  obtain ⟨o, ho, hc, hd⟩ := id hit
  refine wpAny_bind (wpAny_of_eq (a := Value.ref it) rfl ?_)
  try dsimp only
  refine wpAny_bind (wpAny_field ho hd (x := .ref t) rfl ?_)
  try dsimp only
  rw [if_neg (show ¬ ((Value.ref t == Value.none) = true) from fun z => Bool.false_ne_true z)]
  have hn' := line63
  refine wpAny_bind (len_tuple ht (by omega) ?_)
  refine wpAny_bind (wpAny_of_eq (a := some (items.size : Int)) rfl ?_)
  try dsimp only
  refine wpAny_bind (wpAny_field (s := { s with toks := s.toks + 1 + 1 }) ho hd (x := rawInt ((items.size : Int) - 1)) rfl ?_)
  show wpAny _ _ (if (items.size : Int) < (items.size : Int) - 1 + 1 then _ else _) _ _ _
  rw [if_neg (by omega)]
  have e1 : (items.size : Int) - 1 + 1 = items.size := by omega
  rw [e1]
  generalize hN : (items.size : Int) = N
  unfold retInt
  refine wpAny_bind (wpAny_mkInt ?_)
  unfold ret
  refine wpAny_pure ?_
  dsimp only
  refine wpAny_bind (wpAny_of_eq (a := some N) rfl ?_)
  try dsimp only
  have f1 : Builtin.List.listFitsIndex N = true := by
    unfold Builtin.List.listFitsIndex
    simp only [Bool.and_eq_true, decide_eq_true_eq]
    omega
  have f2 : Builtin.List.listTooLong N.toNat = false := by
    unfold Builtin.List.listTooLong
    rw [decide_eq_false_iff_not]
    omega
  rw [f1, f2, if_neg (by decide), if_neg (by omega), if_neg (by decide)]
  exact wpAny_pure (hQ _ _)
theorem collect_rt {it t : Addr} {items : Array Value} {Q : List Value → Shared → Prop} (hh : A.handled = none) (hit : IsRt s.heap it t ((items.size : Int) - 1)) (ht : IsTup s.heap t items) (hne : t ≠ it) (hn : items.size ≤ sizeLine)
    (hQ : ∀ (h' : Heap) (tk : Nat) (acc : Array Value), (∀ b o, b ≠ it → s.heap.get? b = some o → h'.get? b = some o) → ItemsOf (fun i v => items[items.size - 1 - i]? = some v) acc items.size → Q acc.toList { s with heap := h', toks := tk }) :
    wpAny (model prog w) A (collect (.ref it)) Q E s := by
  have W := (walks_rt (prog := prog) (w := w) (A := A.in1) hh it t hne items hn).toS
  obtain ⟨oi, hoi, _⟩ := id hit
  obtain ⟨ol, hol, _⟩ := id ht
  have n1 : s.heap.objs.size ≠ it := Nat.ne_of_gt (Heap.lt_size hoi)
  have n2 : s.heap.objs.size ≠ t := Nat.ne_of_gt (Heap.lt_size hol)
  have n3 : s.heap.objs.size ∉ [it, t] := fun z => (List.mem_cons.mp z).elim n1 fun z => n2 (List.mem_singleton.mp z)
  unfold collect
  refine wpAny_bind (wpAny_runValue (codeAny_builtin F.entry_proto_collect ?_)); rw [Around.under_plainId F.plain_proto_collect _]
  show wpAny _ A.in1 (newList [] >>= fun c => again (.builtin "list.__iadd__" ⟨[c, .ref it], []⟩)) _ _ s
  refine wpAny_bind (wpAny_newObj_type ?_); refine wpAny_pure ⟨plainId_quiet F.plain_list_iadd _, codeAny_builtin F.entry_list_iadd ?_⟩; rw [Around.under_plainId F.plain_list_iadd _]
  let L0 : Obj := { cls := .type "list", data := .seq ([] : List Value).toArray }
  have k0 : ∀ b o, s.heap.get? b = some o → (s.heap.push L0).get? b = some o := fun b o e => Heap.get?_push_of_some _ e
  have b1 : (s.heap.push L0).get? s.heap.objs.size = some L0 := Heap.get?_push_size _ rfl
  have hit1 : IsRt (s.heap.push L0) it t ((items.size : Int) - 1) := hit.at fun o e => k0 it o e
  have ht1 : IsTup (s.heap.push L0) t items := by
    obtain ⟨o, e, c⟩ := ht
    exact ⟨o, k0 t o e, c⟩
  have hT : ({ s with heap := s.heap.push L0 } : Shared).TypeIs (.ref it) "reversed" := IsRt.typeIs (s := { s with heap := s.heap.push L0 }) hit1
  have h1 : Builtin.List.listSameRef (.ref s.heap.objs.size) (.ref it) = false := by simp [Builtin.List.listSameRef, n1]
  show wpAny _ A.in1 (Builtin.List.listExtendWith (.ref s.heap.objs.size) (.ref it) (.ref s.heap.objs.size)) _ _ { s with heap := s.heap.push L0 }
  unfold Builtin.List.listExtendWith; refine wpAny_bind (wpAny_typeOf hT ?_); rw [if_neg (by rw [h1]; decide)]
  refine wpAny_bind (iter_rt hit1 ?_)
  refine wpAny_bind (wpAny_holding (hint_rt hit1 ht1 hn fun b k => ?_))
  have e0 : (items.size : Int) - 1 - ((0 : Nat) : Int) = (items.size : Int) - 1 := by omega
  try dsimp only
  split
  · skip
    refine wpAny_bind (wpAny_rule (wpAny_bind ?_)); show wpAny _ A.in1 (updateSeq s.heap.objs.size (·.push .none) >>= fun _ => updateSeq s.heap.objs.size (·.pop)) _ _ _
    refine wpAny_bind (wpAny_updateSeq b1 rfl ?_)
    have b2 := Heap.get?_update_self (Obj.mapSeq (·.push Value.none)) b1 rfl
    refine wpAny_updateSeq b2 rfl ?_
    have b3 := Heap.get?_update_self (Obj.mapSeq (·.pop)) b2 rfl
    have oth : ∀ c o, c ≠ s.heap.objs.size → (s.heap.push L0).get? c = some o → (((s.heap.push L0).update s.heap.objs.size (Obj.mapSeq (·.push Value.none))).update s.heap.objs.size (Obj.mapSeq (·.pop))).get? c = some o := fun c o hc e =>
      (Heap.get?_update_other _ _ hc.symm).trans ((Heap.get?_update_other _ _ hc.symm).trans e)
    have hit2 := hit1.at fun o e => oth it o n1.symm e
    have ht2 : IsTup (((s.heap.push L0).update s.heap.objs.size (Obj.mapSeq (·.push Value.none))).update s.heap.objs.size (Obj.mapSeq (·.pop))) t items := by
      obtain ⟨o, e, c⟩ := ht1
      exact ⟨o, oth t o n2.symm e, c⟩
    refine wpAny_pure ⟨plainId_quiet F.plain_extend_loop _, codeAny_extend_loopS W hn _ n3 _ items.size 0 _ _ _ rfl (Nat.zero_le _) ⟨Nat.zero_le _, by rw [e0]; exact hit2, ht2⟩ b3 (ItemsOf.nil _) fun s' acc' c' hm hS' hacc => ?_⟩
    show wpAny _ A (load s.heap.objs.size >>= _) _ _ s'; refine wpAny_bind (wpAny_load hS' (wpAny_pure ?_)); rw [Moved.eq_with hm]
    refine hQ s'.heap s'.toks acc' (fun c o hc e => hm.heap c o (fun z => ?_) (oth c o (Nat.ne_of_lt (Heap.lt_size e)) (k0 c o e))) hacc
    rcases List.mem_cons.mp z with z | z
    · exact absurd (Heap.lt_size e) (by rw [z]; exact Nat.lt_irrefl _)
    · exact hc (List.mem_singleton.mp z)
  · refine wpAny_pure ⟨plainId_quiet F.plain_extend_loop _, codeAny_extend_loopS W hn _ n3 _ items.size 0 _ _ _ rfl (Nat.zero_le _) ⟨Nat.zero_le _, by rw [e0]; exact hit1, ht1⟩ b1 (ItemsOf.nil _) fun s' acc' c' hm hS' hacc => ?_⟩
    show wpAny _ A (load s.heap.objs.size >>= _) _ _ s'; refine wpAny_bind (wpAny_load hS' (wpAny_pure ?_)); rw [Moved.eq_with hm]
    refine hQ s'.heap s'.toks acc' (fun c o hc e => hm.heap c o (fun z => ?_) (k0 c o e)) hacc
    rcases List.mem_cons.mp z with z | z
    · exact absurd (Heap.lt_size e) (by rw [z]; exact Nat.lt_irrefl _)
    · exact hc (List.mem_singleton.mp z)
theorem new_rt {it t : Addr} {items : Array Value} {R : Value → Shared → Prop} (hh : A.handled = none) (hit : IsRt s.heap it t ((items.size : Int) - 1)) (ht : IsTup s.heap t items) (hne : t ≠ it) (hn : items.size ≤ sizeLine)
    (h : ∀ (h' : Heap) (tk : Nat) (acc : Array Value), (∀ b o, b ≠ it → s.heap.get? b = some o → h'.get? b = some o) → ItemsOf (fun i v => items[items.size - 1 - i]? = some v) acc items.size →
      R (.ref h'.objs.size) { s with heap := h'.push { cls := .type "tuple", data := .seq acc }, toks := tk }) : codeAny (model prog w) A (.call (.builtin "tuple.__new__") ⟨[.type "tuple", .ref it], []⟩) (wants R E) s := by
  refine codeAny_of_tree ?_; show wpAny _ A.in1 (do checkBuiltinCall "tuple.__new__" ⟨[.type "tuple", .ref it], []⟩; again (.builtin "tuple.__new__" ⟨[.type "tuple", .ref it], []⟩)) _ _ s
  refine wpAny_bind (wpAny_of_eq (F.newCall_tuple_1 _) (wpAny_pure ⟨plainId_quiet F.plain_tuple_new _, codeAny_builtin F.entry_tuple_new ?_⟩)); rw [Around.under_plainId F.plain_tuple_new _]
  have hsub := sub_tuple_self; have hinit := init_tuple_lookup; have hmh := madeHere_tuple
  have hTI : s.TypeIs (.ref it) "reversed" := hit.typeIs
  have hh1 : A.in1.handled = none := hh
  wp_walk using wpAny_typeOf hTI, collect_rt (A := A.in1) hh1 hit ht hne hn
  intro h' tk acc hk hacc
  show wpAny _ _ (Builtin.Tuple.tupleExact acc.toList.toArray >>= fun v => ret v) _ _ _; unfold Builtin.Tuple.tupleExact
  have hz : acc.toList.toArray.size ≤ sizeLine := by
    rw [Array.toArray_toList, hacc.1]; exact hn
  refine wpAny_bind (wpAny_newObj_type ?_ hz); refine wpAny_pure ?_
  rw [Array.toArray_toList]
  exact h h' tk acc hk hacc
theorem call_rt {it t : Addr} {items : Array Value} {Q : Value → Shared → Prop} (hh : A.handled = none) (hit : IsRt s.heap it t ((items.size : Int) - 1)) (ht : IsTup s.heap t items) (hne : t ≠ it) (hn : items.size ≤ sizeLine)
    (hQ : ∀ (h' : Heap) (tk : Nat) (acc : Array Value), (∀ b o, b ≠ it → s.heap.get? b = some o → h'.get? b = some o) → ItemsOf (fun i v => items[items.size - 1 - i]? = some v) acc items.size →
      Q (.ref h'.objs.size) { s with heap := h'.push { cls := .type "tuple", data := .seq acc }, toks := tk }) : wpAny (model prog w) A (call (.type "tuple") [.ref it]) Q E s :=
  callType_codes (Q₁ := fun v s1 => s1.TypeIs v "tuple" ∧ Q v s1) F.called_tuple (F.typeCall_tuple_1 _) F.entry_object_init (new_rt (A := A.in1) hh hit ht hne hn fun h' tk acc hk hacc => ⟨⟨_, Heap.get?_push_size _ rfl, rfl⟩, hQ h' tk acc hk hacc⟩)
    fun v s1 q => ⟨q.1, F.args_object_init_2 v _, object_init_meets F.called_tuple.init.lookup F.called_tuple.made (by decide) prog w A.in1 _ s1 ⟨q.1, rfl, q.2⟩⟩
end
/-- tuple(reversed(x)) -/
def tTupRevA (K : PySem.W.Frag) (te : TE) : TE := fun σ H Q => te σ H fun v H1 => ∃ (a : Addr) (xs : List V), v = .ref a ∧ (SqL K H1 a xs ∨ SqT K H1 a xs) ∧ ∀ q, H1 q = none → Q (.ref q) (upd H1 q (.tup xs.reverse))
theorem pe_tupRevA {X : Cx} {e : Expr} {te : TE} {p p2 pos pos2 : Pos} (hc : X.calm = true) (hg : Gl X "tuple") (hm : X.mg "tuple" = none) (hg2 : Gl X "reversed") (hm2 : X.mg "reversed" = none) (he : PE X e te)
    (hs : starEach [e] X.env = (false, eval e X.env) :: starEach [] X.env) : PE X (.Call (.Name "tuple" p) [.Call (.Name "reversed" p2) [e] [] pos2] [] pos) (tTupRevA X.K te) := by
  refine ⟨fun pins s σ H Q I h => ?_⟩
  refine Call_ (ld_blt I hg hm boot_tuple (callWith_type1 (args_cons (Call_ (ld_blt I hg2 hm2 boot_reversed (callWith_type1 (args_cons (thn (he.run pins s σ H _ I h) fun u s1 ⟨v, H1, I1, r1, q1⟩ => args_nil ?_) hs) hs rfl))) rfl) rfl rfl))
  obtain ⟨a, xs, ev, hq, q⟩ := q1
  subst ev
  obtain rfl : u = Value.ref a := r1
  obtain ⟨f0, f1, f2, f3, f4, f5⟩ := I1.fpOk (H' := H1) (b := s1.heap.objs.size) (Nat.le_refl _) (I1.hok.fresh (Nat.le_refl _))
  have hn0 := line63
  have fin : ∀ (s2 : Shared) (its : List Value), Inv X pins σ H1 s2 → Vals xs its → xs.length ≤ sizeLine → ∀ (h' : Heap) (tk : Nat) (acc : Array Value), Inv X pins σ H1 { s2 with heap := h', toks := tk } →
      ItemsOf (fun i v => its.toArray[its.toArray.size - 1 - i]? = some v) acc its.toArray.size → EP X pins σ Q (.ref h'.objs.size) { s2 with heap := h'.push { cls := .type "tuple", data := .seq acc }, toks := tk } := by
    intro s2 its I2 rv hz h' tk acc I3 hi
    refine ⟨.ref h'.objs.size, upd H1 h'.objs.size (.tup xs.reverse), I3.laid (t' := tk) (fun c o e => Heap.get?_push_of_some _ e) (Nat.le_refl _) ?_, rfl, q _ (I3.hok.fresh (Nat.le_refl _))⟩
    refine (show ObjOk X.prog X.w _ _ _ (.tup xs.reverse) from ⟨by rw [List.length_reverse]; exact hz, acc.toList, vals_rev rv hi, ?_⟩)
    rw [Array.toArray_toList]
    exact IsTup.new _ _
  rcases hq with hq | hq
  · obtain ⟨its, rv, p', hz⟩ := I1.list hq
    refine call_reversed_list p'.isList (args_nil ?_)
    have k0 : ∀ b o, s1.heap.get? b = some o → (s1.heap.push (revObj a ((its.toArray.size : Int) - 1))).get? b = some o := fun b o e => Heap.get?_push_of_some _ e
    have I2 : Inv X pins σ H1 { s1 with heap := s1.heap.push (revObj a ((its.toArray.size : Int) - 1)) } := I1.kept (t' := s1.toks) k0
    obtain ⟨ol, hol, _⟩ := id p'.isList
    have hn : its.toArray.size ≤ sizeLine := by rw [List.size_toArray, ← rv.length]; exact hz
    exact call_tuple_rev (s := { s1 with heap := s1.heap.push (revObj a ((its.toArray.size : Int) - 1)) }) (I1.ok.hd hc) ⟨_, Heap.get?_push_size _ rfl, rfl, rfl⟩ (p'.isList.push _) (Nat.ne_of_lt (Heap.lt_size hol)) hn fun h' tk acc hk hi =>
      fin _ its I2 rv hz h' tk acc (I2.turned (t' := tk) (fun b o hb e => hk b o hb e) f0 f1 f3 f4 f5) hi
  · obtain ⟨its, rv, p', hz⟩ := I1.tuple hq
    have hl := rv.length
    refine call_reversed_tup p' (fun A E Q k => len_tuple p' (by simp only [List.size_toArray]; omega) k) (args_nil ?_)
    have k0 : ∀ b o, s1.heap.get? b = some o → (s1.heap.push (rtObj a ((its.toArray.size : Int) - 1))).get? b = some o := fun b o e => Heap.get?_push_of_some _ e
    have I2 : Inv X pins σ H1 { s1 with heap := s1.heap.push (rtObj a ((its.toArray.size : Int) - 1)), toks := s1.toks + 1 + 1 } := I1.kept (t' := s1.toks + 1 + 1) k0
    obtain ⟨ol, hol, hcl, hdl⟩ := id p'
    have hn : its.toArray.size ≤ sizeLine := by rw [List.size_toArray, ← rv.length]; exact hz
    exact call_rt (s := { s1 with heap := s1.heap.push (rtObj a ((its.toArray.size : Int) - 1)), toks := s1.toks + 1 + 1 }) (I1.ok.hd hc) ⟨_, Heap.get?_push_size _ rfl, rfl, rfl⟩ ⟨ol, k0 _ _ hol, hcl, hdl⟩ (Nat.ne_of_lt (Heap.lt_size hol)) hn fun h' tk acc hk hi =>
      fin _ its I2 rv hz h' tk acc (I2.turned (t' := tk) (fun b o hb e => hk b o hb e) f0 f1 f3 f4 f5) hi
end Wv

set_option Elab.async false
set_option linter.all false
set_option maxRecDepth 100000
/-! Wv5c: sorted, of ints and of pairs of ints. -/
namespace Wv
open PySem PySem.Spec PyProof.Rows L2
theorem perm_eq {α : Type} {le : α → α → Prop} (anti : ∀ a b, le a b → le b a → a = b) : ∀ {l m : List α}, l.Perm m → l.Pairwise le → m.Pairwise le → l = m
  | [], m, p, _, _ => (List.Perm.nil_eq p)
  | a :: l, [], p, _, _ => by simpa using p.length_eq
  | a :: l, b :: m, p, hl, hm => by
    have h1 := List.pairwise_cons.mp hl
    have h2 := List.pairwise_cons.mp hm
    have e : a = b := by
      have ha : a ∈ b :: m := p.mem_iff.mp List.mem_cons_self
      have hb : b ∈ a :: l := p.mem_iff.mpr List.mem_cons_self
      rcases List.mem_cons.mp ha with ha | ha
      · exact ha
      · rcases List.mem_cons.mp hb with hb | hb
        · exact hb.symm
        · exact anti _ _ (h1.1 b hb) (h2.1 a ha)
    subst e
    rw [perm_eq anti (List.Perm.cons_inv p) h1.2 h2.2]
theorem sortI_uniq {ns ns' : List Int} (p : ns'.Perm ns) (h : ns'.Pairwise (· ≤ ·)) : ns' = sortI ns := by
  refine perm_eq (le := (· ≤ ·)) (fun a b h1 h2 => by omega) (p.trans (List.mergeSort_perm _ _).symm) h ?_
  have := List.pairwise_mergeSort (le := fun a b : Int => decide (a ≤ b)) (fun a b c h1 h2 => by simp at h1 h2 ⊢; omega) (fun a b => by simp; omega) ns
  exact this.imp fun h => by simpa using h
theorem lePair_le {a b : Int × Int} : lePair a b = true ↔ a.1 < b.1 ∨ (a.1 = b.1 ∧ a.2 ≤ b.2) := by simp [lePair]
theorem sortP_uniq {ps qs : List (Int × Int)} (p : qs.Perm ps) (h : qs.Pairwise fun a b => SrtO.lexB b a = false) : qs = ps.mergeSort lePair := by
  refine perm_eq (le := fun a b => lePair a b = true) (fun a b h1 h2 => ?_) (p.trans (List.mergeSort_perm _ _).symm) (h.imp fun {a b} h => ?_) ?_
  · rw [lePair_le] at h1 h2
    have e1 : a.1 = b.1 := by omega
    have e2 : a.2 = b.2 := by omega
    exact Prod.ext e1 e2
  · rw [lePair_le]
    have := SrtO.lexB_no.mp h
    omega
  · refine List.pairwise_mergeSort (fun a b c h1 h2 => ?_) (fun a b => ?_) ps
    · rw [lePair_le] at h1 h2 ⊢; omega
    · rw [Bool.or_eq_true, lePair_le, lePair_le]; omega
theorem ints_of : ∀ {xs : List D} {is : List Int}, ints? xs = some is → xs = is.map D.int
  | [], is, h => by simp only [ints?, Option.some.injEq] at h; subst h; rfl
  | x :: xs, is, h => by
    cases x <;> simp only [ints?, Option.map_eq_some_iff] at h <;> try cases h
    rename_i i js h
    obtain ⟨h1, rfl⟩ := h
    rw [List.map_cons, ← ints_of h1]
/-- a pair -/
abbrev pD (p : Int × Int) : D := .tup [.int p.1, .int p.2]
theorem pairs_of : ∀ {xs : List D} {ps : List (Int × Int)}, pairs? xs = some ps → xs = ps.map pD
  | [], ps, h => by simp only [pairs?, Option.some.injEq] at h; subst h; rfl
  | x :: xs, ps, h => by
    unfold pairs? at h
    split at h
    · rename_i heq; cases heq
    · rename_i i j ys heq
      cases heq
      simp only [Option.map_eq_some_iff] at h
      obtain ⟨qs, h1, rfl⟩ := h
      rw [List.map_cons, ← pairs_of h1]
    · cases h
/-! ### sorted, of tuples that are nested -/
section
open SrtO Srt Ob
theorem fixk_ok {n : Nat} (hn : 1 ≤ n) (d : D) : ordk n (fixk n d) = true := by
  obtain ⟨m, rfl⟩ : ∃ m, n = m + 1 := ⟨n - 1, by omega⟩
  unfold fixk
  split
  · assumption
  · simp [ordk]
theorem fixk_id {n : Nat} {d : D} (h : ordk n d = true) : fixk n d = d := if_pos h
theorem ltk_neg {n : Nat} {x y z : D} (hx : ordk n x = true) (hy : ordk n y = true) (hz : ordk n z = true) (h1 : ltk n y x = false) (h2 : ltk n z y = false) : ltk n z x = false := by
  cases h : ltk n z x with
  | false => rfl
  | true =>
    cases h3 : ltk n x y with
    | true =>
      have := (ltk_to n).tr z x y hz hx hy h h3
      rw [h2] at this; cases this
    | false =>
      have := (ltk_to n).tot x y hx hy h3 h1
      subst this
      rw [h2] at h; cases h
/-- the value of an order that stands there -/
noncomputable def orAt (h : Heap) (n : Nat) (u : Value) : D := open Classical in if z : ∃ d, OrdAt h n u d then z.choose else .tup []
theorem orAt_of {h : Heap} {n : Nat} {u : Value} {d : D} (z : OrdAt h n u d) : orAt h n u = d := by
  have e : ∃ d, OrdAt h n u d := ⟨d, z⟩
  unfold orAt
  rw [dif_pos e]
  exact e.choose_spec.uniq z
theorem orAt_ok {h : Heap} {n : Nat} (hn : 1 ≤ n) (u : Value) : ordk n (orAt h n u) = true := by
  by_cases e : ∃ d, OrdAt h n u d
  · obtain ⟨d, z⟩ := e
    rw [orAt_of z]; exact z.ok
  · obtain ⟨m, rfl⟩ : ∃ m, n = m + 1 := ⟨n - 1, by omega⟩
    unfold orAt
    rw [dif_neg e]
    simp [ordk]
theorem swo_ord {h : Heap} {n : Nat} (hn : 1 ≤ n) : Swo fun v u => ltk n (orAt h n v) (orAt h n u) :=
  ⟨fun x y q => (ltk_to n).asym _ _ q, fun x y z h1 h2 => ltk_neg (orAt_ok hn x) (orAt_ok hn y) (orAt_ok hn z) h1 h2⟩
section
variable {prog : Program} {w : World} {A : Around} {s : Shared} {E : Value → Shared → Prop}
theorem kat_all {b fin : Bool} {e r : Nat → Bool} {Q : Bool → Shared → Prop} : ∀ (l : List (Value × Value)) (i : Nat), (∀ (j : Nat) (p q : Value), l[j]? = some (p, q) → SeqAt.EqAt A s p q (e (i + j))) →
    (∀ (j : Nat) (p q : Value), l[j]? = some (p, q) → e (i + j) = false → ∀ Q : Bool → Shared → Prop, Q (r (i + j)) s → wpAny (model prog w) A (oneLt' (b && i + j == 0) p q) Q (fun _ _ => False) s) →
    Q (lexAt e r fin i l.length) s → PySem.W.KatLex prog w A b fin Q l i s
  | [], i, _, _, h => PySem.W.kat_nil h
  | (p, q) :: l, i, he, hr, h => by
    refine PySem.W.kat_cons (he 0 p q rfl prog w _ _ ?_)
    rw [List.length_cons, lexAt_succ] at h
    refine PySem.W.kat_go (fun e1 => ?_) (fun e1 => ?_)
    · simp only [Nat.add_zero] at e1
      rw [if_pos e1] at h
      exact PySem.W.kat_yes (kat_all l (i + 1) (fun j p q hj => by
        have := he (j + 1) p q (by simpa using hj)
        rwa [show i + (j + 1) = i + 1 + j by omega] at this) (fun j p q hj hz => by
        have := hr (j + 1) p q (by simpa using hj) (by rwa [show i + (j + 1) = i + 1 + j by omega])
        rwa [show i + (j + 1) = i + 1 + j by omega] at this) h)
    · simp only [Nat.add_zero] at e1
      rw [if_neg (by rw [e1]; simp)] at h
      have := hr 0 p q rfl (by simpa using e1) Q (by simpa using h)
      exact PySem.W.kat_no (by simpa using this)
theorem ord_cmp {vs : List Value} {n : Nat} {k : Value → D} (hu : A.units + n + 1 < cLine) (hp : ∀ v ∈ vs, OrdAt s.heap (n + 1) v (k v)) : Cmp prog w A s (tuples' (decide (n = 0))) (fun p => p.1 ∈ vs) (lt2 fun v u => ltk (n + 1) (k v) (k u)) := by
  intro p q hm hm'
  obtain ⟨a, o, us, m, ds, e, ed, ho, hc, hd, hl, hi⟩ := hp _ hm
  obtain ⟨a2, o2, us2, m2, es, e2, ed2, ho2, hc2, hd2, hl2, hi2⟩ := hp _ hm'
  show wpAny (model prog w) A (keyLt' (tuples' (decide (n = 0))) p.1 q.1) (fun r s' => s' = s ∧ r = ltk (n + 1) (k p.1) (k q.1)) (fun _ _ => False) s
  rw [ed, ed2, e, e2]
  refine PySem.W.kat_lt ho hd ho2 hd2 ?_
  have zat : ∀ (j : Nat) (x y : Value), (us.toList.zip us2.toList)[j]? = some (x, y) → ∃ d1 d2, ds[j]? = some d1 ∧ es[j]? = some d2 ∧ OrdAt s.heap n x d1 ∧ OrdAt s.heap n y d2 := fun j x y h => by
    rw [List.getElem?_zip_eq_some] at h
    obtain ⟨h1, h2⟩ := h
    have j1 : j < ds.length := by rw [← hl]; exact (List.getElem?_eq_some_iff.mp h1).1
    have j2 : j < es.length := by rw [← hl2]; exact (List.getElem?_eq_some_iff.mp h2).1
    exact ⟨ds[j], es[j], List.getElem?_eq_getElem j1, List.getElem?_eq_getElem j2, hi j _ _ h1 (List.getElem?_eq_getElem j1), hi2 j _ _ h2 (List.getElem?_eq_getElem j2)⟩
  have gd : ∀ {l : List D} {j : Nat} {d : D}, l[j]? = some d → l.getD j .non = d := fun {l j d} h => by rw [List.getD_eq_getElem?_getD, h]; rfl
  refine kat_all (e := fun j => eqB (ds.getD j .non) (es.getD j .non)) (r := fun j => ltk n (ds.getD j .non) (es.getD j .non)) _ 0 (fun j x y h => ?_) (fun j x y h hne Q hq => ?_) ?_
  · obtain ⟨d1, d2, g1, g2, o1, o2⟩ := zat j x y h
    rw [Nat.zero_add, gd g1, gd g2]
    exact OrdAt.eqAt (s := s) o1 o2 (by omega)
  · obtain ⟨d1, d2, g1, g2, o1, o2⟩ := zat j x y h
    rw [Nat.zero_add, gd g1, gd g2] at hq
    cases n with
    | zero =>
      obtain ⟨i1, t1, rfl, rfl⟩ := o1
      obtain ⟨i2, t2, rfl, rfl⟩ := o2
      exact _root_.TS.oneLt_ints _ hq
    | succ n =>
      have : (decide (n + 1 = 0) && (0 + j == 0)) = false := by simp
      rw [this]
      exact PySem.W.kat_one _ _ ((rc_ord o1 o2 (by omega)).1 prog w _ _ hq)
  · refine ⟨rfl, ?_⟩
    have s1 : us.size = ds.length := by rw [← hl]; simp
    have s2 : us2.size = es.length := by rw [← hl2]; simp
    have lz : (us.toList.zip us2.toList).length = min ds.length es.length := by rw [List.length_zip, hl, hl2]
    rw [lz, s1, s2, lexAt_lex (lt := ltk n) (fun j x y hx hy => by rw [Nat.zero_add, gd hx, gd hy]; exact ⟨rfl, fun _ => rfl⟩) rfl]
    rfl
theorem ofirsts {h : Heap} {n : Nat} {k : Value → D} : ∀ {vs : List Value}, (∀ v ∈ vs, OrdAt h (n + 1) v (k v) ∧ neT (k v) = true) → ∃ fs : List Value, PySem.W.KatTups h vs fs ∧ fs.length = vs.length ∧ ∀ f ∈ fs, ∃ d, OrdAt h n f d
  | [], _ => ⟨[], PySem.W.KatTups.nil, rfl, fun _ hm => by simp at hm⟩
  | v :: vs, hp => by
    obtain ⟨fs, h1, h2, h3⟩ := ofirsts (vs := vs) fun v' hm => hp v' (List.mem_cons_of_mem _ hm)
    obtain ⟨⟨a, o, us, m, ds, e, ed, ho, hc, hd, hl, hi⟩, hn⟩ := hp v (List.mem_cons_self ..)
    rw [ed] at hn
    cases ds with
    | nil => simp [neT] at hn
    | cons d ds =>
      have hz : us.toList[0]? = some (us.toList[0]'(by rw [hl]; simp)) := List.getElem?_eq_getElem _
      generalize us.toList[0]'(by rw [hl]; simp) = f at hz
      have hf := hi 0 f d hz rfl
      subst e
      refine ⟨f :: fs, PySem.W.KatTups.cons ho hc hd (by rw [← Array.getElem?_toList]; exact hz) h1, by rw [List.length_cons, List.length_cons, h2], fun g hm => ?_⟩
      rcases List.mem_cons.mp hm with rfl | hm
      · exact ⟨d, hf⟩
      · exact h3 g hm
theorem ords_sortable {a : Addr} {vs : List Value} {n : Nat} {k : Value → D} (hu : A.units + n + 1 < cLine) (h0 : 0 < vs.length) (hp : ∀ v ∈ vs, OrdAt s.heap (n + 1) v (k v) ∧ neT (k v) = true) (ha : ∀ o, s.heap.get? a = some o → o.cls ≠ .type "tuple") : SortableO prog w A s a vs fun v u => ltk (n + 1) (k v) (k u) := by
  intro h' keep
  have hp' : ∀ v ∈ vs, OrdAt h' (n + 1) v (k v) ∧ neT (k v) = true := fun v hm => ⟨(hp v hm).1.keeps fun b o e c => keep b o (fun z => by subst z; exact ha o e c) e, (hp v hm).2⟩
  obtain ⟨fs, h1, h2, h3⟩ := ofirsts hp'
  refine ⟨tuples' (decide (n = 0)), fun Q E hq => ?_, ord_cmp hu fun v hm => (hp' v hm).1⟩
  cases n with
  | zero =>
    refine PySem.W.kat_kind (T := .type "int") h1 (by omega) (fun f hm => ?_) (by rfl) ?_
    · obtain ⟨d, x, t, rfl, _⟩ := h3 f hm
      exact PySem.W.Looks.now
    · have e : (Value.type "int" != Value.type "tuple") = true := by first | decide +kernel | rfl | decide
      rw [e]
      exact hq
  | succ n =>
    refine PySem.W.kat_kind (T := .type "tuple") h1 (by omega) (fun f hm => ?_) (by rfl) ?_
    · obtain ⟨d, b, o, us, m, ds, rfl, _, ho, hc, _⟩ := h3 f hm
      have : PySem.W.Looks (model prog w) h' (typeOf (.ref b)) o.cls := (PySem.W.Looks.ld ho).andThen .now
      rw [hc] at this
      exact this
    · have e : (Value.type "tuple" != Value.type "tuple") = false := by first | decide +kernel | rfl | decide
      rw [e]
      exact hq
theorem sorted_ords {l : Addr} {vs : List Value} {n : Nat} {Q : Value → Shared → Prop} (hu : A.units + n + 8 < cLine) (hl : s.heap.IsList l vs.toArray) (hz : vs.length ≤ sizeLine) (hp : ∀ v ∈ vs, OrdAt s.heap (n + 1) v (orAt s.heap (n + 1) v)) (hn : 2 ≤ vs.length → ∀ v ∈ vs, neT (orAt s.heap (n + 1) v) = true)
    (h : ∀ (h' : Heap) (d : Addr) (out : List Value), Srtd (fun v u => ltk (n + 1) (orAt s.heap (n + 1) v) (orAt s.heap (n + 1) u)) out → Stb (fun v u => ltk (n + 1) (orAt s.heap (n + 1) v) (orAt s.heap (n + 1) u)) out vs → (∀ b o, s.heap.get? b = some o → h'.get? b = some o) → s.heap.objs.size ≤ d → (∃ n, h'.get? d = some (seqObj "list" out.toArray n)) → Q (.ref d) { s with heap := h' }) :
    wpAny (model prog w) A (call (.builtin "sorted") [.ref l]) Q E s := by
  refine sorted_ord (swo_ord (h := s.heap) (n := n + 1) (by omega)) hl hz (fun h2 h₁ a ha kk => ?_) fun out hs hb => ?_
  · refine ords_sortable (s := { s with heap := h₁ }) (by rw [Around.in1_units, Around.in1_units]; omega) (by omega) (fun v hm => ⟨(hp v hm).keeps fun b o e _ => (kk b o e).2, hn h2 v hm⟩) fun o e => ?_
    have e' : some o = some (seqObj "list" vs.toArray 0) := e.symm.trans ha
    cases e'
    intro c
    exact absurd (Value.type.inj c) (by decide)
  · exact h _ _ out hs hb (fun b o e => sortedAll_old e) (Nat.le_succ _) (sortedAll_at s.heap vs out.toArray)
end
end
section
variable {X : Cx} {cl : String → Addr}
/-- the pair that stands at a value -/
noncomputable def prAt (h : Heap) (u : Value) : Int × Int := open Classical in if z : ∃ p : Int × Int, Srt.IsPair h u p.1 p.2 then z.choose else (0, 0)
theorem prAt_of {h : Heap} {u : Value} {p : Int × Int} (z : Srt.IsPair h u p.1 p.2) : prAt h u = p := by
  have e : ∃ p : Int × Int, Srt.IsPair h u p.1 p.2 := ⟨p, z⟩
  unfold prAt
  rw [dif_pos e]
  obtain ⟨a, o, t, t', n, ea, ho, hc, hd⟩ := e.choose_spec
  obtain ⟨a2, o2, t2, t3, n2, ea2, ho2, hc2, hd2⟩ := z
  rw [ea] at ea2
  cases ea2
  rw [ho] at ho2
  cases ho2
  rw [hd] at hd2
  simp only [Data.seq.injEq, Array.mk.injEq, List.cons.injEq, Value.int.injEq] at hd2
  exact Prod.ext hd2.1.1.1 hd2.1.2.1.1
theorem pairs_at {K : PySem.W.Frag} {F : Sets} {H : Hp} {pins : List (Addr × Obj)} {σ : L2.St} {s : Shared} (hK : X.K = K) (I : Inv X pins σ H s) : ∀ {ps : List (Int × Int)} {vs : List V} {g : Sets} {its : List Value}, Rps K cl F H (ps.map pD) vs g → Vals vs its →
    its.map (prAt s.heap) = ps ∧ ∀ u ∈ its, (∃ a, u = Value.ref a) ∧ Srt.IsPair s.heap u (prAt s.heap u).1 (prAt s.heap u).2 ∧ Rp K cl F H (pD (prAt s.heap u)) (backV u) E0s
  | [], vs, g, its, r, rv => by
    simp only [List.map_nil, Rps] at r
    subst r
    cases rv
    exact ⟨rfl, fun u hu => by simp at hu⟩
  | p :: ps, vs, g, its, r, rv => by
    simp only [List.map_cons, Rps] at r
    obtain ⟨v, ws, f1, f2, rfl, r1, r2, _⟩ := r
    cases rv with
    | cons q t =>
      rename_i u us
      obtain ⟨h1, h2⟩ := pairs_at hK I r2 t
      have r1' : Rp K cl F H (pD p) v E0s := r1.stb (by simp [D.stb, stbs])
      simp only [Rp] at r1
      obtain ⟨a, xs, rfl, hq, r3⟩ := r1
      obtain rfl : u = Value.ref a := q
      have hx : xs = [V.int p.1, V.int p.2] := Rps.ints (is := [p.1, p.2]) r3
      subst hx
      rw [← hK] at hq
      obtain ⟨i2, rv2, ht, _⟩ := I.tuple hq
      obtain ⟨u1, u2, rfl, ri, rj⟩ := vals2 rv2
      obtain ⟨t1, rfl⟩ := ri
      obtain ⟨t2, rfl⟩ := rj
      obtain ⟨o, ho, hc, n, hd⟩ := ht
      have hp : Srt.IsPair s.heap (.ref a) p.1 p.2 := ⟨a, o, t1, t2, n, rfl, ho, hc, hd⟩
      have e := prAt_of hp
      refine ⟨by rw [List.map_cons, e, h1], fun u hu => ?_⟩
      rcases List.mem_cons.mp hu with rfl | hu
      · exact ⟨⟨a, rfl⟩, by rw [e]; exact hp, by rw [e]; exact r1'⟩
      · exact h2 u hu
theorem rps_back {K : PySem.W.Frag} {F : Sets} {H : Hp} {k : Value → Int × Int} : ∀ {out : List Value}, (∀ u ∈ out, Rp K cl F H (pD (k u)) (backV u) E0s) → Rps K cl F H ((out.map k).map pD) (out.map backV) E0s
  | [], _ => by simp only [List.map_nil, Rps]
  | u :: out, h => by
    simp only [List.map_cons]
    exact Rps.cons (f := E0s) (g := E0s) (h u (by simp)) (rps_back fun w hw => h w (by simp [hw])) (fun _ z => z.elim) (fun _ z => z) fun _ z => z
theorem ordk_stb : ∀ {n : Nat} {d : D}, ordk n d = true → d.stb = true
  | 0, d, h => by cases d <;> simp [ordk] at h; simp [D.stb]
  | n + 1, d, h => by
    obtain ⟨xs, rfl, k⟩ := ordk_tup h
    simp only [D.stb]
    clear h
    induction xs with
    | nil => rfl
    | cons x xs ih => simp only [stbs, Bool.and_eq_true]; exact ⟨ordk_stb (k x (by simp)), ih fun y hy => k y (by simp [hy])⟩
theorem ords_at {K : PySem.W.Frag} {F : Sets} {H : Hp} {pins : List (Addr × Obj)} {σ : L2.St} {s : Shared} {n : Nat} (hK : X.K = K) (I : Inv X pins σ H s) : ∀ {ds : List D} {vs : List V} {g : Sets} {its : List Value}, Rps K cl F H ds vs g → (∀ d ∈ ds, ordk (n + 1) d = true) → Vals vs its →
    its.map (orAt s.heap (n + 1)) = ds ∧ ∀ u ∈ its, (∃ a, u = Value.ref a) ∧ OrdAt s.heap (n + 1) u (orAt s.heap (n + 1) u) ∧ Rp K cl F H (orAt s.heap (n + 1) u) (backV u) E0s
  | [], vs, g, its, r, _, rv => by
    simp only [Rps] at r
    subst r
    cases rv
    exact ⟨rfl, fun u hu => by simp at hu⟩
  | d :: ds, vs, g, its, r, ho, rv => by
    simp only [Rps] at r
    obtain ⟨v, ws, f1, f2, rfl, r1, r2, _⟩ := r
    cases rv with
    | cons q t =>
      rename_i u us
      obtain ⟨h1, h2⟩ := ords_at hK I r2 (fun e he => ho e (by simp [he])) t
      have hd := ho d (by simp)
      have r1' : Rp K cl F H d v E0s := r1.stb (ordk_stb hd)
      rw [← hK] at r1
      have oa := OrdAt.of_rp I r1 hd q
      have e := orAt_of oa
      obtain ⟨xs, rfl, _⟩ := ordk_tup hd
      simp only [Rp] at r1
      obtain ⟨a, ys, rfl, _⟩ := r1
      obtain rfl : u = Value.ref a := q
      refine ⟨by rw [List.map_cons, e, h1], fun u hu => ?_⟩
      rcases List.mem_cons.mp hu with rfl | hu
      · exact ⟨⟨a, rfl⟩, by rw [e]; exact oa, by rw [e]; exact r1'⟩
      · exact h2 u hu
theorem orps_back {K : PySem.W.Frag} {F : Sets} {H : Hp} {k : Value → D} : ∀ {out : List Value}, (∀ u ∈ out, Rp K cl F H (k u) (backV u) E0s) → Rps K cl F H (out.map k) (out.map backV) E0s
  | [], _ => by simp only [List.map_nil, Rps]
  | u :: out, h => by
    simp only [List.map_cons]
    exact Rps.cons (f := E0s) (g := E0s) (h u (by simp)) (orps_back fun w hw => h w (by simp [hw])) (fun _ z => z.elim) (fun _ z => z) fun _ z => z
theorem sortO_uniq {n : Nat} (hn : 1 ≤ n) {ds qs : List D} (ho : ∀ d ∈ ds, ordk n d = true) (p : qs.Perm ds) (h : qs.Pairwise fun a b => ltk n b a = false) : qs = ds.mergeSort (lek n) := by
  have hm := List.mergeSort_perm ds (lek n)
  have hq : ∀ d ∈ qs, ordk n d = true := fun d hd => ho d (p.mem_iff.mp hd)
  have hs := List.pairwise_mergeSort (le := lek n) (fun a b c h1 h2 => by
    simp only [lek, Bool.not_eq_true'] at h1 h2 ⊢
    exact ltk_neg (fixk_ok hn a) (fixk_ok hn b) (fixk_ok hn c) h1 h2) (fun a b => by
    simp only [lek, Bool.or_eq_true, Bool.not_eq_true']
    cases h : ltk n (fixk n b) (fixk n a) with
    | false => exact .inl rfl
    | true => exact .inr ((ltk_to n).asym _ _ h)) ds
  refine List.Perm.eq_of_pairwise (le := fun a b => ltk n b a = false) (fun a b ha hb h1 h2 => (ltk_to n).tot a b (hq a ha) (ho b (hm.mem_iff.mp hb)) h2 h1) h ?_ (p.trans hm.symm)
  refine List.Pairwise.imp_of_mem (fun {a b} ha hb h => ?_) hs
  simp only [lek, Bool.not_eq_true'] at h
  rwa [fixk_id (ho a (hm.mem_iff.mp ha)), fixk_id (ho b (hm.mem_iff.mp hb))] at h
theorem bi_sorted (hu : X.A.units + 64 < cLine) : CallR X (.builtin "sorted") (rBi X.K cl "sorted") := by
  intro pins s σ H xs us Q I rx h
  obtain ⟨F, ds, g, d, fd, rs, e, q⟩ := h
  simp only [biD, biD_sorted, String.reduceEq, if_false, if_true] at e
  split at e
  · rename_i t ys
    obtain ⟨v, rfl, r⟩ := rs.one
    obtain ⟨a, vs, rfl, s1, r1⟩ := r.lst_mono
    simp only [Option.map_eq_some_iff] at e
    obtain ⟨zs, hz, rfl⟩ := e
    unfold sortD at hz
    split at hz
    · rename_i is hi
      cases hz
      have e1 := ints_of hi
      subst e1
      obtain rfl := Rps.ints r1
      exact cr_sortedI pins s σ H _ us Q I rx ⟨a, is, rfl, s1, fun ns' p k1 k2 hp => by
        rw [sortI_uniq k1 k2]
        refine q.lst fd (vs := (sortI is).map V.int) ?_ p hp
        generalize sortI is = js
        induction js with
        | nil => simp only [List.map_nil, Rps]
        | cons j js ih =>
          simp only [List.map_cons]
          exact Rps.cons (f := E0s) (g := E0s) (by simp only [Rp]) ih (fun _ z => z.elim) (fun _ z => z) fun _ z => z⟩
    · split at hz
      · rename_i ps hps
        split at hz
        · cases hz
          have e1 := pairs_of hps
          subst e1
          obtain ⟨its, rv, hl, hz⟩ := I.list s1
          obtain ⟨u, rfl, ru⟩ := vals1 rx
          obtain rfl : u = Value.ref a := ru
          obtain ⟨w1, w2⟩ := pairs_at (cl := cl) rfl I r1 rv
          refine SrtO.sorted_pairsO (k := prAt s.heap) hl.isList (by rw [← rv.length]; exact hz) (fun v hv => (w2 v hv).2.1) fun h' p out h1 h2 kp hd hn => ?_
          obtain ⟨n, hn⟩ := hn
          have h3 : ∀ u ∈ out, u ∈ its := fun u hu => h2.perm.mem_iff.mp hu
          have e2 : out.map (prAt s.heap) = ps.mergeSort lePair := by
            refine sortP_uniq ?_ ?_
            · rw [← w1]; exact h2.perm.map _
            · exact List.pairwise_map.mpr h1
          have hp := I.hok.fresh hd
          refine ⟨.ref p, upd H p (.lst (out.map backV)), I.laid (t' := s.toks) kp hd ⟨?_, out, n, vals_back fun u hu => (w2 u (h3 u hu)).1, hn⟩, rfl, ?_⟩
          · rw [List.length_map, h2.perm.length_eq, ← rv.length]; exact hz
          · refine q.lst fd (vs := out.map backV) ?_ p hp
            have := rps_back (K := X.K) (F := F) (H := H) (cl := cl) (k := prAt s.heap) (out := out) fun u hu => (w2 u (h3 u hu)).2.2
            rw [e2] at this
            exact this
        · cases hz
      · split at hz
        · rename_i n hon
          obtain ⟨hn3, hok⟩ := ordN_inv hon
          obtain ⟨m, rfl⟩ : ∃ m, n = m + 1 := ⟨n - 1, by have := ordN_pos hon; omega⟩
          split at hz
          · rename_i hc
            cases hz
            simp only [Bool.and_eq_true, Bool.or_eq_true, decide_eq_true_eq, List.all_eq_true] at hc
            obtain ⟨its, rv, hl, hz⟩ := I.list s1
            obtain ⟨u, rfl, ru⟩ := vals1 rx
            obtain rfl : u = Value.ref a := ru
            obtain ⟨w1, w2⟩ := ords_at (cl := cl) (n := m) rfl I r1 hok rv
            have hlen : its.length = ys.length := by rw [← rv.length, r1.length]
            refine sorted_ords (n := m) (by omega) hl.isList (by rw [← rv.length]; exact hz) (fun v hv => (w2 v hv).2.1) (fun h2 v hv => ?_) fun h' p out h1 h2 kp hd hn => ?_
            · rcases hc.2 with hc | hc
              · omega
              · have : orAt s.heap (m + 1) v ∈ ys := by rw [← w1]; exact List.mem_map_of_mem hv
                exact hc _ this
            obtain ⟨n, hn⟩ := hn
            have h3 : ∀ u ∈ out, u ∈ its := fun u hu => h2.perm.mem_iff.mp hu
            have e2 : out.map (orAt s.heap (m + 1)) = ys.mergeSort (lek (m + 1)) := by
              refine sortO_uniq (by omega) hok ?_ ?_
              · rw [← w1]; exact h2.perm.map _
              · exact List.pairwise_map.mpr h1
            have hp := I.hok.fresh hd
            refine ⟨.ref p, upd H p (.lst (out.map backV)), I.laid (t' := s.toks) kp hd ⟨?_, out, n, vals_back fun u hu => (w2 u (h3 u hu)).1, hn⟩, rfl, ?_⟩
            · rw [List.length_map, h2.perm.length_eq, ← rv.length]; exact hz
            · refine q.lst fd (vs := out.map backV) ?_ p hp
              have := orps_back (K := X.K) (F := F) (H := H) (cl := cl) (k := orAt s.heap (m + 1)) (out := out) fun u hu => (w2 u (h3 u hu)).2.2
              rw [e2] at this
              exact this
          · cases hz
        · cases hz
  · cases e
end
end Wv

set_option Elab.async false
set_option linter.all false
set_option maxRecDepth 100000
/-! Wv6: quiet expressions: the check against the syntax, and soundness. -/
namespace Wv
open PySem PySem.Spec PyProof.Rows L2

/-! ### readings by what is so -/
section
variable {X : Cx}
def wE (X : Cx) (x : Expr) : TE := fun σ H Q => ∀ pins s, Inv X pins σ H s → wpAny (model X.prog X.w) X.A (eval x X.env) (EP X pins σ Q) X.xe s
theorem pe_w {x : Expr} : PE X x (wE X x) := ⟨fun pins s σ H Q I h => h pins s I⟩
theorem to_wE {x : Expr} {t : TE} {σ : L2.St} {H : Hp} {Q : VK} (h : PE X x t) (q : t σ H Q) : wE X x σ H Q := fun pins s I => h.run pins s σ H Q I q
def wT (X : Cx) (x : Expr) : TT := fun σ H Q => ∀ pins s, Inv X pins σ H s → wpAny (model X.prog X.w) X.A (isTrue x X.env (eval x X.env)) (TP X pins σ Q) X.xe s
theorem pt_w {x : Expr} : PT X x (wT X x) := ⟨fun pins s σ H Q I h => h pins s I⟩
theorem to_wT {x : Expr} {t : TT} {σ : L2.St} {H : Hp} {Q : Bool → Hp → Prop} (h : PT X x t) (q : t σ H Q) : wT X x σ H Q := fun pins s I => h.run pins s σ H Q I q
def wA (X : Cx) (es : List Expr) : TA := fun σ H Q => ∀ pos pins s, Inv X pins σ H s → wpAny (model X.prog X.w) X.A (spliced (backTo pos (starEach es X.env))) (AP X pins σ Q) X.xe s
theorem pa_w {es : List Expr} : PA X es (wA X es) := ⟨fun pos pins s σ H Q I h => h pos pins s I⟩
theorem to_wA {es : List Expr} {t : TA} {σ : L2.St} {H : Hp} {Q : List V → Hp → Prop} (h : PA X es t) (q : t σ H Q) : wA X es σ H Q := fun pos pins s I => h.run pos pins s σ H Q I q
end

/-! ### side conditions by the syntax -/
def nst : Expr → Bool
  | .Starred _ _ => false
  | _ => true
def ncl : Expr → Bool
  | .Call _ _ _ _ => false
  | _ => true
def nsl : Expr → Bool
  | .Slice _ _ _ _ => false
  | _ => true
def nset : Expr → Bool
  | .Set _ _ _ => false
  | _ => true
theorem star_cons {e : Expr} {es : List Expr} {env : PySem.Env} (h : nst e = true) : starEach (e :: es) env = (false, eval e env) :: starEach es env := by
  cases e <;> first | rfl | cases h
def nsts : List Expr → Bool
  | [] => true
  | e :: es => nst e && nsts es
theorem backTo_any (pos : Pos) (env : PySem.Env) : ∀ es : List Expr, nsts es = true → (backTo pos (starEach es env)).any (·.1) = false
  | [], _ => rfl
  | e :: es, h => by
    simp only [nsts, Bool.and_eq_true] at h
    rw [star_cons h.1]
    have := backTo_any pos env es h.2
    simpa [backTo] using this
theorem attr_base {e : Expr} {f : Str} {env : PySem.Env} (h : ncl e = true) : attributeBase e f env (eval e env) = eval e env := by
  cases e <;> first | rfl | cases h
theorem plain_ix {e : Expr} (h : nsl e = true) : PlainIx e := by
  intro o i
  cases e <;> first | rfl | cases h
theorem no_marks {op : CmpOp} {e : Expr} (h : nset e = true) : behindInMarks op e = false := by
  cases e <;> first | rfl | cases h

/-! ### what is known of the program's text -/
def five : List String := ["int", "bool", "str", "tuple", "list", "ValueError", "Exception", "TypeError", "IndexError", "KeyError"]
def tv (cl : String → Addr) (t : String) : Value := if five.contains t then .type t else .ref (cl t)
def bNames : List String := ["len", "int", "str", "abs", "max", "min", "sum", "all", "any", "tuple", "list", "sorted", "isinstance", "bool", "range", "zip", "enumerate", "reversed", "set", "ValueError", "Exception", "TypeError", "IndexError", "KeyError"]
/-- an own exception class: its instances are asked and read -/
structure ExF (K : PySem.W.Frag) (C : Addr) (fl : List String) : Prop where
  hcl : (PySem.W.clsIn K C).isSome = true
  xf : XfC K C
  ha : PySem.W.findIn K (.ref C) "__class__" = some (some (.builtin "object.__class__"))
  hn : PySem.W.specialIn K (.builtin "object.__class__") "__get__" = some (some (.builtin "getset_descriptor.__get__"))
  ht : PySem.W.takesIn K (.builtin "object.__class__") = some true
  hm : PySem.W.mroIn K C (.type "object") = some true
  no : ∀ f, fl.contains f = true → PySem.W.findIn K (.ref C) (Str.ofString f) = some none
def excN (G : Cfg) (t : String) : Bool := G.ec.contains t || t == "ValueError" || t == "Exception"
structure KF (G : Cfg) (cl : String → Addr) (K : PySem.W.Frag) (mg : Str → Option Value) : Prop where
  bi : ∀ b ∈ bNames, mg (Str.ofString b) = none
  gl : ∀ x d, G.gl x = some d → ∃ v u, mg (Str.ofString x) = some u ∧ RelV v u ∧ ∀ F H, Rp K cl F H d v E0s
  cls : ∀ c, c ∈ G.pl ∨ c ∈ G.ec → mg (Str.ofString c) = some (.ref (cl c))
  obj : ∀ c ∈ G.pl, Cls K (cl c) ∧ PySem.W.findIn K (.ref (cl c)) "__class__" = some (some (.builtin "object.__class__")) ∧ PySem.W.specialIn K (.builtin "object.__class__") "__get__" = some (some (.builtin "getset_descriptor.__get__")) ∧
    PySem.W.takesIn K (.builtin "object.__class__") = some true ∧ PySem.W.mroIn K (cl c) (.type "object") = some true
  noat : ∀ c f, (G.fl c).contains f = true → c ∈ G.pl → NoAttr K (cl c) (Str.ofString f)
  kit : ∀ c, c ∈ G.pl ∨ c ∈ G.ec → ∀ t, five.contains t = true ∨ t ∈ G.pl ∨ t ∈ G.ec → PySem.W.kitOne K (.ref (cl c)) (tv cl t) = some ((G.mro c).contains t)
  kitb : ∀ T ∈ ["int", "bool", "str", "tuple", "list", "NoneType"], ∀ t, t ∈ G.pl ∨ t ∈ G.ec → (five.contains t = false ∧ t ≠ "NoneType") ∧ PySem.W.kitOne K (.type T) (.ref (cl t)) = some false
  gff : ∀ f, G.gf.contains f = true → mg (Str.ofString f) = some (.ref (cl f)) ∧ PySem.W.keepIn K (.ref (cl f)) = true
  exx : ∀ c, G.ec.contains c = true → ExF K (cl c) (G.fl c)
  exm : ∀ c, G.ec.contains c = true → ∀ t, excN G t = true → PySem.W.exmOne K (.ref (cl c)) (tv cl t) = some ((G.mro c).contains t)
  mkc : ∀ c ∈ G.pl, Mk K (cl c) (cl (c ++ ".__init__"))
structure Good (G : Cfg) (cl : String → Addr) (fx : Fx) (sc : Scope) (X : Cx) : Prop where
  nd : X.N.Nodup
  scq : X.env.scope = sc
  un : X.A.units + 100 < cLine
  kf : KF G cl X.K X.mg
  calm : G.hot = false → X.calm = true
  fns : G.hot = false → ∀ f, (∃ ss, G.cf f ss ≠ .bad) → ∃ k fd, FnOk X.prog X.w X.K X.mg X.base (L2.CX X.prog X.w) k (cl f) fd ((G.pn f).map Str.ofString) (spF X.K cl G.fl (G.cf f)) ∧ Room (k + 1) X.A ∧ Binds X.K fd ((G.pn f).map Str.ofString) [] ∧
    ∀ n ks, G.kws.contains (f, n, ks) = true → KBd X.K fd (G.pn f) n ks
  excs : G.hot = false → ∀ c, G.ec.contains c = true → (G.fl c).isEmpty = false → (G.fl c).length ≤ 900 ∧ ∃ fI k fd ps, OexC X.K (cl c) ∧ PySem.W.findIn X.K (.ref (cl c)) "__init__" = some (some (.ref fI)) ∧ PySem.W.typeIn X.K (.ref fI) = some (.type "function") ∧
    FnOk X.prog X.w X.K X.mg X.base CX0 k fI fd ps (spX (cl c) (G.fl c)) ∧ Room (k + 1) X.A ∧ Binds X.K fd ps []
  /-- an exception held in an except suite: its fields are read, its class is asked -/
  xno : G.hot = false → ∀ i a c dx, ¬ fx.x i a c dx
  xat : ∀ {pins s σ H i a c dx fs f v} {Q : VK}, Inv X pins σ H s → fx.x i a c dx → H dx = some (.xd fs) → (G.fl c).contains f = true → fs.lookup (Str.ofString f) = some v → Q v H → wpAny (model X.prog X.w) X.A (getAttr (.ref a) (Str.ofString f) true) (EP X pins σ Q) X.xe s
  xki : ∀ {pins s σ H i a c dx}, Inv X pins σ H s → fx.x i a c dx → (∃ fs, H dx = some (.xd fs)) → G.ec.contains c = true → ∃ P : Heap → Prop, PySem.W.KitX X.K (.ref a) (.ref (cl c)) P ∧ P s.heap

def visB (sc : Scope) (x : Str) : Bool := match sc.names.lookup x with
  | some .local => true
  | some .cell => true
  | some .free => true
  | _ => false
def glB (sc : Scope) (x : Str) : Bool := sc.names.lookup x == some .globalImplicit
def okName (x : Str) : Bool := x != Str.ofString "__debug__" && x != Str.ofString "__classdict__" && x != Str.ofString "__name__"
theorem visB_ok {X : Cx} {sc : Scope} {x : Str} (e : X.env.scope = sc) (h : visB sc x = true) : Vis X.env.scope x := by
  subst e
  unfold visB at h
  unfold Vis
  split at h
  · rename_i e; exact .inl e
  · rename_i e; exact .inr (.inl e)
  · rename_i e; exact .inr (.inr e)
  · cases h
theorem glB_ok {X : Cx} {sc : Scope} {x : Str} (e : X.env.scope = sc) (h : glB sc x = true) : Gl X x := by
  subst e
  unfold glB at h
  unfold Gl PySem.Env.kindOf
  exact beq_iff_eq.mp h
theorem okName_ok {x : Str} (h : okName x = true) : (x == ("__debug__" : Str)) = false ∧ (x == ("__classdict__" : Str)) = false ∧ x ≠ ("__name__" : Str) := by
  unfold okName at h
  simp only [Bool.and_eq_true, bne_iff_ne, ne_eq] at h
  exact ⟨beq_eq_false_iff_ne.mpr h.1.1, beq_eq_false_iff_ne.mpr h.1.2, h.2⟩

def clsOk (G : Cfg) (t : String) : Bool := five.contains t || G.pl.contains t || G.ec.contains t
def clssOk (G : Cfg) (cs : List String) : Bool := !cs.isEmpty && decide (cs.length ≤ 64) && cs.all (clsOk G)
theorem clssOk_ok {G : Cfg} {cs : List String} (h : clssOk G cs = true) : cs ≠ [] ∧ cs.length ≤ 64 ∧ cs.all (clsOk G) = true := by
  unfold clssOk at h
  simp only [Bool.and_eq_true, decide_eq_true_eq] at h
  exact ⟨by rintro rfl; simp at h, h.1.2, h.2⟩
def nmB (sc : Scope) (s : String) : Expr → Bool
  | .Name x _ => Str.ofString s == x && glB sc x && okName x
  | _ => false
def nmsB (sc : Scope) : List String → List Expr → Bool
  | [], [] => true
  | s :: ss, e :: es => nmB sc s e && nmsB sc ss es
  | _, _ => false
def biQ : List String := ["len", "int", "str", "abs", "max", "min", "sum", "all", "any", "tuple", "list", "sorted", "set"]
section
variable (G : Cfg) (sc : Scope) (N : List Str)
mutual
/-- the IR stands for the syntax -/
def erQ : Qx → Expr → Bool
  | .non, .Constant .none _ _ => true
  | .tr b, .Constant (.bool c) _ _ => b == c
  | .int i, .Constant (.int j) _ _ => i == j
  | .str s, .Constant (.str x) _ _ => Str.ofString s == x
  | .var i, .Name x _ => N[i]? == some x && visB sc x && okName x
  | .glob g, .Name x _ => Str.ofString g == x && glB sc x && okName x
  | .bin op a b, .BinOp l o r _ => op == o && (erQ a l && erQ b r)
  | .un op a, .UnaryOp o e _ => op == o && op != .Not && erQ a e
  | .nt a, .UnaryOp .Not e _ => erQ a e
  | .cmp op a b, .Compare l [o] [r] _ => op == o && (erQ a l && erQ b r)
  | .ch2 o1 o2 a b c, .Compare l [p1, p2] [r1, r2] _ => o1 == p1 && o2 == p2 && (erQ a l && erQ b r1 && erQ c r2)
  | .and es, .BoolOp .And vs _ => erQs es vs
  | .or es, .BoolOp .Or vs _ => erQs es vs
  | .ite c a b, .IfExp t x y _ => erQ c t && erQ a x && erQ b y
  | .idx a i, .Subscript x y _ => erQ a x && erQ i y && nsl y
  | .slc a lo hi, .Subscript x (.Slice l h none _) _ => erQ a x && erO lo l && erO hi h
  | .attr a f, .Attribute x n _ => Str.ofString f == n && erQ a x && ncl x
  | .tup es, .Tuple xs _ _ => erQs es xs
  | .lst es, .List xs _ => erQs es xs
  | .bi f es, .Call x (y :: ys) [] _ => nmB sc f x && biQ.contains f && erQs es (y :: ys)
  | .bic f es, .Call x [.Call z [e] [] _] [] _ => f == "tuplereversed" && (nmB sc "tuple" x && nmB sc "reversed" z) && erQs es [e]
  | .bic _ _, _ => false
  | .bm a m es, .Call (.Attribute o n ap) [] [] cp => ((m == "bit_length" && es.isEmpty) && (n == Str.ofString "bit_length" && ap.endLine == cp.line)) && (erQ a o && ncl o)
  | .bm _ _ _, _ => false
  | .isi a cs, .Call x [e, t] [] _ => nmB sc "isinstance" x && erQ a e && clssOk G cs && (match t with
    | .Tuple ts _ _ => nmsB sc cs ts
    | t => nmsB sc cs [t])
  | .xf i f, .Attribute (.Name x _) n _ => Str.ofString f == n && (N[i]? == some x && visB sc x && okName x)
  | .xi i cs, .Call x [.Name y _, t] [] _ => nmB sc "isinstance" x && (N[i]? == some y && visB sc y && okName y) && clssOk G cs && (match t with
    | .Tuple ts _ _ => nmsB sc cs ts
    | t => nmsB sc cs [t])
  | _, _ => false
def erQs : List Qx → List Expr → Bool
  | [], [] => true
  | e :: es, x :: xs => erQ e x && erQs es xs
  | _, _ => false
def erO : Option Qx → Option Expr → Bool
  | none, none => true
  | some e, some x => erQ e x
  | _, _ => false
end
theorem erQ_nst : ∀ (e : Qx) (x : Expr), erQ G sc N e x = true → nst x = true := by
  intro e x h
  cases x with
  | Starred y p => cases e <;> simp [erQ] at h
  | _ => rfl
theorem erQ_nset : ∀ (e : Qx) (x : Expr), erQ G sc N e x = true → nset x = true := by
  intro e x h
  cases x with
  | Set y p q => cases e <;> simp [erQ] at h
  | _ => rfl
theorem erQs_nsts : ∀ (es : List Qx) (xs : List Expr), erQs G sc N es xs = true → nsts xs = true
  | [], [], _ => rfl
  | [], _ :: _, h => by simp [erQs] at h
  | _ :: _, [], h => by simp [erQs] at h
  | e :: es, x :: xs, h => by
    simp only [erQs, Bool.and_eq_true] at h
    simp only [nsts, erQ_nst G sc N e x h.1, erQs_nsts es xs h.2, Bool.and_self]
end

/-! ### results -/
def QP (K : PySem.W.Frag) (cl : String → Addr) (F L : Sets) (H : Hp) (A : Nat → Sets) (rt : List Nat) (d : D) (Q : VK) : Prop :=
  ∀ v F' H' fp, Gr F H F' H' → Rp K cl F' H' d v fp → (∀ a, fp a → (∃ i ∈ rt, A i a) ∨ L a) → Q v H'
section
variable {K : PySem.W.Frag} {cl : String → Addr} {F F1 F2 L : Sets} {H H1 H2 : Hp} {A : Nat → Sets} {rt : List Nat} {d : D} {Q : VK}
theorem QP.sc (q : QP K cl F L H A rt d Q) {v : V} (g : Gr F H F1 H1) (r : Rp K cl F1 H1 d v E0s) : Q v H1 := q v F1 H1 E0s g r fun _ z => z.elim
theorem Rp.fz0 {d : D} {v : V} {f : Sets} (r : Rp K cl F H d v f) (fr : d.fresh = true) {F' : Sets} (h1 : ∀ a, F a → F' a) (h2 : ∀ a, f a → F' a) : Rp K cl F' H d.fz0 v E0s := by
  have kp : ∀ S, Kp F H S F' H := fun S => ⟨h1, fun a o e _ => e⟩
  cases d with
  | lst t xs =>
    cases t with
    | own =>
      simp only [Rp] at r
      obtain ⟨a, vs, g, rfl, s, m, _, _, r1⟩ := r
      simp only [D.fz0, Rp]
      exact ⟨a, vs, rfl, h2 a m, s, (r1.stb (by simpa only [D.fresh] using fr)).kp (kp _)⟩
    | fro => exact (r.stb (by simpa only [D.fresh] using fr)).kp (kp _)
    | scr => exact (r.stb (by simpa only [D.fresh] using fr)).kp (kp _)
  | iset t xs =>
    cases t with
    | own =>
      simp only [Rp] at r
      obtain ⟨a, S, rfl, s, m, r1⟩ := r
      simp only [D.fz0, Rp]
      exact ⟨a, S, rfl, h2 a m, s, r1⟩
    | fro => exact (r.stb (by simp [D.stb])).kp (kp _)
    | scr => simp only [Rp] at r
  | _ => exact (r.stb (by simpa only [D.fresh] using fr)).kp (kp _)
theorem QP.op (q : QP K cl F L H A rt d.fz0 Q) (g : Gr F H F1 H1) (fr : d.fresh = true) : OpPost K cl F1 H1 d Q := by
  intro v F' H' fp g' r n
  refine q.sc (F1 := fun a => F' a ∨ fp a) (g.trans ⟨fun a z => .inl (g'.fro a z), fun a z => ?_, g'.keep, fun a z => ?_⟩) (r.fz0 fr (fun a z => .inl z) fun a z => .inr z)
  · rcases z with z | z
    · exact g'.new a z
    · exact .inr (n a z).1
  · rcases z with z | z
    · exact g'.dom a z
    · exact .inr (Mut.some (n a z).2.2)
theorem QP.sub {rt' : List Nat} (q : QP K cl F L H A rt d Q) (h : ∀ i ∈ rt', i ∈ rt) : QP K cl F L H A rt' d Q := fun v F' H' fp g r m =>
  q v F' H' fp g r fun a z => (m a z).elim (fun ⟨i, h1, h2⟩ => .inl ⟨i, h i h1, h2⟩) .inr
theorem QP.gr (q : QP K cl F L H A rt d Q) (g : Gr F H F1 H1) : QP K cl F1 L H1 A rt d Q := fun v F' H' fp g' r m => q v F' H' fp (g.trans g') r m
theorem QP.stb (q : QP K cl F L H A rt d Q) (st : d.stb = true) : ∀ v F' H' fp, Gr F H F' H' → Rp K cl F' H' d v fp → Q v H' := fun v F' H' fp g r => q v F' H' E0s g (r.stb st) fun _ z => z.elim
end
theorem fresh_of {d : D} (h : d.stb = true) : d.fresh = true := by
  cases d with
  | lst t xs => cases t with
    | own => simp [D.stb] at h
    | fro => exact h
    | scr => exact h
  | iset t xs => cases t with
    | own => simp [D.stb] at h
    | fro => exact h
    | scr => exact h
  | _ => exact h
theorem binD_fresh {op : Operator} {a b d : D} (h : binD op a b = some d) : d.fresh = true := by
  unfold binD at h
  split at h
  · cases h1 : arith op _ _ with
    | none => rw [h1] at h; cases h
    | some k => rw [h1] at h; cases h; rfl
  · split at h
    · cases h; rfl
    · cases h
  · split at h
    · rename_i hf
      cases h
      simp only [Bool.and_eq_true] at hf
      simp [D.fresh, D.stb, stbs_append, hf.1.2, hf.2]
    · cases h
  · split at h
    · rename_i hf
      cases h
      simp only [Bool.and_eq_true] at hf
      simp [D.fresh, stbs_append, hf.1.2, hf.2]
    · cases h
  · split at h
    · rename_i hf
      cases h
      simp only [Bool.and_eq_true] at hf
      simp only [D.fresh]
      exact stbs_flat _ hf.2 _
    · cases h
  · split at h
    · rename_i hf
      cases h
      simp only [Bool.and_eq_true] at hf
      simp only [D.fresh, D.stb]
      exact stbs_flat _ hf.2 _
    · cases h
  · cases h
theorem slcD_fresh {a : D} {lo hi : Option Int} {d : D} (h : slcD a lo hi = some d) : d.fresh = true := by
  unfold slcD at h
  split at h
  · split at h
    · rename_i st; cases h; simp only [D.fresh]; exact stbs_cut _ _ _ st
    · cases h
  · split at h
    · rename_i st; cases h; simp only [D.fresh, D.stb]; exact stbs_cut _ _ _ st
    · cases h
  · split at h
    · cases h; rfl
    · cases h
  · cases h
theorem unD_stb {op : UnaryOp} {a d : D} (h : unD op a = some d) : d.stb = true := by
  unfold unD at h
  split at h <;> cases h <;> rfl
theorem stbs_ints (is : List Int) : stbs (is.map D.int) = true := by
  induction is with
  | nil => rfl
  | cons i is ih => simp [stbs, D.stb, ih]
theorem sortD_stb {xs ys : List D} (h : sortD xs = some ys) : stbs ys = true := by
  unfold sortD at h
  split at h
  · cases h; exact stbs_ints _
  · split at h
    · split at h
      · cases h
        rename_i ps _ _
        generalize ps.mergeSort lePair = qs
        induction qs with
        | nil => rfl
        | cons p qs ih => simp [stbs, D.stb, ih]
      · cases h
    · split at h
      · rename_i n hn
        split at h
        · cases h
          have k := (ordN_inv hn).2
          generalize hq : xs.mergeSort (lek n) = qs
          have hm : ∀ d ∈ qs, d.stb = true := by
            intro d hd
            rw [← hq, List.mem_mergeSort] at hd
            exact ordk_stb (k d hd)
          clear hq
          induction qs with
          | nil => rfl
          | cons p qs ih => simp only [stbs, Bool.and_eq_true]; exact ⟨hm p (by simp), ih fun d hd => hm d (by simp [hd])⟩
        · cases h
      · cases h
set_option maxHeartbeats 4000000 in
theorem biD_fresh {f : String} {ds : List D} {d : D} (h : biD f ds = some d) : d.fresh = true := by
  unfold biD at h
  by_cases g : f = "len"
  · rw [if_pos g] at h; unfold biD_len at h; split at h
    · split at h <;> cases h; rfl
    all_goals (cases h; try rfl)
  rw [if_neg g] at h; clear g
  by_cases g : f = "int"
  · rw [if_pos g] at h; unfold biD_int at h; split at h <;> cases h <;> rfl
  rw [if_neg g] at h; clear g
  by_cases g : f = "str"
  · rw [if_pos g] at h; unfold biD_str at h; split at h
    · split at h <;> cases h; rfl
    · cases h
  rw [if_neg g] at h; clear g
  by_cases g : f = "abs"
  · rw [if_pos g] at h; unfold biD_abs at h; split at h <;> cases h; rfl
  rw [if_neg g] at h; clear g
  by_cases g : f = "max"
  · rw [if_pos g] at h; unfold biD_max at h; split at h
    · cases h; rfl
    · simp only [Option.bind_eq_some_iff, Option.map_eq_some_iff] at h
      obtain ⟨_, _, _, _, rfl⟩ := h; rfl
    · cases h
  rw [if_neg g] at h; clear g
  by_cases g : f = "min"
  · rw [if_pos g] at h; unfold biD_min at h; split at h
    · cases h; rfl
    · cases h; rfl
    · simp only [Option.bind_eq_some_iff, Option.map_eq_some_iff] at h
      obtain ⟨_, _, _, _, rfl⟩ := h; rfl
    · cases h
  rw [if_neg g] at h; clear g
  by_cases g : f = "sum"
  · rw [if_pos g] at h; unfold biD_sum at h; split at h
    · simp only [Option.map_eq_some_iff] at h
      obtain ⟨_, _, rfl⟩ := h; rfl
    · cases h
  rw [if_neg g] at h; clear g
  by_cases g : f = "all"
  · rw [if_pos g] at h; unfold biD_all at h; split at h
    · simp only [Option.map_eq_some_iff] at h
      obtain ⟨_, _, rfl⟩ := h; rfl
    · cases h
  rw [if_neg g] at h; clear g
  by_cases g : f = "any"
  · rw [if_pos g] at h; unfold biD_any at h; split at h
    · simp only [Option.map_eq_some_iff] at h
      obtain ⟨_, _, rfl⟩ := h; rfl
    · cases h
  rw [if_neg g] at h; clear g
  by_cases g : f = "tuple"
  · rw [if_pos g] at h; unfold biD_tuple at h; split at h
    · split at h
      · rename_i st; cases h; exact st
      · cases h
    · split at h
      · rename_i st; cases h; exact st
      · cases h
    · cases h
  rw [if_neg g] at h; clear g
  by_cases g : f = "list"
  · rw [if_pos g] at h; unfold biD_list at h; split at h
    · split at h
      · rename_i st; cases h; exact st
      · cases h
    · split at h
      · rename_i st; cases h; exact st
      · cases h
    · split at h
      · rename_i hs
        cases h
        obtain ⟨is, his⟩ := Option.isSome_iff_exists.mp hs
        simp only [D.fresh, ints_map his]
        exact stbs_ints _
      · cases h
    · cases h
  rw [if_neg g] at h; clear g
  by_cases g : f = "sorted"
  · rw [if_pos g] at h; unfold biD_sorted at h; split at h
    · simp only [Option.map_eq_some_iff] at h
      obtain ⟨ys, h1, rfl⟩ := h
      exact sortD_stb h1
    · cases h
  rw [if_neg g] at h; clear g
  by_cases g : f = "set"
  · rw [if_pos g] at h; unfold biD_set at h; split at h
    · split at h
      · split at h
        · cases h; rfl
        · cases h
      · cases h
    · cases h
  rw [if_neg g] at h; cases h
end Wv

set_option Elab.async false
set_option linter.all false
set_option maxRecDepth 100000
/-! Wv7: quiet expressions are sound. -/
namespace Wv
open PySem PySem.Spec PyProof.Rows L2
theorem stbs_rev : ∀ xs : List D, stbs xs.reverse = stbs xs := by
  have ap : ∀ xs ys : List D, stbs (xs ++ ys) = (stbs xs && stbs ys) := by
    intro xs ys
    induction xs with
    | nil => simp [stbs]
    | cons x xs ih => simp [stbs, ih, Bool.and_assoc]
  intro xs
  induction xs with
  | nil => rfl
  | cons x xs ih => rw [List.reverse_cons, ap, ih]; simp [stbs, Bool.and_comm]
section
variable {K : PySem.W.Frag} {cl : String → Addr} {F : Sets} {H : Hp}
theorem Rps.rev : ∀ {ds : List D} {vs : List V}, Rps K cl F H ds vs E0s → Rps K cl F H ds.reverse vs.reverse E0s
  | [], vs, r => by simp only [Rps] at r; subst r; simp only [List.reverse_nil, Rps]
  | d :: ds, vs, r => by
    simp only [Rps] at r
    obtain ⟨v, ws, f1, f2, rfl, r1, r2, s1, m1, m2⟩ := r
    rw [List.reverse_cons, List.reverse_cons]
    exact Rps.append (Rps.rev (r2.mono m2)) (Rps.cons (r1.mono m1) (show Rps K cl F H [] [] E0s by simp only [Rps]) (fun _ z => z.elim) (fun _ z => z) fun _ z => z) (fun _ z => z.elim) (fun _ z => z) fun _ z => z
end
section
variable {G : Cfg} {sc : Scope} {N : List Str}
theorem inv_non {x : Expr} (h : erQ G sc N .non x = true) : ∃ k p, x = .Constant .none k p := by
  cases x <;> (try simp [erQ] at h)
  rename_i c k p; cases c <;> simp [erQ] at h; exact ⟨_, _, rfl⟩
theorem inv_tr {b : Bool} {x : Expr} (h : erQ G sc N (.tr b) x = true) : ∃ k p, x = .Constant (.bool b) k p := by
  cases x <;> (try simp [erQ] at h)
  rename_i c k p; cases c <;> simp [erQ] at h; subst h; exact ⟨_, _, rfl⟩
theorem inv_int {b : Int} {x : Expr} (h : erQ G sc N (.int b) x = true) : ∃ k p, x = .Constant (.int b) k p := by
  cases x <;> (try simp [erQ] at h)
  rename_i c k p; cases c <;> simp [erQ] at h; subst h; exact ⟨_, _, rfl⟩
theorem inv_str {b : String} {x : Expr} (h : erQ G sc N (.str b) x = true) : ∃ k p, x = .Constant (.str (Str.ofString b)) k p := by
  cases x <;> (try simp [erQ] at h)
  rename_i c k p; cases c <;> simp [erQ] at h; subst h; exact ⟨_, _, rfl⟩
theorem inv_var {i : Nat} {x : Expr} (h : erQ G sc N (.var i) x = true) : ∃ n p, x = .Name n p ∧ N[i]? = some n ∧ visB sc n = true ∧ okName n = true := by
  cases x <;> (try simp [erQ] at h)
  exact ⟨_, _, rfl, h.1.1, h.1.2, h.2⟩
theorem inv_glob {g : String} {x : Expr} (h : erQ G sc N (.glob g) x = true) : ∃ p, x = .Name (Str.ofString g) p ∧ glB sc (Str.ofString g) = true ∧ okName (Str.ofString g) = true := by
  cases x <;> (try simp [erQ] at h)
  obtain ⟨⟨h1, h2⟩, h3⟩ := h
  subst h1
  exact ⟨_, rfl, h2, h3⟩
theorem inv_bin {op : Operator} {a b : Qx} {x : Expr} (h : erQ G sc N (.bin op a b) x = true) : ∃ l r p, x = .BinOp l op r p ∧ erQ G sc N a l = true ∧ erQ G sc N b r = true := by
  cases x <;> (try simp [erQ] at h)
  obtain ⟨h1, h2, h3⟩ := h
  subst h1
  exact ⟨_, _, _, rfl, h2, h3⟩
theorem inv_un {op : UnaryOp} {a : Qx} {x : Expr} (h : erQ G sc N (.un op a) x = true) : ∃ l p, x = .UnaryOp op l p ∧ op ≠ .Not ∧ erQ G sc N a l = true := by
  cases x <;> (try simp [erQ] at h)
  obtain ⟨⟨h1, h2⟩, h3⟩ := h
  subst h1
  exact ⟨_, _, rfl, h2, h3⟩
theorem inv_nt {a : Qx} {x : Expr} (h : erQ G sc N (.nt a) x = true) : ∃ l p, x = .UnaryOp .Not l p ∧ erQ G sc N a l = true := by
  cases x <;> (try simp [erQ] at h)
  rename_i o l p; cases o <;> simp [erQ] at h
  exact ⟨_, _, rfl, h⟩
theorem inv_cmp {op : CmpOp} {a b : Qx} {x : Expr} (h : erQ G sc N (.cmp op a b) x = true) : ∃ l r p, x = .Compare l [op] [r] p ∧ erQ G sc N a l = true ∧ erQ G sc N b r = true := by
  cases x <;> (try simp [erQ] at h)
  rename_i l ops rs p
  match ops, rs, h with
  | [o], [r], h =>
    simp [erQ] at h
    obtain ⟨h1, h2, h3⟩ := h
    subst h1
    exact ⟨_, _, _, rfl, h2, h3⟩
  | [], _, h => simp [erQ] at h
  | _ :: _ :: _, _, h => simp [erQ] at h
  | [_], [], h => simp [erQ] at h
  | [_], _ :: _ :: _, h => simp [erQ] at h
theorem inv_ch2 {o1 o2 : CmpOp} {a b c : Qx} {x : Expr} (h : erQ G sc N (.ch2 o1 o2 a b c) x = true) : ∃ l r1 r2 p, x = .Compare l [o1, o2] [r1, r2] p ∧ erQ G sc N a l = true ∧ erQ G sc N b r1 = true ∧ erQ G sc N c r2 = true := by
  cases x <;> (try simp [erQ] at h)
  rename_i l ops rs p
  match ops, rs, h with
  | [p1, p2], [r1, r2], h =>
    simp [erQ] at h
    obtain ⟨⟨h1, h2⟩, ⟨h3, h4⟩, h5⟩ := h
    subst h1 h2
    exact ⟨_, _, _, _, rfl, h3, h4, h5⟩
  | [], _, h => simp [erQ] at h
  | [_], _, h => simp [erQ] at h
  | _ :: _ :: _ :: _, _, h => simp [erQ] at h
  | [_, _], [], h => simp [erQ] at h
  | [_, _], [_], h => simp [erQ] at h
  | [_, _], _ :: _ :: _ :: _, h => simp [erQ] at h
theorem inv_and {es : List Qx} {x : Expr} (h : erQ G sc N (.and es) x = true) : ∃ vs p, x = .BoolOp .And vs p ∧ erQs G sc N es vs = true := by
  cases x <;> (try simp [erQ] at h)
  rename_i o vs p; cases o <;> simp [erQ] at h
  exact ⟨_, _, rfl, h⟩
theorem inv_or {es : List Qx} {x : Expr} (h : erQ G sc N (.or es) x = true) : ∃ vs p, x = .BoolOp .Or vs p ∧ erQs G sc N es vs = true := by
  cases x <;> (try simp [erQ] at h)
  rename_i o vs p; cases o <;> simp [erQ] at h
  exact ⟨_, _, rfl, h⟩
theorem inv_ite {c a b : Qx} {x : Expr} (h : erQ G sc N (.ite c a b) x = true) : ∃ t l r p, x = .IfExp t l r p ∧ erQ G sc N c t = true ∧ erQ G sc N a l = true ∧ erQ G sc N b r = true := by
  cases x <;> (try simp [erQ] at h)
  exact ⟨_, _, _, _, rfl, h.1.1, h.1.2, h.2⟩
theorem inv_idx {a b : Qx} {x : Expr} (h : erQ G sc N (.idx a b) x = true) : ∃ l r p, x = .Subscript l r p ∧ erQ G sc N a l = true ∧ erQ G sc N b r = true ∧ nsl r = true := by
  cases x <;> (try simp [erQ] at h)
  exact ⟨_, _, _, rfl, h.1.1, h.1.2, h.2⟩
theorem inv_slc {a : Qx} {lo hi : Option Qx} {x : Expr} (h : erQ G sc N (.slc a lo hi) x = true) : ∃ l s t p q, x = .Subscript l (.Slice s t none p) q ∧ erQ G sc N a l = true ∧ erO G sc N lo s = true ∧ erO G sc N hi t = true := by
  cases x <;> (try simp [erQ] at h)
  rename_i l s p
  cases s <;> (try simp [erQ] at h)
  rename_i s t u q
  cases u <;> (try simp [erQ] at h)
  exact ⟨_, _, _, _, _, rfl, h.1.1, h.1.2, h.2⟩
theorem inv_attr {a : Qx} {f : String} {x : Expr} (h : erQ G sc N (.attr a f) x = true) : ∃ l p, x = .Attribute l (Str.ofString f) p ∧ erQ G sc N a l = true ∧ ncl l = true := by
  cases x <;> (try simp [erQ] at h)
  obtain ⟨⟨h1, h2⟩, h3⟩ := h
  subst h1
  exact ⟨_, _, rfl, h2, h3⟩
theorem inv_tup {es : List Qx} {x : Expr} (h : erQ G sc N (.tup es) x = true) : ∃ vs k p, x = .Tuple vs k p ∧ erQs G sc N es vs = true := by
  cases x <;> (try simp [erQ] at h)
  exact ⟨_, _, _, rfl, h⟩
theorem inv_lst {es : List Qx} {x : Expr} (h : erQ G sc N (.lst es) x = true) : ∃ vs p, x = .List vs p ∧ erQs G sc N es vs = true := by
  cases x <;> (try simp [erQ] at h)
  exact ⟨_, _, rfl, h⟩
theorem nmB_inv {s : String} {x : Expr} (h : nmB sc s x = true) : ∃ p, x = .Name (Str.ofString s) p ∧ glB sc (Str.ofString s) = true ∧ okName (Str.ofString s) = true := by
  cases x <;> simp [nmB] at h
  obtain ⟨⟨h1, h2⟩, h3⟩ := h
  subst h1
  exact ⟨_, rfl, h2, h3⟩
theorem inv_bi {f : String} {es : List Qx} {x : Expr} (h : erQ G sc N (.bi f es) x = true) : ∃ q y ys p, x = .Call (.Name (Str.ofString f) q) (y :: ys) [] p ∧ glB sc (Str.ofString f) = true ∧ okName (Str.ofString f) = true ∧ biQ.contains f = true ∧ erQs G sc N es (y :: ys) = true := by
  cases x <;> (try simp [erQ] at h)
  rename_i c as ks p
  match as, ks, h with
  | y :: ys, [], h =>
    simp [erQ] at h
    obtain ⟨⟨h1, h2⟩, h3⟩ := h
    obtain ⟨q, rfl, h4, h5⟩ := nmB_inv h1
    exact ⟨q, y, ys, p, rfl, h4, h5, by simpa using h2, h3⟩
  | [], _, h => simp [erQ] at h
  | _ :: _, _ :: _, h => simp [erQ] at h
theorem inv_bic {f : String} {es : List Qx} {x : Expr} (h : erQ G sc N (.bic f es) x = true) : ∃ q q2 e p p2 a, x = .Call (.Name (Str.ofString "tuple") q) [.Call (.Name (Str.ofString "reversed") q2) [e] [] p2] [] p ∧ (glB sc (Str.ofString "tuple") = true ∧ okName (Str.ofString "tuple") = true) ∧ (glB sc (Str.ofString "reversed") = true ∧ okName (Str.ofString "reversed") = true) ∧ f = "tuplereversed" ∧ es = [a] ∧ erQ G sc N a e = true := by
  unfold erQ at h
  split at h
  all_goals first
    | (rename_i heq; cases heq; done)
    | (cases h; done)
    | skip
  rename_i f' es' x' z' e' p2 p heq
  cases heq
  simp only [Bool.and_eq_true, beq_iff_eq] at h
  obtain ⟨⟨rfl, h1, h2⟩, h3⟩ := h
  obtain ⟨q1, rfl, h4, h5⟩ := nmB_inv h1
  obtain ⟨q2, rfl, h6, h7⟩ := nmB_inv h2
  match es, h3 with
  | [], h3 => simp [erQs] at h3
  | [a], h3 =>
    simp only [erQs, Bool.and_true] at h3
    exact ⟨q1, q2, e', p, p2, a, rfl, ⟨h4, h5⟩, ⟨h6, h7⟩, rfl, rfl, h3⟩
  | _ :: _ :: _, h3 => simp [erQs] at h3
theorem inv_bm {a : Qx} {m : String} {es : List Qx} {x : Expr} (h : erQ G sc N (.bm a m es) x = true) : ∃ o ap cp, x = .Call (.Attribute o (Str.ofString "bit_length") ap) [] [] cp ∧ (ap.endLine == cp.line) = true ∧ m = "bit_length" ∧ es = [] ∧ erQ G sc N a o = true ∧ ncl o = true := by
  unfold erQ at h
  split at h
  all_goals first
    | (rename_i heq; cases heq; done)
    | (cases h; done)
    | skip
  rename_i a' m' es' o n ap cp heq
  cases heq
  simp only [Bool.and_eq_true, beq_iff_eq] at h
  obtain ⟨⟨⟨rfl, h1⟩, rfl, h2⟩, h3, h4⟩ := h
  exact ⟨o, ap, cp, rfl, by simpa using h2, rfl, by simpa using h1, h3, h4⟩
theorem bits_eq (i : Int) : ((Builtin.Int.intBits i : Nat) : Int) = if i = 0 then 0 else ((i.natAbs.log2 + 1 : Nat) : Int) := by
  unfold Builtin.Int.intBits
  by_cases h : i = 0
  · subst h; simp
  · simp [h]
theorem inv_isi {a : Qx} {cs : List String} {x : Expr} (h : erQ G sc N (.isi a cs) x = true) : ∃ q e t p, x = .Call (.Name (Str.ofString "isinstance") q) [e, t] [] p ∧ glB sc (Str.ofString "isinstance") = true ∧ okName (Str.ofString "isinstance") = true ∧ erQ G sc N a e = true ∧ clssOk G cs = true ∧
    ((∃ ts k p, t = .Tuple ts k p ∧ nmsB sc cs ts = true) ∨ nmsB sc cs [t] = true) := by
  cases x <;> (try simp [erQ] at h)
  rename_i c as ks p
  match as, ks, h with
  | [e, t], [], h =>
    simp only [erQ, Bool.and_eq_true] at h
    obtain ⟨⟨⟨h1, h2⟩, h3⟩, h4⟩ := h
    obtain ⟨q, rfl, h5, h6⟩ := nmB_inv h1
    refine ⟨q, e, t, p, rfl, h5, h6, h2, h3, ?_⟩
    split at h4
    · exact .inl ⟨_, _, _, rfl, h4⟩
    · exact .inr h4
  | [], _, h => simp [erQ] at h
  | [_], _, h => simp [erQ] at h
  | _ :: _ :: _ :: _, _, h => simp [erQ] at h
  | [_, _], _ :: _, h => simp [erQ] at h
theorem inv_xf {i : Nat} {f : String} {x : Expr} (h : erQ G sc N (.xf i f) x = true) : ∃ n q p, x = .Attribute (.Name n q) (Str.ofString f) p ∧ N[i]? = some n ∧ visB sc n = true ∧ okName n = true := by
  cases x <;> (try simp [erQ] at h)
  rename_i l n p
  cases l <;> (try simp [erQ] at h)
  obtain ⟨h1, ⟨h2, h3⟩, h4⟩ := h
  subst h1
  exact ⟨_, _, _, rfl, h2, h3, h4⟩
theorem inv_xi {i : Nat} {cs : List String} {x : Expr} (h : erQ G sc N (.xi i cs) x = true) : ∃ q n q' t p, x = .Call (.Name (Str.ofString "isinstance") q) [.Name n q', t] [] p ∧ glB sc (Str.ofString "isinstance") = true ∧ okName (Str.ofString "isinstance") = true ∧ (N[i]? = some n ∧ visB sc n = true ∧ okName n = true) ∧ clssOk G cs = true ∧
    ((∃ ts k p, t = .Tuple ts k p ∧ nmsB sc cs ts = true) ∨ nmsB sc cs [t] = true) := by
  cases x <;> (try simp [erQ] at h)
  rename_i c as ks p
  match as, ks, h with
  | [e, t], [], h =>
    cases e <;> (try simp [erQ] at h)
    obtain ⟨⟨⟨h1, ⟨h2, h2'⟩, h2''⟩, h3⟩, h4⟩ := h
    obtain ⟨q, rfl, h5, h6⟩ := nmB_inv h1
    refine ⟨q, _, _, t, p, rfl, h5, h6, ⟨h2, h2', h2''⟩, h3, ?_⟩
    split at h4
    · exact .inl ⟨_, _, _, rfl, h4⟩
    · exact .inr h4
  | [], _, h => simp [erQ] at h
  | [_], _, h => simp [erQ] at h
  | _ :: _ :: _ :: _, _, h => simp [erQ] at h
  | [_, _], _ :: _, h => simp [erQ] at h
end

section
variable {X : Cx} {G : Cfg} {cl : String → Addr} {fx : Fx} {sc : Scope}
def wO (X : Cx) (o : Option Expr) : TO := fun σ H Q => ∀ pins s, Inv X pins σ H s → wpAny (model X.prog X.w) X.A (evalPart o X.env) (fun u s' => ∃ o H', Inv X pins σ H' s' ∧ IsPart u o ∧ Q o H') X.xe s
theorem po_w {o : Option Expr} : PO X o (wO X o) := ⟨fun pins s σ H Q I h => h pins s I⟩
theorem to_wO {o : Option Expr} {t : TO} {σ : L2.St} {H : Hp} {Q : Option Int → Hp → Prop} (h : PO X o t) (q : t σ H Q) : wO X o σ H Q := fun pins s I => h.run pins s σ H Q I q
def QPT (F : Sets) (H : Hp) (k : Bool) (Q : Bool → Hp → Prop) : Prop := ∀ F' H', Gr F H F' H' → Q k H'
/-- what isTrue says of plain syntax -/
theorem pt_plain {x : Expr} {σ : L2.St} {H : Hp} {Q : Bool → Hp → Prop} (he : ∀ whole, isTrue x X.env whole = (do let v ← whole; standAt x.pos; holding [v] (truthy v)))
    (h : wE X x σ H fun v H' => ∃ k, TruV X.K v H' k ∧ Q k H') : wT X x σ H Q := to_wT (pt_truth pe_w he) h
theorem RS.fd {K : PySem.W.Frag} {F L : Sets} {H : Hp} {σ : L2.St} {env : Env} {A : Nat → Sets} (r : RS K cl fx F L H σ env A) : FD F H := fun a z => r.dom a (.inl z)
theorem tru_post {d : D} {k : Bool} {F L : Sets} {H : Hp} {A : Nat → Sets} {rt : List Nat} {Q : Bool → Hp → Prop} (e : truD d = some k) (q : QPT F H k Q) :
    QP X.K cl F L H A rt d (fun v H' => ∃ k, TruV X.K v H' k ∧ Q k H') := fun v F' H' fp g r _ => ⟨k, r.tru e, q F' H' g⟩
theorem ofString_inj {a b : String} (h : Str.ofString a = Str.ofString b) : a = b := by
  rw [Str.ofString_eq_toList, Str.ofString_eq_toList] at h
  have h1 : a.toList.map Char.toNat = b.toList.map Char.toNat := by
    injection h with h
    simpa using congrArg Array.toList h
  have h2 : a.toList = b.toList := by
    have inj : ∀ (x y : List Char), x.map Char.toNat = y.map Char.toNat → x = y := by
      intro x
      induction x with
      | nil => intro y h; cases y with
        | nil => rfl
        | cons _ _ => cases h
      | cons c x ih =>
        intro y h
        cases y with
        | nil => cases h
        | cons d y =>
          simp only [List.map_cons, List.cons.injEq] at h
          have hc : c = d := by
            apply Char.ext
            exact UInt32.toNat_inj.mp h.1
          rw [hc, ih y h.2]
    exact inj _ _ h1
  exact String.toList_inj.mp h2
theorem fld_get {K : PySem.W.Frag} {F : Sets} {H : Hp} : ∀ {ns : List String} {ds : List D} {vs : List V} {fp : Sets} {f : String} {d : D}, Rps K cl F H ds vs fp → ns.length = ds.length → fld ns ds f = some d →
    ∃ v, ((ns.map Str.ofString).zip vs).lookup (Str.ofString f) = some v ∧ Rp K cl F H d v fp
  | [], ds, vs, fp, f, d, r, l, h => by simp [fld] at h
  | n :: ns, [], vs, fp, f, d, r, l, h => by simp [fld] at h
  | n :: ns, e :: ds, vs, fp, f, d, r, l, h => by
    simp only [Rps] at r
    obtain ⟨v, t, p, q, rfl, h1, h2, h3, h4, h5⟩ := r
    simp only [fld] at h
    simp only [List.map_cons, List.zip_cons_cons, List.lookup_cons]
    split at h
    · rename_i hn
      cases h
      subst hn
      rw [beq_self_eq_true]
      exact ⟨v, rfl, h1.mono h4⟩
    · rename_i hn
      have : (Str.ofString f == Str.ofString n) = false := beq_eq_false_iff_ne.mpr fun z => hn (ofString_inj z).symm
      rw [this]
      obtain ⟨w, k1, k2⟩ := fld_get h2 (by simpa using l) h
      exact ⟨w, k1, k2.mono h5⟩
/-! ### calls of built-ins -/
theorem bi_pe (g : Good G cl fx sc X) {f : String} (hf : biQ.contains f = true) (hh : (G.hot && f != "len") = false) :
    bNames.contains f = true ∧ ((∃ id, bootBuiltins (Str.ofString f) = some (.builtin id) ∧ CallR X (.builtin id) (rBi X.K cl f)) ∨ (∃ T, bootBuiltins (Str.ofString f) = some (.type T) ∧ CallR X (.type T) (rBi X.K cl f))) := by
  have hc : f ≠ "len" → X.calm = true := fun hn => g.calm (by
    cases h : G.hot with
    | false => rfl
    | true => rw [h] at hh; simp [hn] at hh)
  simp only [biQ, List.contains_cons, List.contains_nil, Bool.or_false, Bool.or_eq_true, beq_iff_eq] at hf
  rcases hf with rfl | rfl | rfl | rfl | rfl | rfl | rfl | rfl | rfl | rfl | rfl | rfl | rfl
  · exact ⟨by decide, .inl ⟨_, by decide +kernel, bi_len⟩⟩
  · exact ⟨by decide, .inr ⟨_, by decide +kernel, bi_int⟩⟩
  · exact ⟨by decide, .inr ⟨_, by decide +kernel, bi_str⟩⟩
  · exact ⟨by decide, .inl ⟨_, by decide +kernel, bi_abs⟩⟩
  · exact ⟨by decide, .inl ⟨_, by decide +kernel, bi_max (hc (by decide))⟩⟩
  · exact ⟨by decide, .inl ⟨_, by decide +kernel, bi_min (hc (by decide))⟩⟩
  · exact ⟨by decide, .inl ⟨_, by decide +kernel, bi_sum (hc (by decide))⟩⟩
  · exact ⟨by decide, .inl ⟨_, by decide +kernel, bi_all (hc (by decide))⟩⟩
  · exact ⟨by decide, .inl ⟨_, by decide +kernel, bi_any (hc (by decide))⟩⟩
  · exact ⟨by decide, .inr ⟨_, by decide +kernel, bi_tuple⟩⟩
  · exact ⟨by decide, .inr ⟨_, by decide +kernel, bi_list (hc (by decide))⟩⟩
  · exact ⟨by decide, .inl ⟨_, by decide +kernel, bi_sorted (by have := g.un; omega)⟩⟩
  · exact ⟨by decide, .inr ⟨_, by decide +kernel, bi_set (hc (by decide))⟩⟩
theorem bi_call (g : Good G cl fx sc X) {f : String} {y : Expr} {ys : List Expr} {q p : Pos} {σ : L2.St} {H : Hp} {Q : VK} (hf : biQ.contains f = true) (hh : (G.hot && f != "len") = false) (h1 : glB sc (Str.ofString f) = true) (h2 : okName (Str.ofString f) = true) (hs : nsts (y :: ys) = true)
    (h : wA X (y :: ys) σ H fun vs H' => rBi X.K cl f vs H' Q) : wE X (.Call (.Name (Str.ofString f) q) (y :: ys) [] p) σ H Q := by
  obtain ⟨k1, k2, k3⟩ := okName_ok h2
  have hs' : nst y = true ∧ nsts ys = true := by simpa [nsts] using hs
  obtain ⟨hb, h3⟩ := bi_pe g hf hh
  have hm := g.kf.bi f (by simpa using hb)
  rcases h3 with ⟨id, e, c⟩ | ⟨T, e, c⟩
  · exact to_wE (pe_callB c (glB_ok g.scq h1) hm e pa_w k3 k1 (star_cons hs'.1) (backTo_any _ _ _ hs'.2)) h
  · exact to_wE (pe_callTy c (glB_ok g.scq h1) hm e pa_w k3 k1 (star_cons hs'.1) (backTo_any _ _ _ hs'.2)) h
/-! ### isinstance -/
theorem cls_pe (g : Good G cl fx sc X) {c : String} {x : Expr} (h : nmB sc c x = true) (hc : clsOk G c = true) : ∃ v, PE X x (tC v) ∧ ClsV v (tv cl c) ∧ nst x = true := by
  obtain ⟨p, rfl, h1, h2⟩ := nmB_inv h
  obtain ⟨k1, k2, k3⟩ := okName_ok h2
  by_cases h5 : five.contains c = true
  · refine ⟨.ty c, ?_, by unfold tv; rw [if_pos h5]; exact .ty c, rfl⟩
    have hb : bootBuiltins (Str.ofString c) = some (.type c) ∧ bNames.contains c = true := by
      have h6 := h5
      simp only [five, List.contains_cons, List.contains_nil, Bool.or_false, Bool.or_eq_true, beq_iff_eq] at h6
      rcases h6 with rfl | rfl | rfl | rfl | rfl | rfl | rfl | rfl | rfl | rfl <;> exact ⟨by decide +kernel, by decide⟩
    exact pe_bltn (glB_ok g.scq h1) (g.kf.bi c (by simpa using hb.2)) hb.1 rfl k3 k1
  · have h6 : c ∈ G.pl ∨ c ∈ G.ec := by
      unfold clsOk at hc
      simp only [Bool.or_eq_true] at hc
      rcases hc with (hc | hc) | hc
      · exact absurd hc h5
      · exact .inl (by simpa using hc)
      · exact .inr (by simpa using hc)
    refine ⟨.ref (cl c), pe_glob (glB_ok g.scq h1) (g.kf.cls c h6) rfl k1, by unfold tv; rw [if_neg h5]; exact .own _, rfl⟩
theorem clss_pa (g : Good G cl fx sc X) : ∀ {cs : List String} {xs : List Expr}, nmsB sc cs xs = true → cs.all (clsOk G) = true → ∃ vs, PA X xs (fun _ H Q => Q vs H) ∧ Paired ClsV vs (cs.map (tv cl)) ∧ vs.length = cs.length
  | [], [], _, _ => ⟨[], pa_nil, .nil, rfl⟩
  | [], _ :: _, h, _ => by simp [nmsB] at h
  | _ :: _, [], h, _ => by simp [nmsB] at h
  | c :: cs, x :: xs, h, hc => by
    simp only [nmsB, Bool.and_eq_true] at h
    simp only [List.all_cons, Bool.and_eq_true] at hc
    obtain ⟨v, h1, h2, h3⟩ := cls_pe g h.1 hc.1
    obtain ⟨vs, k1, k2, k3⟩ := clss_pa g h.2 hc.2
    exact ⟨v :: vs, pa_cons h1 k1 (star_cons h3), .cons h2 k2, by simp [k3]⟩
theorem kit_five (K : PySem.W.Frag) : ∀ T ∈ ["int", "bool", "str", "tuple", "list", "NoneType"], ∀ t ∈ five, PySem.W.kitOne K (.type T) (.type t) = some (t == T || (T == "bool" && t == "int")) := by
  intro T hT t ht
  simp only [List.mem_cons, List.mem_nil_iff, or_false, five] at hT ht
  rcases hT with rfl | rfl | rfl | rfl | rfl | rfl <;> rcases ht with rfl | rfl | rfl | rfl | rfl | rfl | rfl | rfl | rfl | rfl <;> exact kit_ty (by decide +kernel)
theorem kit_B (g : Good G cl fx sc X) {T t : String} (hT : T ∈ ["int", "bool", "str", "tuple", "list", "NoneType"]) (ht : clsOk G t = true) {b : Bool} (e : (t == T || (T == "bool" && t == "int")) = b) : PySem.W.kitOne X.K (.type T) (tv cl t) = some b := by
  subst e
  by_cases h5 : five.contains t = true
  · unfold tv; rw [if_pos h5]
    exact kit_five X.K T hT t (by simpa using h5)
  · have h6 : t ∈ G.pl ∨ t ∈ G.ec := by
      unfold clsOk at ht
      simp only [Bool.or_eq_true] at ht
      rcases ht with (hc | hc) | hc
      · exact absurd hc h5
      · exact .inl (by simpa using hc)
      · exact .inr (by simpa using hc)
    unfold tv; rw [if_neg h5]
    rw [(g.kf.kitb T hT t h6).2]
    have n5 : t ∉ five := by simpa using h5
    simp only [five, List.mem_cons, List.mem_nil_iff, or_false, not_or] at n5
    obtain ⟨n1, n2, n3, n4, n5, _⟩ := n5
    have n6 := (g.kf.kitb T hT t h6).1.2
    have b1 := beq_eq_false_iff_ne.mpr n1
    have b2 := beq_eq_false_iff_ne.mpr n2
    have b3 := beq_eq_false_iff_ne.mpr n3
    have b4 := beq_eq_false_iff_ne.mpr n4
    have b5 := beq_eq_false_iff_ne.mpr n5
    have b6 := beq_eq_false_iff_ne.mpr n6
    simp only [List.mem_cons, List.mem_nil_iff, or_false] at hT
    rcases hT with rfl | rfl | rfl | rfl | rfl | rfl <;> simp only [b1, b2, b3, b4, b5, b6, Bool.and_false, Bool.or_false]
theorem not_nt (g : Good G cl fx sc X) {t : String} (ht : clsOk G t = true) : (t == "NoneType") = false := by
  by_cases h5 : five.contains t = true
  · have h6 : t ∈ five := by simpa using h5
    simp only [five, List.mem_cons, List.mem_nil_iff, or_false] at h6
    rcases h6 with rfl | rfl | rfl | rfl | rfl | rfl | rfl | rfl | rfl | rfl <;> decide
  · have h6 : t ∈ G.pl ∨ t ∈ G.ec := by
      unfold clsOk at ht
      simp only [Bool.or_eq_true] at ht
      rcases ht with (hc | hc) | hc
      · exact absurd hc h5
      · exact .inl (by simpa using hc)
      · exact .inr (by simpa using hc)
    exact beq_eq_false_iff_ne.mpr (g.kf.kitb "NoneType" (by decide) t h6).1.2
theorem isi_kit (g : Good G cl fx sc X) {pins : List (Addr × Obj)} {s : Shared} {σ : L2.St} {F : Sets} {H : Hp} {d : D} {v : V} {u : Value} {fp : Sets} (I : Inv X pins σ H s) (ru : RelV v u) (r : Rp X.K cl F H d v fp) :
    (∀ t, clsOk G t = true → isiB G d t = none) ∨ ∃ T P, PySem.W.KitX X.K u T P ∧ P s.heap ∧ u ≠ .builtin "__main__.__loader__#opaque" ∧ ∀ t b, clsOk G t = true → isiB G d t = some b → PySem.W.kitOne X.K T (tv cl t) = some b := by
  have base : ∀ T, TyX X.K H v T → (∀ t b, clsOk G t = true → isiB G d t = some b → PySem.W.kitOne X.K T (tv cl t) = some b) →
      (∀ t, clsOk G t = true → isiB G d t = none) ∨ ∃ T P, PySem.W.KitX X.K u T P ∧ P s.heap ∧ u ≠ .builtin "__main__.__loader__#opaque" ∧ ∀ t b, clsOk G t = true → isiB G d t = some b → PySem.W.kitOne X.K T (tv cl t) = some b := fun T ty h => by
    obtain ⟨P, k1, k2, k3⟩ := kit_of I ru ty
    exact .inr ⟨T, P, k1, k2, k3, h⟩
  cases d with
  | non => simp only [Rp] at r; subst r; exact base _ (.base .non) fun t b ht e => kit_B g (by decide) ht (by simp only [isiB, Option.some.injEq] at e; subst e; simp [not_nt g ht])
  | bl c => simp only [Rp] at r; subst r; exact base _ (.base (.bl _)) fun t b ht e => kit_B g (by decide) ht (by simp only [isiB, Option.some.injEq] at e; subst e; simp)
  | int i => simp only [Rp] at r; subst r; exact base _ (.base (.int _)) fun t b ht e => kit_B g (by decide) ht (by simp only [isiB, Option.some.injEq] at e; subst e; simp)
  | str i => simp only [Rp] at r; subst r; exact base _ (.base (.str _)) fun t b ht e => kit_B g (by decide) ht (by simp only [isiB, Option.some.injEq] at e; subst e; simp)
  | tup xs =>
    simp only [Rp] at r
    obtain ⟨a, vs, rfl, s1, r1⟩ := r
    have fin : ∀ t b, clsOk G t = true → isiB G (.tup xs) t = some b → PySem.W.kitOne X.K (.type "tuple") (tv cl t) = some b := fun t b ht e => kit_B g (by decide) ht (by simp only [isiB, Option.some.injEq] at e; subst e; simp)
    rcases s1 with (s1 | ⟨o, s1⟩) | ⟨o, its, n, s1, s2, _⟩
    · exact base _ (.base (.tup s1)) fin
    · exact base _ (.fTuple s1) fin
    · exact base _ (.kTuple s1 s2) fin
  | lst t xs =>
    obtain ⟨a, vs, rfl, s1, r1⟩ := r.lst_mono
    have fin : ∀ t' b, clsOk G t' = true → isiB G (.lst t xs) t' = some b → PySem.W.kitOne X.K (.type "list") (tv cl t') = some b := fun t b ht e => kit_B g (by decide) ht (by simp only [isiB, Option.some.injEq] at e; subst e; simp)
    rcases s1 with (s1 | ⟨o, s1⟩) | ⟨o, its, n, s1, s2, _⟩
    · exact base _ (.base (.lst s1)) fin
    · exact base _ (.base (.frz s1)) fin
    · exact base _ (.kList s1 s2) fin
  | obj t c ns ds =>
    by_cases hc : G.pl.contains c = true
    · have hc' : c ∈ G.pl := by simpa using hc
      obtain ⟨k1, k2, k3, k4, k5⟩ := g.kf.obj c hc'
      obtain ⟨a, dx, fs, rfl, s1⟩ : ∃ a dx fs, v = .ref a ∧ H a = some (.ins (cl c) dx fs) := by
        cases t with
        | own => simp only [Rp] at r; obtain ⟨a, dx, vs, g, rfl, s1, _⟩ := r; exact ⟨_, _, _, rfl, s1⟩
        | fro => simp only [Rp] at r; obtain ⟨a, dx, vs, rfl, _, s1, _⟩ := r; exact ⟨_, _, _, rfl, s1⟩
        | scr => simp only [Rp] at r
      refine base _ (.base (.ins s1 k1 k2 k3 k4 k5)) fun t' b ht e => ?_
      simp only [isiB, hc, if_true, Option.some.injEq] at e
      rw [g.kf.kit c (.inl hc') t' (by unfold clsOk at ht; simpa [or_assoc] using ht), e]
    · exact .inl fun t' _ => by simp only [isiB]; rw [if_neg hc]
  | iset _ _ => exact .inl fun _ _ => rfl
  | dic _ _ _ => exact .inl fun _ _ => rfl
theorem isi_any {d : D} {K : PySem.W.Frag} {T : Value} (h : ∀ t b, clsOk G t = true → isiB G d t = some b → PySem.W.kitOne K T (tv cl t) = some b) : ∀ {cs : List String} {b : Bool}, cs.all (clsOk G) = true → isiD G d cs = some b → PySem.W.kitAny K T (cs.map (tv cl)) = some b
  | [], b, _, e => by simpa [isiD, PySem.W.kitAny] using e
  | c :: cs, b, hc, e => by
    simp only [List.all_cons, Bool.and_eq_true] at hc
    simp only [isiD] at e
    simp only [List.map_cons, PySem.W.kitAny]
    split at e
    · rename_i e1
      cases e
      rw [h c true hc.1 e1]
    · rename_i e1
      rw [h c false hc.1 e1]
      exact isi_any h hc.2 e
    · cases e
theorem truD_fz0 (d : D) : truD d.fz0 = truD d := by
  cases d with
  | lst t xs => cases t <;> rfl
  | iset t xs => cases t <;> rfl
  | _ => rfl
theorem QPT.gr {F F1 : Sets} {H H1 : Hp} {k : Bool} {Q : Bool → Hp → Prop} (q : QPT F H k Q) (g : Gr F H F1 H1) : QPT F1 H1 k Q := fun F' H' g' => q F' H' (g.trans g')
def wW (X : Cx) (x : Expr) : TT := fun σ H Q => ∀ whole pins s, Inv X pins σ H s → wpAny (model X.prog X.w) X.A (isTrue x X.env whole) (TP X pins σ Q) X.xe s
theorem pw_w {x : Expr} : PW X x (wW X x) := ⟨fun whole pins s σ H Q I h => h whole pins s I⟩
theorem to_wW {x : Expr} {t : TT} {σ : L2.St} {H : Hp} {Q : Bool → Hp → Prop} (h : PW X x t) (q : t σ H Q) : wW X x σ H Q := fun whole pins s I => h.run whole pins s σ H Q I q
theorem pt_ite {c a b : Expr} {pos : Pos} {tc ta tb : TT} (hc : PT X c tc) (ha : PT X a ta) (hb : PT X b tb) : PT X (.IfExp c a b pos) (fun σ H Q => tc σ H fun k H1 => if k = true then ta σ H1 Q else tb σ H1 Q) := by
  refine ⟨fun pins s σ H Q I h => ?_⟩
  show wpAny _ _ (do if ← isTrue c X.env (eval c X.env) then isTrue a X.env (eval a X.env) else isTrue b X.env (eval b X.env)) _ _ _
  refine wpAny_bind (wpAny_mono (hc.run pins s σ H _ I h) (fun d s1 ⟨H1, I1, q1⟩ => ?_) fun _ _ x => x)
  cases d with
  | true => exact ha.run pins s1 σ H1 Q I1 q1
  | false => exact hb.run pins s1 σ H1 Q I1 q1
theorem sizeLine_big : 64 ≤ sizeLine := by decide
/-- what isinstance tells of v -/
def KVs (X : Cx) (cl : String → Addr) (v : V) (H : Hp) (cs : List String) (b : Bool) : Prop := ∀ (pins : List (Addr × Obj)) (s : Shared) (σ : L2.St) (u : Value), Inv X pins σ H s → RelV v u →
  ∃ T P, PySem.W.KitX X.K u T P ∧ P s.heap ∧ u ≠ .builtin "__main__.__loader__#opaque" ∧ PySem.W.kitAny X.K T (cs.map (tv cl)) = some b ∧ ∀ c, cs = [c] → PySem.W.kitOne X.K T (tv cl c) = some b
theorem kvs_of (g : Good G cl fx sc X) {F : Sets} {H : Hp} {d : D} {v : V} {fp : Sets} {cs : List String} {b : Bool} (hn : cs ≠ []) (hc : cs.all (clsOk G) = true) (r : Rp X.K cl F H d v fp) (e : isiD G d cs = some b) : KVs X cl v H cs b := by
  intro pins s σ u I ru
  rcases isi_kit g I ru r with h | ⟨T, P, Z, p, hx, h⟩
  · cases cs with
    | nil => exact absurd rfl hn
    | cons c cs =>
      simp only [List.all_cons, Bool.and_eq_true] at hc
      simp only [isiD, h c hc.1] at e; cases e
  · refine ⟨T, P, Z, p, hx, isi_any h hc e, fun c z => ?_⟩
    subst z
    simp only [List.all_cons, List.all_nil, Bool.and_true] at hc
    refine h c b hc ?_
    simp only [isiD] at e
    split at e <;> (rename_i e1; rw [e1]; exact e)
theorem kit_anyX {K : PySem.W.Frag} {T : Value} {f : String → Bool} (h : ∀ t, clsOk G t = true → PySem.W.kitOne K T (tv cl t) = some (f t)) : ∀ {cs : List String}, cs.all (clsOk G) = true → PySem.W.kitAny K T (cs.map (tv cl)) = some (cs.any f)
  | [], _ => rfl
  | c :: cs, hc => by
    simp only [List.all_cons, Bool.and_eq_true] at hc
    simp only [List.map_cons, PySem.W.kitAny, h c hc.1, List.any_cons]
    cases f c with
    | true => rfl
    | false => simpa using kit_anyX h hc.2
theorem kvs_xc (g : Good G cl fx sc X) {H : Hp} {i : Nat} {a : Addr} {c : String} {dx : Addr} {cs : List String} (hc : cs.all (clsOk G) = true) (hx : fx.x i a c dx) (hd : ∃ fs, H dx = some (.xd fs)) (he : G.ec.contains c = true) : KVs X cl (.ref a) H cs (cs.any fun t => (G.mro c).contains t) := by
  intro pins s σ u I ru
  cases ru
  obtain ⟨P, Z, p⟩ := g.xki I hx hd he
  have key : ∀ t, clsOk G t = true → PySem.W.kitOne X.K (.ref (cl c)) (tv cl t) = some ((G.mro c).contains t) := fun t ht => g.kf.kit c (.inr (by simpa using he)) t (by unfold clsOk at ht; simpa [or_assoc] using ht)
  refine ⟨_, P, Z, p, (fun z => by cases z), kit_anyX key hc, fun t z => ?_⟩
  subst z
  simp only [List.all_cons, List.all_nil, Bool.and_true] at hc
  simpa using key t hc
theorem call_is1 {c : String} : CallR X (.builtin "isinstance") (fun vs H Q => ∃ v w b, vs = [v, w] ∧ KVs X cl v H [c] b ∧ ClsV w (tv cl c) ∧ Q (.bl b) H) := by
  intro pins s σ H xs us Q I r h
  obtain ⟨v, w, b, rfl, kv, k, q⟩ := h
  obtain ⟨u1, u2, rfl, r1, r2⟩ := vals2 r
  have e2 := k.eq r2
  subst e2
  obtain ⟨T, P, Z, p, hx, _, e'⟩ := kv pins s σ u1 I r1
  exact PySem.W.kia_one Z I.kIn p (e' c rfl) hx fun tk => ⟨.bl b, H, I.tok tk, rfl, q⟩
theorem call_isT {cs : List String} : CallR X (.builtin "isinstance") (fun vs H Q => ∃ v tp ws b, vs = [v, .ref tp] ∧ KVs X cl v H cs b ∧ H tp = some (.tup ws) ∧ Paired ClsV ws (cs.map (tv cl)) ∧ Q (.bl b) H) := by
  intro pins s σ H xs us Q I r h
  obtain ⟨v, tp, ws, b, rfl, kv, hT, k, q⟩ := h
  obtain ⟨u1, u2, rfl, r1, r2⟩ := vals2 r
  cases (show u2 = Value.ref tp from r2)
  obtain ⟨T, P, Z, p, hx, e', _⟩ := kv pins s σ u1 I r1
  obtain ⟨_, its, rv, o, h1, h2, n, h3⟩ := (show ObjOk X.prog X.w H s.heap tp (.tup ws) from I.hok tp _ hT)
  have e3 := ClsV.all k rv
  subst e3
  obtain ⟨oc, od, dt, sl⟩ := o
  simp only at h2 h3
  subst h2 h3
  exact PySem.W.kia_tup Z I.kIn p h1 e' hx fun tk => ⟨.bl b, H, I.tok tk, rfl, q⟩
theorem attr_ok (g : Good G cl fx sc X) {l : Expr} {f : String} {p : Pos} (hn : ncl l = true) {F L : Sets} {H : Hp} {σ : L2.St} {A : Nat → Sets} {rt : List Nat} {da d : D} (ha : ∀ {Q : VK}, QP X.K cl F L H A rt da Q → wE X l σ H Q) (hd : attrD G da f = some d) {Q : VK} (q : QP X.K cl F L H A rt d Q) :
    wE X (.Attribute l (Str.ofString f) p) σ H Q := by
  intro pins s I
  refine attr_of (attr_base hn) (thn (ha (Q := fun v H' => ∃ F' f1, Gr F H F' H' ∧ Rp X.K cl F' H' da v f1 ∧ (∀ a', f1 a' → (∃ i ∈ rt, A i a') ∨ L a')) (fun v F1 H1 f1 g1 r1 m1 => ⟨F1, f1, g1, r1, m1⟩) pins s I) fun u s1 ⟨v, H1, I1, ru, F1, f1, g1, r1, m1⟩ => ?_)
  cases da with
  | obj t c ns ds =>
    simp only [attrD] at hd
    split at hd
    · rename_i hf
      simp only [Bool.and_eq_true] at hf
      have hc : c ∈ G.pl := by simpa using hf.1
      replace hf := hf.2
      obtain ⟨a', dx, vs, g', rfl, e1, e2, e3, e4⟩ : ∃ a' dx vs g', v = .ref a' ∧ H1 a' = some (.ins (cl c) dx ((ns.map Str.ofString).zip vs)) ∧ ns.length = ds.length ∧ Rps X.K cl F1 H1 ds vs g' ∧ (∀ b, g' b → f1 b) := by
        cases t with
        | own =>
          simp only [Rp] at r1
          obtain ⟨a', dx, vs, g', rfl, e1, e2, _, _, e5, e6⟩ := r1
          exact ⟨a', dx, vs, g', rfl, e1, e2, e6, e5⟩
        | fro =>
          simp only [Rp] at r1
          obtain ⟨a', dx, vs, rfl, _, e1, e2, e6⟩ := r1
          exact ⟨a', dx, vs, _, rfl, e1, e2, e6, fun _ z => z.elim⟩
        | scr => simp only [Rp] at r1
      obtain ⟨w, k1, k2⟩ := fld_get e3 e2 hd
      cases ru
      exact getattr_ok I1 e1 (g.kf.obj c hc).1 (g.kf.noat c f hf hc) k1 fun u' s2 I2 ru' => ⟨w, H1, I2, ru', q w F1 H1 f1 g1 (k2.mono e4) fun b z => m1 b z⟩
    · cases hd
  | _ => cases hd
theorem isi_ok (g : Good G cl fx sc X) {q0 p : Pos} {e t : Expr} {cs : List String} (h1 : glB sc (Str.ofString "isinstance") = true) (h2 : okName (Str.ofString "isinstance") = true) (he : nst e = true) (hc : clssOk G cs = true) (ht : (∃ ts k p, t = .Tuple ts k p ∧ nmsB sc cs ts = true) ∨ nmsB sc cs [t] = true)
    {F L : Sets} {H : Hp} {σ : L2.St} {A : Nat → Sets} {rt' : List Nat} {k : Bool} (ha : ∀ {Q : VK}, (∀ v F' H', Gr F H F' H' → (∀ F2 H2, Gr F' H' F2 H2 → KVs X cl v H2 cs k) → Q v H') → wE X e σ H Q) {Q : VK} (q : QP X.K cl F L H A rt' (.bl k) Q) :
    wE X (.Call (.Name (Str.ofString "isinstance") q0) [e, t] [] p) σ H Q := by
  obtain ⟨hn, hl, hc⟩ := clssOk_ok hc
  obtain ⟨k1, k2, k3⟩ := okName_ok h2
  have hm := g.kf.bi "isinstance" (by decide)
  have hb : bootBuiltins (Str.ofString "isinstance") = some (.builtin "isinstance") := by decide +kernel
  rcases ht with ⟨ts, kk, pp, rfl, ht⟩ | ht
  · obtain ⟨vs, pa, pc, pl⟩ := clss_pa g ht hc
    refine to_wE (pe_callB (call_isT (cl := cl) (cs := cs)) (glB_ok g.scq h1) hm hb (pa_cons pe_w (pa_cons (pe_tup pa) pa_nil rfl) (star_cons he)) k3 k1 (star_cons he) (backTo_any _ _ [_] rfl)) ?_
    refine ha fun v F1 H1 g1 kv => ?_
    refine ⟨by rw [pl]; have := sizeLine_big; omega, fun p hp => ?_⟩
    exact ⟨v, p, vs, k, rfl, kv _ _ (Gr.alloc0 hp), upd_same, pc, q.sc (v := .bl k) (g1.trans (Gr.alloc0 hp)) (by simp only [Rp])⟩
  · obtain ⟨c, rfl⟩ : ∃ c, cs = [c] := by
      match cs, ht with
      | [c], _ => exact ⟨c, rfl⟩
      | [], ht => simp [nmsB] at ht
      | _ :: _ :: _, ht => simp [nmsB] at ht
    simp only [nmsB, Bool.and_true] at ht
    simp only [List.all_cons, List.all_nil, Bool.and_true] at hc
    obtain ⟨w, pw, cw, sw⟩ := cls_pe g ht hc
    refine to_wE (pe_callB (call_is1 (cl := cl) (c := c)) (glB_ok g.scq h1) hm hb (pa_cons pe_w (pa_cons pw pa_nil (star_cons sw)) (star_cons he)) k3 k1 (star_cons he) (backTo_any _ _ [_] (by simp [nsts, sw]))) ?_
    refine ha fun v F1 H1 g1 kv => ?_
    exact ⟨v, w, k, rfl, kv _ _ Gr.refl, cw, q.sc (v := .bl k) g1 (by simp only [Rp])⟩
theorem xf_ok (g : Good G cl fx sc X) {n : Str} {q p : Pos} {i : Nat} {f : String} (h1 : X.N[i]? = some n) (h2 : visB sc n = true) (h3 : okName n = true) {F L : Sets} {H : Hp} {σ : L2.St} {env : Env} {A : Nat → Sets} {rt : List Nat} (r : RS X.K cl fx F L H σ env A) {d : D} (hd : xfD G env i f = some d) {Q : VK} (q' : QP X.K cl F L H A rt d Q) :
    wE X (.Attribute (.Name n q) (Str.ofString f) p) σ H Q := by
  obtain ⟨k1, k2, k3⟩ := okName_ok h3
  unfold xfD at hd
  split at hd
  · rename_i c ns ds e
    split at hd
    · rename_i hf
      obtain ⟨a, dx, vs, e1, e2, e3, e4, e5⟩ := r.xc i c ns ds e
      obtain ⟨w, kk1, kk2⟩ := fld_get e5 e4 hd
      intro pins s I
      refine attr_of (attr_base (e := .Name n q) rfl) (thn ((pe_var h1 (visB_ok g.scq h2) k1 k2).run pins s σ H (fun v H' => v = .ref a ∧ H' = H) I ⟨_, e1, rfl, rfl⟩) fun u s1 ⟨v, H1, I1, ru, z1, z2⟩ => ?_)
      subst z1 z2
      cases ru
      exact g.xat I1 e2 e3 hf kk1 (q'.sc Gr.refl kk2)
    · cases hd
  · cases hd
theorem xi_pe (g : Good G cl fx sc X) {n : Str} {q : Pos} {i : Nat} {cs : List String} (hc : clssOk G cs = true) (h1 : X.N[i]? = some n) (h2 : visB sc n = true) (h3 : okName n = true) {F L : Sets} {H : Hp} {σ : L2.St} {env : Env} {A : Nat → Sets} (r : RS X.K cl fx F L H σ env A) {k : Bool} (hd : xiD G env i cs = some k) {Q : VK}
    (q' : ∀ v F' H', Gr F H F' H' → (∀ F2 H2, Gr F' H' F2 H2 → KVs X cl v H2 cs k) → Q v H') : wE X (.Name n q) σ H Q := by
  obtain ⟨k1, k2, k3⟩ := okName_ok h3
  unfold xiD at hd
  split at hd
  · rename_i c ns ds e
    split at hd
    · rename_i he
      cases hd
      obtain ⟨a, dx, vs, e1, e2, e3, e4, e5⟩ := r.xc i c ns ds e
      exact to_wE (pe_var h1 (visB_ok g.scq h2) k1 k2) ⟨_, e1, q' _ F H Gr.refl fun F2 H2 g2 => kvs_xc g (clssOk_ok hc).2.2 e2 ⟨_, g2.keep _ _ e3⟩ he⟩
    · cases hd
  · cases hd
set_option maxHeartbeats 4000000
mutual
theorem qv_ok (g : Good G cl fx sc X) : ∀ (e : Qx) (x : Expr), erQ G sc X.N e x = true → ∀ {F L : Sets} {H : Hp} {σ : L2.St} {env : Env} {A : Nat → Sets}, RS X.K cl fx F L H σ env A →
    ∀ {d : D}, qv G e env = some d → ∀ {Q : VK}, QP X.K cl F L H A (roots e) d Q → wE X x σ H Q
  | .non, x, er, F, L, H, σ, env, A, r, d, h, Q, q => by
    obtain ⟨k, p, rfl⟩ := inv_non er
    simp only [qv, Option.some.injEq] at h; subst h
    exact to_wE pe_non (q.sc (v := .non) Gr.refl (by simp only [Rp]))
  | .tr b, x, er, F, L, H, σ, env, A, r, d, h, Q, q => by
    obtain ⟨k, p, rfl⟩ := inv_tr er
    simp only [qv, Option.some.injEq] at h; subst h
    exact to_wE pe_bl (q.sc (v := .bl b) Gr.refl (by simp only [Rp]))
  | .int b, x, er, F, L, H, σ, env, A, r, d, h, Q, q => by
    obtain ⟨k, p, rfl⟩ := inv_int er
    simp only [qv, Option.some.injEq] at h; subst h
    exact to_wE pe_int (q.sc (v := .int b) Gr.refl (by simp only [Rp]))
  | .str b, x, er, F, L, H, σ, env, A, r, d, h, Q, q => by
    obtain ⟨k, p, rfl⟩ := inv_str er
    simp only [qv, Option.some.injEq] at h; subst h
    exact to_wE pe_str (q.sc (v := .str _) Gr.refl (by simp only [Rp]))
  | .var i, x, er, F, L, H, σ, env, A, r, d, h, Q, q => by
    obtain ⟨n, p, rfl, h1, h2, h3⟩ := inv_var er
    obtain ⟨k1, k2, k3⟩ := okName_ok h3
    refine to_wE (pe_var h1 (visB_ok g.scq h2) k1 k2) ?_
    simp only [qv, getS] at h
    split at h
    · rename_i d' e
      cases h
      obtain ⟨v, e1, e2⟩ := r.me i d e
      exact ⟨v, e1, q v F H (A i) Gr.refl e2 fun a z => .inl ⟨i, by simp [roots], z⟩⟩
    · rename_i d' e
      cases h
      obtain ⟨v, e1, e2, _⟩ := r.mp i d e
      exact ⟨v, e1, q v F H (A i) Gr.refl e2 fun a z => .inl ⟨i, by simp [roots], z⟩⟩
    · rename_i d' e
      cases h
      obtain ⟨v, f, e1, e2, e3⟩ := r.vwL i d e
      exact ⟨v, e1, q v F H f Gr.refl e2 fun a z => .inr (e3 a z)⟩
    · rename_i d' e
      cases h
      obtain ⟨v, f, e1, e2, e3, _⟩ := r.lkL i d e
      exact ⟨v, e1, q v F H f Gr.refl e2 fun a z => .inr (e3 a z)⟩
    · cases h
  | .glob s, x, er, F, L, H, σ, env, A, r, d, h, Q, q => by
    obtain ⟨p, rfl, h2, h3⟩ := inv_glob er
    obtain ⟨k1, k2, k3⟩ := okName_ok h3
    simp only [qv] at h
    obtain ⟨v, u, e1, e2, e3⟩ := g.kf.gl s d h
    exact to_wE (pe_glob (glB_ok g.scq h2) e1 e2 k1) (q.sc (v := v) Gr.refl (e3 _ _))
  | .bin op a b, x, er, F, L, H, σ, env, A, r, d, h, Q, q => by
    obtain ⟨l, m, p, rfl, ea, eb⟩ := inv_bin er
    simp only [qv, Option.bind_eq_bind, Option.bind_eq_some_iff, Option.map_eq_some_iff] at h
    obtain ⟨da, ha, db, hb, d', hd, rfl⟩ := h
    refine to_wE (pe_op (op_bin (cl := cl)) pe_w pe_w) ?_
    refine qv_ok g a l ea r ha fun v F1 H1 f1 g1 r1 _ => ?_
    refine qv_ok g b m eb (r.gr g1) hb fun w F2 H2 f2 g2 r2 _ => ?_
    exact ⟨F2, da, db, f1, f2, d', ((r.gr g1).gr g2).fd, r1.kp g2.kp, r2, hd, q.op (g1.trans g2) (binD_fresh hd)⟩
  | .un op a, x, er, F, L, H, σ, env, A, r, d, h, Q, q => by
    obtain ⟨l, p, rfl, ho, ea⟩ := inv_un er
    simp only [qv, Option.bind_eq_bind, Option.bind_eq_some_iff] at h
    obtain ⟨da, ha, hd⟩ := h
    refine to_wE (pe_un (un_op (cl := cl)) pe_w) ?_
    refine qv_ok g a l ea r ha fun v F1 H1 f1 g1 r1 _ => ?_
    exact ⟨F1, da, f1, d, r1, hd, fun v r2 => q.sc g1 r2⟩
  | .nt a, x, er, F, L, H, σ, env, A, r, d, h, Q, q => by
    obtain ⟨l, p, rfl, ea⟩ := inv_nt er
    simp only [qv, Option.bind_eq_bind, Option.bind_eq_some_iff, Option.pure_def, Option.some.injEq] at h
    obtain ⟨da, ha, k, hk, rfl⟩ := h
    refine to_wE (pe_notT pe_w) ?_
    refine qv_ok g a l ea r ha fun v F1 H1 f1 g1 r1 _ => ?_
    exact ⟨k, r1.tru hk, q.sc (v := .bl _) g1 (by simp only [Rp])⟩
  | .cmp op a b, x, er, F, L, H, σ, env, A, r, d, h, Q, q => by
    obtain ⟨l, m, p, rfl, ea, eb⟩ := inv_cmp er
    simp only [qv, Option.bind_eq_bind, Option.bind_eq_some_iff, Option.pure_def, Option.some.injEq] at h
    obtain ⟨da, ha, db, hb, k, hk, rfl⟩ := h
    refine to_wE (pe_cmpR (op_cmp (cl := cl) (by have := g.un; omega)) pe_w pe_w (no_marks (erQ_nset _ _ _ _ _ eb))) ?_
    refine qv_ok g a l ea r ha fun v F1 H1 f1 g1 r1 _ => ?_
    refine qv_ok g b m eb (r.gr g1) hb fun w F2 H2 f2 g2 r2 _ => ?_
    exact ⟨F2, da, db, f1, f2, k, r1.kp g2.kp, r2, hk, q.sc (v := .bl k) (g1.trans g2) (by simp only [Rp])⟩
  | .ch2 o1 o2 a b c, x, er, F, L, H, σ, env, A, r, d, h, Q, q => by
    obtain ⟨l, m, n, p, rfl, ea, eb, ec⟩ := inv_ch2 er
    simp only [qv, Option.bind_eq_bind, Option.bind_eq_some_iff, Option.pure_def] at h
    obtain ⟨da, ha, db, hb, k, hk, h⟩ := h
    have hu : X.A.units + 64 < cLine := by have := g.un; omega
    have hm : lastMarks [o1, o2] [m, n] = false := by
      show behindInMarks o2 n = false
      exact no_marks (erQ_nset _ _ _ _ _ ec)
    refine to_wE (pe_chain (op_cmp (cl := cl) hu) (op_cmp (cl := cl) hu) pe_w pe_w pe_w hm) ?_
    refine qv_ok g a l ea r ha fun v F1 H1 f1 g1 r1 _ => ?_
    refine qv_ok g b m eb (r.gr g1) hb fun w F2 H2 f2 g2 r2 _ => ?_
    refine ⟨F2, da, db, f1, f2, k, r1.kp g2.kp, r2, hk, k, rfl, ?_⟩
    cases k with
    | true =>
      simp only [if_pos, Option.bind_eq_some_iff, Option.some.injEq] at h
      obtain ⟨dc, hc, k', hk', rfl⟩ := h
      refine iteT (qv_ok g c n ec ((r.gr g1).gr g2) hc fun z F3 H3 f3 g3 r3 _ => ?_)
      exact ⟨F3, db, dc, f2, f3, k', r2.kp g3.kp, r3, hk', q.sc (v := .bl k') ((g1.trans g2).trans g3) (by simp only [Rp])⟩
    | false =>
      simp only [Bool.false_eq_true, if_false, Option.some.injEq] at h
      subst h
      exact iteF (q.sc (v := .bl false) (g1.trans g2) (by simp only [Rp]))
  | .and es, x, er, F, L, H, σ, env, A, r, d, h, Q, q => by
    obtain ⟨vs, p, rfl, ea⟩ := inv_and er
    simp only [qv] at h
    exact qand_ok g es vs p ea r h (q.sub fun i z => by simpa [roots] using z)
  | .or es, x, er, F, L, H, σ, env, A, r, d, h, Q, q => by
    obtain ⟨vs, p, rfl, ea⟩ := inv_or er
    simp only [qv] at h
    exact qor_ok g es vs p ea r h (q.sub fun i z => by simpa [roots] using z)
  | .ite c a b, x, er, F, L, H, σ, env, A, r, d, h, Q, q => by
    obtain ⟨t, l, m, p, rfl, ec, ea, eb⟩ := inv_ite er
    simp only [qv, Option.bind_eq_bind, Option.bind_eq_some_iff] at h
    obtain ⟨k, hk, h⟩ := h
    refine to_wE (pe_ifExp pt_w pe_w pe_w) ?_
    refine qt_ok g c t ec r hk fun F1 H1 g1 => ?_
    cases k with
    | true =>
      simp only [if_pos] at h
      exact iteT (qv_ok g a l ea (r.gr g1) h ((q.gr g1).sub fun i z => by simp [roots, z]))
    | false =>
      simp only [Bool.false_eq_true, if_false] at h
      exact iteF (qv_ok g b m eb (r.gr g1) h ((q.gr g1).sub fun i z => by simp [roots, z]))
  | .idx a i, x, er, F, L, H, σ, env, A, r, d, h, Q, q => by
    obtain ⟨l, m, p, rfl, ea, eb, hs⟩ := inv_idx er
    simp only [qv, Option.bind_eq_bind, Option.bind_eq_some_iff] at h
    obtain ⟨da, ha, db, hb, hd⟩ := h
    refine to_wE (pe_ix (ix_idx (cl := cl)) pe_w pe_w (plain_ix hs)) ?_
    refine qv_ok g a l ea r ha fun v F1 H1 f1 g1 r1 m1 => ?_
    refine qv_ok g i m eb (r.gr g1) hb fun w F2 H2 f2 g2 r2 _ => ?_
    exact ⟨F2, da, db, f1, f2, d, r1.kp g2.kp, r2, hd, fun v r3 => q v F2 H2 f1 (g1.trans g2) r3 fun a z => by simpa [roots] using m1 a z⟩
  | .slc a lo hi, x, er, F, L, H, σ, env, A, r, d, h, Q, q => by
    obtain ⟨l, s, t, p, p', rfl, ea, el, eh⟩ := inv_slc er
    simp only [qv, Option.bind_eq_bind, Option.bind_eq_some_iff, Option.map_eq_some_iff] at h
    obtain ⟨da, ha, lo', hl, hi', hh, d', hd, rfl⟩ := h
    refine to_wE (pe_slice (sl_slc (cl := cl)) pe_w po_w po_w) ?_
    refine qv_ok g a l ea r ha fun v F1 H1 f1 g1 r1 _ => ?_
    refine qo_ok g lo s el (r.gr g1) hl fun F2 H2 g2 => ?_
    refine qo_ok g hi t eh ((r.gr g1).gr g2) hh fun F3 H3 g3 => ?_
    exact ⟨F3, da, f1, d', (((r.gr g1).gr g2).gr g3).fd, (r1.kp g2.kp).kp g3.kp, hd, q.op ((g1.trans g2).trans g3) (slcD_fresh hd)⟩
  | .attr a f, x, er, F, L, H, σ, env, A, r, d, h, Q, q => by
    obtain ⟨l, p, rfl, ea, hn⟩ := inv_attr er
    simp only [qv, Option.bind_eq_bind, Option.bind_eq_some_iff] at h
    obtain ⟨da, ha, hd⟩ := h
    exact attr_ok g hn (fun q' => qv_ok g a l ea r ha q') hd (q.sub fun i z => by simpa [roots] using z)
  | .tup es, x, er, F, L, H, σ, env, A, r, d, h, Q, q => by
    obtain ⟨vs, k, p, rfl, ea⟩ := inv_tup er
    simp only [qv, Option.bind_eq_bind, Option.bind_eq_some_iff] at h
    obtain ⟨ds, hs, h⟩ := h
    split at h
    · rename_i hf
      cases h
      simp only [Bool.and_eq_true] at hf
      refine to_wE (pe_tup pa_w) (qvs_ok g es vs ea r hs fun ws F1 H1 f1 g1 r1 _ => ⟨by rw [← r1.length]; exact fits_le hf.2, ?_⟩)
      have r2 := r1.stb (g := E0s) hf.1
      intro p hp
      exact q.sc (g1.trans (Gr.alloc0 hp)) (by simp only [Rp]; exact ⟨p, ws, rfl, .inl (.inl upd_same), r2.kp (Gr.alloc0 hp).kp⟩)
    · cases h
  | .lst es, x, er, F, L, H, σ, env, A, r, d, h, Q, q => by
    obtain ⟨vs, p, rfl, ea⟩ := inv_lst er
    simp only [qv, Option.bind_eq_bind, Option.bind_eq_some_iff] at h
    obtain ⟨ds, hs, h⟩ := h
    split at h
    · rename_i hf
      cases h
      simp only [Bool.and_eq_true] at hf
      refine to_wE (pe_lst pa_w) (qvs_ok g es vs ea r hs fun ws F1 H1 f1 g1 r1 _ => ⟨by rw [← r1.length]; exact fits_le hf.2, ?_⟩)
      have r2 := r1.stb (g := E0s) hf.1
      intro p hp
      exact q.sc (g1.trans (Gr.alloc hp)) (by simp only [Rp]; exact ⟨p, ws, rfl, .inr rfl, upd_same, r2.kp (Gr.alloc hp).kp⟩)
    · cases h
  | .bi f es, x, er, F, L, H, σ, env, A, r, d, h, Q, q => by
    obtain ⟨p', y, ys, p, rfl, h1, h2, h3, ea⟩ := inv_bi er
    simp only [qv] at h
    split at h
    · cases h
    · rename_i hh
      simp only [Option.bind_eq_bind, Option.bind_eq_some_iff, Option.map_eq_some_iff] at h
      obtain ⟨ds, hs, d', hd, rfl⟩ := h
      refine bi_call g h3 (by simpa using hh) h1 h2 (erQs_nsts _ _ _ _ _ ea) ?_
      refine qvs_ok g es (y :: ys) ea r hs fun ws F1 H1 f1 g1 r1 _ => ?_
      exact ⟨F1, ds, f1, d', (r.gr g1).fd, r1, hd, q.op g1 (biD_fresh hd)⟩
  | .bic f [], x, er, F, L, H, σ, env, A, r, d, h, Q, q => by
    obtain ⟨_, _, _, _, _, _, _, _, _, _, he, _⟩ := inv_bic er
    cases he
  | .bic f (_ :: _ :: _), x, er, F, L, H, σ, env, A, r, d, h, Q, q => by
    obtain ⟨_, _, _, _, _, _, _, _, _, _, he, _⟩ := inv_bic er
    cases he
  | .bic f [a], x, er, F, L, H, σ, env, A, r, d, h, Q, q => by
    obtain ⟨q1, q2, e, p, p2, a', rfl, ⟨h1, h2⟩, ⟨h3, h4⟩, rfl, he, ea⟩ := inv_bic er
    cases he
    obtain ⟨k1, k2, k3⟩ := okName_ok h2
    obtain ⟨l1, l2, l3⟩ := okName_ok h4
    simp only [qv] at h
    split at h
    · cases h
    · rename_i hh
      simp only [Option.bind_eq_bind, Option.bind_eq_some_iff, Option.map_eq_some_iff, qvs, Option.pure_def, Option.some.injEq] at h
      obtain ⟨ds, ⟨da, ha, _, rfl, rfl⟩, d', hd, rfl⟩ := h
      refine to_wE (pe_tupRevA (g.calm (by simpa using hh)) (glB_ok g.scq h1) (g.kf.bi "tuple" (by decide)) (glB_ok g.scq h3) (g.kf.bi "reversed" (by decide)) pe_w (star_cons (erQ_nst _ _ _ _ _ ea))) ?_
      refine qv_ok g a e ea r ha fun v F1 H1 f1 g1 r1 _ => ?_
      simp only [bicD, String.reduceEq, if_false, if_true, bicD_tuplereversed] at hd
      split at hd
      · rename_i xs heq
        cases heq
        split at hd
        · rename_i st
          cases hd
          obtain ⟨a, vs, rfl, s1, r2⟩ := r1.lst_mono
          exact ⟨a, vs, rfl, .inl s1, (q.op g1 (by simp only [D.fresh, D.stb, stbs_rev, st])).tup (Rps.rev (r2.stb st))⟩
        · cases hd
      · rename_i xs heq
        cases heq
        split at hd
        · rename_i st
          cases hd
          simp only [Rp] at r1
          obtain ⟨a, vs, rfl, s1, r2⟩ := r1
          exact ⟨a, vs, rfl, .inr s1, (q.op g1 (by simp only [D.fresh, D.stb, stbs_rev, st])).tup (Rps.rev (r2.stb st))⟩
        · cases hd
      · cases hd
  | .bm a m es, x, er, F, L, H, σ, env, A, r, d, h, Q, q => by
    obtain ⟨o, ap, cp, rfl, hline, rfl, rfl, ea, hn⟩ := inv_bm er
    simp only [qv, qvs, Option.bind_eq_bind, Option.bind_eq_some_iff, Option.map_eq_some_iff, Option.pure_def, Option.some.injEq] at h
    obtain ⟨da, ha, _, rfl, d', hd, rfl⟩ := h
    refine to_wE (pe_bits pe_w (attr_base hn) hline) ?_
    refine qv_ok g a o ea r ha fun v F1 H1 f1 g1 r1 _ => ?_
    cases da <;> simp only [bmD] at hd <;> try cases hd
    rename_i i
    simp only [Rp] at r1
    subst r1
    refine ⟨i, rfl, q.sc g1 ?_⟩
    rw [bits_eq]
    simp only [D.fz0, Rp]
    split <;> rfl
  | .isi a cs, x, er, F, L, H, σ, env, A, r, d, h, Q, q => by
    obtain ⟨p', e, t, p, rfl, h1, h2, ea, hc, ht⟩ := inv_isi er
    simp only [qv, Option.bind_eq_bind, Option.bind_eq_some_iff, Option.pure_def, Option.some.injEq] at h
    obtain ⟨da, ha, k, hk, rfl⟩ := h
    exact isi_ok g h1 h2 (erQ_nst _ _ _ _ _ ea) hc ht (fun q' => qv_ok g a e ea r ha fun v F' H' fp g1 r1 _ => q' v F' H' g1 fun F2 H2 g2 => kvs_of g (clssOk_ok hc).1 (clssOk_ok hc).2.2 (r1.kp g2.kp) hk) q
  | .xf i f, x, er, F, L, H, σ, env, A, r, d, h, Q, q => by
    obtain ⟨n, q0, p, rfl, h1, h2, h3⟩ := inv_xf er
    simp only [qv] at h
    exact xf_ok g h1 h2 h3 r h q
  | .xi i cs, x, er, F, L, H, σ, env, A, r, d, h, Q, q => by
    obtain ⟨q0, n, q1, t, p, rfl, h1, h2, ⟨h3, h4, h5⟩, hc, ht⟩ := inv_xi er
    simp only [qv, Option.map_eq_some_iff] at h
    obtain ⟨k, hk, rfl⟩ := h
    exact isi_ok g h1 h2 rfl hc ht (fun q' => xi_pe g hc h3 h4 h5 r hk q') q
theorem qt_ok (g : Good G cl fx sc X) : ∀ (e : Qx) (x : Expr), erQ G sc X.N e x = true → ∀ {F L : Sets} {H : Hp} {σ : L2.St} {env : Env} {A : Nat → Sets}, RS X.K cl fx F L H σ env A →
    ∀ {k : Bool}, qt G e env = some k → ∀ {Q : Bool → Hp → Prop}, QPT F H k Q → wT X x σ H Q
  | .nt a, x, er, F, L, H, σ, env, A, r, k, h, Q, q => by
    obtain ⟨l, p, rfl, ea⟩ := inv_nt er
    simp only [qt, Option.bind_eq_bind, Option.bind_eq_some_iff, Option.pure_def, Option.some.injEq] at h
    obtain ⟨c, hc, rfl⟩ := h
    refine to_wT (pt_not pt_w) ?_
    exact qt_ok g a l ea r hc fun F1 H1 g1 => q F1 H1 g1
  | .and es, x, er, F, L, H, σ, env, A, r, k, h, Q, q => by
    obtain ⟨vs, p, rfl, ea⟩ := inv_and er
    simp only [qt] at h
    exact fun pins s I => qtand_ok g es vs p ea r h q _ pins s I
  | .or es, x, er, F, L, H, σ, env, A, r, k, h, Q, q => by
    obtain ⟨vs, p, rfl, ea⟩ := inv_or er
    simp only [qt] at h
    exact fun pins s I => qtor_ok g es vs p ea r h q _ pins s I
  | .cmp op a b, x, er, F, L, H, σ, env, A, r, k, h, Q, q => by
    obtain ⟨l, m, p, rfl, ea, eb⟩ := inv_cmp er
    simp only [qt, Option.bind_eq_bind, Option.bind_eq_some_iff] at h
    obtain ⟨da, ha, db, hb, hk⟩ := h
    refine to_wT (pt_cmpR (op_cmp (cl := cl) (by have := g.un; omega)) pe_w pe_w (no_marks (erQ_nset _ _ _ _ _ eb))) ?_
    refine qv_ok g a l ea r ha fun v F1 H1 f1 g1 r1 _ => ?_
    refine qv_ok g b m eb (r.gr g1) hb fun w F2 H2 f2 g2 r2 _ => ?_
    exact ⟨F2, da, db, f1, f2, k, r1.kp g2.kp, r2, hk, k, rfl, q F2 H2 (g1.trans g2)⟩
  | .ch2 o1 o2 a b c, x, er, F, L, H, σ, env, A, r, d, h, Q, q => by
    obtain ⟨l, m, n, p, rfl, ea, eb, ec⟩ := inv_ch2 er
    simp only [qt, Option.bind_eq_bind, Option.bind_eq_some_iff, Option.pure_def] at h
    obtain ⟨da, ha, db, hb, k, hk, h⟩ := h
    have hu : X.A.units + 64 < cLine := by have := g.un; omega
    have hm : lastMarks [o1, o2] [m, n] = false := by
      show behindInMarks o2 n = false
      exact no_marks (erQ_nset _ _ _ _ _ ec)
    refine to_wT (pt_chain (op_cmp (cl := cl) hu) (op_cmp (cl := cl) hu) pe_w pe_w pe_w hm) ?_
    refine qv_ok g a l ea r ha fun v F1 H1 f1 g1 r1 _ => ?_
    refine qv_ok g b m eb (r.gr g1) hb fun w F2 H2 f2 g2 r2 _ => ?_
    refine ⟨F2, da, db, f1, f2, k, r1.kp g2.kp, r2, hk, k, rfl, ?_⟩
    cases k with
    | true =>
      simp only [if_pos, Option.bind_eq_some_iff] at h
      obtain ⟨dc, hc, hk'⟩ := h
      refine iteT (qv_ok g c n ec ((r.gr g1).gr g2) hc fun z F3 H3 f3 g3 r3 _ => ?_)
      exact ⟨F3, db, dc, f2, f3, d, r2.kp g3.kp, r3, hk', d, rfl, q F3 H3 ((g1.trans g2).trans g3)⟩
    | false =>
      simp only [Bool.false_eq_true, if_false, Option.some.injEq] at h
      subst h
      exact iteF ⟨false, rfl, q F2 H2 (g1.trans g2)⟩
  | .ite c a b, x, er, F, L, H, σ, env, A, r, d, h, Q, q => by
    obtain ⟨t, l, m, p, rfl, ec, ea, eb⟩ := inv_ite er
    simp only [qt, Option.bind_eq_bind, Option.bind_eq_some_iff] at h
    obtain ⟨k, hk, h⟩ := h
    refine to_wT (pt_ite pt_w pt_w pt_w) ?_
    refine qt_ok g c t ec r hk fun F1 H1 g1 => ?_
    cases k with
    | true =>
      simp only [if_pos] at h
      exact iteT (qt_ok g a l ea (r.gr g1) h (q.gr g1))
    | false =>
      simp only [Bool.false_eq_true, if_false] at h
      exact iteF (qt_ok g b m eb (r.gr g1) h (q.gr g1))
  | .non, x, er, F, L, H, σ, env, A, r, k, h, Q, q => by
    obtain ⟨kk, p, rfl⟩ := inv_non er
    simp only [qt, Option.some.injEq] at h; subst h
    exact pt_plain (fun _ => rfl) (to_wE pe_non ⟨false, (show Rp X.K cl F H .non .non E0s by simp only [Rp]).tru rfl, q F H Gr.refl⟩)
  | .tr b, x, er, F, L, H, σ, env, A, r, k, h, Q, q => by
    obtain ⟨kk, p, rfl⟩ := inv_tr er
    simp only [qt, Option.some.injEq] at h; subst h
    exact pt_plain (fun _ => rfl) (to_wE pe_bl ⟨b, (show Rp X.K cl F H (.bl b) (.bl b) E0s by simp only [Rp]).tru rfl, q F H Gr.refl⟩)
  | .int i, x, er, F, L, H, σ, env, A, r, k, h, Q, q => by
    obtain ⟨kk, p, rfl⟩ := inv_int er
    simp only [qt] at h
    exact pt_plain (fun _ => rfl) (to_wE pe_int ⟨k, (show Rp X.K cl F H (.int i) (.int i) E0s by simp only [Rp]).tru h, q F H Gr.refl⟩)
  | .str i, x, er, F, L, H, σ, env, A, r, k, h, Q, q => by
    obtain ⟨kk, p, rfl⟩ := inv_str er
    simp only [qt] at h
    exact pt_plain (fun _ => rfl) (to_wE pe_str ⟨k, (show Rp X.K cl F H (.str (Str.ofString i)) (.str (Str.ofString i)) E0s by simp only [Rp]).tru h, q F H Gr.refl⟩)
  | .var i, x, er, F, L, H, σ, env, A, r, k, h, Q, q => by
    simp only [qt, Option.bind_eq_bind, Option.bind_eq_some_iff] at h
    obtain ⟨d, hd, hk⟩ := h
    obtain ⟨n, p, rfl, _⟩ := inv_var er
    exact pt_plain (fun _ => rfl) (qv_ok g (.var i) _ er r (by simpa only [qv] using hd) (tru_post hk q))
  | .glob i, x, er, F, L, H, σ, env, A, r, k, h, Q, q => by
    simp only [qt, Option.bind_eq_bind, Option.bind_eq_some_iff] at h
    obtain ⟨d, hd, hk⟩ := h
    obtain ⟨p, rfl, _⟩ := inv_glob er
    exact pt_plain (fun _ => rfl) (qv_ok g (.glob i) _ er r (by simpa only [qv] using hd) (tru_post hk q))
  | .bin op a b, x, er, F, L, H, σ, env, A, r, k, h, Q, q => by
    obtain ⟨l, m, p, rfl, ea, eb⟩ := inv_bin er
    simp only [qt, Option.bind_eq_bind, Option.bind_eq_some_iff] at h
    obtain ⟨da, ha, db, hb, d, hd, hk⟩ := h
    refine pt_plain (fun _ => rfl) (to_wE (pe_op (op_bin (cl := cl)) pe_w pe_w) ?_)
    refine qv_ok g a l ea r ha fun v F1 H1 f1 g1 r1 _ => ?_
    refine qv_ok g b m eb (r.gr g1) hb fun w F2 H2 f2 g2 r2 _ => ?_
    exact ⟨F2, da, db, f1, f2, d, ((r.gr g1).gr g2).fd, r1.kp g2.kp, r2, hd, QP.op (tru_post (L := L) (A := A) (rt := []) (by rw [truD_fz0]; exact hk) q) (g1.trans g2) (binD_fresh hd)⟩
  | .un op a, x, er, F, L, H, σ, env, A, r, k, h, Q, q => by
    simp only [qt, Option.bind_eq_bind, Option.bind_eq_some_iff] at h
    obtain ⟨da, ha, d, hd, hk⟩ := h
    have er' := er
    obtain ⟨l, p, rfl, ho, ea⟩ := inv_un er'
    exact pt_plain (fun _ => by cases op <;> first | rfl | exact absurd rfl ho) (to_wE (pe_un (un_op (cl := cl)) pe_w) (qv_ok g a l ea r ha fun v F1 H1 f1 g1 r1 _ => ⟨F1, da, f1, d, r1, hd, fun v r2 => ⟨k, r2.tru hk, q F1 H1 g1⟩⟩))
  | .idx a i, x, er, F, L, H, σ, env, A, r, k, h, Q, q => by
    simp only [qt, Option.bind_eq_bind, Option.bind_eq_some_iff] at h
    obtain ⟨da, ha, db, hb, d, hd, hk⟩ := h
    obtain ⟨l, m, p, rfl, ea, eb, hs⟩ := inv_idx er
    refine pt_plain (fun _ => rfl) (to_wE (pe_ix (ix_idx (cl := cl)) pe_w pe_w (plain_ix hs)) ?_)
    refine qv_ok g a l ea r ha fun v F1 H1 f1 g1 r1 m1 => ?_
    refine qv_ok g i m eb (r.gr g1) hb fun w F2 H2 f2 g2 r2 _ => ?_
    exact ⟨F2, da, db, f1, f2, d, r1.kp g2.kp, r2, hd, fun v r3 => ⟨k, r3.tru hk, q F2 H2 (g1.trans g2)⟩⟩
  | .slc a lo hi, x, er, F, L, H, σ, env, A, r, k, h, Q, q => by simp only [qt] at h; cases h
  | .tup es, x, er, F, L, H, σ, env, A, r, k, h, Q, q => by simp only [qt] at h; cases h
  | .lst es, x, er, F, L, H, σ, env, A, r, k, h, Q, q => by simp only [qt] at h; cases h
  | .bic f es, x, er, F, L, H, σ, env, A, r, k, h, Q, q => by simp only [qt] at h; cases h
  | .bm a m es, x, er, F, L, H, σ, env, A, r, k, h, Q, q => by simp only [qt] at h; cases h
  | .attr a f, x, er, F, L, H, σ, env, A, r, k, h, Q, q => by
    simp only [qt, Option.bind_eq_bind, Option.bind_eq_some_iff] at h
    obtain ⟨da, ha, d, hd, hk⟩ := h
    have er' := er
    obtain ⟨l, p, rfl, ea, hn⟩ := inv_attr er'
    exact pt_plain (fun _ => rfl) (attr_ok g hn (fun q' => qv_ok g a l ea r ha q') hd (tru_post (rt := roots (.attr a f)) hk q))
  | .bi f es, x, er, F, L, H, σ, env, A, r, k, h, Q, q => by
    obtain ⟨p', y, ys, p, rfl, h1, h2, h3, ea⟩ := inv_bi er
    simp only [qt] at h
    split at h
    · cases h
    · rename_i hh
      simp only [Option.bind_eq_bind, Option.bind_eq_some_iff] at h
      obtain ⟨ds, hs, d, hd, hk⟩ := h
      refine pt_plain (fun _ => rfl) (bi_call g h3 (by simpa using hh) h1 h2 (erQs_nsts _ _ _ _ _ ea) ?_)
      refine qvs_ok g es (y :: ys) ea r hs fun ws F1 H1 f1 g1 r1 _ => ?_
      exact ⟨F1, ds, f1, d, (r.gr g1).fd, r1, hd, QP.op (tru_post (L := L) (A := A) (rt := []) (by rw [truD_fz0]; exact hk) q) g1 (biD_fresh hd)⟩
  | .isi a cs, x, er, F, L, H, σ, env, A, r, k, h, Q, q => by
    simp only [qt, Option.bind_eq_bind, Option.bind_eq_some_iff] at h
    obtain ⟨da, ha, hk⟩ := h
    have er' := er
    obtain ⟨p', e, t, p, rfl, h1, h2, ea, hc, ht⟩ := inv_isi er'
    exact pt_plain (fun _ => rfl) (isi_ok (L := L) (A := A) (rt' := []) g h1 h2 (erQ_nst _ _ _ _ _ ea) hc ht (fun q' => qv_ok g a e ea r ha fun v F' H' fp g1 r1 _ => q' v F' H' g1 fun F2 H2 g2 => kvs_of g (clssOk_ok hc).1 (clssOk_ok hc).2.2 (r1.kp g2.kp) hk) (tru_post (rt := []) (d := .bl k) rfl q))
  | .xf i f, x, er, F, L, H, σ, env, A, r, k, h, Q, q => by
    simp only [qt, Option.bind_eq_bind, Option.bind_eq_some_iff] at h
    obtain ⟨d, hd, hk⟩ := h
    obtain ⟨n, q0, p, rfl, h1, h2, h3⟩ := inv_xf er
    exact pt_plain (fun _ => rfl) (xf_ok g h1 h2 h3 r hd (tru_post (rt := []) hk q))
  | .xi i cs, x, er, F, L, H, σ, env, A, r, k, h, Q, q => by
    obtain ⟨q0, n, q1, t, p, rfl, h1, h2, ⟨h3, h4, h5⟩, hc, ht⟩ := inv_xi er
    simp only [qt] at h
    exact pt_plain (fun _ => rfl) (isi_ok (L := L) (A := A) (rt' := []) g h1 h2 rfl hc ht (fun q' => xi_pe g hc h3 h4 h5 r h q') (tru_post (rt := []) (d := .bl k) rfl q))
theorem qtand_ok (g : Good G cl fx sc X) : ∀ (es : List Qx) (xs : List Expr) (p : Pos), erQs G sc X.N es xs = true → ∀ {F L : Sets} {H : Hp} {σ : L2.St} {env : Env} {A : Nat → Sets}, RS X.K cl fx F L H σ env A →
    ∀ {k : Bool}, qtand G es env = some k → ∀ {Q : Bool → Hp → Prop}, QPT F H k Q → wW X (.BoolOp .And xs p) σ H Q
  | [], xs, p, er, F, L, H, σ, env, A, r, d, h, Q, q => by simp [qtand] at h
  | [e], xs, p, er, F, L, H, σ, env, A, r, d, h, Q, q => by
    match xs, er with
    | [x], er =>
      simp only [erQs, Bool.and_true] at er
      simp only [qtand] at h
      exact to_wW (pw_and1 pt_w) (qt_ok g e x er r h q)
    | [], er => simp [erQs] at er
    | _ :: _ :: _, er => simp [erQs] at er
  | e :: e2 :: es, xs, p, er, F, L, H, σ, env, A, r, d, h, Q, q => by
    match xs, er with
    | x :: x2 :: xs, er =>
      rw [erQs, Bool.and_eq_true] at er
      simp only [qtand, Option.bind_eq_bind, Option.bind_eq_some_iff, Option.pure_def] at h
      obtain ⟨k, hk, h⟩ := h
      refine to_wW (pw_and pt_w pw_w) ?_
      refine qt_ok g e x er.1 r hk fun F1 H1 g1 => ?_
      cases k with
      | true =>
        simp only [if_pos] at h
        exact iteT (qtand_ok g (e2 :: es) (x2 :: xs) p er.2 (r.gr g1) h (q.gr g1))
      | false =>
        simp only [Bool.false_eq_true, if_false, Option.some.injEq] at h
        subst h
        exact iteF (q F1 H1 g1)
    | [], er => simp [erQs] at er
    | [_], er => simp [erQs] at er
theorem qtor_ok (g : Good G cl fx sc X) : ∀ (es : List Qx) (xs : List Expr) (p : Pos), erQs G sc X.N es xs = true → ∀ {F L : Sets} {H : Hp} {σ : L2.St} {env : Env} {A : Nat → Sets}, RS X.K cl fx F L H σ env A →
    ∀ {k : Bool}, qtor G es env = some k → ∀ {Q : Bool → Hp → Prop}, QPT F H k Q → wW X (.BoolOp .Or xs p) σ H Q
  | [], xs, p, er, F, L, H, σ, env, A, r, d, h, Q, q => by simp [qtor] at h
  | [e], xs, p, er, F, L, H, σ, env, A, r, d, h, Q, q => by
    match xs, er with
    | [x], er =>
      simp only [erQs, Bool.and_true] at er
      simp only [qtor] at h
      exact to_wW (pw_or1 pt_w) (qt_ok g e x er r h q)
    | [], er => simp [erQs] at er
    | _ :: _ :: _, er => simp [erQs] at er
  | e :: e2 :: es, xs, p, er, F, L, H, σ, env, A, r, d, h, Q, q => by
    match xs, er with
    | x :: x2 :: xs, er =>
      rw [erQs, Bool.and_eq_true] at er
      simp only [qtor, Option.bind_eq_bind, Option.bind_eq_some_iff, Option.pure_def] at h
      obtain ⟨k, hk, h⟩ := h
      refine to_wW (pw_or pt_w pw_w) ?_
      refine qt_ok g e x er.1 r hk fun F1 H1 g1 => ?_
      cases k with
      | false =>
        simp only [Bool.false_eq_true, if_false] at h
        exact iteF (qtor_ok g (e2 :: es) (x2 :: xs) p er.2 (r.gr g1) h (q.gr g1))
      | true =>
        simp only [if_pos, Option.some.injEq] at h
        subst h
        exact iteT (q F1 H1 g1)
    | [], er => simp [erQs] at er
    | [_], er => simp [erQs] at er
theorem qvs_ok (g : Good G cl fx sc X) : ∀ (es : List Qx) (xs : List Expr), erQs G sc X.N es xs = true → ∀ {F L : Sets} {H : Hp} {σ : L2.St} {env : Env} {A : Nat → Sets}, RS X.K cl fx F L H σ env A →
    ∀ {ds : List D}, qvs G es env = some ds → ∀ {Q : List V → Hp → Prop}, (∀ vs F' H' fp, Gr F H F' H' → Rws X.K cl F' H' ds vs fp → (∀ a, fp a → (∃ i ∈ rootss es, A i a) ∨ L a) → Q vs H') → wA X xs σ H Q
  | [], xs, er, F, L, H, σ, env, A, r, ds, h, Q, q => by
    cases xs with
    | nil =>
      simp only [qvs, Option.some.injEq] at h; subst h
      exact to_wA pa_nil (q [] F H E0s Gr.refl (by simp only [Rws]) fun _ z => z.elim)
    | cons x xs => simp [erQs] at er
  | e :: es, xs, er, F, L, H, σ, env, A, r, ds, h, Q, q => by
    cases xs with
    | nil => simp [erQs] at er
    | cons x xs =>
      simp only [erQs, Bool.and_eq_true] at er
      simp only [qvs, Option.bind_eq_bind, Option.bind_eq_some_iff, Option.pure_def, Option.some.injEq] at h
      obtain ⟨d, hd, ds', hs, rfl⟩ := h
      refine to_wA (pa_cons pe_w pa_w (star_cons (erQ_nst _ _ _ _ _ er.1))) ?_
      refine qv_ok g e x er.1 r hd fun v F1 H1 f1 g1 r1 m1 => ?_
      refine qvs_ok g es xs er.2 (r.gr g1) hs fun vs F2 H2 f2 g2 r2 m2 => ?_
      refine q (v :: vs) F2 H2 (fun a => f1 a ∨ f2 a) (g1.trans g2) ?_ fun a z => ?_
      · simp only [Rws]
        exact ⟨v, vs, rfl, (r1.kp g2.kp).mono fun _ z => .inl z, r2.mono fun _ z => .inr z⟩
      · rcases z with z | z
        · rcases m1 a z with ⟨i, h1, h2⟩ | z
          · exact .inl ⟨i, by simp [rootss, h1], h2⟩
          · exact .inr z
        · rcases m2 a z with ⟨i, h1, h2⟩ | z
          · exact .inl ⟨i, by simp [rootss, h1], h2⟩
          · exact .inr z
theorem qand_ok (g : Good G cl fx sc X) : ∀ (es : List Qx) (xs : List Expr) (p : Pos), erQs G sc X.N es xs = true → ∀ {F L : Sets} {H : Hp} {σ : L2.St} {env : Env} {A : Nat → Sets}, RS X.K cl fx F L H σ env A →
    ∀ {d : D}, qand G es env = some d → ∀ {Q : VK}, QP X.K cl F L H A (rootss es) d Q → wE X (.BoolOp .And xs p) σ H Q
  | [], xs, p, er, F, L, H, σ, env, A, r, d, h, Q, q => by simp [qand] at h
  | [e], xs, p, er, F, L, H, σ, env, A, r, d, h, Q, q => by
    match xs, er with
    | [x], er =>
      simp only [erQs, Bool.and_true] at er
      simp only [qand] at h
      exact to_wE (pe_one pe_w) (qv_ok g e x er r h (q.sub fun i z => by simp [rootss, z]))
    | [], er => simp [erQs] at er
    | _ :: _ :: _, er => simp [erQs] at er
  | e :: e2 :: es, xs, p, er, F, L, H, σ, env, A, r, d, h, Q, q => by
    match xs, er with
    | x :: x2 :: xs, er =>
      rw [erQs, Bool.and_eq_true] at er
      simp only [qand, Option.bind_eq_bind, Option.bind_eq_some_iff] at h
      obtain ⟨da, ha, h⟩ := h
      refine to_wE (pe_and pe_w pe_w) ?_
      refine qv_ok g e x er.1 r ha fun v F1 H1 f1 g1 r1 m1 => ?_
      split at h
      · simp only [Rp] at r1; subst r1
        refine ⟨true, rfl, iteT (qand_ok g (e2 :: es) (x2 :: xs) p er.2 (r.gr g1) h ((q.gr g1).sub fun i z => ?_))⟩
        rw [rootss]
        exact List.mem_append_right _ z
      · simp only [Rp] at r1; subst r1
        simp only [Option.pure_def, Option.some.injEq] at h; subst h
        exact ⟨false, rfl, iteF (q.sc (v := .bl false) g1 (by simp only [Rp]))⟩
      · cases h
    | [], er => simp [erQs] at er
    | [_], er => simp [erQs] at er
theorem qor_ok (g : Good G cl fx sc X) : ∀ (es : List Qx) (xs : List Expr) (p : Pos), erQs G sc X.N es xs = true → ∀ {F L : Sets} {H : Hp} {σ : L2.St} {env : Env} {A : Nat → Sets}, RS X.K cl fx F L H σ env A →
    ∀ {d : D}, qor G es env = some d → ∀ {Q : VK}, QP X.K cl F L H A (rootss es) d Q → wE X (.BoolOp .Or xs p) σ H Q
  | [], xs, p, er, F, L, H, σ, env, A, r, d, h, Q, q => by simp [qor] at h
  | [e], xs, p, er, F, L, H, σ, env, A, r, d, h, Q, q => by
    match xs, er with
    | [x], er =>
      simp only [erQs, Bool.and_true] at er
      simp only [qor] at h
      exact to_wE (pe_one pe_w) (qv_ok g e x er r h (q.sub fun i z => by simp [rootss, z]))
    | [], er => simp [erQs] at er
    | _ :: _ :: _, er => simp [erQs] at er
  | e :: e2 :: es, xs, p, er, F, L, H, σ, env, A, r, d, h, Q, q => by
    match xs, er with
    | x :: x2 :: xs, er =>
      rw [erQs, Bool.and_eq_true] at er
      simp only [qor, Option.bind_eq_bind, Option.bind_eq_some_iff] at h
      obtain ⟨da, ha, h⟩ := h
      refine to_wE (pe_or pe_w pe_w) ?_
      refine qv_ok g e x er.1 r ha fun v F1 H1 f1 g1 r1 m1 => ?_
      split at h
      · simp only [Rp] at r1; subst r1
        refine ⟨false, rfl, iteF (qor_ok g (e2 :: es) (x2 :: xs) p er.2 (r.gr g1) h ((q.gr g1).sub fun i z => ?_))⟩
        rw [rootss]
        exact List.mem_append_right _ z
      · simp only [Rp] at r1; subst r1
        simp only [Option.pure_def, Option.some.injEq] at h; subst h
        exact ⟨true, rfl, iteT (q.sc (v := .bl true) g1 (by simp only [Rp]))⟩
      · cases h
    | [], er => simp [erQs] at er
    | [_], er => simp [erQs] at er
theorem qo_ok (g : Good G cl fx sc X) : ∀ (o : Option Qx) (x : Option Expr), erO G sc X.N o x = true → ∀ {F L : Sets} {H : Hp} {σ : L2.St} {env : Env} {A : Nat → Sets}, RS X.K cl fx F L H σ env A →
    ∀ {i : Option Int}, qo G o env = some i → ∀ {Q : Option Int → Hp → Prop}, (∀ F' H', Gr F H F' H' → Q i H') → wO X x σ H Q
  | none, x, er, F, L, H, σ, env, A, r, i, h, Q, q => by
    cases x with
    | none =>
      simp only [qo, Option.some.injEq] at h; subst h
      exact to_wO po_none (q F H Gr.refl)
    | some x => simp [erO] at er
  | some e, x, er, F, L, H, σ, env, A, r, i, h, Q, q => by
    cases x with
    | none => simp [erO] at er
    | some x =>
      simp only [erO] at er
      simp only [qo, Option.bind_eq_bind, Option.bind_eq_some_iff] at h
      obtain ⟨d, hd, h⟩ := h
      refine to_wO (po_some pe_w) (qv_ok g e x er r hd fun v F1 H1 f1 g1 r1 _ => ?_)
      split at h
      · simp only [Option.pure_def, Option.some.injEq] at h; subst h
        simp only [Rp] at r1
        exact ⟨_, r1, q F1 H1 g1⟩
      · cases h
end
end
end Wv

set_option Elab.async false
set_option linter.all false
set_option maxRecDepth 100000
/-! Wv8: what an expression with effects leaves. -/
namespace Wv
open PySem PySem.Spec PyProof.Rows L2

section
variable {K : PySem.W.Frag} {cl : String → Addr} {fx : Fx} {F F1 F' L : Sets} {H H1 H' : Hp} {σ : L2.St} {env : Env} {A A1 A' : Nat → Sets} {fp : Sets} {d : D} {v : V}
theorem RS.fnd (r : RS K cl fx F L H σ env A) : ∀ a, F a → ¬ Un A a := fun a z ⟨i, u⟩ => (r.own i a u).1 z
theorem RS.kpT (r : RS K cl fx F L H σ env A) (x : Ext F H A F' H' A') (t : Tp F L H A fp) : Kp F H fp F' H' := x.kp fun a z => z.elim (r.fnd a) fun z => (t a z).2.2.1
/-- a temporary frozen -/
theorem RS.fro (r : RS K cl fx F L H σ env A) (t : Tp F L H A fp) : RS K cl fx (fun a => F a ∨ fp a) L H σ env A where
  len := r.len
  me := fun i d e => by
    obtain ⟨v, h1, h2⟩ := r.me i d e
    exact ⟨v, h1, h2.kp ⟨fun _ z => .inl z, fun _ _ e _ => e⟩⟩
  mp := fun i d e => by
    obtain ⟨v, h1, h2, h3⟩ := r.mp i d e
    exact ⟨v, h1, h2.kp ⟨fun _ z => .inl z, fun _ _ e _ => e⟩, h3⟩
  vw := fun i d e => by
    obtain ⟨v, f, h1, h2, h3⟩ := r.vw i d e
    exact ⟨v, f, h1, h2.kp ⟨fun _ z => .inl z, fun _ _ e _ => e⟩, h3⟩
  lk := fun i d e => by
    obtain ⟨v, f, h1, h2, h3, h4⟩ := r.lk i d e
    exact ⟨v, f, h1, h2.kp ⟨fun _ z => .inl z, fun _ _ e _ => e⟩, h3, h4⟩
  xc := fun i c ns ds e => by
    obtain ⟨a, dx, vs, h1, h2, h3, h4, h5⟩ := r.xc i c ns ds e
    exact ⟨a, dx, vs, h1, h2, h3, h4, h5.kp ⟨fun _ z => .inl z, fun _ _ e _ => e⟩⟩
  vl := r.vl
  sep := r.sep
  own := fun i a z => by
    obtain ⟨h1, h2, h3⟩ := r.own i a z
    exact ⟨fun u => u.elim h1 fun u => (t a u).2.2.1 ⟨i, z⟩, h2, h3⟩
  dom := fun a z => by
    rcases z with (z | z) | z
    · exact r.dom a (.inl z)
    · exact Mut.some (t a z).2.2.2
    · exact r.dom a (.inr z)
end
/-- what a result says -/
def RQ {α : Type} (r : Res α) (ok : α → Env → Prop) (ex : String → List D → Env → Prop) : Prop := match r with
  | .ok a e => ok a e
  | .ex c ds e => ex c ds e
  | .bad => False
theorem RQ.bind {α β : Type} {r : Res α} {f : α → Env → Res β} {ok : β → Env → Prop} {ex : String → List D → Env → Prop} (h : RQ (r.bind f) ok ex) {ok' : α → Env → Prop} {ex' : String → List D → Env → Prop} (h1 : ∀ a e, RQ (f a e) ok ex → ok' a e) (h2 : ∀ c ds e, ex c ds e → ex' c ds e) : RQ r ok' ex' := by
  cases r with
  | ok a e => exact h1 a e h
  | ex c ds e => exact h2 c ds e h
  | bad => exact h
theorem RQ.mono {α : Type} {r : Res α} {ok ok' : α → Env → Prop} {ex ex' : String → List D → Env → Prop} (h : RQ r ok ex) (h1 : ∀ a e, ok a e → ok' a e) (h2 : ∀ c ds e, ex c ds e → ex' c ds e) : RQ r ok' ex' := by
  cases r with
  | ok a e => exact h1 a e h
  | ex c ds e => exact h2 c ds e h
  | bad => exact h
theorem RQ.of {α : Type} {o : Option α} {e : Env} {ok : α → Env → Prop} {ex : String → List D → Env → Prop} (h : RQ (Res.of o e) ok ex) : ∃ a, o = some a ∧ ok a e := by
  cases o with
  | none => exact (show False from h).elim
  | some a => exact ⟨a, rfl, h⟩

section
variable (K : PySem.W.Frag) (cl : String → Addr) (fl : Flds) (fx : Fx) (F L : Sets) (H : Hp) (A : Nat → Sets) (σ : L2.St)
def okP (Q : VK) (d : D) (e : Env) : Prop := ∀ v F' A' H' fp, Ext F H A F' H' A' → RS K cl fx F' L H' σ e A' → Rp K cl F' H' d v fp → Tp F' L H' A' fp → Fr H A fp → Q v H'
def lkP (qu f : Bool) (Q : VK) (d : D) (e : Env) : Prop := ∀ v F' A' H' fp, Ext F H A F' H' A' → RS K cl fx F' L H' σ e A' → Rp K cl F' H' d v fp → (f = false → Tp F' L H' A' fp ∧ Fr H A fp) → (qu = true → Gr F H F' H') → Q v H'
def tkP (Q : Bool → Hp → Prop) (k : Bool) (e : Env) : Prop := ∀ F' A' H', Ext F H A F' H' A' → RS K cl fx F' L H' σ e A' → Q k H'
def okPs (Q : List V → Hp → Prop) (ds : List D) (e : Env) : Prop := ∀ vs F' A' H' fp, Ext F H A F' H' A' → RS K cl fx F' L H' σ e A' → Rps K cl F' H' ds vs fp → Tp F' L H' A' fp → Fr H A fp → Q vs H'
def lkPs (qu : Bool) (Q : List V → Hp → Prop) (ds : List D) (e : Env) : Prop := ∀ vs F' A' H' fp, Ext F H A F' H' A' → RS K cl fx F' L H' σ e A' → Rws K cl F' H' ds vs fp → (qu = true → Gr F H F' H') → Q vs H'
def exP (W : WX) (c : String) (ds : List D) (e : Env) : Prop := ∀ F' A' H' dx vs, Ext F H A F' H' A' → RS K cl fx F' L H' σ e A' → H' dx = some (.xd (((fl c).map Str.ofString).zip vs)) → Rps K cl F' H' ds vs E0s → (fl c).length = ds.length → W (.ref (cl c)) (some dx) σ H'
end
section
variable {K : PySem.W.Frag} {cl : String → Addr} {fl : Flds} {fx : Fx} {F F1 F' L : Sets} {H H1 H' : Hp} {σ : L2.St} {env e : Env} {A A1 A' : Nat → Sets} {fp : Sets} {d : D} {ds : List D} {v : V} {Q : VK} {W : WX} {c : String}
theorem okP.ext (q : okP K cl fx F L H A σ Q d e) (x : Ext F H A F1 H1 A1) : okP K cl fx F1 L H1 A1 σ Q d e := fun v F' A' H' fp y rs r t f => q v F' A' H' fp (x.trans y) rs r t (f.ext x)
theorem exP.ext (q : exP K cl fl fx F L H A σ W c ds e) (x : Ext F H A F1 H1 A1) : exP K cl fl fx F1 L H1 A1 σ W c ds e := fun F' A' H' dx vs y rs h1 h2 h3 => q F' A' H' dx vs (x.trans y) rs h1 h2 h3
theorem tkP.ext {Q : Bool → Hp → Prop} {k : Bool} (q : tkP K cl fx F L H A σ Q k e) (x : Ext F H A F1 H1 A1) : tkP K cl fx F1 L H1 A1 σ Q k e := fun F' A' H' y rs => q F' A' H' (x.trans y) rs
theorem okPs.ext {Q : List V → Hp → Prop} (q : okPs K cl fx F L H A σ Q ds e) (x : Ext F H A F1 H1 A1) : okPs K cl fx F1 L H1 A1 σ Q ds e := fun v F' A' H' fp y rs r t f => q v F' A' H' fp (x.trans y) rs r t (f.ext x)
/-- a result made now -/
theorem okP.op (q : okP K cl fx F L H A σ Q d e) (rs : RS K cl fx F L H σ e A) : OpPost K cl F H d Q := fun v F' H' fp g r n => by
  refine q v F' A H' fp g.ext (rs.gr g) r (fun a z => ?_) fun a z => .inl (n a z).1
  obtain ⟨n1, n2, n3⟩ := n a z
  exact ⟨n2, fun u => rs.dom a (.inr u) n1, fun ⟨i, u⟩ => Mut.some (rs.own i a u).2.2 n1, n3⟩
theorem okP.val (q : okP K cl fx F L H A σ Q d e) (rs : RS K cl fx F L H σ e A) {v : V} (r : Rp K cl F H d v E0s) : Q v H := (q.op rs).val r
theorem okP.stb (q : okP K cl fx F L H A σ Q d e) (rs : RS K cl fx F L H σ e A) (s : d.stb = true) {F' : Sets} {H' : Hp} (g : Gr F H F' H') {v : V} {fp : Sets} (r : Rp K cl F' H' d v fp) : Q v H' := q v F' A H' E0s g.ext (rs.gr g) (r.stb s) Tp.e0 Fr.e0
end
/-! ### what changes in the slots alone -/
section
variable {K : PySem.W.Frag} {cl : String → Addr} {fx : Fx} {F F1 F' L : Sets} {H H1 H' : Hp} {σ : L2.St} {env e : Env} {A A1 A' : Nat → Sets}
/-- slot i empties: what it owned is let go -/
def offA (A : Nat → Sets) (i : Nat) : Nat → Sets := fun j a => j ≠ i ∧ A j a
theorem RS.off (r : RS K cl fx F L H σ env A) (i : Nat) : RS K cl fx F L H σ (env.set i .no) (offA A i) := by
  have key : ∀ {j : Nat} {s : Slot}, (env.set i .no)[j]? = some s → s ≠ .no → env[j]? = some s ∧ j ≠ i := fun {j s} h hs => by
    by_cases hj : i = j
    · subst hj
      rw [List.getElem?_set] at h
      split at h
      · split at h
        · cases h; exact absurd rfl hs
        · cases h
      · rename_i q; exact absurd rfl q
    · rw [List.getElem?_set_ne hj] at h
      exact ⟨h, fun z => hj z.symm⟩
  refine ⟨by rw [List.length_set]; exact r.len, fun j d h => ?_, fun j d h => ?_, fun j d h => ?_, fun j d h => ?_, fun j c ns ds h => ?_, fun j k a hn z u => r.sep j k a hn z.2 u.2, fun j a z => r.own j a z.2, r.dom, r.vl⟩
  · obtain ⟨h1, h2⟩ := key h (fun z => by cases z)
    obtain ⟨v, e1, e2⟩ := r.me j d h1
    exact ⟨v, e1, e2.mono fun a z => ⟨h2, z⟩⟩
  · obtain ⟨h1, h2⟩ := key h (fun z => by cases z)
    obtain ⟨v, e1, e2, e3⟩ := r.mp j d h1
    exact ⟨v, e1, e2.mono fun a z => ⟨h2, z⟩, e3⟩
  · exact r.vw j d (key h (fun z => by cases z)).1
  · exact r.lk j d (key h (fun z => by cases z)).1
  · exact r.xc j c ns ds (key h (fun z => by cases z)).1
theorem Ext.off (i : Nat) : Ext F H A F H (offA A i) := ⟨fun _ z => z, fun _ z => .inl z, fun a ⟨j, z⟩ => .inl ⟨j, z.2⟩, fun _ _ e _ => e, fun _ e => e⟩
theorem RS.off_tp (r : RS K cl fx F L H σ env A) (i : Nat) : Tp F L H (offA A i) (A i) := fun a z => by
  obtain ⟨h1, h2, h3⟩ := r.own i a z
  exact ⟨h1, h2, fun ⟨j, u⟩ => r.sep j i a u.1 u.2 z, h3⟩
/-- slot i's nodes frozen -/
theorem RS.frz (r : RS K cl fx F L H σ env A) {i : Nat} {d : D} (hi : env[i]? = some (.me d)) : RS K cl fx (fun a => F a ∨ A i a) L H σ (env.set i (.me d.froz)) (offA A i) := by
  have kp : ∀ S, Kp F H S (fun a => F a ∨ A i a) H := fun S => ⟨fun _ z => .inl z, fun a o e _ => e⟩
  have key : ∀ {j : Nat} {s : Slot}, (env.set i (.me d.froz))[j]? = some s → j ≠ i → env[j]? = some s := fun {j s} h hj => by
    rwa [List.getElem?_set_ne fun z => hj z.symm] at h
  have self : ∀ {s : Slot}, (env.set i (.me d.froz))[i]? = some s → s = .me d.froz := fun {s} h => by
    rw [List.getElem?_set] at h
    simp only [if_true] at h
    split at h
    · cases h; rfl
    · cases h
  refine ⟨by rw [List.length_set]; exact r.len, fun j d' h => ?_, fun j d' h => ?_, fun j d' h => ?_, fun j d' h => ?_, fun j c ns ds h => ?_, fun j k a hn z u => r.sep j k a hn z.2 u.2, fun j a z => ?_, fun a z => ?_, r.vl⟩
  · by_cases hj : j = i
    · subst hj
      cases self h
      obtain ⟨v, e1, e2⟩ := r.me j d hi
      exact ⟨v, e1, e2.froz (fun a z => .inr z) fun a z => .inl z⟩
    · obtain ⟨v, e1, e2⟩ := r.me j d' (key h hj)
      exact ⟨v, e1, (e2.kp (kp _)).mono fun a z => ⟨hj, z⟩⟩
  · by_cases hj : j = i
    · subst hj; cases self h
    · obtain ⟨v, e1, e2, e3⟩ := r.mp j d' (key h hj)
      exact ⟨v, e1, (e2.kp (kp _)).mono fun a z => ⟨hj, z⟩, e3⟩
  · by_cases hj : j = i
    · subst hj; cases self h
    · obtain ⟨v, f, e1, e2, e3⟩ := r.vw j d' (key h hj)
      exact ⟨v, f, e1, e2.kp (kp _), e3⟩
  · by_cases hj : j = i
    · subst hj; cases self h
    · obtain ⟨v, f, e1, e2, e3⟩ := r.lk j d' (key h hj)
      exact ⟨v, f, e1, e2.kp (kp _), e3⟩
  · by_cases hj : j = i
    · subst hj; cases self h
    · obtain ⟨a, dx, vs, h1, h2, h3, h4, h5⟩ := r.xc j c ns ds (key h hj)
      exact ⟨a, dx, vs, h1, h2, h3, h4, h5.kp (kp _)⟩
  · obtain ⟨h1, h2, h3⟩ := r.own j a z.2
    exact ⟨fun u => u.elim h1 fun u => r.sep j i a z.1 z.2 u, h2, h3⟩
  · rcases z with (z | z) | z
    · exact r.dom a (.inl z)
    · exact Mut.some (r.own i a z).2.2
    · exact r.dom a (.inr z)
theorem RS.freeze (r : RS K cl fx F L H σ env A) : ∀ {is : List Nat} {env' : Env}, freeze env is = some env' → ∃ F' A', Ext F H A F' H A' ∧ RS K cl fx F' L H σ env' A'
  | [], env', h => by
    simp only [Wv.freeze, Option.some.injEq] at h; subst h
    exact ⟨F, A, Ext.refl, r⟩
  | i :: is, env', h => by
    simp only [Wv.freeze] at h
    split at h
    · rename_i e1 he
      obtain ⟨F1, A1, x, r1⟩ := RS.freeze r he
      split at h
      · rename_i d hd
        split at h
        · cases h; exact ⟨F1, A1, x, r1⟩
        · cases h
          refine ⟨_, _, x.trans ⟨fun a z => .inl z, fun a z => z.elim .inl fun z => .inr (.inr ⟨i, z⟩), fun a ⟨j, z⟩ => .inl ⟨j, z.2⟩, fun a o e _ => e, fun a e => e⟩, r1.frz hd⟩
      · split at h
        · cases h; exact ⟨F1, A1, x, r1⟩
        · cases h
      · cases h
    · cases h
end
end Wv

set_option Elab.async false
set_option linter.all false
set_option maxRecDepth 100000
/-! Wv9: expressions with effects: the check against the syntax. -/
namespace Wv
open PySem PySem.Spec PyProof.Rows L2
def kwOk (ks : List String) (kws : List Keyword) : Bool := kws.map (·.arg) == ks.map fun k => some (Str.ofString k)
def allQ : List Ex → Bool
  | [] => true
  | .brv _ :: r => allQ r
  | .mt _ :: _ => false
  | _ :: r => allQ r
/-- lent to be changed: the first alone -/
def allM (es : List Ex) (ks : List String) : Bool := match es with
  | .mt _ :: r => ks.isEmpty && allQ r
  | es => allQ es
/-- methods that change their list or set, with their numbers of arguments -/
def mmOk (m : String) (n : Nat) : Bool := match m, n with
  | "append", 1 => true
  | "extend", 1 => true
  | "add", 1 => true
  | "pop", 0 => true
  | "pop", 1 => true
  | "insert", 2 => true
  | _, _ => false
def locB (sc : Scope) (x : Str) : Bool := match sc.names.lookup x with
  | some .local => true
  | some .cell => true
  | _ => false
section
variable (N : List Str) (lo : Str → Bool)
mutual
def erP : Pat → Expr → Bool
  | .v i, .Name x _ => N[i]? == some x && lo x
  | .tup ps, .Tuple es _ _ => erPs ps es
  | _, _ => false
def erPs : List Pat → List Expr → Bool
  | [], [] => true
  | p :: ps, e :: es => (nst e && erP p e) && erPs ps es
  | _, _ => false
end
end
/-- a comprehension's own names, with their places -/
def ownP (N : List Str) (own : List Nat) : List (Str × Nat) := own.filterMap fun i => (N[i]?).map fun x => (x, i)
def isTup : Expr → Bool
  | .Tuple _ _ _ => true
  | _ => false
section
variable (G : Cfg) (N : List Str)
mutual
def erE : Ex → Scope → Expr → Bool
  | .q e, sc, x => erQ G sc N e x
  | .fz _ e, sc, x => erQ G sc N e x
  | .mv i, sc, x => erQ G sc N (.var i) x
  | .brv i, sc, x => erQ G sc N (.var i) x
  | .mt i, sc, x => erQ G sc N (.var i) x
  | .fr e, sc, x => erE e sc x
  | .bin op a b, sc, .BinOp l o r _ => op == o && (erE a sc l && erE b sc r)
  | .un op a, sc, .UnaryOp o e _ => op == o && op != .Not && erE a sc e
  | .nt a, sc, .UnaryOp .Not e _ => erE a sc e
  | .cmp op a b, sc, .Compare l [o] [r] _ => op == o && (erE a sc l && (erE b sc r && nset r))
  | .and es, sc, .BoolOp .And vs _ => erEs es sc vs
  | .or es, sc, .BoolOp .Or vs _ => erEs es sc vs
  | .ite c a b, sc, .IfExp t x y _ => erE c sc t && erE a sc x && erE b sc y
  | .idx a i, sc, .Subscript x y _ => erE a sc x && erE i sc y && nsl y
  | .slc a lo hi, sc, .Subscript x (.Slice l h none _) _ => erE a sc x && erO G sc N lo l && erO G sc N hi h
  | .attr a f, sc, .Attribute x n _ => Str.ofString f == n && erE a sc x && ncl x
  | .tup es, sc, .Tuple xs _ _ => erEs es sc xs
  | .lst es, sc, .List xs _ => erEs es sc xs
  | .bi f es, sc, .Call x (y :: ys) [] _ => nmB sc f x && biQ.contains f && erEs es sc (y :: ys)
  | .isi a cs, sc, .Call x [e, t] [] _ => nmB sc "isinstance" x && (nst e && erE a sc e) && clssOk G cs && (match t with
    | .Tuple ts _ _ => nmsB sc cs ts
    | t => nmsB sc cs [t])
  | .call f es ks, sc, .Call x ys kws _ => nmB sc f x && (G.gf.contains f && (allM es ks && kwOk ks kws)) && erEs es sc (ys ++ kws.map (·.value))
  | .new c es ks, sc, .Call x ys kws _ => nmB sc c x && ((G.pl.contains c && ks.isEmpty) && (allQ es && kwOk ks kws)) && erEs es sc (ys ++ kws.map (·.value))
  | .mm x [] m es, sc, .Call (.Attribute o n ap) ys [] cp => (mmOk m ys.length && n == Str.ofString m && ap.endLine == cp.line) && erQ G sc N (.var x) o && erEs es sc ys
  | .mk0 true, sc, .Call x [] [] _ => nmB sc "set" x
  | .mk0 false, _, .Dict [] [] _ => true
  | .comp own p s ifs elt, sc, .ListComp elt' [⟨tg, iter, ifs', n⟩] scope _ => (n == 0 && blkC N sc scope (ownP N own)) && ((ownP N own).map (·.2) == own) && (patV p).all own.contains && (erP N (locB scope) p tg && (nset iter && erS s sc tg iter)) && (decide (ifs'.length ≤ 1) && erEs ifs (relS scope sc) ifs') && erE elt (relS scope sc) elt'
  | _, _, _ => false
def erS : Src → Scope → Expr → Expr → Bool
  | .rng none (some b) none, sc, _, .Call x [y] [] _ => nmB sc "range" x && (nst y && erE b sc y)
  | .rng (some a) (some b) none, sc, _, .Call x [y, z] [] _ => nmB sc "range" x && ((nst y && erE a sc y) && (nst z && erE b sc z))
  | .itq e, sc, _, x => erQ G sc N e x
  | .itv e, sc, _, x => erE e sc x
  | .enq e, sc, tg, .Call x [y] [] _ => (nmB sc "enumerate" x && isTup tg) && (nst y && erQ G sc N e y)
  | .env e, sc, tg, .Call x [y] [] _ => (nmB sc "enumerate" x && isTup tg) && (nst y && erE e sc y)
  | .zipq [e1, e2], sc, tg, .Call x [y1, y2] [] _ => (nmB sc "zip" x && isTup tg) && ((nst y1 && erQ G sc N e1 y1) && (nst y2 && erQ G sc N e2 y2))
  | .zipq [e1, e2, e3], sc, tg, .Call x [y1, y2, y3] [] _ => (nmB sc "zip" x && isTup tg) && ((nst y1 && erQ G sc N e1 y1) && ((nst y2 && erQ G sc N e2 y2) && (nst y3 && erQ G sc N e3 y3)))
  | _, _, _, _ => false
def erEs : List Ex → Scope → List Expr → Bool
  | [], _, [] => true
  | e :: es, sc, x :: xs => (nst x && erE e sc x) && erEs es sc xs
  | _, _, _ => false
end
end
section
variable {G : Cfg} {sc : Scope} {N : List Str}
theorem erEs_nsts : ∀ (es : List Ex) (xs : List Expr), erEs G N es sc xs = true → nsts xs = true
  | [], [], _ => rfl
  | [], _ :: _, h => by simp [erEs] at h
  | _ :: _, [], h => by simp [erEs] at h
  | e :: es, x :: xs, h => by
    simp only [erEs, Bool.and_eq_true] at h
    simp only [nsts, h.1.1, erEs_nsts es xs h.2, Bool.and_self]
theorem xnv_bin {op : Operator} {a b : Ex} {x : Expr} (h : erE G N (.bin op a b) sc x = true) : ∃ l r p, x = .BinOp l op r p ∧ erE G N a sc l = true ∧ erE G N b sc r = true := by
  cases x <;> (try simp [erE] at h)
  obtain ⟨h1, h2, h3⟩ := h
  subst h1
  exact ⟨_, _, _, rfl, h2, h3⟩
theorem xnv_un {op : UnaryOp} {a : Ex} {x : Expr} (h : erE G N (.un op a) sc x = true) : ∃ l p, x = .UnaryOp op l p ∧ op ≠ .Not ∧ erE G N a sc l = true := by
  cases x <;> (try simp [erE] at h)
  obtain ⟨⟨h1, h2⟩, h3⟩ := h
  subst h1
  exact ⟨_, _, rfl, h2, h3⟩
theorem xnv_nt {a : Ex} {x : Expr} (h : erE G N (.nt a) sc x = true) : ∃ l p, x = .UnaryOp .Not l p ∧ erE G N a sc l = true := by
  cases x <;> (try simp [erE] at h)
  rename_i o l p; cases o <;> simp [erE] at h
  exact ⟨_, _, rfl, h⟩
theorem xnv_cmp {op : CmpOp} {a b : Ex} {x : Expr} (h : erE G N (.cmp op a b) sc x = true) : ∃ l r p, x = .Compare l [op] [r] p ∧ erE G N a sc l = true ∧ erE G N b sc r = true ∧ nset r = true := by
  cases x <;> (try simp [erE] at h)
  rename_i l ops rs p
  match ops, rs, h with
  | [o], [r], h =>
    simp [erE] at h
    obtain ⟨h1, h2, h3, h4⟩ := h
    subst h1
    exact ⟨_, _, _, rfl, h2, h3, h4⟩
  | [], _, h => simp [erE] at h
  | _ :: _ :: _, _, h => simp [erE] at h
  | [_], [], h => simp [erE] at h
  | [_], _ :: _ :: _, h => simp [erE] at h
theorem xnv_and {es : List Ex} {x : Expr} (h : erE G N (.and es) sc x = true) : ∃ vs p, x = .BoolOp .And vs p ∧ erEs G N es sc vs = true := by
  cases x <;> (try simp [erE] at h)
  rename_i o vs p; cases o <;> simp [erE] at h
  exact ⟨_, _, rfl, h⟩
theorem xnv_or {es : List Ex} {x : Expr} (h : erE G N (.or es) sc x = true) : ∃ vs p, x = .BoolOp .Or vs p ∧ erEs G N es sc vs = true := by
  cases x <;> (try simp [erE] at h)
  rename_i o vs p; cases o <;> simp [erE] at h
  exact ⟨_, _, rfl, h⟩
theorem xnv_ite {c a b : Ex} {x : Expr} (h : erE G N (.ite c a b) sc x = true) : ∃ t l r p, x = .IfExp t l r p ∧ erE G N c sc t = true ∧ erE G N a sc l = true ∧ erE G N b sc r = true := by
  cases x <;> (try simp [erE] at h)
  exact ⟨_, _, _, _, rfl, h.1.1, h.1.2, h.2⟩
theorem xnv_idx {a b : Ex} {x : Expr} (h : erE G N (.idx a b) sc x = true) : ∃ l r p, x = .Subscript l r p ∧ erE G N a sc l = true ∧ erE G N b sc r = true ∧ nsl r = true := by
  cases x <;> (try simp [erE] at h)
  exact ⟨_, _, _, rfl, h.1.1, h.1.2, h.2⟩
theorem xnv_slc {a : Ex} {lo hi : Option Qx} {x : Expr} (h : erE G N (.slc a lo hi) sc x = true) : ∃ l s t p q, x = .Subscript l (.Slice s t none p) q ∧ erE G N a sc l = true ∧ erO G sc N lo s = true ∧ erO G sc N hi t = true := by
  cases x <;> (try simp [erE] at h)
  rename_i l s p
  cases s <;> (try simp [erE] at h)
  rename_i s t u q
  cases u <;> (try simp [erE] at h)
  exact ⟨_, _, _, _, _, rfl, h.1.1, h.1.2, h.2⟩
theorem xnv_attr {a : Ex} {f : String} {x : Expr} (h : erE G N (.attr a f) sc x = true) : ∃ l p, x = .Attribute l (Str.ofString f) p ∧ erE G N a sc l = true ∧ ncl l = true := by
  cases x <;> (try simp [erE] at h)
  obtain ⟨⟨h1, h2⟩, h3⟩ := h
  subst h1
  exact ⟨_, _, rfl, h2, h3⟩
theorem xnv_tup {es : List Ex} {x : Expr} (h : erE G N (.tup es) sc x = true) : ∃ vs k p, x = .Tuple vs k p ∧ erEs G N es sc vs = true := by
  cases x <;> (try simp [erE] at h)
  exact ⟨_, _, _, rfl, h⟩
theorem xnv_lst {es : List Ex} {x : Expr} (h : erE G N (.lst es) sc x = true) : ∃ vs p, x = .List vs p ∧ erEs G N es sc vs = true := by
  cases x <;> (try simp [erE] at h)
  exact ⟨_, _, rfl, h⟩
theorem xnv_bi {f : String} {es : List Ex} {x : Expr} (h : erE G N (.bi f es) sc x = true) : ∃ q y ys p, x = .Call (.Name (Str.ofString f) q) (y :: ys) [] p ∧ glB sc (Str.ofString f) = true ∧ okName (Str.ofString f) = true ∧ biQ.contains f = true ∧ erEs G N es sc (y :: ys) = true := by
  cases x <;> (try simp [erE] at h)
  rename_i c as ks p
  match as, ks, h with
  | y :: ys, [], h =>
    simp only [erE, Bool.and_eq_true] at h
    obtain ⟨⟨h1, h2⟩, h3⟩ := h
    obtain ⟨q, rfl, h4, h5⟩ := nmB_inv h1
    exact ⟨q, y, ys, p, rfl, h4, h5, h2, h3⟩
  | [], _, h => simp [erE] at h
  | _ :: _, _ :: _, h => simp [erE] at h
theorem xnv_call {f : String} {es : List Ex} {ks : List String} {x : Expr} (h : erE G N (.call f es ks) sc x = true) : ∃ q ys kws p, x = .Call (.Name (Str.ofString f) q) ys kws p ∧ glB sc (Str.ofString f) = true ∧ okName (Str.ofString f) = true ∧ G.gf.contains f = true ∧ allM es ks = true ∧ kwOk ks kws = true ∧ erEs G N es sc (ys ++ kws.map (·.value)) = true := by
  cases x <;> (try simp [erE] at h)
  rename_i c as kws p
  obtain ⟨⟨h1, h2, h2', h2''⟩, h3⟩ := h
  obtain ⟨q, rfl, h4, h5⟩ := nmB_inv h1
  exact ⟨q, as, kws, p, rfl, h4, h5, by simpa using h2, h2', h2'', h3⟩
theorem xnv_new {f : String} {es : List Ex} {ks : List String} {x : Expr} (h : erE G N (.new f es ks) sc x = true) : ∃ q ys kws p, x = .Call (.Name (Str.ofString f) q) ys kws p ∧ glB sc (Str.ofString f) = true ∧ okName (Str.ofString f) = true ∧ G.pl.contains f = true ∧ ks = [] ∧ allQ es = true ∧ kwOk ks kws = true ∧ erEs G N es sc (ys ++ kws.map (·.value)) = true := by
  cases x <;> (try simp [erE] at h)
  rename_i c as kws p
  obtain ⟨⟨h1, ⟨h2, h20⟩, h2', h2''⟩, h3⟩ := h
  obtain ⟨q, rfl, h4, h5⟩ := nmB_inv h1
  exact ⟨q, as, kws, p, rfl, h4, h5, by simpa using h2, h20, h2', h2'', h3⟩
theorem xnv_mm {i : Nat} {path : List PEl} {m : String} {es : List Ex} {x : Expr} (h : erE G N (.mm i path m es) sc x = true) : ∃ n q ap ys cp, x = .Call (.Attribute (.Name n q) (Str.ofString m) ap) ys [] cp ∧ path = [] ∧ mmOk m ys.length = true ∧ (ap.endLine == cp.line) = true ∧ (N[i]? = some n ∧ visB sc n = true ∧ okName n = true) ∧ erEs G N es sc ys = true := by
  cases path with
  | cons p ps => cases x <;> simp [erE] at h
  | nil =>
    obtain ⟨f, as, ks, cp, rfl⟩ : ∃ a b c d, x = .Call a b c d := by
      cases x with
      | Call a b c d => exact ⟨_, _, _, _, rfl⟩
      | _ => simp [erE] at h
    cases f with
    | Attribute o n ap =>
      match ks, h with
      | [], h =>
        simp only [erE, Bool.and_eq_true, beq_iff_eq] at h
        obtain ⟨⟨⟨⟨h1, h2⟩, h3⟩, h4⟩, h5⟩ := h
        obtain ⟨n', q, rfl, k⟩ := inv_var h4
        subst h2
        exact ⟨n', q, ap, as, cp, rfl, rfl, h1, by simpa using h3, k, h5⟩
      | _ :: _, h => simp [erE] at h
    | _ => simp [erE] at h
theorem xnv_mk0 {b : Bool} {x : Expr} (h : erE G N (.mk0 b) sc x = true) : (b = true ∧ ∃ q p, x = .Call (.Name (Str.ofString "set") q) [] [] p ∧ glB sc (Str.ofString "set") = true ∧ okName (Str.ofString "set") = true) ∨ (b = false ∧ ∃ p, x = .Dict [] [] p) := by
  cases b with
  | true =>
    left
    obtain ⟨f, as, ks, cp, rfl⟩ : ∃ a b c d, x = .Call a b c d := by
      cases x with
      | Call a b c d => exact ⟨_, _, _, _, rfl⟩
      | _ => simp [erE] at h
    match as, ks, h with
    | [], [], h =>
      simp only [erE] at h
      obtain ⟨q, rfl, h4, h5⟩ := nmB_inv h
      exact ⟨rfl, q, cp, rfl, h4, h5⟩
    | _ :: _, _, h => simp [erE] at h
    | [], _ :: _, h => simp [erE] at h
  | false =>
    right
    obtain ⟨ks, vs, p, rfl⟩ : ∃ a b c, x = .Dict a b c := by
      cases x with
      | Dict a b c => exact ⟨_, _, _, rfl⟩
      | _ => simp [erE] at h
    match ks, vs, h with
    | [], [], h => exact ⟨rfl, p, rfl⟩
    | _ :: _, _, h => simp [erE] at h
    | [], _ :: _, h => simp [erE] at h
theorem xnv_isi {a : Ex} {cs : List String} {x : Expr} (h : erE G N (.isi a cs) sc x = true) : ∃ q e t p, x = .Call (.Name (Str.ofString "isinstance") q) [e, t] [] p ∧ glB sc (Str.ofString "isinstance") = true ∧ okName (Str.ofString "isinstance") = true ∧ (nst e = true ∧ erE G N a sc e = true) ∧ clssOk G cs = true ∧
    ((∃ ts k p, t = .Tuple ts k p ∧ nmsB sc cs ts = true) ∨ nmsB sc cs [t] = true) := by
  cases x <;> (try simp [erE] at h)
  rename_i c as ks p
  match as, ks, h with
  | [e, t], [], h =>
    simp only [erE, Bool.and_eq_true] at h
    obtain ⟨⟨⟨h1, h2⟩, h3⟩, h4⟩ := h
    obtain ⟨q, rfl, h5, h6⟩ := nmB_inv h1
    refine ⟨q, e, t, p, rfl, h5, h6, h2, h3, ?_⟩
    split at h4
    · exact .inl ⟨_, _, _, rfl, h4⟩
    · exact .inr h4
  | [], _, h => simp [erE] at h
  | [_], _, h => simp [erE] at h
  | _ :: _ :: _ :: _, _, h => simp [erE] at h
  | [_, _], _ :: _, h => simp [erE] at h
theorem lk_ne {e : Ex} {f : Bool} {env : Env} (h : isQ e = false) : lk G e f env = ev G e env := by
  cases e <;> first | (simp [isQ] at h; done) | simp only [lk]
end
section
variable (G : Cfg) (cl : String → Addr)
def EV (e : Ex) : Prop := ∀ (X : Cx) (fx : Fx) (sc : Scope) (x : Expr), Good G cl fx sc X → erE G X.N e sc x = true → ∀ (W : WX), Takes X W → ∀ (F L : Sets) (H : Hp) (σ : L2.St) (env : Env) (A : Nat → Sets), RS X.K cl fx F L H σ env A →
  ∀ Q : VK, RQ (ev G e env) (okP X.K cl fx F L H A σ Q) (exP X.K cl G.fl fx F L H A σ W) → wE X x σ H Q
def LK (e : Ex) : Prop := ∀ (X : Cx) (fx : Fx) (sc : Scope) (x : Expr), Good G cl fx sc X → erE G X.N e sc x = true → ∀ (W : WX), Takes X W → ∀ (F L : Sets) (H : Hp) (σ : L2.St) (env : Env) (A : Nat → Sets), RS X.K cl fx F L H σ env A →
  ∀ (f : Bool) (Q : VK), RQ (lk G e f env) (lkP X.K cl fx F L H A σ (isQ e) f Q) (exP X.K cl G.fl fx F L H A σ W) → wE X x σ H Q
def TK (e : Ex) : Prop := ∀ (X : Cx) (fx : Fx) (sc : Scope) (x : Expr), Good G cl fx sc X → erE G X.N e sc x = true → ∀ (W : WX), Takes X W → ∀ (F L : Sets) (H : Hp) (σ : L2.St) (env : Env) (A : Nat → Sets), RS X.K cl fx F L H σ env A →
  ∀ (Q : Bool → Hp → Prop), RQ (te G e env) (tkP X.K cl fx F L H A σ Q) (exP X.K cl G.fl fx F L H A σ W) → wT X x σ H Q
def EVs (es : List Ex) : Prop := ∀ (X : Cx) (fx : Fx) (sc : Scope) (xs : List Expr), Good G cl fx sc X → erEs G X.N es sc xs = true → ∀ (W : WX), Takes X W → ∀ (F L : Sets) (H : Hp) (σ : L2.St) (env : Env) (A : Nat → Sets), RS X.K cl fx F L H σ env A →
  ∀ Q : List V → Hp → Prop, RQ (evs G es env) (okPs X.K cl fx F L H A σ Q) (exP X.K cl G.fl fx F L H A σ W) → wA X xs σ H Q
def LKs (es : List Ex) : Prop := ∀ (X : Cx) (fx : Fx) (sc : Scope) (xs : List Expr), Good G cl fx sc X → erEs G X.N es sc xs = true → ∀ (W : WX), Takes X W → ∀ (F L : Sets) (H : Hp) (σ : L2.St) (env : Env) (A : Nat → Sets), RS X.K cl fx F L H σ env A →
  ∀ Q : List V → Hp → Prop, RQ (lks G es env) (lkPs X.K cl fx F L H A σ (quiets es) Q) (exP X.K cl G.fl fx F L H A σ W) → wA X xs σ H Q
end
section
variable {G : Cfg} {cl : String → Addr}
theorem ev_q (e : Qx) : EV G cl (.q e) := by
  intro X fx sc x g er W tk F L H σ env A r Q q
  simp only [erE] at er
  simp only [ev] at q
  split at q
  · rename_i d hd
    split at q
    · rename_i hs
      exact qv_ok g e x er r hd fun v F' H' fp gr rp _ => q v F' A H' E0s gr.ext (r.gr gr) (rp.stb hs) Tp.e0 Fr.e0
    · exact q.elim
  · exact q.elim
theorem ev_fz (is : List Nat) (e : Qx) : EV G cl (.fz is e) := by
  intro X fx sc x g er W tk F L H σ env A r Q q
  simp only [erE] at er
  simp only [ev] at q
  split at q
  · rename_i d hd
    split at q
    · rename_i hs
      exact qv_ok g e x er r hd fun v F' H' fp gr rp _ => q v F' A H' E0s gr.ext (r.gr gr) (rp.stb hs) Tp.e0 Fr.e0
    · split at q
      · rename_i env' hf
        obtain ⟨F1, A1, x1, r1⟩ := r.freeze hf
        split at q
        · rename_i d' hd'
          split at q
          · rename_i hs
            exact qv_ok g e x er r1 hd' fun v F' H' fp gr rp _ => q v F' A1 H' E0s (x1.trans gr.ext) (r1.gr gr) (rp.stb hs) Tp.e0 Fr.e0
          · exact q.elim
        · exact q.elim
      · exact q.elim
  · exact q.elim
theorem ev_mv (i : Nat) : EV G cl (.mv i) := by
  intro X fx sc x g er W tk F L H σ env A r Q q
  simp only [erE] at er
  obtain ⟨n, p, rfl, h1, h2, h3⟩ := inv_var er
  obtain ⟨k1, k2, k3⟩ := okName_ok h3
  refine to_wE (pe_var h1 (visB_ok g.scq h2) k1 k2) ?_
  simp only [ev] at q
  split at q
  · rename_i d e
    obtain ⟨v, e1, e2⟩ := r.me i d e
    exact ⟨v, e1, q v F (offA A i) H (A i) (Ext.off i) (r.off i) e2 (r.off_tp i) fun a z => .inr ⟨i, z⟩⟩
  · exact q.elim
theorem ev_fr {e : Ex} (ih : EV G cl e) : EV G cl (.fr e) := by
  intro X fx sc x g er W tk F L H σ env A r Q q
  simp only [erE] at er
  simp only [ev] at q
  refine ih X fx sc x g er W tk F L H σ env A r Q (q.bind (fun d e1 q1 => ?_) fun c ds e1 q1 => q1)
  intro v F' A' H' fp x1 rs rp tp fr
  have q1 : okP X.K cl fx F L H A σ Q (if d.stb then d else d.froz) e1 := q1
  split at q1
  · exact q1 v F' A' H' fp x1 rs rp tp fr
  · refine q1 v (fun a => F' a ∨ fp a) A' H' E0s ⟨fun a z => .inl (x1.fro a z), fun a z => ?_, x1.own, x1.keep, x1.live⟩ (rs.fro tp) (rp.froz (fun a z => .inr z) fun a z => .inl z) Tp.e0 Fr.e0
    rcases z with z | z
    · exact x1.new a z
    · exact .inr (fr a z)
theorem lkP_of {K : PySem.W.Frag} {fx : Fx} {F L : Sets} {H : Hp} {A : Nat → Sets} {σ : L2.St} {f : Bool} {Q : VK} {d : D} {e : Env} (q : lkP K cl fx F L H A σ false f Q d e) : okP K cl fx F L H A σ Q d e := fun v F' A' H' fp x rs rp tp fr => q v F' A' H' fp x rs rp (fun _ => ⟨tp, fr⟩) fun z => by cases z
theorem lk_of {e : Ex} (ih : EV G cl e) : LK G cl e := by
  intro X fx sc x g er W tk F L H σ env A r f Q q
  by_cases h : isQ e = true
  · cases e with
    | q e =>
      simp only [erE] at er
      simp only [lk] at q
      split at q
      · rename_i d hd
        split at q
        · rename_i hs
          refine qv_ok g e x er r hd fun v F' H' fp gr rp _ => ?_
          by_cases st : d.stb = true
          · exact q v F' A H' E0s gr.ext (r.gr gr) (rp.stb st) (fun _ => ⟨Tp.e0, Fr.e0⟩) fun _ => gr
          · refine q v F' A H' fp gr.ext (r.gr gr) rp (fun z => ?_) fun _ => gr
            simp [st] at hs
            rw [hs] at z; cases z
        · exact q.elim
      · exact q.elim
    | _ => simp [isQ] at h
  · have h : isQ e = false := by simpa using h
    rw [lk_ne h, h] at q
    exact ih X fx sc x g er W tk F L H σ env A r Q (q.mono (fun d e1 q1 => lkP_of q1) fun c ds e1 q1 => q1)
/-- two values looked at -/
theorem lk2 {a b : Ex} (ha : EV G cl a) (hb : EV G cl b) {X : Cx} {fx : Fx} {sc : Scope} {l m : Expr} (g : Good G cl fx sc X) (ea : erE G X.N a sc l = true) (eb : erE G X.N b sc m = true) {W : WX} (tk : Takes X W) {F L : Sets} {H : Hp} {σ : L2.St} {env : Env} {A : Nat → Sets} (r : RS X.K cl fx F L H σ env A)
    {β : Type} {k : D → D → Env → Res β} {ok : β → Env → Prop} (q : RQ ((lk G a (isQ b) env).bind fun x e => (lk G b true e).bind fun y e => k x y e) ok (exP X.K cl G.fl fx F L H A σ W)) {Q : V → V → Hp → Prop}
    (h : ∀ v w x y e F2 H2 A2 f1 f2, RQ (k x y e) ok (exP X.K cl G.fl fx F L H A σ W) → Ext F H A F2 H2 A2 → RS X.K cl fx F2 L H2 σ e A2 → Rp X.K cl F2 H2 x v f1 → Rp X.K cl F2 H2 y w f2 → Q v w H2) :
    wE X l σ H fun v H1 => wE X m σ H1 fun w H2 => Q v w H2 := by
  refine lk_of ha X fx sc l g ea W tk F L H σ env A r (isQ b) _ (q.bind (fun x e1 q1 => ?_) fun c ds e1 q1 => q1)
  intro v F1 A1 H1 f1 x1 rs1 rp1 t1 _
  refine lk_of hb X fx sc m g eb W tk F1 L H1 σ e1 A1 rs1 true _ (q1.bind (fun y e2 q2 => ?_) fun c ds e1 q1 => q1.ext x1)
  intro w F2 A2 H2 f2 x2 rs2 rp2 _ g2
  refine h v w x y e2 F2 H2 A2 f1 f2 q2 (x1.trans x2) rs2 ?_ rp2
  cases hq : isQ b with
  | true => exact rp1.kp (g2 hq).kp
  | false => exact rp1.kp (rs1.kpT x2 (t1 hq).1)
theorem ev_bin {op : Operator} {a b : Ex} (ha : EV G cl a) (hb : EV G cl b) : EV G cl (.bin op a b) := by
  intro X fx sc x g er W tk F L H σ env A r Q q
  obtain ⟨l, m, p, rfl, ea, eb⟩ := xnv_bin er
  simp only [ev] at q
  refine to_wE (pe_op (op_bin (cl := cl)) pe_w pe_w) ?_
  refine lk2 ha hb g ea eb tk r q fun v w x y e F2 H2 A2 f1 f2 q2 x2 rs2 rp1 rp2 => ?_
  split at q2
  · rename_i d hd
    split at q2
    · exact ⟨F2, x, y, f1, f2, d, rs2.fd, rp1, rp2, hd, (okP.ext (show okP X.K cl fx F L H A σ Q d e from q2) x2).op rs2⟩
    · exact q2.elim
  · exact q2.elim
theorem ev_cmp {op : CmpOp} {a b : Ex} (ha : EV G cl a) (hb : EV G cl b) : EV G cl (.cmp op a b) := by
  intro X fx sc x g er W tk F L H σ env A r Q q
  obtain ⟨l, m, p, rfl, ea, eb, hn⟩ := xnv_cmp er
  simp only [ev] at q
  refine to_wE (pe_cmpR (op_cmp (cl := cl) (by have := g.un; omega)) pe_w pe_w (no_marks hn)) ?_
  refine lk2 ha hb g ea eb tk r q fun v w x y e F2 H2 A2 f1 f2 q2 x2 rs2 rp1 rp2 => ?_
  obtain ⟨d, hd, q2⟩ := q2.of
  simp only [Option.map_eq_some_iff] at hd
  obtain ⟨k, hk, rfl⟩ := hd
  exact ⟨F2, x, y, f1, f2, k, rp1, rp2, hk, (okP.ext (show okP X.K cl fx F L H A σ Q _ e from q2) x2).val rs2 (v := .bl k) (by simp only [Rp])⟩
theorem te_cmp {op : CmpOp} {a b : Ex} (ha : EV G cl a) (hb : EV G cl b) : TK G cl (.cmp op a b) := by
  intro X fx sc x g er W tk F L H σ env A r Q q
  obtain ⟨l, m, p, rfl, ea, eb, hn⟩ := xnv_cmp er
  simp only [te] at q
  refine to_wT (pt_cmpR (op_cmp (cl := cl) (by have := g.un; omega)) pe_w pe_w (no_marks hn)) ?_
  refine lk2 ha hb g ea eb tk r q fun v w x y e F2 H2 A2 f1 f2 q2 x2 rs2 rp1 rp2 => ?_
  obtain ⟨k, hk, q2⟩ := q2.of
  exact ⟨F2, x, y, f1, f2, k, rp1, rp2, hk, k, rfl, (show tkP X.K cl fx F L H A σ Q k e from q2) F2 A2 H2 x2 rs2⟩
theorem ev_un {op : UnaryOp} {a : Ex} (ha : EV G cl a) : EV G cl (.un op a) := by
  intro X fx sc x g er W tk F L H σ env A r Q q
  obtain ⟨l, p, rfl, ho, ea⟩ := xnv_un er
  simp only [ev] at q
  refine to_wE (pe_un (un_op (cl := cl)) pe_w) ?_
  refine lk_of ha X fx sc l g ea W tk F L H σ env A r true _ (q.bind (fun x e1 q1 => ?_) fun c ds e1 q1 => q1)
  intro v F1 A1 H1 f1 x1 rs1 rp1 _ _
  obtain ⟨d, hd, q1⟩ := RQ.of q1
  exact ⟨F1, x, f1, d, rp1, hd, fun w r2 => (okP.ext (show okP X.K cl fx F L H A σ Q d e1 from q1) x1).val rs1 r2⟩
theorem ev_nt {a : Ex} (ha : EV G cl a) : EV G cl (.nt a) := by
  intro X fx sc x g er W tk F L H σ env A r Q q
  obtain ⟨l, p, rfl, ea⟩ := xnv_nt er
  simp only [ev] at q
  refine to_wE (pe_notT pe_w) ?_
  refine lk_of ha X fx sc l g ea W tk F L H σ env A r true _ (q.bind (fun x e1 q1 => ?_) fun c ds e1 q1 => q1)
  intro v F1 A1 H1 f1 x1 rs1 rp1 _ _
  obtain ⟨d, hd, q1⟩ := RQ.of q1
  simp only [Option.map_eq_some_iff] at hd
  obtain ⟨k, hk, rfl⟩ := hd
  exact ⟨k, rp1.tru hk, (okP.ext (show okP X.K cl fx F L H A σ Q _ e1 from q1) x1).val rs1 (v := .bl _) (by simp only [Rp])⟩
theorem te_nt {a : Ex} (ha : TK G cl a) : TK G cl (.nt a) := by
  intro X fx sc x g er W tk F L H σ env A r Q q
  obtain ⟨l, p, rfl, ea⟩ := xnv_nt er
  simp only [te] at q
  refine to_wT (pt_not pt_w) ?_
  exact ha X fx sc l g ea W tk F L H σ env A r _ (q.bind (fun k e1 q1 => q1) fun c ds e1 q1 => q1)
theorem ev_ite {c a b : Ex} (hc : TK G cl c) (ha : EV G cl a) (hb : EV G cl b) : EV G cl (.ite c a b) := by
  intro X fx sc x g er W tk F L H σ env A r Q q
  obtain ⟨t, l, m, p, rfl, ec, ea, eb⟩ := xnv_ite er
  simp only [ev] at q
  refine to_wE (pe_ifExp pt_w pe_w pe_w) ?_
  refine hc X fx sc t g ec W tk F L H σ env A r _ (q.bind (fun k e1 q1 => ?_) fun c ds e1 q1 => q1)
  intro F1 A1 H1 x1 rs1
  cases k with
  | true => exact iteT (ha X fx sc l g ea W tk F1 L H1 σ e1 A1 rs1 Q (RQ.mono q1 (fun d e q => okP.ext q x1) fun c ds e q => exP.ext q x1))
  | false => exact iteF (hb X fx sc m g eb W tk F1 L H1 σ e1 A1 rs1 Q (RQ.mono q1 (fun d e q => okP.ext q x1) fun c ds e q => exP.ext q x1))
theorem te_ite {c a b : Ex} (hc : TK G cl c) (ha : TK G cl a) (hb : TK G cl b) : TK G cl (.ite c a b) := by
  intro X fx sc x g er W tk F L H σ env A r Q q
  obtain ⟨t, l, m, p, rfl, ec, ea, eb⟩ := xnv_ite er
  simp only [te] at q
  refine to_wT (pt_ite pt_w pt_w pt_w) ?_
  refine hc X fx sc t g ec W tk F L H σ env A r _ (q.bind (fun k e1 q1 => ?_) fun c ds e1 q1 => q1)
  intro F1 A1 H1 x1 rs1
  cases k with
  | true => exact iteT (ha X fx sc l g ea W tk F1 L H1 σ e1 A1 rs1 Q (RQ.mono q1 (fun d e q => tkP.ext q x1) fun c ds e q => exP.ext q x1))
  | false => exact iteF (hb X fx sc m g eb W tk F1 L H1 σ e1 A1 rs1 Q (RQ.mono q1 (fun d e q => tkP.ext q x1) fun c ds e q => exP.ext q x1))
theorem ev_idx {a b : Ex} (ha : EV G cl a) (hb : EV G cl b) : EV G cl (.idx a b) := by
  intro X fx sc x g er W tk F L H σ env A r Q q
  obtain ⟨l, m, p, rfl, ea, eb, hs⟩ := xnv_idx er
  simp only [ev] at q
  refine to_wE (pe_ix (ix_idx (cl := cl)) pe_w pe_w (plain_ix hs)) ?_
  refine ha X fx sc l g ea W tk F L H σ env A r _ (q.bind (fun x e1 q1 => ?_) fun c ds e1 q1 => q1)
  intro v F1 A1 H1 f1 x1 rs1 rp1 t1 fr1
  refine lk_of hb X fx sc m g eb W tk F1 L H1 σ e1 A1 rs1 true _ (RQ.bind q1 (fun y e2 q2 => ?_) fun c ds e1 q1 => exP.ext q1 x1)
  intro w F2 A2 H2 f2 x2 rs2 rp2 _ g2
  obtain ⟨d, hd, q2⟩ := RQ.of q2
  refine ⟨F2, x, y, f1, f2, d, rp1.kp (rs1.kpT x2 t1), rp2, hd, fun z rz => ?_⟩
  exact (show okP X.K cl fx F L H A σ Q d e2 from q2) z F2 A2 H2 f1 (x1.trans x2) rs2 rz (t1.ext x2) fr1
theorem ev_slc {a : Ex} {lo hi : Option Qx} (ha : EV G cl a) : EV G cl (.slc a lo hi) := by
  intro X fx sc x g er W tk F L H σ env A r Q q
  obtain ⟨l, s, t, p, p', rfl, ea, el, eh⟩ := xnv_slc er
  simp only [ev] at q
  refine to_wE (pe_slice (sl_slc (cl := cl)) pe_w po_w po_w) ?_
  refine lk_of ha X fx sc l g ea W tk F L H σ env A r true _ (q.bind (fun x e1 q1 => ?_) fun c ds e1 q1 => q1)
  intro v F1 A1 H1 f1 x1 rs1 rp1 _ _
  split at q1
  · rename_i i j hi hj
    split at q1
    · rename_i d hd
      split at q1
      · refine qo_ok g lo s el rs1 hi fun F2 H2 g2 => ?_
        refine qo_ok g _ t eh (rs1.gr g2) hj fun F3 H3 g3 => ?_
        exact ⟨F3, x, f1, d, ((rs1.gr g2).gr g3).fd, (rp1.kp g2.kp).kp g3.kp, hd, ((okP.ext (show okP X.K cl fx F L H A σ Q d e1 from q1) x1).ext (g2.trans g3).ext).op ((rs1.gr g2).gr g3)⟩
      · exact q1.elim
    · exact q1.elim
  · exact q1.elim
end
end Wv

set_option Elab.async false
set_option linter.all false
set_option maxRecDepth 100000
/-! Wv10: more kinds of expressions with effects. -/
namespace Wv
open PySem PySem.Spec PyProof.Rows L2
section
variable {G : Cfg} {cl : String → Addr} {X : Cx} {fx : Fx} {sc : Scope}
theorem attr_gen (g : Good G cl fx sc X) {l : Expr} {f : String} {p : Pos} (hn : ncl l = true) {H : Hp} {σ : L2.St} {Q : VK}
    (h : wE X l σ H fun v H' => ∃ da d F' fp, attrD G da f = some d ∧ Rp X.K cl F' H' da v fp ∧ ∀ w, Rp X.K cl F' H' d w fp → Q w H') : wE X (.Attribute l (Str.ofString f) p) σ H Q := by
  intro pins s I
  refine attr_of (attr_base hn) (thn (h pins s I) fun u s1 ⟨v, H1, I1, ru, da, d, F1, f1, hd, r1, q⟩ => ?_)
  cases da with
  | obj t c ns ds =>
    simp only [attrD] at hd
    split at hd
    · rename_i hf
      simp only [Bool.and_eq_true] at hf
      have hc : c ∈ G.pl := by simpa using hf.1
      replace hf := hf.2
      obtain ⟨a', dx, vs, g', rfl, e1, e2, e3, e4⟩ : ∃ a' dx vs g', v = .ref a' ∧ H1 a' = some (.ins (cl c) dx ((ns.map Str.ofString).zip vs)) ∧ ns.length = ds.length ∧ Rps X.K cl F1 H1 ds vs g' ∧ (∀ b, g' b → f1 b) := by
        cases t with
        | own =>
          simp only [Rp] at r1
          obtain ⟨a', dx, vs, g', rfl, e1, e2, _, _, e5, e6⟩ := r1
          exact ⟨a', dx, vs, g', rfl, e1, e2, e6, e5⟩
        | fro =>
          simp only [Rp] at r1
          obtain ⟨a', dx, vs, rfl, _, e1, e2, e6⟩ := r1
          exact ⟨a', dx, vs, _, rfl, e1, e2, e6, fun _ z => z.elim⟩
        | scr => simp only [Rp] at r1
      obtain ⟨w, k1, k2⟩ := fld_get e3 e2 hd
      cases ru
      exact getattr_ok I1 e1 (g.kf.obj c hc).1 (g.kf.noat c f hf hc) k1 fun u' s2 I2 ru' => ⟨w, H1, I2, ru', q w (k2.mono e4)⟩
    · cases hd
  | _ => cases hd
theorem isi_gen (g : Good G cl fx sc X) {q0 p : Pos} {e t : Expr} {cs : List String} (h1 : glB sc (Str.ofString "isinstance") = true) (h2 : okName (Str.ofString "isinstance") = true) (he : nst e = true) (hc : clssOk G cs = true) (ht : (∃ ts k p, t = .Tuple ts k p ∧ nmsB sc cs ts = true) ∨ nmsB sc cs [t] = true)
    {H : Hp} {σ : L2.St} {Q : VK} (h : wE X e σ H fun v H1 => ∃ F1 k, (∀ F2 H2, Gr F1 H1 F2 H2 → KVs X cl v H2 cs k) ∧ ∀ F2 H2, Gr F1 H1 F2 H2 → Q (.bl k) H2) :
    wE X (.Call (.Name (Str.ofString "isinstance") q0) [e, t] [] p) σ H Q := by
  obtain ⟨hn, hl, hc⟩ := clssOk_ok hc
  obtain ⟨k1, k2, k3⟩ := okName_ok h2
  have hm := g.kf.bi "isinstance" (by decide)
  have hb : bootBuiltins (Str.ofString "isinstance") = some (.builtin "isinstance") := by decide +kernel
  have mono : ∀ {Q1 Q2 : VK}, (∀ v H, Q1 v H → Q2 v H) → wE X e σ H Q1 → wE X e σ H Q2 := fun hq w pins s I => thn (w pins s I) fun u s1 ⟨v, H1, I1, ru, z⟩ => ⟨v, H1, I1, ru, hq _ _ z⟩
  rcases ht with ⟨ts, kk, pp, rfl, ht⟩ | ht
  · obtain ⟨vs, pa, pc, pl⟩ := clss_pa g ht hc
    refine to_wE (pe_callB (call_isT (cl := cl) (cs := cs)) (glB_ok g.scq h1) hm hb (pa_cons pe_w (pa_cons (pe_tup pa) pa_nil rfl) (star_cons he)) k3 k1 (star_cons he) (backTo_any _ _ [_] rfl)) ?_
    refine mono (fun v H1 ⟨F1, k, kv, q⟩ => ?_) h
    refine ⟨by rw [pl]; have := sizeLine_big; omega, fun p hp => ?_⟩
    exact ⟨v, p, vs, k, rfl, kv F1 _ (Gr.alloc0 hp), upd_same, pc, q F1 _ (Gr.alloc0 hp)⟩
  · obtain ⟨c, rfl⟩ : ∃ c, cs = [c] := by
      match cs, ht with
      | [c], _ => exact ⟨c, rfl⟩
      | [], ht => simp [nmsB] at ht
      | _ :: _ :: _, ht => simp [nmsB] at ht
    simp only [nmsB, Bool.and_true] at ht
    simp only [List.all_cons, List.all_nil, Bool.and_true] at hc
    obtain ⟨w, pw, cw, sw⟩ := cls_pe g ht hc
    refine to_wE (pe_callB (call_is1 (cl := cl) (c := c)) (glB_ok g.scq h1) hm hb (pa_cons pe_w (pa_cons pw pa_nil (star_cons sw)) (star_cons he)) k3 k1 (star_cons he) (backTo_any _ _ [_] (by simp [nsts, sw]))) ?_
    refine mono (fun v H1 ⟨F1, k, kv, q⟩ => ?_) h
    exact ⟨v, w, k, rfl, kv _ _ Gr.refl, cw, q _ _ Gr.refl⟩
end
section
variable {G : Cfg} {cl : String → Addr}
theorem ev_attr {a : Ex} {f : String} (ha : EV G cl a) : EV G cl (.attr a f) := by
  intro X fx sc x g er W tk F L H σ env A r Q q
  obtain ⟨l, p, rfl, ea, hn⟩ := xnv_attr er
  simp only [ev] at q
  refine attr_gen g hn (ha X fx sc l g ea W tk F L H σ env A r _ (q.bind (fun d e1 q1 => ?_) fun c ds e1 q1 => q1))
  intro v F1 A1 H1 f1 x1 rs1 rp1 t1 fr1
  obtain ⟨d', hd, q1⟩ := RQ.of q1
  exact ⟨d, d', F1, f1, hd, rp1, fun w rw' => (show okP X.K cl fx F L H A σ Q d' e1 from q1) w F1 A1 H1 f1 x1 rs1 rw' t1 fr1⟩
theorem ev_isi {a : Ex} {cs : List String} (ha : EV G cl a) : EV G cl (.isi a cs) := by
  intro X fx sc x g er W tk F L H σ env A r Q q
  obtain ⟨q0, e, t, p, rfl, h1, h2, ⟨hne, ea⟩, hc, ht⟩ := xnv_isi er
  simp only [ev] at q
  refine isi_gen g h1 h2 hne hc ht (lk_of ha X fx sc e g ea W tk F L H σ env A r true _ (q.bind (fun d e1 q1 => ?_) fun c ds e1 q1 => q1))
  intro v F1 A1 H1 f1 x1 rs1 rp1 _ _
  obtain ⟨d', hd, q1⟩ := RQ.of q1
  simp only [Option.map_eq_some_iff] at hd
  obtain ⟨k, hk, rfl⟩ := hd
  exact ⟨F1, k, fun F2 H2 g2 => kvs_of g (clssOk_ok hc).1 (clssOk_ok hc).2.2 (rp1.kp g2.kp) hk, fun F2 H2 g2 => (show okP X.K cl fx F L H A σ Q _ e1 from q1) (.bl k) F2 A1 H2 E0s (x1.trans g2.ext) (rs1.gr g2) (by simp only [Rp]) Tp.e0 Fr.e0⟩
/-! ### lists of expressions -/
theorem evs_nil : EVs G cl [] := by
  intro X fx sc xs g er W tk F L H σ env A r Q q
  cases xs with
  | nil =>
    simp only [evs] at q
    exact to_wA pa_nil ((show okPs X.K cl fx F L H A σ Q [] env from q) [] F A H E0s Ext.refl r (by simp only [Rps]) Tp.e0 Fr.e0)
  | cons x xs => simp [erEs] at er
theorem evs_cons {e : Ex} {es : List Ex} (he : EV G cl e) (hs : EVs G cl es) : EVs G cl (e :: es) := by
  intro X fx sc xs g er W tk F L H σ env A r Q q
  cases xs with
  | nil => simp [erEs] at er
  | cons x xs =>
    simp only [erEs, Bool.and_eq_true] at er
    simp only [evs] at q
    refine to_wA (pa_cons pe_w pa_w (star_cons er.1.1)) ?_
    refine he X fx sc x g er.1.2 W tk F L H σ env A r _ (q.bind (fun d e1 q1 => ?_) fun c ds e1 q1 => q1)
    intro v F1 A1 H1 f1 x1 rs1 rp1 t1 fr1
    refine hs X fx sc xs g er.2 W tk F1 L H1 σ e1 A1 rs1 _ (RQ.bind q1 (fun ds e2 q2 => ?_) fun c ds e1 q1 => exP.ext q1 x1)
    intro vs F2 A2 H2 f2 x2 rs2 rp2 t2 fr2
    refine (show okPs X.K cl fx F L H A σ Q (d :: ds) e2 from q2) (v :: vs) F2 A2 H2 (fun a => f1 a ∨ f2 a) (x1.trans x2) rs2 ?_ ((t1.ext x2).un t2) (fr1.un (fr2.ext x1))
    exact Rps.cons (rp1.kp (rs1.kpT x2 t1)) rp2 (t1.apart fr2) (fun a z => .inl z) fun a z => .inr z
theorem lks_nil : LKs G cl [] := by
  intro X fx sc xs g er W tk F L H σ env A r Q q
  cases xs with
  | nil =>
    simp only [lks] at q
    exact to_wA pa_nil ((show lkPs X.K cl fx F L H A σ (quiets []) Q [] env from q) [] F A H E0s Ext.refl r (by simp only [Rws]) fun _ => Gr.refl)
  | cons x xs => simp [erEs] at er
theorem quiets_q {e : Ex} {es : List Ex} {f : Bool} {env : Env} (h : quiets (e :: es) = true) : (isQ e = true ∧ quiets es = true) ∨ lk G e f env = .bad := by
  cases e <;> (try simp [quiets] at h)
  · exact .inl ⟨rfl, h⟩
  · exact .inr (by simp only [lk, ev])
  · exact .inr (by simp only [lk, ev])
theorem lks_cons {e : Ex} {es : List Ex} (he : EV G cl e) (hs : LKs G cl es) : LKs G cl (e :: es) := by
  intro X fx sc xs g er W tk F L H σ env A r Q q
  cases xs with
  | nil => simp [erEs] at er
  | cons x xs =>
    simp only [erEs, Bool.and_eq_true] at er
    simp only [lks] at q
    refine to_wA (pa_cons pe_w pa_w (star_cons er.1.1)) ?_
    have hbad : quiets (e :: es) = true → isQ e = true ∧ quiets es = true := fun h => by
      rcases quiets_q (G := G) (f := quiets es) (env := env) h with h | h
      · exact h
      · rw [h] at q; exact (show False from q).elim
    refine lk_of he X fx sc x g er.1.2 W tk F L H σ env A r (quiets es) _ (q.bind (fun d e1 q1 => ?_) fun c ds e1 q1 => q1)
    intro v F1 A1 H1 f1 x1 rs1 rp1 t1 g1
    refine hs X fx sc xs g er.2 W tk F1 L H1 σ e1 A1 rs1 _ (RQ.bind q1 (fun ds e2 q2 => ?_) fun c ds e1 q1 => exP.ext q1 x1)
    intro vs F2 A2 H2 f2 x2 rs2 rp2 g2
    refine (show lkPs X.K cl fx F L H A σ (quiets (e :: es)) Q (d :: ds) e2 from q2) (v :: vs) F2 A2 H2 (fun a => f1 a ∨ f2 a) (x1.trans x2) rs2 ?_ fun h => (g1 (hbad h).1).trans (g2 (hbad h).2)
    simp only [Rws]
    refine ⟨v, vs, rfl, Rp.mono ?_ fun _ z => .inl z, rp2.mono fun _ z => .inr z⟩
    cases hq : quiets es with
    | true => exact rp1.kp (g2 hq).kp
    | false => exact rp1.kp (rs1.kpT x2 (t1 hq).1)
theorem ev_tup {es : List Ex} (hs : EVs G cl es) : EV G cl (.tup es) := by
  intro X fx sc x g er W tk F L H σ env A r Q q
  obtain ⟨vs, k, p, rfl, ea⟩ := xnv_tup er
  simp only [ev] at q
  refine to_wE (pe_tup pa_w) (hs X fx sc vs g ea W tk F L H σ env A r _ (q.bind (fun ds e1 q1 => ?_) fun c ds e1 q1 => q1))
  intro ws F1 A1 H1 f1 x1 rs1 rp1 t1 fr1
  split at q1
  · rename_i hf
    refine ⟨by rw [← rp1.length]; exact fits_le hf, fun p hp => ?_⟩
    have g2 : Gr F1 H1 F1 (upd H1 p (.tup ws)) := Gr.alloc0 hp
    refine (show okP X.K cl fx F L H A σ Q (.tup ds) e1 from q1) (.ref p) F1 A1 _ f1 (x1.trans g2.ext) (rs1.gr g2) ?_ (t1.ext g2.ext) fr1
    simp only [Rp]
    exact ⟨p, ws, rfl, .inl (.inl upd_same), rp1.kp g2.kp⟩
  · exact q1.elim
theorem ev_lst {es : List Ex} (hs : EVs G cl es) : EV G cl (.lst es) := by
  intro X fx sc x g er W tk F L H σ env A r Q q
  obtain ⟨vs, p, rfl, ea⟩ := xnv_lst er
  simp only [ev] at q
  refine to_wE (pe_lst pa_w) (hs X fx sc vs g ea W tk F L H σ env A r _ (q.bind (fun ds e1 q1 => ?_) fun c ds e1 q1 => q1))
  intro ws F1 A1 H1 f1 x1 rs1 rp1 t1 fr1
  split at q1
  · rename_i hf
    refine ⟨by rw [← rp1.length]; exact fits_le hf, fun p hp => ?_⟩
    have g2 : Gr F1 H1 F1 (upd H1 p (.lst ws)) := Gr.alloc0 hp
    have nf : ¬ f1 p := fun z => Mut.some (t1 p z).2.2.2 hp
    refine (show okP X.K cl fx F L H A σ Q (.lst .own ds) e1 from q1) (.ref p) F1 A1 _ (fun a => f1 a ∨ a = p) (x1.trans g2.ext) (rs1.gr g2) ?_ (fun a z => ?_) fun a z => ?_
    · simp only [Rp]
      exact ⟨p, ws, f1, rfl, upd_same, .inr rfl, nf, fun _ z => .inl z, rp1.kp g2.kp⟩
    · rcases z with z | rfl
      · exact t1.ext g2.ext a z
      · exact ⟨fun z => rs1.dom _ (.inl z) hp, fun z => rs1.dom _ (.inr z) hp, fun ⟨i, z⟩ => Mut.some (rs1.own i _ z).2.2 hp, by rw [upd_same]; exact trivial⟩
    · rcases z with z | rfl
      · exact fr1 a z
      · exact .inl (x1.live _ hp)
  · exact q1.elim
theorem ev_bi {f : String} {es : List Ex} (hs : LKs G cl es) : EV G cl (.bi f es) := by
  intro X fx sc x g er W tk F L H σ env A r Q q
  obtain ⟨p', y, ys, p, rfl, h1, h2, h3, ea⟩ := xnv_bi er
  simp only [ev] at q
  split at q
  · exact q.elim
  · rename_i hh
    refine bi_call g h3 (by simpa using hh) h1 h2 (erEs_nsts _ _ ea) ?_
    refine hs X fx sc (y :: ys) g ea W tk F L H σ env A r _ (RQ.bind q (fun ds e1 q1 => ?_) fun c ds e1 q1 => q1)
    intro ws F1 A1 H1 f1 x1 rs1 rp1 _
    split at q1
    · rename_i d hd
      split at q1
      · exact ⟨F1, ds, f1, d, rs1.fd, rp1, hd, (okP.ext (show okP X.K cl fx F L H A σ Q d e1 from q1) x1).op rs1⟩
      · exact q1.elim
    · exact q1.elim
/-! ### and, or -/
def EVand (es : List Ex) : Prop := ∀ (X : Cx) (fx : Fx) (sc : Scope) (xs : List Expr) (p : Pos), Good G cl fx sc X → erEs G X.N es sc xs = true → ∀ (W : WX), Takes X W → ∀ (F L : Sets) (H : Hp) (σ : L2.St) (env : Env) (A : Nat → Sets), RS X.K cl fx F L H σ env A →
  ∀ Q : VK, RQ (evand G es env) (okP X.K cl fx F L H A σ Q) (exP X.K cl G.fl fx F L H A σ W) → wE X (.BoolOp .And xs p) σ H Q
def EVor (es : List Ex) : Prop := ∀ (X : Cx) (fx : Fx) (sc : Scope) (xs : List Expr) (p : Pos), Good G cl fx sc X → erEs G X.N es sc xs = true → ∀ (W : WX), Takes X W → ∀ (F L : Sets) (H : Hp) (σ : L2.St) (env : Env) (A : Nat → Sets), RS X.K cl fx F L H σ env A →
  ∀ Q : VK, RQ (evor G es env) (okP X.K cl fx F L H A σ Q) (exP X.K cl G.fl fx F L H A σ W) → wE X (.BoolOp .Or xs p) σ H Q
def TEand (es : List Ex) : Prop := ∀ (X : Cx) (fx : Fx) (sc : Scope) (xs : List Expr) (p : Pos), Good G cl fx sc X → erEs G X.N es sc xs = true → ∀ (W : WX), Takes X W → ∀ (F L : Sets) (H : Hp) (σ : L2.St) (env : Env) (A : Nat → Sets), RS X.K cl fx F L H σ env A →
  ∀ Q : Bool → Hp → Prop, RQ (teand G es env) (tkP X.K cl fx F L H A σ Q) (exP X.K cl G.fl fx F L H A σ W) → wW X (.BoolOp .And xs p) σ H Q
def TEor (es : List Ex) : Prop := ∀ (X : Cx) (fx : Fx) (sc : Scope) (xs : List Expr) (p : Pos), Good G cl fx sc X → erEs G X.N es sc xs = true → ∀ (W : WX), Takes X W → ∀ (F L : Sets) (H : Hp) (σ : L2.St) (env : Env) (A : Nat → Sets), RS X.K cl fx F L H σ env A →
  ∀ Q : Bool → Hp → Prop, RQ (teor G es env) (tkP X.K cl fx F L H A σ Q) (exP X.K cl G.fl fx F L H A σ W) → wW X (.BoolOp .Or xs p) σ H Q
theorem evand_one {e : Ex} (he : EV G cl e) : EVand (G := G) (cl := cl) [e] := by
  intro X fx sc xs p g er W tk F L H σ env A r Q q
  match xs, er with
  | [x], er =>
    simp only [erEs, Bool.and_eq_true, Bool.and_true] at er
    simp only [evand] at q
    exact to_wE (pe_one pe_w) (he X fx sc x g er.2 W tk F L H σ env A r Q q)
  | [], er => simp [erEs] at er
  | _ :: _ :: _, er => simp [erEs] at er
theorem evor_one {e : Ex} (he : EV G cl e) : EVor (G := G) (cl := cl) [e] := by
  intro X fx sc xs p g er W tk F L H σ env A r Q q
  match xs, er with
  | [x], er =>
    simp only [erEs, Bool.and_eq_true, Bool.and_true] at er
    simp only [evor] at q
    exact to_wE (pe_one pe_w) (he X fx sc x g er.2 W tk F L H σ env A r Q q)
  | [], er => simp [erEs] at er
  | _ :: _ :: _, er => simp [erEs] at er
theorem evand_cons {e e2 : Ex} {es : List Ex} (he : EV G cl e) (hs : EVand (G := G) (cl := cl) (e2 :: es)) : EVand (G := G) (cl := cl) (e :: e2 :: es) := by
  intro X fx sc xs p g er W tk F L H σ env A r Q q
  match xs, er with
  | x :: x2 :: xs, er =>
    rw [erEs, Bool.and_eq_true, Bool.and_eq_true] at er
    simp only [evand] at q
    refine to_wE (pe_and pe_w pe_w) ?_
    refine he X fx sc x g er.1.2 W tk F L H σ env A r _ (q.bind (fun d e1 q1 => ?_) fun c ds e1 q1 => q1)
    intro v F1 A1 H1 f1 x1 rs1 rp1 t1 fr1
    split at q1
    · simp only [Rp] at rp1; subst rp1
      exact ⟨true, rfl, iteT (hs X fx sc (x2 :: xs) p g er.2 W tk F1 L H1 σ e1 A1 rs1 Q (RQ.mono q1 (fun d e q => okP.ext q x1) fun c ds e q => exP.ext q x1))⟩
    · simp only [Rp] at rp1; subst rp1
      exact ⟨false, rfl, iteF ((okP.ext (show okP X.K cl fx F L H A σ Q (.bl false) e1 from q1) x1).val rs1 (by simp only [Rp]))⟩
    · exact q1.elim
  | [], er => simp [erEs] at er
  | [_], er => simp [erEs] at er
theorem evor_cons {e e2 : Ex} {es : List Ex} (he : EV G cl e) (hs : EVor (G := G) (cl := cl) (e2 :: es)) : EVor (G := G) (cl := cl) (e :: e2 :: es) := by
  intro X fx sc xs p g er W tk F L H σ env A r Q q
  match xs, er with
  | x :: x2 :: xs, er =>
    rw [erEs, Bool.and_eq_true, Bool.and_eq_true] at er
    simp only [evor] at q
    refine to_wE (pe_or pe_w pe_w) ?_
    refine he X fx sc x g er.1.2 W tk F L H σ env A r _ (q.bind (fun d e1 q1 => ?_) fun c ds e1 q1 => q1)
    intro v F1 A1 H1 f1 x1 rs1 rp1 t1 fr1
    split at q1
    · simp only [Rp] at rp1; subst rp1
      exact ⟨false, rfl, iteF (hs X fx sc (x2 :: xs) p g er.2 W tk F1 L H1 σ e1 A1 rs1 Q (RQ.mono q1 (fun d e q => okP.ext q x1) fun c ds e q => exP.ext q x1))⟩
    · simp only [Rp] at rp1; subst rp1
      exact ⟨true, rfl, iteT ((okP.ext (show okP X.K cl fx F L H A σ Q (.bl true) e1 from q1) x1).val rs1 (by simp only [Rp]))⟩
    · exact q1.elim
  | [], er => simp [erEs] at er
  | [_], er => simp [erEs] at er
theorem teand_one {e : Ex} (he : TK G cl e) : TEand (G := G) (cl := cl) [e] := by
  intro X fx sc xs p g er W tk F L H σ env A r Q q
  match xs, er with
  | [x], er =>
    simp only [erEs, Bool.and_eq_true, Bool.and_true] at er
    simp only [teand] at q
    exact to_wW (pw_and1 pt_w) (he X fx sc x g er.2 W tk F L H σ env A r Q q)
  | [], er => simp [erEs] at er
  | _ :: _ :: _, er => simp [erEs] at er
theorem teor_one {e : Ex} (he : TK G cl e) : TEor (G := G) (cl := cl) [e] := by
  intro X fx sc xs p g er W tk F L H σ env A r Q q
  match xs, er with
  | [x], er =>
    simp only [erEs, Bool.and_eq_true, Bool.and_true] at er
    simp only [teor] at q
    exact to_wW (pw_or1 pt_w) (he X fx sc x g er.2 W tk F L H σ env A r Q q)
  | [], er => simp [erEs] at er
  | _ :: _ :: _, er => simp [erEs] at er
theorem teand_cons {e e2 : Ex} {es : List Ex} (he : TK G cl e) (hs : TEand (G := G) (cl := cl) (e2 :: es)) : TEand (G := G) (cl := cl) (e :: e2 :: es) := by
  intro X fx sc xs p g er W tk F L H σ env A r Q q
  match xs, er with
  | x :: x2 :: xs, er =>
    rw [erEs, Bool.and_eq_true, Bool.and_eq_true] at er
    simp only [teand] at q
    refine to_wW (pw_and pt_w pw_w) ?_
    refine he X fx sc x g er.1.2 W tk F L H σ env A r _ (q.bind (fun k e1 q1 => ?_) fun c ds e1 q1 => q1)
    intro F1 A1 H1 x1 rs1
    cases k with
    | true => exact iteT (hs X fx sc (x2 :: xs) p g er.2 W tk F1 L H1 σ e1 A1 rs1 Q (RQ.mono q1 (fun d e q => tkP.ext q x1) fun c ds e q => exP.ext q x1))
    | false => exact iteF ((show tkP X.K cl fx F L H A σ Q false e1 from q1) F1 A1 H1 x1 rs1)
  | [], er => simp [erEs] at er
  | [_], er => simp [erEs] at er
theorem teor_cons {e e2 : Ex} {es : List Ex} (he : TK G cl e) (hs : TEor (G := G) (cl := cl) (e2 :: es)) : TEor (G := G) (cl := cl) (e :: e2 :: es) := by
  intro X fx sc xs p g er W tk F L H σ env A r Q q
  match xs, er with
  | x :: x2 :: xs, er =>
    rw [erEs, Bool.and_eq_true, Bool.and_eq_true] at er
    simp only [teor] at q
    refine to_wW (pw_or pt_w pw_w) ?_
    refine he X fx sc x g er.1.2 W tk F L H σ env A r _ (q.bind (fun k e1 q1 => ?_) fun c ds e1 q1 => q1)
    intro F1 A1 H1 x1 rs1
    cases k with
    | false => exact iteF (hs X fx sc (x2 :: xs) p g er.2 W tk F1 L H1 σ e1 A1 rs1 Q (RQ.mono q1 (fun d e q => tkP.ext q x1) fun c ds e q => exP.ext q x1))
    | true => exact iteT ((show tkP X.K cl fx F L H A σ Q true e1 from q1) F1 A1 H1 x1 rs1)
  | [], er => simp [erEs] at er
  | [_], er => simp [erEs] at er
/-- any other test -/
theorem te_of {e : Ex} (he : ∀ (N : List Str) (sc : Scope) (x : Expr) (env : PySem.Env), erE G N e sc x = true → ∀ whole, isTrue x env whole = (do let v ← whole; standAt x.pos; holding [v] (truthy v))) (ht : ∀ env, te G e env = (ev G e env).bind fun d e => Res.of (truD d) e) (ih : EV G cl e) : TK G cl e := by
  intro X fx sc x g er W tk F L H σ env A r Q q
  rw [ht] at q
  refine pt_plain (he _ _ _ _ er) (ih X fx sc x g er W tk F L H σ env A r _ (q.bind (fun d e1 q1 => ?_) fun c ds e1 q1 => q1))
  intro v F1 A1 H1 f1 x1 rs1 rp1 t1 fr1
  obtain ⟨k, hk, q1⟩ := RQ.of q1
  exact ⟨k, rp1.tru hk, (show tkP X.K cl fx F L H A σ Q k e1 from q1) F1 A1 H1 x1 rs1⟩
theorem te_q (e : Qx) : TK G cl (.q e) := by
  intro X fx sc x g er W tk F L H σ env A r Q q
  simp only [erE] at er
  simp only [te] at q
  obtain ⟨k, hk, q⟩ := RQ.of q
  exact qt_ok g e x er r hk fun F' H' g1 => (show tkP X.K cl fx F L H A σ Q k env from q) F' A H' g1.ext (r.gr g1)
end
end Wv

set_option Elab.async false
set_option linter.all false
set_option maxRecDepth 100000
/-! Wv11: arguments; calls of the program's own functions. -/
namespace Wv
open PySem PySem.Spec PyProof.Rows L2
/-! ### argument lists, written as nested readings -/
section
variable {X : Cx}
def wAs (X : Cx) : List Expr → TA
  | [] => fun _ H Q => Q [] H
  | x :: xs => fun σ H Q => wE X x σ H fun v H1 => wAs X xs σ H1 fun vs H2 => Q (v :: vs) H2
theorem pa_was : ∀ {xs : List Expr}, nsts xs = true → PA X xs (wAs X xs)
  | [], _ => ⟨fun pos pins s σ H Q I h => pa_nil.run pos pins s σ H Q I h⟩
  | x :: xs, hs => by
    simp only [nsts, Bool.and_eq_true] at hs
    have k := pa_cons (e := x) pe_w (pa_was hs.2) (star_cons hs.1)
    exact ⟨fun pos pins s σ H Q I h => k.run pos pins s σ H Q I h⟩
theorem pk_was : ∀ {kws : List Keyword}, PK X kws (wAs X (kws.map (·.value)))
  | [] => ⟨fun pos pins s σ H Q I h => pk_nil.run pos pins s σ H Q I h⟩
  | ⟨nm, e, p⟩ :: kws => by
    have k := pk_cons (X := X) (nm := nm) (kpos := p) (e := e) pe_w (pk_was (kws := kws))
    exact ⟨fun pos pins s σ H Q I h => k.run pos pins s σ H Q I h⟩
theorem was_mono : ∀ {ys : List Expr} {σ : L2.St} {H : Hp} {Q1 Q2 : List V → Hp → Prop}, (∀ vs H, vs.length = ys.length → Q1 vs H → Q2 vs H) → wAs X ys σ H Q1 → wAs X ys σ H Q2
  | [], _, _, _, _, hq, w => hq _ _ rfl w
  | _ :: _, _, _, _, _, hq, w => fun pins s I => thn (w pins s I) fun _ _ ⟨v, H1, I1, r, z⟩ => ⟨v, H1, I1, r, was_mono (fun vs H e => hq _ _ (by simp [e])) z⟩
theorem was_app : ∀ {xs zs : List Expr} {σ : L2.St} {H : Hp} {Q : List V → Hp → Prop}, wAs X (xs ++ zs) σ H Q → wAs X xs σ H fun vs H1 => vs.length = xs.length ∧ wAs X zs σ H1 fun ws H2 => ws.length = zs.length ∧ Q (vs ++ ws) H2
  | [], _, _, _, _, h => ⟨rfl, was_mono (fun _ _ e q => ⟨e, q⟩) h⟩
  | _ :: _, _, _, _, _, h => fun pins s I => thn (h pins s I) fun _ _ ⟨v, H1, I1, r, z⟩ => ⟨v, H1, I1, r, was_mono (fun _ _ _ ⟨e, w⟩ => ⟨by simp [e], w⟩) (was_app z)⟩
theorem kw_all (pos : Pos) (env : PySem.Env) : ∀ {ks : List String} {kws : List Keyword}, kwOk ks kws = true → (backToKw pos (keywordEach kws env)).all (·.1.isSome) = true ∧ (backToKw pos (keywordEach kws env)).filterMap (·.1) = ks.map Str.ofString ∧ (backToKw pos (keywordEach kws env)).any (·.1.isNone) = false ∧ kws.length = ks.length
  | [], [], _ => ⟨rfl, rfl, rfl, rfl⟩
  | [], _ :: _, h => by simp [kwOk] at h
  | _ :: _, [], h => by simp [kwOk] at h
  | k :: ks, ⟨a, v, p⟩ :: kws, h => by
    simp only [kwOk, List.map_cons, beq_iff_eq, List.cons.injEq] at h
    obtain ⟨h1, h2, h3, h4⟩ := kw_all pos env (ks := ks) (kws := kws) (by simp only [kwOk, beq_iff_eq]; exact h.2)
    have ha : a = some (Str.ofString k) := h.1
    subst ha
    refine ⟨?_, ?_, ?_, by simp [h4]⟩
    · show (true && (backToKw pos (keywordEach kws env)).all (·.1.isSome)) = true
      rw [h1]; rfl
    · show Str.ofString k :: (backToKw pos (keywordEach kws env)).filterMap (·.1) = _
      rw [h2]; rfl
    · show (false || (backToKw pos (keywordEach kws env)).any (·.1.isNone)) = false
      rw [h3]; rfl
/-- a called value that keeps: the arguments, the keywords, the call -/
theorem cw_ok {fv : Value} (hk : PySem.W.keepIn X.K fv = true) {ys : List Expr} {kws : List Keyword} {ks : List String} {pos : Pos} (hs : nsts ys = true) (hkw : kwOk ks kws = true) {σ : L2.St} {H : Hp} {Q : VK}
    (h : wAs X (ys ++ kws.map (·.value)) σ H fun vs H1 => ∀ pins s us ws, Inv X pins σ H1 s → Vals vs (us ++ ws) → us.length = ys.length → ws.length = ks.length → wpAny (model X.prog X.w) X.A (call fv us ((ks.map Str.ofString).zip ws)) (EP X pins σ Q) X.xe s)
    {pins : List (Addr × Obj)} {s : Shared} (I : Inv X pins σ H s) : wpAny (model X.prog X.w) X.A (callWith pos fv [] (backTo pos (starEach ys X.env)) (backToKw pos (keywordEach kws X.env))) (EP X pins σ Q) X.xe s := by
  obtain ⟨k1, k2, k3, k4⟩ := kw_all pos X.env hkw
  have h' := was_app h
  have hp := backTo_any pos X.env ys hs
  match ys, kws, hs, h', k1, k2, k3, k4, hp with
  | [], [], hs, h', k1, k2, k3, k4, hp =>
    refine PySem.W.callWith_K0 I.kIn hk ?_
    have e : ks = [] := List.eq_nil_of_length_eq_zero k4.symm
    subst e
    exact h'.2.2 pins s [] [] I .nil rfl rfl
  | y :: ys, [], hs, h', k1, k2, k3, k4, hp =>
    have e : ks = [] := List.eq_nil_of_length_eq_zero k4.symm
    subst e
    have hs' : nst y = true ∧ nsts ys = true := by simpa [nsts] using hs
    refine PySem.W.callWith_K (h₀ := X.base) I.ok.mod.kin hk (thn ((pa_was hs).run pos pins s σ H _ I h') fun us s1 ⟨vs, H1, I1, r, q⟩ => ⟨I1.kIn, ?_⟩) (star_cons hs'.1) (backTo_any _ _ _ hs'.2)
    exact q.2.2 pins s1 us [] I1 (by rw [List.append_nil, List.append_nil]; exact r) (by rw [← r.length, q.1]) rfl
  | [], kw :: kws, hs, h', k1, k2, k3, k4, hp =>
    refine PySem.W.callWith_KW0 (h₀ := X.base) I.ok.mod.kin hk k1 ?_ (by rw [k3]; rfl)
    refine thn (pk_was.run pos pins s σ H _ I h'.2) fun ws s2 ⟨zs, H2, I2, rz, q⟩ => ⟨I2.kIn, ?_⟩
    rw [k2]
    exact q.2 pins s2 [] ws I2 rz rfl (by rw [← rz.length, q.1, List.length_map, k4])
  | y :: ys, kw :: kws, hs, h', k1, k2, k3, k4, hp =>
    have hs' : nst y = true ∧ nsts ys = true := by simpa [nsts] using hs
    refine PySem.W.callWith_KW (h₀ := X.base) I.ok.mod.kin hk k1 (thn ((pa_was hs).run pos pins s σ H _ I h') fun us s1 ⟨vs, H1, I1, r, q⟩ => ?_) (by rw [hp, k3]; rfl) (star_cons hs'.1)
    refine thn (pk_was.run pos pins s1 σ H1 _ I1 q.2) fun ws s2 ⟨zs, H2, I2, rz, q2⟩ => ⟨I2.kIn, ?_⟩
    rw [k2]
    exact q2.2 pins s2 us ws I2 (r.append rz) (by rw [← r.length, q.1]) (by rw [← rz.length, q2.1, List.length_map, k4])
end

section
variable {X : Cx}
/-- a def runs: what it lets out is wished for at the slots -/
theorem run_any {k : Nat} {f : Addr} {fd : FuncData} {ps : List Str} {sp : Sp} {E : XK} {pins : List (Addr × Obj)} {σ : L2.St} {H : Hp} {s : Shared} {Q : VK} {us zs : List Value} {kw : List (Str × Value)} {vs : List V} (F : FnOk X.prog X.w X.K X.mg X.base (L2.CX X.prog X.w) k f fd ps sp) (hr : Room k X.A)
    (b : BindsTo s fd ⟨us, kw⟩ (ps.zip zs)) (hx : PassesAt (L2.CX X.prog X.w) X σ E) (I : Inv X pins σ H s) (r : Vals vs zs) (h : sp vs H Q E) : wpAny (model X.prog X.w) X.A (call (.ref f) us kw) (EP X pins σ Q) X.xe s := by
  have w := F.run X.A X.stack s H ⟨us, kw⟩ zs vs Q E hr I.env0 b r h
  refine wpAny_call (codeAny_mono w fun res s' z => ?_)
  match res, z with
  | .error e, z => exact hx pins H s e s' I z
  | .ok (.ret u), z => exact I.after z
  | .ok .next, z => exact z.elim
  | .ok .brk, z => exact z.elim
  | .ok .cont, z => exact z.elim
end
/-! ### arguments lent -/
def aP (K : PySem.W.Frag) (cl : String → Addr) (fx : Fx) (F L : Sets) (H : Hp) (A : Nat → Sets) (σ : L2.St) (ms : List Nat) (qu : Bool) (Q : List V → Hp → Prop) (ss : List Slot) (e : Env) : Prop := ∀ vs ds F' A' H' fp, ss = ds.map Slot.br → Ext F H A F' H' A' → RS K cl fx F' L H' σ e A' → Rws K cl F' H' ds vs fp → (∀ a, fp a → ∀ m ∈ ms, ¬ A' m a) → (qu = true → Gr F H F' H') → Q vs H'
section
variable (G : Cfg) (cl : String → Addr)
def EAs (es : List Ex) : Prop := ∀ (X : Cx) (fx : Fx) (sc : Scope) (xs : List Expr), Good G cl fx sc X → erEs G X.N es sc xs = true → allQ es = true → ∀ (W : WX), Takes X W → ∀ (F L : Sets) (H : Hp) (σ : L2.St) (env : Env) (A : Nat → Sets), RS X.K cl fx F L H σ env A →
  ∀ (ms : List Nat) (Q : List V → Hp → Prop), RQ (evA G ms es env) (aP X.K cl fx F L H A σ ms (ms.isEmpty && quiets es) Q) (exP X.K cl G.fl fx F L H A σ W) → wAs X xs σ H Q
end
section
variable {G : Cfg} {cl : String → Addr}
theorem RS.val {K : PySem.W.Frag} {fx : Fx} {F L : Sets} {H : Hp} {σ : L2.St} {env : Env} {A : Nat → Sets} (r : RS K cl fx F L H σ env A) {i : Nat} {d : D} (h : getS env i = some d) : ∃ v f, σ[i]? = some (some v) ∧ Rp K cl F H d v f ∧ ∀ a, f a → A i a ∨ L a := by
  simp only [getS] at h
  split at h
  · rename_i e; cases h
    obtain ⟨v, h1, h2⟩ := r.me i d e
    exact ⟨v, A i, h1, h2, fun _ z => .inl z⟩
  · rename_i e; cases h
    obtain ⟨v, h1, h2, _⟩ := r.mp i d e
    exact ⟨v, A i, h1, h2, fun _ z => .inl z⟩
  · rename_i e; cases h
    obtain ⟨v, f, h1, h2, h3⟩ := r.vwL i d e
    exact ⟨v, f, h1, h2, fun _ z => .inr (h3 _ z)⟩
  · rename_i e; cases h
    obtain ⟨v, f, h1, h2, h3, _⟩ := r.lkL i d e
    exact ⟨v, f, h1, h2, fun _ z => .inr (h3 _ z)⟩
  · cases h
theorem evA_ev {e : Ex} {r : List Ex} {ms : List Nat} {env : Env} (h : quiets [e] = false) : evA G ms (e :: r) env = (ev G e env).bind fun d e => (evA G ms r e).bind fun ss e => .ok (.br d :: ss) e := by
  cases e <;> first | (simp [quiets] at h; done) | simp only [evA]
theorem ea_nil : EAs G cl [] := by
  intro X fx sc xs g er _ W tk F L H σ env A r ms Q q
  cases xs with
  | nil =>
    simp only [evA] at q
    exact (show aP X.K cl fx F L H A σ ms (ms.isEmpty && quiets []) Q [] env from q) [] [] F A H E0s rfl Ext.refl r (by simp only [Rws]) (fun _ z => z.elim) fun _ => Gr.refl
  | cons x xs => simp [erEs] at er
theorem ea_cons {e : Ex} {es : List Ex} (he : EV G cl e) (hs : EAs G cl es) : EAs G cl (e :: es) := by
  intro X fx sc xs g er hq W tk F L H σ env A r ms Q q
  match xs, er with
  | [], er => simp [erEs] at er
  | x :: xs, er =>
    simp only [erEs, Bool.and_eq_true] at er
    by_cases hqq : quiets [e] = true
    · cases e with
      | q e =>
        simp only [allQ] at hq
        simp only [evA] at q
        split at q
        · rename_i d hd
          split at q
          · rename_i hst
            have er1 := er.1.2
            simp only [erE] at er1
            refine qv_ok g e x er1 r hd fun v F1 H1 f1 g1 rp1 _ => ?_
            refine hs X fx sc xs g er.2 hq W tk F1 L H1 σ env A (r.gr g1) ms _ (RQ.bind q (fun ss e2 q2 => ?_) fun c ds e1 q1 => exP.ext q1 g1.ext)
            intro vs ds F2 A2 H2 f2 hss x2 rs2 rp2 n2 g2
            by_cases st : d.stb = true
            · refine (show aP X.K cl fx F L H A σ ms (ms.isEmpty && quiets (.q e :: es)) Q (.br d :: ss) e2 from q2) (v :: vs) (d :: ds) F2 A2 H2 f2 (by simp [hss]) (g1.ext.trans x2) rs2 ?_ n2 fun h => g1.trans (g2 (by simpa [quiets] using h))
              simp only [Rws]
              exact ⟨v, vs, rfl, ((rp1.stb (g := E0s) st).kp ((r.gr g1).kpT x2 Tp.e0)).mono fun _ z => z.elim, rp2⟩
            · have st' : ms.isEmpty = true ∧ quiets es = true := by
                simp only [Bool.or_eq_true, Bool.and_eq_true] at hst
                rcases hst with h | h
                · exact absurd h st
                · exact h
              have hm : ms = [] := by simpa using st'.1
              refine (show aP X.K cl fx F L H A σ ms (ms.isEmpty && quiets (.q e :: es)) Q (.br d :: ss) e2 from q2) (v :: vs) (d :: ds) F2 A2 H2 (fun a => f1 a ∨ f2 a) (by simp [hss]) (g1.ext.trans x2) rs2 ?_ (fun _ _ m hmm => by rw [hm] at hmm; cases hmm) fun h => g1.trans (g2 (by simpa [quiets] using h))
              simp only [Rws]
              exact ⟨v, vs, rfl, (rp1.kp (g2 (by simpa using st')).kp).mono fun _ z => .inl z, rp2.mono fun _ z => .inr z⟩
          · exact q.elim
        · exact q.elim
      | brv i =>
        simp only [allQ] at hq
        have er1 := er.1.2
        simp only [erE] at er1
        obtain ⟨n, p, rfl, h1, h2, h3⟩ := inv_var er1
        obtain ⟨k1, k2, k3⟩ := okName_ok h3
        simp only [evA] at q
        split at q
        · exact q.elim
        · rename_i hn
          obtain ⟨d0, hd0⟩ := Option.ne_none_iff_exists'.mp (by simpa using hn : getS env i ≠ none)
          obtain ⟨v, f0, hv, _, _⟩ := r.val hd0
          refine to_wE (pe_var h1 (visB_ok g.scq h2) k1 k2) ⟨v, hv, ?_⟩
          refine hs X fx sc xs g er.2 hq W tk F L H σ env A r ms _ (RQ.bind q (fun ss e2 q2 => ?_) fun c ds e1 q1 => q1)
          intro vs ds F2 A2 H2 f2 hss x2 rs2 rp2 n2 g2
          split at q2
          · exact q2.elim
          · rename_i hms
            split at q2
            · rename_i d hd
              obtain ⟨v', f1, hv', rp1, hf1⟩ := rs2.val hd
              rw [hv] at hv'
              cases hv'
              refine (show aP X.K cl fx F L H A σ ms (ms.isEmpty && quiets (.brv i :: es)) Q (.br d :: ss) e2 from q2) (v :: vs) (d :: ds) F2 A2 H2 (fun a => f1 a ∨ f2 a) (by simp [hss]) x2 rs2 ?_ (fun a z m hm => ?_) fun h => g2 (by simpa [quiets] using h)
              · simp only [Rws]
                exact ⟨v, vs, rfl, rp1.mono fun _ z => .inl z, rp2.mono fun _ z => .inr z⟩
              · rcases z with z | z
                · intro u
                  rcases hf1 a z with w | w
                  · refine rs2.sep i m a (fun e => ?_) w u
                    subst e
                    exact hms (by simpa using hm)
                  · exact (rs2.own m a u).2.1 w
                · exact n2 a z m hm
            · exact q2.elim
      | mt i => simp [allQ] at hq
      | _ => simp [quiets] at hqq
    · have hqq : quiets [e] = false := by simpa using hqq
      rw [evA_ev hqq] at q
      have hq' : allQ es = true := by
        cases e <;> first | (simp [quiets] at hqq; done) | simpa only [allQ] using hq
      have hnq : quiets (e :: es) = false := by
        cases e <;> first | (simp [quiets] at hqq; done) | rfl
      refine he X fx sc x g er.1.2 W tk F L H σ env A r _ (q.bind (fun d e1 q1 => ?_) fun c ds e1 q1 => q1)
      intro v F1 A1 H1 f1 x1 rs1 rp1 t1 fr1
      refine hs X fx sc xs g er.2 hq' W tk F1 L H1 σ e1 A1 rs1 ms _ (RQ.bind q1 (fun ss e2 q2 => ?_) fun c ds e1 q1 => exP.ext q1 x1)
      intro vs ds F2 A2 H2 f2 hss x2 rs2 rp2 n2 g2
      refine (show aP X.K cl fx F L H A σ ms (ms.isEmpty && quiets (e :: es)) Q (.br d :: ss) e2 from q2) (v :: vs) (d :: ds) F2 A2 H2 (fun a => f1 a ∨ f2 a) (by simp [hss]) (x1.trans x2) rs2 ?_ (fun a z m hm => ?_) fun h => by rw [hnq] at h; simp at h
      · simp only [Rws]
        exact ⟨v, vs, rfl, (rp1.kp (rs1.kpT x2 t1)).mono fun _ z => .inl z, rp2.mono fun _ z => .inr z⟩
      · rcases z with z | z
        · exact fun u => (t1.ext x2 a z).2.2.1 ⟨m, u⟩
        · exact n2 a z m hm
theorem muts_allQ : ∀ {es : List Ex}, allQ es = true → muts es = []
  | [], _ => rfl
  | e :: es, h => by
    cases e <;> first | (simp [allQ] at h; done) | (simp only [muts]; exact muts_allQ (by simpa only [allQ] using h))
end
/-! ### what lent arguments show exists -/
section
variable {K : PySem.W.Frag} {cl : String → Addr} {F : Sets} {H : Hp}
mutual
theorem Rp.tight : ∀ {d : D} {v : V} {f : Sets}, Rp K cl F H d v f → Rp K cl F H d v fun a => f a ∧ H a ≠ none
  | .non, _, _, h => h
  | .bl _, _, _, h => h
  | .int _, _, _, h => h
  | .str _, _, _, h => h
  | .tup ds, v, f, h => by
    simp only [Rp] at h ⊢
    obtain ⟨a, vs, e, s, r⟩ := h
    exact ⟨a, vs, e, s, Rps.tight r⟩
  | .lst .own ds, v, f, h => by
    simp only [Rp] at h ⊢
    obtain ⟨a, vs, k, e, s, h1, h2, h3, r⟩ := h
    exact ⟨a, vs, _, e, s, ⟨h1, by rw [s]; simp⟩, fun z => h2 z.1, fun b z => ⟨h3 b z.1, z.2⟩, Rps.tight r⟩
  | .lst .fro ds, v, f, h => by simp only [Rp] at h ⊢; exact h
  | .lst .scr ds, v, f, h => by simp only [Rp] at h ⊢; exact h
  | .obj .own c ns ds, v, f, h => by
    simp only [Rp] at h ⊢
    obtain ⟨a, dx, vs, k, e, s, l, h1, h2, h3, r⟩ := h
    exact ⟨a, dx, vs, _, e, s, l, ⟨h1, by rw [s]; simp⟩, fun z => h2 z.1, fun b z => ⟨h3 b z.1, z.2⟩, Rps.tight r⟩
  | .obj .fro c ns ds, v, f, h => by simp only [Rp] at h ⊢; exact h
  | .obj .scr c ns ds, v, f, h => by simp only [Rp] at h
  | .iset .own xs, v, f, h => by
    simp only [Rp] at h ⊢
    obtain ⟨a, S, e, s, h1, h2⟩ := h
    exact ⟨a, S, e, s, ⟨h1, by rw [s]; simp⟩, h2⟩
  | .iset .fro xs, v, f, h => by simp only [Rp] at h ⊢; exact h
  | .iset .scr _, _, _, h => by simp only [Rp] at h
  | .dic .own ks ds, v, f, h => by
    simp only [Rp] at h ⊢
    obtain ⟨a, kvs, is, e, s, h1, h2⟩ := h
    exact ⟨a, kvs, is, e, s, ⟨h1, by rw [s]; simp⟩, h2⟩
  | .dic .fro ks ds, v, f, h => by simp only [Rp] at h ⊢; exact h
  | .dic .scr _ _, _, _, h => by simp only [Rp] at h
theorem Rps.tight : ∀ {ds : List D} {vs : List V} {f : Sets}, Rps K cl F H ds vs f → Rps K cl F H ds vs fun a => f a ∧ H a ≠ none
  | [], _, _, h => by simp only [Rps] at h ⊢; exact h
  | d :: ds, vs, f, h => by
    simp only [Rps] at h ⊢
    obtain ⟨v, r, p, q, e, h1, h2, h3, h4, h5⟩ := h
    exact ⟨v, r, _, _, e, Rp.tight h1, Rps.tight h2, fun a z u => h3 a z.1 u.1, fun a z => ⟨h4 a z.1, z.2⟩, fun a z => ⟨h5 a z.1, z.2⟩⟩
end
end
/-! ### the order of arguments -/
theorem lookup_map {α β : Type} (g : α → β) : ∀ (ks : List String) (ws : List α) (p : String), (ks.zip (ws.map g)).lookup p = ((ks.zip ws).lookup p).map g
  | [], _, _ => rfl
  | _ :: _, [], _ => rfl
  | k :: ks, w :: ws, p => by
    simp only [List.map_cons, List.zip_cons_cons, List.lookup_cons]
    split
    · rfl
    · exact lookup_map g ks ws p
theorem lookup_in {α : Type} : ∀ {ks : List String} {ws : List α} {p : String} {x : α}, (ks.zip ws).lookup p = some x → x ∈ ws
  | [], _, _, _, h => by cases h
  | _ :: _, [], _, _, h => by cases h
  | k :: ks, w :: ws, p, x, h => by
    simp only [List.zip_cons_cons, List.lookup_cons] at h
    split at h
    · cases h; exact List.mem_cons_self
    · exact List.mem_cons_of_mem _ (lookup_in h)
theorem pickG_map {α β : Type} (g : α → β) (ks : List String) (ws : List α) : ∀ ps : List String, pickG (ks.zip (ws.map g)) ps = (pickG (ks.zip ws) ps).map (List.map g)
  | [] => rfl
  | p :: ps => by
    simp only [pickG, lookup_map g ks ws p, pickG_map g ks ws ps]
    cases (ks.zip ws).lookup p with
    | none => rfl
    | some x =>
      cases pickG (ks.zip ws) ps with
      | none => rfl
      | some r => rfl
theorem pickG_in {α : Type} {ks : List String} {ws : List α} : ∀ {ps : List String} {r : List α}, pickG (ks.zip ws) ps = some r → ∀ x ∈ r, x ∈ ws
  | [], r, h, x, hx => by simp only [pickG, Option.some.injEq] at h; subst h; cases hx
  | p :: ps, r, h, x, hx => by
    simp only [pickG] at h
    split at h
    · rename_i y r' h1 h2
      cases h
      rcases List.mem_cons.mp hx with rfl | hx
      · exact lookup_in h1
      · exact pickG_in h2 x hx
    · cases h
theorem pickL_map {α β : Type} (g : α → β) (ps ks : List String) (us ws : List α) : pickL ps ks (us.map g) (ws.map g) = (pickL ps ks us ws).map (List.map g) := by
  simp only [pickL, List.length_map, pickG_map, Option.map_map]
  congr 1
  funext r
  simp
theorem pickL_in {α : Type} {ps ks : List String} {us ws r : List α} (h : pickL ps ks us ws = some r) : ∀ x ∈ r, x ∈ us ∨ x ∈ ws := by
  simp only [pickL, Option.map_eq_some_iff] at h
  obtain ⟨r', h1, rfl⟩ := h
  intro x hx
  rcases List.mem_append.mp hx with hx | hx
  · exact .inl hx
  · exact .inr (pickG_in h1 x hx)
/-- the arguments, each with its value and what it shows -/
def Tri (K : PySem.W.Frag) (cl : String → Addr) (F : Sets) (H : Hp) (fp : Sets) (T : List (D × V × Value)) : Prop := ∀ t ∈ T, Rp K cl F H t.1 t.2.1 fp ∧ RelV t.2.1 t.2.2
theorem tri_of {K : PySem.W.Frag} {cl : String → Addr} {F : Sets} {H : Hp} {fp : Sets} : ∀ {ds : List D} {vs : List V} {us : List Value}, Rws K cl F H ds vs fp → Vals vs us → ∃ T, Tri K cl F H fp T ∧ ds = T.map (·.1) ∧ vs = T.map (·.2.1) ∧ us = T.map (·.2.2)
  | [], vs, us, r, q => by
    simp only [Rws] at r; subst r
    cases q
    exact ⟨[], fun _ z => (by cases z), rfl, rfl, rfl⟩
  | d :: ds, vs, us, r, q => by
    simp only [Rws] at r
    obtain ⟨v, vs', rfl, r1, r2⟩ := r
    cases q with
    | cons q1 q2 =>
      rename_i u us'
      obtain ⟨T, h1, rfl, rfl, rfl⟩ := tri_of r2 q2
      refine ⟨(d, v, u) :: T, fun t ht => ?_, rfl, rfl, rfl⟩
      rcases List.mem_cons.mp ht with rfl | ht
      · exact ⟨r1, q1⟩
      · exact h1 t ht
theorem Tri.vals {K : PySem.W.Frag} {cl : String → Addr} {F : Sets} {H : Hp} {fp : Sets} : ∀ {T : List (D × V × Value)}, Tri K cl F H fp T → Vals (T.map (·.2.1)) (T.map (·.2.2))
  | [], _ => .nil
  | t :: T, h => .cons (h t List.mem_cons_self).2 (Tri.vals fun t' z => h t' (List.mem_cons_of_mem _ z))
/-- lent arguments: the callee's first state -/
theorem Tri.rs {K : PySem.W.Frag} {cl : String → Addr} {F : Sets} {H : Hp} {fp : Sets} {T : List (D × V × Value)} (t : Tri K cl F H fp T) (fd : ∀ a, F a → H a ≠ none) (vs : List V) : RS K cl (fxa vs fun a => H a ≠ none) F (fun a => H a ≠ none) H ((T.map (·.2.1)).map some) (T.map fun t => Slot.br t.1) fun _ => E0s := by
  have key : ∀ {i : Nat} {s : Slot}, (T.map fun t => Slot.br t.1)[i]? = some s → ∃ x, T[i]? = some x ∧ s = .br x.1 := fun {i s} h => by
    rw [List.getElem?_map] at h
    cases hT : T[i]? with
    | none => rw [hT] at h; cases h
    | some x => rw [hT] at h; cases h; exact ⟨x, rfl, rfl⟩
  refine ⟨by simp, fun i d h => ?_, fun i d h => ?_, fun i d h => ?_, fun i d h => ?_, fun i c ns ds h => ?_, fun i j a _ z => z.elim, fun i a z => z.elim, fun a z => z.elim (fd a) id, fun _ _ z => z⟩
  · obtain ⟨x, _, e⟩ := key h; cases e
  · obtain ⟨x, _, e⟩ := key h; cases e
  · obtain ⟨x, hx, e⟩ := key h
    cases e
    refine ⟨x.2.1, _, by simp [hx], (t x (List.mem_of_getElem? hx)).1.tight, fun a z => z.2⟩
  · obtain ⟨x, _, e⟩ := key h; cases e
  · obtain ⟨x, _, e⟩ := key h; cases e
/-- a callee that was lent all has only made new things -/
theorem gr_of {F F' : Sets} {H H' : Hp} {A' : Nat → Sets} (x : Ext F H (fun _ => E0s) F' H' A') (dom : ∀ a, F' a → H' a ≠ none) : Gr F H F' H' :=
  ⟨x.fro, fun a z => (x.new a z).elim .inl fun z => z.elim .inr fun ⟨_, z⟩ => z.elim, fun a o e => x.keep a o e (.inl fun ⟨_, z⟩ => z.elim), fun a z => .inr (dom a z)⟩
section
variable {G : Cfg} {cl : String → Addr}
/-- picked arguments -/
theorem picks_ok {K : PySem.W.Frag} {F : Sets} {H : Hp} {fp : Sets} {T : List (D × V × Value)} {f : String} {ks : List String} {ss' : List Slot} {fd : FuncData} {s : Shared} {us ws : List Value} (t : Tri K cl F H fp T) (hu : us ++ ws = T.map (·.2.2)) (hw : ws.length = ks.length)
    (h : picks G f ks (T.map fun t => Slot.br t.1) = some ss') (kin : K.In s.heap) (hl : ks = [] → T.length = (G.pn f).length) (b0 : Binds K fd ((G.pn f).map Str.ofString) []) (bk : ∀ n ks, G.kws.contains (f, n, ks) = true → KBd K fd (G.pn f) n ks) :
    ∃ T', Tri K cl F H fp T' ∧ ss' = T'.map (fun t => Slot.br t.1) ∧ BindsTo s fd ⟨us, (ks.map Str.ofString).zip ws⟩ (((G.pn f).map Str.ofString).zip (T'.map (·.2.2))) := by
  unfold picks at h
  by_cases hk : ks = []
  · subst hk
    simp only [List.isEmpty_nil, if_true, Option.some.injEq] at h
    have hw0 : ws = [] := List.eq_nil_of_length_eq_zero hw
    subst hw0
    refine ⟨T, t, h.symm, ?_⟩
    rw [List.append_nil] at hu
    have b := b0 s us kin (by rw [List.append_nil, hu]; simpa using hl rfl)
    rw [List.append_nil, hu] at b
    rw [hu]
    exact b
  · have hk' : ks.isEmpty = false := by cases ks <;> simp_all
    rw [hk'] at h
    simp only [Bool.false_eq_true, if_false, List.length_map] at h
    split at h
    · rename_i hc
      simp only [Bool.and_eq_true, decide_eq_true_eq] at hc
      obtain ⟨hc1, hc2⟩ := hc
      rw [← List.map_take, ← List.map_drop, pickL_map] at h
      simp only [Option.map_eq_some_iff] at h
      obtain ⟨T', hT, rfl⟩ := h
      have hlen : us.length + ws.length = T.length := by
        have := congrArg List.length hu
        simpa using this
      have eu : us = (T.take (T.length - ks.length)).map (·.2.2) := by
        rw [List.map_take, ← hu]
        have : T.length - ks.length = us.length := by omega
        rw [this, List.take_left]
      have ew : ws = (T.drop (T.length - ks.length)).map (·.2.2) := by
        rw [List.map_drop, ← hu]
        have : T.length - ks.length = us.length := by omega
        rw [this, List.drop_left]
      refine ⟨T', fun x hx => ?_, rfl, ?_⟩
      · rcases pickL_in hT x hx with z | z
        · exact t x (List.mem_of_mem_take z)
        · exact t x (List.mem_of_mem_drop z)
      · refine bk _ _ hc1 s us ws _ kin (by rw [eu]; simp) hw ?_
        conv => lhs; rw [eu, ew]
        rw [pickL_map, hT]
        rfl
    · cases h
theorem ev_callQ {f : String} {es : List Ex} {ks : List String} (hs : EAs G cl es) (hnm : ∀ i r, es ≠ .mt i :: r) : EV G cl (.call f es ks) := by
  intro X fx sc x g er W tk F L H σ env A r Q q
  obtain ⟨q0, ys, kws, p, rfl, h1, h2, hg, hq0, hkw, ea⟩ := xnv_call er
  have hq : allQ es = true := by
    unfold allM at hq0
    split at hq0
    · exact absurd rfl (hnm _ _)
    · exact hq0
  obtain ⟨k1, k2, k3⟩ := okName_ok h2
  simp only [ev, muts_allQ hq] at q
  split at q
  · exact q.elim
  · rename_i hh
    have hot : G.hot = false := by
      cases hG : G.hot with
      | false => rfl
      | true => rw [hG] at hh; simp at hh
    split at q
    · exact q.elim
    · intro pins s I
      obtain ⟨m1, m2⟩ := g.kf.gff f hg
      refine wpAny_Call_Name_kw (ld_glob I (glB_ok g.scq h1) m1 ?_ k1)
      have hn : nsts ys = true := by
        have := erEs_nsts _ _ ea
        clear ea er
        induction ys with
        | nil => rfl
        | cons y ys ih =>
          simp only [List.cons_append, nsts, Bool.and_eq_true] at this ⊢
          exact ⟨this.1, ih this.2⟩
      refine cw_ok m2 hn hkw (hs X fx sc _ g ea hq W tk F L H σ env A r [] _ (RQ.bind q (fun ss e1 q1 => ?_) fun c ds e1 q1 => q1)) I
      intro vs ds F1 A1 H1 fp hss x1 rs1 rp1 _ _
      intro pins s us ws I1 rv l1 l2
      obtain ⟨T, t, rfl, rfl, hu⟩ := tri_of rp1 rv
      have hss' : ss = T.map fun t => Slot.br t.1 := by rw [hss]; simp
      subst hss'
      cases hp : picks G f ks (T.map fun t => Slot.br t.1) with
      | none => rw [hp] at q1; exact q1.elim
      | some ss' =>
        rw [hp] at q1
        simp only at q1
        have hne : ∃ ss, G.cf f ss ≠ .bad := ⟨ss', fun z => by rw [z] at q1; exact q1⟩
        obtain ⟨k, fd, Fn, hr, b0, bk⟩ := g.fns hot f hne
        have fdm : ∀ a, F1 a → H1 a ≠ none := fun a z => rs1.dom a (.inl z)
        have post : ∀ T', Tri X.K cl F1 H1 fp T' → ss' = T'.map (fun t => Slot.br t.1) → spF X.K cl G.fl (G.cf f) (T'.map (·.2.1)) H1 Q (WE W σ) := by
          intro T' t' e'
          subst e'
          refine ⟨F1, _, _, _, t'.rs fdm _, ?_⟩
          unfold crP
          cases hc : G.cf f (T'.map fun t => Slot.br t.1) with
          | bad => rw [hc] at q1; exact q1
          | ok d outs =>
            rw [hc] at q1
            simp only at q1
            cases outs with
            | cons o os => exact q1.elim
            | nil =>
              have q1 : okP X.K cl fx F L H A σ Q d e1 := q1
              intro v F2 A2 H2 f2 ss2 x2 _ rs2 rp2 t2 fr2
              have g2 := gr_of x2 fun a z => rs2.dom a (.inl z)
              refine q1 v F2 A1 H2 f2 (x1.trans g2.ext) (rs1.gr g2) rp2 (fun a z => ?_) fun a z => ?_
              · obtain ⟨t3, t4, t5, t6⟩ := t2 a z
                exact ⟨t3, fun u => t4 (rs1.dom a (.inr u)), fun ⟨i, u⟩ => t4 (Mut.some (rs1.own i a u).2.2), t6⟩
              · obtain ⟨t3, t4, t5, t6⟩ := t2 a z
                exact .inl (x1.live a (Classical.not_not.mp t4))
          | ex c ds outs =>
            rw [hc] at q1
            simp only at q1
            cases outs with
            | cons o os => exact q1.elim
            | nil =>
              have q1 : exP X.K cl G.fl fx F L H A σ W c ds e1 := q1
              intro F2 A2 H2 dx ws2 ss2 x2 _ rs2 e1' rp2 hl
              have g2 := gr_of x2 fun a z => rs2.dom a (.inl z)
              exact q1 F2 A1 H2 dx ws2 (x1.trans g2.ext) (rs1.gr g2) e1' rp2 hl
        have hl : ks = [] → T.length = (G.pn f).length := fun hk => by
          subst hk
          simp only [picks, List.isEmpty_nil, if_true, Option.some.injEq] at hp
          have := Fn.len _ _ _ _ (post T t hp.symm)
          simpa using this
        obtain ⟨T', t', e', bt⟩ := picks_ok t hu l2 hp I1.kIn hl b0 bk
        exact run_any Fn (hr.mono (Nat.le_succ k)) bt (passAt tk σ) I1 t'.vals (post T' t' e')
end
end Wv

set_option Elab.async false
set_option linter.all false
set_option maxRecDepth 100000
/-! Wv12: slots set, lent, forgotten. -/
namespace Wv
open PySem PySem.Spec PyProof.Rows L2
section
variable {K : PySem.W.Frag} {cl : String → Addr} {fx : Fx} {F F1 F' L : Sets} {H H1 H' : Hp} {σ : L2.St} {env e : Env} {A A1 A' : Nat → Sets} {fp : Sets} {d : D} {v : V}
/-- slot i owns fp now -/
def onA (A : Nat → Sets) (i : Nat) (fp : Sets) : Nat → Sets := fun j a => if j = i then fp a else A j a
theorem set_self {α : Type} {l : List α} {i : Nat} {x y : α} (h : (l.set i x)[i]? = some y) : y = x := by
  rw [List.getElem?_set] at h
  simp only [if_true] at h
  split at h
  · cases h; rfl
  · cases h
theorem set_other {α : Type} {l : List α} {i j : Nat} {x : α} (h : j ≠ i) : (l.set i x)[j]? = l[j]? := List.getElem?_set_ne fun z => h z.symm
theorem set_at {α : Type} {l : List α} {i : Nat} {x : α} (h : i < l.length) : (l.set i x)[i]? = some x := List.getElem?_set_self h
/-- a slot set -/
theorem RS.put (r : RS K cl fx F L H σ env A) (rp : Rp K cl F H d v fp) (t : Tp F L H A fp) {i : Nat} (hi : i < env.length) : RS K cl fx F L H (σ.set i (some v)) (env.set i (.me d)) (onA A i fp) := by
  have hl : i < σ.length := by rw [r.len]; exact hi
  have hA : ∀ {j : Nat}, j ≠ i → ∀ {a : Addr}, A j a → onA A i fp j a := fun {j} hj {a} z => by simp only [onA, hj, if_false]; exact z
  have hB : ∀ {j : Nat}, j ≠ i → ∀ {a : Addr}, onA A i fp j a → A j a := fun {j} hj {a} z => by simpa only [onA, hj, if_false] using z
  have hC : ∀ {a : Addr}, onA A i fp i a → fp a := fun {a} z => by simpa only [onA, if_true] using z
  refine ⟨by simp [r.len], fun j d' h => ?_, fun j d' h => ?_, fun j d' h => ?_, fun j d' h => ?_, fun j c ns ds h => ?_, fun j k a hn z u => ?_, fun j a z => ?_, r.dom, r.vl⟩
  · by_cases hj : j = i
    · subst hj
      cases set_self h
      exact ⟨v, set_at hl, rp.mono fun a z => by simp only [onA, if_true]; exact z⟩
    · rw [set_other hj] at h
      obtain ⟨w, h1, h2⟩ := r.me j d' h
      exact ⟨w, by rw [set_other hj]; exact h1, h2.mono fun a z => hA hj z⟩
  · by_cases hj : j = i
    · subst hj; cases set_self h
    · rw [set_other hj] at h
      obtain ⟨w, h1, h2, h3⟩ := r.mp j d' h
      exact ⟨w, by rw [set_other hj]; exact h1, h2.mono fun a z => hA hj z, h3⟩
  · by_cases hj : j = i
    · subst hj; cases set_self h
    · rw [set_other hj] at h
      obtain ⟨w, f, h1, h2⟩ := r.vw j d' h
      exact ⟨w, f, by rw [set_other hj]; exact h1, h2⟩
  · by_cases hj : j = i
    · subst hj; cases set_self h
    · rw [set_other hj] at h
      obtain ⟨w, f, h1, h2⟩ := r.lk j d' h
      exact ⟨w, f, by rw [set_other hj]; exact h1, h2⟩
  · by_cases hj : j = i
    · subst hj; cases set_self h
    · rw [set_other hj] at h
      obtain ⟨a, dx, vs, h1, h2⟩ := r.xc j c ns ds h
      exact ⟨a, dx, vs, by rw [set_other hj]; exact h1, h2⟩
  · by_cases hj : j = i
    · subst hj
      exact (t a (hC z)).2.2.1 ⟨k, hB (fun q => hn q.symm) u⟩
    · by_cases hk : k = i
      · subst hk
        exact (t a (hC u)).2.2.1 ⟨j, hB hj z⟩
      · exact r.sep j k a hn (hB hj z) (hB hk u)
  · by_cases hj : j = i
    · subst hj
      obtain ⟨t1, t2, t3, t4⟩ := t a (hC z)
      exact ⟨t1, t2, t4⟩
    · exact r.own j a (hB hj z)
theorem un_onA {i : Nat} {a : Addr} (h : Un (onA A i fp) a) : Un A a ∨ fp a := by
  obtain ⟨j, z⟩ := h
  by_cases hj : j = i
  · subst hj; exact .inr (by simpa only [onA, if_true] using z)
  · exact .inl ⟨j, by simpa only [onA, hj, if_false] using z⟩
/-- a slot that shows lent nodes -/
theorem RS.lend (r : RS K cl fx F L H σ env A) (rp : Rp K cl F H d v fp) {i : Nat} (t : ∀ a, fp a → fx.v i a) (hi : i < env.length) : RS K cl fx F L H (σ.set i (some v)) (env.set i (.br d)) (onA A i E0s) := by
  have hl : i < σ.length := by rw [r.len]; exact hi
  have hA : ∀ {j : Nat}, j ≠ i → ∀ {a : Addr}, A j a → onA A i E0s j a := fun {j} hj {a} z => by simp only [onA, hj, if_false]; exact z
  have hB : ∀ {j : Nat}, ∀ {a : Addr}, onA A i E0s j a → A j a := fun {j} {a} z => by
    by_cases hj : j = i
    · subst hj; simp only [onA, if_true] at z; exact z.elim
    · simpa only [onA, hj, if_false] using z
  refine ⟨by simp [r.len], fun j d' h => ?_, fun j d' h => ?_, fun j d' h => ?_, fun j d' h => ?_, fun j c ns ds h => ?_, fun j k a hn z u => r.sep j k a hn (hB z) (hB u), fun j a z => r.own j a (hB z), r.dom, r.vl⟩
  · by_cases hj : j = i
    · subst hj; cases set_self h
    · rw [set_other hj] at h
      obtain ⟨w, h1, h2⟩ := r.me j d' h
      exact ⟨w, by rw [set_other hj]; exact h1, h2.mono fun a z => hA hj z⟩
  · by_cases hj : j = i
    · subst hj; cases set_self h
    · rw [set_other hj] at h
      obtain ⟨w, h1, h2, h3⟩ := r.mp j d' h
      exact ⟨w, by rw [set_other hj]; exact h1, h2.mono fun a z => hA hj z, h3⟩
  · by_cases hj : j = i
    · subst hj
      cases set_self h
      exact ⟨v, fp, set_at hl, rp, t⟩
    · rw [set_other hj] at h
      obtain ⟨w, f, h1, h2⟩ := r.vw j d' h
      exact ⟨w, f, by rw [set_other hj]; exact h1, h2⟩
  · by_cases hj : j = i
    · subst hj; cases set_self h
    · rw [set_other hj] at h
      obtain ⟨w, f, h1, h2⟩ := r.lk j d' h
      exact ⟨w, f, by rw [set_other hj]; exact h1, h2⟩
  · by_cases hj : j = i
    · subst hj; cases set_self h
    · rw [set_other hj] at h
      obtain ⟨a, dx, vs, h1, h2⟩ := r.xc j c ns ds h
      exact ⟨a, dx, vs, by rw [set_other hj]; exact h1, h2⟩
/-- slots i.. forgotten: what they owned is nobody's -/
def offs (A : Nat → Sets) (is : List Nat) : Nat → Sets := fun j a => j ∉ is ∧ A j a
theorem wipe_get {env : Env} {j : Nat} {s : Slot} : ∀ {is : List Nat}, (Wv.wipe env is)[j]? = some s → s ≠ .no → env[j]? = some s ∧ j ∉ is
  | [], h, _ => ⟨h, by simp⟩
  | i :: is, h, hs => by
    simp only [Wv.wipe] at h
    by_cases hj : j = i
    · subst hj; exact absurd (set_self h) hs
    · rw [set_other hj] at h
      obtain ⟨h1, h2⟩ := wipe_get h hs
      exact ⟨h1, by simp [hj, h2]⟩
theorem wipe_len (env : Env) : ∀ is : List Nat, (Wv.wipe env is).length = env.length
  | [] => rfl
  | i :: is => by simp only [Wv.wipe, List.length_set, wipe_len env is]
theorem lwipe_get {j : Nat} : ∀ {is : List Nat}, j ∉ is → (L2.wipe σ is)[j]? = σ[j]?
  | [], _ => rfl
  | i :: is, h => by
    simp only [List.mem_cons, not_or] at h
    simp only [L2.wipe]
    rw [set_other h.1, lwipe_get h.2]
theorem RS.wipe (r : RS K cl fx F L H σ env A) (is : List Nat) : RS K cl fx F L H (L2.wipe σ is) (Wv.wipe env is) (offs A is) := by
  have hA : ∀ {j : Nat}, j ∉ is → ∀ (a : Addr), A j a → offs A is j a := fun hj a z => ⟨hj, z⟩
  refine ⟨by rw [L2.wipe_length, wipe_len]; exact r.len, fun j d' h => ?_, fun j d' h => ?_, fun j d' h => ?_, fun j d' h => ?_, fun j c ns ds h => ?_, fun j k a hn z u => r.sep j k a hn z.2 u.2, fun j a z => r.own j a z.2, r.dom, r.vl⟩
  · obtain ⟨h1, h2⟩ := wipe_get h (fun z => by cases z)
    obtain ⟨w, e1, e2⟩ := r.me j d' h1
    exact ⟨w, by rw [lwipe_get h2]; exact e1, e2.mono (hA h2)⟩
  · obtain ⟨h1, h2⟩ := wipe_get h (fun z => by cases z)
    obtain ⟨w, e1, e2, e3⟩ := r.mp j d' h1
    exact ⟨w, by rw [lwipe_get h2]; exact e1, e2.mono (hA h2), e3⟩
  · obtain ⟨h1, h2⟩ := wipe_get h (fun z => by cases z)
    obtain ⟨w, f, e1, e2⟩ := r.vw j d' h1
    exact ⟨w, f, by rw [lwipe_get h2]; exact e1, e2⟩
  · obtain ⟨h1, h2⟩ := wipe_get h (fun z => by cases z)
    obtain ⟨w, f, e1, e2⟩ := r.lk j d' h1
    exact ⟨w, f, by rw [lwipe_get h2]; exact e1, e2⟩
  · obtain ⟨h1, h2⟩ := wipe_get h (fun z => by cases z)
    obtain ⟨a, dx, vs, e1, e2⟩ := r.xc j c ns ds h1
    exact ⟨a, dx, vs, by rw [lwipe_get h2]; exact e1, e2⟩
theorem restore_get {env0 : Env} {j : Nat} {s : Slot} : ∀ {is : List Nat}, (∀ i ∈ is, i < env0.length) → env.length = env0.length → (Wv.restore env0 env is)[j]? = some s → (j ∈ is ∧ env0[j]? = some s) ∨ (j ∉ is ∧ env[j]? = some s)
  | [], _, _, h => .inr ⟨by simp, h⟩
  | i :: is, hl, he, h => by
    simp only [Wv.restore] at h
    have hi := hl i (by simp)
    rw [List.getElem?_eq_getElem hi] at h
    simp only at h
    by_cases hj : j = i
    · subst hj
      exact .inl ⟨by simp, by rw [set_self h, List.getElem?_eq_getElem hi]⟩
    · rw [set_other hj] at h
      rcases restore_get (fun i z => hl i (by simp [z])) he h with ⟨h1, h2⟩ | ⟨h1, h2⟩
      · exact .inl ⟨by simp [h1], h2⟩
      · exact .inr ⟨by simp [hj, h1], h2⟩
theorem restore_len {env0 : Env} : ∀ is : List Nat, (Wv.restore env0 env is).length = env.length
  | [] => rfl
  | i :: is => by
    simp only [Wv.restore]
    split
    · rw [List.length_set, restore_len is]
    · exact restore_len is
/-- the forgotten slots as they were -/
def backA (A0 A : Nat → Sets) (is : List Nat) : Nat → Sets := fun j a => (j ∈ is ∧ A0 j a) ∨ (j ∉ is ∧ A j a)
theorem RS.restore {env0 : Env} {fx' : Fx} (r0 : RS K cl fx F L H σ env0 A) {is : List Nat} (hx : fx'.x = fx.x ∧ fx'.p = fx.p ∧ fx'.l = fx.l ∧ ∀ j, j ∉ is → fx'.v j = fx.v j) (hl : ∀ i ∈ is, i < env0.length) (r : RS K cl fx' F' L H' (L2.wipe σ is) env A') (x : Ext F H (offs A is) F' H' A') : RS K cl fx F' L H' σ (Wv.restore env0 env is) (backA A A' is) ∧ Ext F H A F' H' (backA A A' is) := by
  have he : env.length = env0.length := by rw [← r.len, L2.wipe_length, r0.len]
  have nun : ∀ {j : Nat} {a : Addr}, j ∈ is → A j a → ¬ Un (offs A is) a := fun {j a} hj z ⟨k, u⟩ => r0.sep j k a (fun q => u.1 (q ▸ hj)) z u.2
  have kp0 : ∀ {S : Sets}, (∀ a, S a → ¬ Un (offs A is) a) → Kp F H S F' H' := fun {S} hS => x.kp fun a z => z.elim (fun z ⟨k, u⟩ => (r0.own k a u.2).1 z) (hS a)
  have ln : ∀ a, L a → ¬ Un (offs A is) a := fun a z ⟨k, u⟩ => (r0.own k a u.2).2.1 z
  have mtt : ∀ {j : Nat} {a : Addr}, j ∈ is → A j a → ¬ F' a ∧ ¬ L a ∧ Mut (H' a) := fun {j a} hj z => by
    obtain ⟨h1, h2, h3⟩ := r0.own j a z
    refine ⟨fun u => ?_, h2, ?_⟩
    · rcases x.new a u with u | u | u
      · exact h1 u
      · exact Mut.some h3 u
      · exact nun hj z u
    · cases q : H a with
      | none => rw [q] at h3; exact h3.elim
      | some o => rw [x.keep a o q (.inl (nun hj z))]; rw [q] at h3; exact h3
  obtain ⟨hx1, hx2, hx3, hx4⟩ := hx
  constructor
  · refine ⟨by rw [restore_len, he, ← r0.len], fun j d' h => ?_, fun j d' h => ?_, fun j d' h => ?_, fun j d' h => ?_, fun j c ns ds h => ?_, fun j k a hn z u => ?_, fun j a z => ?_, r.dom, r0.vl⟩
    · rcases restore_get hl he h with ⟨h1, h2⟩ | ⟨h1, h2⟩
      · obtain ⟨w, e1, e2⟩ := r0.me j d' h2
        exact ⟨w, e1, (e2.kp (kp0 fun a z => nun h1 z)).mono fun a z => .inl ⟨h1, z⟩⟩
      · obtain ⟨w, e1, e2⟩ := r.me j d' h2
        exact ⟨w, by rw [← lwipe_get h1]; exact e1, e2.mono fun a z => .inr ⟨h1, z⟩⟩
    · rcases restore_get hl he h with ⟨h1, h2⟩ | ⟨h1, h2⟩
      · obtain ⟨w, e1, e2, e3⟩ := r0.mp j d' h2
        exact ⟨w, e1, (e2.kp (kp0 fun a z => nun h1 z)).mono fun a z => .inl ⟨h1, z⟩, e3⟩
      · obtain ⟨w, e1, e2, e3⟩ := r.mp j d' h2
        exact ⟨w, by rw [← lwipe_get h1]; exact e1, e2.mono fun a z => .inr ⟨h1, z⟩, by rw [← hx2]; exact e3⟩
    · rcases restore_get hl he h with ⟨h1, h2⟩ | ⟨h1, h2⟩
      · obtain ⟨w, f, e1, e2, e3⟩ := r0.vw j d' h2
        exact ⟨w, f, e1, e2.kp (kp0 fun a z => ln a (r0.vl _ a (e3 a z))), e3⟩
      · obtain ⟨w, f, e1, e2⟩ := r.vw j d' h2
        exact ⟨w, f, by rw [← lwipe_get h1]; exact e1, by rw [← hx4 j h1]; exact e2⟩
    · rcases restore_get hl he h with ⟨h1, h2⟩ | ⟨h1, h2⟩
      · obtain ⟨w, f, e1, e2, e3⟩ := r0.lk j d' h2
        exact ⟨w, f, e1, e2.kp (kp0 fun a z => ln a (r0.vl _ a (e3.1 a z))), e3⟩
      · obtain ⟨w, f, e1, e2⟩ := r.lk j d' h2
        exact ⟨w, f, by rw [← lwipe_get h1]; exact e1, by rw [← hx3, ← hx4 j h1]; exact e2⟩
    · rcases restore_get hl he h with ⟨h1, h2⟩ | ⟨h1, h2⟩
      · obtain ⟨a, dx, vs, e1, e2, e3, e4, e5⟩ := r0.xc j c ns ds h2
        have kk : Kp F H E0s F' H' := kp0 fun a z => z.elim
        exact ⟨a, dx, vs, e1, e2, kk.keep _ _ e3 (.inr (.inr fun z => z)), e4, e5.kp kk⟩
      · obtain ⟨a, dx, vs, e1, e2⟩ := r.xc j c ns ds h2
        exact ⟨a, dx, vs, by rw [← lwipe_get h1]; exact e1, by rw [← hx1]; exact e2⟩
    · have mix : ∀ {j k : Nat}, j ∈ is → A j a → A' k a → False := fun {j k} hj z u => by
        rcases x.own a ⟨k, u⟩ with u | u
        · exact nun hj z u
        · exact Mut.some (r0.own j a z).2.2 u
      rcases z with ⟨z1, z2⟩ | ⟨z1, z2⟩ <;> rcases u with ⟨u1, u2⟩ | ⟨u1, u2⟩
      · exact r0.sep j k a hn z2 u2
      · exact mix z1 z2 u2
      · exact mix u1 u2 z2
      · exact r.sep j k a hn z2 u2
    · rcases z with ⟨z1, z2⟩ | ⟨z1, z2⟩
      · exact mtt z1 z2
      · exact r.own j a z2
  · refine ⟨x.fro, fun a z => ?_, fun a z => ?_, fun a o e z => x.keep a o e ?_, x.live⟩
    · rcases x.new a z with z | z | ⟨k, z⟩
      · exact .inl z
      · exact .inr (.inl z)
      · exact .inr (.inr ⟨k, z.2⟩)
    · obtain ⟨j, ⟨z1, z2⟩ | ⟨z1, z2⟩⟩ := z
      · exact .inl ⟨j, z2⟩
      · rcases x.own a ⟨j, z2⟩ with ⟨k, z⟩ | z
        · exact .inl ⟨k, z.2⟩
        · exact .inr z
    · exact z.imp (fun z ⟨k, u⟩ => z ⟨k, u.2⟩) id
/-! ### locks -/
theorem lockS_idem (s : Slot) : lockS (lockS s) = lockS s := by
  cases s with
  | me d => by_cases h : d.stb = true <;> simp [lockS, h]
  | mp d => by_cases h : d.stb = true <;> simp [lockS, h]
  | _ => rfl
theorem lock_len (env : Env) : ∀ is : List Nat, (Wv.lock env is).length = env.length
  | [] => rfl
  | i :: is => by
    simp only [Wv.lock]
    split
    · rw [List.length_set, lock_len env is]
    · exact lock_len env is
theorem lock_get {env : Env} {j : Nat} {s : Slot} : ∀ {is : List Nat}, (Wv.lock env is)[j]? = some s → ∃ s0, env[j]? = some s0 ∧ ((j ∈ is ∧ s = lockS s0) ∨ (j ∉ is ∧ s = s0))
  | [], h => ⟨s, h, .inr ⟨by simp, rfl⟩⟩
  | i :: is, h => by
    simp only [Wv.lock] at h
    split at h
    · rename_i t ht
      by_cases hj : j = i
      · subst hj
        obtain ⟨s0, h1, h2⟩ := lock_get ht
        refine ⟨s0, h1, .inl ⟨by simp, ?_⟩⟩
        rw [set_self h]
        rcases h2 with ⟨_, h2⟩ | ⟨_, h2⟩
        · rw [h2, lockS_idem]
        · rw [h2]
      · rw [set_other hj] at h
        obtain ⟨s0, h1, h2⟩ := lock_get h
        exact ⟨s0, h1, h2.imp (fun ⟨z, u⟩ => ⟨by simp [z], u⟩) fun ⟨z, u⟩ => ⟨by simp [hj, z], u⟩⟩
    · rename_i ht
      obtain ⟨s0, h1, h2⟩ := lock_get h
      have hj : j ≠ i := fun q => by subst q; rw [h] at ht; cases ht
      exact ⟨s0, h1, h2.imp (fun ⟨z, u⟩ => ⟨by simp [z], u⟩) fun ⟨z, u⟩ => ⟨by simp [hj, z], u⟩⟩
open Classical in
noncomputable def lockFx (fx : Fx) (L : Sets) (A : Nat → Sets) (σ : L2.St) (env : Env) (is pv : List Nat) : Fx := ⟨fx.x, fx.p, (fun j => match (Wv.lock env is)[j]? with
  | some (.lk _) => (σ[j]?).join
  | _ => none), fun j => if (j ∈ is ∧ ∃ d, env[j]? = some (.me d) ∨ env[j]? = some (.mp d)) ∨ (j ∈ pv ∧ ¬ ∃ d, env[j]? = some (.lk d)) then (fun a => L a ∨ ∃ i ∈ is, A i a) else fx.v j⟩
def lockL (L : Sets) (A : Nat → Sets) (is : List Nat) : Sets := fun a => L a ∨ ∃ i ∈ is, A i a
theorem RS.lock (r : RS K cl fx F L H σ env A) (is pv : List Nat) : RS K cl (lockFx fx L A σ env is pv) F (lockL L A is) H σ (Wv.lock env is) (offs A is) := by
  have hp : ∀ {j : Nat} {d : D} {v : V}, (Wv.lock env is)[j]? = some (.lk d) → σ[j]? = some (some v) → (lockFx fx L A σ env is pv).l j = some v := fun {j d v} h1 h2 => by
    simp only [lockFx, h1, h2]; rfl
  have up : ∀ {j : Nat} {a : Addr}, fx.v j a → (lockFx fx L A σ env is pv).v j a := fun {j a} z => by
    simp only [lockFx]
    split
    · exact .inl (r.vl _ a z)
    · exact z
  have nw : ∀ {j : Nat} {s0 : Slot} {a : Addr}, env[j]? = some s0 → (∃ d, s0 = .me d ∨ s0 = .mp d) → j ∈ is → lockL L A is a → (lockFx fx L A σ env is pv).v j a := fun {j s0 a} h1 h2 hm z => by
    simp only [lockFx]
    rw [if_pos (.inl ⟨hm, h2.imp fun d q => q.imp (fun q => by rw [h1, q]) fun q => by rw [h1, q]⟩)]
    exact z
  refine ⟨by rw [lock_len]; exact r.len, fun j d h => ?_, fun j d h => ?_, fun j d h => ?_, fun j d h => ?_, fun j c ns ds h => ?_, fun j k a hn z u => r.sep j k a hn z.2 u.2, fun j a z => ?_, fun a z => ?_, fun j a z => ?_⟩
  · obtain ⟨s0, h1, ⟨h2, h3⟩ | ⟨h2, h3⟩⟩ := lock_get h
    · cases s0 with
      | me d0 =>
        simp only [lockS] at h3
        split at h3
        · rename_i st
          cases h3
          obtain ⟨v, e1, e2⟩ := r.me j _ h1
          exact ⟨v, e1, e2.stb st⟩
        · cases h3
      | mp d0 => simp only [lockS] at h3; split at h3 <;> cases h3
      | _ => simp only [lockS] at h3; cases h3
    · subst h3
      obtain ⟨v, e1, e2⟩ := r.me j _ h1
      exact ⟨v, e1, e2.mono fun a z => ⟨h2, z⟩⟩
  · obtain ⟨s0, h1, ⟨h2, h3⟩ | ⟨h2, h3⟩⟩ := lock_get h
    · cases s0 with
      | me d0 => simp only [lockS] at h3; split at h3 <;> cases h3
      | mp d0 =>
        simp only [lockS] at h3
        split at h3
        · rename_i st
          cases h3
          obtain ⟨v, e1, e2, e3⟩ := r.mp j _ h1
          exact ⟨v, e1, e2.stb st, e3⟩
        · cases h3
      | _ => simp only [lockS] at h3; cases h3
    · subst h3
      obtain ⟨v, e1, e2, e3⟩ := r.mp j _ h1
      exact ⟨v, e1, e2.mono fun a z => ⟨h2, z⟩, e3⟩
  · obtain ⟨s0, h1, h3⟩ := lock_get h
    have h3 : Slot.br d = s0 := by
      rcases h3 with ⟨_, h3⟩ | ⟨_, h3⟩
      · cases s0 with
        | me d0 => simp only [lockS] at h3; split at h3 <;> cases h3
        | mp d0 => simp only [lockS] at h3; split at h3 <;> cases h3
        | _ => exact h3
      · exact h3
    subst h3
    obtain ⟨v, f, e1, e2, e3⟩ := r.vw j _ h1
    exact ⟨v, f, e1, e2, fun a z => up (e3 a z)⟩
  · obtain ⟨s0, h1, h3⟩ := lock_get h
    by_cases hs : s0 = .lk d
    · subst hs
      obtain ⟨v, f, e1, e2, e3, e4⟩ := r.lk j _ h1
      exact ⟨v, f, e1, e2, fun a z => up (e3 a z), hp h e1⟩
    · rcases h3 with ⟨hm, h3⟩ | ⟨_, h3⟩
      · cases s0 with
        | me d0 =>
          simp only [lockS] at h3
          split at h3
          · cases h3
          · cases h3
            obtain ⟨v, e1, e2⟩ := r.me j _ h1
            exact ⟨v, A j, e1, e2, fun a z => nw h1 ⟨_, .inl rfl⟩ hm (.inr ⟨j, hm, z⟩), hp h e1⟩
        | mp d0 =>
          simp only [lockS] at h3
          split at h3
          · cases h3
          · cases h3
            obtain ⟨v, e1, e2, _⟩ := r.mp j _ h1
            exact ⟨v, A j, e1, e2, fun a z => nw h1 ⟨_, .inr rfl⟩ hm (.inr ⟨j, hm, z⟩), hp h e1⟩
        | _ => exact absurd h3.symm hs
      · exact absurd h3.symm hs
  · obtain ⟨s0, h1, h3⟩ := lock_get h
    have h3 : Slot.xc c ns ds = s0 := by
      rcases h3 with ⟨_, h3⟩ | ⟨_, h3⟩
      · cases s0 with
        | me d0 => simp only [lockS] at h3; split at h3 <;> cases h3
        | mp d0 => simp only [lockS] at h3; split at h3 <;> cases h3
        | _ => exact h3
      · exact h3
    subst h3
    exact r.xc j c ns ds h1
  · obtain ⟨h1, h2, h3⟩ := r.own j a z.2
    exact ⟨h1, fun u => u.elim h2 fun ⟨i, hi, u⟩ => r.sep i j a (fun q => z.1 (q ▸ hi)) u z.2, h3⟩
  · rcases z with z | z | ⟨i, _, z⟩
    · exact r.dom a (.inl z)
    · exact r.dom a (.inr z)
    · exact Mut.some (r.own i a z).2.2
  · simp only [lockFx] at z
    split at z
    · exact z
    · exact .inl (r.vl j a z)
theorem unlock_len {env0 : Env} : ∀ is : List Nat, (Wv.unlock env0 env is).length = env.length
  | [] => rfl
  | i :: is => by
    simp only [Wv.unlock]
    split
    all_goals first
      | (rw [List.length_set, unlock_len is]; done)
      | exact unlock_len is
theorem unlock_get {env0 : Env} {j : Nat} {s : Slot} : ∀ {is : List Nat}, (Wv.unlock env0 env is)[j]? = some s →
    (j ∈ is ∧ (∃ d0, env[j]? = some (.lk d0)) ∧ env0[j]? = some s ∧ ((∃ d, s = .me d) ∨ ∃ d, s = .mp d)) ∨ s = .no ∨ (env[j]? = some s ∧ (j ∈ is → (∃ d0, s = .lk d0 ∨ s = .br d0) → ∀ d, env0[j]? ≠ some (.me d) ∧ env0[j]? ≠ some (.mp d)))
  | [], h => .inr (.inr ⟨h, fun z => by cases z⟩)
  | i :: is, h => by
    have next : ∀ {t : Slot}, (Wv.unlock env0 env is)[j]? = some t → j ≠ i → (j ∈ i :: is ∧ (∃ d0, env[j]? = some (.lk d0)) ∧ env0[j]? = some t ∧ ((∃ d, t = .me d) ∨ ∃ d, t = .mp d)) ∨ t = .no ∨ (env[j]? = some t ∧ (j ∈ i :: is → (∃ d0, t = .lk d0 ∨ t = .br d0) → ∀ d, env0[j]? ≠ some (.me d) ∧ env0[j]? ≠ some (.mp d))) := fun {t} ht hj => by
      rcases unlock_get ht with ⟨z, u⟩ | z | ⟨z, u⟩
      · exact .inl ⟨by simp [z], u⟩
      · exact .inr (.inl z)
      · exact .inr (.inr ⟨z, fun m => u (by simpa [hj] using m)⟩)
    simp only [Wv.unlock] at h
    split at h
    · rename_i d d0 h0 h1
      by_cases hj : j = i
      · subst hj
        cases set_self h
        refine .inl ⟨by simp, ?_, h0, .inl ⟨_, rfl⟩⟩
        rcases unlock_get h1 with ⟨_, u, _⟩ | u | ⟨u, _⟩
        · exact u
        · cases u
        · exact ⟨_, u⟩
      · rw [set_other hj] at h; exact next h hj
    · rename_i d d0 h0 h1
      by_cases hj : j = i
      · subst hj
        cases set_self h
        refine .inl ⟨by simp, ?_, h0, .inr ⟨_, rfl⟩⟩
        rcases unlock_get h1 with ⟨_, u, _⟩ | u | ⟨u, _⟩
        · exact u
        · cases u
        · exact ⟨_, u⟩
      · rw [set_other hj] at h; exact next h hj
    · by_cases hj : j = i
      · subst hj; exact .inr (.inl (set_self h))
      · rw [set_other hj] at h; exact next h hj
    · by_cases hj : j = i
      · subst hj; exact .inr (.inl (set_self h))
      · rw [set_other hj] at h; exact next h hj
    · rename_i hno1 hno2 hno3 hno4
      by_cases hj : j = i
      · subst hj
        rcases unlock_get h with ⟨z, u⟩ | z | ⟨z, u⟩
        · exact .inl ⟨by simp, u⟩
        · exact .inr (.inl z)
        · refine .inr (.inr ⟨z, fun _ ⟨d0, hs⟩ d => ⟨fun q => ?_, fun q => ?_⟩⟩)
          · rcases hs with hs | hs <;> subst hs
            · exact hno1 d d0 q h
            · exact hno3 d d0 q h
          · rcases hs with hs | hs <;> subst hs
            · exact hno2 d d0 q h
            · exact hno4 d d0 q h
      · exact next h hj
/-- the target's slots let go -/
theorem clear_get {j : Nat} {s : Slot} : ∀ {is : List Nat}, (clearP env is)[j]? = some s → (s = .no ∧ j ∈ is ∧ ∃ d, env[j]? = some (.br d)) ∨ (env[j]? = some s ∧ (j ∈ is → ∀ d, s ≠ .br d))
  | [], h => .inr ⟨h, fun z => by cases z⟩
  | i :: is, h => by
    simp only [clearP] at h
    split at h
    · rename_i d hd
      by_cases hj : j = i
      · subst hj
        cases set_self h
        refine .inl ⟨rfl, by simp, ?_⟩
        rcases clear_get hd with ⟨q, _⟩ | ⟨q, _⟩
        · cases q
        · exact ⟨d, q⟩
      · rw [set_other hj] at h
        rcases clear_get h with ⟨q, u⟩ | ⟨q, u⟩
        · exact .inl ⟨q, by simp [u.1], u.2⟩
        · exact .inr ⟨q, fun m => u (by simpa [hj] using m)⟩
    · rename_i hno
      rcases clear_get h with ⟨q, u⟩ | ⟨q, u⟩
      · exact .inl ⟨q, by simp [u.1], u.2⟩
      · refine .inr ⟨q, fun m d hs => ?_⟩
        by_cases hj : j = i
        · subst hj; subst hs; exact hno d h
        · exact u (by simpa [hj] using m) d hs
theorem clear_len : ∀ is : List Nat, (clearP env is).length = env.length
  | [] => rfl
  | i :: is => by
    simp only [clearP]
    split
    · rw [List.length_set, clear_len is]
    · exact clear_len is
/-- behind a loop -/
theorem RS.unlock {env' : Env} {σ' : L2.St} (r0 : RS K cl fx F L H σ env A) {is pv : List Nat} (r : RS K cl (lockFx fx L A σ env is pv) F' (lockL L A is) H' σ' env' A') (x : Ext F H (offs A is) F' H' A') :
    ∃ A'', RS K cl fx F' L H' σ' (Wv.unlock env (clearP env' pv) is) A'' ∧ Ext F H A F' H' A'' ∧ ∀ a, Un A'' a → Un A' a ∨ ∃ j ∈ is, A j a := by
  have nun : ∀ {j : Nat} {a : Addr}, j ∈ is → A j a → ¬ Un (offs A is) a := fun {j a} hj z ⟨k, u⟩ => r0.sep j k a (fun q => u.1 (q ▸ hj)) z u.2
  have kp0 : ∀ {S : Sets}, (∀ a, S a → ¬ Un (offs A is) a) → Kp F H S F' H' := fun {S} hS => x.kp fun a z => z.elim (fun z ⟨k, u⟩ => (r0.own k a u.2).1 z) (hS a)
  have mtt : ∀ {j : Nat} {a : Addr}, j ∈ is → A j a → ¬ F' a ∧ ¬ L a ∧ Mut (H' a) := fun {j a} hj z => by
    obtain ⟨h1, h2, h3⟩ := r0.own j a z
    refine ⟨fun u => ?_, h2, ?_⟩
    · rcases x.new a u with u | u | u
      · exact h1 u
      · exact Mut.some h3 u
      · exact nun hj z u
    · cases q : H a with
      | none => rw [q] at h3; exact h3.elim
      | some o => rw [x.keep a o q (.inl (nun hj z))]; rw [q] at h3; exact h3
  let P : Nat → Prop := fun j => j ∈ is ∧ (∃ d0, (clearP env' pv)[j]? = some (.lk d0)) ∧ ((∃ d, env[j]? = some (.me d)) ∨ ∃ d, env[j]? = some (.mp d))
  have lkv : ∀ {j : Nat} {d : D}, (clearP env' pv)[j]? = some (.lk d) → ∃ v f, σ'[j]? = some (some v) ∧ Rp K cl F' H' d v f ∧ (∀ a, f a → (lockFx fx L A σ env is pv).v j a) ∧ σ[j]? = some (some v) ∧ ∃ d1, (Wv.lock env is)[j]? = some (.lk d1) := fun {j d} h => by
    have h' : env'[j]? = some (.lk d) := by
      rcases clear_get h with ⟨q, _⟩ | ⟨q, _⟩
      · cases q
      · exact q
    obtain ⟨v, f, e1, e2, e3, e4⟩ := r.lk j d h'
    refine ⟨v, f, e1, e2, e3, ?_⟩
    simp only [lockFx] at e4
    split at e4
    · rename_i d1 h1
      refine ⟨?_, d1, h1⟩
      cases hs : σ[j]? with
      | none => rw [hs] at e4; cases e4
      | some o =>
        rw [hs] at e4
        cases o with
        | none => cases e4
        | some w => cases e4; rfl
    · cases e4
  refine ⟨fun j a => (P j ∧ A j a) ∨ (¬ P j ∧ A' j a), ?_, ?_⟩
  · refine ⟨by rw [unlock_len, clear_len]; exact r.len, fun j d h => ?_, fun j d h => ?_, fun j d h => ?_, fun j d h => ?_, fun j c ns ds h => ?_, fun j k a hn z u => ?_, fun j a z => ?_, fun a z => r.dom a (z.imp id .inl), r0.vl⟩
    · rcases unlock_get h with ⟨h1, ⟨d0, h2⟩, h3, _⟩ | h1 | ⟨h1, h2⟩
      · obtain ⟨v, f, e1, _, _, e4, _⟩ := lkv h2
        obtain ⟨v', e5, e6⟩ := r0.me j d h3
        rw [e4] at e5; cases e5
        exact ⟨v, e1, (e6.kp (kp0 fun a z => nun h1 z)).mono fun a z => .inl ⟨⟨h1, ⟨d0, h2⟩, .inl ⟨d, h3⟩⟩, z⟩⟩
      · cases h1
      · have hP : ¬ P j := fun ⟨_, ⟨d0, q⟩, _⟩ => by rw [h1] at q; cases q
        have h1' : env'[j]? = some (.me d) := by
          rcases clear_get h1 with ⟨q, _⟩ | ⟨q, _⟩
          · cases q
          · exact q
        obtain ⟨v, e1, e2⟩ := r.me j d h1'
        exact ⟨v, e1, e2.mono fun a z => .inr ⟨hP, z⟩⟩
    · rcases unlock_get h with ⟨h1, ⟨d0, h2⟩, h3, _⟩ | h1 | ⟨h1, h2⟩
      · obtain ⟨v, f, e1, _, _, e4, _⟩ := lkv h2
        obtain ⟨v', e5, e6, e7⟩ := r0.mp j d h3
        rw [e4] at e5; cases e5
        exact ⟨v, e1, (e6.kp (kp0 fun a z => nun h1 z)).mono fun a z => .inl ⟨⟨h1, ⟨d0, h2⟩, .inr ⟨d, h3⟩⟩, z⟩, e7⟩
      · cases h1
      · have hP : ¬ P j := fun ⟨_, ⟨d0, q⟩, _⟩ => by rw [h1] at q; cases q
        have h1' : env'[j]? = some (.mp d) := by
          rcases clear_get h1 with ⟨q, _⟩ | ⟨q, _⟩
          · cases q
          · exact q
        obtain ⟨v, e1, e2, e3⟩ := r.mp j d h1'
        exact ⟨v, e1, e2.mono fun a z => .inr ⟨hP, z⟩, e3⟩
    · rcases unlock_get h with ⟨_, _, _, ⟨d1, q⟩ | ⟨d1, q⟩⟩ | q | ⟨h1, h2⟩
      · cases q
      · cases q
      · cases q
      · rcases clear_get h1 with ⟨q, _⟩ | ⟨q, q2⟩
        · cases q
        · obtain ⟨v, f, e1, e2, e3⟩ := r.vw j d q
          refine ⟨v, f, e1, e2, fun a z => ?_⟩
          have e4 := e3 a z
          simp only [lockFx] at e4
          split at e4
          · rename_i hc
            rcases hc with ⟨hm, d1, hm2⟩ | ⟨hm, _⟩
            · have := h2 hm ⟨d, .inr rfl⟩ d1
              exact (hm2.elim (fun z => this.1 z) fun z => this.2 z).elim
            · exact absurd rfl (q2 hm d)
          · exact e4
    · rcases unlock_get h with ⟨_, _, _, ⟨d1, q⟩ | ⟨d1, q⟩⟩ | q | ⟨h1, h2⟩
      · cases q
      · cases q
      · cases q
      · obtain ⟨v, f, e1, e2, e3, e4, d1, e5⟩ := lkv h1
        obtain ⟨s0, g1, g2⟩ := lock_get e5
        have hs : s0 = .lk d1 := by
          rcases g2 with ⟨hm, g2⟩ | ⟨_, g2⟩
          · have := h2 hm ⟨d, .inl rfl⟩
            cases s0 with
            | me d0 => exact absurd g1 (this d0).1
            | mp d0 => exact absurd g1 (this d0).2
            | _ => exact g2.symm
          · exact g2.symm
        subst hs
        obtain ⟨v', f', k1, k2, k3, k4⟩ := r0.lk j d1 g1
        rw [e4] at k1; cases k1
        refine ⟨v, f, e1, e2, fun a z => ?_, k4⟩
        have e6 := e3 a z
        simp only [lockFx] at e6
        split at e6
        · rename_i hc
          rcases hc with ⟨_, d2, z2⟩ | ⟨_, z2⟩
          · rcases z2 with z2 | z2 <;> (rw [g1] at z2; cases z2)
          · exact absurd ⟨d1, g1⟩ z2
        · exact e6
    · rcases unlock_get h with ⟨_, _, _, ⟨d1, q⟩ | ⟨d1, q⟩⟩ | q | ⟨h1, h2⟩
      · cases q
      · cases q
      · cases q
      · rcases clear_get h1 with ⟨q, _⟩ | ⟨q, _⟩
        · cases q
        · exact r.xc j c ns ds q
    · have mix : ∀ {j k : Nat}, j ∈ is → A j a → A' k a → False := fun {j k} hj z u => by
        rcases x.own a ⟨k, u⟩ with u | u
        · exact nun hj z u
        · exact Mut.some (r0.own j a z).2.2 u
      rcases z with ⟨z1, z2⟩ | ⟨z1, z2⟩ <;> rcases u with ⟨u1, u2⟩ | ⟨u1, u2⟩
      · exact r0.sep j k a hn z2 u2
      · exact mix z1.1 z2 u2
      · exact mix u1.1 u2 z2
      · exact r.sep j k a hn z2 u2
    · rcases z with ⟨z1, z2⟩ | ⟨z1, z2⟩
      · exact mtt z1.1 z2
      · obtain ⟨h1, h2, h3⟩ := r.own j a z2
        exact ⟨h1, fun u => h2 (.inl u), h3⟩
  · refine ⟨⟨x.fro, fun a z => ?_, fun a z => ?_, fun a o e z => x.keep a o e ?_, x.live⟩, fun a z => ?_⟩
    · rcases x.new a z with z | z | ⟨k, z⟩
      · exact .inl z
      · exact .inr (.inl z)
      · exact .inr (.inr ⟨k, z.2⟩)
    · obtain ⟨j, ⟨z1, z2⟩ | ⟨z1, z2⟩⟩ := z
      · exact .inl ⟨j, z2⟩
      · rcases x.own a ⟨j, z2⟩ with ⟨k, z⟩ | z
        · exact .inl ⟨k, z.2⟩
        · exact .inr z
    · exact z.imp (fun z ⟨k, u⟩ => z ⟨k, u.2⟩) id
    · obtain ⟨j, ⟨z1, z2⟩ | ⟨z1, z2⟩⟩ := z
      · exact .inr ⟨j, z1.1, z2⟩
      · exact .inl ⟨j, z2⟩
theorem un_back {A0 : Nat → Sets} {is : List Nat} {a : Addr} (h : Un (backA A0 A is) a) : Un A a ∨ ∃ j ∈ is, A0 j a := by
  obtain ⟨j, ⟨z1, z2⟩ | ⟨z1, z2⟩⟩ := h
  · exact .inr ⟨j, z1, z2⟩
  · exact .inl ⟨j, z2⟩
/-- more may be shown -/
theorem RS.wide (r : RS K cl fx F L H σ env A) {v' : Nat → Sets} (hv : ∀ j a, fx.v j a → v' j a) (hl : ∀ j a, v' j a → L a) : RS K cl ⟨fx.x, fx.p, fx.l, v'⟩ F L H σ env A where
  len := r.len
  me := r.me
  mp := r.mp
  vw := fun i d e => by
    obtain ⟨v, f, h1, h2, h3⟩ := r.vw i d e
    exact ⟨v, f, h1, h2, fun a z => hv i a (h3 a z)⟩
  lk := fun i d e => by
    obtain ⟨v, f, h1, h2, h3, h4⟩ := r.lk i d e
    exact ⟨v, f, h1, h2, fun a z => hv i a (h3 a z), h4⟩
  xc := r.xc
  sep := r.sep
  own := r.own
  dom := r.dom
  vl := hl
/-- a temporary node changed -/
theorem Kp.at1 {S : Sets} {D : Addr} {o : HO} (hF : ¬ F D) (hS : ¬ S D) (hm : Mut (H D)) : Kp F H S F (upd H D o) :=
  ⟨fun _ z => z, fun a u e z => by
    by_cases ha : a = D
    · subst ha
      rcases z with z | z | z
      · exact (hF z).elim
      · exact (hS z).elim
      · exact (z (by rw [← e]; exact hm)).elim
    · rw [upd_ne ha]; exact e⟩
theorem RS.at1 (r : RS K cl fx F L H σ env A) {D : Addr} {o : HO} (t : ∀ a, a = D → ¬ F a ∧ ¬ L a ∧ ¬ Un A a ∧ Mut (H a)) : RS K cl fx F L (upd H D o) σ env A := by
  obtain ⟨t1, t2, t3, t4⟩ := t D rfl
  have kp : ∀ {S : Sets}, ¬ S D → Kp F H S F (upd H D o) := fun hS => Kp.at1 t1 hS t4
  refine ⟨r.len, fun i d e => ?_, fun i d e => ?_, fun i d e => ?_, fun i d e => ?_, fun i c ns ds e => ?_, r.sep, fun i a z => ?_, fun a z => ?_, r.vl⟩
  · obtain ⟨v, h1, h2⟩ := r.me i d e
    exact ⟨v, h1, h2.kp (kp fun z => t3 ⟨i, z⟩)⟩
  · obtain ⟨v, h1, h2, h3⟩ := r.mp i d e
    exact ⟨v, h1, h2.kp (kp fun z => t3 ⟨i, z⟩), h3⟩
  · obtain ⟨v, f, h1, h2, h3⟩ := r.vw i d e
    exact ⟨v, f, h1, h2.kp (kp fun z => t2 (r.vl i _ (h3 _ z))), h3⟩
  · obtain ⟨v, f, h1, h2, h3, h4⟩ := r.lk i d e
    exact ⟨v, f, h1, h2.kp (kp fun z => t2 (r.vl i _ (h3 _ z))), h3, h4⟩
  · obtain ⟨a, dx, vs, h1, h2, h3, h4, h5⟩ := r.xc i c ns ds e
    have kk : Kp F H E0s F (upd H D o) := kp fun z => z
    exact ⟨a, dx, vs, h1, h2, kk.keep _ _ h3 (.inr (.inr fun z => z)), h4, h5.kp kk⟩
  · obtain ⟨h1, h2, h3⟩ := r.own i a z
    have ha : a ≠ D := fun e => t3 ⟨i, e ▸ z⟩
    exact ⟨h1, h2, by rw [upd_ne ha]; exact h3⟩
  · by_cases ha : a = D
    · subst ha; rw [upd_same]; intro z; cases z
    · rw [upd_ne ha]; exact r.dom a z
end
end Wv

set_option Elab.async false
set_option linter.all false
set_option maxRecDepth 100000
/-! Wv13: targets; what loops walk. -/
namespace Wv
open PySem PySem.Spec PyProof.Rows L2
/-! ### targets -/
/-- lo: the names that may be set here -/
def LoOk (X : Cx) (lo : Str → Bool) : Prop := ∀ x, lo x = true → Loc X.env.scope x ∧ (X.fn x = true ∨ X.env.scope.names.lookup x = some .local)
section
variable {X : Cx}
def wG (X : Cx) (tg : Expr) : TG := fun v σ H Q => ∀ pins s u, Inv X pins σ H s → RelV v u → wpAny (model X.prog X.w) X.A (assign tg X.env u) (fun _ s' => ∃ σ' H', Inv X pins σ' H' s' ∧ Q σ' H') X.xe s
theorem pg_w {tg : Expr} : PG X tg (wG X tg) := ⟨fun pins s σ H v u Q I r h => h pins s u I r⟩
theorem to_wG {tg : Expr} {t : TG} {v : V} {σ : L2.St} {H : Hp} {Q : L2.St → Hp → Prop} (h : PG X tg t) (q : t v σ H Q) : wG X tg v σ H Q := fun pins s u I r => h.run pins s σ H v u Q I r q
def wGs (X : Cx) : List Expr → TGs
  | [] => gNil
  | e :: es => gCons (wG X e) (wGs X es)
theorem ase_cons {e : Expr} {es : List Expr} {env : PySem.Env} (h : nst e = true) : assignEach (e :: es) env = (false, assign e env) :: assignEach es env := by
  cases e <;> first | rfl | cases h
theorem pgs_w : ∀ {es : List Expr}, nsts es = true → PGs X es (wGs X es)
  | [], _ => pgs_nil
  | e :: es, h => by
    simp only [nsts, Bool.and_eq_true] at h
    exact pgs_cons pg_w (pgs_w h.2) (by rw [ase_cons h.1]; rfl)
theorem ase_len {env : PySem.Env} : ∀ {es : List Expr}, nsts es = true → (assignEach es env).length = es.length ∧ (assignEach es env).findIdx? (·.1) = none
  | [], _ => ⟨rfl, rfl⟩
  | e :: es, h => by
    simp only [nsts, Bool.and_eq_true] at h
    obtain ⟨h1, h2⟩ := ase_len (env := env) h.2
    rw [ase_cons h.1]
    exact ⟨by simp [h1], by simp [List.findIdx?_cons, h2]⟩
end
theorem erPs_nsts {N : List Str} {lo : Str → Bool} : ∀ (ps : List Pat) (es : List Expr), erPs N lo ps es = true → nsts es = true
  | [], [], _ => rfl
  | [], _ :: _, h => by simp [erPs] at h
  | _ :: _, [], h => by simp [erPs] at h
  | p :: ps, e :: es, h => by
    simp only [erPs, Bool.and_eq_true] at h
    simp only [nsts, h.1.1, erPs_nsts ps es h.2, Bool.and_self]
theorem lwipe_set {σ : L2.St} {i : Nat} {o : Option V} : ∀ {is : List Nat}, i ∈ is → L2.wipe (σ.set i o) is = L2.wipe σ is
  | [], h => by cases h
  | j :: js, h => by
    simp only [L2.wipe]
    by_cases hj : i ∈ js
    · rw [lwipe_set hj]
    · have e : i = j := by simpa [hj] using h
      subst e
      have key : ∀ {ks : List Nat} {σ : L2.St}, i ∉ ks → L2.wipe (σ.set i o) ks = (L2.wipe σ ks).set i o := by
        intro ks
        induction ks with
        | nil => intro σ _; rfl
        | cons k ks ih =>
          intro σ h
          simp only [List.mem_cons, not_or] at h
          simp only [L2.wipe]
          rw [ih h.2, List.set_comm _ _ h.1]
      rw [key hj, List.set_set]
section
variable {X : Cx} {cl : String → Addr} {fx : Fx} {lo : Str → Bool}
mutual
theorem bind_ok (hN : X.N.Nodup) (hc : X.calm = true) (hlo : LoOk X lo) : ∀ (p : Pat) (tg : Expr), erP X.N lo p tg = true → ∀ {F L : Sets} {H : Hp} {σ : L2.St} {env env' : Env} {A : Nat → Sets} {d : D} {v : V} {f : Sets}, RS X.K cl fx F L H σ env A → bindP p d env = some env' → Rp X.K cl F H d v f → (∀ i ∈ patV p, ∀ a, f a → fx.v i a) →
    ∀ {Q : L2.St → Hp → Prop}, (∀ σ' A', RS X.K cl fx F L H σ' env' A' → (∀ a, Un A' a → Un A a) → (∀ is, (∀ i ∈ patV p, i ∈ is) → L2.wipe σ' is = L2.wipe σ is) → Q σ' H) → wG X tg v σ H Q
  | .v i, tg, er, F, L, H, σ, env, env', A, d, v, f, r, hb, rp, hf, Q, q => by
    cases tg <;> (try simp [erP] at er)
    rename_i x p
    obtain ⟨h1, h2⟩ := hlo x er.2
    refine to_wG (pg_name hN er.1 h1 h2) ?_
    have hi : i < env.length := by
      rw [← r.len]
      simp only [bindP] at hb
      rw [r.len]
      by_cases hi : i < env.length
      · exact hi
      · rw [List.getElem?_eq_none (by omega)] at hb; simp at hb
    have hb' : env' = env.set i (if d.stb then .me d else .br d) := by
      simp only [bindP] at hb
      split at hb
      · cases hb
      · cases hb
      · cases hb; rfl
      · cases hb
    subst hb'
    have un0 : ∀ a, Un (onA A i E0s) a → Un A a := fun a z => (un_onA z).elim id fun z => z.elim
    have hw : ∀ is, (∀ j ∈ patV (.v i), j ∈ is) → L2.wipe (σ.set i (some v)) is = L2.wipe σ is := fun is h => lwipe_set (h i (by simp [patV]))
    by_cases st : d.stb = true
    · rw [if_pos st] at q
      exact q _ _ (r.put (rp.stb st) Tp.e0 hi) un0 hw
    · rw [if_neg st] at q
      exact q _ _ (r.lend rp (hf i (by simp [patV])) hi) un0 hw
  | .tup ps, tg, er, F, L, H, σ, env, env', A, d, v, f, r, hb, rp, hf, Q, q => by
    cases tg <;> (try simp [erP] at er)
    rename_i es k p
    cases d with
    | tup ds =>
      simp only [bindP] at hb
      simp only [Rp] at rp
      obtain ⟨a, vs, rfl, hq, rps⟩ := rp
      have hn := erPs_nsts _ _ er
      obtain ⟨l1, l2⟩ := ase_len (env := X.env) hn
      have hl : vs.length = es.length := by
        rw [← rps.length]
        exact binds_len ps es er hb
      exact to_wG (pg_tup hc (pgs_w hn) l1 l2) ⟨a, vs, rfl, hq, hl, binds_ok hN hc hlo ps es er r hb rps (by simpa [patV] using hf) (by simpa [patV] using q)⟩
    | lst t ds =>
      simp only [bindP] at hb
      obtain ⟨a, vs, rfl, hq, rps⟩ := rp.lst_mono
      have hn := erPs_nsts _ _ er
      obtain ⟨l1, l2⟩ := ase_len (env := X.env) hn
      have hl : vs.length = es.length := by
        rw [← rps.length]
        exact binds_len ps es er hb
      exact to_wG (pg_unl hc (pgs_w hn) l1 l2) ⟨a, vs, rfl, hq, hl, binds_ok hN hc hlo ps es er r hb rps (by simpa [patV] using hf) (by simpa [patV] using q)⟩
    | _ => simp [bindP] at hb
theorem binds_len {N : List Str} {lo : Str → Bool} : ∀ (ps : List Pat) (es : List Expr), erPs N lo ps es = true → ∀ {ds : List D} {env env' : Env}, bindPs ps ds env = some env' → ds.length = es.length
  | [], [], _, ds, env, env', h => by cases ds <;> simp [bindPs] at h ⊢
  | [], _ :: _, er, _, _, _, _ => by simp [erPs] at er
  | _ :: _, [], er, _, _, _, _ => by simp [erPs] at er
  | p :: ps, e :: es, er, ds, env, env', h => by
    simp only [erPs, Bool.and_eq_true] at er
    cases ds with
    | nil => simp [bindPs] at h
    | cons d ds =>
      simp only [bindPs] at h
      split at h
      · simp [binds_len ps es er.2 h]
      · cases h
theorem binds_ok (hN : X.N.Nodup) (hc : X.calm = true) (hlo : LoOk X lo) : ∀ (ps : List Pat) (es : List Expr), erPs X.N lo ps es = true → ∀ {F L : Sets} {H : Hp} {σ : L2.St} {env env' : Env} {A : Nat → Sets} {ds : List D} {vs : List V} {f : Sets}, RS X.K cl fx F L H σ env A → bindPs ps ds env = some env' → Rps X.K cl F H ds vs f → (∀ i ∈ patVs ps, ∀ a, f a → fx.v i a) →
    ∀ {Q : L2.St → Hp → Prop}, (∀ σ' A', RS X.K cl fx F L H σ' env' A' → (∀ a, Un A' a → Un A a) → (∀ is, (∀ i ∈ patVs ps, i ∈ is) → L2.wipe σ' is = L2.wipe σ is) → Q σ' H) → wGs X es vs σ H Q
  | [], es, er, F, L, H, σ, env, env', A, ds, vs, f, r, hb, rp, hf, Q, q => by
    cases es with
    | nil =>
      cases ds with
      | nil =>
        simp only [bindPs, Option.some.injEq] at hb
        simp only [Rps] at rp
        subst rp hb
        exact ⟨rfl, q σ A r (fun a z => z) fun is _ => rfl⟩
      | cons d ds => simp [bindPs] at hb
    | cons e es => simp [erPs] at er
  | p :: ps, es, er, F, L, H, σ, env, env', A, ds, vs, f, r, hb, rp, hf, Q, q => by
    cases es with
    | nil => simp [erPs] at er
    | cons e es =>
      simp only [erPs, Bool.and_eq_true] at er
      cases ds with
      | nil => simp [bindPs] at hb
      | cons d ds =>
        simp only [bindPs] at hb
        split at hb
        · rename_i e1 he
          simp only [Rps] at rp
          obtain ⟨v, vs', f1, f2, rfl, r1, r2, _, m1, m2⟩ := rp
          refine ⟨v, vs', rfl, bind_ok hN hc hlo p e er.1.2 r he r1 (fun i hi a z => hf i (by simp [patVs, hi]) a (m1 a z)) fun σ1 A1 rs1 un1 w1 => ?_⟩
          refine binds_ok hN hc hlo ps es er.2 rs1 hb r2 (fun i hi a z => hf i (by simp [patVs, hi]) a (m2 a z)) fun σ2 A2 rs2 un2 w2 => ?_
          exact q σ2 A2 rs2 (fun a z => un1 a (un2 a z)) fun is h => by rw [w2 is fun i hi => h i (by simp [patVs, hi]), w1 is fun i hi => h i (by simp [patVs, hi])]
        · cases hb
end
end
/-! ### what loops walk -/
/-- J gives the items ds, as long as what they show stays -/
def Walk (K : PySem.W.Frag) (cl : String → Addr) (F L : Sets) (H : Hp) (J : It) (ds : List D) : Prop := ∀ F' H', Kp F H L F' H' → J.stop ds.length H' ∧ ∀ i d, ds[i]? = some d → J.go i H' ∧ ∀ x H'', J.yld i H' x H'' → Gr F' H' F' H'' ∧ ∃ f, Rp K cl F' H'' d x f ∧ ∀ a, f a → L a
section
variable {X : Cx}
def wI (X : Cx) (tg iter : Expr) : TI := fun σ H R => ∀ pins s, Inv X pins σ H s → wpAny (model X.prog X.w) X.A (eval iter X.env) (fun v s1 => wpAny (model X.prog X.w) X.A (pyIter v) (PIE X pins σ tg R) X.xe s1) X.xe s
theorem pi_w {tg iter : Expr} : PI X tg iter (wI X tg iter) := ⟨fun pins s σ H R I h => h pins s I⟩
theorem to_wI {tg iter : Expr} {t : TI} {σ : L2.St} {H : Hp} {R : It → Hp → Prop} (h : PI X tg iter t) (q : t σ H R) : wI X tg iter σ H R := fun pins s I => h.run pins s σ H R I q
/-- a list or a tuple, whichever comes -/
theorem wi_seq {tg l : Expr} {σ : L2.St} {H : Hp} {R : It → Hp → Prop} (h : wE X l σ H fun x H1 => ∃ a, x = .ref a ∧ ((∃ xs, SqL X.K H1 a xs ∧ R (Itl X.K a) H1) ∨ ∃ xs, SqT X.K H1 a xs ∧ R (Itt X.K a) H1)) : wI X tg l σ H R := by
  intro pins s I
  refine thn (h pins s I) fun v s1 ⟨x, H1, I1, rv, a, ea, z⟩ => ?_
  subst ea
  cases rv
  have fr : ∀ b ∈ [s1.heap.objs.size], FpOk X pins H1 b := fun b hb => by
    rw [List.mem_singleton.mp hb]
    exact I1.fpOk (Nat.le_refl _) (I1.hok.fresh (Nat.le_refl _))
  rcases z with ⟨xs, hq, q⟩ | ⟨xs, hq, q⟩
  · obtain ⟨its, _, hp, _⟩ := I1.list hq
    exact wpAny_pyIter_list hp.isList ⟨_, _, _, _, H1, rfl, I1.kept (t' := s1.toks) fun b o e => Heap.get?_push_of_some _ e, turn_list a _, ⟨_, Heap.get?_push_size _ rfl, rfl, rfl⟩, fr, q⟩
  · obtain ⟨its, _, hp, _⟩ := I1.tuple hq
    exact wpAny_pyIter_tuple hp ⟨_, _, _, _, H1, rfl, I1.kept (t' := s1.toks) fun b o e => Heap.get?_push_of_some _ e, turn_tuple a _, ⟨_, Heap.get?_push_size _ rfl, rfl, rfl⟩, fr, q⟩
end
section
variable {K : PySem.W.Frag} {cl : String → Addr} {F L : Sets} {H : Hp}
theorem SqL.inj {H : Hp} {a : Addr} {xs ys : List V} (h : Rd H a (.lst xs)) (h' : SqL K H a ys) : True := trivial
/-- the items of a list that is kept -/
theorem walk_list {t : Tg} {ds : List D} {v : V} {f : Sets} (r : Rp K cl F H (.lst t ds) v f) (hf : ∀ a, f a → L a) : ∃ a, v = .ref a ∧ (∃ xs, SqL K H a xs) ∧ Walk K cl F L H (Itl K a) ds := by
  obtain ⟨a, vs, rfl, s1, r1⟩ := r.lst_mono
  refine ⟨a, rfl, ⟨vs, s1⟩, fun F' H' kp => ?_⟩
  have r' := r.kp (kp.sub hf)
  obtain ⟨a', vs', e, s2, r2⟩ := r'.lst_mono
  cases e
  have hl := r2.length
  refine ⟨⟨vs', s2, by omega⟩, fun i d hd => ?_⟩
  obtain ⟨w, hw, rw'⟩ := r2.get hd
  refine ⟨⟨vs', w, s2, hw⟩, fun x H'' y => ?_⟩
  obtain ⟨rfl, y⟩ := y
  have e := y vs' s2
  rw [hw] at e; cases e
  exact ⟨Gr.refl, f, rw', hf⟩
theorem walk_tup {ds : List D} {v : V} {f : Sets} (r : Rp K cl F H (.tup ds) v f) (hf : ∀ a, f a → L a) : ∃ a, v = .ref a ∧ (∃ xs, SqT K H a xs) ∧ Walk K cl F L H (Itt K a) ds := by
  have r0 := r
  simp only [Rp] at r0
  obtain ⟨a, vs, rfl, s1, r1⟩ := r0
  refine ⟨a, rfl, ⟨vs, s1⟩, fun F' H' kp => ?_⟩
  have r' := r.kp (kp.sub hf)
  simp only [Rp] at r'
  obtain ⟨a', vs', e, s2, r2⟩ := r'
  cases e
  have hl := r2.length
  refine ⟨⟨vs', s2, by omega⟩, fun i d hd => ?_⟩
  obtain ⟨w, hw, rw'⟩ := r2.get hd
  refine ⟨⟨vs', w, s2, hw⟩, fun x H'' y => ?_⟩
  obtain ⟨rfl, y⟩ := y
  have e := y vs' s2
  rw [hw] at e; cases e
  exact ⟨Gr.refl, f, rw', hf⟩
theorem walk_rng {i j : Int} {ds : List D} (h : rangeD i j = some ds) : (-(2 ^ 62) ≤ i ∧ i < 2 ^ 62 ∧ -(2 ^ 62) ≤ j ∧ j < 2 ^ 62) ∧ Walk K cl F L H (Itr i (j - i).toNat) ds := by
  unfold rangeD at h
  split at h
  · rename_i hc
    cases h
    refine ⟨hc, fun F' H' kp => ⟨by show (j - i).toNat ≤ _; simp, fun k d hd => ?_⟩⟩
    rw [List.getElem?_map] at hd
    simp only [Option.map_eq_some_iff] at hd
    obtain ⟨m, hm, rfl⟩ := hd
    obtain ⟨hlt, e⟩ := List.getElem?_eq_some_iff.mp hm
    rw [List.length_range] at hlt
    rw [List.getElem_range] at e
    subst e
    refine ⟨hlt, fun x H'' y => ?_⟩
    obtain ⟨rfl, rfl⟩ := y
    exact ⟨Gr.refl, E0s, by simp only [Rp], fun _ z => z.elim⟩
  · cases h
end
end Wv

set_option Elab.async false
set_option linter.all false
set_option maxRecDepth 100000
/-! Wv13b: enumerate and zip over lists and tuples. -/
namespace Wv
open PySem PySem.Spec PyProof.Rows L2
/-! ### a list (true) or a tuple (false) -/
def SqB (K : PySem.W.Frag) (H : Hp) : Bool → Addr → List V → Prop
  | true, a, xs => SqL K H a xs
  | false, a, xs => SqT K H a xs
def Seq2 (h : Heap) : Bool → Addr → Array Value → Prop
  | true, a, xs => h.IsList a xs
  | false, a, xs => h.IsTuple a xs
def It2 (h : Heap) : Bool → Addr → Addr → Nat → Prop
  | true, it, a, i => h.IsListIter it a i
  | false, it, a, i => h.IsTupleIter it a i
def begO : Bool → Addr → Obj
  | true, l => { cls := .type "list_iterator", data := .fields #[.ref l, .int 0 0] }
  | false, l => { cls := .type "tuple_iterator", data := .fields #[.ref l, .int 0 0] }
theorem It2.at' {h h' : Heap} : ∀ {b : Bool} {it a : Addr} {i : Nat}, It2 h b it a i → (∀ o, h.get? it = some o → h'.get? it = some o) → It2 h' b it a i
  | true, _, _, _, x, k => Heap.IsListIter.at x k
  | false, _, _, _, x, k => Heap.IsTupleIter.at x k
theorem It2.ob {h : Heap} : ∀ {b : Bool} {it a : Addr} {i : Nat}, It2 h b it a i → ∃ o, h.get? it = some o ∧ ∀ v, o.data ≠ .cell v
  | true, _, _, _, ⟨o, e, _, d⟩ => ⟨o, e, fun v z => by rw [d] at z; cases z⟩
  | false, _, _, _, ⟨o, e, _, d⟩ => ⟨o, e, fun v z => by rw [d] at z; cases z⟩
theorem It2.beg {h : Heap} : ∀ {b : Bool} {it a : Addr}, h.get? it = some (begO b a) → It2 h b it a 0
  | true, _, _, e => ⟨_, e, rfl, rfl⟩
  | false, _, _, e => ⟨_, e, rfl, rfl⟩
theorem draws2 {prog : Program} {w : World} {A : Around} (hh : A.handled = none) (it a : Addr) (hne : a ≠ it) (items : Array Value) : ∀ b : Bool,
    Draws prog w A it [it, a] items.size (fun i v => items[i]? = some v) (fun i h => It2 h b it a i ∧ Seq2 h b a items)
  | true => Draws.list hh it a hne items
  | false => Draws.tuple hh it a hne items
theorem begins2 (a : Addr) (items : Array Value) : ∀ b : Bool, Begins (.ref a) (begO b a) fun h => Seq2 h b a items
  | true => begins_list a items
  | false => begins_tuple a items
section
variable {X : Cx} {pins : List (Addr × Obj)} {σ : L2.St} {H : Hp} {s : Shared} {a : Addr} {xs ys : List V}
theorem invSeq (I : Inv X pins σ H s) : ∀ {b : Bool}, SqB X.K H b a xs → ∃ its : List Value, Vals xs its ∧ Seq2 s.heap b a its.toArray ∧ xs.length ≤ sizeLine ∧ a < s.heap.objs.size
  | true, h => by
    obtain ⟨its, r, p, z⟩ := I.list h
    have q := p.isList
    obtain ⟨o, e, _⟩ := id q
    exact ⟨its, r, q, z, Heap.lt_size e⟩
  | false, h => by
    obtain ⟨its, r, p, z⟩ := I.tuple h
    obtain ⟨o, e, _⟩ := id p
    exact ⟨its, r, p, z, Heap.lt_size e⟩
theorem invInj (I : Inv X pins σ H s) : ∀ {b : Bool}, SqB X.K H b a xs → SqB X.K H b a ys → xs = ys
  | true, h, h' => I.list_inj h h'
  | false, h, h' => I.tuple_inj h h'
end
/-! ### enumerate -/
def IteB (K : PySem.W.Frag) (b : Bool) (a : Addr) : It :=
  ⟨fun i H => ∃ (xs : List V) (x : V), SqB K H b a xs ∧ xs[i]? = some x, fun i H v H' => ∃ T x, v = .ref T ∧ H T = none ∧ H' = upd H T (.tup [.int (i : Nat), x]) ∧ ∀ xs, SqB K H b a xs → xs[i]? = some x, fun i H => ∃ xs : List V, SqB K H b a xs ∧ xs.length = i⟩
theorem turn_enumB {P : Program} {w : World} {K : PySem.W.Frag} {elts : List Expr} {kk : Nat} {tpos : Pos} (b : Bool) (a e it : Addr) (hne : e ≠ it) (hea : e ≠ a) (hai : a ≠ it) :
    Turn P w K (.Tuple elts kk tpos) (IteB K b a) [e, it] e (fun i h => (∃ old, IsEnum h e it ((i : Nat) : Int) old) ∧ It2 h b it a i) where
  mem := by simp
  obj := fun i h st c hc => by
    obtain ⟨⟨old, he⟩, hit⟩ := st
    have e' : c = e ∨ c = it := by simpa using hc
    rcases e' with z | z
    · rw [z]; exact ⟨_, he, fun v q => nomatch q⟩
    · rw [z]; exact hit.ob
  keep := fun i h h' st k => by
    obtain ⟨⟨old, he⟩, hit⟩ := st
    exact ⟨⟨old, k e (by simp) _ he⟩, hit.at' fun o q => k it (by simp) o q⟩
  item := by
    intro X hP hw hK hc i pins s σ H E I hf st hg
    subst hP hw hK
    obtain ⟨⟨old, he⟩, hit⟩ := st
    obtain ⟨xs, x, hq, hx⟩ := hg
    obtain ⟨its, rv, p, hz, _⟩ := invSeq I hq
    obtain ⟨u, hu, ru⟩ := rv.get hx
    have hel : e < s.heap.objs.size := Heap.lt_size he
    have hil : it < s.heap.objs.size := by obtain ⟨_, q, _⟩ := hit.ob; exact Heap.lt_size q
    have hlt : i < its.toArray.size := by
      have := (List.getElem?_eq_some_iff.mp hu).1
      simpa using this
    refine wpAny_pyNext_enum_itemD (draws2 (A := X.A.in1) (I.ok.hd hc) it a hai its.toArray b) he ⟨hit, p⟩ hlt hne (by simp [hne, hea]) fun u' h' tk hP ho st' hT hsz hk => ?_
    have eu : u' = u := by
      have hP : its.toArray[i]? = some u' := hP
      have : its[i]? = some u' := by simpa using hP
      rw [hu] at this; cases this; rfl
    subst eu
    refine ⟨_, rfl, wpAny_letOwnedTupleGo_enum (s := { s with heap := h', toks := tk + 1 }) ho fun h'' he' sb => ?_⟩
    have hT2 : h''.get? s.heap.objs.size = some { cls := .type "tuple", data := .seq #[.int i tk, u'] } := (sb.2 _ (Nat.ne_of_gt hel)).trans hT
    have new : ObjOk X.prog X.w (upd H s.heap.objs.size (.tup [.int (i : Nat), x])) h'' s.heap.objs.size (.tup [.int (i : Nat), x]) :=
      ⟨by show 2 ≤ sizeLine; decide, [.int i tk, u'], .cons ⟨_, rfl⟩ (.cons ru .nil), ⟨_, hT2, rfl, _, rfl⟩⟩
    have I1 : Inv X pins σ (upd H s.heap.objs.size (.tup [.int (i : Nat), x])) { s with heap := h'', toks := tk + 1 } :=
      I.turnedNew (ch := [e, it]) (fun c ob hb q => (sb.2 c (fun z => hb (by simp [z]))).trans (hk c ob (fun z => hb (by simp [z])) (fun z => hb (by simp [z])) q)) hf (Nat.le_refl _) new
    refine ⟨.ref s.heap.objs.size, _, I1, rfl, ⟨_, x, rfl, I.hok.fresh (Nat.le_refl _), rfl, fun ys hy => by rw [invInj I hy hq]; exact hx⟩, ⟨⟨u', ?_⟩, st'.1.at' fun o q => (sb.2 it (Ne.symm hne)).trans q⟩, fun c hb => ?_⟩
    · have e1 : ((i + 1 : Nat) : Int) = (i : Int) + 1 := by omega
      rw [e1]; exact he'
    · have hb' : c < s.heap.objs.size := by
        have e' : c = e ∨ c = it := by simpa using hb
        rcases e' with z | z
        · rw [z]; exact hel
        · rw [z]; exact hil
      rw [upd_ne (Nat.ne_of_lt hb')]
      exact (hf c hb).1
  done := by
    intro X hP hw hK hc i pins s σ H E I hf st hg
    subst hP hw hK
    obtain ⟨⟨old, he⟩, hit⟩ := st
    obtain ⟨xs, hq, hx⟩ := hg
    obtain ⟨its, rv, p, hz, _⟩ := invSeq I hq
    obtain ⟨f0, f1, f2, f3, f4, f5⟩ := hf it (by simp)
    have hl := rv.length
    have hn : its.toArray.size = i := by simp; omega
    refine wpAny_pyNext_enum_endD (draws2 (A := X.A.in1) (I.ok.hd hc) it a hai its.toArray b) he (by rw [hn]; exact ⟨hit, p⟩) fun h' eb => ⟨rfl, I.turned (t' := s.toks) (fun c o hb q => eb c o hb q) f0 f1 f3 f4 f5⟩
  self := fun A i s Q E st h => let ⟨⟨_, he⟩, _⟩ := st; wpAny_pyIter_enum he h
set_option maxHeartbeats 1000000 in
theorem meets_enum1 {v : Value} {o : Obj} {H : Heap → Prop} (B : Begins v o H) :
    Meets (Builtin.«enumerate.__new__» ⟨[.type "enumerate", v], []⟩) (fun _ R s => H s.heap ∧
      R (.ok (.ret (.ref (s.heap.push o).objs.size))) { s with heap := (s.heap.push o).push { cls := .type "enumerate", data := .fields #[.none, .bool false, .ref s.heap.objs.size, rawInt 0, .none, .none] } }) :=
  .of_wp fun prog w A R s h => by
    obtain ⟨hp, g, d, tk, os⟩ := s; obtain ⟨h1, h⟩ := h
    have hsub := sub_enumerate
    have q1 : ∀ {A' : Around} {E : Value → Shared → Prop} {Q : Value → Shared → Prop}, Q (.ref hp.objs.size) ⟨hp.push o, g, d, tk, os⟩ → wpAny (model prog w) A' (pyIter v) Q E ⟨hp, g, d, tk, os⟩ :=
      fun q => B.iter prog w _ _ ⟨hp, g, d, tk, os⟩ _ h1 q
    wp_walk using q1
    refine wpAny_stack_any fun st => wpAny_pure ?_
    split
    · rename_i c _ _ _ _ _
      cases (c == Value.type "enumerate")
      · wp_walk using q1
        exact ⟨_, rfl, h⟩
      · wp_walk using q1
        exact ⟨_, rfl, h⟩
    · wp_walk using q1
      exact ⟨_, rfl, h⟩
theorem enum1_begins {prog : Program} {w : World} {A : Around} {E : Value → Shared → Prop} {s : Shared} {v : Value} {o : Obj} {H : Heap → Prop} {Q : Value → Shared → Prop} (B : Begins v o H) (h1 : H s.heap)
    (h : ∀ h', IsEnum h' (s.heap.objs.size + 1) s.heap.objs.size 0 .none → h'.get? s.heap.objs.size = some o → h'.objs.size = s.heap.objs.size + 2 →
      (∀ b o, s.heap.get? b = some o → h'.get? b = some o) → Q (.ref (s.heap.objs.size + 1)) { s with heap := h' }) :
    wpAny (model prog w) A (call (.type "enumerate") [v]) Q E s := by
  refine callType_new F.called_enumerate (by decide) (F.typeCall_enumerate_1 _) (F.newCall_enumerate_1 _) (fun obj => F.args_object_init_2 obj _) F.entry_enumerate_new
    (meets_enum1 B) ⟨h1, ?_⟩
  have hz : (s.heap.push o).objs.size = s.heap.objs.size + 1 := Heap.size_push ..
  show _ ∧ _
  rw [hz]
  have he : IsEnum ((s.heap.push o).push { cls := .type "enumerate", data := .fields #[.none, .bool false, .ref s.heap.objs.size, rawInt 0, .none, .none] }) (s.heap.objs.size + 1) s.heap.objs.size 0 .none := by
    have := Heap.get?_push_size (s.heap.push o) (o := { cls := .type "enumerate", data := .fields #[.none, .bool false, .ref s.heap.objs.size, rawInt 0, .none, .none] }) rfl
    rw [hz] at this; exact this
  refine ⟨⟨_, he, rfl⟩, h _ he (Heap.get?_push_of_some _ (Heap.get?_push_size _ B.free)) (by rw [Heap.size_push, hz]) fun b o x => Heap.get?_push_of_some _ (Heap.get?_push_of_some _ x)⟩
def iEnumB (K : PySem.W.Frag) (ta : TA) : TI := fun σ H R => ta σ H fun vs H1 => ∃ b a xs, vs = [.ref a] ∧ SqB K H1 b a xs ∧ R (IteB K b a) H1
theorem pi_enumB {X : Cx} {e : Expr} {ta : TA} {p pos tpos : Pos} {elts : List Expr} {kk : Nat} (hg : Gl X "enumerate") (hm : X.mg "enumerate" = none) (ha : PA X [e] ta) (hs : starEach [e] X.env = [(false, eval e X.env)]) :
    PI X (.Tuple elts kk tpos) (.Call (.Name "enumerate" p) [e] [] pos) (iEnumB X.K ta) := by
  refine ⟨fun pins s σ H R I h => ?_⟩
  refine Call_ (ld_blt I hg hm boot_enumerate (PyProof.Rows.callWith_type1 (thn (ha.run pos pins s σ H _ I h) fun us s1 ⟨vs, H1, I1, r1, q1⟩ => ?_) hs rfl))
  obtain ⟨b, a, xs, ex, hq, q⟩ := q1
  subst ex
  cases r1 with
  | cons r rr =>
    cases rr
    cases r
    obtain ⟨its, rv, p', hz, hlt⟩ := invSeq I1 hq
    refine enum1_begins (begins2 a its.toArray b) p' fun h' he hit hsz hk => wpAny_pyIter_enum he ?_
    have I2 : Inv X pins σ H1 { s1 with heap := h' } := I1.kept (t' := s1.toks) hk
    refine ⟨s1.heap.objs.size + 1, [s1.heap.objs.size + 1, s1.heap.objs.size], _, _, H1, rfl, I2, turn_enumB b a (s1.heap.objs.size + 1) s1.heap.objs.size (Nat.succ_ne_self _) (Nat.ne_of_gt (Nat.lt_succ_of_lt hlt)) (Nat.ne_of_lt hlt), ⟨⟨.none, he⟩, It2.beg hit⟩, fun c hb => ?_, q⟩
    have e' : c = s1.heap.objs.size + 1 ∨ c = s1.heap.objs.size := by simpa using hb
    have hle : s1.heap.objs.size ≤ c := by
      rcases e' with z | z
      · rw [z]; exact Nat.le_add_right _ _
      · rw [z]; exact Nat.le_refl _
    exact I1.fpOk hle (I1.hok.fresh hle)
/-! ### zip of 2 -/
def Itz2 (K : PySem.W.Frag) (b1 b2 : Bool) (a1 a2 : Addr) : It :=
  ⟨fun i H => ∃ (xs1 : List V) (xs2 : List V) (x1 : V) (x2 : V), SqB K H b1 a1 xs1 ∧ SqB K H b2 a2 xs2 ∧ xs1[i]? = some x1 ∧ xs2[i]? = some x2,
    fun i H v H' => ∃ T x1 x2, v = .ref T ∧ H T = none ∧ H' = upd H T (.tup [x1, x2]) ∧ (∀ xs, SqB K H b1 a1 xs → xs[i]? = some x1) ∧ (∀ xs, SqB K H b2 a2 xs → xs[i]? = some x2),
    fun i H => ∃ (xs1 : List V) (xs2 : List V), SqB K H b1 a1 xs1 ∧ SqB K H b2 a2 xs2 ∧ i ≤ xs1.length ∧ i ≤ xs2.length ∧ (i = xs1.length ∨ i = xs2.length)⟩
theorem turn_zipB2 {P : Program} {w : World} {K : PySem.W.Frag} {elts : List Expr} {kk : Nat} {tpos : Pos} (b1 b2 : Bool) {a1 a2 z TI TO i1 i2 : Addr} (D : ZipSep2 z TI TO i1 i2 [i1, a1] [i2, a2]) (hai1 : a1 ≠ i1) (hai2 : a2 ≠ i2) :
    Turn P w K (.Tuple elts kk tpos) (Itz2 K b1 b2 a1 a2) [z, TI, TO, i1, i2] z (fun i h => IsZip h z TI TO .none ∧ IsTupOf2 h TI (.ref i1) (.ref i2) ∧ (∃ y1 y2, IsTupOf2 h TO y1 y2) ∧ It2 h b1 i1 a1 i ∧ It2 h b2 i2 a2 i) where
  mem := by simp
  obj := fun i h st c hc => by
    obtain ⟨hz, hTI, ⟨y1, y2, hTO⟩, st1, st2⟩ := st
    have e' : c = z ∨ c = TI ∨ c = TO ∨ c = i1 ∨ c = i2 := by simpa using hc
    rcases e' with q | q | q | q | q
    · rw [q]; exact ⟨_, hz, fun v q => nomatch q⟩
    · rw [q]; exact ⟨_, hTI, fun v q => nomatch q⟩
    · rw [q]; exact ⟨_, hTO, fun v q => nomatch q⟩
    · rw [q]; exact st1.ob
    · rw [q]; exact st2.ob
  keep := fun i h h' st k => by
    obtain ⟨hz, hTI, ⟨y1, y2, hTO⟩, st1, st2⟩ := st
    exact ⟨k z (by simp) _ hz, k TI (by simp) _ hTI, ⟨y1, y2, k TO (by simp) _ hTO⟩, st1.at' fun o q => k i1 (by simp) o q, st2.at' fun o q => k i2 (by simp) o q⟩
  item := by
    intro X hP hw hK hc i pins s σ H E I hf st hg
    subst hP hw hK
    obtain ⟨hz, hTI, ⟨y1, y2, hTO⟩, st1, st2⟩ := st
    obtain ⟨xs1, xs2, x1, x2, hq1, hq2, hx1, hx2⟩ := hg
    obtain ⟨its1, rv1, p1, _, _⟩ := invSeq I hq1
    obtain ⟨u1, hu1, ru1⟩ := rv1.get hx1
    have hl1 : i < its1.toArray.size := by
      have := (List.getElem?_eq_some_iff.mp hu1).1
      simpa using this
    obtain ⟨its2, rv2, p2, _, _⟩ := invSeq I hq2
    obtain ⟨u2, hu2, ru2⟩ := rv2.get hx2
    have hl2 : i < its2.toArray.size := by
      have := (List.getElem?_eq_some_iff.mp hu2).1
      simpa using this
    have hzl : z < s.heap.objs.size := Heap.lt_size hz
    refine wpAny_pyNext_zipD2_item D (draws2 (A := X.A.in1) (I.ok.hd hc) i1 a1 (hai1) its1.toArray b1) (draws2 (A := X.A.in1) (I.ok.hd hc) i2 a2 (hai2) its2.toArray b2) hz hTI hTO ⟨st1, p1⟩ ⟨st2, p2⟩ hl1 hl2 fun v1 v2 h' tk hP1 hP2 z' TO' sn1 sn2 hT hsz hk => ?_
    have eu1 : v1 = u1 := by
      have hP1 : its1.toArray[i]? = some v1 := hP1
      have : its1[i]? = some v1 := by simpa using hP1
      rw [hu1] at this; cases this; rfl
    subst eu1
    have eu2 : v2 = u2 := by
      have hP2 : its2.toArray[i]? = some v2 := hP2
      have : its2[i]? = some v2 := by simpa using hP2
      rw [hu2] at this; cases this; rfl
    subst eu2
    refine ⟨_, rfl, wpAny_letOwnedTupleGo_zip (s := { s with heap := h', toks := tk }) z' fun h'' z'' sb => ?_⟩
    have hT2 : h''.get? s.heap.objs.size = some { cls := .type "tuple", data := .seq #[v1, v2] } := (sb.2 _ (Nat.ne_of_gt hzl)).trans hT
    have new : ObjOk X.prog X.w (upd H s.heap.objs.size (.tup [x1, x2])) h'' s.heap.objs.size (.tup [x1, x2]) :=
      ⟨by show 2 ≤ sizeLine; decide, [v1, v2], .cons ru1 (.cons ru2 (.nil)), ⟨_, hT2, rfl, _, rfl⟩⟩
    have I1 : Inv X pins σ (upd H s.heap.objs.size (.tup [x1, x2])) { s with heap := h'', toks := tk } :=
      I.turnedNew (ch := [z, TI, TO, i1, i2]) (fun c o hb q => (sb.2 c (fun q' => hb (by simp [q']))).trans (hk c o (fun q' => hb (by simp [q'])) (fun q' => hb (by simp [q'])) (fun q' => hb (by simp [q'])) (fun q' => hb (by simp [q'])) q)) hf (Nat.le_refl _) new
    refine ⟨.ref s.heap.objs.size, _, I1, rfl, ⟨_, x1, x2, rfl, I.hok.fresh (Nat.le_refl _), rfl, fun l hl => by rw [invInj I hl hq1]; exact hx1, fun l hl => by rw [invInj I hl hq2]; exact hx2⟩, ⟨z'', ?_, ⟨v1, v2, ?_⟩, ?_, ?_⟩, fun c hcm => ?_⟩
    · exact (sb.2 _ D.TIz).trans (hk _ _ D.TIz D.TITO D.TIi1 D.TIi2 hTI)
    · exact (sb.2 _ D.TOz).trans TO'
    · exact sn1.1.at' fun o q => (sb.2 _ (Ne.symm D.zi1)).trans q
    · exact sn2.1.at' fun o q => (sb.2 _ (Ne.symm D.zi2)).trans q
    · have hlt : c < s.heap.objs.size := by
        have e' : c = z ∨ c = TI ∨ c = TO ∨ c = i1 ∨ c = i2 := by simpa using hcm
        rcases e' with q | q | q | q | q
        · rw [q]; exact hzl
        · rw [q]; exact Heap.lt_size hTI
        · rw [q]; exact Heap.lt_size hTO
        · rw [q]; obtain ⟨_, e1, _⟩ := st1.ob; exact Heap.lt_size e1
        · rw [q]; obtain ⟨_, e1, _⟩ := st2.ob; exact Heap.lt_size e1
      rw [upd_ne (Nat.ne_of_lt hlt)]
      exact (hf c hcm).1
  done := by
    intro X hP hw hK hc i pins s σ H E I hf st hg
    subst hP hw hK
    obtain ⟨hz, hTI, ⟨y1, y2, hTO⟩, st1, st2⟩ := st
    obtain ⟨xs1, xs2, hq1, hq2, le1, le2, hend⟩ := hg
    obtain ⟨its1, rv1, p1, _, _⟩ := invSeq I hq1
    have hl1 := rv1.length
    obtain ⟨its2, rv2, p2, _, _⟩ := invSeq I hq2
    have hl2 := rv2.length
    exact wpAny_pyNext_zipD2_end D (draws2 (A := X.A.in1) (I.ok.hd hc) i1 a1 (hai1) its1.toArray b1) (draws2 (A := X.A.in1) (I.ok.hd hc) i2 a2 (hai2) its2.toArray b2) hz hTI hTO ⟨st1, p1⟩ ⟨st2, p2⟩ (by simp; omega) (by simp; omega) (by simp; omega) fun h' tk hk => ⟨rfl, I.turnedL (t' := tk) (ch := [z, TI, TO, i1, i2]) (fun c o hb q => hk c o (fun q' => hb (by simp [q'])) (fun q' => hb (by simp [q'])) (fun q' => hb (by simp [q'])) (fun q' => hb (by simp [q'])) q) hf⟩
  self := fun A i s Q E st h => wpAny_pyIter_zip st.1 h
def iZipB2 (K : PySem.W.Frag) (ta : TA) : TI := fun σ H R => ta σ H fun vs H1 => ∃ b1 b2 a1 a2 xs1 xs2, vs = [.ref a1, .ref a2] ∧ SqB K H1 b1 a1 xs1 ∧ SqB K H1 b2 a2 xs2 ∧ R (Itz2 K b1 b2 a1 a2) H1
theorem pi_zipB2 {X : Cx} {e1 e2 : Expr} {ta : TA} {p pos tpos : Pos} {elts : List Expr} {kk : Nat} (hg : Gl X "zip") (hm : X.mg "zip" = none) (ha : PA X [e1, e2] ta)
    (hs : starEach [e1, e2] X.env = (false, eval e1 X.env) :: starEach [e2] X.env) (hpl : (backTo pos (starEach [e2] X.env)).any (·.1) = false) :
    PI X (.Tuple elts kk tpos) (.Call (.Name "zip" p) [e1, e2] [] pos) (iZipB2 X.K ta) := by
  refine ⟨fun pins s σ H R I h => ?_⟩
  refine Call_ (ld_blt I hg hm PyProof.Rows.boot_zip (PyProof.Rows.callWith_type1 (thn (ha.run pos pins s σ H _ I h) fun us s1 ⟨vs, H1, I1, r1, q1⟩ => ?_) hs hpl))
  obtain ⟨b1, b2, a1, a2, xs1, xs2, ex, hq1, hq2, q⟩ := q1
  subst ex
  have eus : us = [.ref a1, .ref a2] := by
    rcases r1 with _ | ⟨ra1, r1⟩
    rcases r1 with _ | ⟨ra2, r1⟩
    cases r1
    cases ra1
    cases ra2
    rfl
  subst eus
  obtain ⟨its1, rv1, p1, _, lt1⟩ := invSeq I1 hq1
  obtain ⟨its2, rv2, p2, _, lt2⟩ := invSeq I1 hq2
  refine zip_begins2 (begins2 a1 its1.toArray b1) (begins2 a2 its2.toArray b2) p1 p2 fun h' hz hTI hTO h1 h2 hsz hk => wpAny_pyIter_zip hz ?_
  have I2 : Inv X pins σ H1 { s1 with heap := h' } := I1.kept (t' := s1.toks) hk
  refine ⟨s1.heap.objs.size + 4, [s1.heap.objs.size + 4, s1.heap.objs.size + 2, s1.heap.objs.size + 3, s1.heap.objs.size, s1.heap.objs.size + 1], _, _, H1, rfl, I2, turn_zipB2 b1 b2 (zip_sep2 (fun b hb => by rw [List.mem_singleton.mp hb]; exact lt1) (fun b hb => by rw [List.mem_singleton.mp hb]; exact lt2)) (Nat.ne_of_lt lt1) (Nat.ne_of_lt (Nat.lt_of_lt_of_le lt2 (Nat.le_add_right _ _))), ⟨hz, hTI, ⟨_, _, hTO⟩, It2.beg h1, It2.beg h2⟩, fun c hcm => ?_, q⟩
  have e' : c = s1.heap.objs.size + 4 ∨ c = s1.heap.objs.size + 2 ∨ c = s1.heap.objs.size + 3 ∨ c = s1.heap.objs.size ∨ c = s1.heap.objs.size + 1 := by simpa using hcm
  have hle : s1.heap.objs.size ≤ c := by
    rcases e' with z | z | z | z | z
    · rw [z]; first | exact Nat.le_refl _ | exact Nat.le_add_right _ _
    · rw [z]; first | exact Nat.le_refl _ | exact Nat.le_add_right _ _
    · rw [z]; first | exact Nat.le_refl _ | exact Nat.le_add_right _ _
    · rw [z]; first | exact Nat.le_refl _ | exact Nat.le_add_right _ _
    · rw [z]; first | exact Nat.le_refl _ | exact Nat.le_add_right _ _
  exact I1.fpOk hle (I1.hok.fresh hle)
/-! ### zip of 3 -/
def Itz3 (K : PySem.W.Frag) (b1 b2 b3 : Bool) (a1 a2 a3 : Addr) : It :=
  ⟨fun i H => ∃ (xs1 : List V) (xs2 : List V) (xs3 : List V) (x1 : V) (x2 : V) (x3 : V), SqB K H b1 a1 xs1 ∧ SqB K H b2 a2 xs2 ∧ SqB K H b3 a3 xs3 ∧ xs1[i]? = some x1 ∧ xs2[i]? = some x2 ∧ xs3[i]? = some x3,
    fun i H v H' => ∃ T x1 x2 x3, v = .ref T ∧ H T = none ∧ H' = upd H T (.tup [x1, x2, x3]) ∧ (∀ xs, SqB K H b1 a1 xs → xs[i]? = some x1) ∧ (∀ xs, SqB K H b2 a2 xs → xs[i]? = some x2) ∧ (∀ xs, SqB K H b3 a3 xs → xs[i]? = some x3),
    fun i H => ∃ (xs1 : List V) (xs2 : List V) (xs3 : List V), SqB K H b1 a1 xs1 ∧ SqB K H b2 a2 xs2 ∧ SqB K H b3 a3 xs3 ∧ i ≤ xs1.length ∧ i ≤ xs2.length ∧ i ≤ xs3.length ∧ (i = xs1.length ∨ i = xs2.length ∨ i = xs3.length)⟩
theorem turn_zipB3 {P : Program} {w : World} {K : PySem.W.Frag} {elts : List Expr} {kk : Nat} {tpos : Pos} (b1 b2 b3 : Bool) {a1 a2 a3 z TI TO i1 i2 i3 : Addr} (D : ZipSep3 z TI TO i1 i2 i3 [i1, a1] [i2, a2] [i3, a3]) (hai1 : a1 ≠ i1) (hai2 : a2 ≠ i2) (hai3 : a3 ≠ i3) :
    Turn P w K (.Tuple elts kk tpos) (Itz3 K b1 b2 b3 a1 a2 a3) [z, TI, TO, i1, i2, i3] z (fun i h => IsZip h z TI TO .none ∧ IsTupOf3 h TI (.ref i1) (.ref i2) (.ref i3) ∧ (∃ y1 y2 y3, IsTupOf3 h TO y1 y2 y3) ∧ It2 h b1 i1 a1 i ∧ It2 h b2 i2 a2 i ∧ It2 h b3 i3 a3 i) where
  mem := by simp
  obj := fun i h st c hc => by
    obtain ⟨hz, hTI, ⟨y1, y2, y3, hTO⟩, st1, st2, st3⟩ := st
    have e' : c = z ∨ c = TI ∨ c = TO ∨ c = i1 ∨ c = i2 ∨ c = i3 := by simpa using hc
    rcases e' with q | q | q | q | q | q
    · rw [q]; exact ⟨_, hz, fun v q => nomatch q⟩
    · rw [q]; exact ⟨_, hTI, fun v q => nomatch q⟩
    · rw [q]; exact ⟨_, hTO, fun v q => nomatch q⟩
    · rw [q]; exact st1.ob
    · rw [q]; exact st2.ob
    · rw [q]; exact st3.ob
  keep := fun i h h' st k => by
    obtain ⟨hz, hTI, ⟨y1, y2, y3, hTO⟩, st1, st2, st3⟩ := st
    exact ⟨k z (by simp) _ hz, k TI (by simp) _ hTI, ⟨y1, y2, y3, k TO (by simp) _ hTO⟩, st1.at' fun o q => k i1 (by simp) o q, st2.at' fun o q => k i2 (by simp) o q, st3.at' fun o q => k i3 (by simp) o q⟩
  item := by
    intro X hP hw hK hc i pins s σ H E I hf st hg
    subst hP hw hK
    obtain ⟨hz, hTI, ⟨y1, y2, y3, hTO⟩, st1, st2, st3⟩ := st
    obtain ⟨xs1, xs2, xs3, x1, x2, x3, hq1, hq2, hq3, hx1, hx2, hx3⟩ := hg
    obtain ⟨its1, rv1, p1, _, _⟩ := invSeq I hq1
    obtain ⟨u1, hu1, ru1⟩ := rv1.get hx1
    have hl1 : i < its1.toArray.size := by
      have := (List.getElem?_eq_some_iff.mp hu1).1
      simpa using this
    obtain ⟨its2, rv2, p2, _, _⟩ := invSeq I hq2
    obtain ⟨u2, hu2, ru2⟩ := rv2.get hx2
    have hl2 : i < its2.toArray.size := by
      have := (List.getElem?_eq_some_iff.mp hu2).1
      simpa using this
    obtain ⟨its3, rv3, p3, _, _⟩ := invSeq I hq3
    obtain ⟨u3, hu3, ru3⟩ := rv3.get hx3
    have hl3 : i < its3.toArray.size := by
      have := (List.getElem?_eq_some_iff.mp hu3).1
      simpa using this
    have hzl : z < s.heap.objs.size := Heap.lt_size hz
    refine wpAny_pyNext_zipD3_item D (draws2 (A := X.A.in1) (I.ok.hd hc) i1 a1 (hai1) its1.toArray b1) (draws2 (A := X.A.in1) (I.ok.hd hc) i2 a2 (hai2) its2.toArray b2) (draws2 (A := X.A.in1) (I.ok.hd hc) i3 a3 (hai3) its3.toArray b3) hz hTI hTO ⟨st1, p1⟩ ⟨st2, p2⟩ ⟨st3, p3⟩ hl1 hl2 hl3 fun v1 v2 v3 h' tk hP1 hP2 hP3 z' TO' sn1 sn2 sn3 hT hsz hk => ?_
    have eu1 : v1 = u1 := by
      have hP1 : its1.toArray[i]? = some v1 := hP1
      have : its1[i]? = some v1 := by simpa using hP1
      rw [hu1] at this; cases this; rfl
    subst eu1
    have eu2 : v2 = u2 := by
      have hP2 : its2.toArray[i]? = some v2 := hP2
      have : its2[i]? = some v2 := by simpa using hP2
      rw [hu2] at this; cases this; rfl
    subst eu2
    have eu3 : v3 = u3 := by
      have hP3 : its3.toArray[i]? = some v3 := hP3
      have : its3[i]? = some v3 := by simpa using hP3
      rw [hu3] at this; cases this; rfl
    subst eu3
    refine ⟨_, rfl, wpAny_letOwnedTupleGo_zip (s := { s with heap := h', toks := tk }) z' fun h'' z'' sb => ?_⟩
    have hT2 : h''.get? s.heap.objs.size = some { cls := .type "tuple", data := .seq #[v1, v2, v3] } := (sb.2 _ (Nat.ne_of_gt hzl)).trans hT
    have new : ObjOk X.prog X.w (upd H s.heap.objs.size (.tup [x1, x2, x3])) h'' s.heap.objs.size (.tup [x1, x2, x3]) :=
      ⟨by show 3 ≤ sizeLine; decide, [v1, v2, v3], .cons ru1 (.cons ru2 (.cons ru3 (.nil))), ⟨_, hT2, rfl, _, rfl⟩⟩
    have I1 : Inv X pins σ (upd H s.heap.objs.size (.tup [x1, x2, x3])) { s with heap := h'', toks := tk } :=
      I.turnedNew (ch := [z, TI, TO, i1, i2, i3]) (fun c o hb q => (sb.2 c (fun q' => hb (by simp [q']))).trans (hk c o (fun q' => hb (by simp [q'])) (fun q' => hb (by simp [q'])) (fun q' => hb (by simp [q'])) (fun q' => hb (by simp [q'])) (fun q' => hb (by simp [q'])) q)) hf (Nat.le_refl _) new
    refine ⟨.ref s.heap.objs.size, _, I1, rfl, ⟨_, x1, x2, x3, rfl, I.hok.fresh (Nat.le_refl _), rfl, fun l hl => by rw [invInj I hl hq1]; exact hx1, fun l hl => by rw [invInj I hl hq2]; exact hx2, fun l hl => by rw [invInj I hl hq3]; exact hx3⟩, ⟨z'', ?_, ⟨v1, v2, v3, ?_⟩, ?_, ?_, ?_⟩, fun c hcm => ?_⟩
    · exact (sb.2 _ D.TIz).trans (hk _ _ D.TIz D.TITO D.TIi1 D.TIi2 D.TIi3 hTI)
    · exact (sb.2 _ D.TOz).trans TO'
    · exact sn1.1.at' fun o q => (sb.2 _ (Ne.symm D.zi1)).trans q
    · exact sn2.1.at' fun o q => (sb.2 _ (Ne.symm D.zi2)).trans q
    · exact sn3.1.at' fun o q => (sb.2 _ (Ne.symm D.zi3)).trans q
    · have hlt : c < s.heap.objs.size := by
        have e' : c = z ∨ c = TI ∨ c = TO ∨ c = i1 ∨ c = i2 ∨ c = i3 := by simpa using hcm
        rcases e' with q | q | q | q | q | q
        · rw [q]; exact hzl
        · rw [q]; exact Heap.lt_size hTI
        · rw [q]; exact Heap.lt_size hTO
        · rw [q]; obtain ⟨_, e1, _⟩ := st1.ob; exact Heap.lt_size e1
        · rw [q]; obtain ⟨_, e1, _⟩ := st2.ob; exact Heap.lt_size e1
        · rw [q]; obtain ⟨_, e1, _⟩ := st3.ob; exact Heap.lt_size e1
      rw [upd_ne (Nat.ne_of_lt hlt)]
      exact (hf c hcm).1
  done := by
    intro X hP hw hK hc i pins s σ H E I hf st hg
    subst hP hw hK
    obtain ⟨hz, hTI, ⟨y1, y2, y3, hTO⟩, st1, st2, st3⟩ := st
    obtain ⟨xs1, xs2, xs3, hq1, hq2, hq3, le1, le2, le3, hend⟩ := hg
    obtain ⟨its1, rv1, p1, _, _⟩ := invSeq I hq1
    have hl1 := rv1.length
    obtain ⟨its2, rv2, p2, _, _⟩ := invSeq I hq2
    have hl2 := rv2.length
    obtain ⟨its3, rv3, p3, _, _⟩ := invSeq I hq3
    have hl3 := rv3.length
    exact wpAny_pyNext_zipD3_end D (draws2 (A := X.A.in1) (I.ok.hd hc) i1 a1 (hai1) its1.toArray b1) (draws2 (A := X.A.in1) (I.ok.hd hc) i2 a2 (hai2) its2.toArray b2) (draws2 (A := X.A.in1) (I.ok.hd hc) i3 a3 (hai3) its3.toArray b3) hz hTI hTO ⟨st1, p1⟩ ⟨st2, p2⟩ ⟨st3, p3⟩ (by simp; omega) (by simp; omega) (by simp; omega) (by simp; omega) fun h' tk hk => ⟨rfl, I.turnedL (t' := tk) (ch := [z, TI, TO, i1, i2, i3]) (fun c o hb q => hk c o (fun q' => hb (by simp [q'])) (fun q' => hb (by simp [q'])) (fun q' => hb (by simp [q'])) (fun q' => hb (by simp [q'])) (fun q' => hb (by simp [q'])) q) hf⟩
  self := fun A i s Q E st h => wpAny_pyIter_zip st.1 h
def iZipB3 (K : PySem.W.Frag) (ta : TA) : TI := fun σ H R => ta σ H fun vs H1 => ∃ b1 b2 b3 a1 a2 a3 xs1 xs2 xs3, vs = [.ref a1, .ref a2, .ref a3] ∧ SqB K H1 b1 a1 xs1 ∧ SqB K H1 b2 a2 xs2 ∧ SqB K H1 b3 a3 xs3 ∧ R (Itz3 K b1 b2 b3 a1 a2 a3) H1
theorem pi_zipB3 {X : Cx} {e1 e2 e3 : Expr} {ta : TA} {p pos tpos : Pos} {elts : List Expr} {kk : Nat} (hg : Gl X "zip") (hm : X.mg "zip" = none) (ha : PA X [e1, e2, e3] ta)
    (hs : starEach [e1, e2, e3] X.env = (false, eval e1 X.env) :: starEach [e2, e3] X.env) (hpl : (backTo pos (starEach [e2, e3] X.env)).any (·.1) = false) :
    PI X (.Tuple elts kk tpos) (.Call (.Name "zip" p) [e1, e2, e3] [] pos) (iZipB3 X.K ta) := by
  refine ⟨fun pins s σ H R I h => ?_⟩
  refine Call_ (ld_blt I hg hm PyProof.Rows.boot_zip (PyProof.Rows.callWith_type1 (thn (ha.run pos pins s σ H _ I h) fun us s1 ⟨vs, H1, I1, r1, q1⟩ => ?_) hs hpl))
  obtain ⟨b1, b2, b3, a1, a2, a3, xs1, xs2, xs3, ex, hq1, hq2, hq3, q⟩ := q1
  subst ex
  have eus : us = [.ref a1, .ref a2, .ref a3] := by
    rcases r1 with _ | ⟨ra1, r1⟩
    rcases r1 with _ | ⟨ra2, r1⟩
    rcases r1 with _ | ⟨ra3, r1⟩
    cases r1
    cases ra1
    cases ra2
    cases ra3
    rfl
  subst eus
  obtain ⟨its1, rv1, p1, _, lt1⟩ := invSeq I1 hq1
  obtain ⟨its2, rv2, p2, _, lt2⟩ := invSeq I1 hq2
  obtain ⟨its3, rv3, p3, _, lt3⟩ := invSeq I1 hq3
  refine zip_begins3 (begins2 a1 its1.toArray b1) (begins2 a2 its2.toArray b2) (begins2 a3 its3.toArray b3) p1 p2 p3 fun h' hz hTI hTO h1 h2 h3 hsz hk => wpAny_pyIter_zip hz ?_
  have I2 : Inv X pins σ H1 { s1 with heap := h' } := I1.kept (t' := s1.toks) hk
  refine ⟨s1.heap.objs.size + 5, [s1.heap.objs.size + 5, s1.heap.objs.size + 3, s1.heap.objs.size + 4, s1.heap.objs.size, s1.heap.objs.size + 1, s1.heap.objs.size + 2], _, _, H1, rfl, I2, turn_zipB3 b1 b2 b3 (zip_sep3 (fun b hb => by rw [List.mem_singleton.mp hb]; exact lt1) (fun b hb => by rw [List.mem_singleton.mp hb]; exact lt2) (fun b hb => by rw [List.mem_singleton.mp hb]; exact lt3)) (Nat.ne_of_lt lt1) (Nat.ne_of_lt (Nat.lt_of_lt_of_le lt2 (Nat.le_add_right _ _))) (Nat.ne_of_lt (Nat.lt_of_lt_of_le lt3 (Nat.le_add_right _ _))), ⟨hz, hTI, ⟨_, _, _, hTO⟩, It2.beg h1, It2.beg h2, It2.beg h3⟩, fun c hcm => ?_, q⟩
  have e' : c = s1.heap.objs.size + 5 ∨ c = s1.heap.objs.size + 3 ∨ c = s1.heap.objs.size + 4 ∨ c = s1.heap.objs.size ∨ c = s1.heap.objs.size + 1 ∨ c = s1.heap.objs.size + 2 := by simpa using hcm
  have hle : s1.heap.objs.size ≤ c := by
    rcases e' with z | z | z | z | z | z
    · rw [z]; first | exact Nat.le_refl _ | exact Nat.le_add_right _ _
    · rw [z]; first | exact Nat.le_refl _ | exact Nat.le_add_right _ _
    · rw [z]; first | exact Nat.le_refl _ | exact Nat.le_add_right _ _
    · rw [z]; first | exact Nat.le_refl _ | exact Nat.le_add_right _ _
    · rw [z]; first | exact Nat.le_refl _ | exact Nat.le_add_right _ _
    · rw [z]; first | exact Nat.le_refl _ | exact Nat.le_add_right _ _
  exact I1.fpOk hle (I1.hok.fresh hle)
end Wv

set_option Elab.async false
set_option linter.all false
set_option maxRecDepth 100000
/-! Wv14: sources of loops; comprehensions. -/
namespace Wv
open PySem PySem.Spec PyProof.Rows L2
/-! ### sources -/
def sP (K : PySem.W.Frag) (cl : String → Addr) (fx : Fx) (F L : Sets) (H : Hp) (A : Nat → Sets) (σ : L2.St) (R : It → Hp → Prop) (p : List D × List Nat) (e : Env) : Prop := ∀ J F' A' H', Ext F H A F' H' A' → RS K cl fx F' L H' σ e A' → Walk K cl F' (lockL L A' p.2) H' J p.1 → R J H'
section
variable (G : Cfg) (cl : String → Addr)
def SC (s : Src) : Prop := ∀ (X : Cx) (fx : Fx) (sc : Scope) (tg x : Expr), Good G cl fx sc X → erS G X.N s sc tg x = true → ∀ (W : WX), Takes X W → ∀ (F L : Sets) (H : Hp) (σ : L2.St) (env : Env) (A : Nat → Sets), RS X.K cl fx F L H σ env A →
  ∀ R : It → Hp → Prop, RQ (src G s env) (sP X.K cl fx F L H A σ R) (exP X.K cl G.fl fx F L H A σ W) → wI X tg x σ H R
/-- the tests of a clause -/
def TKs (es : List Ex) : Prop := ∀ (X : Cx) (fx : Fx) (sc : Scope) (xs : List Expr), xs.length ≤ 1 → Good G cl fx sc X → erEs G X.N es sc xs = true → ∀ (W : WX), Takes X W → ∀ (F L : Sets) (H : Hp) (σ : L2.St) (env : Env) (A : Nat → Sets), RS X.K cl fx F L H σ env A →
  ∀ Q : Bool → Hp → Prop, RQ (tes G es env) (tkP X.K cl fx F L H A σ Q) (exP X.K cl G.fl fx F L H A σ W) → ∃ t : TT, PTs X xs t ∧ t σ H Q
end
section
variable {G : Cfg} {cl : String → Addr}
theorem sc_rng1 {b : Ex} (hb : EV G cl b) : SC G cl (.rng none (some b) none) := by
  intro X fx sc tg x g er W tk F L H σ env A r R q
  obtain ⟨c, as, ks, p, rfl⟩ : ∃ c as ks p, x = .Call c as ks p := by
    cases x with
    | Call c as ks p => exact ⟨_, _, _, _, rfl⟩
    | _ => simp [erS] at er
  match as, ks, er with
  | [y], [], er =>
    simp only [erS, Bool.and_eq_true] at er
    obtain ⟨e1, e2, e3⟩ := er
    obtain ⟨p0, rfl, h4, h5⟩ := nmB_inv e1
    simp only [src] at q
    have hm := g.kf.bi "range" (by decide)
    refine to_wI (pi_range1 (glB_ok g.scq h4) hm (pa_cons pe_w pa_nil (star_cons e2)) (star_cons e2)) ?_
    refine lk_of hb X fx sc y g e3 W tk F L H σ env A r true _ (q.bind (fun d e1 q1 => ?_) fun c ds e1 q1 => q1)
    intro v F1 A1 H1 f1 x1 rs1 rp1 _ _
    split at q1
    · rename_i j
      obtain ⟨a, ha, q1⟩ := RQ.of q1
      simp only [Option.map_eq_some_iff] at ha
      obtain ⟨ds, hd, rfl⟩ := ha
      simp only [Rp] at rp1
      subst rp1
      obtain ⟨⟨c1, c2, c3, c4⟩, w⟩ := walk_rng (K := X.K) (cl := cl) (F := F1) (L := lockL L A1 []) (H := H1) hd
      refine ⟨j, rfl, c3, c4, ?_⟩
      have := (show sP X.K cl fx F L H A σ R (ds, []) e1 from q1) _ F1 A1 H1 x1 rs1 w
      simpa using this
    · exact q1.elim
  | [], _, er => simp [erS] at er
  | _ :: _ :: _, _, er => simp [erS] at er
  | [_], _ :: _, er => simp [erS] at er
theorem sc_rng2 {a b : Ex} (ha : EV G cl a) (hb : EV G cl b) : SC G cl (.rng (some a) (some b) none) := by
  intro X fx sc tg x g er W tk F L H σ env A r R q
  obtain ⟨c, as, ks, p, rfl⟩ : ∃ c as ks p, x = .Call c as ks p := by
    cases x with
    | Call c as ks p => exact ⟨_, _, _, _, rfl⟩
    | _ => simp [erS] at er
  match as, ks, er with
  | [y, z], [], er =>
    simp only [erS, Bool.and_eq_true] at er
    obtain ⟨e1, ⟨e2, e3⟩, e4, e5⟩ := er
    obtain ⟨p0, rfl, h4, h5⟩ := nmB_inv e1
    simp only [src] at q
    have hm := g.kf.bi "range" (by decide)
    refine to_wI (pi_range2 (glB_ok g.scq h4) hm (pa_cons pe_w (pa_cons pe_w pa_nil (star_cons e4)) (star_cons e2)) (by rw [star_cons e2, star_cons e4]; rfl) (by rw [star_cons e4]; rfl)) ?_
    refine lk_of ha X fx sc y g e3 W tk F L H σ env A r true _ (q.bind (fun d e1 q1 => ?_) fun c ds e1 q1 => q1)
    intro v F1 A1 H1 f1 x1 rs1 rp1 _ _
    refine lk_of hb X fx sc z g e5 W tk F1 L H1 σ e1 A1 rs1 true _ (RQ.bind q1 (fun d2 e2 q2 => ?_) fun c ds e1 q1 => exP.ext q1 x1)
    intro w F2 A2 H2 f2 x2 rs2 rp2 _ _
    split at q2
    · rename_i i j
      obtain ⟨a, ha, q2⟩ := RQ.of q2
      simp only [Option.map_eq_some_iff] at ha
      obtain ⟨ds, hd, rfl⟩ := ha
      simp only [Rp] at rp1 rp2
      subst rp1 rp2
      obtain ⟨hc, w⟩ := walk_rng (K := X.K) (cl := cl) (F := F2) (L := lockL L A2 []) (H := H2) hd
      exact ⟨i, j, rfl, hc, (show sP X.K cl fx F L H A σ R (ds, []) e2 from q2) _ F2 A2 H2 (x1.trans x2) rs2 w⟩
    · exact q2.elim
  | [], _, er => simp [erS] at er
  | [_], _, er => simp [erS] at er
  | _ :: _ :: _ :: _, _, er => simp [erS] at er
  | [_, _], _ :: _, er => simp [erS] at er
theorem items_inv {d : D} {ds : List D} (h : items? d = some ds) : (∃ t, d = .lst t ds) ∨ d = .tup ds := by
  unfold items? at h
  split at h
  · cases h; exact .inl ⟨_, rfl⟩
  · cases h; exact .inr rfl
  · cases h
theorem walk_any {K : PySem.W.Frag} {F L : Sets} {H : Hp} {d : D} {ds : List D} {v : V} {f : Sets} (h : items? d = some ds) (r : Rp K cl F H d v f) (hf : ∀ a, f a → L a) {R : It → Hp → Prop} (q : ∀ J, Walk K cl F L H J ds → R J H) :
    ∃ a, v = .ref a ∧ ((∃ xs, SqL K H a xs ∧ R (Itl K a) H) ∨ ∃ xs, SqT K H a xs ∧ R (Itt K a) H) := by
  rcases items_inv h with ⟨t, rfl⟩ | rfl
  · obtain ⟨a, e, ⟨xs, hx⟩, w⟩ := walk_list r hf
    exact ⟨a, e, .inl ⟨xs, hx, q _ w⟩⟩
  · obtain ⟨a, e, ⟨xs, hx⟩, w⟩ := walk_tup r hf
    exact ⟨a, e, .inr ⟨xs, hx, q _ w⟩⟩
theorem sc_itq (e : Qx) : SC G cl (.itq e) := by
  intro X fx sc tg x g er W tk F L H σ env A r R q
  simp only [erS] at er
  simp only [src] at q
  split at q
  · rename_i d hd
    obtain ⟨a, ha, q⟩ := RQ.of q
    simp only [Option.map_eq_some_iff] at ha
    obtain ⟨ds, hds, rfl⟩ := ha
    refine wi_seq (qv_ok g e x er r hd fun v F1 H1 f1 g1 rp1 m1 => ?_)
    refine walk_any (F := F1) (L := lockL L A (roots e)) hds rp1 (fun a z => (m1 a z).elim .inr .inl) fun J w => ?_
    exact (show sP X.K cl fx F L H A σ R (ds, roots e) env from q) J F1 A H1 g1.ext (r.gr g1) w
  · exact q.elim
theorem sc_itv {e : Ex} (he : EV G cl e) : SC G cl (.itv e) := by
  intro X fx sc tg x g er W tk F L H σ env A r R q
  simp only [erS] at er
  simp only [src] at q
  refine wi_seq (he X fx sc x g er W tk F L H σ env A r _ (q.bind (fun d e1 q1 => ?_) fun c ds e1 q1 => q1))
  intro v F1 A1 H1 f1 x1 rs1 rp1 t1 fr1
  obtain ⟨a, ha, q1⟩ := RQ.of q1
  simp only [Option.map_eq_some_iff] at ha
  obtain ⟨ds, hds, rfl⟩ := ha
  have q2 : sP X.K cl fx F L H A σ R (ds, []) e1 := q1
  have x2 : Ext F H A (fun a => F1 a ∨ f1 a) H1 A1 := ⟨fun a z => .inl (x1.fro a z), fun a z => z.elim (x1.new a) fun z => .inr (fr1 a z), x1.own, x1.keep, x1.live⟩
  have rf := rp1.froz (F' := fun a => F1 a ∨ f1 a) (g := E0s) (fun a z => .inr z) fun a z => .inl z
  exact walk_any (L := lockL L A1 []) hds rf (fun a z => z.elim) fun J w => q2 J _ A1 H1 x2 (rs1.fro t1) w
/-! ### enumerate, zip -/
theorem isTup_ok {tg : Expr} (h : isTup tg = true) : ∃ es k p, tg = .Tuple es k p := by
  cases tg <;> simp [isTup] at h
  exact ⟨_, _, _, rfl⟩
/-- what a sequence shows, as long as it stays -/
theorem seq_of {K : PySem.W.Frag} {F : Sets} {H : Hp} {d : D} {ds : List D} {v : V} {f : Sets} (h : items? d = some ds) (r : Rp K cl F H d v f) :
    ∃ b a, v = .ref a ∧ ∀ F' H', Kp F H f F' H' → ∃ vs, SqB K H' b a vs ∧ Rps K cl F' H' ds vs f := by
  rcases items_inv h with ⟨t, rfl⟩ | rfl
  · obtain ⟨a, vs, rfl, _, _⟩ := r.lst_mono
    refine ⟨true, a, rfl, fun F' H' kp => ?_⟩
    obtain ⟨a', vs', e, s, r2⟩ := (r.kp kp).lst_mono
    cases e
    exact ⟨vs', s, r2⟩
  · obtain ⟨a, vs, rfl, _, _⟩ := (show ∃ a vs, v = .ref a ∧ SqT K H a vs ∧ Rps K cl F H ds vs f by simpa only [Rp] using r)
    refine ⟨false, a, rfl, fun F' H' kp => ?_⟩
    obtain ⟨a', vs', e, s, r2⟩ := (show ∃ a' vs', V.ref a = .ref a' ∧ SqT K H' a' vs' ∧ Rps K cl F' H' ds vs' f by simpa only [Rp] using r.kp kp)
    cases e
    exact ⟨vs', s, r2⟩
theorem enumD_get {ds : List D} {i : Nat} {d : D} (h : (enumD ds)[i]? = some d) : ∃ x, ds[i]? = some x ∧ d = .tup [.int i, x] := by
  unfold enumD at h
  rw [List.getElem?_zipWith] at h
  cases hx : ds[i]? with
  | none => rw [hx] at h; cases hr : (List.range ds.length)[i]? <;> rw [hr] at h <;> simp at h
  | some x =>
    rw [hx] at h
    have hi : i < ds.length := (List.getElem?_eq_some_iff.mp hx).1
    rw [List.getElem?_eq_getElem (by simpa using hi), List.getElem_range] at h
    simp at h
    exact ⟨x, rfl, h.symm⟩
theorem enumD_len (ds : List D) : (enumD ds).length = ds.length := by simp [enumD]
theorem walk_enum {K : PySem.W.Frag} {F L : Sets} {H : Hp} {d : D} {ds : List D} {v : V} {f : Sets} (h : items? d = some ds) (r : Rp K cl F H d v f) (hf : ∀ a, f a → L a) :
    ∃ b a xs, v = .ref a ∧ SqB K H b a xs ∧ Walk K cl F L H (IteB K b a) (enumD ds) := by
  obtain ⟨b, a, rfl, st⟩ := seq_of h r
  obtain ⟨xs, hx, _⟩ := st F H ⟨fun _ z => z, fun _ _ e _ => e⟩
  refine ⟨b, a, xs, rfl, hx, fun F' H' kp => ?_⟩
  obtain ⟨vs, hs, rs⟩ := st F' H' (kp.sub hf)
  have hl := rs.length
  refine ⟨⟨vs, hs, by rw [enumD_len]; omega⟩, fun i d hd => ?_⟩
  obtain ⟨x, hx, rfl⟩ := enumD_get hd
  obtain ⟨w, hw, rw'⟩ := rs.get hx
  refine ⟨⟨vs, w, hs, hw⟩, fun y H'' yl => ?_⟩
  obtain ⟨T, x', rfl, hT, rfl, hx'⟩ := yl
  have e := hx' vs hs
  rw [hw] at e; cases e
  refine ⟨Gr.alloc0 hT, f, ?_, hf⟩
  simp only [Rp]
  refine ⟨T, [.int i, w], rfl, .inl (.inl upd_same), ?_⟩
  exact Rps.cons (f := E0s) (g := f) (by simp only [Rp]) (Rps.cons (f := f) (g := E0s) (rw'.kp (Gr.alloc0 hT).kp) (show Rps K cl F' _ [] [] E0s by simp only [Rps]) (fun _ _ z => z) (fun _ z => z) fun _ z => z.elim) (fun _ z => z.elim) (fun _ z => z.elim) fun _ z => z
theorem sc_enq (e : Qx) : SC G cl (.enq e) := by
  intro X fx sc tg x g er W tk F L H σ env A r R q
  obtain ⟨c, as, ks, p, rfl⟩ : ∃ c as ks p, x = .Call c as ks p := by
    cases x with
    | Call c as ks p => exact ⟨_, _, _, _, rfl⟩
    | _ => simp [erS] at er
  match as, ks, er with
  | [y], [], er =>
    simp only [erS, Bool.and_eq_true] at er
    obtain ⟨⟨e1, et⟩, e2, e3⟩ := er
    obtain ⟨p0, rfl, h4, h5⟩ := nmB_inv e1
    obtain ⟨es, k, tp, rfl⟩ := isTup_ok et
    simp only [src] at q
    split at q
    · rename_i d hd
      obtain ⟨a, ha, q⟩ := RQ.of q
      simp only [Option.map_eq_some_iff] at ha
      obtain ⟨ds, hds, rfl⟩ := ha
      refine to_wI (pi_enumB (glB_ok g.scq h4) (g.kf.bi "enumerate" (by decide)) (pa_cons pe_w pa_nil (star_cons e2)) (star_cons e2)) ?_
      refine qv_ok g e y e3 r hd fun v F1 H1 f1 g1 rp1 m1 => ?_
      obtain ⟨b, a, xs, rfl, hs, w⟩ := walk_enum (L := lockL L A (roots e)) hds rp1 fun a z => (m1 a z).elim .inr .inl
      exact ⟨b, a, xs, rfl, hs, (show sP X.K cl fx F L H A σ R (enumD ds, roots e) env from q) _ F1 A H1 g1.ext (r.gr g1) w⟩
    · exact q.elim
  | [], _, er => simp [erS] at er
  | _ :: _ :: _, _, er => simp [erS] at er
  | [_], _ :: _, er => simp [erS] at er
theorem sc_env {e : Ex} (he : EV G cl e) : SC G cl (.env e) := by
  intro X fx sc tg x g er W tk F L H σ env A r R q
  obtain ⟨c, as, ks, p, rfl⟩ : ∃ c as ks p, x = .Call c as ks p := by
    cases x with
    | Call c as ks p => exact ⟨_, _, _, _, rfl⟩
    | _ => simp [erS] at er
  match as, ks, er with
  | [y], [], er =>
    simp only [erS, Bool.and_eq_true] at er
    obtain ⟨⟨e1, et⟩, e2, e3⟩ := er
    obtain ⟨p0, rfl, h4, h5⟩ := nmB_inv e1
    obtain ⟨es, k, tp, rfl⟩ := isTup_ok et
    simp only [src] at q
    refine to_wI (pi_enumB (glB_ok g.scq h4) (g.kf.bi "enumerate" (by decide)) (pa_cons pe_w pa_nil (star_cons e2)) (star_cons e2)) ?_
    refine he X fx sc y g e3 W tk F L H σ env A r _ (q.bind (fun d e1 q1 => ?_) fun c ds e1 q1 => q1)
    intro v F1 A1 H1 f1 x1 rs1 rp1 t1 fr1
    obtain ⟨a, ha, q1⟩ := RQ.of q1
    simp only [Option.map_eq_some_iff] at ha
    obtain ⟨ds, hds, rfl⟩ := ha
    have q2 : sP X.K cl fx F L H A σ R (enumD ds, []) e1 := q1
    have x2 : Ext F H A (fun a => F1 a ∨ f1 a) H1 A1 := ⟨fun a z => .inl (x1.fro a z), fun a z => z.elim (x1.new a) fun z => .inr (fr1 a z), x1.own, x1.keep, x1.live⟩
    have rf := rp1.froz (F' := fun a => F1 a ∨ f1 a) (g := E0s) (fun a z => .inr z) fun a z => .inl z
    obtain ⟨b, a, xs, rfl, hs, w⟩ := walk_enum (L := lockL L A1 []) hds rf fun a z => z.elim
    exact ⟨b, a, xs, rfl, hs, q2 _ _ A1 H1 x2 (rs1.fro t1) w⟩
  | [], _, er => simp [erS] at er
  | _ :: _ :: _, _, er => simp [erS] at er
  | [_], _ :: _, er => simp [erS] at er
theorem stbs_get : ∀ {ds : List D} {i : Nat} {d : D}, stbs ds = true → ds[i]? = some d → d.stb = true
  | [], _, _, _, h => by simp at h
  | x :: xs, 0, d, s, h => by
    simp only [stbs, Bool.and_eq_true] at s
    simp at h; subst h; exact s.1
  | x :: xs, i + 1, d, s, h => by
    simp only [stbs, Bool.and_eq_true] at s
    exact stbs_get s.2 (by simpa using h)
/-- a row of things that nobody owns -/
theorem Rps.stb1 {K : PySem.W.Frag} {F : Sets} {H : Hp} {d : D} {v : V} {f : Sets} {ds : List D} {vs : List V} (r : Rp K cl F H d v f) (s : d.stb = true) (rs : Rps K cl F H ds vs E0s) : Rps K cl F H (d :: ds) (v :: vs) E0s :=
  Rps.cons (r.stb s (g := E0s)) rs (fun _ _ z => z) (fun _ z => z) fun _ z => z
theorem walk_zip2 {K : PySem.W.Frag} {F L : Sets} {H : Hp} {d1 d2 : D} {ds1 ds2 : List D} {v1 v2 : V} {f1 f2 : Sets} (h1 : items? d1 = some ds1) (h2 : items? d2 = some ds2) (s1 : stbs ds1 = true) (s2 : stbs ds2 = true) (r1 : Rp K cl F H d1 v1 f1) (r2 : Rp K cl F H d2 v2 f2) (hf1 : ∀ a, f1 a → L a) (hf2 : ∀ a, f2 a → L a) :
    ∃ b1 b2 a1 a2 xs1 xs2, v1 = .ref a1 ∧ v2 = .ref a2 ∧ SqB K H b1 a1 xs1 ∧ SqB K H b2 a2 xs2 ∧ Walk K cl F L H (Itz2 K b1 b2 a1 a2) (zipD [ds1, ds2]) := by
  obtain ⟨b1, a1, rfl, st1⟩ := seq_of h1 r1
  obtain ⟨b2, a2, rfl, st2⟩ := seq_of h2 r2
  obtain ⟨xs1, hx1, _⟩ := st1 F H ⟨fun _ z => z, fun _ _ e _ => e⟩
  obtain ⟨xs2, hx2, _⟩ := st2 F H ⟨fun _ z => z, fun _ _ e _ => e⟩
  refine ⟨b1, b2, a1, a2, xs1, xs2, rfl, rfl, hx1, hx2, fun F' H' kp => ?_⟩
  obtain ⟨vs1, q1, rs1⟩ := st1 F' H' (kp.sub hf1)
  obtain ⟨vs2, q2, rs2⟩ := st2 F' H' (kp.sub hf2)
  have l1 := rs1.length
  have l2 := rs2.length
  refine ⟨⟨vs1, vs2, q1, q2, by simp [zipD]; omega, by simp [zipD]; omega, by simp [zipD]; omega⟩, fun i d hd => ?_⟩
  simp only [zipD, List.getElem?_zipWith] at hd
  cases e1 : ds1[i]? with
  | none => rw [e1] at hd; simp at hd
  | some x =>
    cases e2 : ds2[i]? with
    | none => rw [e1, e2] at hd; simp at hd
    | some y =>
      rw [e1, e2] at hd
      simp at hd
      subst hd
      obtain ⟨w1, hw1, rw1⟩ := rs1.get e1
      obtain ⟨w2, hw2, rw2⟩ := rs2.get e2
      refine ⟨⟨vs1, vs2, w1, w2, q1, q2, hw1, hw2⟩, fun z H'' yl => ?_⟩
      obtain ⟨T, x', y', rfl, hT, rfl, hx', hy'⟩ := yl
      have e3 := hx' vs1 q1
      have e4 := hy' vs2 q2
      rw [hw1] at e3; cases e3
      rw [hw2] at e4; cases e4
      refine ⟨Gr.alloc0 hT, E0s, ?_, fun _ z => z.elim⟩
      simp only [Rp]
      refine ⟨T, [w1, w2], rfl, .inl (.inl upd_same), ?_⟩
      exact Rps.stb1 (rw1.kp (Gr.alloc0 hT).kp) (stbs_get s1 e1) (Rps.stb1 (rw2.kp (Gr.alloc0 hT).kp) (stbs_get s2 e2) (by simp only [Rps]))
theorem walk_zip3 {K : PySem.W.Frag} {F L : Sets} {H : Hp} {d1 d2 d3 : D} {ds1 ds2 ds3 : List D} {v1 v2 v3 : V} {f1 f2 f3 : Sets} (h1 : items? d1 = some ds1) (h2 : items? d2 = some ds2) (h3 : items? d3 = some ds3) (s1 : stbs ds1 = true) (s2 : stbs ds2 = true) (s3 : stbs ds3 = true)
    (r1 : Rp K cl F H d1 v1 f1) (r2 : Rp K cl F H d2 v2 f2) (r3 : Rp K cl F H d3 v3 f3) (hf1 : ∀ a, f1 a → L a) (hf2 : ∀ a, f2 a → L a) (hf3 : ∀ a, f3 a → L a) :
    ∃ b1 b2 b3 a1 a2 a3 xs1 xs2 xs3, v1 = .ref a1 ∧ v2 = .ref a2 ∧ v3 = .ref a3 ∧ SqB K H b1 a1 xs1 ∧ SqB K H b2 a2 xs2 ∧ SqB K H b3 a3 xs3 ∧ Walk K cl F L H (Itz3 K b1 b2 b3 a1 a2 a3) (zipD [ds1, ds2, ds3]) := by
  obtain ⟨b1, a1, rfl, st1⟩ := seq_of h1 r1
  obtain ⟨b2, a2, rfl, st2⟩ := seq_of h2 r2
  obtain ⟨b3, a3, rfl, st3⟩ := seq_of h3 r3
  obtain ⟨xs1, hx1, _⟩ := st1 F H ⟨fun _ z => z, fun _ _ e _ => e⟩
  obtain ⟨xs2, hx2, _⟩ := st2 F H ⟨fun _ z => z, fun _ _ e _ => e⟩
  obtain ⟨xs3, hx3, _⟩ := st3 F H ⟨fun _ z => z, fun _ _ e _ => e⟩
  refine ⟨b1, b2, b3, a1, a2, a3, xs1, xs2, xs3, rfl, rfl, rfl, hx1, hx2, hx3, fun F' H' kp => ?_⟩
  obtain ⟨vs1, q1, rs1⟩ := st1 F' H' (kp.sub hf1)
  obtain ⟨vs2, q2, rs2⟩ := st2 F' H' (kp.sub hf2)
  obtain ⟨vs3, q3, rs3⟩ := st3 F' H' (kp.sub hf3)
  have l1 := rs1.length
  have l2 := rs2.length
  have l3 := rs3.length
  refine ⟨⟨vs1, vs2, vs3, q1, q2, q3, by simp [zipD]; omega, by simp [zipD]; omega, by simp [zipD]; omega, by simp [zipD]; omega⟩, fun i d hd => ?_⟩
  simp only [zipD, List.getElem?_zipWith, List.getElem?_zip_eq_some, List.zip] at hd
  cases e1 : ds1[i]? with
  | none => rw [e1] at hd; simp at hd
  | some x =>
    cases e2 : ds2[i]? with
    | none => rw [e1, e2] at hd; simp at hd
    | some y =>
      cases e3 : ds3[i]? with
      | none => rw [e1, e2, e3] at hd; simp at hd
      | some u =>
        rw [e1, e2, e3] at hd
        simp at hd
        subst hd
        obtain ⟨w1, hw1, rw1⟩ := rs1.get e1
        obtain ⟨w2, hw2, rw2⟩ := rs2.get e2
        obtain ⟨w3, hw3, rw3⟩ := rs3.get e3
        refine ⟨⟨vs1, vs2, vs3, w1, w2, w3, q1, q2, q3, hw1, hw2, hw3⟩, fun z H'' yl => ?_⟩
        obtain ⟨T, x', y', u', rfl, hT, rfl, hx', hy', hu'⟩ := yl
        have e4 := hx' vs1 q1
        have e5 := hy' vs2 q2
        have e6 := hu' vs3 q3
        rw [hw1] at e4; cases e4
        rw [hw2] at e5; cases e5
        rw [hw3] at e6; cases e6
        refine ⟨Gr.alloc0 hT, E0s, ?_, fun _ z => z.elim⟩
        simp only [Rp]
        refine ⟨T, [w1, w2, w3], rfl, .inl (.inl upd_same), ?_⟩
        exact Rps.stb1 (rw1.kp (Gr.alloc0 hT).kp) (stbs_get s1 e1) (Rps.stb1 (rw2.kp (Gr.alloc0 hT).kp) (stbs_get s2 e2) (Rps.stb1 (rw3.kp (Gr.alloc0 hT).kp) (stbs_get s3 e3) (by simp only [Rps])))
theorem erS_zip {es : List Qx} {sc : Scope} {N : List Str} {tg x : Expr} (h : erS G N (.zipq es) sc tg x = true) : ∃ p0 p, isTup tg = true ∧ glB sc (Str.ofString "zip") = true ∧
    ((∃ e1 e2 y1 y2, es = [e1, e2] ∧ x = .Call (.Name (Str.ofString "zip") p0) [y1, y2] [] p ∧ (nst y1 = true ∧ erQ G sc N e1 y1 = true) ∧ nst y2 = true ∧ erQ G sc N e2 y2 = true) ∨
    ∃ e1 e2 e3 y1 y2 y3, es = [e1, e2, e3] ∧ x = .Call (.Name (Str.ofString "zip") p0) [y1, y2, y3] [] p ∧ (nst y1 = true ∧ erQ G sc N e1 y1 = true) ∧ (nst y2 = true ∧ erQ G sc N e2 y2 = true) ∧ nst y3 = true ∧ erQ G sc N e3 y3 = true) := by
  match es, h with
  | [e1, e2], h =>
    cases x with
    | Call c as ks p =>
      match as, ks, h with
      | [y1, y2], [], h =>
        simp only [erS, Bool.and_eq_true] at h
        obtain ⟨⟨e1, et⟩, h3, h4⟩ := h
        obtain ⟨p0, rfl, h5, h6⟩ := nmB_inv e1
        exact ⟨p0, p, et, h5, .inl ⟨_, _, _, _, rfl, rfl, h3, h4⟩⟩
      | [], _, h => simp [erS] at h
      | [_], _, h => simp [erS] at h
      | _ :: _ :: _ :: _, _, h => simp [erS] at h
      | [_, _], _ :: _, h => simp [erS] at h
    | _ => simp [erS] at h
  | [e1, e2, e3], h =>
    cases x with
    | Call c as ks p =>
      match as, ks, h with
      | [y1, y2, y3], [], h =>
        simp only [erS, Bool.and_eq_true] at h
        obtain ⟨⟨e1, et⟩, h3, h4, h7⟩ := h
        obtain ⟨p0, rfl, h5, h6⟩ := nmB_inv e1
        exact ⟨p0, p, et, h5, .inr ⟨_, _, _, _, _, _, rfl, rfl, h3, h4, h7⟩⟩
      | [], _, h => simp [erS] at h
      | [_], _, h => simp [erS] at h
      | [_, _], _, h => simp [erS] at h
      | _ :: _ :: _ :: _ :: _, _, h => simp [erS] at h
      | [_, _, _], _ :: _, h => simp [erS] at h
    | _ => simp [erS] at h
  | [], h => simp [erS] at h
  | [_], h => simp [erS] at h
  | _ :: _ :: _ :: _ :: _, h => simp [erS] at h
theorem sc_zipq (es : List Qx) : SC G cl (.zipq es) := by
  intro X fx sc tg x g er W tk F L H σ env A r R q
  obtain ⟨p0, p, et, hg, h⟩ := erS_zip er
  obtain ⟨ts, k, tp, rfl⟩ := isTup_ok et
  simp only [src] at q
  split at q
  case h_2 => exact q.elim
  rename_i ds hds
  obtain ⟨a, ha, q⟩ := RQ.of q
  simp only [Option.bind_eq_some_iff] at ha
  obtain ⟨l, hl, ha⟩ := ha
  split at ha
  case isFalse => cases ha
  rename_i hst
  cases ha
  have q2 : sP X.K cl fx F L H A σ R (zipD l, rootss es) env := q
  have hm := g.kf.bi "zip" (by decide)
  rcases h with ⟨e1, e2, y1, y2, rfl, rfl, ⟨n1, c1⟩, n2, c2⟩ | ⟨e1, e2, e3, y1, y2, y3, rfl, rfl, ⟨n1, c1⟩, ⟨n2, c2⟩, n3, c3⟩
  · obtain ⟨d1, d2, rfl, k1, k2⟩ : ∃ d1 d2, ds = [d1, d2] ∧ qv G e1 env = some d1 ∧ qv G e2 env = some d2 := by
      cases k1 : qv G e1 env <;> cases k2 : qv G e2 env <;> simp [qvs, k1, k2] at hds
      exact ⟨_, _, hds.symm, rfl, rfl⟩
    obtain ⟨l1, l2, rfl, i1, i2⟩ : ∃ l1 l2, l = [l1, l2] ∧ items? d1 = some l1 ∧ items? d2 = some l2 := by
      cases i1 : items? d1 <;> cases i2 : items? d2 <;> simp [itemss?, i1, i2] at hl
      exact ⟨_, _, hl.symm, rfl, rfl⟩
    simp at hst
    refine to_wI (pi_zipB2 (glB_ok g.scq hg) hm (pa_cons pe_w (pa_cons pe_w pa_nil (star_cons n2)) (star_cons n1)) (star_cons n1) (backTo_any _ _ [y2] (by simp [nsts, n2]))) ?_
    refine qv_ok g e1 y1 c1 r k1 fun v1 F1 H1 f1 g1 rp1 m1 => ?_
    refine qv_ok g e2 y2 c2 (r.gr g1) k2 fun v2 F2 H2 f2 g2 rp2 m2 => ?_
    obtain ⟨b1, b2, a1, a2, xs1, xs2, rfl, rfl, s1, s2, w⟩ := walk_zip2 (L := lockL L A (rootss [e1, e2])) i1 i2 hst.1 hst.2 (rp1.kp g2.kp) rp2 (fun a z => (m1 a z).elim (fun ⟨i, hi, u⟩ => .inr ⟨i, by simp [rootss, hi], u⟩) .inl) (fun a z => (m2 a z).elim (fun ⟨i, hi, u⟩ => .inr ⟨i, by simp [rootss, hi], u⟩) .inl)
    exact ⟨b1, b2, a1, a2, xs1, xs2, rfl, s1, s2, q2 _ F2 A H2 (g1.trans g2).ext (r.gr (g1.trans g2)) w⟩
  · obtain ⟨d1, d2, d3, rfl, k1, k2, k3⟩ : ∃ d1 d2 d3, ds = [d1, d2, d3] ∧ qv G e1 env = some d1 ∧ qv G e2 env = some d2 ∧ qv G e3 env = some d3 := by
      cases k1 : qv G e1 env <;> cases k2 : qv G e2 env <;> cases k3 : qv G e3 env <;> simp [qvs, k1, k2, k3] at hds
      exact ⟨_, _, _, hds.symm, rfl, rfl, rfl⟩
    obtain ⟨l1, l2, l3, rfl, i1, i2, i3⟩ : ∃ l1 l2 l3, l = [l1, l2, l3] ∧ items? d1 = some l1 ∧ items? d2 = some l2 ∧ items? d3 = some l3 := by
      cases i1 : items? d1 <;> cases i2 : items? d2 <;> cases i3 : items? d3 <;> simp [itemss?, i1, i2, i3] at hl
      exact ⟨_, _, _, hl.symm, rfl, rfl, rfl⟩
    simp at hst
    refine to_wI (pi_zipB3 (glB_ok g.scq hg) hm (pa_cons pe_w (pa_cons pe_w (pa_cons pe_w pa_nil (star_cons n3)) (star_cons n2)) (star_cons n1)) (star_cons n1) (backTo_any _ _ [y2, y3] (by simp [nsts, n2, n3]))) ?_
    refine qv_ok g e1 y1 c1 r k1 fun v1 F1 H1 f1 g1 rp1 m1 => ?_
    refine qv_ok g e2 y2 c2 (r.gr g1) k2 fun v2 F2 H2 f2 g2 rp2 m2 => ?_
    refine qv_ok g e3 y3 c3 (r.gr (g1.trans g2)) k3 fun v3 F3 H3 f3 g3 rp3 m3 => ?_
    obtain ⟨b1, b2, b3, a1, a2, a3, xs1, xs2, xs3, rfl, rfl, rfl, s1, s2, s3, w⟩ := walk_zip3 (L := lockL L A (rootss [e1, e2, e3])) i1 i2 i3 hst.1 hst.2.1 hst.2.2 (rp1.kp (g2.trans g3).kp) (rp2.kp g3.kp) rp3 (fun a z => (m1 a z).elim (fun ⟨i, hi, u⟩ => .inr ⟨i, by simp [rootss, hi], u⟩) .inl) (fun a z => (m2 a z).elim (fun ⟨i, hi, u⟩ => .inr ⟨i, by simp [rootss, hi], u⟩) .inl) (fun a z => (m3 a z).elim (fun ⟨i, hi, u⟩ => .inr ⟨i, by simp [rootss, hi], u⟩) .inl)
    exact ⟨b1, b2, b3, a1, a2, a3, xs1, xs2, xs3, rfl, s1, s2, s3, q2 _ F3 A H3 ((g1.trans g2).trans g3).ext (r.gr ((g1.trans g2).trans g3)) w⟩
theorem tks_nil : TKs G cl [] := by
  intro X fx sc xs hl g er W tk F L H σ env A r Q q
  cases xs with
  | nil =>
    simp only [tes] at q
    exact ⟨_, pts_nil, (show tkP X.K cl fx F L H A σ Q true env from q) F A H Ext.refl r⟩
  | cons x xs => simp [erEs] at er
theorem tks_one {e : Ex} (he : TK G cl e) : TKs G cl [e] := by
  intro X fx sc xs hl g er W tk F L H σ env A r Q q
  match xs, er, hl with
  | [x], er, hl =>
    simp only [erEs, Bool.and_eq_true, Bool.and_true] at er
    simp only [tes] at q
    refine ⟨_, pts_one pt_w, he X fx sc x g er.2 W tk F L H σ env A r Q (q.bind (fun k e1 q1 => ?_) fun c ds e1 q1 => q1)⟩
    cases k with
    | true => exact q1
    | false => exact q1
  | [], er, hl => simp [erEs] at er
  | _ :: _ :: _, er, hl => simp at hl
theorem tks_more {e e2 : Ex} {es : List Ex} : TKs G cl (e :: e2 :: es) := by
  intro X fx sc xs hl g er W tk F L H σ env A r Q q
  match xs, er, hl with
  | [x], er, hl => simp [erEs] at er
  | [], er, hl => simp [erEs] at er
  | _ :: _ :: _, er, hl => simp at hl
end
/-! ### comprehensions -/
section
variable {G : Cfg} {cl : String → Addr} {X : Cx} {fx fx' : Fx} {sc : Scope}
theorem Good.blk (g : Good G cl fx sc X) (hot : G.hot = false) (hx : fx'.x = fx.x) (scope : Scope) (s0 : Shared) (H0 : Hp) (C : Addr) (cs : List (Str × Addr)) (fp : List Addr) : Good G cl fx' (relS scope sc) (X.blk s0 H0 scope (compEnvC scope cs C X.env) fp) where
  nd := g.nd
  scq := by
    have e := g.scq
    subst e
    rfl
  un := g.un
  kf := g.kf
  calm := g.calm
  fns := g.fns
  excs := g.excs
  xno := fun h i a c dx z => g.xno h i a c dx (by rw [← hx]; exact z)
  xat := fun {pins s σ H i a c dx fs f v Q} _ z => (g.xno hot i a c dx (by rw [← hx]; exact z)).elim
  xki := fun {pins s σ H i a c dx} _ z _ => (g.xno hot i a c dx (by rw [← hx]; exact z)).elim
theorem lo_blk {scope : Scope} {s0 : Shared} {H0 : Hp} {C : Addr} {cs : List (Str × Addr)} {fp : List Addr} : LoOk (X.blk s0 H0 scope (compEnvC scope cs C X.env) fp) (locB scope) := by
  intro x h
  unfold locB at h
  split at h
  · rename_i e
    have e2 := lookup_relS_keep (sc := X.env.scope) (fun z => by cases z) e
    exact ⟨.inl e2, .inr e2⟩
  · rename_i e
    have e2 := lookup_relS_keep (sc := X.env.scope) (fun z => by cases z) e
    exact ⟨.inr e2, .inl (by show (scope.names.lookup x == some NameKind.cell) = true; rw [e]; rfl)⟩
  · cases h
theorem lwipe_idem {σ : L2.St} {is js : List Nat} (h : ∀ i ∈ is, i ∈ js) : L2.wipe (L2.wipe σ js) is = L2.wipe σ js := by
  induction is with
  | nil => rfl
  | cons i is ih =>
    simp only [L2.wipe]
    rw [ih fun i z => h i (by simp [z])]
    apply List.ext_getElem?
    intro k
    by_cases hk : k = i
    · subst hk
      have key : ∀ {js : List Nat}, k ∈ js → k < (L2.wipe σ js).length → (L2.wipe σ js)[k]? = some none := by
        intro js
        induction js with
        | nil => intro h; cases h
        | cons j js ih2 =>
          intro h hl
          simp only [L2.wipe] at hl ⊢
          by_cases hj : k = j
          · subst hj; exact set_at (by simpa using hl)
          · rw [set_other hj]
            exact ih2 (by simpa [hj] using h) (by simpa using hl)
      by_cases hl : k < (L2.wipe σ js).length
      · rw [set_at hl, key (h k (by simp)) hl]
      · rw [List.getElem?_eq_none (by simpa using hl), List.getElem?_eq_none (by simpa using hl)]
    · rw [set_other hk]
end
end Wv

set_option Elab.async false
set_option linter.all false
set_option maxRecDepth 100000
/-! Wv15: comprehensions. -/
namespace Wv
open PySem PySem.Spec PyProof.Rows L2
theorem fold_ok {e : Expr} {env : PySem.Env} (h : nset e = true) : ∀ x, foldedSetIterable e env x = pure x := by
  intro x
  cases e <;> first | rfl | cases h
section
variable {G : Cfg} {N : List Str} {sc : Scope}
theorem xnv_comp {own : List Nat} {p : Pat} {s : Src} {ifs : List Ex} {elt : Ex} {x : Expr} (h : erE G N (.comp own p s ifs elt) sc x = true) : ∃ elt' tg iter ifs' scope pos, x = .ListComp elt' [⟨tg, iter, ifs', 0⟩] scope pos ∧ blkC N sc scope (ownP N own) = true ∧ (ownP N own).map (·.2) = own ∧ (∀ i ∈ patV p, i ∈ own) ∧
    erP N (locB scope) p tg = true ∧ nset iter = true ∧ erS G N s sc tg iter = true ∧ ifs'.length ≤ 1 ∧ erEs G N ifs (relS scope sc) ifs' = true ∧ erE G N elt (relS scope sc) elt' = true := by
  obtain ⟨elt', gs, scope, pos, rfl⟩ : ∃ a b c d, x = .ListComp a b c d := by
    cases x with
    | ListComp a b c d => exact ⟨_, _, _, _, rfl⟩
    | _ => simp [erE] at h
  match gs, h with
  | [⟨tg, iter, ifs', n⟩], h =>
    simp only [erE, Bool.and_eq_true, decide_eq_true_eq, beq_iff_eq] at h
    obtain ⟨⟨⟨⟨⟨⟨hn, h1⟩, h2⟩, h3⟩, h4, h5, h6⟩, h7, h8⟩, h9⟩ := h
    subst hn
    exact ⟨elt', tg, iter, ifs', scope, pos, rfl, h1, h2, fun i hi => by simpa using List.all_eq_true.mp h3 i hi, h4, h5, h6, h7, h8, h9⟩
  | [], h => simp [erE] at h
  | ⟨tg, iter, ifs', n⟩ :: _ :: _, h => simp [erE] at h
end
def CQ (r : Res (List D)) (fin : List D → Env → Prop) : Prop := match r with
  | .ok ds e => fin ds e
  | _ => False
/-- one turn and the rest -/
theorem CQ.step {f : D → Env → Res (Option D)} {d : D} {ds : List D} {e : Env} {fin : List D → Env → Prop} (h : CQ (compL f (d :: ds) e) fin) :
    RQ (f d e) (fun o e' => match o with
      | some y => CQ (compL f ds e') fun ys e'' => fin (y :: ys) e''
      | none => CQ (compL f ds e') fin) (fun _ _ _ => False) := by
  simp only [compL] at h
  cases hf : f d e with
  | ok o e' =>
    rw [hf] at h
    cases o with
    | some y =>
      simp only at h
      show CQ (compL f ds e') fun ys e'' => fin (y :: ys) e''
      cases hr : compL f ds e' with
      | ok ys e'' => rw [hr] at h; exact h
      | ex c ds e => rw [hr] at h; exact h
      | bad => rw [hr] at h; exact h
    | none => exact h
  | ex c ds e => rw [hf] at h; exact h
  | bad => rw [hf] at h; exact h
section
variable {G : Cfg} {cl : String → Addr}
def gW (X : Cx) (scope : Scope) (tg : Expr) : TG := fun v σ H Q => ∀ s0 H0 C cs fp, wG (X.blk s0 H0 scope (compEnvC scope cs C X.env) fp) tg v σ H Q
def tW (X : Cx) (scope : Scope) (ifs : List Expr) : TT := fun σ H Q => ∀ s0 H0 C cs fp, ∃ t, PTs (X.blk s0 H0 scope (compEnvC scope cs C X.env) fp) ifs t ∧ t σ H Q
def eW (X : Cx) (scope : Scope) (elt : Expr) : TE := fun σ H Q => ∀ s0 H0 C cs fp, wE (X.blk s0 H0 scope (compEnvC scope cs C X.env) fp) elt σ H Q
theorem pg_gW {X : Cx} {scope : Scope} {tg : Expr} (s0 : Shared) (H0 : Hp) (C : Addr) (cs : List (Str × Addr)) (fp : List Addr) : PG (X.blk s0 H0 scope (compEnvC scope cs C X.env) fp) tg (gW X scope tg) := ⟨fun pins s σ H v u Q I r h => h s0 H0 C cs fp pins s u I r⟩
theorem pt_tW {X : Cx} {scope : Scope} {ifs : List Expr} (s0 : Shared) (H0 : Hp) (C : Addr) (cs : List (Str × Addr)) (fp : List Addr) : PTs (X.blk s0 H0 scope (compEnvC scope cs C X.env) fp) ifs (tW X scope ifs) := ⟨fun pins s σ H Q I h => by obtain ⟨t, pt, ht⟩ := h s0 H0 C cs fp; exact pt.run pins s σ H Q I ht⟩
theorem pe_eW {X : Cx} {scope : Scope} {elt : Expr} (s0 : Shared) (H0 : Hp) (C : Addr) (cs : List (Str × Addr)) (fp : List Addr) : PE (X.blk s0 H0 scope (compEnvC scope cs C X.env) fp) elt (eW X scope elt) := ⟨fun pins s σ H Q I h => h s0 H0 C cs fp pins s I⟩
theorem own_len {X : Cx} {fx : Fx} {sc : Scope} {own : List Nat} {scope : Scope} (g : Good G cl fx sc X) (b1 : blkC X.N sc scope (ownP X.N own) = true) (b2 : (ownP X.N own).map (·.2) = own) : ∀ i ∈ own, i < X.N.length := by
  have ok : BlkOk X.N X.env.scope scope (ownP X.N own) := blkOk_by (by rw [g.scq]; exact b1)
  intro i hi
  rw [← b2] at hi
  obtain ⟨pr, hp, rfl⟩ := List.mem_map.mp hi
  have := ok.ix pr hp
  by_cases h : pr.2 < X.N.length
  · exact h
  · rw [List.getElem?_eq_none (by omega)] at this; cases this
theorem comp_lc {own : List Nat} {p : Pat} {s : Src} {ifs : List Ex} {elt : Ex} (hs : SC G cl s) (hif : TKs G cl ifs) (he : EV G cl elt) {X : Cx} {fx : Fx} {sc : Scope} (g : Good G cl fx sc X) {elt' tg iter : Expr} {ifs' : List Expr} {scope : Scope} (b3 : ∀ i ∈ patV p, i ∈ own)
    (b4 : erP X.N (locB scope) p tg = true) (b6 : erS G X.N s sc tg iter = true) (b7 : ifs'.length ≤ 1) (b8 : erEs G X.N ifs (relS scope sc) ifs' = true) (b9 : erE G X.N elt (relS scope sc) elt' = true) {W : WX} (tk : Takes X W) {F L : Sets} {H : Hp} {σ : L2.St} {env : Env} {A : Nat → Sets} (r : RS X.K cl fx F L H σ env A)
    (hlen : ∀ i ∈ own, i < σ.length) {Q : VK} (q : RQ (ev G (.comp own p s ifs elt) env) (okP X.K cl fx F L H A σ Q) (exP X.K cl G.fl fx F L H A σ W)) : G.hot = false ∧ tLc (wI X tg iter) (gW X scope tg) (tW X scope ifs') (eW X scope elt') own σ H Q := by
  simp only [ev] at q
  split at q
  · exact q.elim
  · rename_i hh
    have hot : G.hot = false := by simpa using hh
    refine ⟨hot, ?_⟩
    refine hs X fx sc tg iter g b6 W tk F L H σ env A r _ (q.bind (fun pr e0 q1 => ?_) fun c ds e1 q1 => q1)
    obtain ⟨is, rs⟩ := pr
    dsimp only at q1
    intro J F1 A1 H1 x1 rs1 walk Dd hD
    generalize hbody : (fun (x : D) (e : Env) => match bindP p x (Wv.wipe e own) with
        | some e => (tes G ifs e).bind fun t e => if t = true then (ev G elt e).bind fun y e => Res.ok (some y) e else Res.ok none e
        | none => Res.bad) = body at q1
    have L1n : ∀ a, lockL L A1 rs a → H1 a ≠ none := fun a z => by
      rcases z with z | ⟨i, _, z⟩
      · exact rs1.dom a (.inr z)
      · exact Mut.some (rs1.own i a z).2.2
    have r2 := rs1.lock rs []
    have hv2 : ∀ j a, (lockFx fx L A1 σ e0 rs []).v j a → lockL L A1 rs a := r2.vl
    have r1 := (r2.wide (v' := fun j a => (j ∈ own ∧ lockL L A1 rs a) ∨ (lockFx fx L A1 σ e0 rs []).v j a) (fun j a z => .inr z) fun j a z => z.elim (·.2) (hv2 j a))
    generalize hfx1 : (⟨(lockFx fx L A1 σ e0 rs []).x, (lockFx fx L A1 σ e0 rs []).p, (lockFx fx L A1 σ e0 rs []).l, fun j a => (j ∈ own ∧ lockL L A1 rs a) ∨ (lockFx fx L A1 σ e0 rs []).v j a⟩ : Fx) = fx1 at r1
    have hfx1x : fx1.x = fx.x := by rw [← hfx1]; rfl
    have hfx1v : ∀ j ∈ own, ∀ a, lockL L A1 rs a → fx1.v j a := fun j hj a z => by rw [← hfx1]; exact .inl ⟨hj, z⟩
    have rw1 := r1.wipe own
    have ri := rw1.wipe own
    rw [lwipe_idem fun i z => z] at ri
    let fin : List D → Env → Prop := fun ds e => fits ds.length = true ∧ okP X.K cl fx F L H A σ Q (.lst .own ds) (Wv.unlock e0 (Wv.restore (Wv.lock e0 rs) (Wv.wipe e own) own) rs)
    have q2 : CQ (compL body is (Wv.wipe (Wv.lock e0 rs) own)) fin := by
      cases hc : compL body is (Wv.wipe (Wv.lock e0 rs) own) with
      | ok ds e =>
        rw [hc] at q1
        by_cases hf : fits ds.length = true
        · simp only [hf, if_true] at q1
          exact ⟨hf, q1⟩
        · simp only [hf, if_false] at q1
          exact q1.elim
      | ex c ds e => rw [hc] at q1; exact q1.elim
      | bad => rw [hc] at q1; exact q1.elim
    let A2 := offs (offs A1 rs) own
    have dis : ∀ a, F1 a ∨ lockL L A1 rs a → ¬ Un A2 a := fun a z u => z.elim (fun z => rw1.fnd a z u) fun z => by
      obtain ⟨i, u⟩ := u
      exact (rw1.own i a u).2.1 z
    let Pv : Nat → Hp → Prop := fun i H' => ∃ Fn An e acc ws fpa, Ext F1 H1 A2 Fn H' An ∧ RS X.K cl fx1 Fn (lockL L A1 rs) H' (L2.wipe σ own) (Wv.wipe e own) An ∧ H' Dd = some (.lst ws) ∧ Rps X.K cl Fn H' acc ws fpa ∧ ¬ fpa Dd ∧
      Tp Fn (lockL L A1 rs) H' An (fun a => fpa a ∨ a = Dd) ∧ Fr H1 A2 fpa ∧ CQ (compL body (is.drop i) e) (fun ys e' => fin (acc ++ ys) e')
    have P0 : Pv 0 (upd H1 Dd (.lst [])) := by
      have g2 : Gr F1 H1 F1 (upd H1 Dd (.lst [])) := Gr.alloc0 hD
      refine ⟨F1, offs A2 own, _, [], [], E0s, g2.ext.trans ⟨fun _ z => z, fun _ z => .inl z, fun a ⟨i, z⟩ => .inl ⟨i, z.2⟩, fun _ _ e _ => e, fun _ e => e⟩, ri.gr g2, upd_same, by simp only [Rps], fun z => z, fun a z => ?_, fun a z => z.elim, q2⟩
      rcases z with z | rfl
      · exact z.elim
      · exact ⟨fun z => rs1.dom _ (.inl z) hD, fun z => L1n _ z hD, fun ⟨i, z⟩ => Mut.some (ri.own i _ z).2.2 hD, by rw [upd_same]; trivial⟩
    refine ⟨fun i m H' => m = is.length - i ∧ i ≤ is.length ∧ Pv i H', ⟨is.length, by simp, Nat.zero_le _, P0⟩, ?_⟩
    rintro i m Hn ⟨rfl, hi, Fn, An, e, acc, ws, fpa, xn, rn, hDn, rp, nD, tp, fr, cq⟩
    obtain ⟨hstop, wk⟩ := walk Fn Hn (xn.kp dis)
    by_cases hlt : i < is.length
    · have hd : is[i]? = some is[i] := List.getElem?_eq_getElem hlt
      rw [List.drop_eq_getElem_cons hlt] at cq
      obtain ⟨go, yl⟩ := wk i _ hd
      refine .inr ⟨go, Pv (i + 1), fun H' p' => ⟨is.length - (i + 1), by omega, rfl, hlt, p'⟩, fun xv H2 y => ?_⟩
      obtain ⟨g2, f, rpx, hf⟩ := yl xv H2 y
      have cs := cq.step
      rw [← hbody] at cs
      simp only at cs
      rw [hbody] at cs
      cases hb : bindP p is[i] (Wv.wipe e own) with
      | none => rw [hb] at cs; exact cs.elim
      | some e2 =>
        rw [hb] at cs
        simp only at cs
        intro s1 H1' C cs1 fp1
        have gb := g.blk hot hfx1x scope s1 H1' C cs1 fp1
        refine bind_ok (X := X.blk s1 H1' scope (compEnvC scope cs1 C X.env) fp1) gb.nd (gb.calm hot) lo_blk p tg b4 (rn.gr g2) hb rpx (fun j hj a z => hfx1v j (b3 j hj) a (hf a z)) fun σ2 Ab rsb unb wp => ?_
        refine ⟨by rw [wp own b3, lwipe_idem fun i z => z], fun s2 H2' C2 cs2 fp2 => ?_⟩
        have gb2 := g.blk hot hfx1x scope s2 H2' C2 cs2 fp2
        have xb : Ext Fn H2 An Fn H2 Ab := ⟨fun _ z => z, fun _ z => .inl z, fun a z => .inl (unb a z), fun _ _ e _ => e, fun _ e => e⟩
        have x02 : Ext F1 H1 A2 Fn H2 Ab := (xn.trans g2.ext).trans xb
        have tp2 : Tp Fn (lockL L A1 rs) H2 Ab (fun a => fpa a ∨ a = Dd) := (tp.ext g2.ext).ext xb
        have rp2 : Rps X.K cl Fn H2 acc ws fpa := rp.kp g2.kp
        have hD2 : H2 Dd = some (.lst ws) := g2.keep _ _ hDn
        have wσ : L2.wipe σ2 own = L2.wipe σ own := by rw [wp own b3, lwipe_idem fun i z => z]
        refine hif (X.blk s2 H2' scope (compEnvC scope cs2 C2 X.env) fp2) fx1 (relS scope sc) ifs' b7 gb2 b8 _ (takes_none5 (X := X.blk s2 H2' scope (compEnvC scope cs2 C2 X.env) fp2)) Fn (lockL L A1 rs) H2 σ2 e2 Ab rsb _ (RQ.bind cs (fun k e3 q3 => ?_) fun c ds e1 z => z.elim)
        intro F3 A3 H3 x3 rs3
        have tp3 := tp2.ext x3
        have kpA : Kp Fn H2 fpa F3 H3 := x3.kp fun a z => z.elim (rsb.fnd a) fun z => (tp2 a (.inl z)).2.2.1
        have rp3 : Rps X.K cl F3 H3 acc ws fpa := rp2.kp kpA
        have hD3 : H3 Dd = some (.lst ws) := x3.keep _ _ hD2 (.inl (tp2 Dd (.inr rfl)).2.2.1)
        cases k with
        | false =>
          refine iteF ?_
          have q3 : CQ (compL body (is.drop (i + 1)) e3) (fun ys e' => fin (acc ++ ys) e') := q3
          have rw3 := rs3.wipe own
          rw [wσ] at rw3
          exact ⟨F3, offs A3 own, e3, acc, ws, fpa, (x02.trans x3).trans ⟨fun _ z => z, fun _ z => .inl z, fun a ⟨j, z⟩ => .inl ⟨j, z.2⟩, fun _ _ e _ => e, fun _ e => e⟩, rw3, hD3, rp3, nD, fun a z => ⟨(tp3 a z).1, (tp3 a z).2.1, fun ⟨j, u⟩ => (tp3 a z).2.2.1 ⟨j, u.2⟩, (tp3 a z).2.2.2⟩, fr, q3⟩
        | true =>
          refine iteT fun s3 H3' C3 cs3 fp3 => ?_
          have gb3 := g.blk hot hfx1x scope s3 H3' C3 cs3 fp3
          have q3 : RQ ((ev G elt e3).bind fun y e => Res.ok (some y) e) (fun o e' => match o with
            | some y => CQ (compL body (is.drop (i + 1)) e') fun ys e'' => fin (acc ++ y :: ys) e''
            | none => CQ (compL body (is.drop (i + 1)) e') fun ys e'' => fin (acc ++ ys) e'') (fun _ _ _ => False) := q3
          refine he (X.blk s3 H3' scope (compEnvC scope cs3 C3 X.env) fp3) fx1 (relS scope sc) elt' gb3 b9 _ (takes_none5 (X := X.blk s3 H3' scope (compEnvC scope cs3 C3 X.env) fp3)) F3 (lockL L A1 rs) H3 σ2 e3 A3 rs3 _ (RQ.bind q3 (fun dy e4 q4 => ?_) fun c ds e1 z => z.elim)
          intro yv F4 A4 H4 f4 x4 rs4 rp4 t4 fr4
          have q4 : CQ (compL body (is.drop (i + 1)) e4) fun ys e'' => fin (acc ++ dy :: ys) e'' := q4
          have tp4 := tp3.ext x4
          have hD4 : H4 Dd = some (.lst ws) := x4.keep _ _ hD3 (.inl (tp3 Dd (.inr rfl)).2.2.1)
          have kpB : Kp F3 H3 fpa F4 H4 := x4.kp fun a z => z.elim (rs3.fnd a) fun z => (tp3 a (.inl z)).2.2.1
          have rpa4 : Rps X.K cl F4 H4 acc ws fpa := rp3.kp kpB
          have nf4 : ¬ f4 Dd := fun z => tp3.apart fr4 Dd (.inr rfl) z
          have sep4 : ∀ a, fpa a → f4 a → False := fun a z u => tp3.apart fr4 a (.inl z) u
          obtain ⟨d1, d2, d3, d4⟩ := tp4 Dd (.inr rfl)
          have kpD : ∀ {S : Sets}, ¬ S Dd → Kp F4 H4 S F4 (upd H4 Dd (.lst (ws ++ [yv]))) := fun hS => Kp.at1 d1 hS d4
          have hlen : ws.length < sizeLine := by
            cases hc : compL body (is.drop (i + 1)) e4 with
            | ok ys e' =>
              rw [hc] at q4
              have hf : fits (acc ++ dy :: ys).length = true := q4.1
              have := fits_le hf
              have hl := rpa4.length
              simp only [List.length_append, List.length_cons] at this
              omega
            | ex c ds e => rw [hc] at q4; exact q4.elim
            | bad => rw [hc] at q4; exact q4.elim
          refine ⟨ws, hD4, hlen, ?_⟩
          have rw4 := (rs4.at1 (o := .lst (ws ++ [yv])) (fun a z => by subst z; exact tp4 _ (.inr rfl))).wipe own
          rw [wσ] at rw4
          have x4' : Ext F1 H1 A2 F4 (upd H4 Dd (.lst (ws ++ [yv]))) (offs A4 own) := by
            have x5 := (x02.trans x3).trans x4
            refine ⟨x5.fro, x5.new, fun a ⟨j, z⟩ => x5.own a ⟨j, z.2⟩, fun a o eo z => ?_, fun a z => ?_⟩
            · have ha : a ≠ Dd := fun h => by subst h; rw [hD] at eo; cases eo
              rw [upd_ne ha]; exact x5.keep a o eo z
            · by_cases ha : a = Dd
              · subst ha; exact hD
              · rw [upd_ne ha] at z; exact x5.live a z
          refine ⟨F4, offs A4 own, e4, acc ++ [dy], ws ++ [yv], fun a => fpa a ∨ f4 a, x4', rw4, upd_same, ?_, fun z => z.elim nD nf4, fun a z => ?_, ?_, ?_⟩
          · exact Rps.append (rpa4.kp (kpD nD)) (Rps.cons (rp4.kp (kpD nf4)) (show Rps X.K cl F4 _ [] [] E0s by simp only [Rps]) (fun _ _ z => z.elim) (fun _ z => z) fun _ z => z.elim) sep4 (fun _ z => .inl z) fun _ z => .inr z
          · have : Tp F4 (lockL L A1 rs) H4 A4 (fun a => (fpa a ∨ f4 a) ∨ a = Dd) := fun a z => by
              rcases z with (z | z) | z
              · exact tp4 a (.inl z)
              · exact t4 a z
              · exact tp4 a (.inr z)
            obtain ⟨t1, t2, t3, t5⟩ := this a z
            refine ⟨t1, t2, fun ⟨j, u⟩ => t3 ⟨j, u.2⟩, ?_⟩
            by_cases ha : a = Dd
            · subst ha; rw [upd_same]; trivial
            · rw [upd_ne ha]; exact t5
          · exact fr.un (fr4.ext (x02.trans x3))
          · have e0' : ∀ ys, acc ++ [dy] ++ ys = acc ++ dy :: ys := fun ys => by simp
            simp only [e0']
            exact q4
    · have ei : i = is.length := by omega
      subst ei
      refine .inl ⟨hstop, ?_⟩
      rw [List.drop_length] at cq
      have cq : fin (acc ++ []) e := cq
      rw [List.append_nil] at cq
      obtain ⟨hfit, qok⟩ := cq
      obtain ⟨r5, x5⟩ := r2.restore (fx' := fx1) ⟨by rw [← hfx1], by rw [← hfx1], by rw [← hfx1], fun j hj => by
        rw [← hfx1]
        funext a
        exact propext ⟨fun z => z.elim (fun z => absurd z.1 hj) id, .inr⟩⟩ (fun i hi => by rw [lock_len, ← rs1.len]; exact hlen i hi) rn xn
      obtain ⟨A6, r6, x6, u6⟩ := rs1.unlock (pv := []) r5 x5
      have nUn : ∀ a, fpa a ∨ a = Dd → ¬ Un A6 a := fun a z u => by
        obtain ⟨t1, t2, t3, t4⟩ := tp a z
        have ex1 : ∀ j, A1 j a → (j ∈ own ∧ j ∉ rs) → False := fun j hz hj => by
          rcases z with z | rfl
          · rcases fr a z with z | ⟨k, z⟩
            · exact Mut.some (rs1.own j a hz).2.2 z
            · exact rs1.sep j k a (fun h => z.1 (h ▸ hj.1)) hz z.2.2
          · exact Mut.some (rs1.own j _ hz).2.2 hD
        rcases u6 a u with u | ⟨j, hj, u⟩
        · rcases un_back u with u | ⟨j, hj, u⟩
          · exact t3 u
          · exact ex1 j u.2 ⟨hj, u.1⟩
        · exact t2 (.inr ⟨j, hj, u⟩)
      refine qok (.ref Dd) Fn A6 Hn (fun a => fpa a ∨ a = Dd) (x1.trans x6) r6 ?_ (fun a z => ?_) fun a z => ?_
      · simp only [Rp]
        exact ⟨Dd, ws, fpa, rfl, hDn, .inr rfl, nD, fun _ z => .inl z, rp⟩
      · obtain ⟨t1, t2, t3, t4⟩ := tp a z
        exact ⟨t1, fun u => t2 (.inl u), nUn a z, t4⟩
      · rcases z with z | rfl
        · rcases fr a z with z | ⟨k, z⟩
          · exact .inl (x1.live a z)
          · exact (x1.own a ⟨k, z.2.2⟩).symm
        · exact .inl (x1.live _ hD)
theorem ev_comp {own : List Nat} {p : Pat} {s : Src} {ifs : List Ex} {elt : Ex} (hs : SC G cl s) (hif : TKs G cl ifs) (he : EV G cl elt) : EV G cl (.comp own p s ifs elt) := by
  intro X fx sc x g er W tk F L H σ env A r Q q
  obtain ⟨elt', tg, iter, ifs', scope, pos, rfl, b1, b2, b3, b4, b5, b6, b7, b8, b9⟩ := xnv_comp er
  have ok : BlkOk X.N X.env.scope scope (ownP X.N own) := blkOk_by (by rw [g.scq]; exact b1)
  intro pins s0 I0
  obtain ⟨hot, k⟩ := comp_lc hs hif he g b3 b4 b6 b7 b8 b9 tk r (fun i hi => by rw [I0.len]; exact own_len g b1 b2 i hi) q
  refine (pe_lc (g.calm hot) g.nd pi_w ok pg_gW pt_tW pe_eW (fold_ok b5)).run pins s0 σ H Q I0 ?_
  rw [b2]
  exact k
end
end Wv

set_option Elab.async false
set_option linter.all false
set_option maxRecDepth 100000
/-! Wv16: new objects; append. -/
namespace Wv
open PySem PySem.Spec PyProof.Rows L2
section
variable {G : Cfg} {cl : String → Addr}
theorem upd_other {H : Hp} {x a : Addr} {o : HO} (h : a ≠ x) : upd H x o a = H a := upd_ne h
theorem ev_new {c : String} {es : List Ex} {ks : List String} (hs : EAs G cl es) : EV G cl (.new c es ks) := by
  intro X fx sc x g er W tk F L H σ env A r Q q
  obtain ⟨q0, ys, kws, p, rfl, h1, h2, hg, rfl, hq, hkw, ea⟩ := xnv_new er
  obtain ⟨k1, k2, k3⟩ := okName_ok h2
  have hc : c ∈ G.pl := by simpa using hg
  simp only [ev, muts_allQ hq] at q
  split at q
  · exact q.elim
  · rename_i hh
    have hot : G.hot = false := by
      cases hG : G.hot with
      | false => rfl
      | true => rw [hG] at hh; simp at hh
    intro pins s I
    have m1 := g.kf.cls c (.inl hc)
    have M := g.kf.mkc c hc
    refine wpAny_Call_Name_kw (ld_glob I (glB_ok g.scq h1) m1 ?_ k1)
    have hn : nsts ys = true := by
      have := erEs_nsts _ _ ea
      clear ea er
      induction ys with
      | nil => rfl
      | cons y ys ih =>
        simp only [List.cons_append, nsts, Bool.and_eq_true] at this ⊢
        exact ⟨this.1, ih this.2⟩
    refine cw_ok M.kp hn hkw (hs X fx sc _ g ea hq W tk F L H σ env A r [] _ (RQ.bind q (fun ss e1 q1 => ?_) fun c ds e1 q1 => q1)) I
    intro vs ds F1 A1 H1 fp hss x1 rs1 rp1 _ _
    intro pins s us ws I1 rv l1 l2
    have hw0 : ws = [] := List.eq_nil_of_length_eq_zero l2
    subst hw0
    rw [List.append_nil] at rv
    obtain ⟨T, t, rfl, rfl, hu⟩ := tri_of rp1 rv
    have hss' : ss = T.map fun t => Slot.br t.1 := by rw [hss]; simp
    subst hss'
    simp only [picks, List.isEmpty_nil, if_true] at q1
    have hne : ∃ ss, G.cf (c ++ ".__init__") ss ≠ .bad := ⟨_, fun z => by rw [z] at q1; exact q1⟩
    obtain ⟨k, fd, Fn, hr, b0, _⟩ := g.fns hot (c ++ ".__init__") hne
    have I2 := Inv.made (C := cl c) I1
    generalize hx : s.heap.objs.size + 1 = xa at I2
    generalize hdx : s.heap.objs.size = xd at I2
    have nx : H1 xa = none := by rw [← hx]; exact I1.hok.fresh (Nat.le_succ _)
    have nd : H1 xd = none := by rw [← hdx]; exact I1.hok.fresh (Nat.le_refl _)
    have ne : xd ≠ xa := by rw [← hx, ← hdx]; exact Nat.ne_of_lt (Nat.lt_succ_self _)
    generalize hH2 : upd (upd H1 xd (.own xa)) xa (.ins (cl c) xd []) = H2 at I2
    have old : ∀ a, H1 a ≠ none → H2 a = H1 a := fun a z => by
      have a1 : a ≠ xa := fun e => by subst e; exact z nx
      have a2 : a ≠ xd := fun e => by subst e; exact z nd
      rw [← hH2, upd_other a1, upd_other a2]
    have h2x : H2 xa = some (.ins (cl c) xd []) := by rw [← hH2, upd_same]
    have only : ∀ a, H2 a = none → H1 a = none := fun a z => Classical.byContradiction fun w => by rw [old a w] at z; exact w z
    have fdm : ∀ a, F1 a → H1 a ≠ none := fun a z => rs1.dom a (.inl z)
    have g12 : Gr F1 H1 F1 H2 := ⟨fun _ z => z, fun _ z => .inl z, fun a o e => by rw [old a (by rw [e]; simp)]; exact e, fun _ z => .inl z⟩
    have rsC : RS X.K cl (fxa (V.ref xa :: T.map (·.2.1)) fun a => H1 a ≠ none) F1 (fun a => H1 a ≠ none) H2 ((V.ref xa :: T.map (·.2.1)).map some) (Slot.mp (.obj .own c [] []) :: T.map fun t => Slot.br t.1) (fun i a => i = 0 ∧ a = xa) := by
      have rb := (t.rs fdm (T.map (·.2.1))).gr g12
      refine ⟨by simp, fun i d h => ?_, fun i d h => ?_, fun i d h => ?_, fun i d h => ?_, fun i c ns ds h => ?_, fun i j a hn z u => hn (z.1.trans u.1.symm), fun i a z => ?_, fun a z => ?_, fun i a z => z⟩
      · cases i with
        | zero => cases h
        | succ i =>
          obtain ⟨v, e1, e2⟩ := rb.me i d (by simpa using h)
          simp at h
      · cases i with
        | zero =>
          cases h
          refine ⟨.ref xa, rfl, ?_, rfl⟩
          simp only [Rp]
          exact ⟨xa, xd, [], E0s, rfl, h2x, rfl, by simp, fun z => z, fun _ z => z.elim, by simp only [Rps]⟩
        | succ i => simp at h
      · cases i with
        | zero => cases h
        | succ i =>
          obtain ⟨v, f, e1, e2, e3⟩ := rb.vw i d (by simpa using h)
          exact ⟨v, f, by simpa using e1, e2, e3⟩
      · cases i with
        | zero => cases h
        | succ i => simp at h
      · cases i with
        | zero => cases h
        | succ i => simp at h
      · obtain ⟨_, rfl⟩ := z
        exact ⟨fun z => fdm _ z nx, fun z => z nx, by rw [h2x]; trivial⟩
      · rcases z with z | z
        · intro e; exact fdm a z (only a e)
        · intro e; exact z (only a e)
    have post : spF X.K cl G.fl (G.cf (c ++ ".__init__")) (V.ref xa :: T.map (·.2.1)) H2 (fun v H3 => v = .non ∧ Q (.ref xa) H3) (WE W σ) := by
      refine ⟨F1, _, _, _, rsC, ?_⟩
      unfold crP
      cases hc : G.cf (c ++ ".__init__") (Slot.mp (.obj .own c [] []) :: T.map fun t => Slot.br t.1) with
      | bad => rw [hc] at q1; exact q1
      | ok d outs =>
        rw [hc] at q1
        intro v F2 A2 H3 f2 ss2 x2 po rs2 rp2 t2 fr2
        split at q1
        · rename_i o hd
          cases hd
          have hnp : putOuts (Slot.mp (.obj .own c [] []) :: T.map fun t => Slot.br t.1) [o] = some (Slot.mp o :: T.map fun t => Slot.br t.1) := by
            have : ∀ T : List (D × V × Value), putOuts (T.map fun t => Slot.br t.1) [] = some (T.map fun t => Slot.br t.1) := by
              intro T
              induction T with
              | nil => rfl
              | cons t T ih => simp only [List.map_cons, putOuts, ih]; rfl
            simp only [putOuts, this]
            rfl
          rw [hnp] at po
          cases po
          obtain ⟨v0, e9, e2, _⟩ := rs2.mp 0 o rfl
          have e9 : V.ref xa = v0 := by simpa using e9
          subst e9
          simp only [Rp] at rp2
          refine ⟨rp2, ?_⟩
          have q1 : okP X.K cl fx F L H A σ Q o.froz e1 := q1
          have g3 : Gr F1 H1 (fun a => F2 a ∨ A2 0 a) H3 := by
            have nun : ∀ a, H1 a ≠ none → ¬ Un (fun (i : Nat) a => i = 0 ∧ a = xa) a := fun a z ⟨i, u⟩ => z (u.2 ▸ nx)
            refine ⟨fun a z => .inl (x2.fro a z), fun a z => ?_, fun a o e => x2.keep a o (by rw [old a (by rw [e]; simp)]; exact e) (.inl (nun a (by rw [e]; simp))), fun a z => .inr ?_⟩
            · rcases z with z | z
              · rcases x2.new a z with z | z | ⟨i, z⟩
                · exact .inl z
                · exact .inr (only a z)
                · exact .inr (z.2 ▸ nx)
              · rcases x2.own a ⟨0, z⟩ with ⟨i, z⟩ | z
                · exact .inr (z.2 ▸ nx)
                · exact .inr (only a z)
            · rcases z with z | z
              · exact rs2.dom a (.inl z)
              · exact Mut.some (rs2.own 0 a z).2.2
          exact q1 (.ref xa) _ A1 H3 E0s (x1.trans g3.ext) (rs1.gr g3) (e2.froz (fun a z => .inr z) fun a z => .inl z) Tp.e0 Fr.e0
        · rename_i hd; cases hd
        · exact q1.elim
      | ex c' ds outs =>
        rw [hc] at q1
        have q1 : exP X.K cl G.fl fx F L H A σ W c' ds e1 := q1
        intro F2 A2 H3 dx ws2 ss2 x2 po rs2 e1' rp2 hl
        have g3 : Gr F1 H1 F2 H3 := by
          have nun : ∀ a, H1 a ≠ none → ¬ Un (fun (i : Nat) a => i = 0 ∧ a = xa) a := fun a z ⟨i, u⟩ => z (u.2 ▸ nx)
          refine ⟨fun a z => x2.fro a z, fun a z => ?_, fun a o e => x2.keep a o (by rw [old a (by rw [e]; simp)]; exact e) (.inl (nun a (by rw [e]; simp))), fun a z => .inr (rs2.dom a (.inl z))⟩
          rcases x2.new a z with z | z | ⟨i, z⟩
          · exact .inl z
          · exact .inr (only a z)
          · exact .inr (z.2 ▸ nx)
        exact q1 F2 A1 H3 dx ws2 (x1.trans g3.ext) (rs1.gr g3) e1' rp2 hl
    have hl := Fn.len _ _ _ _ post
    have hlu : us.length = T.length := by rw [hu]; simp
    have bt := b0 _ (Value.ref xa :: us) I2.kIn (by rw [List.append_nil]; simpa [hlu] using hl)
    rw [List.append_nil] at bt
    have vals : Vals (V.ref xa :: T.map (·.2.1)) (Value.ref xa :: us) := .cons rfl rv
    have w := Fn.run _ X.stack _ _ ⟨Value.ref xa :: us, []⟩ (Value.ref xa :: us) _ _ (WE W σ) (hr.make (cl c) us []) (I2.env0.make (cl c) us []) bt vals post
    subst hx
    subst hdx
    refine wpAny_call (make_map (f := cl (c ++ ".__init__")) I1.kIn M.makes M.init (beq_iff_eq.mp M.fn) (codeAny_mono w fun res s' z => ?_))
    match res, z with
    | .error e, z => exact passAt tk σ pins _ _ e s' I2 z
    | .ok (.ret u), z =>
      obtain ⟨v, H', I3, rv', ev', q3⟩ := I2.after z
      subst ev'
      exact ⟨rv', ⟨V.ref (s.heap.objs.size + 1), H', I3, rfl, q3⟩⟩
    | .ok .next, z => exact z.elim
    | .ok .brk, z => exact z.elim
    | .ok .cont, z => exact z.elim
/-! ### a slot's own root node changed -/
section
variable {K : PySem.W.Frag} {fx : Fx} {F F0 L : Sets} {H H0 : Hp} {σ : L2.St} {env : Env} {A A0 : Nat → Sets}
theorem RS.node (r : RS K cl fx F L H σ env A) {x : Nat} {s' : Slot} {d d' : D} (hx : (env[x]? = some (.me d) ∧ s' = .me d') ∨ (env[x]? = some (.mp d) ∧ s' = .mp d')) {a : Addr} {o : HO} (ha : A x a) (hv : σ[x]? = some (some (.ref a))) (hm : Mut (some o)) {fp fp' : Sets} (t : Tp F L H A fp) (hf : ∀ b, fp' b → A x b ∨ fp b)
    (rp : Rp K cl F (upd H a o) d' (.ref a) fp') : RS K cl fx F L (upd H a o) σ (env.set x s') (onA A x fp') := by
  obtain ⟨o1, o2, o3⟩ := r.own x a ha
  have kp : ∀ {S : Sets}, ¬ S a → Kp F H S F (upd H a o) := fun hS => Kp.at1 o1 hS o3
  have hl : x < env.length := by
    by_cases h : x < env.length
    · exact h
    · have e : env[x]? = none := List.getElem?_eq_none (by omega)
      rcases hx with ⟨h, _⟩ | ⟨h, _⟩ <;> (rw [e] at h; cases h)
  have hA : ∀ {j : Nat}, j ≠ x → ∀ {b : Addr}, A j b → onA A x fp' j b := fun {j} hj {b} z => by simp only [onA, hj, if_false]; exact z
  have hB : ∀ {j : Nat}, j ≠ x → ∀ {b : Addr}, onA A x fp' j b → A j b := fun {j} hj {b} z => by simpa only [onA, hj, if_false] using z
  have hC : ∀ {b : Addr}, onA A x fp' x b → fp' b := fun {b} z => by simpa only [onA, if_true] using z
  have hD : ∀ {b : Addr}, fp' b → onA A x fp' x b := fun {b} z => by simp only [onA, if_true]; exact z
  have self : ∀ {s : Slot}, (env.set x s')[x]? = some s → s = s' := fun h => set_self h
  refine ⟨by rw [List.length_set]; exact r.len, fun j d1 h => ?_, fun j d1 h => ?_, fun j d1 h => ?_, fun j d1 h => ?_, fun j c ns ds h => ?_, fun j k b hn z u => ?_, fun j b z => ?_, fun b z => ?_, r.vl⟩
  · by_cases hj : j = x
    · subst hj
      have e := self h
      rcases hx with ⟨_, e'⟩ | ⟨_, e'⟩
      · rw [e'] at e; cases e
        exact ⟨_, hv, rp.mono fun b z => hD z⟩
      · rw [e'] at e; cases e
    · rw [set_other hj] at h
      obtain ⟨v, e1, e2⟩ := r.me j d1 h
      exact ⟨v, e1, (e2.kp (kp fun z => r.sep j x a hj z ha)).mono fun b z => hA hj z⟩
  · by_cases hj : j = x
    · subst hj
      have e := self h
      rcases hx with ⟨_, e'⟩ | ⟨e0, e'⟩
      · rw [e'] at e; cases e
      · rw [e'] at e; cases e
        obtain ⟨v, e1, e2, e3⟩ := r.mp j d e0
        rw [hv] at e1; cases e1
        exact ⟨_, hv, rp.mono fun b z => hD z, e3⟩
    · rw [set_other hj] at h
      obtain ⟨v, e1, e2, e3⟩ := r.mp j d1 h
      exact ⟨v, e1, (e2.kp (kp fun z => r.sep j x a hj z ha)).mono fun b z => hA hj z, e3⟩
  · by_cases hj : j = x
    · subst hj
      have e := self h
      rcases hx with ⟨_, e'⟩ | ⟨_, e'⟩ <;> (rw [e'] at e; cases e)
    · rw [set_other hj] at h
      obtain ⟨v, f, e1, e2, e3⟩ := r.vw j d1 h
      exact ⟨v, f, e1, e2.kp (kp fun z => o2 (r.vl j a (e3 a z))), e3⟩
  · by_cases hj : j = x
    · subst hj
      have e := self h
      rcases hx with ⟨_, e'⟩ | ⟨_, e'⟩ <;> (rw [e'] at e; cases e)
    · rw [set_other hj] at h
      obtain ⟨v, f, e1, e2, e3, e4⟩ := r.lk j d1 h
      exact ⟨v, f, e1, e2.kp (kp fun z => o2 (r.vl j a (e3 a z))), e3, e4⟩
  · by_cases hj : j = x
    · subst hj
      have e := self h
      rcases hx with ⟨_, e'⟩ | ⟨_, e'⟩ <;> (rw [e'] at e; cases e)
    · rw [set_other hj] at h
      obtain ⟨b, dx, vs, h1, h2, h3, h4, h5⟩ := r.xc j c ns ds h
      have kk : Kp F H E0s F (upd H a o) := kp fun z => z
      exact ⟨b, dx, vs, h1, h2, kk.keep _ _ h3 (.inr (.inr fun z => z)), h4, h5.kp kk⟩
  · have mix : ∀ {k : Nat}, k ≠ x → fp' b → A k b → False := fun {k} hk z u => by
      rcases hf b z with z | z
      · exact r.sep k x b hk u z
      · exact (t b z).2.2.1 ⟨k, u⟩
    by_cases hj : j = x
    · subst hj
      exact mix (fun e => hn e.symm) (hC z) (hB (fun e => hn e.symm) u)
    · by_cases hk : k = x
      · subst hk; exact mix hj (hC u) (hB hj z)
      · exact r.sep j k b hn (hB hj z) (hB hk u)
  · have mt : Mut (H b) → Mut (upd H a o b) := fun z => by
      by_cases hb : b = a
      · subst hb; rw [upd_same]; exact hm
      · rw [upd_ne hb]; exact z
    by_cases hj : j = x
    · subst hj
      rcases hf b (hC z) with z | z
      · obtain ⟨h1, h2, h3⟩ := r.own j b z
        exact ⟨h1, h2, mt h3⟩
      · obtain ⟨h1, h2, _, h3⟩ := t b z
        exact ⟨h1, h2, mt h3⟩
    · obtain ⟨h1, h2, h3⟩ := r.own j b (hB hj z)
      exact ⟨h1, h2, mt h3⟩
  · by_cases hb : b = a
    · subst hb; rw [upd_same]; intro z; cases z
    · rw [upd_ne hb]; exact r.dom b z
theorem Ext.node (x1 : Ext F0 H0 A0 F H A) {x : Nat} {a : Addr} {o : HO} (ha : A x a) (hmu : Mut (H a)) {fp fp' : Sets} (fr : Fr H0 A0 fp) (hf : ∀ b, fp' b → A x b ∨ fp b) : Ext F0 H0 A0 F (upd H a o) (onA A x fp') where
  fro := x1.fro
  new := x1.new
  own := fun b z => by
    rcases un_onA z with z | z
    · exact x1.own b z
    · rcases hf b z with z | z
      · exact x1.own b ⟨x, z⟩
      · exact (fr b z).symm
  keep := fun b u e z => by
    have k := x1.keep b u e z
    by_cases hb : b = a
    · subst hb
      rw [k] at hmu
      rcases z with z | z
      · rcases x1.own b ⟨x, ha⟩ with w | w
        · exact (z w).elim
        · rw [e] at w; cases w
      · exact (z hmu).elim
    · rw [upd_ne hb]; exact k
  live := fun b z => by
    by_cases hb : b = a
    · subst hb; rw [upd_same] at z; cases z
    · rw [upd_ne hb] at z; exact x1.live b z
/-- the root node of a list that a slot owns -/
theorem RS.own_lst (r : RS K cl fx F L H σ env A) {x : Nat} {ds : List D} (hx : env[x]? = some (.me (.lst .own ds)) ∨ env[x]? = some (.mp (.lst .own ds))) : ∃ a vs f, σ[x]? = some (some (.ref a)) ∧ H a = some (.lst vs) ∧ A x a ∧ ¬ f a ∧ (∀ b, f b → A x b) ∧ Rps K cl F H ds vs f := by
  have key : ∀ {v}, σ[x]? = some (some v) → Rp K cl F H (.lst .own ds) v (A x) → ∃ a vs f, σ[x]? = some (some (.ref a)) ∧ H a = some (.lst vs) ∧ A x a ∧ ¬ f a ∧ (∀ b, f b → A x b) ∧ Rps K cl F H ds vs f := fun {v} e1 e2 => by
    simp only [Rp] at e2
    obtain ⟨a, vs, f, rfl, h1, h2, h3, h4, h5⟩ := e2
    exact ⟨a, vs, f, e1, h1, h2, h3, h4, h5⟩
  rcases hx with hx | hx
  · obtain ⟨v, e1, e2⟩ := r.me x _ hx
    exact key e1 e2
  · obtain ⟨v, e1, e2, _⟩ := r.mp x _ hx
    exact key e1 e2
end
/-! ### methods that change their list or set -/
theorem updS_inv {e e' : Env} {i : Nat} {f : D → Option (D × D)} {rd : D} (h : updS e i [] f = some (rd, e')) : ∃ d d' s', f d = some (rd, d') ∧ e' = e.set i s' ∧ ((e[i]? = some (.me d) ∧ s' = .me d') ∨ (e[i]? = some (.mp d) ∧ s' = .mp d')) := by
  unfold updS at h
  split at h
  · rename_i d hd
    simp only [updAt, Option.map_eq_some_iff] at h
    obtain ⟨⟨r1, d1⟩, h1, h2⟩ := h
    cases h2
    exact ⟨d, d1, _, h1, rfl, .inl ⟨hd, rfl⟩⟩
  · rename_i d hd
    simp only [updAt, Option.map_eq_some_iff] at h
    obtain ⟨⟨r1, d1⟩, h1, h2⟩ := h
    cases h2
    exact ⟨d, d1, _, h1, rfl, .inr ⟨hd, rfl⟩⟩
  · cases h
section
variable {K : PySem.W.Frag} {cl : String → Addr} {fx : Fx} {F F1 L : Sets} {H H1 : Hp} {σ : L2.St} {env e1 : Env} {A A1 : Nat → Sets}
theorem RS.own_set (r : RS K cl fx F L H σ env A) {x : Nat} {ds : List Int} (hx : env[x]? = some (.me (.iset .own ds)) ∨ env[x]? = some (.mp (.iset .own ds))) : ∃ a S, σ[x]? = some (some (.ref a)) ∧ H a = some (.set S ds.length) ∧ A x a ∧ ds.Pairwise (· < ·) ∧ ∀ k, S k = decide (k ∈ ds) := by
  have key : ∀ {v}, σ[x]? = some (some v) → Rp K cl F H (.iset .own ds) v (A x) → ∃ a S, σ[x]? = some (some (.ref a)) ∧ H a = some (.set S ds.length) ∧ A x a ∧ ds.Pairwise (· < ·) ∧ ∀ k, S k = decide (k ∈ ds) := fun {v} e1 e2 => by
    simp only [Rp] at e2
    obtain ⟨a, S, rfl, h1, h2, h3, h4⟩ := e2
    exact ⟨a, S, e1, h1, h2, h3, h4⟩
  rcases hx with hx | hx
  · obtain ⟨v, e1, e2⟩ := r.me x _ hx
    exact key e1 e2
  · obtain ⟨v, e1, e2, _⟩ := r.mp x _ hx
    exact key e1 e2
theorem RS.own_dic (r : RS K cl fx F L H σ env A) {x : Nat} {ks vs : List D} (hx : env[x]? = some (.me (.dic .own ks vs)) ∨ env[x]? = some (.mp (.dic .own ks vs))) : ∃ (a : Addr) (kvs : List (Key × V)) (is : List Int), σ[x]? = some (some (.ref a)) ∧ H a = some (.dK kvs) ∧ A x a ∧ ks = is.map D.int ∧ kvs.map (·.1) = is.map Sum.inl ∧ Rps K cl F H vs (kvs.map (·.2)) E0s := by
  have key : ∀ {v}, σ[x]? = some (some v) → Rp K cl F H (.dic .own ks vs) v (A x) → ∃ (a : Addr) (kvs : List (Key × V)) (is : List Int), σ[x]? = some (some (.ref a)) ∧ H a = some (.dK kvs) ∧ A x a ∧ ks = is.map D.int ∧ kvs.map (·.1) = is.map Sum.inl ∧ Rps K cl F H vs (kvs.map (·.2)) E0s := fun {v} e1 e2 => by
    simp only [Rp] at e2
    obtain ⟨a, kvs, is, rfl, h1, h2, h3, h4, h5⟩ := e2
    exact ⟨a, kvs, is, e1, h1, h2, h3, h4, h5⟩
  rcases hx with hx | hx
  · obtain ⟨v, e1, e2⟩ := r.me x _ hx
    exact key e1 e2
  · obtain ⟨v, e1, e2, _⟩ := r.mp x _ hx
    exact key e1 e2
/-- the root of slot x is written anew, the result shows nothing of it -/
theorem mm_fin (x1 : Ext F H A F1 H1 A1) (rs1 : RS K cl fx F1 L H1 σ e1 A1) {x : Nat} {d d' rd : D} {s' : Slot} (hx : (e1[x]? = some (.me d) ∧ s' = .me d') ∨ (e1[x]? = some (.mp d) ∧ s' = .mp d')) {a : Addr} (o : HO) (ha : A1 x a) (hv : σ[x]? = some (some (.ref a))) (hm : Mut (some o)) {fp fp' : Sets} (t : Tp F1 L H1 A1 fp) (fr : Fr H A fp) (hf : ∀ b, fp' b → A1 x b ∨ fp b)
    (rp : Rp K cl F1 (upd H1 a o) d' (.ref a) fp') {rv : V} (rr : Rp K cl F1 (upd H1 a o) rd rv E0s) {Q : VK} (q : okP K cl fx F L H A σ Q rd (e1.set x s')) : Q rv (upd H1 a o) :=
  q rv F1 _ _ E0s (x1.node (o := o) ha (rs1.own x a ha).2.2 fr hf) (rs1.node hx ha hv hm t hf rp) rr Tp.e0 Fr.e0
end
/-- set.add of an int -/
def rAddI : V → List V → Hp → VK → Prop := fun x xs H Q => ∃ (a : Addr) (k : Int) (S : Int → Bool) (n : Nat), x = V.ref a ∧ xs = [V.int k] ∧ H a = some (.set S n) ∧ n + 1 < PySem.scanBound ∧
  Q .non (upd H a (.set (fun j => S j || decide (j = k)) (if S k = true then n else n + 1)))
theorem mt_addI {X : Cx} : MtR X "set.add" rAddI := by
  intro pins s σ H x xs v us Q I rx rxs h
  obtain ⟨a, k, S, n, rfl, rfl, ha, room, q⟩ := h
  cases rx
  cases rxs with
  | cons ry rt =>
    cases rt
    obtain ⟨tk, rfl⟩ := ry
    have R : s.heap.SetOf (intKind X.prog X.w) a S n := I.hok a _ ha
    refine PySem.call_set_add (intKind_is _ _ _ _) rfl R room fun h' sb new => ?_
    have he : ∃ u, h'.get? a = some u := by
      have ⟨o, _, _, _, ho, _⟩ := new
      exact ⟨o, ho⟩
    exact ⟨.non, upd H a (.set (fun j => S j || decide (j = k)) (if S k = true then n else n + 1)), I.write (e := a) (t' := s.toks + 1) (by rw [ha]; trivial) (.inl rfl) (fun b u hb hu => (sb.2 b hb).trans hu) he new, rfl, q⟩
def rSet0i : List V → Hp → VK → Prop := fun xs H Q => xs = [] ∧ ∀ p, H p = none → Q (.ref p) (upd H p (.set (fun _ => false) 0))
theorem cr_set0i {X : Cx} : CallR X (.type "set") rSet0i := by
  intro pins s σ H xs us Q I r h
  obtain ⟨rfl, q⟩ := h
  cases r
  refine L2.setR_new fun new => ?_
  exact ⟨.ref _, upd H s.heap.objs.size (.set (fun _ => false) 0), I.laid (t' := s.toks) (fun b u e => Heap.get?_push_of_some _ e) (Nat.le_refl _) new.setOf, rfl, q _ (I.hok.fresh (Nat.le_refl _))⟩
theorem ev_mk0 {b : Bool} : EV G cl (.mk0 b) := by
  intro X fx sc x g er W tk F L H σ env A r Q q
  simp only [ev] at q
  have op := okP.op q r
  rcases xnv_mk0 er with ⟨rfl, q0, p, rfl, h1, h2⟩ | ⟨rfl, p, rfl⟩
  · obtain ⟨k1, k2, k3⟩ := okName_ok h2
    refine to_wE (pe_callTy0 cr_set0i (glB_ok g.scq h1) (g.kf.bi "set" (by decide)) (by decide +kernel) k3 k1) ?_
    refine ⟨rfl, fun p hp => op _ F _ (fun a => a = p) (Gr.alloc0 hp) ?_ fun a z => ?_⟩
    · simp only [if_true, Rp]
      exact ⟨p, _, rfl, upd_same, rfl, .nil, fun k => by simp⟩
    · subst z
      exact ⟨hp, fun z => r.fd _ z hp, by rw [upd_same]; trivial⟩
  · refine to_wE pe_dnewK ?_
    refine fun p hp => op _ F _ (fun a => a = p) (Gr.alloc0 hp) ?_ fun a z => ?_
    · simp only [Bool.false_eq_true, if_false, Rp]
      exact ⟨p, [], [], rfl, upd_same, rfl, rfl, rfl, rfl⟩
    · subst z
      exact ⟨hp, fun z => r.fd _ z hp, by rw [upd_same]; trivial⟩
theorem evs_len : ∀ {es : List Ex} {env e1 : Env} {ds : List D}, evs G es env = .ok ds e1 → ds.length = es.length
  | [], env, e1, ds, h => by simp only [evs, Res.ok.injEq] at h; rw [← h.1]; rfl
  | e :: es, env, e1, ds, h => by
    simp only [evs] at h
    cases h1 : ev G e env with
    | ok d e2 =>
      rw [h1] at h
      simp only [Res.bind] at h
      cases h2 : evs G es e2 with
      | ok ds2 e3 =>
        rw [h2] at h
        simp only [Res.ok.injEq] at h
        rw [← h.1, List.length_cons, List.length_cons, evs_len h2]
      | ex c d e => rw [h2] at h; cases h
      | bad => rw [h2] at h; cases h
    | ex c d e => rw [h1] at h; cases h
    | bad => rw [h1] at h; cases h
theorem erEs_len {N : List Str} {sc : Scope} : ∀ {es : List Ex} {xs : List Expr}, erEs G N es sc xs = true → es.length = xs.length
  | [], [], _ => rfl
  | [], _ :: _, h => by simp [erEs] at h
  | _ :: _, [], h => by simp [erEs] at h
  | e :: es, x :: xs, h => by
    simp only [erEs, Bool.and_eq_true] at h
    rw [List.length_cons, List.length_cons, erEs_len h.2]
theorem ixN_two {n : Nat} {i : Int} {j : Nat} (h : Wv.ixN n i = some j) : L2.ixN n i = some j := by
  unfold Wv.ixN at h
  unfold L2.ixN
  exact h
theorem Rps.eraseIdx {K : PySem.W.Frag} {F : Sets} {H : Hp} : ∀ {ds : List D} {vs : List V} {f : Sets} (k : Nat), Rps K cl F H ds vs f → Rps K cl F H (ds.eraseIdx k) (vs.eraseIdx k) f
  | [], vs, f, k, r => by simp only [Rps] at r; subst r; simp [Rps]
  | d :: ds, vs, f, 0, r => by
    simp only [Rps] at r
    obtain ⟨v, w, f1, f2, rfl, r1, r2, s1, m1, m2⟩ := r
    exact r2.mono m2
  | d :: ds, vs, f, k + 1, r => by
    simp only [Rps] at r
    obtain ⟨v, w, f1, f2, rfl, r1, r2, s1, m1, m2⟩ := r
    exact Rps.cons r1 (r2.eraseIdx k) s1 m1 m2
/-- a row put between -/
theorem Rps.ins {K : PySem.W.Frag} {F : Sets} {H : Hp} {es : List D} {ws : List V} {g : Sets} : ∀ {ds : List D} {vs : List V} {f : Sets}, Rps K cl F H ds vs f → Rps K cl F H es ws g → (∀ a, f a → g a → False) → ∀ n, Rps K cl F H (ds.take n ++ es ++ ds.drop n) (vs.take n ++ ws ++ vs.drop n) fun a => f a ∨ g a
  | ds, vs, f, r, rp, s, 0 => by
    simp only [List.take_zero, List.nil_append, List.drop_zero]
    exact Rps.append rp r (fun a z u => s a u z) (fun a z => .inr z) fun a z => .inl z
  | [], vs, f, r, rp, s, n + 1 => by
    simp only [Rps] at r; subst r
    simp only [List.take_nil, List.drop_nil, List.nil_append, List.append_nil]
    exact rp.mono fun a z => .inr z
  | d :: ds, vs, f, r, rp, s, n + 1 => by
    simp only [Rps] at r
    obtain ⟨v, w, f1, f2, rfl, r1, r2, s1, m1, m2⟩ := r
    simp only [List.take_succ_cons, List.drop_succ_cons, List.cons_append]
    exact Rps.cons r1 (Rps.ins r2 rp (fun a z u => s a (m2 a z) u) n) (fun a z u => u.elim (s1 a z) fun u => s a (m1 a z) u) (fun a z => .inl (m1 a z)) fun a z => z.imp (m2 a) id
theorem ev_mm {i : Nat} {path : List PEl} {m : String} {es : List Ex} (hs : EVs G cl es) : EV G cl (.mm i path m es) := by
  intro X fx sc x g er W tk F L H σ env A r Q q
  obtain ⟨n, q0, ap, ys, cp, rfl, rfl, hok, hline, ⟨h1, h2, h3⟩, ea⟩ := xnv_mm er
  obtain ⟨k1, k2, k3⟩ := okName_ok h3
  simp only [ev, List.isEmpty_nil, Bool.not_true, Bool.false_and, Bool.false_eq_true, if_false, Bool.and_true, pels] at q
  split at q
  · exact q.elim
  rename_i hl
  have hl' : isM m (getS env i) = true := by
    cases h : isM m (getS env i) with
    | true => rfl
    | false => exact absurd (by rw [h]; rfl) hl
  have hns := erEs_nsts _ _ ea
  -- what the slot shows
  have hlst : m ≠ "add" → ∃ v, σ[i]? = some (some v) ∧ ∃ a vs, v = .ref a ∧ SqL X.K H a vs := fun hm => by
    unfold isM at hl'
    split at hl'
    · rename_i t ds hd
      obtain ⟨v0, f0, hv0, rp0, _⟩ := r.val hd
      obtain ⟨a, vs0, rfl, s0, _⟩ := rp0.lst_mono
      exact ⟨_, hv0, a, vs0, rfl, s0⟩
    · simp [hm] at hl'
    · cases hl'
  -- the arguments' run
  have run : ∀ {P : List V → Hp → Prop}, (∀ ws F1 A1 H1 f1 e1 ds rd e2, Ext F H A F1 H1 A1 → RS X.K cl fx F1 L H1 σ e1 A1 → Rps X.K cl F1 H1 ds ws f1 → Tp F1 L H1 A1 f1 → Fr H A f1 → ds.length = ys.length → updS e1 i [] (fun d => mmD m d ds) = some (rd, e2) → okP X.K cl fx F L H A σ Q rd e2 → P ws H1) → wA X ys σ H P := by
    intro P fin
    refine hs X fx sc ys g ea W tk F L H σ env A r _ ?_
    cases hev : evs G es env with
    | ex c ds e => rw [hev] at q; exact q
    | bad => rw [hev] at q; exact q.elim
    | ok ds e1 =>
    rw [hev] at q
    simp only [Res.bind] at q
    intro ws F1 A1 H1 f1 x1 rs1 rp1 t1 fr1
    cases hu : updS e1 i [] (fun d => mmD m d ds) with
    | none => rw [hu] at q; exact q.elim
    | some pr =>
      obtain ⟨rd, e2⟩ := pr
      rw [hu] at q
      exact fin ws F1 A1 H1 f1 e1 ds rd e2 x1 rs1 rp1 t1 fr1 ((evs_len hev).trans (erEs_len ea)) hu q
  have few : ∀ {y : Expr} {r : List Expr}, nsts (y :: r) = true → r.length < 5 → ((backTo cp (starEach (y :: r) X.env)).all (fun x => !x.1) && (backToKw cp (keywordEach [] X.env)).all (fun x => x.1.isSome)
      && decide ((y :: r).length + ([] : List Keyword).length + (if ([] : List Keyword).isEmpty then 0 else 1) < 30)) = true := by
    intro y r hn hr
    simp only [Bool.and_eq_true, decide_eq_true_eq]
    refine ⟨⟨?_, rfl⟩, by simp only [List.length_cons, List.length_nil, List.isEmpty_nil, if_true]; omega⟩
    have := backTo_any cp X.env _ hn
    rw [List.all_eq_true]
    intro x hx
    cases hx1 : x.1 with
    | false => rfl
    | true => rw [List.any_eq_false] at this; exact absurd hx1 (by simpa using this x hx)
  -- a list's method with arguments
  have lm : ∀ {id : String} {rr : V → List V → Hp → VK → Prop} {y : Expr} {ys' : List Expr}, m ≠ "add" → ys = y :: ys' → ys'.length < 5 → PySem.Slot "list" (Str.ofString m) id → typeOf (.builtin id) = pure (.type "method_descriptor") → MtR X id rr →
      (∀ a ws F1 A1 H1 f1 e1 ds rd e2, σ[i]? = some (some (.ref a)) → Ext F H A F1 H1 A1 → RS X.K cl fx F1 L H1 σ e1 A1 → Rps X.K cl F1 H1 ds ws f1 → Tp F1 L H1 A1 f1 → Fr H A f1 → ds.length = ys.length → updS e1 i [] (fun d => mmD m d ds) = some (rd, e2) → okP X.K cl fx F L H A σ Q rd e2 → rr (.ref a) ws H1 Q) →
      wE X (.Call (.Attribute (.Name n q0) (Str.ofString m) ap) ys [] cp) σ H Q := by
    intro id rr y ys' hm hy hlen slot hty hmt fin
    subst hy
    have hns' : nst y = true ∧ nsts ys' = true := by simpa [nsts] using hns
    obtain ⟨v, hv0, a, vs0, rfl, s0⟩ := hlst hm
    refine to_wE (pe_bm PySem.F.plainAttrs_list slot hty hmt pe_w pa_w (attr_base (e := .Name n q0) rfl) (few hns hlen) hline (star_cons hns'.1) (backTo_any _ _ _ hns'.2)) ?_
    exact to_wE (pe_var h1 (visB_ok g.scq h2) k1 k2) ⟨_, hv0, .inl ⟨rfl, vs0, s0⟩, run fun ws F1 A1 H1 f1 e1 ds rd e2 x1 rs1 rp1 t1 fr1 hn hu q1 => fin a ws F1 A1 H1 f1 e1 ds rd e2 hv0 x1 rs1 rp1 t1 fr1 hn hu q1⟩
  unfold mmOk at hok
  split at hok
  · -- append
    rename_i hlen
    obtain ⟨y, rfl⟩ : ∃ y, ys = [y] := List.length_eq_one_iff.mp hlen
    refine lm (by decide) rfl (by simp) PySem.F.slot_list_append PySem.F.type_list_append mt_append ?_
    intro a ws F1 A1 H1 f1 e1 ds rd e2 hv0 x1 rs1 rp1 t1 fr1 hds hu q1
    obtain ⟨d, d', s', hd, rfl, hx⟩ := updS_inv hu
    rw [mmD_app] at hd
    unfold mmApp at hd
    split at hd
    · rename_i xs dy
      split at hd
      · rename_i hsz
        cases hd
        simp only [Rps] at rp1
        obtain ⟨yv, r0, p1, p2, rfl, rpy, h0, _, pm, _⟩ := rp1
        subst h0
        obtain ⟨a1, vs, f, e3, e4, e5, e6, e7, e8⟩ := rs1.own_lst (hx.imp (·.1) (·.1))
        rw [hv0] at e3
        cases e3
        have hl2 := e8.length
        refine ⟨a, vs, yv, rfl, rfl, e4, by have : sizeLine = 16777216 := by decide
                                            omega, ?_⟩
        have nfa : ¬ p1 a := fun z => (t1 a (pm a z)).2.2.1 ⟨i, e5⟩
        obtain ⟨o1, o2, o3⟩ := rs1.own i a e5
        have kp : ∀ {S : Sets}, ¬ S a → Kp F1 H1 S F1 (upd H1 a (.lst (vs ++ [yv]))) := fun hS => Kp.at1 o1 hS o3
        have tp1 : Tp F1 L H1 A1 p1 := fun b z => t1 b (pm b z)
        refine mm_fin x1 rs1 hx (.lst (vs ++ [yv])) e5 hv0 trivial tp1 (fun b z => fr1 b (pm b z)) (fp' := fun b => A1 i b ∨ p1 b) (fun b z => z) ?_ (by simp only [Rp]) q1
        simp only [Rp]
        refine ⟨a, vs ++ [yv], fun b => f b ∨ p1 b, rfl, upd_same, .inl e5, fun z => z.elim e6 nfa, fun b z => z.imp (e7 b) id, ?_⟩
        exact Rps.append (e8.kp (kp e6)) (Rps.cons (rpy.kp (kp nfa)) (show Rps X.K cl F1 _ [] [] E0s by simp only [Rps]) (fun _ _ z => z.elim) (fun _ z => z) fun _ z => z.elim) (fun b z u => (tp1 b u).2.2.1 ⟨i, e7 b z⟩) (fun _ z => .inl z) fun _ z => .inr z
      · cases hd
    · cases hd
  · -- extend
    rename_i hlen
    obtain ⟨y, rfl⟩ : ∃ y, ys = [y] := List.length_eq_one_iff.mp hlen
    refine lm (by decide) rfl (by simp) PySem.F.slot_list_extend PySem.F.type_list_extend mt_extend ?_
    intro a ws F1 A1 H1 f1 e1 ds rd e2 hv0 x1 rs1 rp1 t1 fr1 hds hu q1
    obtain ⟨d, d', s', hd, rfl, hx⟩ := updS_inv hu
    rw [mmD_ext] at hd
    have key : ∃ xs t zs, d = .lst .own xs ∧ t ≠ Tg.scr ∧ ds = [.lst t zs] ∧ (fits (xs.length + zs.length) && stbs zs) = true ∧ rd = .non ∧ d' = .lst .own (xs ++ zs) := by
      unfold mmExt at hd
      split at hd
      · split at hd
        · rename_i hc; cases hd; exact ⟨_, .own, _, rfl, by decide, rfl, hc, rfl, rfl⟩
        · cases hd
      · split at hd
        · rename_i hc; cases hd; exact ⟨_, .fro, _, rfl, by decide, rfl, hc, rfl, rfl⟩
        · cases hd
      · cases hd
    obtain ⟨xs, t, zs, rfl, ht, rfl, hc, rfl, rfl⟩ := key
    simp only [Bool.and_eq_true] at hc
    simp only [Rps] at rp1
    obtain ⟨yv, r0, p1, p2, rfl, rpy, h0, _, pm, _⟩ := rp1
    subst h0
    obtain ⟨b, ws, gg, rfl, _, hb, rz⟩ := rpy.lst_at
    have hb := hb ht
    have rz := rz.stb hc.2 (g := E0s)
    obtain ⟨a1, vs, f, e3, e4, e5, e6, e7, e8⟩ := rs1.own_lst (hx.imp (·.1) (·.1))
    rw [hv0] at e3
    cases e3
    have hl2 := e8.length
    have hl3 := rz.length
    have hfit := fits_le hc.1
    refine ⟨a, b, vs, ws, rfl, rfl, e4, hb, by rw [← hl2, ← hl3]; exact hfit, ?_⟩
    obtain ⟨o1, o2, o3⟩ := rs1.own i a e5
    have kp : ∀ {S : Sets}, ¬ S a → Kp F1 H1 S F1 (upd H1 a (.lst (vs ++ ws))) := fun hS => Kp.at1 o1 hS o3
    refine mm_fin x1 rs1 hx (.lst (vs ++ ws)) e5 hv0 trivial (fp := E0s) Tp.e0 Fr.e0 (fp' := A1 i) (fun b z => .inl z) ?_ (by simp only [Rp]) q1
    simp only [Rp]
    refine ⟨a, vs ++ ws, f, rfl, upd_same, e5, e6, e7, ?_⟩
    exact Rps.append (e8.kp (kp e6)) (rz.kp (kp fun z => z)) (fun _ _ z => z) (fun _ z => z) fun _ z => z.elim
  · -- add
    rename_i hlen
    obtain ⟨y, rfl⟩ : ∃ y, ys = [y] := List.length_eq_one_iff.mp hlen
    have hns' : nst y = true := by simpa [nsts] using hns
    have hset : ∃ v, σ[i]? = some (some v) ∧ ∃ a S k, v = .ref a ∧ H a = some (.set S k) := by
      unfold isM at hl'
      split at hl'
      · simp at hl'
      · rename_i t ds hd
        obtain ⟨v0, f0, hv0, rp0, _⟩ := r.val hd
        cases t with
        | own =>
          simp only [Rp] at rp0
          obtain ⟨a, S, rfl, h1, _⟩ := rp0
          exact ⟨_, hv0, a, S, _, rfl, h1⟩
        | fro =>
          simp only [Rp] at rp0
          obtain ⟨a, S, rfl, _, h1, _⟩ := rp0
          exact ⟨_, hv0, a, S, _, rfl, h1⟩
        | scr => simp only [Rp] at rp0
      · cases hl'
    obtain ⟨v, hv0, a, S0, k0, rfl, s0⟩ := hset
    refine to_wE (pe_bm PySem.F.plainAttrs_set PySem.F.slot_set_add PySem.F.type_set_add mt_addI pe_w pa_w (attr_base (e := .Name n q0) rfl) (few hns (by simp)) hline (star_cons hns') (backTo_any _ _ _ rfl)) ?_
    refine to_wE (pe_var h1 (visB_ok g.scq h2) k1 k2) ⟨_, hv0, .inr (.inr (.inr ⟨rfl, S0, k0, s0⟩)), run ?_⟩
    intro ws F1 A1 H1 f1 e1 ds rd e2 x1 rs1 rp1 t1 fr1 hds hu q1
    obtain ⟨d, d', s', hd, rfl, hx⟩ := updS_inv hu
    rw [mmD_add] at hd
    unfold mmAdd at hd
    split at hd
    · rename_i xs k
      split at hd
      · rename_i hsz
        cases hd
        simp only [Rps] at rp1
        obtain ⟨yv, r0, p1, p2, rfl, rpy, h0, _⟩ := rp1
        subst h0
        simp only [Rp] at rpy
        subst rpy
        obtain ⟨a1, S, e3, e4, e5, e6, e7⟩ := rs1.own_set (hx.imp (·.1) (·.1))
        rw [hv0] at e3
        cases e3
        refine ⟨a, k, S, _, rfl, rfl, e4, by show xs.length + 1 < 4096; omega, ?_⟩
        refine mm_fin x1 rs1 hx (.set (fun j => S j || decide (j = k)) (if S k = true then xs.length else xs.length + 1)) e5 hv0 trivial (fp := E0s) Tp.e0 Fr.e0 (fp' := A1 i) (fun b z => .inl z) ?_ (by simp only [Rp]) q1
        simp only [Rp]
        refine ⟨a, fun j => S j || decide (j = k), rfl, ?_, e5, insI_asc e6, fun j => ?_⟩
        · rw [upd_same, insI_len e6, e7 k]
          by_cases hk : k ∈ xs <;> simp [hk]
        · show (S j || decide (j = k)) = _
          rw [e7 j, Bool.eq_iff_iff]
          simp [mem_insI, or_comm]
      · cases hd
    · cases hd
  · -- pop()
    rename_i hlen
    obtain rfl : ys = [] := List.length_eq_zero_iff.mp hlen
    obtain ⟨v, hv0, a, vs0, rfl, s0⟩ := hlst (by decide)
    have hes : es = [] := by
      cases es with
      | nil => rfl
      | cons e es => simp [erEs] at ea
    subst hes
    simp only [evs, Res.bind] at q
    refine to_wE (pe_bm0 PySem.F.plainAttrs_list PySem.F.slot_list_pop PySem.F.type_list_pop mt_pop pe_w (attr_base (e := .Name n q0) rfl) hline) ?_
    refine to_wE (pe_var h1 (visB_ok g.scq h2) k1 k2) ⟨_, hv0, .inl ⟨rfl, vs0, s0⟩, ?_⟩
    cases hu : updS env i [] (fun d => mmD "pop" d []) with
    | none => rw [hu] at q; exact q.elim
    | some pr =>
      obtain ⟨rd, e2⟩ := pr
      rw [hu] at q
      have q1 : okP X.K cl fx F L H A σ Q rd e2 := q
      obtain ⟨d, d', s', hd, rfl, hx⟩ := updS_inv hu
      rw [mmD_pop] at hd
      unfold mmPop at hd
      split at hd
      · rename_i xs
        split at hd
        · rename_i y hy
          split at hd
          · rename_i hst
            cases hd
            obtain ⟨a1, vs, f, e3, e4, e5, e6, e7, e8⟩ := r.own_lst (hx.imp (·.1) (·.1))
            rw [hv0] at e3
            cases e3
            have hl2 := e8.length
            rw [List.getLast?_eq_getElem?] at hy
            obtain ⟨yv, hyv, ry⟩ := e8.get hy
            refine ⟨a, vs, yv, rfl, rfl, e4, by rw [← hl2]; exact hyv, ?_⟩
            obtain ⟨o1, o2, o3⟩ := r.own i a e5
            have kp : ∀ {S : Sets}, ¬ S a → Kp F H S F (upd H a (.lst vs.dropLast)) := fun hS => Kp.at1 o1 hS o3
            refine mm_fin Ext.refl r hx (.lst vs.dropLast) e5 hv0 trivial (fp := E0s) Tp.e0 Fr.e0 (fp' := A i) (fun b z => .inl z) ?_ ((ry.stb hst).kp (kp fun z => z)) q1
            simp only [Rp]
            refine ⟨a, vs.dropLast, f, rfl, upd_same, e5, e6, e7, ?_⟩
            have h2 := (e8.kp (kp e6)).take (vs.length - 1)
            rw [← hl2, ← List.dropLast_eq_take, hl2, ← List.dropLast_eq_take] at h2
            exact h2
          · cases hd
        · cases hd
      · rename_i heq; cases heq
      · cases hd
  · -- pop(i)
    rename_i hlen
    obtain ⟨y, rfl⟩ : ∃ y, ys = [y] := List.length_eq_one_iff.mp hlen
    refine lm (by decide) rfl (by simp) PySem.F.slot_list_pop PySem.F.type_list_pop mt_popAt ?_
    intro a ws F1 A1 H1 f1 e1 ds rd e2 hv0 x1 rs1 rp1 t1 fr1 hds hu q1
    obtain ⟨d, d', s', hd, rfl, hx⟩ := updS_inv hu
    rw [mmD_pop] at hd
    unfold mmPop at hd
    split at hd
    · simp at hds
    · rename_i xs k0
      split at hd
      · rename_i k hk
        simp only [Option.bind_eq_some_iff] at hd
        obtain ⟨y0, hy, hd⟩ := hd
        split at hd
        · rename_i hst
          cases hd
          simp only [Rps] at rp1
          obtain ⟨yv, r0, p1, p2, rfl, rpy, h0, _⟩ := rp1
          subst h0
          simp only [Rp] at rpy
          subst rpy
          obtain ⟨a1, vs, f, e3, e4, e5, e6, e7, e8⟩ := rs1.own_lst (hx.imp (·.1) (·.1))
          rw [hv0] at e3
          cases e3
          have hl2 := e8.length
          obtain ⟨yv, hyv, ry⟩ := e8.get hy
          simp only [Bool.and_eq_true] at hst
          obtain ⟨w1, w2, w3, w4⟩ := ixN_seq (ixN_two hk)
          have hfit := fits_le hst.2
          have hsl : sizeLine = 16777216 := by decide
          refine ⟨a, vs, k0, k, yv, rfl, rfl, e4, by omega, by omega, by rw [← hl2]; exact w1, hyv, ?_⟩
          obtain ⟨o1, o2, o3⟩ := rs1.own i a e5
          have kp : ∀ {S : Sets}, ¬ S a → Kp F1 H1 S F1 (upd H1 a (.lst (vs.eraseIdx k))) := fun hS => Kp.at1 o1 hS o3
          refine mm_fin x1 rs1 hx (.lst (vs.eraseIdx k)) e5 hv0 trivial (fp := E0s) Tp.e0 Fr.e0 (fp' := A1 i) (fun b z => .inl z) ?_ ((ry.stb hst.1).kp (kp fun z => z)) q1
          simp only [Rp]
          exact ⟨a, vs.eraseIdx k, f, rfl, upd_same, e5, e6, e7, (e8.kp (kp e6)).eraseIdx k⟩
        · cases hd
      · cases hd
    · cases hd
  · -- insert
    rename_i hlen
    obtain ⟨y, y2, rfl⟩ : ∃ y y2, ys = [y, y2] := by
      match ys, hlen with
      | [y, y2], _ => exact ⟨y, y2, rfl⟩
    refine lm (by decide) rfl (by simp) PySem.F.slot_list_insert PySem.F.type_list_insert mt_insert ?_
    intro a ws F1 A1 H1 f1 e1 ds rd e2 hv0 x1 rs1 rp1 t1 fr1 hds hu q1
    obtain ⟨d, d', s', hd, rfl, hx⟩ := updS_inv hu
    rw [mmD_ins] at hd
    unfold mmIns at hd
    split at hd
    · rename_i xs k0 dy
      split at hd
      · rename_i hc
        cases hd
        simp only [Bool.and_eq_true, decide_eq_true_eq] at hc
        simp only [Rps] at rp1
        obtain ⟨iv, r0, p0, p1', rfl, rpi, ⟨yv, r1, p1, p2, rfl, rpy, h0, _, pm, _⟩, _, _, pm2⟩ := rp1
        subst h0
        simp only [Rp] at rpi
        subst rpi
        have pm' : ∀ b, p1 b → f1 b := fun b z => pm2 b (pm b z)
        obtain ⟨a1, vs, f, e3, e4, e5, e6, e7, e8⟩ := rs1.own_lst (hx.imp (·.1) (·.1))
        rw [hv0] at e3
        cases e3
        have hl2 := e8.length
        have hsl : sizeLine = 16777216 := by decide
        refine ⟨a, vs, k0, yv, rfl, rfl, e4, by omega, by omega, by omega, ?_⟩
        have nfa : ¬ p1 a := fun z => (t1 a (pm' a z)).2.2.1 ⟨i, e5⟩
        obtain ⟨o1, o2, o3⟩ := rs1.own i a e5
        have kp : ∀ {S : Sets}, ¬ S a → Kp F1 H1 S F1 (upd H1 a (.lst (vs.take k0.toNat ++ [yv] ++ vs.drop k0.toNat))) := fun hS => Kp.at1 o1 hS o3
        have tp1 : Tp F1 L H1 A1 p1 := fun b z => t1 b (pm' b z)
        refine mm_fin x1 rs1 hx (.lst (vs.take k0.toNat ++ [yv] ++ vs.drop k0.toNat)) e5 hv0 trivial tp1 (fun b z => fr1 b (pm' b z)) (fp' := fun b => A1 i b ∨ p1 b) (fun b z => z) ?_ (by simp only [Rp]) q1
        simp only [Rp]
        refine ⟨a, _, fun b => f b ∨ p1 b, rfl, upd_same, .inl e5, fun z => z.elim e6 nfa, fun b z => z.imp (e7 b) id, ?_⟩
        have r8 := e8.kp (kp e6)
        have ry := Rps.cons (rpy.kp (kp nfa)) (show Rps X.K cl F1 _ [] [] E0s by simp only [Rps]) (fun _ _ z => z.elim) (fun _ z => z) fun _ z => z.elim
        exact Rps.ins r8 ry (fun b z u => (tp1 b u).2.2.1 ⟨i, e7 b z⟩) k0.toNat
      · cases hd
    · cases hd
  · cases hok
end
end Wv

set_option Elab.async false
set_option linter.all false
set_option maxRecDepth 100000
/-! Wv16b: a slot's value changed by others; calls that change their first argument. -/
namespace Wv
open PySem PySem.Spec PyProof.Rows L2
/-- what may happen to a slot's value while another looks after it -/
structure Chg (F L : Sets) (H : Hp) (X : Sets) (F' : Sets) (H' : Hp) (X' : Sets) : Prop where
  fro : ∀ a, F a → F' a
  new : ∀ a, F' a → F a ∨ H a = none ∨ X a
  own : ∀ a, X' a → X a ∨ H a = none
  keep : ∀ a o, H a = some o → (¬ X a ∨ ¬ Mut (some o)) → H' a = some o
  live : ∀ a, H' a = none → H a = none
  good : ∀ a, X' a → ¬ F' a ∧ ¬ L a ∧ Mut (H' a)
  dom : ∀ a, F' a → H' a ≠ none
section
variable {K : PySem.W.Frag} {cl : String → Addr} {fx : Fx} {F F' L : Sets} {H H' : Hp} {σ : L2.St} {env : Env} {A : Nat → Sets} {fp : Sets}
theorem RS.chg (r : RS K cl fx F L H σ env A) {x : Nat} {s' : Slot} {d d' : D} (hx : (env[x]? = some (.me d) ∧ s' = .me d') ∨ (env[x]? = some (.mp d) ∧ s' = .mp d')) {v : V} (hv : σ[x]? = some (some v)) (c : Chg F L H (A x) F' H' fp)
    (rp : Rp K cl F' H' d' v fp) : RS K cl fx F' L H' σ (env.set x s') (onA A x fp) := by
  have kp : ∀ {S : Sets}, (∀ a, S a → ¬ A x a) → Kp F H S F' H' := fun hS => ⟨c.fro, fun a o e z => c.keep a o e (by
    rcases z with z | z | z
    · exact .inl fun u => (r.own x a u).1 z
    · exact .inl (hS a z)
    · exact .inr z)⟩
  have hA : ∀ {j : Nat}, j ≠ x → ∀ {b : Addr}, A j b → onA A x fp j b := fun {j} hj {b} z => by simp only [onA, hj, if_false]; exact z
  have hB : ∀ {j : Nat}, j ≠ x → ∀ {b : Addr}, onA A x fp j b → A j b := fun {j} hj {b} z => by simpa only [onA, hj, if_false] using z
  have hC : ∀ {b : Addr}, onA A x fp x b → fp b := fun {b} z => by simpa only [onA, if_true] using z
  have hD : ∀ {b : Addr}, fp b → onA A x fp x b := fun {b} z => by simp only [onA, if_true]; exact z
  have self : ∀ {s : Slot}, (env.set x s')[x]? = some s → s = s' := fun h => set_self h
  have hl : ∀ a, L a → ¬ A x a := fun a z u => (r.own x a u).2.1 z
  refine ⟨by rw [List.length_set]; exact r.len, fun j d1 h => ?_, fun j d1 h => ?_, fun j d1 h => ?_, fun j d1 h => ?_, fun j c' ns ds h => ?_, fun j k b hn z u => ?_, fun j b z => ?_, fun b z => ?_, r.vl⟩
  · by_cases hj : j = x
    · subst hj
      have e := self h
      rcases hx with ⟨_, e'⟩ | ⟨_, e'⟩
      · rw [e'] at e; cases e
        exact ⟨_, hv, rp.mono fun b z => hD z⟩
      · rw [e'] at e; cases e
    · rw [set_other hj] at h
      obtain ⟨v, e1, e2⟩ := r.me j d1 h
      exact ⟨v, e1, (e2.kp (kp fun a z u => r.sep j x a hj z u)).mono fun b z => hA hj z⟩
  · by_cases hj : j = x
    · subst hj
      have e := self h
      rcases hx with ⟨_, e'⟩ | ⟨e0, e'⟩
      · rw [e'] at e; cases e
      · rw [e'] at e; cases e
        obtain ⟨v, e1, e2, e3⟩ := r.mp j d e0
        rw [hv] at e1; cases e1
        exact ⟨_, hv, rp.mono fun b z => hD z, e3⟩
    · rw [set_other hj] at h
      obtain ⟨v, e1, e2, e3⟩ := r.mp j d1 h
      exact ⟨v, e1, (e2.kp (kp fun a z u => r.sep j x a hj z u)).mono fun b z => hA hj z, e3⟩
  · by_cases hj : j = x
    · subst hj
      have e := self h
      rcases hx with ⟨_, e'⟩ | ⟨_, e'⟩ <;> (rw [e'] at e; cases e)
    · rw [set_other hj] at h
      obtain ⟨v, f, e1, e2, e3⟩ := r.vw j d1 h
      exact ⟨v, f, e1, e2.kp (kp fun a z => hl a (r.vl j a (e3 a z))), e3⟩
  · by_cases hj : j = x
    · subst hj
      have e := self h
      rcases hx with ⟨_, e'⟩ | ⟨_, e'⟩ <;> (rw [e'] at e; cases e)
    · rw [set_other hj] at h
      obtain ⟨v, f, e1, e2, e3, e4⟩ := r.lk j d1 h
      exact ⟨v, f, e1, e2.kp (kp fun a z => hl a (r.vl j a (e3 a z))), e3, e4⟩
  · by_cases hj : j = x
    · subst hj
      have e := self h
      rcases hx with ⟨_, e'⟩ | ⟨_, e'⟩ <;> (rw [e'] at e; cases e)
    · rw [set_other hj] at h
      obtain ⟨b, dx, vs, h1, h2, h3, h4, h5⟩ := r.xc j c' ns ds h
      have kk : Kp F H E0s F' H' := kp fun _ z => z.elim
      exact ⟨b, dx, vs, h1, h2, kk.keep _ _ h3 (.inr (.inr fun z => z)), h4, h5.kp kk⟩
  · have mix : ∀ {k : Nat}, k ≠ x → fp b → A k b → False := fun {k} hk z u => by
      rcases c.own b z with z | z
      · exact r.sep k x b hk u z
      · exact Mut.some (r.own k b u).2.2 z
    by_cases hj : j = x
    · subst hj
      exact mix (fun e => hn e.symm) (hC z) (hB (fun e => hn e.symm) u)
    · by_cases hk : k = x
      · subst hk; exact mix hj (hC u) (hB hj z)
      · exact r.sep j k b hn (hB hj z) (hB hk u)
  · by_cases hj : j = x
    · subst hj
      exact c.good b (hC z)
    · obtain ⟨h1, h2, h3⟩ := r.own j b (hB hj z)
      have nx : ¬ A x b := fun u => r.sep j x b hj (hB hj z) u
      refine ⟨fun u => ?_, h2, ?_⟩
      · rcases c.new b u with u | u | u
        · exact h1 u
        · exact Mut.some h3 u
        · exact nx u
      · cases q : H b with
        | none => exact (Mut.some h3 q).elim
        | some o => rw [c.keep b o q (.inl nx)]; rw [q] at h3; exact h3
  · rcases z with z | z
    · exact c.dom b z
    · intro e; exact r.dom b (.inr z) (c.live b e)
theorem Chg.ext (c : Chg F L H (A x) F' H' fp) : Ext F H A F' H' (onA A x fp) where
  fro := c.fro
  new := fun a z => by
    rcases c.new a z with z | z | z
    · exact .inl z
    · exact .inr (.inl z)
    · exact .inr (.inr ⟨x, z⟩)
  own := fun a z => by
    obtain ⟨j, z⟩ := z
    by_cases hj : j = x
    · subst hj
      simp only [onA, if_true] at z
      rcases c.own a z with z | z
      · exact .inl ⟨_, z⟩
      · exact .inr z
    · simp only [onA, hj, if_false] at z
      exact .inl ⟨j, z⟩
  keep := fun a o e z => c.keep a o e (z.imp (fun z u => z ⟨x, u⟩) id)
  live := c.live
end
section
variable {G : Cfg} {cl : String → Addr}
theorem erEs_cons {N : List Str} {sc : Scope} {e : Ex} {es : List Ex} {xs : List Expr} (h : erEs G N (e :: es) sc xs = true) : ∃ y ys, xs = y :: ys ∧ nst y = true ∧ erE G N e sc y = true ∧ erEs G N es sc ys = true := by
  match xs, h with
  | [], h => simp [erEs] at h
  | y :: ys, h =>
    simp only [erEs, Bool.and_eq_true] at h
    exact ⟨y, ys, rfl, h.1.1, h.1.2, h.2⟩
theorem putOuts_brs : ∀ T : List (D × V × Value), putOuts (T.map fun t => Slot.br t.1) [] = some (T.map fun t => Slot.br t.1)
  | [] => rfl
  | t :: T => by simp only [List.map_cons, putOuts, putOuts_brs T]; rfl
theorem ev_callM {f : String} {i : Nat} {es : List Ex} {ks : List String} (hs : EAs G cl es) : EV G cl (.call f (.mt i :: es) ks) := by
  intro X fx sc x g er W tk F L H σ env A r Q q
  obtain ⟨q0, ys, kws, p, rfl, h1, h2, hg, hq0, hkw, ea⟩ := xnv_call er
  simp only [allM, Bool.and_eq_true, List.isEmpty_iff] at hq0
  obtain ⟨rfl, hq⟩ := hq0
  have hk0 : kws = [] := by
    cases kws with
    | nil => rfl
    | cons k kws => simp [kwOk] at hkw
  subst hk0
  obtain ⟨y, ys', hys, hny, ery, ea'⟩ := erEs_cons ea
  simp only [List.map_nil, List.append_nil] at hys
  subst hys
  have hmu : muts (.mt i :: es) = [i] := by simp only [muts, muts_allQ hq]
  obtain ⟨k1, k2, k3⟩ := okName_ok h2
  simp only [ev, hmu] at q
  split at q
  · exact q.elim
  · rename_i hh
    have hot : G.hot = false := by
      cases hG : G.hot with
      | false => rfl
      | true => rw [hG] at hh; simp at hh
    split at q
    · exact q.elim
    · intro pins s I
      obtain ⟨m1, m2⟩ := g.kf.gff f hg
      refine wpAny_Call_Name_kw (ld_glob I (glB_ok g.scq h1) m1 ?_ k1)
      have hn : nsts (y :: ys') = true := by
        have := erEs_nsts _ _ ea
        simpa using this
      -- the first argument
      simp only [erE] at ery
      obtain ⟨n, pn, rfl, e1, e2, e3⟩ := inv_var ery
      obtain ⟨j1, j2, j3⟩ := okName_ok e3
      simp only [evA] at q
      by_cases hgn : (getS env i).isNone = true
      · rw [if_pos hgn] at q; exact q.elim
      · rw [if_neg hgn] at q
        obtain ⟨d0, hd0⟩ := Option.ne_none_iff_exists'.mp (by simpa using hgn : getS env i ≠ none)
        obtain ⟨v, f0, hv, _, _⟩ := r.val hd0
        refine cw_ok m2 hn hkw (ks := []) (Q := Q) ?_ I
        show wE X _ σ H fun v H1 => wAs X _ σ H1 fun vs H2 => _
        refine to_wE (pe_var e1 (visB_ok g.scq e2) j1 j2) ⟨v, hv, ?_⟩
        show wAs X (ys' ++ []) σ H _
        rw [List.append_nil]
        refine hs X fx sc _ g ea' hq W tk F L H σ env A r [i] _ (RQ.bind (RQ.bind q (fun ss e1 q1 => q1) fun c ds e1 q1 => q1) (fun ss e1 q1 => ?_) fun c ds e1 q1 => q1)
        intro vs ds F1 A1 H1 fp hss x1 rs1 rp1 ndis _
        intro pins s us ws I1 rv l1 l2
        have hw0 : ws = [] := List.eq_nil_of_length_eq_zero l2
        subst hw0
        rw [List.append_nil] at rv
        cases rv with
        | cons rv0 rv1 =>
          rename_i u us
          obtain ⟨T, t, rfl, rfl, hu⟩ := tri_of rp1 rv1
          have hss' : ss = T.map fun t => Slot.br t.1 := by rw [hss]; simp
          subst hss'
          -- the slot that is lent
          obtain ⟨d, s', hsl, q1⟩ : ∃ d s', ((e1[i]? = some (.me d) ∧ s' = fun d' => Slot.me d') ∨ (e1[i]? = some (.mp d) ∧ s' = fun d' => Slot.mp d')) ∧ RQ (match (match picks G f [] (Slot.mp d :: T.map fun t => Slot.br t.1) with
              | some ss => G.cf f ss
              | none => .bad) with
            | .ok d outs => (match putMuts e1 [i] outs with
              | some e' => Res.ok d e'
              | none => Res.bad)
            | .ex c ds outs => (match putMuts e1 [i] outs with
              | some e' => Res.ex c ds e'
              | none => Res.bad)
            | .bad => Res.bad) (okP X.K cl fx F L H A σ Q) (exP X.K cl G.fl fx F L H A σ W) := by
            cases hs1 : e1[i]? with
            | none => rw [hs1] at q1; exact q1.elim
            | some sl =>
              rw [hs1] at q1
              cases sl with
              | me d => exact ⟨d, _, .inl ⟨rfl, rfl⟩, q1⟩
              | mp d => exact ⟨d, _, .inr ⟨rfl, rfl⟩, q1⟩
              | _ => exact q1.elim
          simp only [picks, List.isEmpty_nil, if_true] at q1
          have hne : ∃ ss, G.cf f ss ≠ .bad := ⟨_, fun z => by rw [z] at q1; exact q1⟩
          obtain ⟨k, fd, Fn, hr, b0, _⟩ := g.fns hot f hne
          have rpv : Rp X.K cl F1 H1 d v (A1 i) := by
            rcases hsl with ⟨h, _⟩ | ⟨h, _⟩
            · obtain ⟨v', e', rp'⟩ := rs1.me i d h
              rw [hv] at e'; cases e'; exact rp'
            · obtain ⟨v', e', rp', _⟩ := rs1.mp i d h
              rw [hv] at e'; cases e'; exact rp'
          have fdm : ∀ a, F1 a → H1 a ≠ none := fun a z => rs1.dom a (.inl z)
          have lc : ∀ a, L a → H1 a ≠ none ∧ ¬ A1 i a := fun a l => ⟨rs1.dom a (.inr l), fun u => (rs1.own i a u).2.1 l⟩
          have rsC : RS X.K cl (fxa (v :: T.map (·.2.1)) fun a => H1 a ≠ none ∧ ¬ A1 i a) F1 (fun a => H1 a ≠ none ∧ ¬ A1 i a) H1 ((v :: T.map (·.2.1)).map some) (Slot.mp d :: T.map fun t => Slot.br t.1) (fun j a => j = 0 ∧ A1 i a) := by
            have key : ∀ {j : Nat} {s : Slot}, (Slot.mp d :: T.map fun t => Slot.br t.1)[j + 1]? = some s → ∃ x, T[j]? = some x ∧ s = .br x.1 := fun {j s} h => by
              rw [List.getElem?_cons_succ, List.getElem?_map] at h
              cases hT : T[j]? with
              | none => rw [hT] at h; cases h
              | some x => rw [hT] at h; cases h; exact ⟨x, rfl, rfl⟩
            refine ⟨by simp, fun j d2 h => ?_, fun j d2 h => ?_, fun j d2 h => ?_, fun j d2 h => ?_, fun j c ns ds h => ?_, fun j j2 a hn z u => hn (z.1.trans u.1.symm), fun j a z => ?_, fun a z => z.elim (fdm a) (·.1), fun _ _ z => z⟩
            · cases j with
              | zero => cases h
              | succ j => obtain ⟨x, _, e⟩ := key h; cases e
            · cases j with
              | zero => cases h; exact ⟨v, rfl, rpv.mono fun a z => ⟨rfl, z⟩, rfl⟩
              | succ j => obtain ⟨x, _, e⟩ := key h; cases e
            · cases j with
              | zero => cases h
              | succ j =>
                obtain ⟨x, hx, e⟩ := key h
                cases e
                exact ⟨x.2.1, _, by simp [hx], (t x (List.mem_of_getElem? hx)).1.tight, fun a z => ⟨z.2, ndis a z.1 i (by simp)⟩⟩
            · cases j with
              | zero => cases h
              | succ j => obtain ⟨x, _, e⟩ := key h; cases e
            · cases j with
              | zero => cases h
              | succ j => obtain ⟨x, _, e⟩ := key h; cases e
            · obtain ⟨o1, o2, o3⟩ := rs1.own i a z.2
              exact ⟨o1, fun w => w.2 z.2, o3⟩
          have post : spF X.K cl G.fl (G.cf f) (v :: T.map (·.2.1)) H1 Q (WE W σ) := by
            refine ⟨F1, _, _, _, rsC, ?_⟩
            have chg : ∀ {F2 : Sets} {H2 : Hp} {A2 : Nat → Sets} {o : D} {ss2 : List Slot}, Ext F1 H1 (fun j a => j = 0 ∧ A1 i a) F2 H2 A2 → RS X.K cl (fxa (v :: T.map (·.2.1)) fun a => H1 a ≠ none ∧ ¬ A1 i a) F2 (fun a => H1 a ≠ none ∧ ¬ A1 i a) H2 ((v :: T.map (·.2.1)).map some) (.mp o :: ss2) A2 →
                Chg F1 L H1 (A1 i) F2 H2 (A2 0) ∧ RS X.K cl fx F2 L H2 σ (e1.set i (s' o)) (onA A1 i (A2 0)) := fun {F2 H2 A2 o ss2} x2 rs2 => by
              have c : Chg F1 L H1 (A1 i) F2 H2 (A2 0) := by
                refine ⟨x2.fro, fun a z => ?_, fun a z => ?_, fun a o e z => x2.keep a o e (z.imp (fun nz ⟨j, u⟩ => nz u.2) id), x2.live, fun a z => ?_, fun a z => rs2.dom a (.inl z)⟩
                · rcases x2.new a z with z | z | ⟨j, z⟩
                  · exact .inl z
                  · exact .inr (.inl z)
                  · exact .inr (.inr z.2)
                · rcases x2.own a ⟨0, z⟩ with ⟨j, z⟩ | z
                  · exact .inl z.2
                  · exact .inr z
                · obtain ⟨o1, o2, o3⟩ := rs2.own 0 a z
                  exact ⟨o1, fun l => o2 (lc a l), o3⟩
              refine ⟨c, ?_⟩
              obtain ⟨v0, e9, e2', _⟩ := rs2.mp 0 o rfl
              have e9 : v = v0 := by simpa using e9
              subst e9
              refine rs1.chg (d := d) (d' := o) ?_ hv c e2'
              rcases hsl with ⟨h, e⟩ | ⟨h, e⟩
              · exact .inl ⟨h, by rw [e]⟩
              · exact .inr ⟨h, by rw [e]⟩
            have hput : ∀ o, putMuts e1 [i] [o] = some (e1.set i (s' o)) := fun o => by
              rcases hsl with ⟨h, e⟩ | ⟨h, e⟩ <;> simp only [putMuts, h, e]
            have hbad : ∀ outs : List D, (∀ o, outs ≠ [o]) → putMuts e1 [i] outs = none := fun outs h => by
              match outs, h with
              | [], _ => simp only [putMuts]
              | [o], h => exact absurd rfl (h o)
              | o :: o2 :: os, _ => simp only [putMuts]; split <;> simp only [putMuts]
            unfold crP
            cases hc : G.cf f (Slot.mp d :: T.map fun t => Slot.br t.1) with
            | bad => rw [hc] at q1; exact q1
            | ok d' outs =>
              rw [hc] at q1
              by_cases ho : ∃ o, outs = [o]
              · obtain ⟨o, rfl⟩ := ho
                simp only [hput] at q1
                have q1 : okP X.K cl fx F L H A σ Q d' (e1.set i (s' o)) := q1
                intro v2 F2 A2 H2 f2 ss2 x2 po rs2 rp2 t2 fr2
                have hnp : putOuts (Slot.mp d :: T.map fun t => Slot.br t.1) [o] = some (Slot.mp o :: T.map fun t => Slot.br t.1) := by
                  simp only [putOuts, putOuts_brs]; rfl
                rw [hnp] at po
                cases po
                obtain ⟨c, rs3⟩ := chg x2 rs2
                refine q1 v2 F2 _ H2 f2 (x1.trans c.ext) rs3 rp2 (fun a z => ?_) (Fr.ext (fun a z => ?_) x1)
                · obtain ⟨t3, t4, t5, t6⟩ := t2 a z
                  refine ⟨t3, fun l => t4 (lc a l), fun ⟨j, u⟩ => ?_, t6⟩
                  by_cases hj : j = i
                  · subst hj
                    simp only [onA, if_true] at u
                    exact t5 ⟨0, u⟩
                  · simp only [onA, hj, if_false] at u
                    exact t4 ⟨Mut.some (rs1.own j a u).2.2, fun w => rs1.sep j i a hj u w⟩
                · rcases fr2 a z with z | ⟨j, z⟩
                  · exact .inl z
                  · exact .inr ⟨i, z.2⟩
              · simp only [hbad outs fun o e => ho ⟨o, e⟩] at q1
                exact q1.elim
            | ex c' ds outs =>
              rw [hc] at q1
              by_cases ho : ∃ o, outs = [o]
              · obtain ⟨o, rfl⟩ := ho
                simp only [hput] at q1
                have q1 : exP X.K cl G.fl fx F L H A σ W c' ds (e1.set i (s' o)) := q1
                intro F2 A2 H2 dx ws2 ss2 x2 po rs2 e1' rp2 hl
                have hnp : putOuts (Slot.mp d :: T.map fun t => Slot.br t.1) [o] = some (Slot.mp o :: T.map fun t => Slot.br t.1) := by
                  simp only [putOuts, putOuts_brs]; rfl
                rw [hnp] at po
                cases po
                obtain ⟨c, rs3⟩ := chg x2 rs2
                exact q1 F2 _ H2 dx ws2 (x1.trans c.ext) rs3 e1' rp2 hl
              · simp only [hbad outs fun o e => ho ⟨o, e⟩] at q1
                exact q1.elim
          have hl := Fn.len _ _ _ _ post
          have hlu : us.length = T.length := by rw [hu]; simp
          have bt := b0 s (u :: us) I1.kIn (by rw [List.append_nil]; simpa [hlu] using hl)
          rw [List.append_nil] at bt
          exact run_any Fn (hr.mono (Nat.le_succ k)) bt (passAt tk σ) I1 (.cons rv0 rv1) post
theorem ev_callZ {f : String} {ks : List String} : EV G cl (.call f [] ks) := ev_callQ ea_nil (fun _ _ h => by cases h)
theorem ev_callC' {f : String} {e : Ex} {es : List Ex} {ks : List String} (h1 : EAs G cl (e :: es)) (h2 : EAs G cl es) : EV G cl (.call f (e :: es) ks) := by
  by_cases h : ∃ i, e = .mt i
  · obtain ⟨i, rfl⟩ := h
    exact ev_callM h2
  · exact ev_callQ h1 fun i r e' => by cases e'; exact h ⟨i, rfl⟩
end
end Wv

set_option Elab.async false
set_option linter.all false
set_option maxRecDepth 100000
/-! Wv17: every expression. -/
namespace Wv
open PySem PySem.Spec PyProof.Rows L2
section
variable {G : Cfg} {cl : String → Addr}
theorem ev_never {e : Ex} (h : ∀ N sc x, erE G N e sc x = false) : EV G cl e := by
  intro X fx sc x g er W tk F L H σ env A r Q q
  rw [h] at er; cases er
theorem ev_isbad {e : Ex} (h : ∀ env, ev G e env = .bad) : EV G cl e := by
  intro X fx sc x g er W tk F L H σ env A r Q q
  rw [h] at q; exact q.elim
theorem te_never {e : Ex} (h : ∀ N sc x, erE G N e sc x = false) : TK G cl e := by
  intro X fx sc x g er W tk F L H σ env A r Q q
  rw [h] at er; cases er
theorem te_isbad {e : Ex} (h : ∀ env, te G e env = .bad) : TK G cl e := by
  intro X fx sc x g er W tk F L H σ env A r Q q
  rw [h] at q; exact q.elim
theorem ev_and {es : List Ex} (h : EVand (G := G) (cl := cl) es) : EV G cl (.and es) := by
  intro X fx sc x g er W tk F L H σ env A r Q q
  obtain ⟨vs, p, rfl, ea⟩ := xnv_and er
  simp only [ev] at q
  exact h X fx sc vs p g ea W tk F L H σ env A r Q q
theorem ev_or {es : List Ex} (h : EVor (G := G) (cl := cl) es) : EV G cl (.or es) := by
  intro X fx sc x g er W tk F L H σ env A r Q q
  obtain ⟨vs, p, rfl, ea⟩ := xnv_or er
  simp only [ev] at q
  exact h X fx sc vs p g ea W tk F L H σ env A r Q q
theorem te_and {es : List Ex} (h : TEand (G := G) (cl := cl) es) : TK G cl (.and es) := by
  intro X fx sc x g er W tk F L H σ env A r Q q
  obtain ⟨vs, p, rfl, ea⟩ := xnv_and er
  simp only [te] at q
  exact fun pins s I => h X fx sc vs p g ea W tk F L H σ env A r Q q _ pins s I
theorem te_or {es : List Ex} (h : TEor (G := G) (cl := cl) es) : TK G cl (.or es) := by
  intro X fx sc x g er W tk F L H σ env A r Q q
  obtain ⟨vs, p, rfl, ea⟩ := xnv_or er
  simp only [te] at q
  exact fun pins s I => h X fx sc vs p g ea W tk F L H σ env A r Q q _ pins s I
theorem evand_nil : EVand (G := G) (cl := cl) [] := by
  intro X fx sc xs p g er W tk F L H σ env A r Q q
  simp only [evand] at q; exact q.elim
theorem evor_nil : EVor (G := G) (cl := cl) [] := by
  intro X fx sc xs p g er W tk F L H σ env A r Q q
  simp only [evor] at q; exact q.elim
theorem teand_nil : TEand (G := G) (cl := cl) [] := by
  intro X fx sc xs p g er W tk F L H σ env A r Q q
  simp only [teand] at q; exact q.elim
theorem teor_nil : TEor (G := G) (cl := cl) [] := by
  intro X fx sc xs p g er W tk F L H σ env A r Q q
  simp only [teor] at q; exact q.elim
theorem sc_never {s : Src} (h : ∀ N sc tg x, erS G N s sc tg x = false) : SC G cl s := by
  intro X fx sc tg x g er W tk F L H σ env A r R q
  rw [h] at er; cases er
theorem sc_isbad {s : Src} (h : ∀ env, src G s env = .bad) : SC G cl s := by
  intro X fx sc tg x g er W tk F L H σ env A r R q
  rw [h] at q; exact q.elim
mutual
theorem ev_all : ∀ e : Ex, EV G cl e
  | .q e => ev_q e
  | .fz xs e => ev_fz xs e
  | .mv i => ev_mv i
  | .fr e => ev_fr (ev_all e)
  | .bad => ev_isbad fun _ => by simp only [ev]
  | .mk0 b => ev_mk0
  | .brv i => ev_isbad fun _ => by simp only [ev]
  | .mt i => ev_isbad fun _ => by simp only [ev]
  | .bin op a b => ev_bin (ev_all a) (ev_all b)
  | .un op a => ev_un (ev_all a)
  | .nt a => ev_nt (ev_all a)
  | .cmp op a b => ev_cmp (ev_all a) (ev_all b)
  | .and es => ev_and (evand_all es)
  | .or es => ev_or (evor_all es)
  | .ite c a b => ev_ite (te_all c) (ev_all a) (ev_all b)
  | .idx a i => ev_idx (ev_all a) (ev_all i)
  | .slc a lo hi => ev_slc (ev_all a)
  | .attr a f => ev_attr (ev_all a)
  | .tup es => ev_tup (evs_all es)
  | .lst es => ev_lst (evs_all es)
  | .bi f es => ev_bi (lks_all es)
  | .bic f es => ev_never fun N sc x => by cases x <;> simp [erE]
  | .bm a m es => ev_never fun N sc x => by cases x <;> simp [erE]
  | .isi a cs => ev_isi (ev_all a)
  | .call f [] ks => ev_callZ
  | .call f (e :: es) ks => ev_callC' (ea_all (e :: es)) (ea_all es)
  | .new c es ks => ev_new (ea_all es)
  | .meth o m es => ev_never fun N sc x => by cases x <;> simp [erE]
  | .mm x path m es => ev_mm (evs_all es)
  | .comp own p s ifs elt => ev_comp (sc_all s) (tks_all ifs) (ev_all elt)
  | .comp2 own p s ifs own2 p2 s2 ifs2 elt => ev_never fun N sc x => by cases x <;> simp [erE]
termination_by x => sizeOf x
theorem te_all : ∀ e : Ex, TK G cl e
  | .q e => te_q e
  | .fz xs e => te_isbad fun _ => by simp only [te]
  | .mv i => te_of (fun N sc x env h => by simp only [erE] at h; obtain ⟨n, p, rfl, _⟩ := inv_var h; intro _; rfl) (fun _ => by simp only [te]) (ev_mv i)
  | .fr e => te_isbad fun _ => by simp only [te]
  | .bad => te_never fun N sc x => by cases x <;> simp [erE]
  | .mk0 b => te_of (fun N sc x env h => by rcases xnv_mk0 h with ⟨_, q, p, rfl, _⟩ | ⟨_, p, rfl⟩ <;> (intro _; rfl)) (fun _ => by simp only [te]) ev_mk0
  | .brv i => te_of (fun N sc x env h => by simp only [erE] at h; obtain ⟨n, p, rfl, _⟩ := inv_var h; intro _; rfl) (fun _ => by simp only [te]) (ev_isbad fun _ => by simp only [ev])
  | .mt i => te_of (fun N sc x env h => by simp only [erE] at h; obtain ⟨n, p, rfl, _⟩ := inv_var h; intro _; rfl) (fun _ => by simp only [te]) (ev_isbad fun _ => by simp only [ev])
  | .bin op a b => te_of (fun N sc x env h => by obtain ⟨l, r, p, rfl, _⟩ := xnv_bin h; intro _; rfl) (fun _ => by simp only [te]) (ev_bin (ev_all a) (ev_all b))
  | .un op a => te_of (fun N sc x env h => by obtain ⟨l, p, rfl, ho, _⟩ := xnv_un h; intro _; cases op <;> first | rfl | exact absurd rfl ho) (fun _ => by simp only [te]) (ev_un (ev_all a))
  | .nt a => te_nt (te_all a)
  | .cmp op a b => te_cmp (ev_all a) (ev_all b)
  | .and es => te_and (teand_all es)
  | .or es => te_or (teor_all es)
  | .ite c a b => te_ite (te_all c) (te_all a) (te_all b)
  | .idx a i => te_of (fun N sc x env h => by obtain ⟨l, r, p, rfl, _⟩ := xnv_idx h; intro _; rfl) (fun _ => by simp only [te]) (ev_idx (ev_all a) (ev_all i))
  | .slc a lo hi => te_of (fun N sc x env h => by obtain ⟨l, s, t, p, q, rfl, _⟩ := xnv_slc h; intro _; rfl) (fun _ => by simp only [te]) (ev_slc (ev_all a))
  | .attr a f => te_of (fun N sc x env h => by obtain ⟨l, p, rfl, _⟩ := xnv_attr h; intro _; rfl) (fun _ => by simp only [te]) (ev_attr (ev_all a))
  | .tup es => te_of (fun N sc x env h => by obtain ⟨vs, k, p, rfl, _⟩ := xnv_tup h; intro _; rfl) (fun _ => by simp only [te]) (ev_tup (evs_all es))
  | .lst es => te_of (fun N sc x env h => by obtain ⟨vs, p, rfl, _⟩ := xnv_lst h; intro _; rfl) (fun _ => by simp only [te]) (ev_lst (evs_all es))
  | .bi f es => te_of (fun N sc x env h => by obtain ⟨q, y, ys, p, rfl, _⟩ := xnv_bi h; intro _; rfl) (fun _ => by simp only [te]) (ev_bi (lks_all es))
  | .bic f es => te_never fun N sc x => by cases x <;> simp [erE]
  | .bm a m es => te_never fun N sc x => by cases x <;> simp [erE]
  | .isi a cs => te_of (fun N sc x env h => by obtain ⟨q, e, t, p, rfl, _⟩ := xnv_isi h; intro _; rfl) (fun _ => by simp only [te]) (ev_isi (ev_all a))
  | .call f [] ks => te_of (fun N sc x env h => by obtain ⟨q, ys, kws, p, rfl, _⟩ := xnv_call h; intro _; rfl) (fun _ => by simp only [te]) ev_callZ
  | .call f (e :: es) ks => te_of (fun N sc x env h => by obtain ⟨q, ys, kws, p, rfl, _⟩ := xnv_call h; intro _; rfl) (fun _ => by simp only [te]) (ev_callC' (ea_all (e :: es)) (ea_all es))
  | .new c es ks => te_of (fun N sc x env h => by obtain ⟨q, ys, kws, p, rfl, _⟩ := xnv_new h; intro _; rfl) (fun _ => by simp only [te]) (ev_new (ea_all es))
  | .meth o m es => te_never fun N sc x => by cases x <;> simp [erE]
  | .mm x path m es => te_of (fun N sc x env h => by obtain ⟨n, q, ap, y, cp, rfl, _⟩ := xnv_mm h; intro _; rfl) (fun _ => by simp only [te]) (ev_mm (evs_all es))
  | .comp own p s ifs elt => te_of (fun N sc x env h => by obtain ⟨a, b, c, d, e, f, rfl, _⟩ := xnv_comp h; intro _; rfl) (fun _ => by simp only [te]) (ev_comp (sc_all s) (tks_all ifs) (ev_all elt))
  | .comp2 own p s ifs own2 p2 s2 ifs2 elt => te_never fun N sc x => by cases x <;> simp [erE]
termination_by x => sizeOf x
theorem evs_all : ∀ es : List Ex, EVs G cl es
  | [] => evs_nil
  | e :: es => evs_cons (ev_all e) (evs_all es)
termination_by x => sizeOf x
theorem lks_all : ∀ es : List Ex, LKs G cl es
  | [] => lks_nil
  | e :: es => lks_cons (ev_all e) (lks_all es)
termination_by x => sizeOf x
theorem ea_all : ∀ es : List Ex, EAs G cl es
  | [] => ea_nil
  | e :: es => ea_cons (ev_all e) (ea_all es)
termination_by x => sizeOf x
theorem evand_all : ∀ es : List Ex, EVand (G := G) (cl := cl) es
  | [] => evand_nil
  | [e] => evand_one (ev_all e)
  | e :: e2 :: es => evand_cons (ev_all e) (evand_all (e2 :: es))
termination_by x => sizeOf x
theorem evor_all : ∀ es : List Ex, EVor (G := G) (cl := cl) es
  | [] => evor_nil
  | [e] => evor_one (ev_all e)
  | e :: e2 :: es => evor_cons (ev_all e) (evor_all (e2 :: es))
termination_by x => sizeOf x
theorem teand_all : ∀ es : List Ex, TEand (G := G) (cl := cl) es
  | [] => teand_nil
  | [e] => teand_one (te_all e)
  | e :: e2 :: es => teand_cons (te_all e) (teand_all (e2 :: es))
termination_by x => sizeOf x
theorem teor_all : ∀ es : List Ex, TEor (G := G) (cl := cl) es
  | [] => teor_nil
  | [e] => teor_one (te_all e)
  | e :: e2 :: es => teor_cons (te_all e) (teor_all (e2 :: es))
termination_by x => sizeOf x
theorem tks_all : ∀ es : List Ex, TKs G cl es
  | [] => tks_nil
  | [e] => tks_one (te_all e)
  | e :: e2 :: es => tks_more
termination_by x => sizeOf x
theorem sc_all : ∀ s : Src, SC G cl s
  | .rng none (some b) none => sc_rng1 (ev_all b)
  | .rng (some a) (some b) none => sc_rng2 (ev_all a) (ev_all b)
  | .rng none none _ => sc_isbad fun _ => by simp only [src]
  | .rng (some _) none _ => sc_isbad fun _ => by simp only [src]
  | .rng _ _ (some _) => sc_isbad fun _ => by simp only [src]
  | .itq e => sc_itq e
  | .itv e => sc_itv (ev_all e)
  | .enq e => sc_enq e
  | .env e => sc_env (ev_all e)
  | .zipq es => sc_zipq es
  | .revq e => sc_never fun N sc tg x => by simp [erS]
termination_by x => sizeOf x
end
end
end Wv

set_option Elab.async false
set_option linter.all false
set_option maxRecDepth 100000
/-! Wv18: statements: assignments. -/
namespace Wv
open PySem PySem.Spec PyProof.Rows L2
/-- a statement's ends -/
def stP (K : PySem.W.Frag) (cl : String → Addr) (fl : Flds) (fx : Fx) (F L : Sets) (H : Hp) (A : Nat → Sets) (W : WX) (D : Ends) : SR → Prop
  | .nx e => ∀ σ' F' A' H', Ext F H A F' H' A' → RS K cl fx F' L H' σ' e A' → D.nx σ' H'
  | .bk e => ∀ σ' F' A' H', Ext F H A F' H' A' → RS K cl fx F' L H' σ' e A' → D.bk σ' H'
  | .ct e => ∀ σ' F' A' H', Ext F H A F' H' A' → RS K cl fx F' L H' σ' e A' → D.ct σ' H'
  | .rt d e => ∀ v σ' F' A' H' fp, Ext F H A F' H' A' → RS K cl fx F' L H' σ' e A' → Rp K cl F' H' d v fp → Tp F' L H' A' fp → Fr H A fp → D.rt v H'
  | .ex c ds e => ∀ σ' F' A' H' dx vs, Ext F H A F' H' A' → RS K cl fx F' L H' σ' e A' → H' dx = some (.xd (((fl c).map Str.ofString).zip vs)) → Rps K cl F' H' ds vs E0s → (fl c).length = ds.length → W (.ref (cl c)) (some dx) σ' H'
  | .bad => False
section
variable {K : PySem.W.Frag} {cl : String → Addr} {fl : Flds} {fx : Fx} {F F1 L : Sets} {H H1 : Hp} {A A1 : Nat → Sets} {W : WX} {D : Ends}
theorem stP.ext : ∀ {r : SR}, stP K cl fl fx F L H A W D r → Ext F H A F1 H1 A1 → stP K cl fl fx F1 L H1 A1 W D r
  | .nx e, q, x => fun σ' F' A' H' y rs => q σ' F' A' H' (x.trans y) rs
  | .bk e, q, x => fun σ' F' A' H' y rs => q σ' F' A' H' (x.trans y) rs
  | .ct e, q, x => fun σ' F' A' H' y rs => q σ' F' A' H' (x.trans y) rs
  | .rt d e, q, x => fun v σ' F' A' H' fp y rs rp t f => q v σ' F' A' H' fp (x.trans y) rs rp t (f.ext x)
  | .ex c ds e, q, x => fun σ' F' A' H' dx vs y rs h1 h2 h3 => q σ' F' A' H' dx vs (x.trans y) rs h1 h2 h3
  | .bad, q, _ => q
/-- an expression first -/
theorem stP.st {σ : L2.St} {α : Type} {r : Res α} {f : α → Env → SR} (q : stP K cl fl fx F L H A W D (r.st f)) {ok : α → Env → Prop} (h : ∀ a e, r = .ok a e → stP K cl fl fx F L H A W D (f a e) → ok a e) : RQ r ok (exP K cl fl fx F L H A σ W) := by
  cases r with
  | ok a e => exact h a e rfl q
  | ex c ds e => exact fun F' A' H' dx vs x rs h1 h2 h3 => q σ F' A' H' dx vs x rs h1 h2 h3
  | bad => exact q
end
structure GoodS (G : Cfg) (cl : String → Addr) (fx : Fx) (sc : Scope) (X : Cx) : Prop extends Good G cl fx sc X where
  po : G.hot = false → PassesOwn (model X.prog X.w) X.A X.env X.xe
  lo : LoOk X (locB sc)
  sk : X.stack = X.env :: X.outer
  fr : X.env.frame = some X.env.locals
def wS (X : Cx) (st : Stmt) : TS := fun D σ H => ∀ pins s, Inv X pins σ H s → wpAny (model X.prog X.w) X.A (PySem.exec st X.env) (SP X pins D) X.xe s
theorem ps_w {X : Cx} {st : Stmt} : PS X st (wS X st) := ⟨fun pins s σ H D I h => h pins s I⟩
theorem to_wS {X : Cx} {st : Stmt} {t : TS} {D : Ends} {σ : L2.St} {H : Hp} (h : PS X st t) (q : t D σ H) : wS X st D σ H := fun pins s I => h.run pins s σ H D I q
def wSs (X : Cx) (sts : List Stmt) : TS := fun D σ H => ∀ pins s, Inv X pins σ H s → wpAny (model X.prog X.w) X.A (PySem.execs sts X.env) (SP X pins D) X.xe s
theorem pss_w {X : Cx} {sts : List Stmt} : PSs X sts (wSs X sts) := ⟨fun pins s σ H D I h => h pins s I⟩
theorem to_wSs {X : Cx} {sts : List Stmt} {t : TS} {D : Ends} {σ : L2.St} {H : Hp} (h : PSs X sts t) (q : t D σ H) : wSs X sts D σ H := fun pins s I => h.run pins s σ H D I q
/-! ### side conditions by the syntax -/
def nlc : Expr → Bool
  | .ListComp _ _ _ _ => false
  | .SetComp _ _ _ _ => false
  | .DictComp _ _ _ _ _ => false
  | _ => true
theorem no_swap {e : Expr} {t : Option Expr} {l : Nat} {env : PySem.Env} (h : nlc e = true) : swapsWith e t l env = pure false := by
  cases e <;> first | rfl | cases h
def ntt : Expr → Expr → Bool
  | .Tuple _ _ _, .Tuple _ _ _ => false
  | .List _ _, .Tuple _ _ _ => false
  | _, _ => true
theorem no_stores {t e : Expr} {env : PySem.Env} (h : ntt t e = true) : swappedStores [t] e env = pure none := by
  cases t <;> cases e <;> first | rfl | cases h
section
variable {X : Cx} {cl : String → Addr} {fx : Fx} {lo : Str → Bool}
mutual
theorem asg_ok (hN : X.N.Nodup) (hlo : LoOk X lo) : ∀ (p : Pat) (tg : Expr), erP X.N lo p tg = true → (∀ i, p = .v i → True) → (X.calm = true ∨ ∃ i, p = .v i) → ∀ {F L : Sets} {H : Hp} {σ : L2.St} {env env' : Env} {A : Nat → Sets} {d : D} {v : V} {fp : Sets}, RS X.K cl fx F L H σ env A → asgP p d env = some env' → Rp X.K cl F H d v fp → Tp F L H A fp →
    ∀ {Q : L2.St → Hp → Prop}, (∀ σ' A', RS X.K cl fx F L H σ' env' A' → (∀ a, Un A' a → Un A a ∨ fp a) → Q σ' H) → wG X tg v σ H Q
  | .v i, tg, er, _, hc, F, L, H, σ, env, env', A, d, v, fp, r, hb, rp, t, Q, q => by
    cases tg <;> (try simp [erP] at er)
    rename_i x p
    obtain ⟨h1, h2⟩ := hlo x er.2
    refine to_wG (pg_name hN er.1 h1 h2) ?_
    have hi : i < env.length := by
      simp only [asgP, setS] at hb
      by_cases hi : i < env.length
      · exact hi
      · rw [List.getElem?_eq_none (by omega)] at hb; simp at hb
    have hb' : env' = env.set i (.me d) := by
      simp only [asgP, setS] at hb
      split at hb
      · cases hb
      · cases hb
      · cases hb; rfl
      · cases hb
    subst hb'
    exact q _ _ (r.put rp t hi) fun a z => un_onA z
  | .tup ps, tg, er, _, hc, F, L, H, σ, env, env', A, d, v, fp, r, hb, rp, t, Q, q => by
    have hc : X.calm = true := by
      rcases hc with hc | ⟨i, hc⟩
      · exact hc
      · cases hc
    cases tg <;> (try simp [erP] at er)
    rename_i es k p
    cases d with
    | tup ds =>
      simp only [asgP] at hb
      simp only [Rp] at rp
      obtain ⟨a, vs, rfl, hq, rps⟩ := rp
      have hn := erPs_nsts _ _ er
      obtain ⟨l1, l2⟩ := ase_len (env := X.env) hn
      have hl : vs.length = es.length := by
        rw [← rps.length]
        exact asgs_len ps es er hb
      exact to_wG (pg_tup hc (pgs_w hn) l1 l2) ⟨a, vs, rfl, hq, hl, asgs_ok hN hlo ps es er hc r hb rps t q⟩
    | lst tt ds =>
      simp only [asgP] at hb
      obtain ⟨a, vs, rfl, hq, rps⟩ := rp.lst_mono
      have hn := erPs_nsts _ _ er
      obtain ⟨l1, l2⟩ := ase_len (env := X.env) hn
      have hl : vs.length = es.length := by
        rw [← rps.length]
        exact asgs_len ps es er hb
      exact to_wG (pg_unl hc (pgs_w hn) l1 l2) ⟨a, vs, rfl, hq, hl, asgs_ok hN hlo ps es er hc r hb rps t q⟩
    | _ => simp [asgP] at hb
theorem asgs_len {N : List Str} {lo : Str → Bool} : ∀ (ps : List Pat) (es : List Expr), erPs N lo ps es = true → ∀ {ds : List D} {env env' : Env}, asgPs ps ds env = some env' → ds.length = es.length
  | [], [], _, ds, env, env', h => by cases ds <;> simp [asgPs] at h ⊢
  | [], _ :: _, er, _, _, _, _ => by simp [erPs] at er
  | _ :: _, [], er, _, _, _, _ => by simp [erPs] at er
  | p :: ps, e :: es, er, ds, env, env', h => by
    simp only [erPs, Bool.and_eq_true] at er
    cases ds with
    | nil => simp [asgPs] at h
    | cons d ds =>
      simp only [asgPs] at h
      split at h
      · simp [asgs_len ps es er.2 h]
      · cases h
theorem asgs_ok (hN : X.N.Nodup) (hlo : LoOk X lo) : ∀ (ps : List Pat) (es : List Expr), erPs X.N lo ps es = true → X.calm = true → ∀ {F L : Sets} {H : Hp} {σ : L2.St} {env env' : Env} {A : Nat → Sets} {ds : List D} {vs : List V} {fp : Sets}, RS X.K cl fx F L H σ env A → asgPs ps ds env = some env' → Rps X.K cl F H ds vs fp → Tp F L H A fp →
    ∀ {Q : L2.St → Hp → Prop}, (∀ σ' A', RS X.K cl fx F L H σ' env' A' → (∀ a, Un A' a → Un A a ∨ fp a) → Q σ' H) → wGs X es vs σ H Q
  | [], es, er, hc, F, L, H, σ, env, env', A, ds, vs, fp, r, hb, rp, t, Q, q => by
    cases es with
    | nil =>
      cases ds with
      | nil =>
        simp only [asgPs, Option.some.injEq] at hb
        simp only [Rps] at rp
        subst rp hb
        exact ⟨rfl, q σ A r fun a z => .inl z⟩
      | cons d ds => simp [asgPs] at hb
    | cons e es => simp [erPs] at er
  | p :: ps, es, er, hc, F, L, H, σ, env, env', A, ds, vs, fp, r, hb, rp, t, Q, q => by
    cases es with
    | nil => simp [erPs] at er
    | cons e es =>
      simp only [erPs, Bool.and_eq_true] at er
      cases ds with
      | nil => simp [asgPs] at hb
      | cons d ds =>
        simp only [asgPs] at hb
        split at hb
        · rename_i e1 he
          simp only [Rps] at rp
          obtain ⟨v, vs', f1, f2, rfl, r1, r2, sep, m1, m2⟩ := rp
          refine ⟨v, vs', rfl, asg_ok hN hlo p e er.1.2 (fun _ _ => trivial) (.inl hc) r he r1 (fun a z => t a (m1 a z)) fun σ1 A1 rs1 un1 => ?_⟩
          refine asgs_ok hN hlo ps es er.2 hc rs1 hb r2 (fun a z => ?_) fun σ2 A2 rs2 un2 => ?_
          · obtain ⟨t1, t2, t3, t4⟩ := t a (m2 a z)
            exact ⟨t1, t2, fun u => (un1 a u).elim t3 fun u => sep a u z, t4⟩
          · refine q σ2 A2 rs2 fun a z => ?_
            rcases un2 a z with z | z
            · exact (un1 a z).imp id (m1 a)
            · exact .inr (m2 a z)
        · cases hb
end
end
end Wv

set_option Elab.async false
set_option linter.all false
set_option maxRecDepth 100000
/-! Wv19: statements: the check; simple statements. -/
namespace Wv
open PySem PySem.Spec PyProof.Rows L2
def isV : Pat → Bool
  | .v _ => true
  | _ => false
/-- name = [.. for ..] on one line -/
def lcOk (sc : Scope) : Pat → Expr → Expr → Bool
  | .v _, .Name y py, .ListComp _ _ scope lp => sc.names.lookup y == some .local && (py.line == lp.line && (scope.names.any fun (n, k) => n == y && (k == .local || k == .cell)) == false)
  | _, _, _ => false
/-- .. that is stored as any value -/
def lcNo (sc : Scope) : Expr → Expr → Bool
  | .Name y py, .ListComp _ _ scope lp => !((sc.names.lookup y == some .local && py.line == lp.line) && !(scope.names.any fun (n, k) => n == y && (k == .local || k == .cell)))
  | _, _ => false
theorem lcNo_ok {sc : Scope} {tg x : Expr} {env : PySem.Env} (he : env.scope = sc) (h : lcNo sc tg x = true) : (∀ l, swapsWith x (some tg) l env = pure false) ∧ ntt tg x = true ∧ ∃ y py e gs scope lp, tg = .Name y py ∧ x = .ListComp e gs scope lp := by
  subst he
  cases tg with
  | Name y py =>
    cases x with
    | ListComp e gs scope lp =>
      refine ⟨fun l => ?_, rfl, _, _, _, _, _, _, rfl, rfl⟩
      unfold lcNo at h
      unfold swapsWith
      have h' : ((env.kindOf y == some .local && py.line == lp.line) && !(scope.names.any fun (n, k) => n == y && (k == .local || k == .cell))) = false := by
        have h2 : (!((env.kindOf y == some .local && py.line == lp.line) && !(scope.names.any fun (n, k) => n == y && (k == .local || k == .cell)))) = true := h
        rwa [Bool.not_eq_true'] at h2
      show pure (env.blockKind == .function && env.kindOf y == some .local && py.line == lp.line && !(scope.names.any fun (n, k) => n == y && (k == .local || k == .cell))) = pure false
      congr 1
      rw [Bool.and_assoc (env.blockKind == .function), Bool.and_assoc (env.blockKind == .function), h', Bool.and_false]
    | _ => simp [lcNo] at h
  | _ => simp [lcNo] at h
def isCompE : Ex → Bool
  | .comp _ _ _ _ _ => true
  | .fr (.comp _ _ _ _ _) => true
  | _ => false
theorem isCompE_ok {e : Ex} (h : isCompE e = true) : ∃ own p2 s2 ifs elt, e = .comp own p2 s2 ifs elt ∨ e = .fr (.comp own p2 s2 ifs elt) := by
  unfold isCompE at h
  split at h
  · exact ⟨_, _, _, _, _, .inl rfl⟩
  · exact ⟨_, _, _, _, _, .inr rfl⟩
  · cases h
theorem rq_fr {G : Cfg} {cl : String → Addr} {K : PySem.W.Frag} {fx : Fx} {F L : Sets} {H : Hp} {A : Nat → Sets} {σ : L2.St} {env : Env} {e : Ex} {Q : VK} {ex : String → List Wv.D → Env → Prop} (q : RQ (ev G (.fr e) env) (okP K cl fx F L H A σ Q) ex) : RQ (ev G e env) (okP K cl fx F L H A σ Q) ex := by
  simp only [ev] at q
  refine q.bind (fun d e1 q1 => ?_) fun c ds e1 q1 => q1
  intro v F' A' H' fp x1 rs rp tp fr
  have q1 : okP K cl fx F L H A σ Q (if d.stb then d else d.froz) e1 := q1
  split at q1
  · exact q1 v F' A' H' fp x1 rs rp tp fr
  · refine q1 v (fun a => F' a ∨ fp a) A' H' E0s ⟨fun a z => .inl (x1.fro a z), fun a z => ?_, x1.own, x1.keep, x1.live⟩ (rs.fro tp) (rp.froz (fun a z => .inr z) fun a z => .inl z) Tp.e0 Fr.e0
    rcases z with z | z
    · exact x1.new a z
    · exact .inr (fr a z)
def asSub : Stmt → Option (Expr × Expr × Expr)
  | .Assign [.Subscript o j _] y _ => some (o, j, y)
  | _ => none
def asAug : Stmt → Option (Expr × Expr × Operator × Expr)
  | .AugAssign (.Subscript o j _) op y _ => some (o, j, op, y)
  | _ => none
def okAug (op : Operator) : Bool := op == .Add || op == .Sub || op == .BitOr || op == .BitAnd || op == .BitXor
def asAtt : Stmt → Option (Expr × Str × Expr)
  | .Assign [.Attribute o n _] y _ => some (o, n, y)
  | _ => none
def asRai : Stmt → Option (Expr × Expr × List Expr)
  | .Raise (some (.Call x (y :: ys) [] _)) none _ => some (x, y, ys)
  | _ => none
theorem asRai_ok {st : Stmt} {x y : Expr} {ys : List Expr} (h : asRai st = some (x, y, ys)) : ∃ p pp, st = .Raise (some (.Call x (y :: ys) [] p)) none pp := by
  unfold asRai at h
  split at h
  · cases h; exact ⟨_, _, rfl⟩
  · cases h
theorem asAug_ok {st : Stmt} {o j y : Expr} {op : Operator} (h : asAug st = some (o, j, op, y)) : ∃ p sp, st = .AugAssign (.Subscript o j p) op y sp := by
  unfold asAug at h
  split at h
  · cases h; exact ⟨_, _, rfl⟩
  · cases h
theorem asSub_ok {st : Stmt} {o j y : Expr} (h : asSub st = some (o, j, y)) : ∃ p sp, st = .Assign [.Subscript o j p] y sp := by
  unfold asSub at h
  split at h
  · cases h; exact ⟨_, _, rfl⟩
  · cases h
theorem asAtt_ok {st : Stmt} {o y : Expr} {n : Str} (h : asAtt st = some (o, n, y)) : ∃ p sp, st = .Assign [.Attribute o n p] y sp := by
  unfold asAtt at h
  split at h
  · cases h; exact ⟨_, _, rfl⟩
  · cases h
def asTry : Stmt → Option (List Stmt × List ExceptHandler)
  | .Try b (h :: hs) [] [] _ => some (b, h :: hs)
  | _ => none
theorem asTry_ok {st : Stmt} {b : List Stmt} {hs : List ExceptHandler} (h : asTry st = some (b, hs)) : ∃ h0 hs0 p, st = .Try b (h0 :: hs0) [] [] p ∧ hs = h0 :: hs0 := by
  unfold asTry at h
  split at h
  · cases h; exact ⟨_, _, _, rfl, rfl⟩
  · cases h
def asHd : List String → ExceptHandler → Option (String × Expr × Option Str × List Stmt)
  | [t], .ExceptHandler (some x) on (s :: su) _ => some (t, x, on, s :: su)
  | _, _ => none
theorem asHd_ok {cs : List String} {hd : ExceptHandler} {t : String} {x : Expr} {on : Option Str} {su : List Stmt} (h : asHd cs hd = some (t, x, on, su)) : ∃ s0 s1 p, cs = [t] ∧ hd = .ExceptHandler (some x) on (s0 :: s1) p ∧ su = s0 :: s1 := by
  unfold asHd at h
  split at h
  · cases h; exact ⟨_, _, _, rfl, rfl, rfl⟩
  · cases h
def nmH (N : List Str) (sc : Scope) : Option Nat → Option Str → Bool
  | none, none => true
  | some i, some n => N[i]? == some n && sc.names.lookup n == some .local
  | _, _ => false
theorem nmH_ok {N : List Str} {sc : Scope} {o : Option Nat} {on : Option Str} (h : nmH N sc o on = true) : (o = none ∧ on = none) ∨ ∃ i n, o = some i ∧ on = some n ∧ N[i]? = some n ∧ sc.names.lookup n = some .local := by
  unfold nmH at h
  split at h
  · exact .inl ⟨rfl, rfl⟩
  · simp only [Bool.and_eq_true, beq_iff_eq] at h
    exact .inr ⟨_, _, rfl, rfl, h.1, h.2⟩
  · cases h
section
variable (G : Cfg) (N : List Str)
abbrev gh (h : Bool) : Cfg := if h then hotG G else G
mutual
def erT : Bool → St → Scope → Stmt → Bool
  | h, .asg p e, sc, .Assign [tg] x _ => (nst tg && (erP N (locB sc) p tg && (!h || isV p))) && (((nlc x && ntt tg x) || ((lcOk sc p tg x && isCompE e) || lcNo sc tg x)) && erE (gh G h) N e sc x)
  | h, .setI x path i e, sc, st => match asSub st with
    | some (o, j, y) => (path.isEmpty && nsl j) && (erQ (gh G h) sc N (.var x) o && erQ (gh G h) sc N i j) && (nlc y && erE (gh G h) N e sc y)
    | none => false
  | h, .setA x f e, sc, st => match asAtt st with
    | some (o, n, y) => (Str.ofString f == n && erQ (gh G h) sc N (.var x) o) && (nlc y && erE (gh G h) N e sc y)
    | none => false
  | h, .augV x op e, sc, .AugAssign (.Name n _) o y _ => (op == o && okAug op) && ((N[x]? == some n && locB sc n) && erE (gh G h) N e sc y)
  | h, .augI x path i op e, sc, st => match asAug st, e with
    | some (o, j, op', y), .q z => (path.isEmpty && nsl j && (op == op' && okAug op)) && (erQ (gh G h) sc N (.var x) o && erQ (gh G h) sc N i j) && erQ (gh G h) sc N z y
    | _, _ => false
  | h, .expr e, sc, .Expr x _ => nlc x && erE (gh G h) N e sc x
  | h, .ret e, sc, .Return (some x) _ => erE (gh G h) N e sc x
  | _, .retN, _, .Return none _ => true
  | h, .ifS c a b, sc, .If x s t _ => erE (gh G h) N c sc x && (erTs h a sc s && erTs h b sc t)
  | h, .whil c b, sc, .While x s [] _ => erE (gh G h) N c sc x && erTs h b sc s
  | h, .forS p s b, sc, .For tg x sts [] _ => (nset x && erP N (locB sc) p tg) && (erS (gh G h) N s sc tg x && erTs h b sc sts)
  | _, .brk, _, .Break _ => true
  | _, .cnt, _, .Continue _ => true
  | _, .pas, _, .Pass _ => true
  | h, .rais c es, sc, st => match asRai st with
    | some (x, y, ys) => (nmB sc c x && (G.ec.contains c && !(G.fl c).isEmpty)) && erEs (gh G h) N es sc (y :: ys)
    | none => false
  | _, .tryS b hs, sc, st => match asTry st with
    | some (body, hds) => erTs false b sc body && erHs hs sc hds
    | none => false
  | _, _, _, _ => false
def erHs : List Hd → Scope → List ExceptHandler → Bool
  | [], _, [] => true
  | .mk cs n b :: hs, sc, hd :: hds => match asHd cs hd with
    | some (t, x, on, su) => (nmB sc t x && excN G t) && (nmH N sc n on && erTs true b sc su) && erHs hs sc hds
    | none => false
  | _, _, _ => false
def erTs : Bool → List St → Scope → List Stmt → Bool
  | _, [], _, [] => true
  | h, s :: ss, sc, t :: ts => erT h s sc t && erTs h ss sc ts
  | _, _, _, _ => false
end
end
section
variable (G : Cfg) (cl : String → Addr)
def ST (h : Bool) (s : St) : Prop := ∀ (X : Cx) (fx : Fx) (sc : Scope) (st : Stmt), GoodS (gh G h) cl fx sc X → erT G X.N h s sc st = true → ∀ (W : WX), Takes X W → ∀ (F L : Sets) (H : Hp) (σ : L2.St) (env : Env) (A : Nat → Sets), RS X.K cl fx F L H σ env A →
  ∀ D : Ends, stP X.K cl G.fl fx F L H A W D (exec G h s env) → wS X st D σ H
def STs (h : Bool) (ss : List St) : Prop := ∀ (X : Cx) (fx : Fx) (sc : Scope) (sts : List Stmt), GoodS (gh G h) cl fx sc X → erTs G X.N h ss sc sts = true → ∀ (W : WX), Takes X W → ∀ (F L : Sets) (H : Hp) (σ : L2.St) (env : Env) (A : Nat → Sets), RS X.K cl fx F L H σ env A →
  ∀ D : Ends, stP X.K cl G.fl fx F L H A W D (execs G h ss env) → wSs X sts D σ H
end
section
variable {G : Cfg} {cl : String → Addr}
theorem gh_fl (h : Bool) : (gh G h).fl = G.fl := by cases h <;> rfl
theorem sr_of {K : PySem.W.Frag} {fl : Flds} {fx : Fx} {F L : Sets} {H : Hp} {A : Nat → Sets} {W : WX} {D : Ends} {o : Option Env} (q : stP K cl fl fx F L H A W D (SR.of o)) : ∃ e, o = some e ∧ stP K cl fl fx F L H A W D (.nx e) := by
  cases o with
  | none => exact (show False from q).elim
  | some e => exact ⟨e, rfl, q⟩
theorem ee {h : Bool} {e : Ex} {X : Cx} {fx : Fx} {sc : Scope} {x : Expr} (g : GoodS (gh G h) cl fx sc X) (er : erE (gh G h) X.N e sc x = true) {W : WX} (tk : Takes X W) {F L : Sets} {H : Hp} {σ : L2.St} {env : Env} {A : Nat → Sets} (r : RS X.K cl fx F L H σ env A) {D : Ends} {f : Wv.D → Env → SR}
    (q : stP X.K cl G.fl fx F L H A W D ((ev (gh G h) e env).st f)) {Q : VK} (k : ∀ d e1, stP X.K cl G.fl fx F L H A W D (f d e1) → okP X.K cl fx F L H A σ Q d e1) : wE X x σ H Q := by
  refine ev_all e X fx sc x g.toGood er W tk F L H σ env A r Q ?_
  rw [gh_fl]
  exact stP.st q fun d e1 _ q1 => k d e1 q1
theorem st_expr {h : Bool} {e : Ex} : ST G cl h (.expr e) := by
  intro X fx sc st g er W tk F L H σ env A r E q
  cases st <;> (try simp [erT] at er)
  rename_i x p
  simp only [exec] at q
  refine to_wS (ps_expr pe_w (no_swap er.1)) (ee g er.2 tk r q fun d e1 q1 => ?_)
  intro v F1 A1 H1 f1 x1 rs1 rp1 t1 fr1
  exact (show ∀ σ' F' A' H', Ext F H A F' H' A' → RS X.K cl fx F' L H' σ' e1 A' → E.nx σ' H' from q1) σ F1 A1 H1 x1 rs1
theorem st_ret {h : Bool} {e : Ex} : ST G cl h (.ret e) := by
  intro X fx sc st g er W tk F L H σ env A r E q
  obtain ⟨x, p, rfl⟩ : ∃ x p, st = .Return (some x) p := by
    cases st with
    | Return o p =>
      cases o with
      | some x => exact ⟨_, _, rfl⟩
      | none => simp [erT] at er
    | _ => simp [erT] at er
  simp only [erT] at er
  simp only [exec] at q
  refine to_wS (ps_ret pe_w) (ee g er tk r q fun d e1 q1 => ?_)
  intro v F1 A1 H1 f1 x1 rs1 rp1 t1 fr1
  exact q1 v σ F1 A1 H1 f1 x1 rs1 rp1 t1 fr1
theorem st_retN {h : Bool} : ST G cl h .retN := by
  intro X fx sc st g er W tk F L H σ env A r E q
  obtain ⟨p, rfl⟩ : ∃ p, st = .Return none p := by
    cases st with
    | Return o p =>
      cases o with
      | some x => simp [erT] at er
      | none => exact ⟨_, rfl⟩
    | _ => simp [erT] at er
  simp only [exec] at q
  exact to_wS ps_retN (q .non σ F A H E0s Ext.refl r (by simp only [Rp]) Tp.e0 Fr.e0)
theorem st_pas {h : Bool} : ST G cl h .pas := by
  intro X fx sc st g er W tk F L H σ env A r E q
  cases st <;> (try simp [erT] at er)
  simp only [exec] at q
  exact to_wS ps_pass (q σ F A H Ext.refl r)
theorem st_brk {h : Bool} : ST G cl h .brk := by
  intro X fx sc st g er W tk F L H σ env A r E q
  cases st <;> (try simp [erT] at er)
  simp only [exec] at q
  exact to_wS ps_break (q σ F A H Ext.refl r)
theorem st_cnt {h : Bool} : ST G cl h .cnt := by
  intro X fx sc st g er W tk F L H σ env A r E q
  cases st <;> (try simp [erT] at er)
  simp only [exec] at q
  exact to_wS ps_continue (q σ F A H Ext.refl r)
theorem st_if {h : Bool} {c : Ex} {a b : List St} (ha : STs G cl h a) (hb : STs G cl h b) : ST G cl h (.ifS c a b) := by
  intro X fx sc st g er W tk F L H σ env A r E q
  cases st <;> (try simp [erT] at er)
  rename_i x s t p
  obtain ⟨ec, ea, eb⟩ := er
  simp only [exec] at q
  refine to_wS (ps_if pt_w pss_w pss_w) ?_
  refine te_all c X fx sc x g.toGood ec W tk F L H σ env A r _ ?_
  rw [gh_fl]
  refine stP.st q fun k e1 _ q1 => ?_
  intro F1 A1 H1 x1 rs1
  cases k with
  | true => exact iteT (ha X fx sc s g ea W tk F1 L H1 σ e1 A1 rs1 E (stP.ext q1 x1))
  | false => exact iteF (hb X fx sc t g eb W tk F1 L H1 σ e1 A1 rs1 E (stP.ext q1 x1))
theorem sts_nil {h : Bool} : STs G cl h [] := by
  intro X fx sc sts g er W tk F L H σ env A r E q
  cases sts with
  | nil =>
    simp only [execs] at q
    exact to_wSs pss_nil (q σ F A H Ext.refl r)
  | cons t ts => simp [erTs] at er
/-- what a sequence's first part must reach -/
theorem seq_post {K : PySem.W.Frag} {fl : Flds} {fx : Fx} {F L : Sets} {H : Hp} {A : Nat → Sets} {W : WX} {E : Ends} {f : Env → SR} {N : L2.St → Hp → Prop} (hN : ∀ e σ' F' A' H', Ext F H A F' H' A' → RS K cl fx F' L H' σ' e A' → stP K cl fl fx F' L H' A' W E (f e) → N σ' H') : ∀ {r : SR}, stP K cl fl fx F L H A W E (r.then f) → stP K cl fl fx F L H A W { E with nx := N } r
  | .nx e, q => fun σ' F' A' H' x rs => hN e σ' F' A' H' x rs (stP.ext q x)
  | .bk e, q => q
  | .ct e, q => q
  | .rt d e, q => q
  | .ex c ds e, q => q
  | .bad, q => q
theorem sts_cons {h : Bool} {s : St} {ss : List St} (hs : ST G cl h s) (hss : STs G cl h ss) : STs G cl h (s :: ss) := by
  intro X fx sc sts g er W tk F L H σ env A r E q
  cases sts with
  | nil => simp [erTs] at er
  | cons t ts =>
    simp only [erTs, Bool.and_eq_true] at er
    simp only [execs] at q
    refine to_wSs (pss_cons ps_w pss_w) ?_
    refine hs X fx sc t g er.1 W tk F L H σ env A r _ (seq_post (fun e σ' F' A' H' x rs q1 => ?_) q)
    exact hss X fx sc ts g er.2 W tk F' L H' σ' e A' rs E q1
theorem st_asg (hG : G.hot = false) {h : Bool} {p : Pat} {e : Ex} : ST G cl h (.asg p e) := by
  intro X fx sc st g er W tk F L H σ env A r E q
  obtain ⟨tg, x, sp, rfl⟩ : ∃ tg x sp, st = .Assign [tg] x sp := by
    cases st with
    | Assign ts x sp =>
      match ts, er with
      | [t], _ => exact ⟨_, _, _, rfl⟩
      | [], er => simp [erT] at er
      | _ :: _ :: _, er => simp [erT] at er
    | _ => simp [erT] at er
  simp only [erT, Bool.and_eq_true] at er
  obtain ⟨⟨hn, ep, hv⟩, hs, ex⟩ := er
  simp only [exec] at q
  have hcalm : X.calm = true ∨ ∃ i, p = .v i := by
    cases h with
    | false => exact .inl (g.calm hG)
    | true =>
      cases p with
      | v i => exact .inr ⟨i, rfl⟩
      | tup ps => simp [isV] at hv
  have main : ∀ (d : Wv.D) (e1 : Env), stP X.K cl G.fl fx F L H A W E (SR.of (asgP p d e1)) → okP X.K cl fx F L H A σ (fun v H1 => wG X tg v σ H1 E.nx) d e1 := by
    intro d e1 q1 v F1 A1 H1 f1 x1 rs1 rp1 t1 fr1
    obtain ⟨e2, he, q2⟩ := sr_of q1
    refine asg_ok g.nd g.lo p tg ep (fun _ _ => trivial) hcalm rs1 he rp1 t1 fun σ2 A2 rs2 un2 => ?_
    refine (show ∀ σ' F' A' H', Ext F H A F' H' A' → RS X.K cl fx F' L H' σ' e2 A' → E.nx σ' H' from q2) σ2 F1 A2 H1 ⟨x1.fro, x1.new, fun a z => ?_, x1.keep, x1.live⟩ rs2
    rcases un2 a z with z | z
    · exact x1.own a z
    · exact (fr1 a z).symm
  rcases Bool.or_eq_true _ _ |>.mp hs with hs | hs
  · simp only [Bool.and_eq_true] at hs
    refine to_wS (ps_asg pe_w pg_w (no_swap hs.1) (no_stores hs.2) (by rw [ase_cons hn]; rfl)) ?_
    exact ee g ex tk r q main
  rcases Bool.or_eq_true _ _ |>.mp hs with hs | hs
  case inr =>
    obtain ⟨w1, w2, _⟩ := lcNo_ok g.scq hs
    refine to_wS (ps_asg pe_w pg_w (w1 _) (no_stores w2) (by rw [ase_cons hn]; rfl)) ?_
    exact ee g ex tk r q main
  · simp only [Bool.and_eq_true] at hs
    obtain ⟨hl, hc⟩ := hs
    obtain ⟨own, p2, s2, ifs, elt, he0⟩ := isCompE_ok hc
    have ex : erE (gh G h) X.N (.comp own p2 s2 ifs elt) sc x = true := by
      rcases he0 with rfl | rfl
      · exact ex
      · simpa only [erE] using ex
    · cases p with
      | tup ps => simp [lcOk] at hl
      | v i =>
        cases tg with
        | Name y py =>
          cases x with
          | ListComp elt' gs scope lp =>
            simp only [lcOk, Bool.and_eq_true, beq_iff_eq] at hl
            obtain ⟨l1, l2, l3⟩ := hl
            obtain ⟨elt2, tg2, iter2, ifs2, scope2, pos2, hx, b1, b2, b3, b4, b5, b6, b7, b8, b9⟩ := xnv_comp ex
            cases hx
            simp only [erP, Bool.and_eq_true, beq_iff_eq] at ep
            have ok : BlkOk X.N X.env.scope scope (ownP X.N own) := blkOk_by (by rw [g.scq]; exact b1)
            have hy : X.env.scope.names.lookup y = some .local := by rw [g.scq]; exact l1
            intro pins s0 I0
            have q3 : RQ (ev (gh G h) e env) (okP X.K cl fx F L H A σ (fun v H1 => gName i v σ H1 E.nx)) (exP X.K cl (gh G h).fl fx F L H A σ W) := by
              rw [gh_fl]
              refine stP.st q fun d e1 _ q1 => ?_
              intro v F1 A1 H1 f1 x1 rs1 rp1 t1 fr1
              obtain ⟨e2, he, q2⟩ := sr_of q1
              have hi : i < e1.length := by
                simp only [asgP, setS] at he
                by_cases hi : i < e1.length
                · exact hi
                · rw [List.getElem?_eq_none (by omega)] at he; simp at he
              have he2 : e2 = e1.set i (.me d) := by
                simp only [asgP, setS] at he
                split at he
                · cases he
                · cases he
                · cases he; rfl
                · cases he
              subst he2
              refine (show ∀ σ' F' A' H', Ext F H A F' H' A' → RS X.K cl fx F' L H' σ' _ A' → E.nx σ' H' from q2) _ F1 _ H1 ⟨x1.fro, x1.new, fun a z => ?_, x1.keep, x1.live⟩ (rs1.put rp1 t1 hi)
              rcases un_onA z with z | z
              · exact x1.own a z
              · exact (fr1 a z).symm
            have q3 : RQ (ev (gh G h) (.comp own p2 s2 ifs elt) env) (okP X.K cl fx F L H A σ (fun v H1 => gName i v σ H1 E.nx)) (exP X.K cl (gh G h).fl fx F L H A σ W) := by
              rcases he0 with rfl | rfl
              · exact q3
              · exact rq_fr q3
            obtain ⟨hot, k⟩ := comp_lc (sc_all s2) (tks_all ifs) (ev_all elt) g.toGood b3 b4 b6 b7 b8 b9 tk r (fun j hj => by rw [I0.len]; exact own_len g.toGood b1 b2 j hj) q3
            refine (ps_setLc (g.calm hot) g.nd ep.1 hy (sw_true I0.ok.kind hy (by rw [beq_iff_eq]; exact l2) l3) pi_w ok pg_gW pt_tW pe_eW (fold_ok b5)).run pins s0 σ H E I0 ?_
            rw [b2]
            exact k
          | _ => simp [lcOk] at hl
        | _ => simp [lcOk] at hl
end
end Wv

set_option Elab.async false
set_option linter.all false
set_option maxRecDepth 100000
/-! Wv20: items and fields set; raise; loops. -/
namespace Wv
open PySem PySem.Spec PyProof.Rows L2
section
variable {K : PySem.W.Frag} {cl : String → Addr} {F : Sets} {H : Hp}
theorem Rps.set : ∀ {ds : List D} {vs : List V} {f : Sets} {k : Nat} {d : D} {v : V} {fp : Sets}, Rps K cl F H ds vs f → Rp K cl F H d v fp → (∀ a, f a → fp a → False) → Rps K cl F H (ds.set k d) (vs.set k v) fun a => f a ∨ fp a
  | [], vs, f, k, d, v, fp, r, rp, s => by
    simp only [Rps] at r; subst r
    simp only [List.set_nil, Rps]
  | x :: xs, vs, f, 0, d, v, fp, r, rp, s => by
    simp only [Rps] at r
    obtain ⟨w, ws, f1, f2, rfl, r1, r2, s1, m1, m2⟩ := r
    exact Rps.cons rp r2 (fun a z u => s a (m2 a u) z) (fun a z => .inr z) fun a z => .inl (m2 a z)
  | x :: xs, vs, f, k + 1, d, v, fp, r, rp, s => by
    simp only [Rps] at r
    obtain ⟨w, ws, f1, f2, rfl, r1, r2, s1, m1, m2⟩ := r
    exact Rps.cons r1 (Rps.set (k := k) r2 rp fun a z u => s a (m2 a z) u) (fun a z u => u.elim (s1 a z) fun u => s a (m1 a z) u) (fun a z => .inl (m1 a z)) fun a z => z.imp (m2 a) id
/-- a field put -/
theorem putF_ok : ∀ {ns : List String} {ds : List D} {vs : List V} {fp f1 : Sets} {f : String} {d : D} {y : V}, Rps K cl F H ds vs fp → ns.length = ds.length → Rp K cl F H d y f1 → (∀ a, fp a → f1 a → False) →
    ∃ vs', putF (Str.ofString f) y ((ns.map Str.ofString).zip vs) = ((putFld ns ds f d).1.map Str.ofString).zip vs' ∧ Rps K cl F H (putFld ns ds f d).2 vs' (fun a => fp a ∨ f1 a) ∧ (putFld ns ds f d).1.length = (putFld ns ds f d).2.length
  | [], [], vs, fp, f1, f, d, y, r, l, rp, s => by
    simp only [Rps] at r; subst r
    exact ⟨[y], rfl, Rps.cons rp (show Rps K cl F H [] [] E0s by simp only [Rps]) (fun _ _ z => z) (fun a z => .inr z) fun _ z => z.elim, rfl⟩
  | [], _ :: _, vs, fp, f1, f, d, y, r, l, rp, s => by cases l
  | _ :: _, [], vs, fp, f1, f, d, y, r, l, rp, s => by cases l
  | n :: ns, e :: ds, vs, fp, f1, f, d, y, r, l, rp, s => by
    simp only [Rps] at r
    obtain ⟨w, ws, g1, g2, rfl, r1, r2, s1, m1, m2⟩ := r
    by_cases h : n = f
    · subst h
      refine ⟨y :: ws, ?_, ?_, ?_⟩
      · simp only [putFld, if_true, List.map_cons, List.zip_cons_cons, putF]
      · simp only [putFld, if_true]
        exact Rps.cons rp r2 (fun a z u => s a (m2 a u) z) (fun a z => .inr z) fun a z => .inl (m2 a z)
      · simp only [putFld, if_true]; simpa using l
    · obtain ⟨vs', h1, h2, h3⟩ := putF_ok (ns := ns) (f := f) r2 (by simpa using l) rp fun a z u => s a (m2 a z) u
      have hne : Str.ofString n ≠ Str.ofString f := fun z => h (ofString_inj z)
      refine ⟨w :: vs', ?_, ?_, ?_⟩
      · simp only [putFld, if_neg h, List.map_cons, List.zip_cons_cons, putF, if_neg hne, h1]
      · simp only [putFld, if_neg h]
        exact Rps.cons r1 h2 (fun a z u => u.elim (s1 a z) fun u => s a (m1 a z) u) (fun a z => .inl (m1 a z)) fun a z => z.imp (m2 a) id
      · simp only [putFld, if_neg h, List.length_cons, h3]
end
section
variable {G : Cfg} {cl : String → Addr}
theorem no_swap1 {e t : Expr} {l : Nat} {env : PySem.Env} (h : nlc e = true) : swapsWithSole [t] e l env = pure false := by
  cases e <;> first | rfl | cases h
theorem set_inv {e e' : Env} {x : Nat} {k d r : Wv.D} (h : updS e x [] (fun o => (setD o k d).map fun o' => (Wv.D.non, o')) = some (r, e')) :
    (∃ xs i j s', k = .int i ∧ Wv.ixN xs.length i = some j ∧ e' = e.set x s' ∧
    ((e[x]? = some (.me (.lst .own xs)) ∧ s' = .me (.lst .own (xs.set j d))) ∨ (e[x]? = some (.mp (.lst .own xs)) ∧ s' = .mp (.lst .own (xs.set j d))))) ∨
    ∃ ks vs i s', k = .int i ∧ d.stb = true ∧ ks.length < 16777216 ∧ e' = e.set x s' ∧
    ((e[x]? = some (.me (.dic .own ks vs)) ∧ s' = .me (.dic .own (Wv.putK ks vs i d).1 (Wv.putK ks vs i d).2)) ∨ (e[x]? = some (.mp (.dic .own ks vs)) ∧ s' = .mp (.dic .own (Wv.putK ks vs i d).1 (Wv.putK ks vs i d).2))) := by
  obtain ⟨o, o', s', h1, rfl, hx⟩ := updS_inv h
  simp only [Option.map_eq_some_iff, Prod.mk.injEq] at h1
  obtain ⟨o1, h1, _, rfl⟩ := h1
  unfold setD at h1
  split at h1
  · split at h1
    · rename_i hc
      simp only [Bool.and_eq_true, decide_eq_true_eq] at hc
      cases h1
      exact .inr ⟨_, _, _, s', rfl, hc.1.1, hc.1.2, rfl, hx⟩
    · cases h1
  · split at h1
    · rename_i hj; cases h1
      exact .inl ⟨_, _, _, s', rfl, hj, rfl, hx⟩
    · cases h1
  · cases h1
/-- o[i] = v of a list or a dict -/
def rSetLD : TSet := fun o i v H Q => rSetL o i v H Q ∨ rSetD o i v H Q
theorem set_ld {X : Cx} (hu : X.A.units + 1 < cLine) : PSet X rSetLD := by
  intro pins s σ H o i v ov iv u Q I ro ri rv h
  rcases h with h | h
  · exact set_list pins s σ H o i v ov iv u Q I ro ri rv h
  · exact set_dict hu pins s σ H o i v ov iv u Q I ro ri rv h
theorem dic_zip {K : PySem.W.Frag} {cl : String → Addr} {F : Sets} {H : Hp} {i : Int} {d : Wv.D} {v : V} (rd : Rp K cl F H d v E0s) : ∀ {is : List Int} {ds : List Wv.D} {kvs : List (Key × V)}, kvs.map (·.1) = is.map Sum.inl → Rps K cl F H ds (kvs.map (·.2)) E0s →
    Rps K cl F H (List.zipWith (fun k w => if isK i k then d else w) (is.map Wv.D.int) ds) ((kvs.map fun kv => if kv.1 = Sum.inl i then (kv.1, v) else kv).map (·.2)) E0s
  | [], ds, kvs, hk, r => by
    have : kvs = [] := by cases kvs with
      | nil => rfl
      | cons _ _ => cases hk
    subst this
    simp [Rps]
  | j :: is, ds, [], hk, r => by cases hk
  | j :: is, [], kv :: kvs, hk, r => by simp [Rps] at r
  | j :: is, e :: ds, kv :: kvs, hk, r => by
    simp only [List.map_cons, List.cons.injEq] at hk
    simp only [List.map_cons, Rps] at r
    obtain ⟨w, r0, f1, g1, h0, r1, r2, s1, m1, m2⟩ := r
    simp only [List.cons.injEq] at h0
    obtain ⟨rfl, rfl⟩ := h0
    simp only [List.map_cons, List.zipWith_cons_cons]
    have ih := dic_zip (i := i) rd hk.2 (r2.mono m2)
    have hj : isK i (.int j) = decide (kv.1 = Sum.inl i) := by
      rw [hk.1]
      simp only [isK, Sum.inl.injEq]
    rw [hj]
    by_cases h : kv.1 = Sum.inl i
    · simp only [h, decide_true, if_true]
      exact Rps.cons rd ih (fun _ z => z.elim) (fun _ z => z) fun _ z => z
    · simp only [h, decide_false, Bool.false_eq_true, if_false]
      exact Rps.cons (r1.mono m1) ih (fun _ z => z.elim) (fun _ z => z) fun _ z => z
theorem dic_put {K : PySem.W.Frag} {cl : String → Addr} {F : Sets} {H : Hp} {i : Int} {d : Wv.D} {v : V} (rd : Rp K cl F H d v E0s) {is : List Int} {ds : List Wv.D} {kvs : List (Key × V)} (hk : kvs.map (·.1) = is.map Sum.inl) (r : Rps K cl F H ds (kvs.map (·.2)) E0s) :
    ∃ is' : List Int, (Wv.putK (is.map Wv.D.int) ds i d).1 = is'.map Wv.D.int ∧ (L2.putK kvs (Sum.inl i) v).map (·.1) = is'.map Sum.inl ∧ Rps K cl F H (Wv.putK (is.map Wv.D.int) ds i d).2 ((L2.putK kvs (Sum.inl i) v).map (·.2)) E0s := by
  have h1 := isK_any (i := i) hk
  have h2 := valV_any (kvs := kvs) (k := (Sum.inl i : Key))
  unfold Wv.putK L2.putK
  rw [h1, h2]
  cases hc : (valV kvs (Sum.inl i)).isSome with
  | true =>
    simp only [if_true]
    refine ⟨is, rfl, ?_, dic_zip rd hk r⟩
    rw [← hk, List.map_map]
    refine List.map_congr_left fun kv _ => ?_
    simp only [Function.comp]
    split <;> rfl
  | false =>
    simp only [Bool.false_eq_true, if_false]
    refine ⟨is ++ [i], by simp, by simp [hk], ?_⟩
    rw [List.map_append]
    exact Rps.append r (Rps.cons rd (show Rps K cl F H [] [] E0s by simp only [Rps]) (fun _ z => z.elim) (fun _ z => z) fun _ z => z) (fun _ z => z.elim) (fun _ z => z) fun _ z => z
theorem st_setI {h : Bool} {x : Nat} {path : List PEl} {i : Qx} {e : Ex} : ST G cl h (.setI x path i e) := by
  intro X fx sc st g er W tk F L H σ env A r E q
  simp only [erT] at er
  split at er
  case h_2 => cases er
  rename_i o j y hst
  obtain ⟨p1, sp, rfl⟩ := asSub_ok hst
  cases path with
  | cons p ps => simp at er
  | nil =>
    simp only [Bool.and_eq_true] at er
    obtain ⟨⟨⟨_, hnj⟩, eo, ej⟩, hl, ey⟩ := er
    obtain ⟨n, q0, rfl, n1, n2, n3⟩ := inv_var eo
    obtain ⟨k1, k2, k3⟩ := okName_ok n3
    simp only [exec, List.isEmpty_nil, Bool.not_true, Bool.false_and, Bool.false_eq_true, if_false] at q
    have hu := g.un
    refine to_wS (ps_asg pe_w (pg_sub pe_w pe_w (set_ld (by omega)) (fun v => by cases j <;> first | rfl | cases hnj)) (no_swap1 hl) (no_stores rfl)) ?_
    refine ee g ey tk r q fun d e1 q1 => ?_
    intro v F1 A1 H1 f1 x1 rs1 rp1 t1 fr1
    split at q1
    · rename_i p k hp hk
      simp only [pels, Option.some.injEq] at hp
      subst hp
      split at q1
      · rename_i r0 e2 hu
        rcases set_inv hu with ⟨xs, ii, jj, s', rfl, hj, rfl, hx⟩ | ⟨ks, vs, ii, s', rfl, hst, hlen, rfl, hx⟩
        · obtain ⟨a0, vs0, f0, v0, _⟩ := rs1.own_lst (hx.imp (·.1) (·.1))
          refine to_wE (pe_var n1 (visB_ok g.scq n2) k1 k2) ⟨_, v0, ?_⟩
          refine qv_ok g.toGood i j ej rs1 hk fun iv F2 H2 f2 g2 rp2 _ => ?_
          have rs2 := rs1.gr g2
          obtain ⟨a, vs, f, e3, e4, e5, e6, e7, e8⟩ := rs2.own_lst (hx.imp (·.1) (·.1))
          rw [v0] at e3; cases e3
          simp only [Rp] at rp2
          subst rp2
          have hlen := e8.length
          refine .inl ⟨a0, vs, ii, jj, rfl, rfl, e4, by rw [← hlen]; exact hj, ?_⟩
          obtain ⟨o1, o2, o3⟩ := rs2.own x a0 e5
          have t2 := t1.ext g2.ext (A' := A1)
          have nf1 : ¬ f1 a0 := fun z => (t2 a0 z).2.2.1 ⟨x, e5⟩
          have kp : ∀ {S : Sets}, ¬ S a0 → Kp F2 H2 S F2 (upd H2 a0 (.lst (vs.set jj v))) := fun hS => Kp.at1 o1 hS o3
          have rp' : Rp X.K cl F2 (upd H2 a0 (.lst (vs.set jj v))) (.lst .own (xs.set jj d)) (.ref a0) (fun b => A1 x b ∨ f1 b) := by
            simp only [Rp]
            refine ⟨a0, vs.set jj v, fun b => f b ∨ f1 b, rfl, upd_same, .inl e5, fun z => z.elim e6 nf1, fun b z => z.imp (e7 b) id, ?_⟩
            exact Rps.set (e8.kp (kp e6)) ((rp1.kp g2.kp).kp (kp nf1)) fun b z u => (t2 b u).2.2.1 ⟨x, e7 b z⟩
          have rs3 := rs2.node hx e5 v0 (show Mut (some (.lst (vs.set jj v))) from trivial) t2 (fun b z => z) rp'
          have x3 := (x1.trans g2.ext).node (o := .lst (vs.set jj v)) e5 o3 (fp := f1) (fp' := fun b => A1 x b ∨ f1 b) fr1 fun b z => z
          exact (show ∀ σ' F' A' H', Ext F H A F' H' A' → RS X.K cl fx F' L H' σ' _ A' → E.nx σ' H' from q1) σ F2 _ _ x3 rs3
        · obtain ⟨a0, kv0, is0, v0, _⟩ := rs1.own_dic (hx.imp (·.1) (·.1))
          refine to_wE (pe_var n1 (visB_ok g.scq n2) k1 k2) ⟨_, v0, ?_⟩
          refine qv_ok g.toGood i j ej rs1 hk fun iv F2 H2 f2 g2 rp2 _ => ?_
          have rs2 := rs1.gr g2
          obtain ⟨a, kvs, is, e3, e4, e5, rfl, e7, e8⟩ := rs2.own_dic (hx.imp (·.1) (·.1))
          rw [v0] at e3; cases e3
          simp only [Rp] at rp2
          subst rp2
          have hl := congrArg List.length e7
          simp only [List.length_map] at hl hlen
          have hsl : sizeLine = 16777216 := by decide
          refine .inr ⟨a0, _, rfl, DPut.k (k := Sum.inl ii) e4 (by omega), ?_⟩
          obtain ⟨o1, o2, o3⟩ := rs2.own x a0 e5
          have kp : Kp F2 H2 E0s F2 (upd H2 a0 (.dK (L2.putK kvs (Sum.inl ii) v))) := Kp.at1 o1 (fun z => z) o3
          obtain ⟨is', p1, p2, p3⟩ := dic_put ((rp1.kp g2.kp).stb hst (g := E0s)) e7 e8
          have rp' : Rp X.K cl F2 (upd H2 a0 (.dK (L2.putK kvs (Sum.inl ii) v))) (.dic .own (Wv.putK (is.map Wv.D.int) vs ii d).1 (Wv.putK (is.map Wv.D.int) vs ii d).2) (.ref a0) (A1 x) := by
            simp only [Rp]
            exact ⟨a0, _, is', rfl, upd_same, e5, p1, p2, p3.kp kp⟩
          have rs3 := rs2.node hx e5 v0 (show Mut (some (.dK (L2.putK kvs (Sum.inl ii) v))) from trivial) (fp := E0s) Tp.e0 (fun b z => .inl z) rp'
          have x3 := (x1.trans g2.ext).node (o := .dK (L2.putK kvs (Sum.inl ii) v)) e5 o3 (fp := E0s) (fp' := A1 x) Fr.e0 fun b z => .inl z
          exact (show ∀ σ' F' A' H', Ext F H A F' H' A' → RS X.K cl fx F' L H' σ' _ A' → E.nx σ' H' from q1) σ F2 _ _ x3 rs3
      · exact q1.elim
    · exact q1.elim
end
end Wv

set_option Elab.async false
set_option linter.all false
set_option maxRecDepth 100000
/-! Wv21: loops. -/
namespace Wv
open PySem PySem.Spec PyProof.Rows L2
theorem Good.fx {G : Cfg} {cl : String → Addr} {fx fx' : Fx} {sc : Scope} {X : Cx} (g : Good G cl fx sc X) (hx : fx'.x = fx.x) : Good G cl fx' sc X where
  nd := g.nd
  scq := g.scq
  un := g.un
  kf := g.kf
  calm := g.calm
  fns := g.fns
  excs := g.excs
  xno := fun h i a c dx z => g.xno h i a c dx (by rw [← hx]; exact z)
  xat := fun I z => g.xat I (by rw [← hx]; exact z)
  xki := fun I z h => g.xki I (by rw [← hx]; exact z) h
theorem GoodS.fx {G : Cfg} {cl : String → Addr} {fx fx' : Fx} {sc : Scope} {X : Cx} (g : GoodS G cl fx sc X) (hx : fx'.x = fx.x) : GoodS G cl fx' sc X := { g.toGood.fx hx with po := g.po, lo := g.lo, sk := g.sk, fr := g.fr }
theorem noLk_ok {env : Env} : ∀ {is : List Nat}, noLk env is = true → ∀ i ∈ is, ¬ ∃ d, env[i]? = some (.lk d)
  | [], _, _, h => by cases h
  | j :: js, h, i, hi => by
    simp only [noLk, Bool.and_eq_true] at h
    rcases List.mem_cons.mp hi with rfl | hi
    · rintro ⟨d, e⟩
      rw [e] at h; exact absurd h.1 (by simp)
    · exact noLk_ok h.2 i hi
section
variable {G : Cfg} {cl : String → Addr}
theorem st_while (hG : G.hot = false) {h : Bool} {c : Ex} {b : List St} (hb : STs G cl h b) : ST G cl h (.whil c b) := by
  intro X fx sc st g er W tk F L H σ env A r E q
  obtain ⟨x, s, p, rfl⟩ : ∃ x s p, st = .While x s [] p := by
    cases st with
    | While x s o p =>
      cases o with
      | nil => exact ⟨_, _, _, rfl⟩
      | cons a b => simp [erT] at er
    | _ => simp [erT] at er
  simp only [erT, Bool.and_eq_true] at er
  simp only [exec] at q
  cases h with
  | true => simp only [if_true] at q; exact q.elim
  | false =>
    simp only [Bool.false_eq_true, if_false] at q
    refine to_wS (ps_while (g.po hG) pt_w pss_w) ?_
    refine ⟨fun m σ' H' => ∃ F' A' e, Ext F H A F' H' A' ∧ RS X.K cl fx F' L H' σ' e A' ∧ stP X.K cl G.fl fx F' L H' A' W E (whileL (te G c) (execs G false b) m e), ⟨G.wf, F, A, env, Ext.refl, r, q⟩, ?_⟩
    rintro m σ1 H1 ⟨F1, A1, e1, x1, r1, q1⟩
    cases m with
    | zero => simp only [whileL] at q1; exact q1.elim
    | succ m =>
      simp only [whileL] at q1
      refine te_all c X fx sc x g.toGood er.1 W tk F1 L H1 σ1 e1 A1 r1 _ ?_
      refine stP.st (fl := G.fl) q1 fun k e2 _ q2 => ?_
      intro F2 A2 H2 x2 rs2
      cases k with
      | false => exact iteF (q2 σ1 F2 A2 H2 x2 rs2)
      | true =>
        refine iteT ⟨_, fun σ' H' w => ⟨m, Nat.lt_succ_self m, w⟩, ?_⟩
        refine hb X fx sc s g er.2 W tk F2 L H2 σ1 e2 A2 rs2 _ ?_
        simp only [if_true] at q2
        have q3 := stP.ext q2 x2
        cases hr : execs G false b e2 with
        | nx e3 => rw [hr] at q3; exact fun σ' F' A' H' y rs => ⟨F', A', e3, (x1.trans x2).trans y, rs, stP.ext q3 y⟩
        | ct e3 => rw [hr] at q3; exact fun σ' F' A' H' y rs => ⟨F', A', e3, (x1.trans x2).trans y, rs, stP.ext q3 y⟩
        | bk e3 => rw [hr] at q3; exact q3
        | rt d e3 => rw [hr] at q3; exact q3
        | ex c' ds e3 => rw [hr] at q3; exact q3
        | bad => rw [hr] at q3; exact q3
theorem st_for (hG : G.hot = false) {h : Bool} {p : Pat} {s : Src} {b : List St} (hb : STs G cl h b) : ST G cl h (.forS p s b) := by
  intro X fx sc st g er W tk F L H σ env A r E q
  obtain ⟨tg, x, sts, pp, rfl⟩ : ∃ tg x sts pp, st = .For tg x sts [] pp := by
    cases st with
    | For tg x sts o pp =>
      cases o with
      | nil => exact ⟨_, _, _, _, rfl⟩
      | cons a b => simp [erT] at er
    | _ => simp [erT] at er
  simp only [erT, Bool.and_eq_true] at er
  obtain ⟨⟨hns, ep⟩, es, eb⟩ := er
  simp only [exec] at q
  cases h with
  | true => simp only [if_true] at q; exact q.elim
  | false =>
    simp only [Bool.false_eq_true, if_false] at q
    refine to_wS (ps_for (g.po hG) (g.calm hG) pi_w pg_w pss_w (fold_ok hns)) ?_
    refine sc_all s X fx sc tg x g.toGood es W tk F L H σ env A r _ ?_
    refine stP.st (fl := G.fl) q fun pr e0 _ q1 => ?_
    obtain ⟨is, rs⟩ := pr
    dsimp only at q1
    intro J F1 A1 H1 x1 rs1 walk
    split at q1
    · exact q1.elim
    · rename_i hnl
      have hnl := noLk_ok (by simpa using hnl : noLk e0 (patV p) = true)
      generalize hbody : (fun (x : Wv.D) (e : Env) => match bindP p x e with
        | some e => execs G false b e
        | none => SR.bad) = body at q1
      have rl := rs1.lock rs (patV p)
      have hfv : ∀ j ∈ patV p, ∀ a, lockL L A1 rs a → (lockFx fx L A1 σ e0 rs (patV p)).v j a := fun j hj a z => by
        simp only [lockFx]
        rw [if_pos (.inr ⟨hj, hnl j hj⟩)]
        exact z
      have dis : ∀ a, F1 a ∨ lockL L A1 rs a → ¬ Un (offs A1 rs) a := fun a z u => z.elim (fun z => rl.fnd a z u) fun z => by
        obtain ⟨i, u⟩ := u
        exact (rl.own i a u).2.1 z
      have close : ∀ {σ' : L2.St} {Fn : Sets} {An : Nat → Sets} {Hn : Hp} {e : Env}, Ext F1 H1 (offs A1 rs) Fn Hn An → RS X.K cl (lockFx fx L A1 σ e0 rs (patV p)) Fn (lockL L A1 rs) Hn σ' e An →
          ∃ A6, RS X.K cl fx Fn L Hn σ' (Wv.unlock e0 (clearP e (patV p)) rs) A6 ∧ Ext F H A Fn Hn A6 ∧ ∀ a, Un A6 a → Un An a ∨ ∃ j ∈ rs, A1 j a := fun x rn => by
        obtain ⟨A6, r6, x6, u6⟩ := rs1.unlock rn x
        exact ⟨A6, r6, x1.trans x6, u6⟩
      refine ⟨fun i m σ' H' => m = is.length - i ∧ i ≤ is.length ∧ ∃ Fn An e, Ext F1 H1 (offs A1 rs) Fn H' An ∧ RS X.K cl (lockFx fx L A1 σ e0 rs (patV p)) Fn (lockL L A1 rs) H' σ' e An ∧
        stP X.K cl G.fl fx F L H A W E ((forL body (is.drop i) e).mapE fun e => Wv.unlock e0 (clearP e (patV p)) rs), ⟨is.length, by simp, Nat.zero_le _, F1, _, _, Ext.refl, rl, q1⟩, ?_⟩
      rintro i m σn Hn ⟨rfl, hi, Fn, An, e, xn, rn, qn⟩
      obtain ⟨hstop, wk⟩ := walk Fn Hn (xn.kp dis)
      by_cases hlt : i < is.length
      · have hd : is[i]? = some is[i] := List.getElem?_eq_getElem hlt
        rw [List.drop_eq_getElem_cons hlt] at qn
        obtain ⟨go, yl⟩ := wk i _ hd
        refine .inr ⟨go, _, fun σ' H' w => ⟨is.length - (i + 1), by omega, rfl, hlt, w⟩, fun xv H2 y => ?_⟩
        obtain ⟨g2, f, rpx, hf⟩ := yl xv H2 y
        simp only [forL] at qn
        rw [← hbody] at qn
        simp only at qn
        rw [hbody] at qn
        cases hbd : bindP p is[i] e with
        | none => rw [hbd] at qn; exact qn.elim
        | some e2 =>
          rw [hbd] at qn
          simp only at qn
          refine bind_ok g.nd (g.calm hG) g.lo p tg ep (rn.gr g2) hbd rpx (fun j hj a z => hfv j hj a (hf a z)) fun σ2 Ab rsb unb _ => ?_
          have xb : Ext F1 H1 (offs A1 rs) Fn H2 Ab := (xn.trans g2.ext).trans ⟨fun _ z => z, fun _ z => .inl z, fun a z => .inl (unb a z), fun _ _ e _ => e, fun _ e => e⟩
          refine hb X (lockFx fx L A1 σ e0 rs (patV p)) sc sts (g.fx rfl) eb W tk Fn (lockL L A1 rs) H2 σ2 e2 Ab rsb _ ?_
          have fin : ∀ {d : Wv.D} {e3 : Env} {v : V} {σ' : L2.St} {F' : Sets} {A' : Nat → Sets} {H' : Hp} {fp : Sets}, stP X.K cl G.fl fx F L H A W E (.rt d (Wv.unlock e0 (clearP e3 (patV p)) rs)) → Ext Fn H2 Ab F' H' A' → RS X.K cl (lockFx fx L A1 σ e0 rs (patV p)) F' (lockL L A1 rs) H' σ' e3 A' → Rp X.K cl F' H' d v fp → Tp F' (lockL L A1 rs) H' A' fp → Fr H2 Ab fp → E.rt v H' := by
            intro d e3 v σ' F' A' H' fp q3 y rs3 rp tp fr
            obtain ⟨A6, r6, x6, u6⟩ := close (xb.trans y) rs3
            refine q3 v σ' F' A6 H' fp x6 r6 rp (fun a z => ?_) ?_
            · obtain ⟨t1, t2, t3, t4⟩ := tp a z
              exact ⟨t1, fun u => t2 (.inl u), fun u => (u6 a u).elim t3 fun ⟨j, hj, u⟩ => t2 (.inr ⟨j, hj, u⟩), t4⟩
            · have f1 : Fr H1 (offs A1 rs) fp := fr.ext xb
              exact (show Fr H1 A1 fp from fun a z => (f1 a z).imp id fun ⟨j, u⟩ => ⟨j, u.2⟩).ext x1
          cases hr : execs G false b e2 with
          | nx e3 => rw [hr] at qn; exact fun σ' F' A' H' y rs => ⟨F', A', e3, xb.trans y, rs, qn⟩
          | ct e3 => rw [hr] at qn; exact fun σ' F' A' H' y rs => ⟨F', A', e3, xb.trans y, rs, qn⟩
          | bk e3 =>
            rw [hr] at qn
            intro σ' F' A' H' y rs3
            obtain ⟨A6, r6, x6, _⟩ := close (xb.trans y) rs3
            exact (show ∀ σ' F' A' H', Ext F H A F' H' A' → RS X.K cl fx F' L H' σ' _ A' → E.nx σ' H' from qn) σ' F' A6 H' x6 r6
          | rt d e3 =>
            rw [hr] at qn
            intro v σ' F' A' H' fp y rs3 rp tp fr
            exact fin qn y rs3 rp tp fr
          | ex c' ds e3 =>
            rw [hr] at qn
            intro σ' F' A' H' dx vs y rs3 h1 h2 h3
            obtain ⟨A6, r6, x6, _⟩ := close (xb.trans y) rs3
            exact (show ∀ σ' F' A' H' dx vs, Ext F H A F' H' A' → RS X.K cl fx F' L H' σ' _ A' → _ → _ → _ → W _ _ σ' H' from qn) σ' F' A6 H' dx vs x6 r6 h1 h2 h3
          | bad => rw [hr] at qn; exact qn
      · have ei : i = is.length := by omega
        subst ei
        refine .inl ⟨hstop, ?_⟩
        rw [List.drop_length] at qn
        obtain ⟨A6, r6, x6, _⟩ := close xn rn
        exact (show ∀ σ' F' A' H', Ext F H A F' H' A' → RS X.K cl fx F' L H' σ' _ A' → E.nx σ' H' from qn) σn Fn A6 Hn x6 r6
end
end Wv

set_option Elab.async false
set_option linter.all false
set_option maxRecDepth 100000
/-! Wv22: fields set; raise. -/
namespace Wv
open PySem PySem.Spec PyProof.Rows L2
section
variable {G : Cfg} {cl : String → Addr}
theorem no_swapA {e o : Expr} {n : Str} {p : Pos} {l : Nat} {env : PySem.Env} (h : nlc e = true) : swapsWith e (some (.Attribute o n p)) l env = pure false := by
  cases e <;> first | rfl | cases h
theorem attr_inv {e e' : Env} {x : Nat} {f : String} {d r : Wv.D} (h : updS e x [] (fun o => match o with
      | .obj .own c ns vs => if (G.fl c).contains f && (G.pl.contains c && decide (ns.length < 1000)) then let q := putFld ns vs f d; some (.non, .obj .own c q.1 q.2) else none
      | _ => none) = some (r, e')) : ∃ c ns vs s', (G.fl c).contains f = true ∧ c ∈ G.pl ∧ ns.length < 1000 ∧ e' = e.set x s' ∧
    ((e[x]? = some (.me (.obj .own c ns vs)) ∧ s' = .me (.obj .own c (putFld ns vs f d).1 (putFld ns vs f d).2)) ∨ (e[x]? = some (.mp (.obj .own c ns vs)) ∧ s' = .mp (.obj .own c (putFld ns vs f d).1 (putFld ns vs f d).2))) := by
  unfold updS at h
  split at h
  · rename_i o ho
    simp only [updAt, Option.map_eq_some_iff] at h
    obtain ⟨p, h1, h2⟩ := h
    split at h1
    · split at h1
      · rename_i hc
        simp only [Bool.and_eq_true, decide_eq_true_eq] at hc
        cases h1; cases h2
        exact ⟨_, _, _, _, hc.1, by simpa using hc.2.1, hc.2.2, rfl, .inl ⟨ho, rfl⟩⟩
      · cases h1
    · cases h1
  · rename_i o ho
    simp only [updAt, Option.map_eq_some_iff] at h
    obtain ⟨p, h1, h2⟩ := h
    split at h1
    · split at h1
      · rename_i hc
        simp only [Bool.and_eq_true, decide_eq_true_eq] at hc
        cases h1; cases h2
        exact ⟨_, _, _, _, hc.1, by simpa using hc.2.1, hc.2.2, rfl, .inr ⟨ho, rfl⟩⟩
      · cases h1
    · cases h1
  · cases h
theorem RS.own_obj {K : PySem.W.Frag} {fx : Fx} {F L : Sets} {H : Hp} {σ : L2.St} {env : Env} {A : Nat → Sets} (r : RS K cl fx F L H σ env A) {x : Nat} {c : String} {ns : List String} {ds : List Wv.D} (hx : env[x]? = some (.me (.obj .own c ns ds)) ∨ env[x]? = some (.mp (.obj .own c ns ds))) :
    ∃ a dx vs f, σ[x]? = some (some (.ref a)) ∧ H a = some (.ins (cl c) dx ((ns.map Str.ofString).zip vs)) ∧ ns.length = ds.length ∧ A x a ∧ ¬ f a ∧ (∀ b, f b → A x b) ∧ Rps K cl F H ds vs f := by
  have key : ∀ {v}, σ[x]? = some (some v) → Rp K cl F H (.obj .own c ns ds) v (A x) → ∃ a dx vs f, σ[x]? = some (some (.ref a)) ∧ H a = some (.ins (cl c) dx ((ns.map Str.ofString).zip vs)) ∧ ns.length = ds.length ∧ A x a ∧ ¬ f a ∧ (∀ b, f b → A x b) ∧ Rps K cl F H ds vs f := fun {v} e1 e2 => by
    simp only [Rp] at e2
    obtain ⟨a, dx, vs, f, rfl, h1, h2, h3, h4, h5, h6⟩ := e2
    exact ⟨a, dx, vs, f, e1, h1, h2, h3, h4, h5, h6⟩
  rcases hx with hx | hx
  · obtain ⟨v, e1, e2⟩ := r.me x _ hx
    exact key e1 e2
  · obtain ⟨v, e1, e2, _⟩ := r.mp x _ hx
    exact key e1 e2
theorem st_setA {h : Bool} {x : Nat} {f : String} {e : Ex} : ST G cl h (.setA x f e) := by
  intro X fx sc st g er W tk F L H σ env A r E q
  simp only [erT] at er
  split at er
  case h_2 => cases er
  rename_i o n y hst
  obtain ⟨p1, sp, rfl⟩ := asAtt_ok hst
  simp only [Bool.and_eq_true, beq_iff_eq] at er
  obtain ⟨⟨hfn, eo⟩, hl, ey⟩ := er
  subst hfn
  obtain ⟨n, q0, rfl, n1, n2, n3⟩ := inv_var eo
  obtain ⟨k1, k2, k3⟩ := okName_ok n3
  simp only [exec] at q
  refine to_wS (ps_fld pe_w pe_w (no_swapA hl)) ?_
  refine ee g ey tk r q fun d e1 q1 => ?_
  intro v F1 A1 H1 f1 x1 rs1 rp1 t1 fr1
  split at q1
  · rename_i r0 e2 hu
    obtain ⟨c, ns, ds, s', hf, hc, hz, rfl, hx⟩ := attr_inv hu
    obtain ⟨a, dx, vs, f0, e3, e4, e5, e6, e7, e8, e9⟩ := rs1.own_obj (hx.imp (·.1) (·.1))
    refine to_wE (pe_var n1 (visB_ok g.scq n2) k1 k2) ⟨_, e3, ?_⟩
    obtain ⟨o1, o2, o3⟩ := rs1.own x a e6
    have nf1 : ¬ f1 a := fun z => (t1 a z).2.2.1 ⟨x, e6⟩
    have hsep : ∀ b, f0 b → f1 b → False := fun b z u => (t1 b u).2.2.1 ⟨x, e8 b z⟩
    have hlen : ((ns.map Str.ofString).zip vs).length < 1000 := by
      rw [List.length_zip, List.length_map]; omega
    have hgpl : c ∈ (gh G h).pl := by cases h <;> exact hc
    have hgfl : ((gh G h).fl c).contains f = true := by rw [gh_fl]; exact hf
    refine ⟨a, cl c, dx, _, rfl, e4, (g.kf.obj c hgpl).1, g.kf.noat c f hgfl hgpl, hlen, ?_⟩
    have kp : ∀ {S : Sets} {ob : HO}, ¬ S a → Kp F1 H1 S F1 (upd H1 a ob) := fun hS => Kp.at1 o1 hS o3
    obtain ⟨vs', w1, _, _⟩ := putF_ok (f := f) e9 e5 rp1 hsep
    rw [w1]
    have w4 := putF_ok (f := f) (e9.kp (kp (ob := .ins (cl c) dx (((putFld ns ds f d).1.map Str.ofString).zip vs')) e7)) e5 (rp1.kp (kp nf1)) hsep
    obtain ⟨vs2, y1, y2, y3⟩ := w4
    rw [w1] at y1
    have rp' : Rp X.K cl F1 (upd H1 a (.ins (cl c) dx (((putFld ns ds f d).1.map Str.ofString).zip vs'))) (.obj .own c (putFld ns ds f d).1 (putFld ns ds f d).2) (.ref a) (fun b => A1 x b ∨ f1 b) := by
      simp only [Rp]
      exact ⟨a, dx, vs2, fun b => f0 b ∨ f1 b, rfl, by rw [upd_same, y1], y3, .inl e6, fun z => z.elim e7 nf1, fun b z => z.imp (e8 b) id, y2⟩
    have rs3 := rs1.node hx e6 e3 (show Mut (some (.ins (cl c) dx (((putFld ns ds f d).1.map Str.ofString).zip vs'))) from trivial) t1 (fun b z => z) rp'
    have x3 := x1.node (o := .ins (cl c) dx (((putFld ns ds f d).1.map Str.ofString).zip vs')) e6 o3 (fp := f1) (fp' := fun b => A1 x b ∨ f1 b) fr1 fun b z => z
    exact (show ∀ σ' F' A' H', Ext F H A F' H' A' → RS X.K cl fx F' L H' σ' _ A' → E.nx σ' H' from q1) σ F1 _ _ x3 rs3
  · exact q1.elim
section
variable {X : Cx}
theorem ip_of {op : Operator} {f : Int → Int → Int} (k : ∀ {A : Around} {E : Value → Shared → Prop} {s : Shared} {a b : Int} {t u : Tok} {Q : Value → Shared → Prop}, Q (.int (f a b) s.toks) { s with toks := s.toks + 1 } → wpAny (model X.prog X.w) A (inplaceOp op (.int a t) (.int b u)) Q E s) : PIp X op (ipI f) := by
  intro pins s σ H x y v u Q I r1 r2 h
  obtain ⟨i, j, rfl, rfl, q⟩ := h
  obtain ⟨t, rfl⟩ := r1
  obtain ⟨t', rfl⟩ := r2
  exact k ⟨.int _, H, I.tok _, ⟨_, rfl⟩, q⟩
theorem ip_aug {op : Operator} (h : okAug op = true) : ∃ f, PIp X op (ipI f) ∧ ∀ i j, arith op i j = some (f i j) := by
  simp only [okAug, Bool.or_eq_true, beq_iff_eq] at h
  rcases h with (((rfl | rfl) | rfl) | rfl) | rfl
  · exact ⟨_, ip_add, fun _ _ => rfl⟩
  · exact ⟨_, ip_sub, fun _ _ => rfl⟩
  · exact ⟨_, ip_of ior_int, fun _ _ => rfl⟩
  · exact ⟨_, ip_of iand_int, fun _ _ => rfl⟩
  · exact ⟨_, ip_of ixor_int, fun _ _ => rfl⟩
end
theorem st_augV {h : Bool} {x : Nat} {op : Operator} {e : Ex} : ST G cl h (.augV x op e) := by
  intro X fx sc st g er W tk F L H σ env A r E q
  obtain ⟨n, p1, o, y, sp, rfl⟩ : ∃ n p1 o y sp, st = .AugAssign (.Name n p1) o y sp := by
    cases st with
    | AugAssign t o y sp =>
      cases t with
      | Name n p1 => exact ⟨_, _, _, _, _, rfl⟩
      | _ => simp [erT] at er
    | _ => simp [erT] at er
  simp only [erT, Bool.and_eq_true, beq_iff_eq] at er
  obtain ⟨⟨rfl, hop⟩, ⟨hN, hlo⟩, ey⟩ := er
  obtain ⟨l1, l2⟩ := g.lo n hlo
  simp only [exec] at q
  split at q
  · rename_i i hi
    obtain ⟨v0, e0, rp0⟩ := r.me x _ hi
    simp only [Rp] at rp0
    subst rp0
    have key : ∀ {d : Wv.D} {e1 : Env} {f : Int → Int → Int}, (∀ d r, binD op (.int i) d = some r → ∃ j, d = .int j ∧ r = .int (f i j)) → stP X.K cl G.fl fx F L H A W E (match binD op (.int i) d with
        | some r => SR.of (setS e1 x r)
        | none => SR.bad) → okP X.K cl fx F L H A σ (fun yv H1 => ipI f (.int i) yv H1 fun z H2 => E.nx (σ.set x (some z)) H2) d e1 := by
      intro d e1 f hf q1 v F1 A1 H1 f1 x1 rs1 rp1 t1 fr1
      cases hb : binD op (.int i) d with
      | none => rw [hb] at q1; exact q1.elim
      | some rr =>
        rw [hb] at q1
        obtain ⟨j, rfl, rfl⟩ := hf d rr hb
        obtain ⟨e2, he, q2⟩ := sr_of q1
        simp only [Rp] at rp1
        have hlt : x < e1.length := by
          simp only [setS] at he
          by_cases hi : x < e1.length
          · exact hi
          · rw [List.getElem?_eq_none (by omega)] at he; simp at he
        have he2 : e2 = e1.set x (.me (.int (f i j))) := by
          simp only [setS] at he
          split at he
          · cases he
          · cases he
          · cases he; rfl
          · cases he
        subst he2
        refine ⟨i, j, rfl, rp1, ?_⟩
        refine (show ∀ σ' F' A' H', Ext F H A F' H' A' → RS X.K cl fx F' L H' σ' _ A' → E.nx σ' H' from q2) _ F1 _ H1 ⟨x1.fro, x1.new, fun a z => ?_, x1.keep, x1.live⟩ (rs1.put (fp := E0s) (v := .int (f i j)) (by simp only [Rp]) Tp.e0 hlt)
        rcases un_onA z with z | z
        · exact x1.own a z
        · exact z.elim
    obtain ⟨f, ip, ha⟩ := ip_aug (X := X) hop
    refine to_wS (ps_aug g.nd hN l1 pe_w ip l2) ⟨_, e0, ee g ey tk r q fun d e1 q1 => key (f := f) (fun d r hb => ?_) q1⟩
    have hint : ∃ j, d = .int j := by
      simp only [okAug, Bool.or_eq_true, beq_iff_eq] at hop
      rcases hop with (((rfl | rfl) | rfl) | rfl) | rfl <;> cases d <;> first | exact ⟨_, rfl⟩ | (simp [binD, arith] at hb; done)
    obtain ⟨j, rfl⟩ := hint
    refine ⟨j, rfl, ?_⟩
    have hb2 : (arith op i j).map Wv.D.int = some r := hb
    rw [ha] at hb2
    simpa using hb2.symm
  · exact q.elim
end
end Wv

set_option Elab.async false
set_option linter.all false
set_option maxRecDepth 100000
/-! Wv22b: an item changed by an operator. -/
namespace Wv
open PySem PySem.Spec PyProof.Rows L2
section
variable {X : Cx}
theorem get_listV : PGet X (rIxL X.K) := by
  intro pins s σ H x y v u Q I rx ry h
  obtain ⟨p, xs, i, z, rfl, rfl, hq, he, q⟩ := h
  cases rx
  obtain ⟨t, rfl⟩ := ry
  obtain ⟨its, r, pl, hz⟩ := I.list hq
  obtain ⟨j, h1, h2, h3, h4, h5⟩ := atI_get he
  obtain ⟨c, ec, rc⟩ := r.get h2
  have hl := r.length
  have hn := line63
  have fin : EP X pins σ Q c s := ⟨z, H, I, rc, q⟩
  by_cases h0 : 0 ≤ i
  · refine wpAny_getItem_list pl.isList h0 (by omega) (x := c) ?_ fin
    have hj : i.toNat = j := Option.some.inj ((seqIndex_of h0 h5).symm.trans h1)
    rw [hj]; simpa using ec
  · refine wpAny_getItem_list_neg pl.isList (by omega) (by rw [List.size_toArray]; omega) (by omega) (x := c) ?_ fin
    have hj : (i + (its.toArray.size : Int)).toNat = j := by
      have e := (seqIndex_neg (by omega) h4).symm.trans h1
      rw [List.size_toArray, ← hl]
      exact Option.some.inj e
    rw [hj]; simpa using ec
end
section
variable {G : Cfg} {cl : String → Addr}
theorem aug_int {op : Operator} {v d r : Wv.D} (h : binD op v d = some r) (hr : r.isI = true) (ho : okAug op = true) : ∃ i j, v = .int i ∧ d = .int j := by
  cases r <;> simp [D.isI] at hr
  unfold binD at h
  split at h
  · exact ⟨_, _, rfl, rfl⟩
  all_goals (first | (split at h <;> cases h) | cases h)
theorem aug_inv {e e' : Env} {x : Nat} {k d r : Wv.D} {op : Operator} (ho : okAug op = true) (h : updS e x [] (fun o => (idxD o k).bind fun v => (binD op v d).bind fun r => if r.isI then (setL o k r).map fun o' => (Wv.D.non, o') else none) = some (r, e')) :
    ∃ xs i j a b c s', k = .int i ∧ Wv.ixN xs.length i = some j ∧ xs[j]? = some (.int a) ∧ d = .int b ∧ arith op a b = some c ∧ e' = e.set x s' ∧
    ((e[x]? = some (.me (.lst .own xs)) ∧ s' = .me (.lst .own (xs.set j (.int c)))) ∨ (e[x]? = some (.mp (.lst .own xs)) ∧ s' = .mp (.lst .own (xs.set j (.int c))))) := by
  have key : ∀ {o r' o' : Wv.D}, ((idxD o k).bind fun v => (binD op v d).bind fun r => if r.isI then (setL o k r).map fun o' => (Wv.D.non, o') else none) = some (r', o') → ∃ xs i j a b c, o = .lst .own xs ∧ k = .int i ∧ Wv.ixN xs.length i = some j ∧ xs[j]? = some (.int a) ∧ d = .int b ∧ arith op a b = some c ∧ o' = .lst .own (xs.set j (.int c)) := by
    intro o r' o' h9
    simp only [Option.bind_eq_some_iff] at h9
    obtain ⟨v, hv, rr, hb, h9⟩ := h9
    split at h9
    · rename_i hr
      obtain ⟨a, b, rfl, rfl⟩ := aug_int hb hr ho
      simp only [Option.map_eq_some_iff] at h9
      obtain ⟨o2, hs, he⟩ := h9
      cases he
      unfold setL at hs
      split at hs
      · split at hs
        · rename_i jj hj
          cases hs
          simp only [idxD, Wv.atI, hj, Option.bind_some] at hv
          simp only [binD, Option.map_eq_some_iff] at hb
          obtain ⟨c, hc, rfl⟩ := hb
          exact ⟨_, _, _, _, _, _, rfl, rfl, hj, hv, rfl, hc, rfl⟩
        · cases hs
      · cases hs
    · cases h9
  unfold updS at h
  split at h
  · rename_i o hx
    simp only [updAt, Option.map_eq_some_iff] at h
    obtain ⟨p, h1, h2⟩ := h
    cases h2
    obtain ⟨xs, i, j, a, b, c, rfl, rfl, hj, ha, rfl, hc, ho'⟩ := key h1
    exact ⟨xs, i, j, a, b, c, _, rfl, hj, ha, rfl, hc, rfl, .inl ⟨hx, by rw [ho']⟩⟩
  · rename_i o hx
    simp only [updAt, Option.map_eq_some_iff] at h
    obtain ⟨p, h1, h2⟩ := h
    cases h2
    obtain ⟨xs, i, j, a, b, c, rfl, rfl, hj, ha, rfl, hc, ho'⟩ := key h1
    exact ⟨xs, i, j, a, b, c, _, rfl, hj, ha, rfl, hc, rfl, .inr ⟨hx, by rw [ho']⟩⟩
  · cases h
theorem st_augI {h : Bool} {x : Nat} {path : List PEl} {i : Qx} {op : Operator} {e : Ex} : ST G cl h (.augI x path i op e) := by
  intro X fx sc st g er W tk F L H σ env A r E q
  simp only [erT] at er
  split at er
  case h_2 => cases er
  rename_i o j op' y z hst
  obtain ⟨p1, sp, rfl⟩ := asAug_ok hst
  cases path with
  | cons p ps => simp at er
  | nil =>
    simp only [Bool.and_eq_true, beq_iff_eq] at er
    obtain ⟨⟨⟨⟨_, hnj⟩, rfl, hop⟩, eo, ej⟩, ey⟩ := er
    obtain ⟨n, q0, rfl, n1, n2, n3⟩ := inv_var eo
    obtain ⟨k1, k2, k3⟩ := okName_ok n3
    obtain ⟨f, hf, harith⟩ := ip_aug (X := X) hop
    simp only [exec, isQ, Bool.not_true, Bool.false_eq_true, if_false, ev] at q
    refine to_wS (ps_augS pe_w pe_w get_listV pe_w hf set_list (fun v _ _ => by cases j <;> first | rfl | cases hnj)) ?_
    split at q
    case h_2 => exact q.elim
    rename_i d hz
    split at q
    case isFalse => exact q.elim
    dsimp only [Res.st] at q
    split at q
    case h_2 => exact q.elim
    rename_i p k hp hk
    simp only [pels, Option.some.injEq] at hp
    subst hp
    split at q
    case h_2 => exact q.elim
    rename_i r0 e2 hu
    obtain ⟨xs, ii, jj, a, b, c, s', rfl, hj, ha, rfl, hc, rfl, hx⟩ := aug_inv hop hu
    obtain rfl : f a b = c := by rw [harith] at hc; exact Option.some.inj hc
    obtain ⟨a0, vs0, f0, v0, _⟩ := r.own_lst (hx.imp (·.1) (·.1))
    refine to_wE (pe_var n1 (visB_ok g.scq n2) k1 k2) ⟨_, v0, ?_⟩
    refine qv_ok g.toGood i j ej r hk fun iv F2 H2 f2 g2 rp2 _ => ?_
    have rs2 := r.gr g2
    obtain ⟨a1, vs, f1, e3, e4, e5, e6, e7, e8⟩ := rs2.own_lst (hx.imp (·.1) (·.1))
    rw [v0] at e3; cases e3
    simp only [Rp] at rp2
    subst rp2
    have hlen := e8.length
    obtain ⟨w, hw, rw'⟩ := e8.get ha
    simp only [Rp] at rw'
    subst rw'
    refine ⟨a0, vs, ii, .int a, rfl, rfl, .inl (.inl e4), ?_, ?_⟩
    · show ((Wv.ixN vs.length ii).bind fun j => vs[j]?) = some (.int a)
      rw [← hlen, hj]; exact hw
    refine qv_ok g.toGood z y ey rs2 hz fun yv F3 H3 f3 g3 rp3 _ => ?_
    simp only [Rp] at rp3
    subst rp3
    refine ⟨a, b, rfl, rfl, ?_⟩
    have rs3 := rs2.gr g3
    obtain ⟨a2, ws, f4, c3, c4, c5, c6, c7, c8⟩ := rs3.own_lst (hx.imp (·.1) (·.1))
    rw [v0] at c3; cases c3
    have hlen' := c8.length
    refine ⟨a0, ws, ii, jj, rfl, rfl, c4, by rw [← hlen']; exact hj, ?_⟩
    obtain ⟨o1, o2, o3⟩ := rs3.own x a0 c5
    have kp : ∀ {S : Sets}, ¬ S a0 → Kp F3 H3 S F3 (upd H3 a0 (.lst (ws.set jj (.int (f a b))))) := fun hS => Kp.at1 o1 hS o3
    have rp' : Rp X.K cl F3 (upd H3 a0 (.lst (ws.set jj (.int (f a b))))) (.lst .own (xs.set jj (.int (f a b)))) (.ref a0) (A x) := by
      simp only [Rp]
      refine ⟨a0, ws.set jj (.int (f a b)), f4, rfl, upd_same, c5, c6, c7, ?_⟩
      exact (Rps.set (fp := E0s) (c8.kp (kp c6)) (by simp only [Rp]) fun _ _ z => z.elim).mono fun b z => z.elim id fun z => z.elim
    have rs4 := rs3.node (fp := E0s) (fp' := A x) hx c5 v0 (show Mut (some (.lst (ws.set jj (.int (f a b))))) from trivial) Tp.e0 (fun b z => .inl z) rp'
    have x4 := ((g2.ext (A := A)).trans g3.ext).node (o := .lst (ws.set jj (.int (f a b)))) c5 o3 (fp := E0s) (fp' := A x) Fr.e0 fun b z => .inl z
    exact (show ∀ σ' F' A' H', Ext F H A F' H' A' → RS X.K cl fx F' L H' σ' _ A' → E.nx σ' H' from q) σ F3 _ _ x4 rs4
end
end Wv

set_option Elab.async false
set_option linter.all false
set_option maxRecDepth 100000
/-! Wv23: raise. -/
namespace Wv
open PySem PySem.Spec PyProof.Rows L2
section
variable {G : Cfg} {cl : String → Addr}
theorem frozs_len : ∀ ds : List Wv.D, (frozs ds).length = ds.length
  | [] => by simp only [frozs]
  | d :: ds => by simp only [frozs, List.length_cons, frozs_len ds]
theorem Rps.frozT {K : PySem.W.Frag} {F F' : Sets} {H : Hp} {ds : List Wv.D} {vs : List V} {f : Sets} (r : Rps K cl F H ds vs f) (h : ∀ a, f a → F' a) (h2 : ∀ a, F a → F' a) : Rps K cl F' H (frozs ds) vs E0s := r.froz h h2
theorem st_rais (hG : G.hot = false) {h : Bool} {c : String} {es : List Ex} : ST G cl h (.rais c es) := by
  intro X fx sc st g er W tk F L H σ env A r E q
  simp only [erT] at er
  split at er
  case h_2 => cases er
  rename_i x y ys hst
  obtain ⟨p, pp, rfl⟩ := asRai_ok hst
  simp only [Bool.and_eq_true] at er
  obtain ⟨⟨hnm, hec, hfl0⟩, ea⟩ := er
  have hfl0 : (G.fl c).isEmpty = false := by simpa using hfl0
  simp only [exec] at q
  cases h with
  | true => simp only [if_true] at q; exact q.elim
  | false =>
    simp only [Bool.false_eq_true, if_false] at q
    have g : GoodS G cl fx sc X := g
    have ea : erEs G X.N es sc (y :: ys) = true := ea
    obtain ⟨q0, rfl, h1, h2⟩ := nmB_inv hnm
    obtain ⟨k1, k2, k3⟩ := okName_ok h2
    obtain ⟨hfl, fI, k, fd, ps, T, iC, tI, Fn, hr, hb⟩ := g.excs hG c hec hfl0
    have hm := g.kf.cls c (.inr (by simpa using hec))
    have hns := erEs_nsts _ _ ea
    have hns' : nst y = true ∧ nsts ys = true := by simpa [nsts] using hns
    refine to_wS (ps_raise (g.calm hG) tk (pmk_oex T iC tI Fn hr hb .nil (fun _ _ _ _ _ _ _ z => z.elim) (glB_ok g.scq h1) hm (pa_w (es := y :: ys)) k1 (star_cons hns'.1) (backTo_any _ _ _ hns'.2))) ?_
    refine evs_all es X fx sc (y :: ys) g.toGood ea W tk F L H σ env A r _ ?_
    refine stP.st (fl := G.fl) q fun ds e1 _ q1 => ?_
    intro ws F1 A1 H1 f1 x1 rs1 rp1 t1 fr1
    split at q1
    · rename_i hlen
      have hl := rp1.length
      refine ⟨by omega, fun a ha => ⟨a, ws, by rw [List.append_nil], by omega, upd_same, fun H2 dx hd hne e2 e3 e4 => ?_⟩⟩
      have hd1 : H1 dx = none := by rw [upd_ne hne] at hd; exact hd
      refine ⟨rfl, dx, _, e2, e3, hd1, ?_⟩
      generalize hH3 : upd (del H2 a) dx (.xd (((G.fl c).map Str.ofString).zip ws.reverse)) = H3
      have keep : ∀ b o, H1 b = some o → H3 b = some o := fun b o e => by
        have hba : b ≠ a := fun z => by subst z; rw [ha] at e; cases e
        have hbd : b ≠ dx := fun z => by subst z; rw [hd1] at e; cases e
        rw [← hH3, upd_ne hbd, del_ne hba, e4 b hba hbd, upd_ne hba]
        exact e
      have g3 : Gr F1 H1 F1 H3 := ⟨fun _ z => z, fun _ z => .inl z, keep, fun _ z => .inl z⟩
      have t3 : Tp F1 L H3 A1 f1 := t1.ext (g3.ext (A := A1))
      have rs3 := (rs1.gr g3).fro t3
      have x3 : Ext F H A (fun b => F1 b ∨ f1 b) H3 A1 := by
        have x4 := x1.trans g3.ext
        exact ⟨fun b z => .inl (x4.fro b z), fun b z => z.elim (x4.new b) fun z => .inr (fr1 b z), x4.own, x4.keep, x4.live⟩
      have hx3 : H3 dx = some (.xd (((G.fl c).map Str.ofString).zip ws.reverse)) := by rw [← hH3, upd_same]
      have rf : Rps X.K cl (fun b => F1 b ∨ f1 b) H3 (frozs ds) ws E0s := (rp1.kp g3.kp).frozT (fun b z => .inr z) fun b z => .inl z
      exact (show ∀ σ' F' A' H' dx vs, Ext F H A F' H' A' → RS X.K cl fx F' L H' σ' e1 A' → H' dx = some (.xd (((G.fl c).map Str.ofString).zip vs)) → Rps X.K cl F' H' (frozs ds).reverse vs E0s → (G.fl c).length = (frozs ds).reverse.length → W (.ref (cl c)) (some dx) σ' H' from q1) σ _ A1 H3 dx ws.reverse x3 rs3 hx3 rf.rev (by rw [List.length_reverse, frozs_len]; exact hlen)
    · exact q1.elim
end
end Wv

set_option Elab.async false
set_option linter.all false
set_option maxRecDepth 100000
/-! Wv25 (draft): try with several clauses, each with or without a name. -/
namespace Wv
open PySem PySem.Spec PyProof.Rows L2
abbrev Ts := Addr → Value → Option Addr → TS
/-- the clauses, what their suites do -/
inductive HdM (X : Cx) : List ExceptHandler → List (Value × Option Nat × Ts) → Prop
  | nil : HdM X [] []
  | cons {x : Str} {c : Value} {o : Option Nat} {on : Option Str} {ts : Ts} {b0 : Stmt} {su : List Stmt} {np pp : Pos} {hds : List ExceptHandler} {l : List (Value × Option Nat × Ts)} (hc : Names X x c)
      (hn : (o = none ∧ on = none) ∨ ∃ i n, o = some i ∧ on = some n ∧ X.N[i]? = some n ∧ X.env.kindOf n = some .local)
      (hsu : ∀ a oe cls d pn, Zc cls d oe → (∃ vs, oe.data = .fields vs) → PSs (X.suite a ((a, oe) :: pn)) (b0 :: su) (ts a cls d)) (r : HdM X hds l) : HdM X (.ExceptHandler (some (.Name x np)) on (b0 :: su) pp :: hds) ((c, o, ts) :: l)
def endOff (E : Ends) (i : Nat) : Ends := { nx := fun σ H => E.nx (σ.set i none) H, rt := E.rt, bk := fun σ H => E.bk (σ.set i none) H, ct := fun σ H => E.ct (σ.set i none) H }
def wMix (K : PySem.W.Frag) (Wout : WX) (E : Ends) : List (Value × Option Nat × Ts) → WX
  | [] => Wout
  | (c, o, ts) :: r => fun cls d σ H => ∃ b, PySem.W.exmOne K cls c = some b ∧
      (b = true → ∀ a, H a = none → match o with
        | none => ts a cls d E σ H
        | some i => ts a cls d (endOff E i) (σ.set i (some (.ref a))) H) ∧ (b = false → wMix K Wout E r cls d σ H)
section
variable {X : Cx} {body : List Stmt} {hd0 : ExceptHandler} {hds : List ExceptHandler} {l : List (Value × Option Nat × Ts)} {pos : Pos} {tb : WX → TS} {Wo : WX}
/-- the exception lands at the clauses -/
theorem mix_go (sk : X.stack = X.env :: X.outer) (fr : X.env.frame = some X.env.locals) (hN : X.N.Nodup) (tk : Takes X Wo) {pins : List (Addr × Obj)} {E : Ends} {a : Addr} {B : Heap} {sI s0 : Shared} {σ : L2.St} {H : Hp} {cls : Value} {d : Option Addr} {h3 : Heap}
    (J : Inv X pins σ H sI) (nb : ∀ b o, sI.heap.get? b = some o → b ∉ frs X.stack → B.get? b = some o) (up : sI.heap.UpToSlots h3) (fl3 : HandSPX.FlyingZ B (X.env :: X.outer) a (Zc cls d) h3) (na : H a = none) (os : s0.os = sI.os) (ag : AllBare s0.gens)
    (nL : a ≠ X.env.locals) (nF : a ∉ X.fs) : ∀ {hs : List ExceptHandler} {l : List (Value × Option Nat × Ts)}, HdM X hs l → wMix X.K Wo E l cls d σ H → wpAny (model X.prog X.w) X.A (handleBy (.ref a) X.env hs) (SP X pins E) X.xe { s0 with heap := h3 } := by
  have J3 : Inv X pins σ H { s0 with heap := h3 } := J.landed nb fl3.1 up os ag
  obtain ⟨oe3, vs3, he3, hz3, hd3⟩ := fl3.there
  have S3 := J3.suite he3 hd3 na nL nF
  intro hs l hk
  induction hk with
  | nil =>
    intro w
    refine wpAny_handleBy_nil ?_
    obtain ⟨q1, q2, q3, oe, vs, T, oT, tsx, g1, g2, g3, g4, g5⟩ := id fl3
    unfold PySem.passOn
    refine wpAny_bind (wpAny_field g1 g3 g4 ?_)
    rw [if_neg (by simp)]
    have last : wpAny (model X.prog X.w) X.A (setFlight (.ref a) X.env.frame) (fun _ s4 => wpAny (model X.prog X.w) X.A (throw (.ref a) : Sem Flow) (SP X pins E) X.xe s4) X.xe { s0 with heap := h3 } := by
      rw [fr]
      exact HandSPX.setFlight_upZ fl3 fun h4 hh4 up4 => wpAny_throw (tk _ _ ⟨a, B, sI, pins, σ, H, cls, d, rfl, J, nb, up.trans up4, .inr (.inr (by rw [sk]; exact hh4)), na, os, ag, w⟩)
    first
      | exact wpAny_bind last
      | exact wpAny_bind (wpAny_pure (wpAny_bind last))
  | @cons x c o on ts b0 su np pp hds l hc hn hsu r ih =>
    intro w
    obtain ⟨b, e1, yes, no⟩ := w
    have LT : PySem.W.Looks (model X.prog X.w) h3 (typeOf (.ref a)) cls := fun _ _ _ _ kk z => wpAny_typeOf_ref (kk _ _ he3) (by rw [hz3.1]; exact z)
    have LM := PySem.W.exm_one (M := model X.prog X.w) J3.kIn LT e1
    refine wpAny_handleBy_cons (codeAny_handlers_test ?_) (by intro z; cases z)
    have look : ∀ {Q R : Value → Shared → Prop}, Q c { s0 with heap := h3 } → wpAny (model X.prog X.w) (X.A.mark (some (.ref a))) (eval (.Name x np) X.env) Q R { s0 with heap := h3 } := fun {Q R} z => by
      obtain ⟨u1, u2, u3⟩ := hc
      rcases u3 with u3 | ⟨u3, u4, u5⟩
      · exact ld_glob (X := X.suite a ((a, oe3) :: (X.pn ++ pins))) S3 u1 u3 z u2
      · exact ld_blt (X := X.suite a ((a, oe3) :: (X.pn ++ pins))) S3 u1 u3 u4 z u5 u2
    refine look (LM.here ?_)
    cases b with
    | false => exact ih (no rfl)
    | true =>
      rcases hn with ⟨rfl, rfl⟩ | ⟨i, n, rfl, rfl, hi, hln⟩
      · refine codeAny_handlers_suite ?_
        refine HandSPX.lands_againZ fl3 fun h4 fl4 up4 => ?_
        have J4 : Inv X pins σ H { s0 with heap := h4 } := J.landed nb fl4.1 (up.trans up4) os ag
        obtain ⟨oe4, vs4, he4, hz4, hd4⟩ := fl4.there
        have w4 := (hsu a oe4 cls d (X.pn ++ pins) hz4 ⟨_, hd4⟩).run [] _ _ H _ (J4.suite he4 hd4 na nL nF) (yes rfl a na)
        refine wpAny_mono w4 (fun f s6 z => ?_) fun _ _ z => z.elim
        match f, z with
        | .next, ⟨σ6, H6, S6, q6⟩ => exact ⟨_, _, S6.unsuite J.ok, q6⟩
        | .brk, ⟨σ6, H6, S6, q6⟩ => exact ⟨_, _, S6.unsuite J.ok, q6⟩
        | .cont, ⟨σ6, H6, S6, q6⟩ => exact ⟨_, _, S6.unsuite J.ok, q6⟩
        | .ret u, ⟨v6, σ6, H6, S6, r6, q6⟩ => exact ⟨_, _, _, S6.unsuite J.ok, r6, q6⟩
      · refine codeAny_handlers_suite_as ?_
        refine HandSPX.lands_againZ fl3 fun h4 fl4 up4 => ?_
        have J4 : Inv X pins σ H { s0 with heap := h4 } := J.landed nb fl4.1 (up.trans up4) os ag
        obtain ⟨oe4, vs4, he4, hz4, hd4⟩ := fl4.there
        refine store_ok (X := X.suite a ((a, oe4) :: (X.pn ++ pins))) (v := .ref a) (J4.suite he4 hd4 na nL nF) hN hi (.inl hln) rfl (fun s5 S5 => ?_) (.inr hln)
        have w4 := (hsu a oe4 cls d (X.pn ++ pins) hz4 ⟨_, hd4⟩).run [] s5 _ H _ S5 (yes rfl a na)
        refine wpAny_mono w4 (fun f s6 z => ?_) fun _ _ z => z.elim
        have off : ∀ {σ6 : L2.St} {H6 : Hp} {Q : Shared → Prop}, Inv (X.suite a ((a, oe4) :: (X.pn ++ pins))) [] σ6 H6 s6 → (∀ s7, Inv X pins (σ6.set i none) H6 s7 → Q s7) →
            wpAny (model X.prog X.w) X.A (do bindName X.env n .none; unbindBehindTheSuite X.env n pp) (fun _ s7 => Q s7) X.xe s6 := fun S6 hq => gone_ok (S6.unsuite J.ok) hN hi hln hq
        match f, z with
        | .next, ⟨σ6, H6, S6, q6⟩ => exact off S6 fun s7 J7 => ⟨_, _, J7, q6⟩
        | .brk, ⟨σ6, H6, S6, q6⟩ => exact off S6 fun s7 J7 => ⟨_, _, J7, q6⟩
        | .cont, ⟨σ6, H6, S6, q6⟩ => exact off S6 fun s7 J7 => ⟨_, _, J7, q6⟩
        | .ret u, ⟨v6, σ6, H6, S6, r6, q6⟩ => exact off S6 fun s7 J7 => ⟨_, _, _, J7, r6, q6⟩
theorem ps_try_mix (sk : X.stack = X.env :: X.outer) (fr : X.env.frame = some X.env.locals) (hN : X.N.Nodup) (tk : Takes X Wo)
    (hb : ∀ (W : WX) (pn : List (Addr × Obj)) (xe : Value → Shared → Prop), Takes (X.tr pn xe) W → PassesOwn (model X.prog X.w) X.A X.env xe → PSs (X.tr pn xe) body (tb W)) (hh : HdM X (hd0 :: hds) l) :
    PS X (.Try body (hd0 :: hds) [] [] pos) (fun E σ H => tb (wMix X.K Wo E l) E σ H) := by
  refine ⟨fun pins s σ H E I h => ?_⟩
  have hA : X.A.frames = some (X.env :: X.outer) := by rw [I.ok.frames, sk]
  refine wpAny_Try_except ?_
  refine wpAny_mono ((hb (wMix X.K Wo E l) (X.pn ++ pins) (fun e s1 => wpAny (model X.prog X.w) X.A (noteFrame e X.env) (fun _ s2 => wpAny (model X.prog X.w) X.A (setFlight e none) (fun _ s3 =>
    wpAny (model X.prog X.w) X.A (handleBy e X.env (hd0 :: hds)) (SP X pins E) X.xe s3) X.xe s2) X.xe s1) (fun u s' xx => ?_) PassesOwn.looking).run [] s σ H E (I.toTry _) h) (fun f s1 z => ?_) fun _ _ z => z
  · obtain ⟨a, B, sI, pins', σ', H', cls, d, rfl, J', nb, up, sky, na, os, ag, w⟩ := xx
    have J : Inv X pins σ' H' sI := J'.ofTry I.ok
    have sky2 : Sky B (X.env :: X.outer) a (Zc cls d) X.env.locals s'.heap := by rw [← sk]; exact sky
    show wpAny (model X.prog X.w) X.A (noteFrame (.ref a) X.env) _ _ _
    refine Sky.land Zc.steady hA fr sky2 fun h3 fl3 up3 => ?_
    obtain ⟨oe3, vs3, he3, hz3, hd3⟩ := fl3.there
    have nfr : a ∉ frs (X.env :: X.outer) := fun hm => by
      obtain ⟨_, o', e', hnf⟩ := fl3.2.2.1.mem hm
      rw [he3] at e'; cases e'
      exact hnf _ hd3
    have nL : a ≠ X.env.locals := fun z => nfr (List.mem_filterMap.mpr ⟨X.env, List.mem_cons_self, by rw [fr, z]⟩)
    have nF : a ∉ X.fs := fun hm => by
      obtain ⟨e, he, z⟩ := List.mem_filterMap.mp hm
      exact nfr (List.mem_filterMap.mpr ⟨e, List.mem_cons_of_mem _ he, z⟩)
    exact mix_go sk fr hN tk J nb (up.trans up3) fl3 na os ag nL nF hh w
  · match f, z with
    | .next, ⟨σ', H', J', q⟩ => exact wpAny_execs_nil ⟨σ', H', J'.ofTry I.ok, q⟩
    | .brk, ⟨σ', H', J', q⟩ => exact ⟨σ', H', J'.ofTry I.ok, q⟩
    | .cont, ⟨σ', H', J', q⟩ => exact ⟨σ', H', J'.ofTry I.ok, q⟩
    | .ret u, ⟨v, σ', H', J', r, q⟩ => exact ⟨v, σ', H', J'.ofTry I.ok, r, q⟩
end
end Wv

set_option Elab.async false
set_option linter.all false
set_option maxRecDepth 100000
/-! Wv26 (draft): try. -/
namespace Wv
open PySem PySem.Spec PyProof.Rows L2
section
variable {K : PySem.W.Frag} {cl : String → Addr} {fx : Fx} {F L : Sets} {H : Hp} {σ : L2.St} {env : Env} {A : Nat → Sets}
/-- a caught exception's slot -/
theorem RS.catch (r : RS K cl fx F L H σ env A) (hx : ∀ i a c dx, ¬ fx.x i a c dx) {i : Nat} (hi : i < env.length) {a dx : Addr} {c : String} {ns : List String} {ds : List D} {vs : List V} (h1 : H dx = some (.xd ((ns.map Str.ofString).zip vs))) (h2 : ns.length = ds.length) (h3 : Rps K cl F H ds vs E0s) :
    RS K cl ⟨fun j a' c' dx' => j = i ∧ a' = a ∧ c' = c ∧ dx' = dx, fx.p, fx.l, fx.v⟩ F L H (σ.set i (some (.ref a))) (env.set i (.xc c ns ds)) (onA A i E0s) := by
  have hl : i < σ.length := by rw [r.len]; exact hi
  have hA : ∀ {j : Nat}, j ≠ i → ∀ {b : Addr}, A j b → onA A i E0s j b := fun {j} hj {b} z => by simp only [onA, hj, if_false]; exact z
  have hB : ∀ {j : Nat}, ∀ {b : Addr}, onA A i E0s j b → A j b := fun {j} {b} z => by
    by_cases hj : j = i
    · subst hj; simp only [onA, if_true] at z; exact z.elim
    · simpa only [onA, hj, if_false] using z
  have off : ∀ {j : Nat} {s : Slot}, (env.set i (.xc c ns ds))[j]? = some s → (∀ c ns ds, s ≠ .xc c ns ds) → j ≠ i ∧ env[j]? = some s := fun {j s} h hs => by
    by_cases hj : j = i
    · subst hj; exact absurd (set_self h) (hs _ _ _)
    · rw [set_other hj] at h; exact ⟨hj, h⟩
  refine ⟨by simp [r.len], fun j d h => ?_, fun j d h => ?_, fun j d h => ?_, fun j d h => ?_, fun j c' ns' ds' h => ?_, fun j k b hn z u => r.sep j k b hn (hB z) (hB u), fun j b z => r.own j b (hB z), r.dom, r.vl⟩
  · obtain ⟨hj, h⟩ := off h (fun _ _ _ z => by cases z)
    obtain ⟨v, e1, e2⟩ := r.me j d h
    exact ⟨v, by rw [set_other hj]; exact e1, e2.mono fun b z => hA hj z⟩
  · obtain ⟨hj, h⟩ := off h (fun _ _ _ z => by cases z)
    obtain ⟨v, e1, e2, e3⟩ := r.mp j d h
    exact ⟨v, by rw [set_other hj]; exact e1, e2.mono fun b z => hA hj z, e3⟩
  · obtain ⟨hj, h⟩ := off h (fun _ _ _ z => by cases z)
    obtain ⟨v, f, e1, e2⟩ := r.vw j d h
    exact ⟨v, f, by rw [set_other hj]; exact e1, e2⟩
  · obtain ⟨hj, h⟩ := off h (fun _ _ _ z => by cases z)
    obtain ⟨v, f, e1, e2⟩ := r.lk j d h
    exact ⟨v, f, by rw [set_other hj]; exact e1, e2⟩
  · by_cases hj : j = i
    · subst hj
      cases set_self h
      exact ⟨a, dx, vs, set_at hl, ⟨rfl, rfl, rfl, rfl⟩, h1, h2, h3⟩
    · rw [set_other hj] at h
      obtain ⟨a', dx', vs', _, e2, _⟩ := r.xc j c' ns' ds' h
      exact (hx _ _ _ _ e2).elim
/-- .. let go -/
theorem RS.drop {fx2 : Fx} {i : Nat} (r : RS K cl fx2 F L H σ env A) (hx : ∀ j a c dx, fx2.x j a c dx → j = i) (hp : fx2.p = fx.p ∧ fx2.l = fx.l ∧ fx2.v = fx.v) : RS K cl fx F L H (σ.set i none) (env.set i .no) (offA A i) := by
  obtain ⟨hp1, hp2, hp3⟩ := hp
  have off : ∀ {j : Nat} {s : Slot}, (env.set i .no)[j]? = some s → s ≠ .no → j ≠ i ∧ env[j]? = some s := fun {j s} h hs => by
    by_cases hj : j = i
    · subst hj; exact absurd (set_self h) hs
    · rw [set_other hj] at h; exact ⟨hj, h⟩
  refine ⟨by simp [r.len], fun j d h => ?_, fun j d h => ?_, fun j d h => ?_, fun j d h => ?_, fun j c' ns' ds' h => ?_, fun j k b hn z u => r.sep j k b hn z.2 u.2, fun j b z => r.own j b z.2, r.dom, by rw [← hp3]; exact r.vl⟩
  · obtain ⟨hj, h⟩ := off h (fun z => by cases z)
    obtain ⟨v, e1, e2⟩ := r.me j d h
    exact ⟨v, by rw [set_other hj]; exact e1, e2.mono fun b z => ⟨hj, z⟩⟩
  · obtain ⟨hj, h⟩ := off h (fun z => by cases z)
    obtain ⟨v, e1, e2, e3⟩ := r.mp j d h
    exact ⟨v, by rw [set_other hj]; exact e1, e2.mono fun b z => ⟨hj, z⟩, by rw [← hp1]; exact e3⟩
  · obtain ⟨hj, h⟩ := off h (fun z => by cases z)
    obtain ⟨v, f, e1, e2, e3⟩ := r.vw j d h
    exact ⟨v, f, by rw [set_other hj]; exact e1, e2, by rw [← hp3]; exact e3⟩
  · obtain ⟨hj, h⟩ := off h (fun z => by cases z)
    obtain ⟨v, f, e1, e2, e3, e4⟩ := r.lk j d h
    exact ⟨v, f, by rw [set_other hj]; exact e1, e2, by rw [← hp3]; exact e3, by rw [← hp2]; exact e4⟩
  · obtain ⟨hj, h⟩ := off h (fun z => by cases z)
    obtain ⟨a', dx', vs', _, e2, _⟩ := r.xc j c' ns' ds' h
    exact absurd (hx _ _ _ _ e2) hj
end
/-! ### the clauses -/
/-- Inv at a suite: the exception's fields, its class -/
theorem GoodS.suite {G : Cfg} {cl : String → Addr} {fx fx2 : Fx} {sc : Scope} {X : Cx} (g : GoodS G cl fx sc X) {a : Addr} {oe : Obj} {c : String} {dx : Addr} {pn : List (Addr × Obj)} (hc : G.ec.contains c = true) (hz : Zc (.ref (cl c)) (some dx) oe) (hf : ∃ vs, oe.data = .fields vs)
    (hx : ∀ i a' c' dx', fx2.x i a' c' dx' → a' = a ∧ c' = c ∧ dx' = dx) : GoodS (hotG G) cl fx2 sc (X.suite a ((a, oe) :: pn)) where
  nd := g.nd
  scq := g.scq
  un := g.un
  kf := ⟨g.kf.bi, g.kf.gl, g.kf.cls, g.kf.obj, g.kf.noat, g.kf.kit, g.kf.kitb, g.kf.gff, g.kf.exx, g.kf.exm, g.kf.mkc⟩
  calm := fun h => by cases h
  fns := fun h => by cases h
  excs := fun h => by cases h
  xno := fun h => by cases h
  xat := fun {pins s σ H i a' c' dx' fs f v Q} I hi ea hfl l q => by
    obtain ⟨rfl, rfl, rfl⟩ := hx _ _ _ _ hi
    have T := g.kf.exx c' hc
    obtain ⟨ha, _⟩ := I.pin (a', oe) (List.mem_append_left _ List.mem_cons_self)
    obtain ⟨vs, hd⟩ := hf
    have hob : ObjOk X.prog X.w H s.heap dx' (.xd fs) := I.hok dx' _ ea
    obtain ⟨mA, hns, hr⟩ := hob
    obtain ⟨od, ho, hl⟩ := lookIn_ns hns
    obtain ⟨u, hu, ru⟩ := RelO.some_of (v := v) (o := mA (Str.ofString f)) (by rw [← l]; exact hr _)
    have J : PySem.W.InstAt s.heap a' oe (cl c') (some od) := ⟨ha, hz.1, by unfold PySem.W.notCls; rw [hd] <;> rfl, by rw [hz.2]; exact ho⟩
    exact HandSPX.exc_get I.kIn J T.xf.ga T.xf.gg T.xf.exC (PySem.W.findObj_own T.xf.hdC (T.no f hfl) rfl (by rw [hl, hu])) (handed_of ru) ⟨v, H, I.tok _, ru, q⟩
  xki := fun {pins s σ H i a' c' dx'} I hi ⟨fs, ea⟩ he => by
    obtain ⟨rfl, rfl, rfl⟩ := hx _ _ _ _ hi
    have T := g.kf.exx c' hc
    obtain ⟨ha, _⟩ := I.pin (a', oe) (List.mem_append_left _ List.mem_cons_self)
    obtain ⟨vs, hd⟩ := hf
    have hob : ObjOk X.prog X.w H s.heap dx' (.xd fs) := I.hok dx' _ ea
    obtain ⟨mA, hns, hr⟩ := hob
    obtain ⟨od, ho, hl⟩ := lookIn_ns hns
    have J : PySem.W.InstAt s.heap a' oe (cl c') (some od) := ⟨ha, hz.1, by unfold PySem.W.notCls; rw [hd] <;> rfl, by rw [hz.2]; exact ho⟩
    exact ⟨_, PySem.W.kitx_exc T.hcl T.xf.ga T.xf.gg T.xf.exC T.ha T.hn T.ht T.hm, J⟩
  po := fun h => by cases h
  lo := g.lo
  sk := g.sk
  fr := g.fr
theorem GoodS.tr {G : Cfg} {cl : String → Addr} {fx : Fx} {sc : Scope} {X : Cx} (g : GoodS G cl fx sc X) (hG : G.hot = false) (pn : List (Addr × Obj)) (xe : Value → Shared → Prop) (po : PassesOwn (model X.prog X.w) X.A X.env xe) : GoodS G cl fx sc (X.tr pn xe) where
  nd := g.nd
  scq := g.scq
  un := g.un
  kf := g.kf
  calm := g.calm
  fns := g.fns
  excs := g.excs
  xno := g.xno
  xat := fun _ hi => (g.xno hG _ _ _ _ hi).elim
  xki := fun _ hi => (g.xno hG _ _ _ _ hi).elim
  po := fun _ => po
  lo := g.lo
  sk := g.sk
  fr := g.fr
section
variable (G : Cfg) (cl : String → Addr)
def HDs (hs : List Hd) : Prop := ∀ (X : Cx) (fx : Fx) (sc : Scope) (hds : List ExceptHandler), GoodS G cl fx sc X → erHs G X.N hs sc hds = true → ∃ l, HdM X hds l ∧
  ∀ (W : WX) (E : Ends) (F L : Sets) (H : Hp) (σ : L2.St) (env : Env) (A : Nat → Sets) (c : String) (ds : List Wv.D) (dx : Addr) (vs : List V), RS X.K cl fx F L H σ env A → H dx = some (.xd (((G.fl c).map Str.ofString).zip vs)) → Rps X.K cl F H ds vs E0s → (G.fl c).length = ds.length →
    stP X.K cl G.fl fx F L H A W E (handle G hs c ds env) → wMix X.K W E l (.ref (cl c)) (some dx) σ H
end
section
variable {G : Cfg} {cl : String → Addr}
theorem hds_nil : HDs G cl [] := by
  intro X fx sc hds g er
  cases hds with
  | nil =>
    refine ⟨[], .nil, fun W E F L H σ env A c ds dx vs r h1 h2 h3 q => ?_⟩
    simp only [handle] at q
    exact q σ F A H dx vs Ext.refl r h1 h2 h3
  | cons a b => simp [erHs] at er
theorem excN_names {fx : Fx} {sc : Scope} {X : Cx} (g : GoodS G cl fx sc X) {t : String} (ht : excN G t = true) {x : Str} (hx : Str.ofString t = x) (h1 : glB sc x = true) (h2 : okName x = true) : Names X x (tv cl t) := by
  subst hx
  obtain ⟨k1, k2, k3⟩ := okName_ok h2
  refine ⟨glB_ok g.scq h1, k1, ?_⟩
  unfold excN at ht
  simp only [Bool.or_eq_true, beq_iff_eq] at ht
  rcases ht with (ht | rfl) | rfl
  · have hm : t ∈ G.ec := by simpa using ht
    have h5 := (g.kf.kitb "int" (by simp) t (.inr hm)).1.1
    exact .inl (by unfold tv; rw [h5, if_neg (by simp)]; exact g.kf.cls t (.inr hm))
  · exact .inr ⟨g.kf.bi "ValueError" (by decide), by rfl, k3⟩
  · exact .inr ⟨g.kf.bi "Exception" (by decide), by rfl, k3⟩
theorem noEx_st {K : PySem.W.Frag} {fl : Flds} {fx : Fx} {F L : Sets} {H : Hp} {A : Nat → Sets} {W W' : WX} {E : Ends} : ∀ {r : SR}, stP K cl fl fx F L H A W E (noEx r) → stP K cl fl fx F L H A W' E r
  | .nx e, q => q
  | .bk e, q => q
  | .ct e, q => q
  | .rt d e, q => q
  | .ex c ds e, q => (show False from q).elim
  | .bad, q => q
theorem Ext.wid {F F' : Sets} {H H' : Hp} {A A2 A' A3 : Nat → Sets} (x : Ext F H A2 F' H' A') (h : ∀ a, Un A2 a → Un A a) (h' : ∀ a, Un A3 a → Un A' a) : Ext F H A F' H' A3 where
  fro := x.fro
  new := fun a z => (x.new a z).imp id fun z => z.imp id (h a)
  own := fun a z => (x.own a (h' a z)).imp (h a) id
  keep := fun a o e z => x.keep a o e (z.imp (fun z u => z (h a u)) id)
  live := x.live
theorem un_off {A : Nat → Sets} {i : Nat} {a : Addr} (h : Un (offA A i) a) : Un A a := by
  obtain ⟨j, u⟩ := h
  exact ⟨j, u.2⟩
theorem un_on0 {A : Nat → Sets} {i : Nat} {a : Addr} (h : Un (onA A i E0s) a) : Un A a := (un_onA h).elim id fun z => z.elim
/-- behind a suite with a name -/
theorem off_st {K : PySem.W.Frag} {fl : Flds} {fx fx2 : Fx} {F L : Sets} {H : Hp} {A : Nat → Sets} {W W' : WX} {E : Ends} {i : Nat} (hx : ∀ j a c dx, fx2.x j a c dx → j = i) (hp : fx2.p = fx.p ∧ fx2.l = fx.l ∧ fx2.v = fx.v) : ∀ {r : SR}, stP K cl fl fx F L H A W E ((noEx r).mapE fun e => e.set i .no) → stP K cl fl fx2 F L H (onA A i E0s) W' (endOff E i) r
  | .nx e, q => fun σ' F' A' H' x rs => (show ∀ σ' F' A' H', Ext F H A F' H' A' → RS K cl fx F' L H' σ' _ A' → E.nx σ' H' from q) _ _ _ _ (x.wid (fun _ z => un_on0 z) fun _ z => un_off z) (rs.drop hx hp)
  | .bk e, q => fun σ' F' A' H' x rs => (show ∀ σ' F' A' H', Ext F H A F' H' A' → RS K cl fx F' L H' σ' _ A' → E.bk σ' H' from q) _ _ _ _ (x.wid (fun _ z => un_on0 z) fun _ z => un_off z) (rs.drop hx hp)
  | .ct e, q => fun σ' F' A' H' x rs => (show ∀ σ' F' A' H', Ext F H A F' H' A' → RS K cl fx F' L H' σ' _ A' → E.ct σ' H' from q) _ _ _ _ (x.wid (fun _ z => un_on0 z) fun _ z => un_off z) (rs.drop hx hp)
  | .rt d e, q => fun v σ' F' A' H' fp x rs rp t f => (show ∀ v σ' F' A' H' fp, Ext F H A F' H' A' → RS K cl fx F' L H' σ' _ A' → Rp K cl F' H' d v fp → Tp F' L H' A' fp → Fr H A fp → E.rt v H' from q) _ _ _ _ _ fp (x.wid (fun _ z => un_on0 z) fun _ z => un_off z) (rs.drop hx hp) rp (fun a z => by
      obtain ⟨t1, t2, t3, t4⟩ := t a z
      exact ⟨t1, t2, fun u => t3 (un_off u), t4⟩) fun a z => (f a z).imp id un_on0
  | .ex c ds e, q => (show False from q).elim
  | .bad, q => q
theorem takes_none {X : Cx} {a : Addr} {pn : List (Addr × Obj)} : Takes (X.suite a pn) (fun _ _ _ _ => False) := fun u s' x => by
  obtain ⟨_, _, _, _, _, _, _, _, _, _, _, _, _, _, _, _, w⟩ := x
  exact w.elim
theorem hds_cons (hG : G.hot = false) {cs : List String} {n : Option Nat} {b : List St} {hs : List Hd} (hb : STs G cl true b) (hh : HDs G cl hs) : HDs G cl (.mk cs n b :: hs) := by
  intro X fx sc hds g er
  cases hds with
  | nil => simp [erHs] at er
  | cons hd hds =>
    simp only [erHs] at er
    split at er
    case h_2 => cases er
    rename_i t x on su hhd
    simp only [Bool.and_eq_true] at er
    obtain ⟨⟨⟨en, et⟩, em, eb⟩, er2⟩ := er
    obtain ⟨s0, s1, pp, rfl, rfl, rfl⟩ := asHd_ok hhd
    obtain ⟨np, rfl, hg1, hg2⟩ := nmB_inv en
    obtain ⟨l, hl, hw⟩ := hh X fx sc hds g er2
    refine ⟨(tv cl t, n, fun a cls d E σ H => ∀ oe pn, Zc cls d oe → (∃ vs, oe.data = .fields vs) → wSs (X.suite a ((a, oe) :: pn)) (s0 :: s1) E σ H) :: l, .cons (excN_names g et rfl hg1 hg2) ?_ ?_ hl, ?_⟩
    · rcases nmH_ok em with ⟨h1, h2⟩ | ⟨i, nm, h1, h2, h3, h4⟩
      · exact .inl ⟨h1, h2⟩
      · exact .inr ⟨i, nm, h1, h2, h3, by unfold PySem.Env.kindOf; rw [g.scq]; exact h4⟩
    · intro a oe cls d pn hz hf
      exact ⟨fun pins s σ H E I h => h oe pn hz hf pins s I⟩
    · intro W E F L H σ env A c ds dx vs r h1 h2 h3 q
      simp only [handle] at q
      split at q
      · exact q.elim
      · rename_i hec
        have hec : G.ec.contains c = true := by simpa using hec
        refine ⟨_, g.kf.exm c hec t et, fun hb1 a na => ?_, fun hb1 => ?_⟩
        · have hct : catches G.mro c [t] = true := by simp only [catches, hb1, Bool.true_or]
          rw [if_pos hct] at q
          rcases nmH_ok em with ⟨rfl, rfl⟩ | ⟨i, nm, rfl, rfl, hi, _⟩
          · intro oe pn hz hf
            exact hb (X.suite a ((a, oe) :: pn)) fx sc _ (g.suite (pn := pn) hec hz hf fun _ _ _ _ z => (g.xno hG _ _ _ _ z).elim) eb (fun _ _ _ _ => False) takes_none F L H σ env A r E (noEx_st q)
          · intro oe pn hz hf
            dsimp only at q
            have go : i < env.length → stP X.K cl G.fl fx F L H A W E ((noEx (execs G true b (env.set i (.xc c (G.fl c) ds)))).mapE fun e => e.set i .no) → wSs (X.suite a ((a, oe) :: pn)) (s0 :: s1) (endOff E i) (σ.set i (some (.ref a))) H := fun hi q => by
              have g2 := g.suite (fx2 := ⟨fun j a' c' dx' => j = i ∧ a' = a ∧ c' = c ∧ dx' = dx, fx.p, fx.l, fx.v⟩) (pn := pn) hec hz hf fun _ _ _ _ z => z.2
              refine hb (X.suite a ((a, oe) :: pn)) ⟨fun j a' c' dx' => j = i ∧ a' = a ∧ c' = c ∧ dx' = dx, fx.p, fx.l, fx.v⟩ sc _ g2 eb (fun _ _ _ _ => False) takes_none F L H _ _ _ (r.catch (fun _ _ _ _ z => (g.xno hG _ _ _ _ z).elim) hi h1 (by rw [h3]) h2) (endOff E i) (off_st (K := X.K) (fx := fx) (W := W) (fx2 := ⟨fun j a' c' dx' => j = i ∧ a' = a ∧ c' = c ∧ dx' = dx, fx.p, fx.l, fx.v⟩) (fun _ _ _ _ z => z.1) ⟨rfl, rfl, rfl⟩ q)
            have hlt : ∀ {s : Slot}, env[i]? = some s → i < env.length := fun {s} hs => by
              by_cases hi : i < env.length
              · exact hi
              · rw [List.getElem?_eq_none (by omega)] at hs; cases hs
            split at q
            · exact q.elim
            · exact q.elim
            · rename_i s hs _ _
              exact go (hlt (by assumption)) q
            · exact q.elim
        · have hct : catches G.mro c [t] = false := by simp only [catches, hb1, Bool.false_or]
          rw [if_neg (by rw [hct]; simp)] at q
          exact hw W E F L H σ env A c ds dx vs r h1 h2 h3 q
theorem st_try (hG : G.hot = false) {h : Bool} {b : List St} {hs : List Hd} (hb : STs G cl false b) (hh : HDs G cl hs) : ST G cl h (.tryS b hs) := by
  intro X fx sc st g er W tk F L H σ env A r E q
  simp only [erT] at er
  split at er
  case h_2 => cases er
  rename_i body hds hst
  obtain ⟨h0, hs0, pp, rfl, rfl⟩ := asTry_ok hst
  simp only [Bool.and_eq_true] at er
  simp only [exec] at q
  cases h with
  | true => simp only [if_true] at q; exact q.elim
  | false =>
    have g : GoodS G cl fx sc X := g
    simp only [Bool.false_eq_true, if_false] at q
    obtain ⟨l, hl, hw⟩ := hh X fx sc _ g er.2
    refine to_wS (ps_try_mix (tb := fun W E σ H => ∀ pn xe, Takes (X.tr pn xe) W → PassesOwn (model X.prog X.w) X.A X.env xe → wSs (X.tr pn xe) body E σ H) g.sk g.fr g.nd tk (fun W pn xe tk2 po => ⟨fun pins s σ H E I h => h pn xe tk2 po pins s I⟩) hl) ?_
    intro pn xe tk2 po
    refine hb (X.tr pn xe) fx sc body (g.tr hG pn xe po) er.1 _ tk2 F L H σ env A r E ?_
    cases hr : execs G false b env with
    | nx e => rw [hr] at q; exact q
    | bk e => rw [hr] at q; exact q
    | ct e => rw [hr] at q; exact q
    | rt d e => rw [hr] at q; exact q
    | bad => rw [hr] at q; exact q
    | ex c ds e =>
      rw [hr] at q
      intro σ' F' A' H' dx vs x rs h1 h2 h3
      exact hw W E F' L H' σ' e A' c ds dx vs rs h1 h2 h3 (stP.ext q x)
end
end Wv

set_option Elab.async false
set_option linter.all false
set_option maxRecDepth 100000
/-! Wv24: every statement (try to come). -/
namespace Wv
open PySem PySem.Spec PyProof.Rows L2
section
variable {G : Cfg} {cl : String → Addr}
theorem st_never {h : Bool} {s : St} (hn : ∀ N sc st, erT G N h s sc st = false) : ST G cl h s := by
  intro X fx sc st g er W tk F L H σ env A r E q
  rw [hn] at er; cases er
mutual
theorem st_all (hG : G.hot = false) : ∀ (s : St) (h : Bool), ST G cl h s
  | .asg p e, h => st_asg hG
  | .setI x p i e, h => st_setI
  | .augV x op e, h => st_augV
  | .augI x p i op e, h => st_augI
  | .setA x f e, h => st_setA
  | .expr e, h => st_expr
  | .ret e, h => st_ret
  | .retN, h => st_retN
  | .ifS c a b, h => st_if (sts_all hG a h) (sts_all hG b h)
  | .whil c b, h => st_while hG (sts_all hG b h)
  | .forS p s b, h => st_for hG (sts_all hG b h)
  | .brk, h => st_brk
  | .cnt, h => st_cnt
  | .pas, h => st_pas
  | .rais c es, h => st_rais hG
  | .raisN c es, h => st_never fun N sc st => by unfold erT; rfl
  | .tryS b hs, h => st_try hG (sts_all hG b false) (hds_all hG hs)
  | .bad, h => st_never fun N sc st => by unfold erT; rfl
termination_by s => sizeOf s
theorem hds_all (hG : G.hot = false) : ∀ (hs : List Hd), HDs G cl hs
  | [] => hds_nil
  | .mk cs n b :: hs => hds_cons hG (sts_all hG b true) (hds_all hG hs)
termination_by hs => sizeOf hs
theorem sts_all (hG : G.hot = false) : ∀ (ss : List St) (h : Bool), STs G cl h ss
  | [], h => sts_nil
  | s :: ss, h => sts_cons (st_all hG s h) (sts_all hG ss h)
termination_by ss => sizeOf ss
end
end
end Wv

set_option Elab.async false
set_option linter.all false
set_option maxRecDepth 100000
/-! Wv27: defs. -/
namespace Wv
open PySem PySem.Spec PyProof.Rows L2
/-! ### a def's end -/
theorem outs_ok : ∀ {ss : List Slot} {e : Env} {o : List D}, outs ss e = some o → ∃ ss', putOuts ss o = some ss' ∧ ss'.length = ss.length ∧
    ∀ (i : Nat) (s : Slot), ss'[i]? = some s → (∃ d0 d, ss[i]? = some (.mp d0) ∧ e[i]? = some (.mp d) ∧ s = .mp d) ∨ ((∀ d, s ≠ .mp d) ∧ ss[i]? = some s)
  | [], e, o, h => by
    simp only [outs, Option.some.injEq] at h; subst h
    exact ⟨[], rfl, rfl, fun i s h => by simp at h⟩
  | s0 :: ss, [], o, h => by
    cases s0 <;> simp [outs] at h
  | s0 :: ss, s1 :: e, o, h => by
    by_cases hm : ∃ d0, s0 = .mp d0
    · obtain ⟨d0, rfl⟩ := hm
      by_cases hm1 : ∃ d1, s1 = .mp d1
      · obtain ⟨d1, rfl⟩ := hm1
        simp only [outs, Option.map_eq_some_iff] at h
        obtain ⟨o', h1, rfl⟩ := h
        obtain ⟨ss', e1, e2, e3⟩ := outs_ok h1
        refine ⟨.mp d1 :: ss', by simp only [putOuts, e1, Option.map_some], by simp [e2], fun i s hs => ?_⟩
        cases i with
        | zero =>
          simp at hs; subst hs
          exact .inl ⟨d0, d1, rfl, rfl, rfl⟩
        | succ i => simpa using e3 i s (by simpa using hs)
      · cases s1 <;> first | (exfalso; exact hm1 ⟨_, rfl⟩) | (simp [outs] at h)
    · have h' : outs ss e = some o := by
        cases s0 <;> first | (exfalso; exact hm ⟨_, rfl⟩) | (simpa only [outs] using h)
      obtain ⟨ss', e1, e2, e3⟩ := outs_ok h'
      refine ⟨s0 :: ss', ?_, by simp [e2], fun i s hs => ?_⟩
      · cases s0 <;> first | (exfalso; exact hm ⟨_, rfl⟩) | (simp only [putOuts, e1, Option.map_some])
      · cases i with
        | zero =>
          simp at hs; subst hs
          exact .inr ⟨fun d hd => hm ⟨d, hd⟩, rfl⟩
        | succ i => simpa using e3 i s (by simpa using hs)
section
variable {K : PySem.W.Frag} {cl : String → Addr} {F F' L : Sets} {H H' : Hp} {A A' : Nat → Sets} {vs : List V} {ss : List Slot}
/-- the frame at the entry -/
theorem RS.enter (r : RS K cl (fxa vs L) F L H (vs.map some) ss A) {N : List Str} {nv : Nat} (hn : N.length = nv) (hl : ss.length ≤ nv) : RS K cl (fxa vs L) F L H (L2.start N vs) (ss ++ List.replicate (nv - ss.length) .no) A := by
  have hv : vs.length = ss.length := by simpa using r.len
  have key : ∀ {i : Nat} {s : Slot}, (ss ++ List.replicate (nv - ss.length) .no)[i]? = some s → s ≠ .no → ss[i]? = some s := fun {i s} h hs => by
    by_cases hi : i < ss.length
    · rwa [List.getElem?_append_left hi] at h
    · rw [List.getElem?_append_right (by omega), List.getElem?_replicate] at h
      split at h
      · cases h; exact absurd rfl hs
      · cases h
  have at_ : ∀ {i : Nat} {v : V}, (vs.map some)[i]? = some (some v) → (L2.start N vs)[i]? = some (some v) := fun {i v} h => by
    unfold L2.start
    have hi : i < (vs.map some).length := (List.getElem?_eq_some_iff.mp h).1
    rw [List.getElem?_append_left hi]
    exact h
  refine ⟨by unfold L2.start; simp; omega, fun i d h => ?_, fun i d h => ?_, fun i d h => ?_, fun i d h => ?_, fun i c ns ds h => ?_, r.sep, r.own, r.dom, r.vl⟩
  · obtain ⟨v, e1, e2⟩ := r.me i d (key h (fun z => by cases z))
    exact ⟨v, at_ e1, e2⟩
  · obtain ⟨v, e1, e2⟩ := r.mp i d (key h (fun z => by cases z))
    exact ⟨v, at_ e1, e2⟩
  · obtain ⟨v, f, e1, e2⟩ := r.vw i d (key h (fun z => by cases z))
    exact ⟨v, f, at_ e1, e2⟩
  · obtain ⟨v, f, e1, e2⟩ := r.lk i d (key h (fun z => by cases z))
    exact ⟨v, f, at_ e1, e2⟩
  · obtain ⟨a, dx, ws, _, e2, _⟩ := r.xc i c ns ds (key h (fun z => by cases z))
    exact e2.elim
/-- .. at the end -/
theorem RS.leave (r : RS K cl (fxa vs L) F L H (vs.map some) ss A) (ha : ss.all isArg = true) (x : Ext F H A F' H' A') {σ' : L2.St} {e : Env} (r' : RS K cl (fxa vs L) F' L H' σ' e A') {o : List D} (ho : outs ss e = some o) :
    ∃ ss', putOuts ss o = some ss' ∧ RS K cl (fxa vs L) F' L H' (vs.map some) ss' A' := by
  have hv : vs.length = ss.length := by simpa using r.len
  obtain ⟨ss', h1, h2, h3⟩ := outs_ok ho
  have arg : ∀ {i : Nat} {s : Slot}, ss[i]? = some s → isArg s = true := fun {i s} h => List.all_eq_true.mp ha s (List.mem_of_getElem? h)
  refine ⟨ss', h1, by simp [h2, hv], fun i d h => ?_, fun i d h => ?_, fun i d h => ?_, fun i d h => ?_, fun i c ns ds h => ?_, r'.sep, r'.own, r'.dom, r'.vl⟩
  · rcases h3 i _ h with ⟨_, _, _, _, z⟩ | ⟨_, z⟩
    · cases z
    · have := arg z; simp [isArg] at this
  · rcases h3 i _ h with ⟨d0, d1, z1, z2, z3⟩ | ⟨z, _⟩
    · cases z3
      obtain ⟨v, e1, e2, e3⟩ := r'.mp i d z2
      have e3 : vs[i]? = some v := e3
      exact ⟨v, by rw [List.getElem?_map, e3]; rfl, e2, e3⟩
    · exact absurd rfl (z d)
  · rcases h3 i _ h with ⟨_, _, _, _, z⟩ | ⟨_, z⟩
    · cases z
    · obtain ⟨v, f, e1, e2, e3⟩ := r.vw i d z
      exact ⟨v, f, e1, e2.kp (x.kp fun a q => q.elim (r.fnd a) fun q ⟨j, u⟩ => (r.own j a u).2.1 (e3 a q)), e3⟩
  · rcases h3 i _ h with ⟨_, _, _, _, z⟩ | ⟨_, z⟩
    · cases z
    · have := arg z; simp [isArg] at this
  · rcases h3 i _ h with ⟨_, _, _, _, z⟩ | ⟨_, z⟩
    · cases z
    · have := arg z; simp [isArg] at this
end
/-! ### a def -/
/-- what is looked at once for each def -/
structure DefOk (P : Prog) (cl : String → Addr) (K : PySem.W.Frag) (f : String) (fn : Fn) (fd : FuncData) : Prop where
  ex : ∃ (x qual : Str) (params : Arguments) (body : List Stmt) (scope : Scope) (N : List Str), FunD K x qual params body scope [] [] (cl f) fd ∧ FnScope N (fn.ps.map Str.ofString) scope ∧ N.length = fn.nv ∧ fn.np ≤ fn.nv ∧ fn.ps.length = fn.np ∧
    ∀ cf, erTs (cfg P cf) N false fn.body scope body = true
  b : Binds K fd (fn.ps.map Str.ofString) []
  kb : ∀ n ks, P.kws.contains (f, n, ks) = true → KBd K fd fn.ps n ks
structure ProgOk (P : Prog) (cl : String → Addr) (K : PySem.W.Frag) (mg : Str → Option Value) (prog : Program) (w : World) (base : Heap) : Prop where
  kf : ∀ cf, KF (cfg P cf) cl K mg
  defs : ∀ f fn, P.fns f = some fn → ∃ fd, DefOk P cl K f fn fd
  excs : ∀ c, P.ec.contains c = true → (P.fl c).isEmpty = false → (P.fl c).length ≤ 900 ∧ ∃ fI fd ps, OexC K (cl c) ∧ PySem.W.findIn K (.ref (cl c)) "__init__" = some (some (.ref fI)) ∧ PySem.W.typeIn K (.ref fI) = some (.type "function") ∧
    FnOk prog w K mg base CX0 1 fI fd ps (spX (cl c) (P.fl c)) ∧ Binds K fd ps []
section
variable {P : Prog} {cl : String → Addr} {K : PySem.W.Frag} {mg : Str → Option Value} {prog : Program} {w : World} {base : Heap}
theorem call_fn {n : Nat} {f : String} (h : ∃ ss, callN P n f ss ≠ .bad) : ∃ fn, P.fns f = some fn := by
  obtain ⟨ss, h⟩ := h
  cases n with
  | zero => simp [callN] at h
  | succ n =>
    cases hf : P.fns f with
    | none => simp [callN, hf] at h
    | some fn => exact ⟨fn, rfl⟩
theorem fn_all (ok : ProgOk P cl K mg prog w base) : ∀ (n : Nat) (f : String) (fn : Fn) (fd : FuncData), P.fns f = some fn → DefOk P cl K f fn fd → FnOk prog w K mg base (L2.CX prog w) (2 * n + 2) (cl f) fd (fn.ps.map Str.ofString) (spF K cl P.fl (callN P n f))
  | 0, f, fn, fd, hf, hd => by
    have no : ∀ vs H Q E, ¬ spF K cl P.fl (callN P 0 f) vs H Q E := fun vs H Q E ⟨F, L, ss, A, r, h⟩ => h
    exact ⟨fun vs H Q E h => (no _ _ _ _ h).elim, fun A outer s H args us vs Q E _ _ _ _ h => (no _ _ _ _ h).elim⟩
  | n + 1, f, fn, fd, hf, hd => by
    obtain ⟨x, qual, params, body, scope, N, F0, S, hN, hnp, hps, er⟩ := hd.ex
    refine F0.ok (k := 2 * n + 3) S (fun vs H Q E ⟨F, L, ss, A, r, h⟩ => ?_) fun cdv A0 outer s H vs Q E hr ⟨F, L, ss, A, r, h⟩ => ?_
    · have hv : vs.length = ss.length := by simpa using r.len
      simp only [callN, hf, runFn] at h
      split at h
      · rename_i hc
        rw [List.length_map, hps, hv, hc.1]
      · exact h.elim
    · have hv : vs.length = ss.length := by simpa using r.len
      simp only [callN, hf, runFn] at h
      split at h
      case isFalse => exact (show False from h).elim
      rename_i hc
      obtain ⟨hc1, hc2⟩ := hc
      generalize hX : cxOf (L2.CX prog w) prog w K mg base N qual scope (cl f) cdv A0 outer s H E = X
      have hXK : X.K = K := by rw [← hX]; rfl
      have hXp : X.prog = prog := by rw [← hX]; rfl
      have hXw : X.w = w := by rw [← hX]; rfl
      have hXN : X.N = N := by rw [← hX]; rfl
      refine ⟨wSs X body, by subst hX; exact pss_w, ?_⟩
      have g : GoodS (cfg P (callN P n)) cl (fxa vs L) scope X := by
        rw [← hX]
        exact {
          nd := S.nd
          scq := rfl
          un := by have := hr.un; show (A0.deeper _).units + 100 < _; omega
          kf := ok.kf _
          calm := fun _ => rfl
          fns := fun _ f' hf' => by
            obtain ⟨fn', e'⟩ := call_fn hf'
            obtain ⟨fd', d'⟩ := ok.defs f' fn' e'
            have hpn : (cfg P (callN P n)).pn f' = fn'.ps := by simp only [cfg, e']
            refine ⟨2 * n + 2, fd', ?_, hr, ?_, ?_⟩
            · rw [hpn]; exact fn_all ok n f' fn' fd' e' d'
            · rw [hpn]; exact d'.b
            · rw [hpn]; exact d'.kb
          excs := fun _ c hc hfl => by
            obtain ⟨h1, fI, fd', ps', h2, h3, h4, h5, h6⟩ := ok.excs c hc hfl
            exact ⟨h1, fI, 1, fd', ps', h2, h3, h4, h5, hr.mono (by omega), h6⟩
          xno := fun _ i a c dx z => z
          xat := fun _ z => (show False from z).elim
          xki := fun _ z => (show False from z).elim
          po := fun _ => passes_of rfl
          lo := fun y hy => by
            refine ⟨?_, .inl rfl⟩
            unfold locB at hy
            split at hy
            · rename_i e; exact .inl e
            · rename_i e; exact .inr e
            · cases hy
          sk := rfl
          fr := rfl }
      have tk : Takes X (fun cls d _ H' => E cls d H') := by
        rw [← hX]
        exact takes_of rfl rfl rfl rfl
      have r1 := r.enter hN (by omega)
      rw [hc1] at r1
      have er1 : erTs (cfg P (callN P n)) X.N false fn.body scope body = true := by rw [hXN]; exact er _
      rw [← hXK] at r r1 h
      refine sts_all (G := cfg P (callN P n)) rfl fn.body false X (fxa vs L) scope body g er1 _ tk F L H _ _ A r1 _ ?_
      cases hx : execs (cfg P (callN P n)) false fn.body (ss ++ List.replicate (fn.nv - fn.np) .no) with
      | nx e =>
        rw [hx] at h
        dsimp only at h
        cases ho : outs ss e with
        | none => rw [ho] at h; exact (show False from h).elim
        | some o =>
          rw [ho] at h
          intro σ' F' A' H' y rs
          obtain ⟨ss', p1, p2⟩ := r.leave hc2 y rs ho
          exact (show ∀ v F' A' H' fp ss', _ from h) .non F' A' H' E0s ss' y p1 p2 (by simp only [Rp]) Tp.e0 Fr.e0
      | rt d e =>
        rw [hx] at h
        dsimp only at h
        cases ho : outs ss e with
        | none => rw [ho] at h; exact (show False from h).elim
        | some o =>
          rw [ho] at h
          intro v σ' F' A' H' fp y rs rp t fr
          obtain ⟨ss', p1, p2⟩ := r.leave hc2 y rs ho
          exact (show ∀ v F' A' H' fp ss', _ from h) v F' A' H' fp ss' y p1 p2 rp t fr
      | ex c ds e =>
        rw [hx] at h
        dsimp only at h
        cases ho : outs ss e with
        | none => rw [ho] at h; exact (show False from h).elim
        | some o =>
          rw [ho] at h
          intro σ' F' A' H' dx ws y rs h1 h2 h3
          obtain ⟨ss', p1, p2⟩ := r.leave hc2 y rs ho
          exact (show ∀ F' A' H' dx ws ss', _ from h) F' A' H' dx ws ss' y p1 p2 h1 h2 h3
      | bk e => rw [hx] at h; exact (show False from h).elim
      | ct e => rw [hx] at h; exact (show False from h).elim
      | bad => rw [hx] at h; exact (show False from h).elim
end
end Wv

set_option Elab.async false
set_option linter.all false
set_option maxRecDepth 100000
/-! Wv28: an own exception class's __init__: its fields one by one. -/
namespace Wv
open PySem PySem.Spec PyProof.Rows L2
def asIni : Stmt → Option (Expr × Str × Expr)
  | .Assign [.Attribute o n _] y _ => some (o, n, y)
  | _ => none
theorem asIni_ok {st : Stmt} {o y : Expr} {n : Str} (h : asIni st = some (o, n, y)) : ∃ p sp, st = .Assign [.Attribute o n p] y sp := by
  unfold asIni at h
  split at h
  · cases h; exact ⟨_, _, rfl⟩
  · cases h
def nmV (N : List Str) (sc : Scope) (i : Nat) : Expr → Bool
  | .Name x _ => N[i]? == some x && visB sc x && okName x
  | _ => false
theorem nmV_ok {N : List Str} {sc : Scope} {i : Nat} {e : Expr} (h : nmV N sc i e = true) : ∃ n p, e = .Name n p ∧ N[i]? = some n ∧ visB sc n = true ∧ okName n = true := by
  cases e with
  | Name x p =>
    simp only [nmV, Bool.and_eq_true, beq_iff_eq] at h
    exact ⟨x, p, rfl, h.1.1, h.1.2, h.2⟩
  | _ => simp [nmV] at h
def iniB (N : List Str) (sc : Scope) : List String → Nat → List Stmt → Bool
  | [], _, [] => true
  | f :: fs, k, s :: ss => match asIni s with
    | some (o, n, y) => (Str.ofString f == n) && (nmV N sc 0 o && nmV N sc k y) && iniB N sc fs (k + 1) ss
    | none => false
  | _, _, _ => false
section
variable {X : Cx} {sc : Scope} {a C : Addr} {σ : L2.St} {D : Ends}
theorem ini_one (hsc : X.env.scope = sc) (T : OexC X.K C) {f : String} {k : Nat} {s : Stmt} {o y : Expr} {n : Str} {v : V} (hs : asIni s = some (o, n, y)) (hf : Str.ofString f = n) (ho : nmV X.N sc 0 o = true) (hy : nmV X.N sc k y = true)
    (hno : PySem.W.findIn X.K (.ref C) (Str.ofString f) = some none) (h0 : σ[0]? = some (some (.ref a))) (hk : σ[k]? = some (some v)) {H : Hp}
    (q : (H a = some (exo a C none) ∧ ∀ dx, H dx = none → dx ≠ a → D.nx σ (upd (upd H dx (exd dx [(Str.ofString f, v)])) a (exo a C (some dx)))) ∨
      ∃ (dx : Addr) (fs : List (Str × V)), H a = some (exo a C (some dx)) ∧ H dx = some (exd dx fs) ∧ fs.length ≤ 900 ∧ D.nx σ (upd H dx (exd dx ((Str.ofString f, v) :: fs)))) : wS X s D σ H := by
  obtain ⟨p, sp, rfl⟩ := asIni_ok hs
  subst hf
  obtain ⟨n1, p1, rfl, a1, a2, a3⟩ := nmV_ok ho
  obtain ⟨n2, p2, rfl, b1, b2, b3⟩ := nmV_ok hy
  obtain ⟨c1, c2, _⟩ := okName_ok a3
  obtain ⟨d1, d2, _⟩ := okName_ok b3
  exact to_wS (ps_ost (pe_var a1 (visB_ok hsc a2) c1 c2) (pe_var b1 (visB_ok hsc b2) d1 d2)) ⟨v, hk, .ref a, h0, a, C, rfl, T, hno, q⟩
theorem ini_go (hsc : X.env.scope = sc) (T : OexC X.K C) (h0 : σ[0]? = some (some (.ref a))) {dx : Addr} (hne : dx ≠ a) : ∀ (fs : List String) (k : Nat) (ss : List Stmt) (ys : List V) (done : List String) (yd : List V) (H : Hp), iniB X.N sc fs k ss = true → (∀ f ∈ fs, PySem.W.findIn X.K (.ref C) (Str.ofString f) = some none) →
    (∀ i y, ys[i]? = some y → σ[k + i]? = some (some y)) → fs.length = ys.length → done.length = yd.length → done.length + fs.length ≤ 900 → H a = some (exo a C (some dx)) → H dx = some (exd dx ((done.map Str.ofString).zip yd)) →
    (∀ H2, H2 a = some (exo a C (some dx)) → H2 dx = some (exd dx (((fs.reverse ++ done).map Str.ofString).zip (ys.reverse ++ yd))) → (∀ b, b ≠ dx → H2 b = H b) → D.nx σ H2) → wSs X ss D σ H
  | [], k, ss, ys, done, yd, H, hi, hno, hσ, hl, hd, hz, e1, e2, q => by
    cases ss with
    | nil =>
      cases ys with
      | nil => exact to_wSs pss_nil (q H e1 (by simpa using e2) fun _ _ => rfl)
      | cons y ys => simp at hl
    | cons s ss => simp [iniB] at hi
  | f :: fs, k, ss, ys, done, yd, H, hi, hno, hσ, hl, hd, hz, e1, e2, q => by
    cases ss with
    | nil => simp [iniB] at hi
    | cons s ss =>
      cases ys with
      | nil => simp at hl
      | cons y ys =>
        simp only [iniB] at hi
        split at hi
        case h_2 => cases hi
        rename_i o n y' hs
        simp only [Bool.and_eq_true, beq_iff_eq] at hi
        obtain ⟨⟨i1, i2, i3⟩, i4⟩ := hi
        refine to_wSs (pss_cons ps_w pss_w) ?_
        refine ini_one hsc T hs i1 i2 i3 (hno f (by simp)) h0 (hσ 0 y rfl) (.inr ⟨dx, _, e1, e2, by simp; omega, ?_⟩)
        refine ini_go hsc T h0 hne fs (k + 1) ss ys (f :: done) (y :: yd) _ i4 (fun g hg => hno g (by simp [hg])) (fun i z hz => by have := hσ (i + 1) z (by simpa using hz); rwa [show k + 1 + i = k + (i + 1) by omega]) (by simpa using hl) (by simp [hd]) (by simp at hz ⊢; omega) ?_ ?_ ?_
        · rw [upd_ne (Ne.symm hne)]; exact e1
        · rw [upd_same]; rfl
        · intro H2 g1 g2 g3
          exact q H2 g1 (by simpa using g2) fun b hb => by rw [g3 b hb, upd_ne hb]
end
/-- what is looked at for each exception class with fields -/
structure ExcOk (K : PySem.W.Frag) (C fI : Addr) (fl : List String) (fd : FuncData) (ps : List Str) : Prop where
  ex : ∃ (x qual : Str) (params : Arguments) (body : List Stmt) (scope : Scope) (N : List Str), FunD K x qual params body scope [] [] fI fd ∧ FnScope N ps scope ∧ ps.length = fl.length + 1 ∧ iniB N scope fl.reverse 1 body = true
  oex : OexC K C
  ne : fl.isEmpty = false
  le : fl.length ≤ 900
  no : ∀ f ∈ fl, PySem.W.findIn K (.ref C) (Str.ofString f) = some none
theorem exc_init {P : Program} {w : World} {K : PySem.W.Frag} {mg : Str → Option Value} {base : Heap} {C fI : Addr} {fl : List String} {fd : FuncData} {ps : List Str} (h : ExcOk K C fI fl fd ps) : FnOk P w K mg base CX0 1 fI fd ps (spX C fl) := by
  obtain ⟨x, qual, params, body, scope, N, F, S, hl, hi⟩ := h.ex
  refine F.ok (k := 0) S (fun vs H Q E ⟨a, ys, e, l, _⟩ => by subst e; simp [hl, l]) fun cdv A outer s H vs Q E hr ⟨a, ys, e, l, e0, q⟩ => ?_
  subst e
  refine ⟨wSs _ body, pss_w, ?_⟩
  generalize hX : cxOf CX0 P w K mg base N qual scope fI cdv A outer s H E = X
  have hsc : X.env.scope = scope := by rw [← hX]; rfl
  have hN : X.N = N := by rw [← hX]; rfl
  have hK : X.K = K := by rw [← hX]; rfl
  have T : OexC X.K C := by rw [hK]; exact h.oex
  have hst : ∀ i v, (V.ref a :: ys)[i]? = some v → (L2.start N (V.ref a :: ys))[i]? = some (some v) := fun i v hv => by
    unfold L2.start
    have hlt : i < (V.ref a :: ys).length := (List.getElem?_eq_some_iff.mp hv).1
    rw [List.getElem?_append_left (by simpa using hlt), List.getElem?_map, hv]
    rfl
  rw [← hN] at hi
  have hfl : fl.reverse.length = ys.length := by simpa using l.symm
  have hne := h.ne
  have hle := h.le
  have hno := h.no
  rw [← hK] at hno
  have hrev : ∀ f ∈ fl.reverse, PySem.W.findIn X.K (.ref C) (Str.ofString f) = some none := fun f hf => hno f (by simpa using hf)
  have hlen : fl.reverse.length ≤ 900 := by simpa using hle
  have hback : fl = fl.reverse.reverse := by simp
  generalize hfs : fl.reverse = fs at hi hfl hrev hlen hback
  generalize body = ss at hi
  cases fs with
  | nil => rw [hback] at hne; simp at hne
  | cons f fs =>
    cases ys with
    | nil => simp at hfl
    | cons y ys =>
      cases ss with
      | nil => simp [iniB] at hi
      | cons s0 ss =>
        simp only [iniB] at hi
        split at hi
        case h_2 => cases hi
        rename_i o n y' hs
        simp only [Bool.and_eq_true, beq_iff_eq] at hi
        obtain ⟨⟨i1, i2, i3⟩, i4⟩ := hi
        refine to_wSs (pss_cons ps_w pss_w) ?_
        refine ini_one hsc T hs i1 i2 i3 (hrev f (by simp)) (hst 0 _ rfl) (hst 1 y rfl) (.inl ⟨e0, fun dx hd hda => ?_⟩)
        refine ini_go hsc T (hst 0 _ rfl) hda fs 2 ss ys [f] [y] _ i4 (fun g hg => hrev g (by simp [hg])) (fun i z hz => by have := hst (i + 2) z (by simpa using hz); rwa [show 2 + i = i + 2 by omega]) (by simpa using hfl) rfl (by simp at hlen ⊢; omega) ?_ ?_ ?_
        · rw [upd_same]
        · rw [upd_ne hda, upd_same]; rfl
        · intro H2 g1 g2 g3
          refine q H2 dx hd hda g1 (by rw [hback]; simpa using g2) fun b hb hbd => ?_
          rw [g3 b hbd, upd_ne hb, upd_ne hbd]
end Wv

set_option Elab.async false
set_option linter.all false
set_option maxRecDepth 100000
/-! Wv29: what a program's written part must say, as one Bool; a law's head. -/
namespace Wv
open PySem PySem.Spec PyProof.Rows L2
/-- a program as data -/
structure PD where
  fnL : List (String × Fn)
  glL : List (String × D)
  mroL : List (String × List String)
  flL : List (String × List String)
  pl : List String
  ec : List String
  gf : List String
  kws : List (String × Nat × List String)
  mth : List (String × String × String)
def lkp {α : Type} (d : α) : List (String × α) → String → α
  | [], _ => d
  | (k, v) :: r, x => if k = x then v else lkp d r x
def lko {α : Type} : List (String × α) → String → Option α
  | [], _ => none
  | (k, v) :: r, x => if k = x then some v else lko r x
theorem lko_mem {α : Type} {x : String} {v : α} : ∀ {l : List (String × α)}, lko l x = some v → (x, v) ∈ l
  | [], h => by simp [lko] at h
  | (k, u) :: r, h => by
    unfold lko at h
    split at h
    · rename_i e; cases h; subst e; exact List.mem_cons_self
    · exact List.mem_cons_of_mem _ (lko_mem h)
def PD.P (p : PD) : Prog := { fns := lko p.fnL, gl := lko p.glL, mro := lkp [] p.mroL, fl := lkp [] p.flL, pl := p.pl, ec := p.ec, gf := p.gf, kws := p.kws, wf := 1000000 }
section
variable (p : PD) (K : PySem.W.Frag)
def clK (s : String) : Addr := match lko p.mth s with
  | some (c, m) => He.ma K (He.ga K (Str.ofString c)) (Str.ofString m)
  | none => He.ga K (Str.ofString s)
def noM (s : String) : Bool := (lko p.mth s).isNone
def oA (a b : Option (Option Value)) : Bool := decide (a = b)
def oB (a b : Option Bool) : Bool := decide (a = b)
/-- exception classes -/
def oexB (C : Addr) : Bool := (match K.lookup C with
  | some ⟨.type "type", _, .cls cd, sl⟩ => (match cd.mro, sl.toList with
    | .ref C' :: bm, [_, _, _, _, some (.builtin n), _] => (C' == C && n == "ValueError.__new__") && ((!cd.hasDel && cd.hasDict) && PySem.HandSPX.refsVE bm)
    | _, _ => false)
  | _ => false) && (oA (PySem.W.findIn K (.ref C) "__setattr__") (some (some (.builtin "object.__setattr__"))) && (oB (PySem.W.subIn K (.ref C) (.type "BaseException")) (some true) && (decide (PySem.W.typeIn K (.ref C) = some (.type "type")) && PySem.W.keepIn K (.ref C))))
def exfB (C : Addr) (fl : List String) : Bool := ((PySem.W.clsIn K C).isSome && xfB K C) && ((oA (PySem.W.findIn K (.ref C) "__class__") (some (some (.builtin "object.__class__"))) && oA (PySem.W.specialIn K (.builtin "object.__class__") "__get__") (some (some (.builtin "getset_descriptor.__get__")))) &&
  ((oB (PySem.W.takesIn K (.builtin "object.__class__")) (some true) && oB (PySem.W.mroIn K C (.type "object")) (some true)) && fl.all fun f => oA (PySem.W.findIn K (.ref C) (Str.ofString f)) (some none)))
def glB1 : String × D → Bool
  | (x, .int i) => (He.Fa.int (Str.ofString x) i).ok K
  | (x, .str s) => (He.Fa.str (Str.ofString x) s).ok K
  | _ => false
def objB (C : Addr) : Bool := (oA (PySem.W.findIn K (.ref C) "__class__") (some (some (.builtin "object.__class__"))) && oA (PySem.W.specialIn K (.builtin "object.__class__") "__get__") (some (some (.builtin "getset_descriptor.__get__")))) &&
  (oB (PySem.W.takesIn K (.builtin "object.__class__")) (some true) && oB (PySem.W.mroIn K C (.type "object")) (some true))
def factB : Bool :=
  (bNames.all fun b => (He.Fa.free (Str.ofString b)).ok K) &&
  (p.glL.all (glB1 K)) &&
  ((p.pl ++ p.ec).all fun c => noM p c && (He.Fa.glo (Str.ofString c)).ok K) &&
  (p.pl.all fun c => (He.Fa.cls (Str.ofString c)).ok K && objB K (clK p K c)) &&
  (p.pl.all fun c => (lkp [] p.flL c).all fun f => (He.Fa.noat (Str.ofString c) (Str.ofString f)).ok K) &&
  ((p.pl ++ p.ec).all fun c => (five ++ (p.pl ++ p.ec)).all fun t => oB (PySem.W.kitOne K (.ref (clK p K c)) (tv (clK p K) t)) (some ((lkp [] p.mroL c).contains t))) &&
  (["int", "bool", "str", "tuple", "list", "NoneType"].all fun T => (p.pl ++ p.ec).all fun t => (!five.contains t && t != "NoneType") && oB (PySem.W.kitOne K (.type T) (.ref (clK p K t))) (some false)) &&
  (p.gf.all fun f => (noM p f && (He.Fa.glo (Str.ofString f)).ok K) && PySem.W.keepIn K (.ref (clK p K f))) &&
  (p.ec.all fun c => exfB K (clK p K c) (lkp [] p.flL c)) &&
  (p.ec.all fun c => (["ValueError", "Exception"] ++ p.ec).all fun t => oB (PySem.W.exmOne K (.ref (clK p K c)) (tv (clK p K) t)) (some ((lkp [] p.mroL c).contains t))) &&
  (p.pl.all fun c => decide (lko p.mth (c ++ ".__init__") = some (c, "__init__")) && (He.Fa.mkr (Str.ofString c)).ok K) &&
  (p.ec.all fun c => (lkp [] p.flL c).isEmpty || (oexB K (clK p K c) && (decide ((lkp [] p.flL c).length ≤ 900) && (decide (lko p.mth (c ++ ".__init__") = some (c, "__init__")) &&
    (oA (PySem.W.findIn K (.ref (clK p K c)) "__init__") (some (some (.ref (clK p K (c ++ ".__init__"))))) && decide (PySem.W.typeIn K (.ref (clK p K (c ++ ".__init__"))) = some (.type "function")))))))
end
section
variable {p : PD} {K : PySem.W.Frag} {mg : Str → Option Value} {h : Heap}
theorem oexB_ok {C : Addr} (q : oexB K C = true) : OexC K C := by
  unfold oexB at q
  simp only [Bool.and_eq_true, oA, oB, decide_eq_true_eq] at q
  obtain ⟨q, h1, h2, h3, h4⟩ := q
  refine ⟨?_, h1, h2, h3, h4⟩
  split at q
  · rename_i dd cd sl ho
    split at q
    · rename_i C' bm k0 k1 k2 k3 n k5 hm hs
      simp only [Bool.and_eq_true, beq_iff_eq, Bool.not_eq_true'] at q
      obtain ⟨⟨rfl, rfl⟩, ⟨hdel, hdict⟩, ht⟩ := q
      obtain ⟨nm, bs, mro, ns, qn, hd, sn, sub, ab, col, del⟩ := cd
      dsimp only at hm hdel hdict
      subst hm hdel hdict
      have hsl : sl = #[k0, k1, k2, k3, some (.builtin "ValueError.__new__"), k5] := by
        obtain ⟨l⟩ := sl
        simp only at hs
        rw [hs]
      subst hsl
      exact ⟨nm, qn, ns, bs, bm, sn, sub, ab, col, dd, k0, k1, k2, k3, k5, ho, ht⟩
    · cases q
  · cases q
theorem exfB_ok {C : Addr} {fl : List String} (q : exfB K C fl = true) : ExF K C fl := by
  unfold exfB at q
  simp only [Bool.and_eq_true, oA, oB, decide_eq_true_eq, List.all_eq_true] at q
  obtain ⟨⟨h1, h2⟩, ⟨h3, h4⟩, ⟨h5, h6⟩, h7⟩ := q
  exact ⟨h1, xfB_ok h2, h3, h4, h5, h6, fun f hf => h7 f (by simpa using hf)⟩
theorem fl_mem {c : String} (hc : (lkp [] p.flL c).isEmpty = false) : True := trivial
theorem factB_ok (X : K.In h) (G : h.Ns mainGlobals mg) (q : factB p K = true) : ∀ cf, KF (cfg p.P cf) (clK p K) K mg := by
  intro cf
  unfold factB at q
  simp only [Bool.and_eq_true, List.all_eq_true] at q
  obtain ⟨⟨⟨⟨⟨⟨⟨⟨⟨⟨⟨q1, q2⟩, q3⟩, q4⟩, q5⟩, q6⟩, q7⟩, q8⟩, q9⟩, q10⟩, q11⟩, q12⟩ := q
  have clg : ∀ c, noM p c = true → clK p K c = He.ga K (Str.ofString c) := fun c hc => by
    unfold clK
    unfold noM at hc
    cases e : lko p.mth c with
    | none => rfl
    | some v => rw [e] at hc; cases hc
  exact {
    bi := fun b hb => He.free_ok X G (q1 b hb)
    gl := fun x d hd => by
      have hm := q2 _ (lko_mem hd)
      unfold glB1 at hm
      split at hm
      · rename_i x' i' e
        cases e
        obtain ⟨t, ht⟩ := He.int_ok X G hm
        exact ⟨.int i', _, ht, ⟨t, rfl⟩, fun F H => by simp only [Rp]⟩
      · rename_i x' s' e
        cases e
        obtain ⟨t, ht⟩ := He.str_ok X G hm
        exact ⟨.str s', _, ht, ⟨t, rfl⟩, fun F H => by simp only [Rp]⟩
      · cases hm
    cls := fun c hc => by
      have := q3 c (List.mem_append.mpr hc)
      rw [clg c this.1]
      exact He.glo_ok X G this.2
    obj := fun c hc => by
      obtain ⟨a, b⟩ := q4 c hc
      unfold objB at b
      simp only [Bool.and_eq_true, oA, oB, decide_eq_true_eq] at b
      have hn := (q3 c (List.mem_append.mpr (.inl hc))).1
      refine ⟨?_, b.1.1, b.1.2, b.2.1, b.2.2⟩
      rw [clg c hn]
      exact He.cls_ok a
    noat := fun c f hf hc => by
      have hn := (q3 c (List.mem_append.mpr (.inl hc))).1
      rw [clg c hn]
      have hf : (lkp [] p.flL c).contains f = true := hf
      exact He.noat_ok (q5 c hc f (by simpa using hf))
    kit := fun c hc t ht => by
      have := q6 c (List.mem_append.mpr hc) t (by
        rcases ht with ht | ht
        · exact List.mem_append.mpr (.inl (by simpa using ht))
        · exact List.mem_append.mpr (.inr (List.mem_append.mpr ht)))
      exact of_decide_eq_true this
    kitb := fun T hT t ht => by
      have := q7 T hT t (List.mem_append.mpr ht)
      simp only [Bool.and_eq_true, Bool.not_eq_true', bne_iff_ne, oB, decide_eq_true_eq] at this
      exact this
    gff := fun f hf => by
      have hf : p.gf.contains f = true := hf
      obtain ⟨⟨a, b⟩, c⟩ := q8 f (by simpa using hf)
      refine ⟨?_, c⟩
      rw [clg f a]
      exact He.glo_ok X G b
    exx := fun c hc => by
      have hc : p.ec.contains c = true := hc
      exact exfB_ok (q9 c (by simpa using hc))
    exm := fun c hc t ht => by
      have hc : p.ec.contains c = true := hc
      have := q10 c (by simpa using hc) t (by
        unfold excN at ht
        simp only [Bool.or_eq_true, beq_iff_eq] at ht
        have ht : (p.ec.contains t = true ∨ t = "ValueError") ∨ t = "Exception" := ht
        rcases ht with (ht | rfl) | rfl
        · exact List.mem_append.mpr (.inr (by simpa using ht))
        · simp
        · simp)
      exact of_decide_eq_true this
    mkc := fun c hc => by
      obtain ⟨a, b⟩ := q11 c hc
      have hn := (q3 c (List.mem_append.mpr (.inl hc))).1
      have e2 : clK p K (c ++ ".__init__") = He.ma K (He.ga K (Str.ofString c)) "__init__" := by
        unfold clK
        rw [of_decide_eq_true a]
      rw [clg c hn, e2]
      exact He.mkr_ok b }
/-- one def, looked at -/
structure DefC (p : PD) (f : String) (fn : Fn) (d : He.DefD) (N : List Str) : Prop where
  at_ : (match lko p.mth f with | some (c, m) => (Str.ofString c, some (Str.ofString m)) | none => (Str.ofString f, none)) = d.at_
  plain : d.dfl = [] ∧ d.kwd = []
  sc : C8.scC N (fn.ps.map Str.ofString) d.scope = true
  len : N.length = fn.nv ∧ fn.np ≤ fn.nv ∧ fn.ps.length = fn.np
  er : ∀ cf, erTs (cfg p.P cf) N false fn.body d.scope d.body = true
  bind : ∀ (kV doc pm : Value) (an : Option Addr) (cdv ct : Value) (us : List Value), us.length = (fn.ps.map Str.ofString).length → bindArgs (PySem.W.fnOf d.name d.qual d.params d.body d.scope .none kV doc pm an cdv ct) ⟨us, []⟩ = pure ((fn.ps.map Str.ofString).zip us)
  kb : ∀ n ks, p.kws.contains (f, n, ks) = true → ∀ (kV doc pm : Value) (an : Option Addr) (cdv ct : Value) (us ws zs : List Value), us.length = n → ws.length = ks.length → pickL fn.ps ks us ws = some zs →
    bindArgs (PySem.W.fnOf d.name d.qual d.params d.body d.scope .none kV doc pm an cdv ct) ⟨us, (ks.map Str.ofString).zip ws⟩ = pure ((fn.ps.map Str.ofString).zip zs)
/-- one exception class's __init__, looked at -/
structure ExcD (p : PD) (c : String) (d : He.DefD) (N ps : List Str) : Prop where
  at_ : (Str.ofString c, some (Str.ofString "__init__")) = d.at_
  plain : d.dfl = [] ∧ d.kwd = []
  sc : C8.scC N ps d.scope = true
  len : ps.length = (lkp [] p.flL c).length + 1
  ini : iniB N d.scope (lkp [] p.flL c).reverse 1 d.body = true
  bind : ∀ (kV doc pm : Value) (an : Option Addr) (cdv ct : Value) (us : List Value), us.length = ps.length → bindArgs (PySem.W.fnOf d.name d.qual d.params d.body d.scope .none kV doc pm an cdv ct) ⟨us, []⟩ = pure (ps.zip us)
structure ProgD (p : PD) (fn : List He.DefD) : Prop where
  defs : ∀ t ∈ p.fnL, ∃ d N, d ∈ fn ∧ DefC p t.1 t.2 d N
  excs : ∀ c ∈ p.ec, (lkp [] p.flL c).isEmpty = false → ∃ d N ps, d ∈ fn ∧ ExcD p c d N ps
theorem defC_ok {fn : List He.DefD} {f : String} {fnn : Fn} {d : He.DefD} {N : List Str} (hd : d ∈ fn) (dc : DefC p f fnn d N) (c : He.SaysD [] fn K) :
    ∃ fd, DefOk p.P (clK p K) K f fnn fd ∧ ∀ (s : Shared) (us : List Value), us.length = (fnn.ps.map Str.ofString).length → BindsTo s fd ⟨us, []⟩ ((fnn.ps.map Str.ofString).zip us) := by
  obtain ⟨fd, F⟩ := c.defs hd
  have e1 : d.dvs K = [] := by unfold He.DefD.dvs; rw [dc.plain.1]; rfl
  have e2 : d.kws K = [] := by unfold He.DefD.kws; rw [dc.plain.2]; rfl
  have e3 : He.fAd K d.at_ = clK p K f := by
    rw [← dc.at_]
    unfold clK
    cases lko p.mth f with
    | none => rfl
    | some v => rfl
  rw [e1, e2, e3] at F
  refine ⟨fd, ⟨⟨_, _, _, _, _, N, F, C8.fnScope_by dc.sc, dc.len.1, dc.len.2.1, dc.len.2.2, dc.er⟩, F.bindsN dc.bind, fun n ks hk => ?_⟩, fun s us hl => FunD.bindsA F dc.bind s us hl⟩
  intro s us ws zs _ h1 h2 h3
  obtain ⟨oc, od, dV, kV, doc, pm, an, cdv, ct, osl, rfl, lk, hcd, hD, hK⟩ := F.ex
  rcases hD with ⟨_, rfl⟩ | ⟨e, _⟩
  · exact .of_eq (dc.kb n ks hk kV doc pm an cdv ct us ws zs h1 h2 h3)
  · exact absurd rfl e
theorem progD_ok {fn : List He.DefD} (D : ProgD p fn) {prog : Program} {w : World} {base : Heap} (X : K.In h) (G : h.Ns mainGlobals mg) (c : He.SaysD [] fn K) (q : factB p K = true) : ProgOk p.P (clK p K) K mg prog w base where
  kf := factB_ok X G q
  defs := fun f fnn hf => by
    obtain ⟨d, N, hd, dc⟩ := D.defs _ (lko_mem hf)
    obtain ⟨fd, h1, _⟩ := defC_ok hd dc c
    exact ⟨fd, h1⟩
  excs := fun cc hc hfl => by
    have hc' : cc ∈ p.ec := by simpa [PD.P] using hc
    obtain ⟨d, N, ps, hd, dc⟩ := D.excs cc hc' hfl
    obtain ⟨fd, F⟩ := c.defs hd
    have e1 : d.dvs K = [] := by unfold He.DefD.dvs; rw [dc.plain.1]; rfl
    have e2 : d.kws K = [] := by unfold He.DefD.kws; rw [dc.plain.2]; rfl
    unfold factB at q
    simp only [Bool.and_eq_true, List.all_eq_true] at q
    have q12 := q.2 cc hc'
    have q9 := (exfB_ok (q.1.1.1.2 cc hc')).no
    have hfl' : (lkp [] p.flL cc).isEmpty = false := hfl
    rw [hfl', Bool.false_or] at q12
    simp only [Bool.and_eq_true, decide_eq_true_eq, oA] at q12
    obtain ⟨k1, k2, k3, k4, k5⟩ := q12
    have hn := (q.1.1.1.1.1.1.1.1.1.2 cc (List.mem_append.mpr (.inr hc'))).1
    have clg : clK p K cc = He.ga K (Str.ofString cc) := by
      unfold clK
      unfold noM at hn
      cases e : lko p.mth cc with
      | none => rfl
      | some v => rw [e] at hn; cases hn
    have e3 : He.fAd K d.at_ = clK p K (cc ++ ".__init__") := by
      rw [← dc.at_]
      unfold clK
      rw [k3]
      rfl
    rw [e1, e2, e3] at F
    refine ⟨k2, clK p K (cc ++ ".__init__"), fd, ps, oexB_ok k1, k4, k5, exc_init ⟨⟨_, _, _, _, _, N, F, C8.fnScope_by dc.sc, dc.len, dc.ini⟩, oexB_ok k1, hfl', k2, fun f hf => q9 f (by have hf : f ∈ lkp [] p.flL cc := hf; simpa using hf)⟩, F.bindsN dc.bind⟩
end
/-! ### the law -/
def intsD (ns : List Int) : List D := ns.map .int
theorem Rps.intsV {K : PySem.W.Frag} {cl : String → Addr} {F : Sets} {H : Hp} : ∀ ns : List Int, Rps K cl F H (ns.map D.int) (ns.map V.int) E0s
  | [] => by simp only [List.map_nil, Rps]
  | n :: ns => by
    simp only [List.map_cons]
    exact Rps.cons (f := E0s) (g := E0s) (by simp only [Rp]) (Rps.intsV ns) (fun _ z => z.elim) (fun _ z => z) fun _ z => z
theorem law_sp {p : PD} {K : PySem.W.Frag} {N : Nat} {H : Hp} {a : Addr} {ns : List Int} (hS : SqL K H a (ns.map V.int)) (h : callN p.P N "law" [.br (.lst .scr (ns.map .int))] = .ok (.bl true) []) :
    spF K (clK p K) p.P.fl (callN p.P N "law") [.ref a] H (fun v _ => v = .bl true) fun _ _ _ => False := by
  refine ⟨fun b => b = a ∧ H a ≠ none, fun _ => False, [.br (.lst .scr (ns.map .int))], fun _ _ => False, ?_, ?_⟩
  · refine ⟨rfl, fun i d e => ?_, fun i d e => ?_, fun i d e => ?_, fun i d e => ?_, fun i c ns' ds e => ?_, fun _ _ _ _ z => z.elim, fun _ _ z => z.elim, fun b z => ?_, fun _ _ z => z⟩
    · cases i <;> simp at e
    · cases i <;> simp at e
    · cases i with
      | zero =>
        simp at e; subst e
        refine ⟨.ref a, E0s, rfl, ?_, fun _ z => z⟩
        simp only [Rp]
        refine ⟨a, ns.map V.int, rfl, ?_, Rps.intsV ns⟩
        rcases hS with hS | hS
        · refine .inl ⟨⟨rfl, ?_⟩, hS⟩
          rcases hS with hS | ⟨o, hS⟩ <;> (rw [hS]; simp)
        · exact .inr hS
      | succ i => simp at e
    · cases i <;> simp at e
    · cases i <;> simp at e
    · rcases z with ⟨rfl, z⟩ | z
      · exact z
      · exact z.elim
  · rw [h]
    intro v F' A' H' fp ss' _ _ _ rp _ _
    simpa only [Rp] using rp
theorem room40 : Room (2 * 40 + 2) callerA := ⟨rfl, by decide +kernel, by decide +kernel⟩
/-- .. over a head by facts; what may be let out may speak of the world -/
theorem walk_ofW {l : PySem.W.OpenLaw} {n k : Nat} {q : Program} {loose : List Str} {XP : (Str → Option Value) → Heap → Prop} {YP : World → Heap → Prop} {d : DefRec} {CX : World → CXT} {x : Str}
    (hn : l.most = some n) (hn2 : n ≤ sizeLine) (hdf : d.params.defaults = []) (hr : Room k callerA)
    (F : ∀ (w : World) (mg : Str → Option Value) (fa : Addr) (h : Heap), YP w h → h.Ns mainGlobals mg → mg d.name = some (.ref fa) →
      ∃ (K : PySem.W.Frag) (fd : FuncData) (sp : Sp), K.In h ∧ (∀ (s : Shared) (u : Value), BindsTo s fd ⟨[u], []⟩ [(x, u)]) ∧
        (∀ (H : Hp) (a : Addr) (ns : List Int), ns.length ≤ n → SqL K H a (ns.map V.int) → sp [.ref a] H (fun v _ => v = .bl true) fun _ _ _ => False) ∧
        ∀ base : Heap, K.In base → base.Ns mainGlobals mg → FnOk l.prog w K mg base (CX w) k fa fd [x] sp)
    (hCX : ∀ (w : World) (H : Hp) (s : Shared) (e : Value) (s' : Shared), CX w [] H s (fun _ _ _ => False) e s' → False) :
    PySem.W.WalkO q loose XP YP l.row.toRowW d [] (fun f vs => PySem.call f vs) := by
  refine Att.attach_call hn hdf fun w s₀ s₁ mg mb fa o pm cd doc a vs ns G Y ho hd hcd hmg hobj hints hlen hg => ?_
  obtain ⟨K, fd, sp, KX, hb, hsp, hF⟩ := F w mg fa _ Y G.T.g hmg
  exact law_call KX G.T.g G.T.b G.T.builtins G.T.nolimit hg hobj hints (Nat.le_trans hlen hn2) hr hF hb (fun H hO hS => hsp H a ns hlen hS) fun H e s' => hCX w H s₁ e s'
/-- a law from its plain law -/
theorem law_walk {l : PySem.W.OpenLaw} {p : PD} {fn : List He.DefD} {q : Program} {loose : List Str} {XP : (Str → Option Value) → Heap → Prop} {d : DefRec} {N n : Nat} {f0 : Fn}
    (hn : l.most = some n) (hn2 : n ≤ sizeLine) (hdf : d.params.defaults = []) (hr : Room (2 * N + 2) callerA) (hd : d.name = Str.ofString "law") (D : ProgD p fn) (hf : lko p.fnL "law" = some f0) (hps : f0.ps = ["script"]) (hm : p.gf.contains "law" = true)
    (plain : ∀ ns : List Int, ns.length ≤ n → callN p.P N "law" [.br (.lst .scr (ns.map .int))] = .ok (.bl true) []) :
    PySem.W.WalkO q loose XP (He.hookX 5 [] fn [] [] (factB p)).says l.row.toRowW d [] (fun f vs => PySem.call f vs) := by
  refine walk_ofW (x := Str.ofString "script") (CX := fun w => L2.CX l.prog w) hn hn2 hdf hr (fun w mg fa h Y G hmg => ?_) (fun w H s e s' ⟨_, _, _, _, _, _, _, _, _, _, _, _, z⟩ => z)
  obtain ⟨K, KX, c⟩ := Y
  rw [hd] at hmg
  have ok : ∀ base, ProgOk p.P (clK p K) K mg l.prog w base := fun base => progD_ok D KX G c.t.d c.more
  obtain ⟨d0, N0, hd0, dc⟩ := D.defs _ (lko_mem hf)
  obtain ⟨fd, dk, hb⟩ := defC_ok hd0 dc c.t.d
  have e1 : clK p K "law" = fa := by
    have z := (((ok h).kf (fun _ _ => .bad)).gff "law" hm).1
    rw [hmg] at z
    cases z
    rfl
  refine ⟨K, fd, spF K (clK p K) p.P.fl (callN p.P N "law"), KX, fun s u => by have := hb s [u] (by rw [hps]; rfl); rw [hps] at this; exact this, fun H a ns hl hS => law_sp hS (plain ns hl), fun base hKb hGb => ?_⟩
  have F := fn_all (ok base) N "law" f0 fd hf dk
  rw [e1, hps] at F
  exact F
end Wv

set_option Elab.async false
set_option linter.all false
set_option maxRecDepth 100000
/-! Wv30: tools for plain laws: the evaluator by equations. -/
namespace Wv
open PySem (Str Operator UnaryOp CmpOp)
section
variable {G : Cfg} {α β : Type}
@[simp] theorem res_bind_ok {a : α} {e : Env} {f : α → Env → Res β} : (Res.ok a e).bind f = f a e := (rfl)
@[simp] theorem res_bind_ex {c : String} {ds : List D} {e : Env} {f : α → Env → Res β} : (Res.ex c ds e : Res α).bind f = .ex c ds e := (rfl)
@[simp] theorem res_bind_bad {f : α → Env → Res β} : (Res.bad : Res α).bind f = .bad := (rfl)
@[simp] theorem res_st_ok {a : α} {e : Env} {f : α → Env → SR} : (Res.ok a e).st f = f a e := (rfl)
@[simp] theorem res_st_ex {c : String} {ds : List D} {e : Env} {f : α → Env → SR} : (Res.ex c ds e : Res α).st f = .ex c ds e := (rfl)
@[simp] theorem res_of_some {a : α} {e : Env} : Res.of (some a) e = .ok a e := (rfl)
@[simp] theorem sr_then_nx {e : Env} {f : Env → SR} : (SR.nx e).then f = f e := (rfl)
@[simp] theorem sr_then_rt {d : D} {e : Env} {f : Env → SR} : (SR.rt d e).then f = .rt d e := (rfl)
@[simp] theorem sr_then_ex {c : String} {ds : List D} {e : Env} {f : Env → SR} : (SR.ex c ds e).then f = .ex c ds e := (rfl)
@[simp] theorem sr_then_bk {e : Env} {f : Env → SR} : (SR.bk e).then f = .bk e := (rfl)
@[simp] theorem sr_then_ct {e : Env} {f : Env → SR} : (SR.ct e).then f = .ct e := (rfl)
@[simp] theorem sr_then_bad {f : Env → SR} : SR.bad.then f = .bad := (rfl)
@[simp] theorem sr_of_some {e : Env} : SR.of (some e) = .nx e := (rfl)
@[simp] theorem mapE_nx {e : Env} {f : Env → Env} : (SR.nx e).mapE f = .nx (f e) := (rfl)
@[simp] theorem mapE_rt {d : D} {e : Env} {f : Env → Env} : (SR.rt d e).mapE f = .rt d (f e) := (rfl)
@[simp] theorem mapE_ex {c : String} {ds : List D} {e : Env} {f : Env → Env} : (SR.ex c ds e).mapE f = .ex c ds (f e) := (rfl)
@[simp] theorem noEx_nx {e : Env} : noEx (.nx e) = .nx e := (rfl)
@[simp] theorem noEx_rt {d : D} {e : Env} : noEx (.rt d e) = .rt d e := (rfl)
@[simp] theorem ite_ok {c : Prop} [Decidable c] {a b : α} : True = True := (rfl)
/-! ### quiet -/
@[simp] theorem qv_non {e : Env} : qv G .non e = some .non := by simp only [qv]
@[simp] theorem qv_tr {b : Bool} {e : Env} : qv G (.tr b) e = some (.bl b) := by simp only [qv]
@[simp] theorem qv_int {i : Int} {e : Env} : qv G (.int i) e = some (.int i) := by simp only [qv]
@[simp] theorem qv_str {s : String} {e : Env} : qv G (.str s) e = some (.str (Str.ofString s)) := by simp only [qv]
@[simp] theorem qv_var {i : Nat} {e : Env} : qv G (.var i) e = getS e i := by simp only [qv]
@[simp] theorem qv_glob {x : String} {e : Env} : qv G (.glob x) e = G.gl x := by simp only [qv]
@[simp] theorem qv_bin {op : Operator} {a b : Qx} {e : Env} : qv G (.bin op a b) e = ((qv G a e).bind fun x => (qv G b e).bind fun y => (binD op x y).map D.fz0) := by simp only [qv] <;> rfl
@[simp] theorem qv_un {op : UnaryOp} {a : Qx} {e : Env} : qv G (.un op a) e = ((qv G a e).bind fun x => unD op x) := by simp only [qv] <;> rfl
@[simp] theorem qv_nt {a : Qx} {e : Env} : qv G (.nt a) e = ((qv G a e).bind fun x => (truD x).bind fun t => some (.bl (!t))) := by simp only [qv] <;> rfl
@[simp] theorem qv_cmp {op : CmpOp} {a b : Qx} {e : Env} : qv G (.cmp op a b) e = ((qv G a e).bind fun x => (qv G b e).bind fun y => (cmpD op x y).bind fun t => some (.bl t)) := by simp only [qv] <;> rfl
@[simp] theorem qv_ch2 {o1 o2 : CmpOp} {a b c : Qx} {e : Env} : qv G (.ch2 o1 o2 a b c) e = ((qv G a e).bind fun x => (qv G b e).bind fun y => (cmpD o1 x y).bind fun t => if t then (qv G c e).bind fun z => (cmpD o2 y z).bind fun u => some (.bl u) else some (.bl false)) := by simp only [qv] <;> rfl
@[simp] theorem qv_and {es : List Qx} {e : Env} : qv G (.and es) e = qand G es e := by simp only [qv]
@[simp] theorem qv_or {es : List Qx} {e : Env} : qv G (.or es) e = qor G es e := by simp only [qv]
@[simp] theorem qv_ite {c a b : Qx} {e : Env} : qv G (.ite c a b) e = ((qt G c e).bind fun t => if t then qv G a e else qv G b e) := by simp only [qv] <;> rfl
@[simp] theorem qv_idx {a i : Qx} {e : Env} : qv G (.idx a i) e = ((qv G a e).bind fun x => (qv G i e).bind fun y => idxD x y) := by simp only [qv] <;> rfl
@[simp] theorem qv_slc {a : Qx} {lo hi : Option Qx} {e : Env} : qv G (.slc a lo hi) e = ((qv G a e).bind fun x => (qo G lo e).bind fun l => (qo G hi e).bind fun h => (slcD x l h).map D.fz0) := by simp only [qv] <;> rfl
@[simp] theorem qv_attr {a : Qx} {f : String} {e : Env} : qv G (.attr a f) e = ((qv G a e).bind fun x => attrD G x f) := by simp only [qv] <;> rfl
@[simp] theorem qv_tup {es : List Qx} {e : Env} : qv G (.tup es) e = ((qvs G es e).bind fun ds => if stbs ds && fits ds.length then some (.tup ds) else none) := by simp only [qv] <;> rfl
@[simp] theorem qv_lst {es : List Qx} {e : Env} : qv G (.lst es) e = ((qvs G es e).bind fun ds => if stbs ds && fits ds.length then some (.lst .fro ds) else none) := by simp only [qv] <;> rfl
@[simp] theorem qv_bi {f : String} {es : List Qx} {e : Env} : qv G (.bi f es) e = if G.hot && f != "len" then none else ((qvs G es e).bind fun ds => (biD f ds).map D.fz0) := by simp only [qv] <;> rfl
@[simp] theorem qv_isi {a : Qx} {cs : List String} {e : Env} : qv G (.isi a cs) e = ((qv G a e).bind fun x => (isiD G x cs).bind fun t => some (.bl t)) := by simp only [qv] <;> rfl
@[simp] theorem qv_xf {i : Nat} {f : String} {e : Env} : qv G (.xf i f) e = xfD G e i f := by simp only [qv]
@[simp] theorem qv_xi {i : Nat} {cs : List String} {e : Env} : qv G (.xi i cs) e = (xiD G e i cs).map .bl := by simp only [qv]
@[simp] theorem qvs_nil {e : Env} : qvs G [] e = some [] := by simp only [qvs]
@[simp] theorem qvs_cons {x : Qx} {xs : List Qx} {e : Env} : qvs G (x :: xs) e = ((qv G x e).bind fun d => (qvs G xs e).bind fun ds => some (d :: ds)) := by simp only [qvs] <;> rfl
@[simp] theorem qo_none {e : Env} : qo G none e = some none := by simp only [qo]
@[simp] theorem qand_one {x : Qx} {e : Env} : qand G [x] e = qv G x e := by simp only [qand]
@[simp] theorem qand_cons {x y : Qx} {xs : List Qx} {e : Env} : qand G (x :: y :: xs) e = ((qv G x e).bind fun d => match d with
    | .bl true => qand G (y :: xs) e
    | .bl false => some (.bl false)
    | _ => none) := by simp only [qand] <;> rfl
@[simp] theorem qor_one {x : Qx} {e : Env} : qor G [x] e = qv G x e := by simp only [qor]
@[simp] theorem qor_cons {x y : Qx} {xs : List Qx} {e : Env} : qor G (x :: y :: xs) e = ((qv G x e).bind fun d => match d with
    | .bl false => qor G (y :: xs) e
    | .bl true => some (.bl true)
    | _ => none) := by simp only [qor] <;> rfl
@[simp] theorem qo_some {x : Qx} {e : Env} : qo G (some x) e = (qv G x e).bind fun d => match d with
    | .int i => some (some i)
    | _ => none := by simp only [qo] <;> rfl
theorem qo_int {x : Qx} {e : Env} {i : Int} (h : qv G x e = some (.int i)) : qo G (some x) e = some (some i) := by simp only [qo, h] <;> rfl
@[simp] theorem qt_nt {a : Qx} {e : Env} : qt G (.nt a) e = ((qt G a e).bind fun t => some (!t)) := by simp only [qt] <;> rfl
@[simp] theorem qt_and {es : List Qx} {e : Env} : qt G (.and es) e = qtand G es e := by simp only [qt]
@[simp] theorem qt_or {es : List Qx} {e : Env} : qt G (.or es) e = qtor G es e := by simp only [qt]
@[simp] theorem qt_var {i : Nat} {e : Env} : qt G (.var i) e = ((getS e i).bind fun d => truD d) := by simp only [qt] <;> rfl
@[simp] theorem qt_cmp {op : CmpOp} {a b : Qx} {e : Env} : qt G (.cmp op a b) e = ((qv G a e).bind fun x => (qv G b e).bind fun y => cmpD op x y) := by simp only [qt] <;> rfl
@[simp] theorem qt_ch2 {o1 o2 : CmpOp} {a b c : Qx} {e : Env} : qt G (.ch2 o1 o2 a b c) e = ((qv G a e).bind fun x => (qv G b e).bind fun y => (cmpD o1 x y).bind fun t => if t then (qv G c e).bind fun z => cmpD o2 y z else some false) := by simp only [qt] <;> rfl
@[simp] theorem qt_isi {a : Qx} {cs : List String} {e : Env} : qt G (.isi a cs) e = ((qv G a e).bind fun x => isiD G x cs) := by simp only [qt] <;> rfl
@[simp] theorem qt_xi {i : Nat} {cs : List String} {e : Env} : qt G (.xi i cs) e = xiD G e i cs := by simp only [qt]
@[simp] theorem qt_tr {b : Bool} {e : Env} : qt G (.tr b) e = some b := by simp only [qt]
@[simp] theorem qt_idx {a i : Qx} {e : Env} : qt G (.idx a i) e = ((qv G a e).bind fun x => (qv G i e).bind fun y => (idxD x y).bind truD) := by simp only [qt] <;> rfl
@[simp] theorem qt_attr {a : Qx} {f : String} {e : Env} : qt G (.attr a f) e = ((qv G a e).bind fun x => (attrD G x f).bind truD) := by simp only [qt] <;> rfl
@[simp] theorem qt_bin {op : Operator} {a b : Qx} {e : Env} : qt G (.bin op a b) e = ((qv G a e).bind fun x => (qv G b e).bind fun y => (binD op x y).bind truD) := by simp only [qt] <;> rfl
@[simp] theorem qtand_one {x : Qx} {e : Env} : qtand G [x] e = qt G x e := by simp only [qtand]
@[simp] theorem qtand_cons {x y : Qx} {xs : List Qx} {e : Env} : qtand G (x :: y :: xs) e = ((qt G x e).bind fun t => if t then qtand G (y :: xs) e else some false) := by simp only [qtand] <;> rfl
@[simp] theorem qtor_one {x : Qx} {e : Env} : qtor G [x] e = qt G x e := by simp only [qtor]
@[simp] theorem qtor_cons {x y : Qx} {xs : List Qx} {e : Env} : qtor G (x :: y :: xs) e = ((qt G x e).bind fun t => if t then some true else qtor G (y :: xs) e) := by simp only [qtor] <;> rfl
/-! ### with effects -/
@[simp] theorem ev_q' {x : Qx} {e : Env} : ev G (.q x) e = match qv G x e with
    | some d => if d.stb then .ok d e else .bad
    | none => .bad := by simp only [ev] <;> rfl
@[simp] theorem ev_fr' {x : Ex} {e : Env} : ev G (.fr x) e = (ev G x e).bind fun d e => .ok (if d.stb then d else d.froz) e := by simp only [ev]
@[simp] theorem ev_bin' {op : Operator} {a b : Ex} {e : Env} : ev G (.bin op a b) e = (lk G a (isQ b) e).bind fun x e => (lk G b true e).bind fun y e => match binD op x y with
      | some d => if d.fresh then .ok d e else .bad
      | none => .bad := by simp only [ev] <;> rfl
@[simp] theorem ev_nt' {a : Ex} {e : Env} : ev G (.nt a) e = (lk G a true e).bind fun x e => Res.of ((truD x).map fun b => .bl (!b)) e := by simp only [ev]
@[simp] theorem ev_cmp' {op : CmpOp} {a b : Ex} {e : Env} : ev G (.cmp op a b) e = (lk G a (isQ b) e).bind fun x e => (lk G b true e).bind fun y e => Res.of ((cmpD op x y).map .bl) e := by simp only [ev]
@[simp] theorem ev_and' {es : List Ex} {e : Env} : ev G (.and es) e = evand G es e := by simp only [ev]
@[simp] theorem ev_or' {es : List Ex} {e : Env} : ev G (.or es) e = evor G es e := by simp only [ev]
@[simp] theorem ev_ite' {c a b : Ex} {e : Env} : ev G (.ite c a b) e = (te G c e).bind fun t e => if t then ev G a e else ev G b e := by simp only [ev]
@[simp] theorem ev_idx' {a i : Ex} {e : Env} : ev G (.idx a i) e = (ev G a e).bind fun x e => (lk G i true e).bind fun y e => Res.of (idxD x y) e := by simp only [ev]
@[simp] theorem ev_slc' {a : Ex} {lo hi : Option Qx} {e : Env} : ev G (.slc a lo hi) e = (lk G a true e).bind fun x e => match qo G lo e, qo G hi e with
      | some l, some h => match slcD x l h with
        | some d => if d.fresh then .ok d e else .bad
        | none => .bad
      | _, _ => .bad := by simp only [ev] <;> rfl
@[simp] theorem ev_tup' {es : List Ex} {e : Env} : ev G (.tup es) e = (evs G es e).bind fun ds e => if fits ds.length then .ok (.tup ds) e else .bad := by simp only [ev]
@[simp] theorem ev_lst' {es : List Ex} {e : Env} : ev G (.lst es) e = (evs G es e).bind fun ds e => if fits ds.length then .ok (.lst .own ds) e else .bad := by simp only [ev]
@[simp] theorem ev_bi' {f : String} {es : List Ex} {e : Env} : ev G (.bi f es) e = if G.hot && f != "len" then .bad else (lks G es e).bind fun ds e => match biD f ds with
      | some d => if d.fresh then .ok d e else .bad
      | none => .bad := by simp only [ev] <;> rfl
@[simp] theorem ev_mv' {i : Nat} {e : Env} : ev G (.mv i) e = match e[i]? with
    | some (.me d) => .ok d (e.set i .no)
    | _ => .bad := by simp only [ev] <;> rfl
@[simp] theorem ev_fz' {is : List Nat} {x : Qx} {e : Env} : ev G (.fz is x) e = match qv G x e with
    | some d => if d.stb then .ok d e else match freeze e is with
      | some e' => match qv G x e' with
        | some d => if d.stb then .ok d e' else .bad
        | none => .bad
      | none => .bad
    | none => .bad := by simp only [ev] <;> rfl
@[simp] theorem evs_nil' {e : Env} : evs G [] e = .ok [] e := by simp only [evs]
@[simp] theorem evs_cons' {x : Ex} {xs : List Ex} {e : Env} : evs G (x :: xs) e = (ev G x e).bind fun d e => (evs G xs e).bind fun ds e => .ok (d :: ds) e := by simp only [evs]
@[simp] theorem lks_nil' {e : Env} : lks G [] e = .ok [] e := by simp only [lks]
@[simp] theorem lks_cons' {x : Ex} {xs : List Ex} {e : Env} : lks G (x :: xs) e = (lk G x (quiets xs) e).bind fun d e => (lks G xs e).bind fun ds e => .ok (d :: ds) e := by simp only [lks]
@[simp] theorem lk_q' {x : Qx} {v : Bool} {e : Env} : lk G (.q x) v e = match qv G x e with
    | some d => if v || d.stb then .ok d e else .bad
    | none => .bad := by simp only [lk] <;> rfl
theorem lk_ev {x : Ex} {v : Bool} {e : Env} (h : isQ x = false) : lk G x v e = ev G x e := lk_ne h
@[simp] theorem lk_fr' {x : Ex} {v : Bool} {e : Env} : lk G (.fr x) v e = ev G (.fr x) e := lk_ne rfl
@[simp] theorem lk_call' {f : String} {es : List Ex} {ks : List String} {v : Bool} {e : Env} : lk G (.call f es ks) v e = ev G (.call f es ks) e := lk_ne rfl
@[simp] theorem lk_comp' {own : List Nat} {p : Pat} {s : Src} {ifs : List Ex} {elt : Ex} {v : Bool} {e : Env} : lk G (.comp own p s ifs elt) v e = ev G (.comp own p s ifs elt) e := lk_ne rfl
@[simp] theorem lk_bin' {op : Operator} {a b : Ex} {v : Bool} {e : Env} : lk G (.bin op a b) v e = ev G (.bin op a b) e := lk_ne rfl
@[simp] theorem lk_cmp' {op : CmpOp} {a b : Ex} {v : Bool} {e : Env} : lk G (.cmp op a b) v e = ev G (.cmp op a b) e := lk_ne rfl
@[simp] theorem lk_bi' {f : String} {es : List Ex} {v : Bool} {e : Env} : lk G (.bi f es) v e = ev G (.bi f es) e := lk_ne rfl
@[simp] theorem lk_mv' {i : Nat} {v : Bool} {e : Env} : lk G (.mv i) v e = ev G (.mv i) e := lk_ne rfl
@[simp] theorem lk_lst' {es : List Ex} {v : Bool} {e : Env} : lk G (.lst es) v e = ev G (.lst es) e := lk_ne rfl
@[simp] theorem lk_tup' {es : List Ex} {v : Bool} {e : Env} : lk G (.tup es) v e = ev G (.tup es) e := lk_ne rfl
@[simp] theorem lk_idx' {a b : Ex} {v : Bool} {e : Env} : lk G (.idx a b) v e = ev G (.idx a b) e := lk_ne rfl
@[simp] theorem lk_slc' {a : Ex} {lo hi : Option Qx} {v : Bool} {e : Env} : lk G (.slc a lo hi) v e = ev G (.slc a lo hi) e := lk_ne rfl
@[simp] theorem evand_one' {x : Ex} {e : Env} : evand G [x] e = ev G x e := by simp only [evand]
@[simp] theorem evand_cons' {x y : Ex} {xs : List Ex} {e : Env} : evand G (x :: y :: xs) e = (ev G x e).bind fun d e => match d with
    | .bl true => evand G (y :: xs) e
    | .bl false => .ok (.bl false) e
    | _ => .bad := by simp only [evand] <;> rfl
@[simp] theorem evor_one' {x : Ex} {e : Env} : evor G [x] e = ev G x e := by simp only [evor]
@[simp] theorem evor_cons' {x y : Ex} {xs : List Ex} {e : Env} : evor G (x :: y :: xs) e = (ev G x e).bind fun d e => match d with
    | .bl false => evor G (y :: xs) e
    | .bl true => .ok (.bl true) e
    | _ => .bad := by simp only [evor] <;> rfl
@[simp] theorem te_q' {x : Qx} {e : Env} : te G (.q x) e = Res.of (qt G x e) e := by simp only [te]
@[simp] theorem te_nt' {x : Ex} {e : Env} : te G (.nt x) e = (te G x e).bind fun t e => .ok (!t) e := by simp only [te]
@[simp] theorem te_and' {es : List Ex} {e : Env} : te G (.and es) e = teand G es e := by simp only [te]
@[simp] theorem te_or' {es : List Ex} {e : Env} : te G (.or es) e = teor G es e := by simp only [te]
@[simp] theorem te_cmp' {op : CmpOp} {a b : Ex} {e : Env} : te G (.cmp op a b) e = (lk G a (isQ b) e).bind fun x e => (lk G b true e).bind fun y e => Res.of (cmpD op x y) e := by simp only [te]
@[simp] theorem te_call' {f : String} {es : List Ex} {ks : List String} {e : Env} : te G (.call f es ks) e = (ev G (.call f es ks) e).bind fun d e => Res.of (truD d) e := by simp only [te]
@[simp] theorem te_bi' {f : String} {es : List Ex} {e : Env} : te G (.bi f es) e = (ev G (.bi f es) e).bind fun d e => Res.of (truD d) e := by simp only [te]
@[simp] theorem teand_one' {x : Ex} {e : Env} : teand G [x] e = te G x e := by simp only [teand]
@[simp] theorem teand_cons' {x y : Ex} {xs : List Ex} {e : Env} : teand G (x :: y :: xs) e = (te G x e).bind fun t e => if t then teand G (y :: xs) e else .ok false e := by simp only [teand]
@[simp] theorem teor_one' {x : Ex} {e : Env} : teor G [x] e = te G x e := by simp only [teor]
@[simp] theorem teor_cons' {x y : Ex} {xs : List Ex} {e : Env} : teor G (x :: y :: xs) e = (te G x e).bind fun t e => if t then .ok true e else teor G (y :: xs) e := by simp only [teor]
@[simp] theorem tes_nil' {e : Env} : tes G [] e = .ok true e := by simp only [tes]
@[simp] theorem tes_cons' {x : Ex} {xs : List Ex} {e : Env} : tes G (x :: xs) e = (te G x e).bind fun t e => if t then tes G xs e else .ok false e := by simp only [tes]
/-! ### statements -/
@[simp] theorem execs_nil' {h : Bool} {e : Env} : execs G h [] e = .nx e := by simp only [execs]
@[simp] theorem execs_cons' {h : Bool} {s : St} {ss : List St} {e : Env} : execs G h (s :: ss) e = (exec G h s e).then fun e => execs G h ss e := by simp only [execs]
@[simp] theorem exec_asg' {p : Pat} {x : Ex} {e : Env} : exec G false (.asg p x) e = (ev G x e).st fun d e => SR.of (asgP p d e) := by simp only [exec] <;> rfl
@[simp] theorem exec_expr' {x : Ex} {e : Env} : exec G false (.expr x) e = (ev G x e).st fun _ e => .nx e := by simp only [exec] <;> rfl
@[simp] theorem exec_ret' {x : Ex} {e : Env} : exec G false (.ret x) e = (ev G x e).st fun d e => .rt d e := by simp only [exec] <;> rfl
@[simp] theorem exec_retH {x : Ex} {e : Env} : exec G true (.ret x) e = (ev (hotG G) x e).st fun d e => .rt d e := by simp only [exec] <;> rfl
@[simp] theorem exec_retN' {h : Bool} {e : Env} : exec G h .retN e = .rt .non e := by simp only [exec]
@[simp] theorem exec_if' {c : Ex} {a b : List St} {e : Env} : exec G false (.ifS c a b) e = (te G c e).st fun t e => if t then execs G false a e else execs G false b e := by simp only [exec] <;> rfl
@[simp] theorem exec_ifH {c : Ex} {a b : List St} {e : Env} : exec G true (.ifS c a b) e = (te (hotG G) c e).st fun t e => if t then execs G true a e else execs G true b e := by simp only [exec] <;> rfl
@[simp] theorem exec_setA' {x : Nat} {f : String} {y : Ex} {e : Env} : exec G false (.setA x f y) e = (ev G y e).st fun d e => match updS e x [] (fun o => match o with
      | .obj .own c ns vs => if (G.fl c).contains f && (G.pl.contains c && decide (ns.length < 1000)) then some (.non, .obj .own c (putFld ns vs f d).1 (putFld ns vs f d).2) else none
      | _ => none) with
    | some (_, e') => .nx e'
    | none => .bad := by
  simp only [exec, Bool.false_eq_true, if_false] <;> rfl
@[simp] theorem exec_setI' {x : Nat} {i : Qx} {y : Ex} {e : Env} : exec G false (.setI x [] i y) e = (ev G y e).st fun d e => match qv G i e with
    | some k => (match updS e x [] (fun o => (setD o k d).map fun o' => (.non, o')) with
      | some (_, e') => .nx e'
      | none => .bad)
    | none => .bad := by
  simp only [exec, List.isEmpty_nil, Bool.not_true, Bool.false_and, Bool.false_eq_true, if_false, pels]
  cases ev G y e with
  | ok d e1 =>
    simp only [res_st_ok]
    cases qv G i e1 with
    | none => rfl
    | some k => rfl
  | _ => rfl
@[simp] theorem exec_augV' {x : Nat} {op : Operator} {y : Ex} {e : Env} : exec G false (.augV x op y) e = match e[x]? with
    | some (.me (.int i)) => (ev G y e).st fun d e => match binD op (.int i) d with
      | some r => SR.of (setS e x r)
      | none => .bad
    | _ => .bad := by simp only [exec, Bool.false_eq_true, if_false] <;> rfl
theorem isM_app {o : Option D} : isM "append" o = isL o := by cases o with
  | none => rfl
  | some d => cases d <;> rfl
theorem exec_append {x : Nat} {y : Ex} {e e1 : Env} {d : D} {xs : List D} (h : ev G y e = .ok d e1) (h0 : isL (getS e x) = true) (hx : e1[x]? = some (.me (.lst .own xs))) (hl : xs.length < 16777216) : exec G false (.expr (.mm x [] "append" [y])) e = .nx (e1.set x (.me (.lst .own (xs ++ [d])))) := by
  simp only [exec_expr', ev, List.isEmpty_nil, Bool.not_true, Bool.false_and, Bool.false_eq_true, if_false, isM_app, h0, Bool.not_true, pels, evs_cons', evs_nil', h, res_bind_ok, updS, hx, updAt, mmD_app, mmApp, if_pos hl, Option.map_some, res_st_ok]
@[simp] theorem exec_brk' {h : Bool} {e : Env} : exec G h .brk e = .bk e := by simp only [exec]
@[simp] theorem exec_cnt' {h : Bool} {e : Env} : exec G h .cnt e = .ct e := by simp only [exec]
@[simp] theorem exec_pas' {h : Bool} {e : Env} : exec G h .pas e = .nx e := by simp only [exec]
@[simp] theorem exec_rais' {c : String} {es : List Ex} {e : Env} : exec G false (.rais c es) e = (evs G es e).st fun ds e => if (G.fl c).length = ds.length then .ex c (frozs ds).reverse e else .bad := by simp only [exec] <;> rfl
@[simp] theorem exec_try' {b : List St} {hs : List Hd} {e : Env} : exec G false (.tryS b hs) e = match execs G false b e with
    | .ex c ds e => handle G hs c ds e
    | r => r := by simp only [exec] <;> rfl
/-- a loop's turn; what is behind it -/
def forB (G : Cfg) (p : Pat) (b : List St) (x : D) (e : Env) : SR := match bindP p x e with
  | some e => execs G false b e
  | none => .bad
def aft (e0 : Env) (p : Pat) (rs : List Nat) (e : Env) : Env := Wv.unlock e0 (clearP e (patV p)) rs
@[simp] theorem exec_for' {p : Pat} {s : Src} {b : List St} {e : Env} : exec G false (.forS p s b) e = (src G s e).st fun pr e0 => if noLk e0 (patV p) then (forL (forB G p b) pr.1 (lock e0 pr.2)).mapE (aft e0 p pr.2) else .bad := by
  simp only [exec, Bool.false_eq_true, if_false]
  cases src G s e with
  | ok a e1 =>
    obtain ⟨is, rs⟩ := a
    simp only [res_st_ok]
    cases noLk e1 (patV p) <;> rfl
  | _ => rfl
theorem aft_len {e0 : Env} {p : Pat} {rs : List Nat} {e : Env} : (aft e0 p rs e).length = e.length := by
  unfold aft
  rw [unlock_len, clear_len]
@[simp] theorem handle_cons' {cs : List String} {b : List St} {hs : List Hd} {c : String} {ds : List D} {e : Env} : handle G (.mk cs none b :: hs) c ds e = if !G.ec.contains c then .bad else if catches G.mro c cs then noEx (execs G true b e) else handle G hs c ds e := by simp only [handle]
/-! ### values -/
theorem fits_of {n : Nat} (h : n ≤ 16777216) : fits n = true := decide_eq_true h
@[simp] theorem fz0_int {i : Int} : (D.int i).fz0 = .int i := (rfl)
@[simp] theorem fz0_bl {i : Bool} : (D.bl i).fz0 = .bl i := (rfl)
@[simp] theorem fz0_tup {xs : List D} : (D.tup xs).fz0 = .tup xs := (rfl)
@[simp] theorem fz0_str {s : Str} : (D.str s).fz0 = .str s := (rfl)
@[simp] theorem fz0_own {xs : List D} : (D.lst .own xs).fz0 = .lst .fro xs := (rfl)
@[simp] theorem stb_int {i : Int} : (D.int i).stb = true := by simp only [D.stb]
@[simp] theorem stb_bl {i : Bool} : (D.bl i).stb = true := by simp only [D.stb]
@[simp] theorem stb_str {i : Str} : (D.str i).stb = true := by simp only [D.stb]
@[simp] theorem stb_non : (D.non).stb = true := by simp only [D.stb]
@[simp] theorem stb_tup {xs : List D} : (D.tup xs).stb = stbs xs := by simp only [D.stb]
@[simp] theorem stb_own {xs : List D} : (D.lst .own xs).stb = false := by simp [D.stb]
@[simp] theorem stb_fro {xs : List D} : (D.lst .fro xs).stb = stbs xs := by simp [D.stb]
@[simp] theorem stb_scr {xs : List D} : (D.lst .scr xs).stb = stbs xs := by simp [D.stb]
@[simp] theorem stbs_nil : stbs [] = true := by simp only [stbs]
@[simp] theorem stbs_cons {x : D} {xs : List D} : stbs (x :: xs) = (x.stb && stbs xs) := by simp only [stbs]
@[simp] theorem stbs_int (is : List Int) : stbs (is.map D.int) = true := stbs_ints is
@[simp] theorem stbs_bl (is : List Bool) : stbs (is.map D.bl) = true := by
  induction is with
  | nil => rfl
  | cons i is ih => simp [ih]
theorem stbs_all {xs : List D} : stbs xs = xs.all D.stb := by
  induction xs with
  | nil => rfl
  | cons x xs ih => simp [ih]
@[simp] theorem froz_int {i : Int} : (D.int i).froz = .int i := by simp only [D.froz]
@[simp] theorem froz_bl {i : Bool} : (D.bl i).froz = .bl i := by simp only [D.froz]
@[simp] theorem froz_str {i : Str} : (D.str i).froz = .str i := by simp only [D.froz]
@[simp] theorem froz_non : D.non.froz = .non := by simp only [D.froz]
@[simp] theorem froz_tup {xs : List D} : (D.tup xs).froz = .tup (frozs xs) := by simp only [D.froz]
@[simp] theorem froz_own {xs : List D} : (D.lst .own xs).froz = .lst .fro (frozs xs) := by simp [D.froz]
@[simp] theorem froz_fro {xs : List D} : (D.lst .fro xs).froz = .lst .fro (frozs xs) := by simp [D.froz]
@[simp] theorem frozs_nil : frozs [] = [] := by simp only [frozs]
@[simp] theorem frozs_cons {x : D} {xs : List D} : frozs (x :: xs) = x.froz :: frozs xs := by simp only [frozs]
theorem frozs_map {xs : List D} : frozs xs = xs.map D.froz := by
  induction xs with
  | nil => rfl
  | cons x xs ih => simp [ih]
@[simp] theorem frozs_int {is : List Int} : frozs (is.map D.int) = is.map D.int := by
  rw [frozs_map]; simp
@[simp] theorem frozs_bl {is : List Bool} : frozs (is.map D.bl) = is.map D.bl := by
  rw [frozs_map]; simp
mutual
/-- no sets, no dicts -/
def D.nsd : D → Bool
  | .tup xs | .lst _ xs => nsds xs
  | .obj t _ _ xs => t != .scr && nsds xs
  | .iset _ _ | .dic _ _ _ => false
  | _ => true
def nsds : List D → Bool
  | [] => true
  | x :: xs => x.nsd && nsds xs
end
mutual
theorem froz_stb : ∀ {d : D}, d.stb = true → d.nsd = true → d.froz = d
  | .non, _, _ | .bl _, _, _ | .int _, _, _ | .str _, _, _ => by simp only [D.froz]
  | .tup xs, h, n => by
    simp only [D.froz]; rw [frozs_stb (by simpa using h) (by simpa only [D.nsd] using n)]
  | .lst t xs, h, n => by
    cases t with
    | own => simp at h
    | fro => simp only [froz_fro]; rw [frozs_stb (by simpa using h) (by simpa only [D.nsd] using n)]
    | scr => simp only [D.froz]
  | .obj t c ns xs, h, n => by
    cases t with
    | own => simp [D.stb] at h
    | fro => simp only [D.froz]; rw [frozs_stb (by simpa [D.stb] using h) (by simpa [D.nsd] using n)]
    | scr => simp [D.nsd] at n
  | .iset _ _, _, n | .dic _ _ _, _, n => by simp [D.nsd] at n
theorem frozs_stb : ∀ {xs : List D}, stbs xs = true → nsds xs = true → frozs xs = xs
  | [], _, _ => by simp only [frozs]
  | x :: xs, h, n => by
    simp only [stbs, Bool.and_eq_true] at h
    simp only [nsds, Bool.and_eq_true] at n
    simp only [frozs]; rw [froz_stb h.1 n.1, frozs_stb h.2 n.2]
end
@[simp] theorem fresh_int {i : Int} : (D.int i).fresh = true := (rfl)
@[simp] theorem fresh_bl {i : Bool} : (D.bl i).fresh = true := (rfl)
@[simp] theorem fresh_str {i : Str} : (D.str i).fresh = true := (rfl)
@[simp] theorem fresh_tup {xs : List D} : (D.tup xs).fresh = stbs xs := by simp [D.fresh]
@[simp] theorem fresh_own {xs : List D} : (D.lst .own xs).fresh = stbs xs := (rfl)
@[simp] theorem bin_addI {i j : Int} : binD .Add (.int i) (.int j) = some (.int (i + j)) := (rfl)
@[simp] theorem bin_subI {i j : Int} : binD .Sub (.int i) (.int j) = some (.int (i - j)) := (rfl)
theorem bin_mulI {i j : Int} (h : (-(2 ^ 64) < i ∧ i < 2 ^ 64) ∨ (-(2 ^ 64) < j ∧ j < 2 ^ 64)) : binD .Mult (.int i) (.int j) = some (.int (i * j)) := by simp only [binD, arith, if_pos h, Option.map_some]
theorem bin_modI {i j : Int} (h : 0 < j) : binD .Mod (.int i) (.int j) = some (.int (i % j)) := by simp only [binD, arith, if_pos h, Option.map_some]
theorem bin_divI {i j : Int} (h : 0 < j ∧ j < 1073741824) : binD .FloorDiv (.int i) (.int j) = some (.int (i / j)) := by simp only [binD, arith, if_pos h, Option.map_some]
@[simp] theorem slc_tup {xs : List D} {lo hi : Option Int} : slcD (.tup xs) lo hi = if stbs xs then some (.tup (cut xs lo hi)) else none := (rfl)
@[simp] theorem slc_lst {t : Tg} {xs : List D} {lo hi : Option Int} : slcD (.lst t xs) lo hi = if stbs xs then some (.lst .own (cut xs lo hi)) else none := (rfl)
theorem bin_addT {a b : List D} (h : a.length + b.length ≤ 16777216) (sa : stbs a = true) (sb : stbs b = true) : binD .Add (.tup a) (.tup b) = some (.tup (a ++ b)) := by
  show (if fits (a.length + b.length) && stbs a && stbs b then _ else _) = _
  rw [fits_of h, sa, sb]; rfl
theorem bin_addL {s t : Tg} {a b : List D} (hs : s ≠ .scr) (ht : t ≠ .scr) (h : a.length + b.length ≤ 16777216) (sa : stbs a = true) (sb : stbs b = true) : binD .Add (.lst s a) (.lst t b) = some (.lst .own (a ++ b)) := by
  show (if s != .scr && t != .scr && fits (a.length + b.length) && stbs a && stbs b then _ else _) = _
  have h1 : (s != .scr) = true := by simp [hs]
  have h2 : (t != .scr) = true := by simp [ht]
  rw [fits_of h, sa, sb, h1, h2]; rfl
theorem bin_mulT {a : List D} {k : Int} (h1 : k ≤ 1000) (h2 : -1000 ≤ k) (h : a.length ≤ 1000) (sa : stbs a = true) : binD .Mult (.tup a) (.int k) = some (.tup (List.replicate k.toNat a).flatten) := by
  show (if decide (k ≤ 1000) && decide (-1000 ≤ k) && decide (a.length ≤ 1000) && stbs a then _ else _) = _
  simp [h1, h2, h, sa]
@[simp] theorem un_neg {i : Int} : unD .USub (.int i) = some (.int (-i)) := (rfl)
@[simp] theorem tru_bl {b : Bool} : truD (.bl b) = some b := (rfl)
@[simp] theorem tru_int {i : Int} : truD (.int i) = some (i != 0) := (rfl)
@[simp] theorem cmp_lt {i j : Int} : cmpD .Lt (.int i) (.int j) = some (decide (i < j)) := (rfl)
@[simp] theorem cmp_gt {i j : Int} : cmpD .Gt (.int i) (.int j) = some (decide (j < i)) := by
  show some (!decide (i < j) && !decide (i = j)) = _
  congr 1
  by_cases h1 : i < j <;> by_cases h2 : i = j <;> by_cases h3 : j < i <;> simp [h1, h2, h3] <;> omega
@[simp] theorem cmp_le {i j : Int} : cmpD .LtE (.int i) (.int j) = some (decide (i ≤ j)) := by
  show some (decide (i < j) || decide (i = j)) = _
  congr 1
  by_cases h1 : i < j <;> by_cases h2 : i = j <;> by_cases h3 : i ≤ j <;> simp [h1, h2, h3] <;> omega
@[simp] theorem cmp_ge {i j : Int} : cmpD .GtE (.int i) (.int j) = some (decide (j ≤ i)) := by
  show some (!decide (i < j)) = _
  congr 1
  by_cases h1 : i < j <;> by_cases h3 : j ≤ i <;> simp [h1, h3] <;> omega
@[simp] theorem cmp_eqI {i j : Int} : cmpD .Eq (.int i) (.int j) = some (decide (i = j)) := by
  simp [cmpD, eqD, D.plain, D.dp, eqB, D.num]
  by_cases h : i = j <;> simp [h]
@[simp] theorem cmp_neI {i j : Int} : cmpD .NotEq (.int i) (.int j) = some (!decide (i = j)) := by
  simp [cmpD, eqD, D.plain, D.dp, eqB, D.num]
  by_cases h : i = j <;> simp [h]
@[simp] theorem cmp_eqB {i j : Bool} : cmpD .Eq (.bl i) (.bl j) = some (i == j) := by
  cases i <;> cases j <;> rfl
@[simp] theorem cmp_neB {i j : Bool} : cmpD .NotEq (.bl i) (.bl j) = some (!(i == j)) := by
  cases i <;> cases j <;> rfl
mutual
theorem eqB_refl : ∀ {d : D}, d.plain = true → eqB d d = true
  | .non, _ => by simp [eqB]
  | .bl b, _ => by simp [eqB, D.num]
  | .int i, _ => by simp [eqB, D.num]
  | .str s, _ => by simp [eqB]
  | .tup xs, h => by simp only [eqB]; exact eqBs_refl (by simpa [D.plain] using h)
  | .lst t xs, h => by simp only [eqB]; exact eqBs_refl (by simpa [D.plain] using h)
  | .obj _ _ _ _, h | .iset _ _, h | .dic _ _ _, h => by simp [D.plain] at h
theorem eqBs_refl : ∀ {xs : List D}, plains xs = true → eqBs xs xs = true
  | [], _ => by simp [eqBs]
  | x :: xs, h => by
    simp only [plains, Bool.and_eq_true] at h
    simp only [eqBs, Bool.and_eq_true]
    exact ⟨eqB_refl h.1, eqBs_refl h.2⟩
end
theorem cmp_eqSelf {d : D} (h : d.plain = true) (h2 : d.dp ≤ 60) : cmpD .Eq d d = some true := by
  show eqD d d = _
  unfold eqD
  rw [h]
  simp [h2, eqB_refl h]
@[simp] theorem cmp_isN {d : D} : cmpD .Is d .non = some d.isNon := by cases d <;> rfl
@[simp] theorem bi_len_lst {t : Tg} {xs : List D} : biD "len" [.lst t xs] = some (.int xs.length) := (rfl)
@[simp] theorem bi_len_tup {xs : List D} : biD "len" [.tup xs] = some (.int xs.length) := (rfl)
@[simp] theorem bi_int_int {i : Int} : biD "int" [.int i] = some (.int i) := (rfl)
@[simp] theorem bi_int_bl {b : Bool} : biD "int" [.bl b] = some (.int (if b then 1 else 0)) := (rfl)
@[simp] theorem bi_max2 {i j : Int} : biD "max" [.int i, .int j] = some (.int (if j > i then j else i)) := (rfl)
@[simp] theorem bi_tuple_lst {t : Tg} {xs : List D} : biD "tuple" [.lst t xs] = if stbs xs then some (.tup xs) else none := (rfl)
@[simp] theorem bi_tuple_tup {xs : List D} : biD "tuple" [.tup xs] = if stbs xs then some (.tup xs) else none := (rfl)
@[simp] theorem bi_list_lst {t : Tg} {xs : List D} : biD "list" [.lst t xs] = if stbs xs then some (.lst .own xs) else none := (rfl)
@[simp] theorem bi_list_tup {xs : List D} : biD "list" [.tup xs] = if stbs xs then some (.lst .own xs) else none := (rfl)
theorem pl_bls_map (bs : List Bool) : bls? (bs.map D.bl) = some bs := by
  induction bs with
  | nil => rfl
  | cons b bs ih => simp [bls?, ih]
theorem pl_ints_map (bs : List Int) : ints? (bs.map D.int) = some bs := by
  induction bs with
  | nil => rfl
  | cons b bs ih => simp [ints?, ih]
@[simp] theorem pl_bi_all {t : Tg} {bs : List Bool} : biD "all" [.lst t (bs.map D.bl)] = some (.bl (bs.all id)) := by
  show (bls? (bs.map D.bl)).map _ = _
  rw [pl_bls_map]; rfl
@[simp] theorem pl_bi_any {t : Tg} {bs : List Bool} : biD "any" [.lst t (bs.map D.bl)] = some (.bl (bs.any id)) := by
  show (bls? (bs.map D.bl)).map _ = _
  rw [pl_bls_map]; rfl
@[simp] theorem pl_bi_sum {t : Tg} {bs : List Int} : biD "sum" [.lst t (bs.map D.int)] = some (.int bs.sum) := by
  show (ints? (bs.map D.int)).map _ = _
  rw [pl_ints_map]; rfl
@[simp] theorem bi_allF {t : Tg} {γ : Type} {f : γ → Bool} {xs : List γ} : biD "all" [.lst t (xs.map fun x => D.bl (f x))] = some (.bl (xs.all f)) := by
  rw [show (xs.map fun x => D.bl (f x)) = (xs.map f).map D.bl by simp, pl_bi_all]; simp
@[simp] theorem bi_allC {t : Tg} {γ : Type} {f : γ → Bool} {xs : List γ} : biD "all" [.lst t (xs.map (D.bl ∘ f))] = some (.bl (xs.all f)) := bi_allF
@[simp] theorem bi_anyF {t : Tg} {γ : Type} {f : γ → Bool} {xs : List γ} : biD "any" [.lst t (xs.map fun x => D.bl (f x))] = some (.bl (xs.any f)) := by
  rw [show (xs.map fun x => D.bl (f x)) = (xs.map f).map D.bl by simp, pl_bi_any]; simp
@[simp] theorem bi_sumF {t : Tg} {γ : Type} {f : γ → Int} {xs : List γ} : biD "sum" [.lst t (xs.map fun x => D.int (f x))] = some (.int (xs.map f).sum) := by
  rw [show (xs.map fun x => D.int (f x)) = (xs.map f).map D.int by simp, pl_bi_sum]
@[simp] theorem stbs_blF {γ : Type} {f : γ → Bool} {xs : List γ} : stbs (xs.map fun x => D.bl (f x)) = true := by
  rw [show (xs.map fun x => D.bl (f x)) = (xs.map f).map D.bl by simp, stbs_bl]
@[simp] theorem stbs_intF {γ : Type} {f : γ → Int} {xs : List γ} : stbs (xs.map fun x => D.int (f x)) = true := by
  rw [show (xs.map fun x => D.int (f x)) = (xs.map f).map D.int by simp, stbs_int]
@[simp] theorem idx_lst {t : Tg} {xs : List D} {i : Int} : idxD (.lst t xs) (.int i) = atI xs i := (rfl)
@[simp] theorem idx_tup {xs : List D} {i : Int} : idxD (.tup xs) (.int i) = atI xs i := (rfl)
@[simp] theorem atI_cast {α : Type} {xs : List α} {k : Nat} : atI xs (k : Int) = xs[k]? := by
  unfold atI ixN
  rw [if_pos (by omega)]
  by_cases h : k < xs.length
  · rw [if_pos (by exact_mod_cast h)]; simp
  · rw [if_neg (by exact_mod_cast h), List.getElem?_eq_none (by omega)]; rfl
theorem atI_nat {α : Type} {xs : List α} {k : Nat} (h : k < xs.length) : atI xs (k : Int) = xs[k]? := atI_cast
@[simp] theorem atI_0 {α : Type} {xs : List α} : atI xs 0 = xs[0]? := atI_cast (k := 0)
@[simp] theorem atI_1 {α : Type} {xs : List α} : atI xs 1 = xs[1]? := atI_cast (k := 1)
@[simp] theorem atI_2 {α : Type} {xs : List α} : atI xs 2 = xs[2]? := atI_cast (k := 2)
@[simp] theorem atI_3 {α : Type} {xs : List α} : atI xs 3 = xs[3]? := atI_cast (k := 3)
@[simp] theorem atI_4 {α : Type} {xs : List α} : atI xs 4 = xs[4]? := atI_cast (k := 4)
@[simp] theorem atI_5 {α : Type} {xs : List α} : atI xs 5 = xs[5]? := atI_cast (k := 5)
@[simp] theorem atI_6 {α : Type} {xs : List α} : atI xs 6 = xs[6]? := atI_cast (k := 6)
@[simp] theorem atI_7 {α : Type} {xs : List α} : atI xs 7 = xs[7]? := atI_cast (k := 7)
@[simp] theorem atI_8 {α : Type} {xs : List α} : atI xs 8 = xs[8]? := atI_cast (k := 8)
@[simp] theorem atI_9 {α : Type} {xs : List α} : atI xs 9 = xs[9]? := atI_cast (k := 9)
@[simp] theorem atI_10 {α : Type} {xs : List α} : atI xs 10 = xs[10]? := atI_cast (k := 10)
@[simp] theorem atI_11 {α : Type} {xs : List α} : atI xs 11 = xs[11]? := atI_cast (k := 11)
@[simp] theorem atI_12 {α : Type} {xs : List α} : atI xs 12 = xs[12]? := atI_cast (k := 12)
@[simp] theorem atI_13 {α : Type} {xs : List α} : atI xs 13 = xs[13]? := atI_cast (k := 13)
@[simp] theorem atI_14 {α : Type} {xs : List α} : atI xs 14 = xs[14]? := atI_cast (k := 14)
@[simp] theorem atI_15 {α : Type} {xs : List α} : atI xs 15 = xs[15]? := atI_cast (k := 15)
@[simp] theorem atI_16 {α : Type} {xs : List α} : atI xs 16 = xs[16]? := atI_cast (k := 16)
@[simp] theorem atI_17 {α : Type} {xs : List α} : atI xs 17 = xs[17]? := atI_cast (k := 17)
@[simp] theorem atI_18 {α : Type} {xs : List α} : atI xs 18 = xs[18]? := atI_cast (k := 18)
@[simp] theorem atI_19 {α : Type} {xs : List α} : atI xs 19 = xs[19]? := atI_cast (k := 19)
@[simp] theorem atI_20 {α : Type} {xs : List α} : atI xs 20 = xs[20]? := atI_cast (k := 20)
theorem atI_of {α : Type} {xs : List α} {i : Int} {k : Nat} (e : i = k) (h : k < xs.length) : atI xs i = xs[k]? := by subst e; exact atI_nat h
/-! ### defs -/
theorem call_run {P : Prog} {n : Nat} {f : String} {fn : Fn} (h : P.fns f = some fn) {ss : List Slot} : callN P (n + 1) f ss = runFn (cfg P (callN P n)) fn ss := by
  simp only [callN, h]
@[simp] theorem cfg_cf {P : Prog} {cf : String → List Slot → CRes} : (cfg P cf).cf = cf := (rfl)
@[simp] theorem cfg_hot {P : Prog} {cf : String → List Slot → CRes} : (cfg P cf).hot = false := (rfl)
@[simp] theorem cfg_gl {P : Prog} {cf : String → List Slot → CRes} : (cfg P cf).gl = P.gl := (rfl)
@[simp] theorem cfg_pl {P : Prog} {cf : String → List Slot → CRes} : (cfg P cf).pl = P.pl := (rfl)
@[simp] theorem cfg_ec {P : Prog} {cf : String → List Slot → CRes} : (cfg P cf).ec = P.ec := (rfl)
@[simp] theorem cfg_mro {P : Prog} {cf : String → List Slot → CRes} : (cfg P cf).mro = P.mro := (rfl)
@[simp] theorem cfg_fl {P : Prog} {cf : String → List Slot → CRes} : (cfg P cf).fl = P.fl := (rfl)
@[simp] theorem hotG_hot {G : Cfg} : (hotG G).hot = true := (rfl)
@[simp] theorem hotG_gl {G : Cfg} : (hotG G).gl = G.gl := (rfl)
@[simp] theorem hotG_fl {G : Cfg} : (hotG G).fl = G.fl := (rfl)
@[simp] theorem hotG_mro {G : Cfg} : (hotG G).mro = G.mro := (rfl)
@[simp] theorem hotG_pl {G : Cfg} : (hotG G).pl = G.pl := (rfl)
@[simp] theorem hotG_ec {G : Cfg} : (hotG G).ec = G.ec := (rfl)
@[simp] theorem isArg_br {d : D} : isArg (.br d) = true := (rfl)
@[simp] theorem isArg_mp {d : D} : isArg (.mp d) = true := (rfl)
@[simp] theorem outs_nil {e : Env} : outs [] e = some [] := (rfl)
@[simp] theorem outs_br {d : D} {ss : List Slot} {s : Slot} {e : Env} : outs (.br d :: ss) (s :: e) = outs ss e := (rfl)
@[simp] theorem outs_mp {d d' : D} {ss : List Slot} {e : Env} : outs (.mp d :: ss) (.mp d' :: e) = (outs ss e).map (d' :: ·) := (rfl)
@[simp] theorem muts_nil : muts [] = [] := (rfl)
@[simp] theorem muts_q {x : Qx} {xs : List Ex} : muts (.q x :: xs) = muts xs := (rfl)
@[simp] theorem muts_call {f : String} {es : List Ex} {ks : List String} {xs : List Ex} : muts (.call f es ks :: xs) = muts xs := (rfl)
@[simp] theorem quiets_nil : quiets [] = true := (rfl)
@[simp] theorem pl_quiets_q {x : Qx} {xs : List Ex} : quiets (.q x :: xs) = quiets xs := (rfl)
@[simp] theorem isQ_q {x : Qx} : isQ (.q x) = true := (rfl)
@[simp] theorem isQ_call {f : String} {es : List Ex} {ks : List String} : isQ (.call f es ks) = false := (rfl)
@[simp] theorem isQ_bin {op : Operator} {a b : Ex} : isQ (.bin op a b) = false := (rfl)
@[simp] theorem getS_me {e : Env} {i : Nat} {d : D} (h : e[i]? = some (.me d)) : getS e i = some d := by simp only [getS, h]
@[simp] theorem getS_zero_me {d : D} {e : Env} : getS (.me d :: e) 0 = some d := (rfl)
@[simp] theorem getS_zero_br {d : D} {e : Env} : getS (.br d :: e) 0 = some d := (rfl)
@[simp] theorem getS_zero_mp {d : D} {e : Env} : getS (.mp d :: e) 0 = some d := (rfl)
@[simp] theorem getS_zero_lk {d : D} {e : Env} : getS (.lk d :: e) 0 = some d := (rfl)
@[simp] theorem getS_succ {s : Slot} {e : Env} {i : Nat} : getS (s :: e) (i + 1) = getS e i := (rfl)
theorem evA_nil' {ms : List Nat} {e : Env} : evA G ms [] e = .ok [] e := by simp only [evA]
theorem evA_q' {ms : List Nat} {x : Qx} {r : List Ex} {e : Env} : evA G ms (.q x :: r) e = match qv G x e with
    | some d => if d.stb || (ms.isEmpty && quiets r) then (evA G ms r e).bind fun ss e => .ok (.br d :: ss) e else .bad
    | none => .bad := by simp only [evA] <;> rfl
@[simp] theorem evA0_nil {e : Env} : evA G [] [] e = .ok [] e := evA_nil'
@[simp] theorem evA0_q {x : Qx} {r : List Ex} {e : Env} : evA G [] (.q x :: r) e = match qv G x e with
    | some d => if d.stb || quiets r then (evA G [] r e).bind fun ss e => .ok (.br d :: ss) e else .bad
    | none => .bad := by rw [evA_q']; rfl
/-- a call all of whose arguments are shown -/
theorem ev_call0 {f : String} {es : List Ex} {e : Env} (hot : G.hot = false) (hm : muts es = []) : ev G (.call f es []) e = (evA G [] es e).bind fun ss e => match G.cf f ss with
      | .ok d [] => .ok d e
      | .ex c ds [] => .ex c ds e
      | _ => .bad := by
  simp only [ev, hot, hm]
  simp only [Bool.false_or, List.nodup_nil, decide_false, Bool.false_eq_true, if_false, List.isEmpty_nil, Bool.not_true, Bool.and_false, picks, if_true, Bool.false_and, Bool.not_eq_true']
  cases evA G [] es e with
  | ok ss e1 =>
    simp only [res_bind_ok, decide_eq_true_eq]
    cases G.cf f ss with
    | ok d outs => cases outs <;> simp [putMuts]
    | ex c ds outs => cases outs <;> simp [putMuts]
    | bad => simp
  | ex c ds e1 => simp
  | bad => simp
/-- .. in a def's body -/
theorem ev_callC {P : Prog} {cf : String → List Slot → CRes} {f : String} {es : List Ex} {e : Env} (hm : muts es = []) : ev (cfg P cf) (.call f es []) e = (evA (cfg P cf) [] es e).bind fun ss e => match cf f ss with
      | .ok d [] => .ok d e
      | .ex c ds [] => .ex c ds e
      | _ => .bad := ev_call0 rfl hm
/-- .. by keywords too -/
theorem ev_callK {P : Prog} {cf : String → List Slot → CRes} {f : String} {es : List Ex} {ks : List String} {e : Env} (hm : muts es = []) : ev (cfg P cf) (.call f es ks) e = (evA (cfg P cf) [] es e).bind fun ss e => match (match picks (cfg P cf) f ks ss with
      | some ss => cf f ss
      | none => .bad) with
      | .ok d [] => .ok d e
      | .ex c ds [] => .ex c ds e
      | _ => .bad := by
  simp only [ev, cfg_hot, hm, cfg_cf]
  simp only [Bool.false_or, List.nodup_nil, decide_false, Bool.false_eq_true, if_false, List.isEmpty_nil, Bool.not_true, Bool.and_false, Bool.not_eq_true']
  cases evA (cfg P cf) [] es e with
  | ok ss e1 =>
    simp only [res_bind_ok, decide_eq_true_eq]
    cases picks (cfg P cf) f ks ss with
    | none => simp
    | some ss2 =>
      simp only
      cases cf f ss2 with
      | ok d outs => cases outs <;> simp [putMuts]
      | ex c ds outs => cases outs <;> simp [putMuts]
      | bad => simp
  | ex c ds e1 => simp
  | bad => simp
@[simp] theorem picks_nil {α : Type} {G : Cfg} {f : String} {ss : List α} : picks G f [] ss = some ss := (rfl)
@[simp] theorem catches_nil {m : String → List String} {c : String} : catches m c [] = false := (rfl)
@[simp] theorem catches_cons {m : String → List String} {c t : String} {ts : List String} : catches m c (t :: ts) = ((m c).contains t || catches m c ts) := (rfl)
end
/-! ### loops -/
section
theorem forL_steps {f : D → Env → SR} : ∀ {xs : List D} (E : Nat → Env), (∀ i x, xs[i]? = some x → f x (E i) = .nx (E (i + 1)) ∨ f x (E i) = .ct (E (i + 1))) → forL f xs (E 0) = .nx (E xs.length)
  | [], E, _ => rfl
  | x :: xs, E, h => by
    have ih := forL_steps (f := f) (xs := xs) (fun i => E (i + 1)) fun i y hy => h (i + 1) y (by simpa using hy)
    rcases h 0 x rfl with h0 | h0 <;> (simp only [forL, h0]; simpa using ih)
/-- .. that ends at its k-th turn -/
theorem forL_stop {f : D → Env → SR} : ∀ {xs : List D} (E : Nat → Env) (k : Nat) (x : D) (r : SR), xs[k]? = some x → (∀ i y, i < k → xs[i]? = some y → f y (E i) = .nx (E (i + 1)) ∨ f y (E i) = .ct (E (i + 1))) → f x (E k) = r → (∀ e, r ≠ .nx e) → (∀ e, r ≠ .ct e) → (∀ e, r ≠ .bk e) → forL f xs (E 0) = r
  | [], E, k, x, r, hk, _, _, _, _, _ => by simp at hk
  | y :: xs, E, 0, x, r, hk, h, hr, n1, n2, n3 => by
    simp at hk; subst hk
    simp only [forL]
    rw [hr]
    cases r with
    | nx e => exact absurd rfl (n1 e)
    | ct e => exact absurd rfl (n2 e)
    | bk e => exact absurd rfl (n3 e)
    | _ => rfl
  | y :: xs, E, k + 1, x, r, hk, h, hr, n1, n2, n3 => by
    have ih := forL_stop (f := f) (xs := xs) (fun i => E (i + 1)) k x r (by simpa using hk) (fun i z hi hz => h (i + 1) z (by omega) (by simpa using hz)) hr n1 n2 n3
    rcases h 0 y (by omega) rfl with h0 | h0 <;> (simp only [forL, h0]; simpa using ih)
theorem compL_map {f : D → Env → Res (Option D)} {g : D → D} (e0 : Env) (Ok : Env → Prop) : ∀ {xs : List D} {e : Env}, Ok e → (∀ x ∈ xs, ∀ e, Ok e → ∃ e', f x e = .ok (some (g x)) e' ∧ Ok e') → ∃ e', compL f xs e = .ok (xs.map g) e' ∧ Ok e'
  | [], e, he, _ => ⟨e, rfl, he⟩
  | x :: xs, e, he, h => by
    obtain ⟨e1, h1, o1⟩ := h x (by simp) e he
    obtain ⟨e2, h2, o2⟩ := compL_map (xs := xs) e0 Ok o1 fun y hy => h y (by simp [hy])
    exact ⟨e2, by simp only [compL, h1, h2, res_bind_ok, List.map_cons], o2⟩
theorem lock_at (e : Env) (k : Nat) : ∀ js : List Nat, (lock e js)[k]? = if k ∈ js then e[k]?.map lockS else e[k]?
  | [] => by simp [lock]
  | j :: js => by
    have ih := lock_at e k js
    have ij := lock_at e j js
    simp only [lock]
    split
    · rename_i s hs
      by_cases hk : k = j
      · subst hk
        have hl : k < (lock e js).length := (List.getElem?_eq_some_iff.mp hs).1
        rw [List.getElem?_set_self hl]
        rw [hs] at ij
        simp only [List.mem_cons, true_or, if_true]
        by_cases hm : k ∈ js
        · rw [if_pos hm] at ij
          cases he : e[k]? with
          | none => rw [he] at ij; cases ij
          | some t => rw [he] at ij; simp at ij; subst ij; simp [lockS_idem]
        · rw [if_neg hm] at ij
          rw [← ij]; rfl
      · rw [List.getElem?_set_ne (Ne.symm hk), ih]
        simp [hk]
    · rename_i hs
      rw [hs] at ij
      by_cases hk : k = j
      · subst hk
        rw [hs]
        simp only [List.mem_cons, true_or, if_true]
        by_cases hm : k ∈ js
        · rw [if_pos hm] at ij; exact ij
        · rw [if_neg hm] at ij; rw [← ij]; rfl
      · rw [ih]; simp [hk]
theorem unlock_at (e : Env) (js : List Nat) (k : Nat) : ∀ is : List Nat, (∀ i ∈ is, i ∈ js) → (Wv.unlock e (lock e js) is)[k]? = if k ∈ is then e[k]? else (lock e js)[k]?
  | [], _ => by simp [Wv.unlock]
  | i :: is, h => by
    have ih := unlock_at e js k is fun j hj => h j (by simp [hj])
    have ii := unlock_at e js i is fun j hj => h j (by simp [hj])
    have hi : i ∈ js := h i (by simp)
    rw [lock_at e i js, if_pos hi] at ii
    have key : ∀ s, e[i]? = some s → (Wv.unlock e (lock e js) is)[i]? = some s ∨ (Wv.unlock e (lock e js) is)[i]? = some (lockS s) := fun s hs => by
      rw [hs] at ii
      by_cases hm : i ∈ is
      · rw [if_pos hm] at ii; exact .inl ii
      · rw [if_neg hm] at ii; exact .inr ii
    have none_ : e[i]? = none → (Wv.unlock e (lock e js) is)[i]? = none := fun hs => by
      rw [hs] at ii
      simpa using ii
    have same : (Wv.unlock e (lock e js) is)[i]? = e[i]? → (if k ∈ i :: is then e[k]? else (lock e js)[k]?) = (Wv.unlock e (lock e js) is)[k]? := fun z => by
      by_cases hk : k = i
      · subst hk; simp [z]
      · rw [ih]; simp [hk]
    simp only [Wv.unlock]
    split
    · rename_i d d0 h0 h1
      have hl := (List.getElem?_eq_some_iff.mp h1).1
      by_cases hk : k = i
      · subst hk; rw [List.getElem?_set_self hl]; simp [h0]
      · rw [List.getElem?_set_ne (Ne.symm hk), ih]; simp [hk]
    · rename_i d d0 h0 h1
      have hl := (List.getElem?_eq_some_iff.mp h1).1
      by_cases hk : k = i
      · subst hk; rw [List.getElem?_set_self hl]; simp [h0]
      · rw [List.getElem?_set_ne (Ne.symm hk), ih]; simp [hk]
    · rename_i d d0 h0 h1
      exfalso
      rcases key _ h0 with z | z <;> rw [h1] at z
      · cases z
      · simp only [lockS] at z; split at z <;> cases z
    · rename_i d d0 h0 h1
      exfalso
      rcases key _ h0 with z | z <;> rw [h1] at z
      · cases z
      · simp only [lockS] at z; split at z <;> cases z
    · rename_i n1 n2 n3 n4
      refine (same ?_).symm
      cases hs : e[i]? with
      | none => exact none_ hs
      | some s =>
        rcases key s hs with z | z
        · exact z
        · rw [z]
          cases s with
          | me d =>
            by_cases hst : d.stb = true
            · simp [lockS, hst]
            · simp [lockS, hst] at z; exact (n1 d d hs z).elim
          | mp d =>
            by_cases hst : d.stb = true
            · simp [lockS, hst]
            · simp [lockS, hst] at z; exact (n2 d d hs z).elim
          | _ => rfl
theorem unlock_lock (e : Env) (is : List Nat) : Wv.unlock e (lock e is) is = e := by
  apply List.ext_getElem?
  intro k
  rw [unlock_at e is k is fun _ h => h, lock_at]
  split <;> simp_all
theorem wipe_at (e : Env) (k : Nat) : ∀ own : List Nat, (Wv.wipe e own)[k]? = if k ∈ own then (e[k]?).map (fun _ => .no) else e[k]?
  | [] => by simp [Wv.wipe]
  | i :: is => by
    simp only [Wv.wipe]
    have ih := wipe_at e k is
    by_cases hk : k = i
    · subst hk
      rw [List.getElem?_set_self']
      rw [ih]
      by_cases hm : k ∈ is <;> simp [hm] <;> cases e[k]? <;> rfl
    · rw [List.getElem?_set_ne (Ne.symm hk), ih]; simp [hk]
theorem restore_at (e0 e : Env) (hl : e.length = e0.length) (k : Nat) : ∀ own : List Nat, (Wv.restore e0 e own)[k]? = if k ∈ own then e0[k]? else e[k]?
  | [] => by simp [Wv.restore]
  | i :: is => by
    have ih := restore_at e0 e hl k is
    have hlen : (Wv.restore e0 e is).length = e0.length := by
      clear ih
      induction is with
      | nil => exact hl
      | cons j js ihj => simp only [Wv.restore]; split <;> simp [ihj]
    simp only [Wv.restore]
    split
    · rename_i s hs
      by_cases hk : k = i
      · subst hk
        have h1 : k < e0.length := (List.getElem?_eq_some_iff.mp hs).1
        rw [List.getElem?_set_self (by omega)]; simp [hs]
      · rw [List.getElem?_set_ne (Ne.symm hk), ih]; simp [hk]
    · rename_i hs
      by_cases hk : k = i
      · subst hk
        rw [ih]
        simp only [List.mem_cons, true_or, if_true, hs]
        by_cases hm : k ∈ is
        · simp [hm]
        · simp only [hm, if_false]
          rw [List.getElem?_eq_none_iff] at hs ⊢
          omega
      · rw [ih]; simp [hk]
theorem restore_wipe (e : Env) (own : List Nat) : Wv.restore e (Wv.wipe e own) own = e := by
  apply List.ext_getElem?
  intro k
  rw [restore_at _ _ (wipe_len e own), wipe_at]
  by_cases h : k ∈ own <;> simp [h]
theorem wipe_wipe (e : Env) (own : List Nat) : Wv.wipe (Wv.wipe e own) own = Wv.wipe e own := by
  apply List.ext_getElem?
  intro k
  rw [wipe_at, wipe_at]
  by_cases h : k ∈ own <;> simp [h] <;> cases e[k]? <;> rfl
/-- a comprehension whose turns change nothing but its own names -/
theorem ev_comp_pure {P : Prog} {cf : String → List Slot → CRes} {own : List Nat} {p : Pat} {s : Src} {elt : Ex} {e : Env} {is : List D} {rs : List Nat} (g : D → D) (hs : src (cfg P cf) s e = .ok (is, rs) e) (hf : fits is.length = true)
    (h : ∀ x ∈ is, match bindP p x (Wv.wipe (lock e rs) own) with
      | some e' => (match ev (cfg P cf) elt e' with
        | .ok y e'' => y = g x ∧ Wv.wipe e'' own = Wv.wipe (lock e rs) own
        | _ => False)
      | none => False) : ev (cfg P cf) (.comp own p s [] elt) e = .ok (.lst .own (is.map g)) e := by
  simp only [ev, cfg_hot, Bool.false_eq_true, if_false, hs, res_bind_ok, tes_nil', if_true]
  obtain ⟨e', h1, h2⟩ := compL_map (g := g) (f := fun x e => match bindP p x (Wv.wipe e own) with
        | some e => (ev (cfg P cf) elt e).bind fun y e => .ok (some y) e
        | none => .bad) e (fun e' => Wv.wipe e' own = Wv.wipe (lock e rs) own) (xs := is) (e := Wv.wipe (lock e rs) own) (wipe_wipe _ _) (fun x hx e1 he1 => by
    have z := h x hx
    split at z
    · rename_i a h1
      split at z
      · rename_i y b h2
        exact ⟨b, by simp only [he1, h1, h2, res_bind_ok, z.1], z.2⟩
      · exact z.elim
    · exact z.elim)
  split
  · rename_i ds e1 heq
    have z := heq.symm.trans h1
    cases z
    simp only [List.length_map, hf, if_true, h2, restore_wipe, unlock_lock]
  · rename_i hno
    exact absurd h1 (hno _ _)
/-- how a loop's target holds an item -/
def shw (x : D) : Slot := if x.stb then .me x else .br x
@[simp] theorem getS_shw {x : D} {e : Env} : getS (shw x :: e) 0 = some x := by
  unfold shw
  split
  · exact getS_zero_me
  · exact getS_zero_br
theorem shw_no {x : D} : (∀ d, shw x ≠ .lk d) ∧ (∀ d, shw x ≠ .mp d) := by
  unfold shw
  split <;> exact ⟨fun d z => (by cases z), fun d z => (by cases z)⟩
theorem shw_stb {x : D} (h : x.stb = true) : shw x = .me x := if_pos h
/-- a slot that a loop may set -/
def opn : Slot → Bool
  | .lk _ => false
  | .mp _ => false
  | _ => true
@[simp] theorem opn_no : opn .no = true := rfl
@[simp] theorem opn_me {d : D} : opn (.me d) = true := rfl
@[simp] theorem opn_br {d : D} : opn (.br d) = true := rfl
@[simp] theorem opn_shw {d : D} : opn (shw d) = true := by unfold shw; split <;> rfl
theorem bindP_v {i : Nat} {x : D} {e : Env} {s : Slot} (h : e[i]? = some s) (ho : opn s = true) : bindP (.v i) x e = some (e.set i (shw x)) := by
  simp only [bindP, h]
  cases s <;> first | (simp [opn] at ho; done) | rfl
theorem setS_v {i : Nat} {x : D} {e : Env} {s : Slot} (h : e[i]? = some s) (ho : opn s = true) : setS e i x = some (e.set i (.me x)) := by
  simp only [setS, h]
  cases s <;> first | (simp [opn] at ho; done) | rfl
theorem outs_brs : ∀ {ds : List D} {e : Env}, ds.length ≤ e.length → outs (ds.map .br) e = some []
  | [], _, _ => rfl
  | d :: ds, [], h => by simp at h
  | d :: ds, s :: e, h => by simp only [List.map_cons, outs_br]; exact outs_brs (by simpa using h)
theorem outs1 {a : D} {e : Env} (h : 1 ≤ e.length) : outs [.br a] e = some [] := outs_brs (ds := [a]) h
theorem outs2 {a b : D} {e : Env} (h : 2 ≤ e.length) : outs [.br a, .br b] e = some [] := outs_brs (ds := [a, b]) h
theorem outs3 {a b c : D} {e : Env} (h : 3 ≤ e.length) : outs [.br a, .br b, .br c] e = some [] := outs_brs (ds := [a, b, c]) h
theorem outs4 {a b c d : D} {e : Env} (h : 4 ≤ e.length) : outs [.br a, .br b, .br c, .br d] e = some [] := outs_brs (ds := [a, b, c, d]) h
/-- a loop that goes on as long as p holds, else gives r -/
theorem forL_all {f : D → Env → SR} {p : D → Bool} {r : D} (Ok : Env → Prop) : ∀ {xs : List D} {e : Env}, Ok e →
    (∀ x ∈ xs, ∀ e, Ok e → (p x = true → ∃ e', (f x e = .nx e' ∨ f x e = .ct e') ∧ Ok e') ∧ (p x = false → ∃ e', f x e = .rt r e' ∧ Ok e')) →
    (xs.all p = true → ∃ e', forL f xs e = .nx e' ∧ Ok e') ∧ (xs.all p = false → ∃ e', forL f xs e = .rt r e' ∧ Ok e')
  | [], e, he, _ => ⟨fun _ => ⟨e, rfl, he⟩, fun h => by simp at h⟩
  | x :: xs, e, he, h => by
    obtain ⟨h1, h2⟩ := h x (by simp) e he
    cases hp : p x with
    | true =>
      obtain ⟨e1, k1, o1⟩ := h1 hp
      have ih := forL_all (f := f) (p := p) (r := r) Ok (xs := xs) o1 fun y hy => h y (by simp [hy])
      have step : forL f (x :: xs) e = forL f xs e1 := by rcases k1 with k1 | k1 <;> simp only [forL, k1]
      simp only [List.all_cons, hp, Bool.true_and, step]
      exact ih
    | false =>
      obtain ⟨e1, k1, o1⟩ := h2 hp
      simp only [List.all_cons, hp, Bool.false_and]
      exact ⟨fun z => by simp at z, fun _ => ⟨e1, by simp only [forL, k1], o1⟩⟩
/-- a loop that does something at each turn, told by how many turns are done -/
theorem forL_inv {f : D → Env → SR} (Inv : Nat → Env → Prop) : ∀ {xs : List D} {k : Nat} {e : Env}, Inv k e → (∀ i x e, xs[i]? = some x → Inv (k + i) e → ∃ e', (f x e = .nx e' ∨ f x e = .ct e') ∧ Inv (k + i + 1) e') → ∃ e', forL f xs e = .nx e' ∧ Inv (k + xs.length) e'
  | [], k, e, he, _ => ⟨e, rfl, he⟩
  | x :: xs, k, e, he, h => by
    obtain ⟨e1, k1, o1⟩ := h 0 x e rfl he
    obtain ⟨e2, k2, o2⟩ := forL_inv (f := f) Inv (xs := xs) (k := k + 1) (e := e1) o1 fun i y e' hy he' => by
      have := h (i + 1) y e' (by simpa using hy) (by rw [show k + (i + 1) = k + 1 + i by omega]; exact he')
      rwa [show k + (i + 1) + 1 = k + 1 + i + 1 by omega] at this
    refine ⟨e2, ?_, by rw [show k + (x :: xs).length = k + 1 + xs.length by simp; omega]; exact o2⟩
    rcases k1 with k1 | k1 <;> simp only [forL, k1, k2]
theorem forB_v {G : Cfg} {i : Nat} {b : List St} {x : D} {e : Env} {s : Slot} (h : e[i]? = some s) (ho : opn s = true) : forB G (.v i) b x e = execs G false b (e.set i (shw x)) := by
  unfold forB
  rw [bindP_v h ho]
/-- behind a loop nothing is locked for: the target let go -/
theorem aft0 {e0 : Env} {p : Pat} {e : Env} : aft e0 p [] e = clearP e (patV p) := rfl
theorem range_src {G : Cfg} {q : Ex} {e : Env} {n : Nat} (h : lk G q true e = .ok (.int n) e) (hn : n < 2 ^ 62) : src G (.rng none (some q) none) e = .ok ((List.range n).map fun (k : Nat) => .int k, []) e := by
  simp only [src, h, res_bind_ok]
  have : rangeD 0 (n : Int) = some ((List.range n).map fun (k : Nat) => .int k) := by
    unfold rangeD
    rw [if_pos (by omega)]
    simp
  rw [this]; rfl
theorem range_get {n i : Nat} {x : D} (h : ((List.range n).map fun (k : Nat) => D.int k)[i]? = some x) : x = .int i ∧ i < n := by
  rw [List.getElem?_map, Option.map_eq_some_iff] at h
  obtain ⟨m, hm, rfl⟩ := h
  obtain ⟨hlt, e⟩ := List.getElem?_eq_some_iff.mp hm
  rw [List.length_range] at hlt
  rw [List.getElem_range] at e
  subst e
  exact ⟨rfl, hlt⟩
theorem atI_some {α : Type} {xs : List α} {i : Int} (h0 : 0 ≤ i) (h1 : i < xs.length) : ∃ x, x ∈ xs ∧ atI xs i = some x ∧ xs[i.toNat]? = some x := by
  have hk : i.toNat < xs.length := by omega
  refine ⟨xs[i.toNat], List.getElem_mem hk, ?_, List.getElem?_eq_getElem hk⟩
  rw [atI_of (k := i.toNat) (by omega) hk, List.getElem?_eq_getElem hk]
theorem cut_mem {α : Type} {xs : List α} {lo hi : Option Int} {y : α} (h : y ∈ cut xs lo hi) : y ∈ xs := List.mem_of_mem_drop (List.mem_of_mem_take h)
theorem cut_len {α : Type} {xs : List α} {lo hi : Option Int} : (cut xs lo hi).length ≤ xs.length := by
  unfold cut
  rw [List.length_take, List.length_drop]
  omega
theorem stbs_mem {xs : List D} (h : ∀ x ∈ xs, x.stb = true) : stbs xs = true := by
  rw [stbs_all, List.all_eq_true]; exact h
theorem mem_int {is : List Int} {y : D} (h : y ∈ is.map D.int) : ∃ i ∈ is, y = .int i := by
  obtain ⟨i, hi, rfl⟩ := List.mem_map.mp h
  exact ⟨i, hi, rfl⟩
end
end Wv

set_option Elab.async false
set_option linter.all false
set_option maxRecDepth 100000
/-! Wv31: more tools for plain laws: bits of ints, loops that stop. -/
namespace Wv
open PySem (Str Operator UnaryOp CmpOp)
section
variable {G : Cfg}
@[simp 2000] theorem ob_some {α β : Type} {a : α} {f : α → Option β} : (some a).bind f = f a := (rfl)
@[simp 2000] theorem om_some {α β : Type} {a : α} {f : α → β} : (some a).map f = some (f a) := (rfl)
@[simp] theorem exec_augI' {x : Nat} {i : Qx} {op : Operator} {y : Qx} {e : Env} : exec G false (.augI x [] i op (.q y)) e = (ev G (.q y) e).st fun d e => match qv G i e with
    | some k => (match updS e x [] (fun o => (idxD o k).bind fun v => (binD op v d).bind fun r => if r.isI then (setL o k r).map fun o' => (.non, o') else none) with
      | some (_, e') => .nx e'
      | none => .bad)
    | none => .bad := by
  simp only [exec, isQ, Bool.not_true, Bool.false_eq_true, if_false, pels]
  cases ev G (.q y) e with
  | ok d e1 =>
    simp only [res_st_ok]
    cases qv G i e1 with
    | none => rfl
    | some k => rfl
  | _ => rfl
end
/-! ### bits -/
def nor (m n : Nat) : Nat := m ||| n
def nxor (m n : Nat) : Nat := (m ||| n) - (m &&& n)
def nsh (k : Nat) : Nat := 2 ^ k
def nsr (m k : Nat) : Nat := m >>> k
theorem bitAnd_N (m n : Nat) : PySem.Builtin.bitAnd (m : Int) (n : Int) = ((m &&& n : Nat) : Int) := by
  simp [PySem.Builtin.bitAnd]
theorem bitOr_N (m n : Nat) : PySem.Builtin.bitOr (m : Int) (n : Int) = ((m ||| n : Nat) : Int) := by
  have h1 : ¬ (0 : Int) ≤ -(m : Int) - 1 := by omega
  have h2 : ¬ (0 : Int) ≤ -(n : Int) - 1 := by omega
  have e1 : -(-(m : Int) - 1) - 1 = m := by omega
  have e2 : -(-(n : Int) - 1) - 1 = n := by omega
  simp only [PySem.Builtin.bitOr, PySem.Builtin.bitAnd, PySem.Builtin.bitNot, h1, h2, decide_false, e1, e2, Int.toNat_natCast]
  omega
theorem and_le_or (m n : Nat) : m &&& n ≤ m ||| n := Nat.le_trans Nat.and_le_left Nat.left_le_or
theorem bitXor_N (m n : Nat) : PySem.Builtin.bitXor (m : Int) (n : Int) = ((nxor m n : Nat) : Int) := by
  unfold PySem.Builtin.bitXor nxor
  rw [bitOr_N, bitAnd_N]
  have := and_le_or m n
  omega
@[simp] theorem bin_orN {m n : Nat} : binD .BitOr (.int m) (.int n) = some (.int (nor m n : Nat)) := by
  show (some (PySem.Builtin.bitOr (m : Int) (n : Int))).map D.int = _
  rw [bitOr_N]; rfl
@[simp] theorem bin_xorN {m n : Nat} : binD .BitXor (.int m) (.int n) = some (.int (nxor m n : Nat)) := by
  show (some (PySem.Builtin.bitXor (m : Int) (n : Int))).map D.int = _
  rw [bitXor_N]; rfl
theorem bin_shlN {k : Nat} (h : k ≤ 1000000) : binD .LShift (.int 1) (.int k) = some (.int (nsh k : Nat)) := by
  have h1 : (0 : Int) ≤ k ∧ (k : Int) ≤ 1000000 ∧ (1 : Int).natAbs < 2 ^ 128 := ⟨by omega, by omega, by decide⟩
  simp only [binD, arith, if_pos h1, Option.map_some, Int.toNat_natCast, Int.one_mul, nsh]
  congr 2 <;> simp
@[simp] theorem bin_shrN {m k : Nat} : binD .RShift (.int m) (.int k) = some (.int (nsr m k : Nat)) := by
  simp only [binD, arith, if_pos (show (0 : Int) ≤ k by omega), Option.map_some, Int.toNat_natCast, nsr]
  congr 2
  rw [Nat.shiftRight_eq_div_pow]
  simp
@[simp] theorem bin_and1 {m k : Nat} : binD .BitAnd (.int (nsr m k : Nat)) (.int 1) = some (.int (if m.testBit k then 1 else 0)) := by
  show (some (PySem.Builtin.bitAnd ((nsr m k : Nat) : Int) ((1 : Nat) : Int))).map D.int = _
  rw [bitAnd_N]
  simp only [Option.map_some, nsr]
  congr 2
  rw [Nat.testBit, Nat.and_comm]
  have : 1 &&& m >>> k < 2 := by
    have := Nat.and_le_left (n := 1) (m := m >>> k)
    omega
  generalize 1 &&& m >>> k = z at this
  have : z = 0 ∨ z = 1 := by omega
  rcases this with rfl | rfl <;> rfl
@[simp] theorem ite10 {b : Bool} : ((if b = true then (1 : Int) else 0) != 0) = b := by cases b <;> rfl
@[simp] theorem ite10' {b : Bool} : (if b = true then (1 : Int) else 0) = 1 ↔ b = true := by cases b <;> simp
@[simp] theorem nor_bit {m n i : Nat} : (nor m n).testBit i = (m.testBit i || n.testBit i) := by simp [nor]
@[simp] theorem nsh_bit {k i : Nat} : (nsh k).testBit i = decide (k = i) := by simp [nsh, Nat.testBit_two_pow]
end Wv

set_option Elab.async false
set_option linter.all false
set_option maxRecDepth 100000
/-! Wv32: tools that the later laws share: arguments, tests in comprehensions, loops that return. -/
namespace Wv
open PySem (Str Operator UnaryOp CmpOp)
section
variable {G : Cfg}
@[simp] theorem muts_brv {i : Nat} {xs : List Ex} : muts (.brv i :: xs) = muts xs := (rfl)
@[simp] theorem muts_comp {own : List Nat} {p : Pat} {s : Src} {ifs : List Ex} {elt : Ex} {xs : List Ex} : muts (.comp own p s ifs elt :: xs) = muts xs := (rfl)
@[simp] theorem evA0_brv {i : Nat} {r : List Ex} {e : Env} : evA G [] (.brv i :: r) e = if (getS e i).isNone then .bad else (evA G [] r e).bind fun ss e => match getS e i with
    | some d => .ok (.br d :: ss) e
    | none => .bad := by simp only [evA, List.contains_nil, Bool.false_eq_true, if_false] <;> rfl
@[simp] theorem evA0_call {f : String} {es : List Ex} {ks : List String} {r : List Ex} {e : Env} : evA G [] (.call f es ks :: r) e = (ev G (.call f es ks) e).bind fun d e => (evA G [] r e).bind fun ss e => .ok (.br d :: ss) e := by simp only [evA] <;> rfl
@[simp] theorem evA0_comp {own : List Nat} {p : Pat} {s : Src} {ifs : List Ex} {elt : Ex} {r : List Ex} {e : Env} : evA G [] (.comp own p s ifs elt :: r) e = (ev G (.comp own p s ifs elt) e).bind fun d e => (evA G [] r e).bind fun ss e => .ok (.br d :: ss) e := by simp only [evA] <;> rfl
end
theorem mod_ok {x y : Int} (h : 0 < y) : binD .Mod (.int x) (.int y) = some (.int (x % y)) ∧ 0 ≤ x % y ∧ x % y < y := ⟨bin_modI h, Int.emod_nonneg _ (by omega), Int.emod_lt_of_pos _ h⟩
theorem compL_fm {f : D → Env → Res (Option D)} {g : D → D} {q : D → Bool} (Ok : Env → Prop) : ∀ {xs : List D} {e : Env}, Ok e → (∀ x ∈ xs, ∀ e, Ok e → ∃ e', f x e = .ok (if q x then some (g x) else none) e' ∧ Ok e') → ∃ e', compL f xs e = .ok ((xs.filter q).map g) e' ∧ Ok e'
  | [], e, he, _ => ⟨e, rfl, he⟩
  | x :: xs, e, he, h => by
    obtain ⟨e1, h1, o1⟩ := h x (by simp) e he
    obtain ⟨e2, h2, o2⟩ := compL_fm (xs := xs) Ok o1 fun y hy => h y (by simp [hy])
    refine ⟨e2, ?_, o2⟩
    cases hq : q x <;> rw [hq] at h1 <;> simp only [compL, h1, h2, res_bind_ok, List.filter_cons, hq, Bool.false_eq_true, if_false, if_true, List.map_cons]
/-- a comprehension with one test -/
theorem ev_comp_if {P : Prog} {cf : String → List Slot → CRes} {own : List Nat} {p : Pat} {s : Src} {c elt : Ex} {e : Env} {is : List D} {rs : List Nat} (g : D → D) (q : D → Bool) (hs : src (cfg P cf) s e = .ok (is, rs) e) (hf : fits is.length = true)
    (h : ∀ x ∈ is, match bindP p x (Wv.wipe (lock e rs) own) with
      | some e' => (match te (cfg P cf) c e' with
        | .ok t e'' => t = q x ∧ (if t then (match ev (cfg P cf) elt e'' with
          | .ok y e3 => y = g x ∧ Wv.wipe e3 own = Wv.wipe (lock e rs) own
          | _ => False) else Wv.wipe e'' own = Wv.wipe (lock e rs) own)
        | _ => False)
      | none => False) : ev (cfg P cf) (.comp own p s [c] elt) e = .ok (.lst .own ((is.filter q).map g)) e := by
  simp only [ev, cfg_hot, Bool.false_eq_true, if_false, hs, res_bind_ok]
  obtain ⟨e', h1, h2⟩ := compL_fm (g := g) (q := q) (f := fun x e => match bindP p x (Wv.wipe e own) with
        | some e => (tes (cfg P cf) [c] e).bind fun t e => if t then (ev (cfg P cf) elt e).bind fun y e => .ok (some y) e else .ok none e
        | none => .bad) (fun e' => Wv.wipe e' own = Wv.wipe (lock e rs) own) (xs := is) (e := Wv.wipe (lock e rs) own) (wipe_wipe _ _) (fun x hx e1 he1 => by
    have z := h x hx
    split at z
    · rename_i a h1
      split at z
      · rename_i t b h2
        obtain ⟨ht, z⟩ := z
        cases t with
        | true =>
          simp only [if_true] at z
          split at z
          · rename_i y b2 h3
            exact ⟨b2, by simp only [he1, h1, tes_cons', tes_nil', h2, res_bind_ok, if_true, h3, z.1, ← ht], z.2⟩
          · exact z.elim
        | false =>
          simp only [Bool.false_eq_true, if_false] at z
          exact ⟨b, by simp only [he1, h1, tes_cons', h2, res_bind_ok, Bool.false_eq_true, if_false, ← ht], z⟩
      · exact z.elim
    · exact z.elim)
  have hfl : fits ((is.filter q).map g).length = true := by
    refine fits_of ?_
    have h1 : is.length ≤ 16777216 := of_decide_eq_true hf
    have h2 := List.length_filter_le q is
    rw [List.length_map]
    omega
  split
  · rename_i ds e1 heq
    have z := heq.symm.trans h1
    cases z
    simp only [hfl, if_true, h2, restore_wipe, unlock_lock]
  · rename_i hno
    exact absurd h1 (hno _ _)
/-- a loop that may return -/
theorem forL_ret {f : D → Env → SR} (Inv : Env → Prop) (R : D → Env → Prop) : ∀ {xs : List D} {e : Env}, Inv e → (∀ x ∈ xs, ∀ e, Inv e → (∃ e', f x e = .nx e' ∧ Inv e') ∨ ∃ r e', f x e = .rt r e' ∧ R r e') →
    (∃ e', forL f xs e = .nx e' ∧ Inv e') ∨ ∃ r e', forL f xs e = .rt r e' ∧ R r e'
  | [], e, he, _ => .inl ⟨e, rfl, he⟩
  | x :: xs, e, he, h => by
    rcases h x (by simp) e he with ⟨e1, k, o⟩ | ⟨r, e1, k, o⟩
    · simp only [forL, k]
      exact forL_ret Inv R o fun y hy => h y (by simp [hy])
    · exact .inr ⟨r, e1, by simp only [forL, k], o⟩
@[simp] theorem qv_bic' {G : Cfg} {f : String} {es : List Qx} {e : Env} : qv G (.bic f es) e = if G.hot then none else ((qvs G es e).bind fun ds => (bicD f ds).map D.fz0) := by simp only [qv] <;> rfl
@[simp] theorem bic_rev_tup {xs : List D} : bicD "tuplereversed" [.tup xs] = if stbs xs then some (.tup xs.reverse) else none := (rfl)
mutual
theorem stb_froz : ∀ {d : D}, d.stb = true → d.froz.stb = true
  | .non, _ | .bl _, _ | .int _, _ | .str _, _ => by simp
  | .tup xs, h => by
    rw [froz_tup, stb_tup]; rw [stb_tup] at h; exact stbs_froz h
  | .lst t xs, h => by
    cases t with
    | own => simp at h
    | fro => rw [froz_fro, stb_fro]; rw [stb_fro] at h; exact stbs_froz h
    | scr => simp only [D.froz]; exact h
  | .obj t c ns xs, h => by
    simp only [D.stb, Bool.and_eq_true] at h
    simp only [D.froz, D.stb, Bool.and_eq_true]
    exact ⟨by decide, stbs_froz h.2⟩
  | .iset t xs, h => by simp only [D.froz, D.stb]; decide
  | .dic t ks vs, h => by
    simp only [D.stb, Bool.and_eq_true] at h
    simp only [D.froz, D.stb, Bool.and_eq_true]
    exact ⟨⟨by decide, h.1.2⟩, stbs_froz h.2⟩
theorem stbs_froz : ∀ {xs : List D}, stbs xs = true → stbs (frozs xs) = true
  | [], _ => by simp
  | x :: xs, h => by
    simp only [stbs_cons, Bool.and_eq_true] at h
    simp only [frozs_cons, stbs_cons, Bool.and_eq_true]
    exact ⟨stb_froz h.1, stbs_froz h.2⟩
end
theorem cut_mapI {α β : Type} (f : α → β) (xs : List α) (lo hi : Option Int) : cut (xs.map f) lo hi = (cut xs lo hi).map f := by
  unfold cut
  rw [List.length_map, ← List.map_drop, ← List.map_take]
theorem enum_get {xs : List D} {i : Nat} {x : D} (h : (enumD xs)[i]? = some x) : ∃ d, xs[i]? = some d ∧ x = .tup [.int i, d] := by
  unfold enumD at h
  rw [List.getElem?_zipWith] at h
  cases hx : xs[i]? with
  | none => rw [hx] at h; cases hr : (List.range xs.length)[i]? <;> (rw [hr] at h; simp at h)
  | some d =>
    have hi : i < xs.length := by
      by_cases hi : i < xs.length
      · exact hi
      · rw [List.getElem?_eq_none (by omega)] at hx; cases hx
    rw [hx, List.getElem?_range hi] at h
    simp at h
    exact ⟨d, rfl, h.symm⟩
theorem enum_len {xs : List D} : (enumD xs).length = xs.length := by simp [enumD]
theorem bin_mulL1 {x : D} {s : Nat} (hs : s ≤ 1000) (hx : x.stb = true) : binD .Mult (.lst .fro [x]) (.int s) = some (.lst .own (List.replicate s x)) := by
  have h1 : fits ([x].length * (s : Int).toNat) = true := fits_of (by simp; omega)
  have h2 : stbs [x] = true := by simp [hx]
  simp only [binD]
  rw [h1, h2]
  have h3 : decide (-(2 ^ 63) ≤ (s : Int) ∧ (s : Int) < 2 ^ 63) = true := decide_eq_true ⟨by omega, by omega⟩
  rw [h3]
  simp
end Wv

set_option Elab.async false
set_option linter.all false
set_option maxRecDepth 100000
set_option maxHeartbeats 1000000
/-! ### the program as data -/
namespace Law_k21
open Wv
-- 0 value
def f_is_integer : Fn := { np := 1, nv := 1, ps := ["value"], body := [
    .ret (.q (.and [(.isi (.var 0) ["int"]), (.nt (.isi (.var 0) ["bool"]))]))] }
-- 0 value, 1 low, 2 high
def f_is_between : Fn := { np := 3, nv := 3, ps := ["value", "low", "high"], body := [
    .ret (.and [(.call "is_integer" [(.q (.var 0))] []), (.q (.ch2 .LtE .LtE (.var 1) (.var 0) (.var 2)))])] }
-- 0 value
def f_is_bit : Fn := { np := 1, nv := 1, ps := ["value"], body := [
    .ret (.call "is_between" [(.q (.var 0)), (.q (.int 0)), (.q (.int 1))] [])] }
-- 0 value, 1 length, 2 letter
def el_is_word_0 : Ex := (.call "is_bit" [(.q (.var 2))] [])
def f_is_word : Fn := { np := 2, nv := 3, ps := ["value", "length"], body := [
    .ret (.and [(.q (.isi (.var 0) ["tuple"])), (.q (.cmp .Eq (.bi "len" [(.var 0)]) (.var 1))), (.bi "all" [(.comp [2] (.v 2) (.itq (.var 0)) [] el_is_word_0)])])] }
-- 0 self, 1 length, 2 words, 3 place, 4 word
def lp_WordsX_initX_0 : List St := [      .ifS (.or [(.q (.cmp .Eq (.var 3) (.glob "MOST_WORDS"))), (.nt (.call "is_word" [(.q (.var 4)), (.q (.var 1))] []))])
        [        .rais "InvalidWords" [(.q (.str "words")), (.q (.var 3))]]
        [],
      .ifS (.q (.and [(.cmp .Gt (.var 3) (.int 0)), (.cmp .LtE (.var 4) (.idx (.var 2) (.bin .Sub (.var 3) (.int 1))))]))
        [        .rais "InvalidWords" [(.q (.str "words")), (.q (.var 3))]]
        []]
def f_WordsX_initX : Fn := { np := 3, nv := 5, ps := ["self", "length", "words"], body := [
    .ifS (.nt (.call "is_between" [(.q (.var 1)), (.q (.int 0)), (.q (.glob "MOST_LETTERS"))] []))
      [      .rais "InvalidWords" [(.q (.str "length")), (.q (.int 0))]]
      [],
    .ifS (.q (.or [(.nt (.isi (.var 2) ["list", "tuple"])), (.cmp .Eq (.bi "len" [(.var 2)]) (.int 0))]))
      [      .rais "InvalidWords" [(.q (.str "words")), (.q (.int 0))]]
      [],
    .forS (.tup [(.v 3), (.v 4)]) (.enq (.var 2)) lp_WordsX_initX_0,
    .setA 0 "length" (.q (.var 1)),
    .setA 0 "words" (.q (.bi "tuple" [(.var 2)]))] }
-- 0 word, 1 number, 2 letter
def lp_number_of_word_0 : List St := [      .asg (.v 1) (.q (.bin .Add (.bin .Mult (.int 2) (.var 1)) (.var 2)))]
def f_number_of_word : Fn := { np := 1, nv := 3, ps := ["word"], body := [
    .asg (.v 1) (.q (.int 0)),
    .forS (.v 2) (.itq (.var 0)) lp_number_of_word_0,
    .ret (.q (.var 1))] }
-- 0 words, 1 word
def el_numbers_of_0 : Ex := (.call "number_of_word" [(.q (.var 1))] [])
def f_numbers_of : Fn := { np := 1, nv := 2, ps := ["words"], body := [
    .ret (.comp [1] (.v 1) (.itq (.attr (.var 0) "words")) [] el_numbers_of_0)] }
-- 0 numbers, 1 known, 2 many, 3 i, 4 j, 5 both, 6 either, 7 k
def st_first_wrong_0 : St := .asg (.v 1) (.fr (.bi "set" [(.q (.var 0))]))
def st_first_wrong_1 : St := .asg (.v 2) (.q (.bi "len" [(.var 0)]))
def lp_first_wrong_0 : List St := [          .ifS (.q (.cmp .NotIn (.bin .BitOr (.var 5) (.bin .BitAnd (.var 6) (.idx (.var 0) (.var 7)))) (.var 1)))
            [            .ret (.tup [(.q (.var 3)), (.q (.var 4)), (.q (.var 7))])]
            []]
def lp_first_wrong_1 : List St := [        .asg (.v 5) (.q (.bin .BitAnd (.idx (.var 0) (.var 3)) (.idx (.var 0) (.var 4)))),
        .asg (.v 6) (.q (.bin .BitOr (.idx (.var 0) (.var 3)) (.idx (.var 0) (.var 4)))),
        .forS (.v 7) (.rng (some (.q (.bin .Add (.var 4) (.int 1)))) (some (.q (.var 2))) none) lp_first_wrong_0]
def lp_first_wrong_2 : List St := [      .forS (.v 4) (.rng (some (.q (.bin .Add (.var 3) (.int 1)))) (some (.q (.var 2))) none) lp_first_wrong_1]
def st_first_wrong_2 : St := .forS (.v 3) (.rng none (some (.q (.var 2))) none) lp_first_wrong_2
def st_first_wrong_3 : St := .ret (.q .non)
def f_first_wrong : Fn := { np := 1, nv := 8, ps := ["numbers"], body := [
    st_first_wrong_0,
    st_first_wrong_1,
    st_first_wrong_2,
    st_first_wrong_3] }
-- 0 words
def f_is_closed : Fn := { np := 1, nv := 1, ps := ["words"], body := [
    .ret (.cmp .Is (.call "first_wrong" [(.call "numbers_of" [(.q (.var 0))] [])] []) (.q .non))] }
-- 0 words, 1 places, 2 place
def el_wrong_words_0 : Ex := (.q (.idx (.attr (.var 0) "words") (.var 2)))
def f_wrong_words : Fn := { np := 1, nv := 3, ps := ["words"], body := [
    .asg (.v 1) (.fr (.call "first_wrong" [(.call "numbers_of" [(.q (.var 0))] [])] [])),
    .ifS (.q (.cmp .Is (.var 1) .non))
      [      .rais "Undefined" [(.q (.str "words"))]]
      [],
    .ret (.bi "tuple" [(.fr (.comp [2] (.v 2) (.itq (.var 1)) [] el_wrong_words_0))])] }
-- 0 script, 1 k
def f__law_cell : Fn := { np := 2, nv := 2, ps := ["script", "k"], body := [
    .ifS (.q (.cmp .Lt (.var 1) (.bi "len" [(.var 0)])))
      [      .ret (.q (.bi "int" [(.idx (.var 0) (.var 1))]))]
      [],
    .ret (.q (.int 0))] }
-- 0 script, 1 at, 2 many, 3 limit, 4 row, 5 left, 6 k
def lp__law_row_0 : List St := [        .expr (.mm 4 [] "append" [(.q (.bin .Mod (.bi "int" [(.var 5)]) (.var 3)))]),
        .asg (.v 5) (.q (.bin .FloorDiv (.var 5) (.var 3)))]
def lp__law_row_1 : List St := [      .asg (.v 5) (.fr (.bin .Mod (.bi "int" [(.bin .Mult (.bin .Add (.bin .Add (.bin .Add (.q (.var 5)) (.call "_law_cell" [(.q (.var 0)), (.q (.bin .Add (.bin .Add (.var 1) (.int 4)) (.var 6)))] [])) (.q (.var 6))) (.q (.int 1))) (.q (.int 48271)))]) (.q (.int 2147483647)))),
      .expr (.mm 4 [] "append" [(.q (.bin .Mod (.bin .FloorDiv (.bin .Mod (.bi "int" [(.bin .Add (.bin .Mult (.var 5) (.int 69621)) (.bin .Mult (.var 6) (.int 40692)))]) (.int 1999999973)) (.int 1009)) (.var 3)))])]
def f__law_row : Fn := { np := 4, nv := 7, ps := ["script", "at", "many", "limit"], body := [
    .asg (.v 4) (.lst []),
    .asg (.v 5) (.fr (.call "_law_cell" [(.q (.var 0)), (.q (.var 1))] [])),
    .ifS (.q (.cmp .GtE (.var 5) (.bin .Pow (.int 10) (.int 18))))
      [      .asg (.v 5) (.q (.bin .Sub (.var 5) (.bin .Pow (.int 10) (.int 18)))),
      .forS (.v 6) (.rng none (some (.q (.var 2))) none) lp__law_row_0,
      .ret (.mv 4)]
      [],
    .asg (.v 5) (.q (.bin .Mod (.bi "int" [(.var 5)]) (.int 2147483647))),
    .forS (.v 6) (.rng none (some (.q (.var 2))) none) lp__law_row_1,
    .ret (.mv 4)] }
-- 0 number, 1 length, 2 k
def el__law_word_0 : Ex := (.q (.bin .Mod (.bi "int" [(.bin .RShift (.var 0) (.bin .Sub (.bin .Sub (.var 1) (.int 1)) (.var 2)))]) (.int 2)))
def f__law_word : Fn := { np := 2, nv := 3, ps := ["number", "length"], body := [
    .ret (.bi "tuple" [(.fr (.comp [2] (.v 2) (.rng none (some (.q (.var 1))) none) [] el__law_word_0))])] }
-- 0 script, 1 at, 2 many, 3 length, 4 halves, 5 found, 6 k, 7 number
def st__law_drawn_0 : St := .asg (.v 4) (.fr (.call "_law_row" [(.q (.var 0)), (.q (.var 1)), (.q (.bin .Mult (.int 2) (.var 2))), (.q (.int 1048576))] []))
def st__law_drawn_1 : St := .asg (.v 5) (.lst [])
def lp__law_drawn_0 : List St := [      .asg (.v 7) (.q (.bin .Mod (.bi "int" [(.bin .Add (.bin .Mult (.idx (.var 4) (.bin .Mult (.int 2) (.var 6))) (.int 1048576)) (.idx (.var 4) (.bin .Add (.bin .Mult (.int 2) (.var 6)) (.int 1))))]) (.bin .LShift (.int 1) (.var 3)))),
      .ifS (.q (.cmp .NotIn (.var 7) (.var 5)))
        [        .expr (.mm 5 [] "append" [(.q (.var 7))])]
        []]
def st__law_drawn_2 : St := .forS (.v 6) (.rng none (some (.q (.var 2))) none) lp__law_drawn_0
def st__law_drawn_3 : St := .ret (.bi "sorted" [(.q (.var 5))])
def f__law_drawn : Fn := { np := 4, nv := 8, ps := ["script", "at", "many", "length"], body := [
    st__law_drawn_0,
    st__law_drawn_1,
    st__law_drawn_2,
    st__law_drawn_3] }
-- 0 one, 1 other, 2 third
def f__law_majority : Fn := { np := 3, nv := 3, ps := ["one", "other", "third"], body := [
    .ret (.q (.bin .BitOr (.bin .BitOr (.bin .BitAnd (.var 0) (.var 1)) (.bin .BitAnd (.var 0) (.var 2))) (.bin .BitAnd (.var 1) (.var 2))))] }
-- 0 row, 1 most, 2 found, 3 seen, 4 number, 5 k, 6 i, 7 j
def st__law_closure_0 : St := .asg (.v 2) (.bi "list" [(.q (.var 0))])
def st__law_closure_1 : St := .asg (.v 3) (.mk0 false)
def lp__law_closure_0 : List St := [      .setI 3 [] (.var 4) (.q (.tr true))]
def st__law_closure_2 : St := .forS (.v 4) (.itq (.var 0)) lp__law_closure_0
def lp__law_closure_1 : List St := [          .asg (.v 4) (.fr (.call "_law_majority" [(.q (.idx (.var 2) (.var 6))), (.q (.idx (.var 2) (.var 7))), (.q (.idx (.var 2) (.var 5)))] [])),
          .ifS (.q (.cmp .NotIn (.var 4) (.var 3)))
            [            .setI 3 [] (.var 4) (.q (.tr true)),
            .expr (.mm 2 [] "append" [(.q (.var 4))])]
            []]
def lp__law_closure_2 : List St := [        .forS (.v 7) (.rng none (some (.q (.var 6))) none) lp__law_closure_1]
def lp__law_closure_3 : List St := [      .ifS (.q (.or [(.cmp .GtE (.var 5) (.bi "len" [(.var 2)])), (.cmp .Gt (.bi "len" [(.var 2)]) (.var 1))]))
        [        .ret (.bi "sorted" [(.q (.var 2))])]
        [],
      .forS (.v 6) (.rng none (some (.q (.var 5))) none) lp__law_closure_2]
def st__law_closure_3 : St := .forS (.v 5) (.rng none (some (.q (.bin .Add (.var 1) (.int 1)))) none) lp__law_closure_3
def st__law_closure_4 : St := .ret (.bi "sorted" [(.q (.var 2))])
def f__law_closure : Fn := { np := 2, nv := 8, ps := ["row", "most"], body := [
    st__law_closure_0,
    st__law_closure_1,
    st__law_closure_2,
    st__law_closure_3,
    st__law_closure_4] }
-- 0 picks, 1 wide, 2 high, 3 deep, 4 letters, 5 tail, 6 row, 7 i, 8 j, 9 k
def st__law_grid_0 : St := .asg (.v 1) (.q (.bin .Add (.int 1) (.bin .Mod (.idx (.var 0) (.int 0)) (.int 8))))
def st__law_grid_1 : St := .asg (.v 2) (.q (.bin .Add (.int 1) (.bin .Mod (.idx (.var 0) (.int 1)) (.bin .FloorDiv (.int 40) (.var 1)))))
def st__law_grid_2 : St := .asg (.v 3) (.q (.bin .Add (.int 1) (.bin .Mod (.idx (.var 0) (.int 2)) (.bin .FloorDiv (.int 40) (.bin .Mult (.var 1) (.var 2))))))
def st__law_grid_3 : St := .asg (.v 4) (.q (.bin .Sub (.bin .Add (.bin .Add (.var 1) (.var 2)) (.var 3)) (.int 3)))
def st__law_grid_4 : St := .asg (.v 5) (.q (.bi "min" [(.bin .Mod (.idx (.var 0) (.int 3)) (.int 5)), (.bin .Sub (.int 40) (.bin .Mult (.bin .Mult (.var 1) (.var 2)) (.var 3))), (.bin .Sub (.int 39) (.var 4))]))
def st__law_grid_5 : St := .asg (.v 6) (.lst [])
def lp__law_grid_0 : List St := [          .expr (.mm 6 [] "append" [(.bin .Add (.q (.bin .Add (.bin .Sub (.bin .LShift (.int 1) (.var 7)) (.int 1)) (.bin .LShift (.bin .Sub (.bin .LShift (.int 1) (.var 8)) (.int 1)) (.bin .Sub (.var 1) (.int 1))))) (.q (.bin .LShift (.bin .Sub (.bin .LShift (.int 1) (.var 9)) (.int 1)) (.bin .Sub (.bin .Add (.var 1) (.var 2)) (.int 2)))))])]
def lp__law_grid_1 : List St := [        .forS (.v 9) (.rng none (some (.q (.var 3))) none) lp__law_grid_0]
def lp__law_grid_2 : List St := [      .forS (.v 8) (.rng none (some (.q (.var 2))) none) lp__law_grid_1]
def st__law_grid_6 : St := .forS (.v 7) (.rng none (some (.q (.var 1))) none) lp__law_grid_2
def lp__law_grid_3 : List St := [      .expr (.mm 6 [] "append" [(.q (.bin .Sub (.bin .LShift (.int 1) (.bin .Add (.bin .Add (.var 4) (.var 9)) (.int 1))) (.int 1)))])]
def st__law_grid_7 : St := .forS (.v 9) (.rng none (some (.q (.var 5))) none) lp__law_grid_3
def st__law_grid_8 : St := .ret (.lst [(.fr (.bin .Add (.q (.var 4)) (.q (.var 5)))), (.fr (.mv 6))])
def f__law_grid : Fn := { np := 1, nv := 10, ps := ["picks"], body := [
    st__law_grid_0,
    st__law_grid_1,
    st__law_grid_2,
    st__law_grid_3,
    st__law_grid_4,
    st__law_grid_5,
    st__law_grid_6,
    st__law_grid_7,
    st__law_grid_8] }
-- 0 letters, 1 row, 2 keys, 3 extra, 4 sources, 5 order, 6 found, 7 number, 8 made, 9 k
def st__law_mixed_0 : St := .asg (.v 3) (.q (.bi "min" [(.bin .Mod (.idx (.var 2) (.int 0)) (.int 4)), (.bin .Sub (.int 39) (.var 0))]))
def el__law_mixed_0 : Ex := (.q (.var 9))
def el__law_mixed_1 : Ex := (.q (.bin .Mod (.idx (.var 2) (.bin .Add (.int 1) (.var 9))) (.bin .Add (.var 0) (.int 1))))
def st__law_mixed_1 : St := .asg (.v 4) (.fr (.bin .Add (.comp [9] (.v 9) (.rng none (some (.q (.var 0))) none) [] el__law_mixed_0) (.comp [9] (.v 9) (.rng none (some (.q (.var 3))) none) [] el__law_mixed_1)))
def el__law_mixed_2 : Ex := (.bin .Add (.q (.bin .Mult (.idx (.var 2) (.bin .Add (.int 5) (.var 9))) (.int 64))) (.q (.var 9)))
def st__law_mixed_2 : St := .asg (.v 5) (.fr (.bi "sorted" [(.fr (.comp [9] (.v 9) (.rng none (some (.q (.bi "len" [(.var 4)]))) none) [] el__law_mixed_2))]))
def st__law_mixed_3 : St := .asg (.v 6) (.lst [])
def lp__law_mixed_0 : List St := [        .asg (.v 8) (.q (.bin .Add (.bin .Mult (.var 8) (.int 2)) (.bin .Mod (.bi "int" [(.bin .Add (.bin .RShift (.var 7) (.idx (.var 4) (.bin .Mod (.bi "int" [(.idx (.var 5) (.var 9))]) (.int 64)))) (.bin .FloorDiv (.idx (.var 2) (.bin .Add (.int 5) (.var 9))) (.int 7)))]) (.int 2))))]
def lp__law_mixed_1 : List St := [      .asg (.v 8) (.q (.int 0)),
      .forS (.v 9) (.rng none (some (.q (.bi "len" [(.var 5)]))) none) lp__law_mixed_0,
      .expr (.mm 6 [] "append" [(.q (.var 8))])]
def st__law_mixed_4 : St := .forS (.v 7) (.itq (.var 1)) lp__law_mixed_1
def st__law_mixed_5 : St := .ret (.lst [(.q (.bi "len" [(.var 5)])), (.bi "sorted" [(.q (.var 6))])])
def f__law_mixed : Fn := { np := 3, nv := 10, ps := ["letters", "row", "keys"], body := [
    st__law_mixed_0,
    st__law_mixed_1,
    st__law_mixed_2,
    st__law_mixed_3,
    st__law_mixed_4,
    st__law_mixed_5] }
-- 0 script, 1 picks, 2 kind, 3 length, 4 row, 5 wide, 6 made, 7 number
def st__law_bag_0 : St := .asg (.v 1) (.fr (.call "_law_row" [(.q (.var 0)), (.q (.int 0)), (.q (.int 8)), (.q (.int 1009))] []))
def st__law_bag_1 : St := .asg (.v 2) (.q (.bin .Mod (.idx (.var 1) (.int 0)) (.int 8)))
def st__law_bag_2 : St := .asg (.v 3) (.q (.bin .Add (.int 1) (.bin .Mod (.idx (.var 1) (.int 1)) (.int 6))))
def st__law_bag_3 : St := .ifS (.q (.cmp .Lt (.var 2) (.int 2)))
      [      .ret (.lst [(.q (.var 3)), (.fr (.call "_law_drawn" [(.q (.var 0)), (.q (.int 1)), (.q (.bin .Add (.int 1) (.bin .Mod (.idx (.var 1) (.int 2)) (.int 10)))), (.q (.var 3))] []))])]
      []
def st__law_bag_4 : St := .ifS (.q (.cmp .Eq (.var 2) (.int 2)))
      [      .asg (.v 3) (.q (.idx (.lst [(.bin .Mod (.idx (.var 1) (.int 1)) (.int 40)), (.int 39), (.int 0), (.int 1)]) (.bin .Mod (.idx (.var 1) (.int 3)) (.int 4)))),
      .ret (.lst [(.q (.var 3)), (.fr (.call "_law_drawn" [(.q (.var 0)), (.q (.int 1)), (.q (.bin .Add (.int 1) (.bin .Mod (.idx (.var 1) (.int 2)) (.int 40)))), (.q (.var 3))] []))])]
      []
def st__law_bag_5 : St := .ifS (.q (.cmp .Lt (.var 2) (.int 5)))
      [      .asg (.v 4) (.fr (.call "_law_drawn" [(.q (.var 0)), (.q (.int 1)), (.q (.bin .Add (.int 2) (.bin .Mod (.idx (.var 1) (.int 2)) (.int 5)))), (.q (.bin .Add (.var 3) (.int 1)))] [])),
      .asg (.v 5) (.fr (.call "_law_closure" [(.q (.var 4)), (.q (.int 40))] [])),
      .ifS (.q (.cmp .LtE (.bi "len" [(.var 5)]) (.int 40)))
        [        .asg (.v 4) (.q (.var 5))]
        [],
      .asg (.v 6) (.lst [(.fr (.bin .Add (.q (.var 3)) (.q (.int 1)))), (.q (.var 4))])]
      [      .asg (.v 6) (.call "_law_grid" [(.q (.slc (.var 1) (some (.int 1)) (some (.int 5))))] []),
      .asg (.v 6) (.call "_law_mixed" [(.q (.idx (.var 6) (.int 0))), (.q (.idx (.var 6) (.int 1))), (.call "_law_row" [(.q (.var 0)), (.q (.int 1)), (.q (.int 44)), (.q (.int 1009))] [])] [])]
def st__law_bag_6 : St := .ifS (.q (.cmp .Eq (.bin .Mod (.idx (.var 1) (.int 5)) (.int 3)) (.int 0)))
      [      .asg (.v 7) (.fr (.idx (.call "_law_drawn" [(.q (.var 0)), (.q (.int 2)), (.q (.int 1)), (.q (.idx (.var 6) (.int 0)))] []) (.q (.int 0)))),
      .ifS (.q (.and [(.cmp .NotIn (.var 7) (.idx (.var 6) (.int 1))), (.cmp .Lt (.bi "len" [(.idx (.var 6) (.int 1))]) (.int 40))]))
        [        .setI 6 [] (.int 1) (.bi "sorted" [(.q (.bin .Add (.idx (.var 6) (.int 1)) (.lst [(.var 7)])))])]
        []]
      []
def st__law_bag_7 : St := .ret (.mv 6)
def f__law_bag : Fn := { np := 1, nv := 8, ps := ["script"], body := [
    st__law_bag_0,
    st__law_bag_1,
    st__law_bag_2,
    st__law_bag_3,
    st__law_bag_4,
    st__law_bag_5,
    st__law_bag_6,
    st__law_bag_7] }
-- 0 row, 1 seen, 2 number, 3 i, 4 j, 5 k
def st__law_first_0 : St := .asg (.v 1) (.mk0 false)
def lp__law_first_0 : List St := [      .setI 1 [] (.var 2) (.q (.tr true))]
def st__law_first_1 : St := .forS (.v 2) (.itq (.var 0)) lp__law_first_0
def lp__law_first_1 : List St := [          .ifS (.cmp .NotIn (.call "_law_majority" [(.q (.idx (.var 0) (.var 3))), (.q (.idx (.var 0) (.var 4))), (.q (.idx (.var 0) (.var 5)))] []) (.q (.var 1)))
            [            .ret (.lst [(.q (.idx (.var 0) (.var 3))), (.q (.idx (.var 0) (.var 4))), (.q (.idx (.var 0) (.var 5)))])]
            []]
def lp__law_first_2 : List St := [        .forS (.v 5) (.rng (some (.q (.bin .Add (.var 4) (.int 1)))) (some (.q (.bi "len" [(.var 0)]))) none) lp__law_first_1]
def lp__law_first_3 : List St := [      .forS (.v 4) (.rng (some (.q (.bin .Add (.var 3) (.int 1)))) (some (.q (.bi "len" [(.var 0)]))) none) lp__law_first_2]
def st__law_first_2 : St := .forS (.v 3) (.rng none (some (.q (.bi "len" [(.var 0)]))) none) lp__law_first_3
def st__law_first_3 : St := .ret (.lst [])
def f__law_first : Fn := { np := 1, nv := 6, ps := ["row"], body := [
    st__law_first_0,
    st__law_first_1,
    st__law_first_2,
    st__law_first_3] }
-- 0 bag, 1 named, 2 told, 3 e
def f__law_told : Fn := { np := 2, nv := 4, ps := ["bag", "named"], body := [
    .tryS
      [      .ifS (.q (.var 1))
        [        .asg (.v 2) (.fr (.call "wrong_words" [(.q (.var 0))] ["words"]))]
        [        .asg (.v 2) (.fr (.call "wrong_words" [(.q (.var 0))] []))]]
      [.mk ["Undefined"] (some 3) [      .ifS (.q (.or [(.xi 3 ["TooLarge"]), (.nt (.xi 3 ["ValueError"])), (.nt (.xi 3 ["MiddleError"]))]))
        [        .ret (.lst [(.q (.int 2))])]
        [],
      .ifS (.q (.or [(.nt (.isi (.xf 3 "what") ["str"])), (.cmp .NotEq (.xf 3 "what") (.str "words"))]))
        [        .ret (.lst [(.q (.int 2))])]
        [],
      .ret (.lst [(.q (.int 1))])],
       .mk ["MiddleError"] none [      .ret (.lst [(.q (.int 2))])]],
    .ret (.lst [(.q (.int 0)), (.q (.var 2))])] }
-- 0 bag, 1 length, 2 due, 3 named, 4 told, 5 k, 6 word, 7 letter
def st__law_right_0 : St := .asg (.v 4) (.fr (.call "_law_told" [(.q (.var 0)), (.q (.var 3))] []))
def st__law_right_1 : St := .ifS (.q (.cmp .Eq (.var 2) (.lst [])))
      [      .ret (.q (.cmp .Eq (.var 4) (.lst [(.int 1)])))]
      []
def st__law_right_2 : St := .ifS (.q (.or [(.cmp .NotEq (.idx (.var 4) (.int 0)) (.int 0)), (.nt (.isi (.idx (.var 4) (.int 1)) ["tuple"])), (.cmp .NotEq (.bi "len" [(.idx (.var 4) (.int 1))]) (.int 3))]))
      [      .ret (.q (.tr false))]
      []
def lp__law_right_0 : List St := [        .ifS (.q (.or [(.isi (.var 7) ["bool"]), (.nt (.isi (.var 7) ["int"]))]))
          [          .ret (.q (.tr false))]
          []]
def lp__law_right_1 : List St := [      .asg (.v 6) (.q (.idx (.idx (.var 4) (.int 1)) (.var 5))),
      .ifS (.q (.or [(.nt (.isi (.var 6) ["tuple"])), (.cmp .NotEq (.bi "len" [(.var 6)]) (.var 1))]))
        [        .ret (.q (.tr false))]
        [],
      .forS (.v 7) (.itq (.var 6)) lp__law_right_0,
      .ifS (.cmp .NotEq (.q (.var 6)) (.call "_law_word" [(.q (.idx (.var 2) (.var 5))), (.q (.var 1))] []))
        [        .ret (.q (.tr false))]
        []]
def st__law_right_3 : St := .forS (.v 5) (.rng none (some (.q (.int 3))) none) lp__law_right_1
def st__law_right_4 : St := .ret (.q (.tr true))
def f__law_right : Fn := { np := 4, nv := 8, ps := ["bag", "length", "due", "named"], body := [
    st__law_right_0,
    st__law_right_1,
    st__law_right_2,
    st__law_right_3,
    st__law_right_4] }
-- 0 bag, 1 length, 2 row, 3 number
def el__law_kept_0 : Ex := (.call "_law_word" [(.q (.var 3)), (.q (.var 1))] [])
def f__law_kept : Fn := { np := 3, nv := 4, ps := ["bag", "length", "row"], body := [
    .ifS (.q (.or [(.isi (.attr (.var 0) "length") ["bool"]), (.nt (.isi (.attr (.var 0) "length") ["int"])), (.cmp .NotEq (.attr (.var 0) "length") (.var 1))]))
      [      .ret (.q (.tr false))]
      [],
    .ret (.and [(.q (.isi (.attr (.var 0) "words") ["tuple"])), (.cmp .Eq (.q (.attr (.var 0) "words")) (.bi "tuple" [(.fr (.comp [3] (.v 3) (.itq (.var 2)) [] el__law_kept_0))]))])] }
-- 0 script, 1 length, 2 row, 3 at, 4 rest, 5 due, 6 bags, 7 turn, 8 k, 9 answers, 10 told, 11 number, 12 part
def st__law_asked_0 : St := .asg (.tup [(.v 1), (.v 2)]) (.fr (.call "_law_bag" [(.q (.var 0))] []))
def st__law_asked_1 : St := .asg (.v 3) (.fr (.bin .Mod (.idx (.call "_law_row" [(.q (.var 0)), (.q (.int 3)), (.q (.int 1)), (.q (.int 1009))] []) (.q (.int 0))) (.q (.bi "len" [(.var 2)]))))
def st__law_asked_2 : St := .asg (.v 4) (.q (.bin .Add (.slc (.var 2) none (some (.var 3))) (.slc (.var 2) (some (.bin .Add (.var 3) (.int 1))) none)))
def st__law_asked_3 : St := .ifS (.q (.cmp .Eq (.var 4) (.lst [])))
      [      .asg (.v 4) (.q (.lst [(.bin .Sub (.bin .Sub (.bin .LShift (.int 1) (.var 1)) (.int 1)) (.idx (.var 2) (.int 0)))]))]
      []
def st__law_asked_4 : St := .asg (.v 5) (.fr (.lst [(.call "_law_first" [(.q (.var 2))] []), (.call "_law_first" [(.q (.var 4))] [])]))
def el__law_asked_0 : Ex := (.call "_law_word" [(.q (.var 11)), (.q (.var 1))] [])
def el__law_asked_1 : Ex := (.new "Words" [(.brv 1), (.comp [11] (.v 11) (.itq (.var 12)) [] el__law_asked_0)] [])
def st__law_asked_5 : St := .asg (.v 6) (.fr (.comp [12] (.v 12) (.itq (.lst [(.var 2), (.var 4)])) [] el__law_asked_1))
def lp__law_asked_0 : List St := [          .ifS (.q (.or [(.nt (.isi (.var 10) ["bool"])), (.cmp .NotEq (.var 10) (.cmp .Eq (.idx (.var 5) (.var 8)) (.lst [])))]))
            [            .ret (.q (.tr false))]
            []]
def lp__law_asked_1 : List St := [        .asg (.v 9) (.lst [(.call "is_closed" [(.q (.idx (.var 6) (.var 8)))] [])]),
        .ifS (.q (.cmp .Eq (.var 7) (.int 1)))
          [          .expr (.mm 9 [] "append" [(.call "is_closed" [(.q (.idx (.var 6) (.var 8)))] ["words"])])]
          [],
        .forS (.v 10) (.itq (.var 9)) lp__law_asked_0]
def lp__law_asked_2 : List St := [        .ifS (.nt (.call "_law_right" [(.q (.idx (.var 6) (.var 8))), (.q (.var 1)), (.q (.idx (.var 5) (.var 8))), (.q (.cmp .Eq (.var 7) (.int 1)))] []))
          [          .ret (.q (.tr false))]
          []]
def lp__law_asked_3 : List St := [      .forS (.v 8) (.rng none (some (.q (.int 2))) none) lp__law_asked_1,
      .forS (.v 8) (.rng none (some (.q (.int 2))) none) lp__law_asked_2]
def st__law_asked_6 : St := .forS (.v 7) (.rng none (some (.q (.int 2))) none) lp__law_asked_3
def st__law_asked_7 : St := .ret (.and [(.call "_law_kept" [(.q (.idx (.var 6) (.int 0))), (.q (.var 1)), (.q (.var 2))] []), (.call "_law_kept" [(.q (.idx (.var 6) (.int 1))), (.q (.var 1)), (.q (.var 4))] [])])
def f__law_asked : Fn := { np := 1, nv := 13, ps := ["script"], body := [
    st__law_asked_0,
    st__law_asked_1,
    st__law_asked_2,
    st__law_asked_3,
    st__law_asked_4,
    st__law_asked_5,
    st__law_asked_6,
    st__law_asked_7] }
-- 0 script
def st_law_0 : St := .tryS
      [      .ret (.call "_law_asked" [(.q (.var 0))] [])]
      [.mk ["MiddleError"] none [      .ret (.q (.tr false))]]
def f_law : Fn := { np := 1, nv := 1, ps := ["script"], body := [
    st_law_0] }
def pd : PD where
  fnL := [("is_integer", f_is_integer), ("is_between", f_is_between), ("is_bit", f_is_bit), ("is_word", f_is_word), ("Words.__init__", f_WordsX_initX), ("number_of_word", f_number_of_word), ("numbers_of", f_numbers_of), ("first_wrong", f_first_wrong), ("is_closed", f_is_closed), ("wrong_words", f_wrong_words), ("_law_cell", f__law_cell), ("_law_row", f__law_row), ("_law_word", f__law_word), ("_law_drawn", f__law_drawn), ("_law_majority", f__law_majority), ("_law_closure", f__law_closure), ("_law_grid", f__law_grid), ("_law_mixed", f__law_mixed), ("_law_bag", f__law_bag), ("_law_first", f__law_first), ("_law_told", f__law_told), ("_law_right", f__law_right), ("_law_kept", f__law_kept), ("_law_asked", f__law_asked), ("law", f_law)]
  glL := [("MOST_LETTERS", (.int 39)), ("MOST_WORDS", (.int 40))]
  mroL := [("MiddleError", ["MiddleError", "ValueError", "Exception"]), ("InvalidWords", ["InvalidWords", "MiddleError", "ValueError", "Exception"]), ("Undefined", ["Undefined", "MiddleError", "ValueError", "Exception"]), ("TooLarge", ["TooLarge", "MiddleError", "ValueError", "Exception"]), ("Words", ["Words"])]
  flL := [("InvalidWords", ["place", "part"]), ("Undefined", ["what"]), ("TooLarge", ["what"]), ("Words", ["length", "words"])]
  pl := ["Words"]
  ec := ["MiddleError", "InvalidWords", "Undefined", "TooLarge"]
  gf := ["is_integer", "is_between", "is_bit", "is_word", "number_of_word", "numbers_of", "first_wrong", "is_closed", "wrong_words", "_law_cell", "_law_row", "_law_word", "_law_drawn", "_law_majority", "_law_closure", "_law_grid", "_law_mixed", "_law_bag", "_law_first", "_law_told", "_law_right", "_law_kept", "_law_asked", "law"]
  kws := [("is_closed", 0, ["words"]), ("wrong_words", 0, ["words"])]
  mth := [("Words.__init__", "Words", "__init__"), ("InvalidWords.__init__", "InvalidWords", "__init__"), ("Undefined.__init__", "Undefined", "__init__"), ("TooLarge.__init__", "TooLarge", "__init__")]
@[simp] theorem pd_gl0 : pd.P.gl "MOST_LETTERS" = some (.int 39) := (rfl)
@[simp] theorem pd_gl1 : pd.P.gl "MOST_WORDS" = some (.int 40) := (rfl)
@[simp] theorem pd_mro0 : pd.P.mro "MiddleError" = ["MiddleError", "ValueError", "Exception"] := (rfl)
@[simp] theorem pd_fl0 : pd.P.fl "MiddleError" = [] := (rfl)
@[simp] theorem pd_mro1 : pd.P.mro "InvalidWords" = ["InvalidWords", "MiddleError", "ValueError", "Exception"] := (rfl)
@[simp] theorem pd_fl1 : pd.P.fl "InvalidWords" = ["place", "part"] := (rfl)
@[simp] theorem pd_mro2 : pd.P.mro "Undefined" = ["Undefined", "MiddleError", "ValueError", "Exception"] := (rfl)
@[simp] theorem pd_fl2 : pd.P.fl "Undefined" = ["what"] := (rfl)
@[simp] theorem pd_mro3 : pd.P.mro "TooLarge" = ["TooLarge", "MiddleError", "ValueError", "Exception"] := (rfl)
@[simp] theorem pd_fl3 : pd.P.fl "TooLarge" = ["what"] := (rfl)
@[simp] theorem pd_mro4 : pd.P.mro "Words" = ["Words"] := (rfl)
@[simp] theorem pd_fl4 : pd.P.fl "Words" = ["length", "words"] := (rfl)
@[simp] theorem pd_pl : pd.P.pl = ["Words"] := (rfl)
@[simp] theorem pd_ec : pd.P.ec = ["MiddleError", "InvalidWords", "Undefined", "TooLarge"] := (rfl)
theorem run_is_integer {n : Nat} {ss : List Slot} : callN pd.P (n + 1) "is_integer" ss = runFn (cfg pd.P (callN pd.P n)) f_is_integer ss := call_run (by rfl)
theorem run_is_between {n : Nat} {ss : List Slot} : callN pd.P (n + 1) "is_between" ss = runFn (cfg pd.P (callN pd.P n)) f_is_between ss := call_run (by rfl)
theorem run_is_bit {n : Nat} {ss : List Slot} : callN pd.P (n + 1) "is_bit" ss = runFn (cfg pd.P (callN pd.P n)) f_is_bit ss := call_run (by rfl)
theorem run_is_word {n : Nat} {ss : List Slot} : callN pd.P (n + 1) "is_word" ss = runFn (cfg pd.P (callN pd.P n)) f_is_word ss := call_run (by rfl)
theorem run_WordsX_initX {n : Nat} {ss : List Slot} : callN pd.P (n + 1) "Words.__init__" ss = runFn (cfg pd.P (callN pd.P n)) f_WordsX_initX ss := call_run (by rfl)
theorem run_number_of_word {n : Nat} {ss : List Slot} : callN pd.P (n + 1) "number_of_word" ss = runFn (cfg pd.P (callN pd.P n)) f_number_of_word ss := call_run (by rfl)
theorem run_numbers_of {n : Nat} {ss : List Slot} : callN pd.P (n + 1) "numbers_of" ss = runFn (cfg pd.P (callN pd.P n)) f_numbers_of ss := call_run (by rfl)
theorem run_first_wrong {n : Nat} {ss : List Slot} : callN pd.P (n + 1) "first_wrong" ss = runFn (cfg pd.P (callN pd.P n)) f_first_wrong ss := call_run (by rfl)
theorem run_is_closed {n : Nat} {ss : List Slot} : callN pd.P (n + 1) "is_closed" ss = runFn (cfg pd.P (callN pd.P n)) f_is_closed ss := call_run (by rfl)
theorem run_wrong_words {n : Nat} {ss : List Slot} : callN pd.P (n + 1) "wrong_words" ss = runFn (cfg pd.P (callN pd.P n)) f_wrong_words ss := call_run (by rfl)
theorem run__law_cell {n : Nat} {ss : List Slot} : callN pd.P (n + 1) "_law_cell" ss = runFn (cfg pd.P (callN pd.P n)) f__law_cell ss := call_run (by rfl)
theorem run__law_row {n : Nat} {ss : List Slot} : callN pd.P (n + 1) "_law_row" ss = runFn (cfg pd.P (callN pd.P n)) f__law_row ss := call_run (by rfl)
theorem run__law_word {n : Nat} {ss : List Slot} : callN pd.P (n + 1) "_law_word" ss = runFn (cfg pd.P (callN pd.P n)) f__law_word ss := call_run (by rfl)
theorem run__law_drawn {n : Nat} {ss : List Slot} : callN pd.P (n + 1) "_law_drawn" ss = runFn (cfg pd.P (callN pd.P n)) f__law_drawn ss := call_run (by rfl)
theorem run__law_majority {n : Nat} {ss : List Slot} : callN pd.P (n + 1) "_law_majority" ss = runFn (cfg pd.P (callN pd.P n)) f__law_majority ss := call_run (by rfl)
theorem run__law_closure {n : Nat} {ss : List Slot} : callN pd.P (n + 1) "_law_closure" ss = runFn (cfg pd.P (callN pd.P n)) f__law_closure ss := call_run (by rfl)
theorem run__law_grid {n : Nat} {ss : List Slot} : callN pd.P (n + 1) "_law_grid" ss = runFn (cfg pd.P (callN pd.P n)) f__law_grid ss := call_run (by rfl)
theorem run__law_mixed {n : Nat} {ss : List Slot} : callN pd.P (n + 1) "_law_mixed" ss = runFn (cfg pd.P (callN pd.P n)) f__law_mixed ss := call_run (by rfl)
theorem run__law_bag {n : Nat} {ss : List Slot} : callN pd.P (n + 1) "_law_bag" ss = runFn (cfg pd.P (callN pd.P n)) f__law_bag ss := call_run (by rfl)
theorem run__law_first {n : Nat} {ss : List Slot} : callN pd.P (n + 1) "_law_first" ss = runFn (cfg pd.P (callN pd.P n)) f__law_first ss := call_run (by rfl)
theorem run__law_told {n : Nat} {ss : List Slot} : callN pd.P (n + 1) "_law_told" ss = runFn (cfg pd.P (callN pd.P n)) f__law_told ss := call_run (by rfl)
theorem run__law_right {n : Nat} {ss : List Slot} : callN pd.P (n + 1) "_law_right" ss = runFn (cfg pd.P (callN pd.P n)) f__law_right ss := call_run (by rfl)
theorem run__law_kept {n : Nat} {ss : List Slot} : callN pd.P (n + 1) "_law_kept" ss = runFn (cfg pd.P (callN pd.P n)) f__law_kept ss := call_run (by rfl)
theorem run__law_asked {n : Nat} {ss : List Slot} : callN pd.P (n + 1) "_law_asked" ss = runFn (cfg pd.P (callN pd.P n)) f__law_asked ss := call_run (by rfl)
theorem run_law {n : Nat} {ss : List Slot} : callN pd.P (n + 1) "law" ss = runFn (cfg pd.P (callN pd.P n)) f_law ss := call_run (by rfl)
end Law_k21

set_option Elab.async false
set_option linter.all false
set_option maxRecDepth 100000
set_option maxHeartbeats 400000
namespace Law_k21
open Wv
open PySem (Str Operator UnaryOp CmpOp)
def cell (ns : List Int) (k : Int) : Int := if k < ns.length then ns.getD k.toNat 0 else 0
theorem c_law_cell {n : Nat} {ns : List Int} {k : Int} (h : 0 ≤ k) : callN pd.P (n + 1) "_law_cell" [.br (.lst .scr (ns.map .int)), .br (.int k)] = .ok (.int (cell ns k)) [] := by
  rw [run__law_cell]
  by_cases c : k < ns.length
  · have hk : k.toNat < ns.length := by omega
    have e : atI (ns.map D.int) k = some (.int (ns.getD k.toNat 0)) := by
      rw [atI_of (k := k.toNat) (by omega) (by simpa using hk), List.getElem?_map, List.getElem?_eq_getElem hk]
      simp [List.getD, hk]
    simp [runFn, f__law_cell, cell, c, e]
  · simp [runFn, f__law_cell, cell, c]
/-- the frame of _law_row -/
def rowE (ns : List Int) (at_ m limit : Int) (row : List Int) (left : Int) (s : Slot) : Env := [.br (.lst .scr (ns.map .int)), .br (.int at_), .br (.int m), .br (.int limit), .me (.lst .own (row.map .int)), .me (.int left), s]
def rowI (ns : List Int) (at_ m limit : Int) (i : Nat) (e : Env) : Prop := ∃ (row : List Int) (left : Int) (s : Slot), e = rowE ns at_ m limit row left s ∧ row.length = i ∧ (∀ x ∈ row, 0 ≤ x ∧ x < limit) ∧ opn s = true ∧ ∀ d, s ≠ .br d
theorem row_app {limit : Int} {i : Nat} {row : List Int} {x : Int} (h1 : row.length = i) (h2 : ∀ x ∈ row, 0 ≤ x ∧ x < limit) (h3 : 0 ≤ x ∧ x < limit) : (row ++ [x]).length = i + 1 ∧ ∀ y ∈ row ++ [x], 0 ≤ y ∧ y < limit := ⟨by simp [h1], fun y hy => by
  rcases List.mem_append.mp hy with hy | hy
  · exact h2 y hy
  · simp at hy; subst hy; exact h3⟩
theorem row_goal {n m : Nat} {ns : List Int} {at_ limit : Int} (lp : List St) (l0 : Int) (step : ∀ (i : Nat) (e : Env), i < m → rowI ns at_ m limit i e → ∃ e', forB (cfg pd.P (callN pd.P n)) (.v 6) lp (.int i) e = .nx e' ∧ rowI ns at_ m limit (i + 1) e') :
    ∃ row : List Int, row.length = m ∧ (∀ x ∈ row, 0 ≤ x ∧ x < limit) ∧ ∃ left s, forL (forB (cfg pd.P (callN pd.P n)) (.v 6) lp) ((List.range m).map fun (k : Nat) => D.int k) (rowE ns at_ m limit [] l0 .no) = .nx (rowE ns at_ m limit row left s) ∧ ∀ d, s ≠ .br d := by
  obtain ⟨e', h1, row, left, s, rfl, h3, h4, h5, h6⟩ := forL_inv (f := forB (cfg pd.P (callN pd.P n)) (.v 6) lp) (rowI ns at_ m limit) (xs := (List.range m).map fun (k : Nat) => D.int k) (k := 0) (e := rowE ns at_ m limit [] l0 .no) ⟨[], l0, .no, rfl, rfl, by simp, rfl, by simp⟩ fun i x e hx he => by
    obtain ⟨rfl, hi⟩ := range_get hx
    obtain ⟨e', k1, k2⟩ := step i e hi (by simpa using he)
    exact ⟨e', .inl k1, by simpa using k2⟩
  exact ⟨row, by simpa using h3, h4, left, s, h1, h6⟩
theorem row_clear {ns : List Int} {at_ m limit : Int} {row : List Int} {left : Int} {s : Slot} (h : ∀ d, s ≠ .br d) : clearP (rowE ns at_ m limit row left s) [6] = rowE ns at_ m limit row left s := by
  cases s <;> first | rfl | exact absurd rfl (h _)
theorem row_src {n m : Nat} {ns : List Int} {at_ limit left : Int} (hm : m ≤ 1000000) : src (cfg pd.P (callN pd.P n)) (.rng none (some (.q (.var 2))) none) (rowE ns at_ m limit [] left .no) = .ok ((List.range m).map fun (k : Nat) => .int k, []) (rowE ns at_ m limit [] left .no) :=
  range_src (n := m) (by simp [rowE]) (by omega)
theorem row_add {n : Nat} {ns : List Int} {at_ m limit : Int} {row : List Int} {left x : Int} {s : Slot} {q : Qx} (h : qv (cfg pd.P (callN pd.P n)) q (rowE ns at_ m limit row left s) = some (.int x)) (hl : row.length < 16777216) :
    exec (cfg pd.P (callN pd.P n)) false (.expr (.mm 4 [] "append" [.q q])) (rowE ns at_ m limit row left s) = .nx (rowE ns at_ m limit (row ++ [x]) left s) := by
  have ap := exec_append (G := cfg pd.P (callN pd.P n)) (x := 4) (y := .q q) (e := rowE ns at_ m limit row left s) (e1 := rowE ns at_ m limit row left s) (d := .int x) (xs := row.map .int) (by simp [h]) (by simp [rowE, isL]) (by simp [rowE]) (by simpa using hl)
  rw [ap]
  simp [rowE]
theorem row_mod {limit : Int} (hl : 0 < limit) (y : Int) : 0 ≤ y % limit ∧ y % limit < limit := ⟨Int.emod_nonneg _ (by omega), Int.emod_lt_of_pos _ hl⟩
theorem row_set {ns : List Int} {at_ m limit : Int} {row : List Int} {left : Int} {s s' : Slot} : (rowE ns at_ m limit row left s).set 6 s' = rowE ns at_ m limit row left s' := rfl
theorem row_step0 {n m : Nat} {ns : List Int} {at_ limit : Int} (hm : m ≤ 1000000) (hl : 0 < limit) (hl2 : limit < 1073741824) (i : Nat) (e : Env) (hi : i < m) (h : rowI ns at_ m limit i e) : ∃ e', forB (cfg pd.P (callN pd.P n)) (.v 6) lp__law_row_0 (.int i) e = .nx e' ∧ rowI ns at_ m limit (i + 1) e' := by
  obtain ⟨row, left, s, rfl, q1, q2, q3, q4⟩ := h
  obtain ⟨z1, z2⟩ := row_app q1 q2 (row_mod hl left)
  refine ⟨_, ?_, row ++ [left % limit], left / limit, .me (.int i), rfl, z1, z2, rfl, by simp⟩
  have m1 : binD .Mod (.int left) (.int limit) = some (.int (left % limit)) := bin_modI hl
  have d1 : binD .FloorDiv (.int left) (.int limit) = some (.int (left / limit)) := bin_divI ⟨hl, hl2⟩
  rw [forB_v (s := s) rfl q3, row_set, shw_stb (by simp)]
  have ap := row_add (n := n) (ns := ns) (at_ := at_) (m := m) (limit := limit) (row := row) (left := left) (s := .me (.int i)) (q := .bin .Mod (.bi "int" [.var 5]) (.var 3)) (x := left % limit) (by simp [rowE, m1]) (by omega)
  simp only [lp__law_row_0, execs_cons', execs_nil', ap, sr_then_nx]
  simp [rowE, d1, asgP, setS]
theorem row_qv {G : Cfg} (hot : G.hot = false) {e : Env} {L i l c1 c2 p q : Int} (e5 : qv G (.var 5) e = some (.int L)) (e6 : qv G (.var 6) e = some (.int i)) (e3 : qv G (.var 3) e = some (.int l)) (h1 : -(2 ^ 64) < c1 ∧ c1 < 2 ^ 64) (h2 : -(2 ^ 64) < c2 ∧ c2 < 2 ^ 64) (hp : 0 < p) (hq : 0 < q ∧ q < 1073741824) (hl : 0 < l) :
    qv G (.bin .Mod (.bin .FloorDiv (.bin .Mod (.bi "int" [.bin .Add (.bin .Mult (.var 5) (.int c1)) (.bin .Mult (.var 6) (.int c2))]) (.int p)) (.int q)) (.var 3)) e = some (.int ((L * c1 + i * c2) % p / q % l)) := by
  have b1 : binD .Mult (.int L) (.int c1) = some (.int (L * c1)) := bin_mulI (.inr h1)
  have b2 : binD .Mult (.int i) (.int c2) = some (.int (i * c2)) := bin_mulI (.inr h2)
  have b3 : binD .Mod (.int (L * c1 + i * c2)) (.int p) = some (.int ((L * c1 + i * c2) % p)) := bin_modI hp
  have b4 : binD .FloorDiv (.int ((L * c1 + i * c2) % p)) (.int q) = some (.int ((L * c1 + i * c2) % p / q)) := bin_divI hq
  have b5 : binD .Mod (.int ((L * c1 + i * c2) % p / q)) (.int l) = some (.int ((L * c1 + i * c2) % p / q % l)) := bin_modI hl
  simp only [qv_bin, qv_int, e3, e5, e6, Option.bind_some, b1, b2, Option.map_some, fz0_int, bin_addI, qv_bi, qvs_cons, qvs_nil, bi_int_int, hot, Bool.false_and, Bool.false_eq_true, if_false, b3, b4, b5]
theorem row_step1 {n m : Nat} {ns : List Int} {at_ limit : Int} (h0 : 0 ≤ at_) (hm : m ≤ 1000000) (hl : 0 < limit) (i : Nat) (e : Env) (hi : i < m) (h : rowI ns at_ m limit i e) : ∃ e', forB (cfg pd.P (callN pd.P (n + 1))) (.v 6) lp__law_row_1 (.int i) e = .nx e' ∧ rowI ns at_ m limit (i + 1) e' := by
  obtain ⟨row, left, s, rfl, q1, q2, q3, q4⟩ := h
  have hck := c_law_cell (n := n) (ns := ns) (k := at_ + 4 + i) (by omega)
  obtain ⟨K, hK⟩ : ∃ K, cell ns (at_ + 4 + i) = K := ⟨_, rfl⟩
  rw [hK] at hck
  have a1 : binD .Mult (.int (left + K + i + 1)) (.int 48271) = some (.int ((left + K + i + 1) * 48271)) := bin_mulI (.inr (by decide))
  have a2 : binD .Mod (.int ((left + K + i + 1) * 48271)) (.int 2147483647) = some (.int ((left + K + i + 1) * 48271 % 2147483647)) := bin_modI (by decide)
  obtain ⟨L, hL⟩ : ∃ L, (left + K + i + 1) * 48271 % 2147483647 = L := ⟨_, rfl⟩
  rw [hL] at a2
  obtain ⟨z1, z2⟩ := row_app q1 q2 (row_mod hl ((L * 69621 + i * 40692) % 1999999973 / 1009))
  refine ⟨_, ?_, row ++ [(L * 69621 + i * 40692) % 1999999973 / 1009 % limit], L, .me (.int i), rfl, z1, z2, rfl, by simp⟩
  rw [forB_v (s := s) rfl q3, row_set, shw_stb (by simp)]
  have e5 : qv (cfg pd.P (callN pd.P (n + 1))) (.var 5) (rowE ns at_ m limit row L (.me (.int i))) = some (.int L) := by simp [rowE]
  have e6 : qv (cfg pd.P (callN pd.P (n + 1))) (.var 6) (rowE ns at_ m limit row L (.me (.int i))) = some (.int i) := by simp [rowE]
  have e3 : qv (cfg pd.P (callN pd.P (n + 1))) (.var 3) (rowE ns at_ m limit row L (.me (.int i))) = some (.int limit) := by simp [rowE]
  have row_q := row_qv (G := cfg pd.P (callN pd.P (n + 1))) rfl e5 e6 e3 (c1 := 69621) (c2 := 40692) (p := 1999999973) (q := 1009) (by decide) (by decide) (by decide) (by decide) hl
  have ap := row_add (n := n + 1) (ns := ns) (at_ := at_) (m := m) (limit := limit) (row := row) (left := L) (s := .me (.int i)) (q := .bin .Mod (.bin .FloorDiv (.bin .Mod (.bi "int" [.bin .Add (.bin .Mult (.var 5) (.int 69621)) (.bin .Mult (.var 6) (.int 40692))]) (.int 1999999973)) (.int 1009)) (.var 3)) (x := (L * 69621 + i * 40692) % 1999999973 / 1009 % limit) row_q (by omega)
  have st : exec (cfg pd.P (callN pd.P (n + 1))) false (.asg (.v 5) (.fr (.bin .Mod (.bi "int" [.bin .Mult (.bin .Add (.bin .Add (.bin .Add (.q (.var 5)) (.call "_law_cell" [.q (.var 0), .q (.bin .Add (.bin .Add (.var 1) (.int 4)) (.var 6))] [])) (.q (.var 6))) (.q (.int 1))) (.q (.int 48271))]) (.q (.int 2147483647)))))
      (rowE ns at_ m limit row left (.me (.int i))) = .nx (rowE ns at_ m limit row L (.me (.int i))) := by
    simp [rowE, ev_callC, hck, a1, a2, asgP, setS]
  simp only [lp__law_row_1, execs_cons', execs_nil', st, ap, sr_then_nx]
theorem c_law_row {n m : Nat} {ns : List Int} {at_ limit : Int} (h : 0 ≤ at_) (hm : m ≤ 1000000) (hl : 0 < limit) (hl2 : limit < 1073741824) :
    ∃ row : List Int, row.length = m ∧ (∀ x ∈ row, 0 ≤ x ∧ x < limit) ∧ callN pd.P (n + 2) "_law_row" [.br (.lst .scr (ns.map .int)), .br (.int at_), .br (.int m), .br (.int limit)] = .ok (.lst .own (row.map .int)) [] := by
  rw [run__law_row]
  have hc := c_law_cell (n := n) (ns := ns) h
  obtain ⟨L, hL⟩ : ∃ K, cell ns at_ = K := ⟨_, rfl⟩
  rw [hL] at hc
  have hpw : binD .Pow (.int 10) (.int 18) = some (.int 1000000000000000000) := by simp [binD, arith]
  by_cases big : 1000000000000000000 ≤ L
  · obtain ⟨row, r1, r2, left, s, r3, r4⟩ := row_goal (n := n + 1) lp__law_row_0 (L - 1000000000000000000) (row_step0 (n := n + 1) (ns := ns) (at_ := at_) hm hl hl2)
    refine ⟨row, r1, r2, ?_⟩
    have sr := row_src (n := n + 1) (ns := ns) (at_ := at_) (limit := limit) (left := L - 1000000000000000000) hm
    have cl := row_clear (ns := ns) (at_ := at_) (m := m) (limit := limit) (row := row) (left := left) r4
    simp only [rowE, List.map_nil] at sr r3 cl
    simp [runFn, f__law_row, ev_callC, hc, asgP, setS, fits, hpw, big, sr, noLk, patV, lock, r3, aft0, cl]
  · obtain ⟨row, r1, r2, left, s, r3, r4⟩ := row_goal (n := n + 1) lp__law_row_1 (L % 2147483647) (row_step1 (n := n) (ns := ns) h hm hl)
    refine ⟨row, r1, r2, ?_⟩
    have m1 : binD .Mod (.int L) (.int 2147483647) = some (.int (L % 2147483647)) := bin_modI (by decide)
    have sr := row_src (n := n + 1) (ns := ns) (at_ := at_) (limit := limit) (left := L % 2147483647) hm
    have cl := row_clear (ns := ns) (at_ := at_) (m := m) (limit := limit) (row := row) (left := left) r4
    simp only [rowE, List.map_nil] at sr r3 cl
    simp [runFn, f__law_row, ev_callC, hc, asgP, setS, fits, hpw, big, m1, sr, noLk, patV, lock, r3, aft0, cl]
end Law_k21

set_option Elab.async false
set_option linter.all false
set_option maxRecDepth 100000
/-! Wv33: plain laws by what must hold behind: WP. -/
namespace Wv
open PySem (Str Operator UnaryOp CmpOp)
/-- what holds of a statement's end -/
def WP (r : SR) (Q : SR → Prop) : Prop := Q r
/-- slots changed; looked at -/
def puts (e : Env) : List Nat → List Slot → Env
  | k :: ks, s :: ss => puts (e.set k s) ks ss
  | _, _ => e
def gets (e : Env) (ks : List Nat) : List Slot := ks.map fun k => e.getD k .no
@[simp] theorem puts_cons {e : Env} {k : Nat} {ks : List Nat} {s : Slot} {ss : List Slot} : puts e (k :: ks) (s :: ss) = puts (e.set k s) ks ss := (rfl)
@[simp] theorem puts_nil {e : Env} {ss : List Slot} : puts e [] ss = e := by cases ss <;> rfl
theorem puts_len : ∀ (ks : List Nat) (ss : List Slot) (e : Env), (puts e ks ss).length = e.length
  | [], ss, e => by simp
  | k :: ks, [], e => rfl
  | k :: ks, s :: ss, e => by rw [puts_cons, puts_len ks ss, List.length_set]
theorem puts_ne {k : Nat} : ∀ (ks : List Nat) (ss : List Slot) (e : Env), k ∉ ks → (puts e ks ss)[k]? = e[k]?
  | [], ss, e, _ => by simp
  | j :: ks, [], e, _ => rfl
  | j :: ks, s :: ss, e, h => by
    simp only [List.mem_cons, not_or] at h
    rw [puts_cons, puts_ne ks ss _ h.2, List.getElem?_set_ne (Ne.symm h.1)]
/-- nothing that a loop shows -/
def fre : Slot → Bool
  | .no => true
  | .me _ => true
  | _ => false
@[simp] theorem fre_no : fre .no = true := (rfl)
@[simp] theorem fre_me {d : D} : fre (.me d) = true := (rfl)
theorem fre_opn {s : Slot} (h : fre s = true) : opn s = true := by cases s <;> first | rfl | cases h
/-- a slot that a loop over it does not lock -/
def calm (e : Env) (i : Nat) : Bool := match e[i]? with
  | some (.me d) => d.stb
  | some (.mp d) => d.stb
  | some (.lk _) => false
  | _ => true
theorem lock_calm {e : Env} : ∀ {rs : List Nat}, rs.all (calm e) = true → lock e rs = e
  | [], _ => rfl
  | r :: rs, h => by
    simp only [List.all_cons, Bool.and_eq_true] at h
    simp only [lock, lock_calm h.2]
    split
    · rename_i s hs
      have hc := h.1
      unfold calm at hc
      rw [hs] at hc
      have : lockS s = s := by
        cases s <;> simp only [lockS] <;> simp_all
      rw [this]
      apply List.ext_getElem?
      intro k
      rw [List.getElem?_set]
      split
      · rename_i hk
        subst hk
        rw [hs]
        split
        · rfl
        · rename_i hl
          rw [List.getElem?_eq_none (by omega)] at hs
          cases hs
      · rfl
    · rfl
theorem unlock_calm {e e' : Env} : ∀ {rs : List Nat}, rs.all (calm e) = true → (∀ r ∈ rs, e'[r]? = e[r]?) → Wv.unlock e e' rs = e'
  | [], _, _ => rfl
  | r :: rs, h, h2 => by
    simp only [List.all_cons, Bool.and_eq_true] at h
    have ih := unlock_calm (e' := e') h.2 fun q hq => h2 q (by simp [hq])
    simp only [Wv.unlock, ih, h2 r (by simp)]
    have hc := h.1
    unfold calm at hc
    cases hs : e[r]? with
    | none => rfl
    | some s => cases s <;> rfl
theorem clear_fre {e : Env} : ∀ {ps : List Nat}, ps.all (fun p => fre (e.getD p .no)) = true → clearP e ps = e
  | [], _ => rfl
  | p :: ps, h => by
    simp only [List.all_cons, Bool.and_eq_true] at h
    simp only [clearP, clear_fre h.2]
    split
    · rename_i d hd
      have := h.1
      rw [List.getD_eq_getElem?_getD, hd] at this
      cases this
    · rfl
/-- how a loop's turn must end: I what holds behind a turn, J behind a break -/
def LQ (env : Env) (ks : List Nat) (I J : List Slot → Prop) (Q : SR → Prop) : SR → Prop
  | .nx e => e = puts env ks (gets e ks) ∧ I (gets e ks)
  | .ct e => e = puts env ks (gets e ks) ∧ I (gets e ks)
  | .bk e => e = puts env ks (gets e ks) ∧ J (gets e ks)
  | r => Q r
theorem forL_wp {f : D → Env → SR} {env : Env} {ks : List Nat} {I : Nat → List Slot → Prop} {J : List Slot → Prop} {Q : SR → Prop} : ∀ {is : List D} {k : Nat} {ss : List Slot}, I k ss →
    (∀ i x ss, is[i]? = some x → I (k + i) ss → WP (f x (puts env ks ss)) (LQ env ks (I (k + i + 1)) J Q)) →
    WP (forL f is (puts env ks ss)) (fun r => match r with
      | .nx e => ∃ ss, e = puts env ks ss ∧ (I (k + is.length) ss ∨ J ss)
      | r => Q r)
  | [], k, ss, h0, _ => ⟨ss, rfl, .inl h0⟩
  | x :: is, k, ss, h0, h => by
    have h1 := h 0 x ss rfl h0
    have ih : ∀ ss', I (k + 1) ss' → WP (forL f is (puts env ks ss')) (fun r => match r with
      | .nx e => ∃ ss, e = puts env ks ss ∧ (I (k + (x :: is).length) ss ∨ J ss)
      | r => Q r) := fun ss' h' => by
      have := forL_wp (f := f) (env := env) (ks := ks) (I := I) (J := J) (Q := Q) (is := is) (k := k + 1) h' fun i y s hy hs => by
        have := h (i + 1) y s (by simpa using hy) (by rw [show k + (i + 1) = k + 1 + i by omega]; exact hs)
        rwa [show k + (i + 1) + 1 = k + 1 + i + 1 by omega] at this
      rwa [show k + 1 + is.length = k + (x :: is).length by simp; omega] at this
    unfold WP at h1
    unfold WP
    simp only [forL]
    cases hf : f x (puts env ks ss) with
    | nx e =>
      rw [hf] at h1
      obtain ⟨he, hI⟩ := h1
      simp only
      rw [he]
      exact ih _ hI
    | ct e =>
      rw [hf] at h1
      obtain ⟨he, hI⟩ := h1
      simp only
      rw [he]
      exact ih _ hI
    | bk e =>
      rw [hf] at h1
      obtain ⟨he, hI⟩ := h1
      exact ⟨_, he, .inr hI⟩
    | rt d e => rw [hf] at h1; exact h1
    | ex c ds e => rw [hf] at h1; exact h1
    | bad => rw [hf] at h1; exact h1
/-- a for loop over something that no slot it changes shows -/
theorem wp_for {G : Cfg} {p : Pat} {s : Src} {b : List St} {env : Env} {f : Env → SR} {Q : SR → Prop} (is : List D) (rs ks : List Nat) (I : Nat → List Slot → Prop) (J : List Slot → Prop)
    (hs : src G s env = .ok (is, rs) env) (hc : rs.all (calm env) = true) (hd : rs.all (fun r => !ks.contains r) = true) (hn : noLk env (patV p) = true) (h00 : env = puts env ks (gets env ks)) (h0 : I 0 (gets env ks))
    (hcl : ∀ ss, (I is.length ss ∨ J ss) → (patV p).all (fun q => fre ((puts env ks ss).getD q .no)) = true)
    (hstep : ∀ i x ss (K : SR → Prop), is[i]? = some x → I i ss → K = LQ env ks (I (i + 1)) J (fun r => WP ((r.mapE (aft env p rs)).then f) Q) → WP (forB G p b x (puts env ks ss)) K)
    (hrest : ∀ ss, (I is.length ss ∨ J ss) → WP (f (puts env ks ss)) Q) : WP ((exec G false (.forS p s b) env).then f) Q := by
  rw [exec_for', hs, res_st_ok]
  simp only [hn, if_true]
  rw [lock_calm hc]
  have key := forL_wp (f := forB G p b) (env := env) (ks := ks) (I := I) (J := J) (Q := fun r => WP ((r.mapE (aft env p rs)).then f) Q) (is := is) (k := 0) (ss := gets env ks) h0 fun i x ss hx hI => by
    rw [Nat.zero_add] at hI ⊢
    exact hstep i x ss _ hx hI rfl
  rw [← h00] at key
  unfold WP at key
  cases hr : forL (forB G p b) is env with
  | nx e =>
    rw [hr] at key
    obtain ⟨ss, he, hI⟩ := key
    rw [Nat.zero_add] at hI
    rw [mapE_nx, sr_then_nx, he]
    unfold aft
    rw [clear_fre (hcl ss hI), unlock_calm hc]
    · exact hrest ss hI
    · intro r hr
      refine puts_ne ks ss env fun hk => ?_
      have := List.all_eq_true.mp hd r hr
      simp [hk] at this
  | _ => rw [hr] at key; exact key
/-- behind a turn -/
theorem lq_nx {K : SR → Prop} {env e : Env} {ks : List Nat} {I J : List Slot → Prop} {Q : SR → Prop} (hK : K = LQ env ks I J Q) (he : e = puts env ks (gets e ks)) (h : I (gets e ks)) : WP (.nx e) K := by subst hK; exact ⟨he, h⟩
theorem lq_ct {K : SR → Prop} {env e : Env} {ks : List Nat} {I J : List Slot → Prop} {Q : SR → Prop} (hK : K = LQ env ks I J Q) (he : e = puts env ks (gets e ks)) (h : I (gets e ks)) : WP (.ct e) K := by subst hK; exact ⟨he, h⟩
theorem lq_bk {K : SR → Prop} {env e : Env} {ks : List Nat} {I J : List Slot → Prop} {Q : SR → Prop} (hK : K = LQ env ks I J Q) (he : e = puts env ks (gets e ks)) (h : J (gets e ks)) : WP (.bk e) K := by subst hK; exact ⟨he, h⟩
/-- a turn that returns -/
theorem lq_rt {K : SR → Prop} {env e0 e : Env} {ks : List Nat} {I J : List Slot → Prop} {Q : SR → Prop} {d : D} {p : Pat} {rs : List Nat} {f : Env → SR} (hK : K = LQ env ks I J (fun r => WP ((r.mapE (aft e0 p rs)).then f) Q)) (h : WP (.rt d (aft e0 p rs e)) Q) : WP (.rt d e) K := by subst hK; exact h
theorem lq_ex {K : SR → Prop} {env e0 e : Env} {ks : List Nat} {I J : List Slot → Prop} {Q : SR → Prop} {c : String} {ds : List D} {p : Pat} {rs : List Nat} {f : Env → SR} (hK : K = LQ env ks I J (fun r => WP ((r.mapE (aft e0 p rs)).then f) Q)) (h : WP (.ex c ds (aft e0 p rs e)) Q) : WP (.ex c ds e) K := by subst hK; exact h
/-- how a def must end -/
def FQ (as : List Slot) (R : CRes → Prop) : SR → Prop
  | .nx e => ∃ o, outs as e = some o ∧ R (.ok .non o)
  | .rt d e => ∃ o, outs as e = some o ∧ R (.ok d o)
  | .ex c ds e => ∃ o, outs as e = some o ∧ R (.ex c ds o)
  | _ => False
/-- it returns; all its arguments are shown alone -/
theorem fq_rt {K : SR → Prop} {as : List Slot} {e : Env} {R : CRes → Prop} {d : D} (hK : K = FQ as R) (ha : outs as e = some []) (hR : R (.ok d [])) : WP (.rt d e) K := by subst hK; exact ⟨[], ha, hR⟩
theorem fq_nx {K : SR → Prop} {as : List Slot} {e : Env} {R : CRes → Prop} (hK : K = FQ as R) (ha : outs as e = some []) (hR : R (.ok .non [])) : WP (.nx e) K := by subst hK; exact ⟨[], ha, hR⟩
theorem fq_ex {K : SR → Prop} {as : List Slot} {e : Env} {R : CRes → Prop} {c : String} {ds : List D} (hK : K = FQ as R) (ha : outs as e = some []) (hR : R (.ex c ds [])) : WP (.ex c ds e) K := by subst hK; exact ⟨[], ha, hR⟩
/-- all shown -/
def isBr : Slot → Bool
  | .br _ => true
  | _ => false
theorem outs_all : ∀ {as : List Slot} {e : Env}, as.all isBr = true → as.length ≤ e.length → outs as e = some []
  | [], _, _, _ => rfl
  | .br d :: as, [], _, h => by simp at h
  | .br d :: as, s :: e, ha, h => by
    rw [outs_br]
    exact outs_all (by simpa [isBr] using ha) (by simpa using h)
  | .no :: as, _, ha, _ | .me _ :: as, _, ha, _ | .mp _ :: as, _, ha, _ | .lk _ :: as, _, ha, _ | .xc _ _ _ :: as, _, ha, _ => by simp [isBr] at ha
theorem go {P : Prog} {f : String} {fn : Fn} {N k : Nat} {as : List Slot} {R : CRes → Prop} (hN : k + 1 ≤ N) (hf : P.fns f = some fn) (ha : as.length = fn.np ∧ as.all isArg = true)
    (h : ∀ M (K : SR → Prop), k ≤ M → K = FQ as R → WP (execs (cfg P (callN P M)) false fn.body (as ++ List.replicate (fn.nv - fn.np) .no)) K) : R (callN P N f as) := by
  obtain ⟨M, rfl⟩ : ∃ M, N = M + 1 := ⟨N - 1, by omega⟩
  have := h M _ (by omega) rfl
  rw [call_run hf]
  unfold runFn
  rw [if_pos ha]
  unfold WP at this
  cases hx : execs (cfg P (callN P M)) false fn.body (as ++ List.replicate (fn.nv - fn.np) .no) with
  | nx e => rw [hx] at this; obtain ⟨o, ho, hR⟩ := this; simp only [ho]; exact hR
  | rt d e => rw [hx] at this; obtain ⟨o, ho, hR⟩ := this; simp only [ho]; exact hR
  | ex c ds e => rw [hx] at this; obtain ⟨o, ho, hR⟩ := this; simp only [ho]; exact hR
  | _ => rw [hx] at this; exact this.elim
/-! ### slots by their openness -/
def oat (e : Env) (i : Nat) : Bool := match e[i]? with
  | some s => opn s
  | none => false
@[simp] theorem oat_zero {s : Slot} {e : Env} : oat (s :: e) 0 = opn s := (rfl)
@[simp] theorem oat_succ {s : Slot} {e : Env} {i : Nat} : oat (s :: e) (i + 1) = oat e i := (rfl)
@[simp] theorem setS_o {e : Env} {i : Nat} {d : D} : setS e i d = if oat e i then some (e.set i (.me d)) else none := by
  unfold setS oat
  cases h : e[i]? with
  | none => rfl
  | some s => cases s <;> rfl
@[simp] theorem asgP_v {e : Env} {i : Nat} {d : D} : asgP (.v i) d e = setS e i d := by simp only [asgP]
@[simp] theorem asgP_tt {e : Env} {ps : List Pat} {ds : List D} : asgP (.tup ps) (.tup ds) e = asgPs ps ds e := by simp only [asgP]
@[simp] theorem asgP_tl {e : Env} {ps : List Pat} {t : Tg} {ds : List D} : asgP (.tup ps) (.lst t ds) e = asgPs ps ds e := by simp only [asgP]
@[simp] theorem asgPs_nil {e : Env} : asgPs [] [] e = some e := by simp only [asgPs]
@[simp] theorem asgPs_cons {e : Env} {p : Pat} {ps : List Pat} {d : D} {ds : List D} : asgPs (p :: ps) (d :: ds) e = (asgP p d e).bind fun e => asgPs ps ds e := by
  simp only [asgPs]; cases asgP p d e <;> rfl
@[simp] theorem bindP_o {e : Env} {i : Nat} {d : D} : bindP (.v i) d e = if oat e i then some (e.set i (shw d)) else none := by
  unfold bindP oat
  cases h : e[i]? with
  | none => rfl
  | some s => cases s <;> rfl
@[simp] theorem bindP_tt {e : Env} {ps : List Pat} {ds : List D} : bindP (.tup ps) (.tup ds) e = bindPs ps ds e := by simp only [bindP]
@[simp] theorem bindP_tl {e : Env} {ps : List Pat} {t : Tg} {ds : List D} : bindP (.tup ps) (.lst t ds) e = bindPs ps ds e := by simp only [bindP]
@[simp] theorem bindPs_nil {e : Env} : bindPs [] [] e = some e := by simp only [bindPs]
@[simp] theorem bindPs_cons {e : Env} {p : Pat} {ps : List Pat} {d : D} {ds : List D} : bindPs (p :: ps) (d :: ds) e = (bindP p d e).bind fun e => bindPs ps ds e := by
  simp only [bindPs]; cases bindP p d e <;> rfl
theorem forB_eq {G : Cfg} {p : Pat} {b : List St} {x : D} {e : Env} : forB G p b x e = (match bindP p x e with
  | some e => execs G false b e
  | none => .bad) := (rfl)
@[simp] theorem shw_me {x : D} (h : x.stb = true) : shw x = .me x := shw_stb h
def nlk : Slot → Bool
  | .lk _ => false
  | _ => true
@[simp] theorem nlk_no : nlk .no = true := (rfl)
@[simp] theorem nlk_me {d : D} : nlk (.me d) = true := (rfl)
@[simp] theorem nlk_br {d : D} : nlk (.br d) = true := (rfl)
theorem fre_nlk {s : Slot} (h : fre s = true) : nlk s = true := by cases s <;> first | rfl | cases h
def nat_ (e : Env) (i : Nat) : Bool := match e[i]? with
  | some s => nlk s
  | none => true
@[simp] theorem nat_zero {s : Slot} {e : Env} : nat_ (s :: e) 0 = nlk s := (rfl)
@[simp] theorem nat_succ {s : Slot} {e : Env} {i : Nat} : nat_ (s :: e) (i + 1) = nat_ e i := (rfl)
@[simp] theorem noLk_nil {e : Env} : noLk e [] = true := (rfl)
@[simp] theorem noLk_cons {e : Env} {i : Nat} {is : List Nat} : noLk e (i :: is) = (nat_ e i && noLk e is) := by
  simp only [noLk, nat_]
  cases h : e[i]? with
  | none => rfl
  | some s => cases s <;> rfl
@[simp] theorem patV_v {i : Nat} : patV (.v i) = [i] := by simp only [patV]
@[simp] theorem patV_t {ps : List Pat} : patV (.tup ps) = patVs ps := by simp only [patV]
@[simp] theorem patVs_nil : patVs [] = [] := by simp only [patVs]
@[simp] theorem patVs_cons {p : Pat} {ps : List Pat} : patVs (p :: ps) = patV p ++ patVs ps := by simp only [patVs]
theorem itq_src {G : Cfg} {q : Qx} {e : Env} {d : D} {is : List D} (h : qv G q e = some d) (hi : items? d = some is) : src G (.itq q) e = .ok (is, roots q) e := by
  simp only [src, h, hi]; rfl
theorem enq_src {G : Cfg} {q : Qx} {e : Env} {d : D} {is : List D} (h : qv G q e = some d) (hi : items? d = some is) : src G (.enq q) e = .ok (enumD is, roots q) e := by
  simp only [src, h, hi]; rfl
/-! ### append -/
def oap : Slot → D → Option Slot
  | .me (.lst .own xs), d => if xs.length < 16777216 then some (.me (.lst .own (xs ++ [d]))) else none
  | .mp (.lst .own xs), d => if xs.length < 16777216 then some (.mp (.lst .own (xs ++ [d]))) else none
  | _, _ => none
@[simp] theorem oap_me {xs : List D} {d : D} : oap (.me (.lst .own xs)) d = if xs.length < 16777216 then some (.me (.lst .own (xs ++ [d]))) else none := (rfl)
@[simp] theorem oap_mp {xs : List D} {d : D} : oap (.mp (.lst .own xs)) d = if xs.length < 16777216 then some (.mp (.lst .own (xs ++ [d]))) else none := (rfl)
@[simp 2000] theorem exec_app {G : Cfg} {x : Nat} {y : Ex} {e : Env} : exec G false (.expr (.mm x [] "append" [y])) e = if isL (getS e x) then (ev G y e).st fun d e1 => match e1[x]? with
    | some s => (match oap s d with
      | some s' => .nx (e1.set x s')
      | none => .bad)
    | none => .bad else .bad := by
  rw [exec_expr']
  simp only [ev, List.isEmpty_nil, Bool.not_true, Bool.false_and, Bool.false_eq_true, if_false, pels, Bool.and_true, isM_app]
  cases isL (getS e x) with
  | false => rfl
  | true =>
    simp only [Bool.not_true, Bool.false_eq_true, if_false, if_true, evs_cons', evs_nil']
    cases ev G y e with
    | ok d e1 =>
      simp only [res_bind_ok, res_st_ok, updS]
      cases hs : e1[x]? with
      | none => rfl
      | some s =>
        cases s with
        | me v =>
          cases v with
          | lst t xs =>
            cases t with
            | own => simp only [updAt, mmD_app, mmApp, oap]; by_cases hh : xs.length < 16777216 <;> simp [hh, Res.st]
            | _ => rfl
          | _ => rfl
        | mp v =>
          cases v with
          | lst t xs =>
            cases t with
            | own => simp only [updAt, mmD_app, mmApp, oap]; by_cases hh : xs.length < 16777216 <;> simp [hh, Res.st]
            | _ => rfl
          | _ => rfl
        | _ => rfl
    | _ => rfl
@[simp] theorem isL_lst {t : Tg} {xs : List D} : isL (some (.lst t xs)) = true := (rfl)
/-- a statement by what holds behind it -/
def CutQ (env : Env) (ks : List Nat) (I : List Slot → Prop) (Q : SR → Prop) : SR → Prop
  | .nx e => e = puts env ks (gets e ks) ∧ I (gets e ks)
  | .rt d e => Q (.rt d e)
  | .ex c ds e => Q (.ex c ds e)
  | .bk e => Q (.bk e)
  | .ct e => Q (.ct e)
  | .bad => False
theorem cq_nx {K : SR → Prop} {env e : Env} {ks : List Nat} {I : List Slot → Prop} {Q : SR → Prop} (hK : K = CutQ env ks I Q) (he : e = puts env ks (gets e ks)) (h : I (gets e ks)) : WP (.nx e) K := by subst hK; exact ⟨he, h⟩
theorem wp_cut {G : Cfg} {s : St} {env : Env} {f : Env → SR} {Q : SR → Prop} (ks : List Nat) (I : List Slot → Prop)
    (h1 : ∀ K : SR → Prop, K = CutQ env ks I Q → WP (exec G false s env) K)
    (h2 : ∀ ss, I ss → WP (f (puts env ks ss)) Q) : WP ((exec G false s env).then f) Q := by
  have h := h1 _ rfl
  unfold WP at h
  cases hr : exec G false s env with
  | nx e => rw [hr] at h; obtain ⟨he, hI⟩ := h; rw [sr_then_nx, he]; exact h2 _ hI
  | rt d e => rw [hr] at h; exact h
  | ex c ds e => rw [hr] at h; exact h
  | ct e => rw [hr] at h; exact h
  | bk e => rw [hr] at h; exact h
  | bad => rw [hr] at h; exact h.elim
@[simp] theorem ev_new0 {P : Prog} {cf : String → List Slot → CRes} {c : String} {es : List Ex} {e : Env} : ev (cfg P cf) (.new c es []) e = if (muts es).isEmpty then (evA (cfg P cf) [] es e).bind fun ss e => match cf (c ++ ".__init__") (.mp (.obj .own c [] []) :: ss) with
      | .ok .non [o] => .ok o.froz e
      | .ex c ds _ => .ex c ds e
      | _ => .bad else .bad := by
  simp only [ev, cfg_hot, Bool.false_or, picks, List.isEmpty_nil, if_true, cfg_cf]
  cases (muts es).isEmpty <;> rfl
@[simp] theorem lk_new' {G : Cfg} {c : String} {es : List Ex} {ks : List String} {v : Bool} {e : Env} : lk G (.new c es ks) v e = ev G (.new c es ks) e := lk_ne rfl
theorem sr_then_id {r : SR} : r.then .nx = r := by cases r <;> rfl
end Wv

set_option Elab.async false
set_option linter.all false
set_option maxRecDepth 100000
/-! Wv34: tools for plain laws: comprehensions over lists, while, dicts and sets of ints, extend. -/
namespace Wv
open PySem (Str Operator UnaryOp CmpOp)
/-! ### comprehensions over a list that is the map of another -/
theorem compL_fa {α : Type} {f : D → Env → Res (Option D)} {φ g : α → D} {q : α → Bool} (Ok : Env → Prop) : ∀ {xs : List α} {e : Env}, Ok e → (∀ x ∈ xs, ∀ e, Ok e → ∃ e', f (φ x) e = .ok (if q x then some (g x) else none) e' ∧ Ok e') → ∃ e', compL f (xs.map φ) e = .ok ((xs.filter q).map g) e' ∧ Ok e'
  | [], e, he, _ => ⟨e, rfl, he⟩
  | x :: xs, e, he, h => by
    obtain ⟨e1, h1, o1⟩ := h x (by simp) e he
    obtain ⟨e2, h2, o2⟩ := compL_fa (xs := xs) Ok o1 fun y hy => h y (by simp [hy])
    refine ⟨e2, ?_, o2⟩
    cases hq : q x <;> rw [hq] at h1 <;> simp only [compL, h1, h2, res_bind_ok, List.filter_cons, hq, Bool.false_eq_true, if_false, if_true, List.map_cons]
theorem comp_c {α : Type} {P : Prog} {cf : String → List Slot → CRes} {own : List Nat} {p : Pat} {s : Src} {c elt : Ex} {e : Env} {rs : List Nat} {φ : α → D} (xs : List α) (g : α → D) (q : α → Bool) (hs : src (cfg P cf) s e = .ok (xs.map φ, rs) e) (hf : xs.length ≤ 16777216)
    (h : ∀ x ∈ xs, match bindP p (φ x) (Wv.wipe (lock e rs) own) with
      | some e' => (match te (cfg P cf) c e' with
        | .ok t e'' => t = q x ∧ (if t then (match ev (cfg P cf) elt e'' with
          | .ok y e3 => y = g x ∧ Wv.wipe e3 own = Wv.wipe (lock e rs) own
          | _ => False) else Wv.wipe e'' own = Wv.wipe (lock e rs) own)
        | _ => False)
      | none => False) : ev (cfg P cf) (.comp own p s [c] elt) e = .ok (.lst .own ((xs.filter q).map g)) e := by
  simp only [ev, cfg_hot, Bool.false_eq_true, if_false, hs, res_bind_ok]
  obtain ⟨e', h1, h2⟩ := compL_fa (φ := φ) (g := g) (q := q) (f := fun x e => match bindP p x (Wv.wipe e own) with
        | some e => (tes (cfg P cf) [c] e).bind fun t e => if t then (ev (cfg P cf) elt e).bind fun y e => .ok (some y) e else .ok none e
        | none => .bad) (fun e' => Wv.wipe e' own = Wv.wipe (lock e rs) own) (xs := xs) (e := Wv.wipe (lock e rs) own) (wipe_wipe _ _) (fun x hx e1 he1 => by
    have z := h x hx
    split at z
    · rename_i a h1
      split at z
      · rename_i t b h2
        obtain ⟨ht, z⟩ := z
        cases t with
        | true =>
          simp only [if_true] at z
          split at z
          · rename_i y b2 h3
            exact ⟨b2, by simp only [he1, h1, tes_cons', tes_nil', h2, res_bind_ok, if_true, h3, z.1, ← ht], z.2⟩
          · exact z.elim
        | false =>
          simp only [Bool.false_eq_true, if_false] at z
          exact ⟨b, by simp only [he1, h1, tes_cons', h2, res_bind_ok, Bool.false_eq_true, if_false, ← ht], z⟩
      · exact z.elim
    · exact z.elim)
  have hfl : fits ((xs.filter q).map g).length = true := by
    refine fits_of ?_
    have h2 := List.length_filter_le q xs
    rw [List.length_map]; omega
  split
  · rename_i ds e1 heq
    have z := heq.symm.trans h1
    cases z
    simp only [hfl, if_true, h2, restore_wipe, unlock_lock]
  · rename_i hno
    exact absurd h1 (hno _ _)
theorem comp_a {α : Type} {P : Prog} {cf : String → List Slot → CRes} {own : List Nat} {p : Pat} {s : Src} {elt : Ex} {e : Env} {rs : List Nat} {φ : α → D} (xs : List α) (g : α → D) (hs : src (cfg P cf) s e = .ok (xs.map φ, rs) e) (hf : xs.length ≤ 16777216)
    (h : ∀ x ∈ xs, match bindP p (φ x) (Wv.wipe (lock e rs) own) with
      | some e' => (match ev (cfg P cf) elt e' with
        | .ok y e'' => y = g x ∧ Wv.wipe e'' own = Wv.wipe (lock e rs) own
        | _ => False)
      | none => False) : ev (cfg P cf) (.comp own p s [] elt) e = .ok (.lst .own (xs.map g)) e := by
  simp only [ev, cfg_hot, Bool.false_eq_true, if_false, hs, res_bind_ok, tes_nil', if_true]
  obtain ⟨e', h1, h2⟩ := compL_fa (φ := φ) (g := g) (q := fun _ => true) (f := fun x e => match bindP p x (Wv.wipe e own) with
        | some e => (ev (cfg P cf) elt e).bind fun y e => .ok (some y) e
        | none => .bad) (fun e' => Wv.wipe e' own = Wv.wipe (lock e rs) own) (xs := xs) (e := Wv.wipe (lock e rs) own) (wipe_wipe _ _) (fun x hx e1 he1 => by
    have z := h x hx
    split at z
    · rename_i a h1
      split at z
      · rename_i y b h2
        exact ⟨b, by simp only [he1, h1, h2, res_bind_ok, z.1, if_true], z.2⟩
      · exact z.elim
    · exact z.elim)
  have hq : xs.filter (fun _ => true) = xs := List.filter_eq_self.mpr fun _ _ => rfl
  rw [hq] at h1
  have hfl : fits (xs.map g).length = true := fits_of (by rw [List.length_map]; exact hf)
  split
  · rename_i ds e1 heq
    have z := heq.symm.trans h1
    cases z
    simp only [hfl, if_true, h2, restore_wipe, unlock_lock]
  · rename_i hno
    exact absurd h1 (hno _ _)
/-! ### sorted of tuples of ints -/
theorem pairs_m : ∀ {xs : List D} {ps : List (Int × Int)}, pairs? xs = some ps → xs = ps.map fun p => .tup [.int p.1, .int p.2]
  | [], ps, h => by simp only [pairs?, Option.some.injEq] at h; subst h; rfl
  | x :: xs, ps, h => by
    unfold pairs? at h
    split at h
    · rename_i h1; cases h1
    · rename_i i j ys h1
      cases h1
      simp only [Option.map_eq_some_iff] at h
      obtain ⟨qs, h2, rfl⟩ := h
      rw [pairs_m h2]; rfl
    · cases h
theorem sort_tups {xs : List D} (h : ∀ x ∈ xs, ordk 1 x = true) (h2 : xs.length ≤ 1 ∨ ∀ x ∈ xs, neT x = true) (hl : xs.length ≤ 16777216) : ∃ qs, sortD xs = some qs ∧ qs.Perm xs := by
  unfold sortD
  cases h1 : ints? xs with
  | some is =>
    cases xs with
    | nil =>
      simp only [ints?, Option.some.injEq] at h1
      subst h1
      exact ⟨[], by simp [sortI], .nil⟩
    | cons x xs =>
      have := h x (by simp)
      cases x <;> simp [ordk] at this
      simp [ints?] at h1
  | none =>
    simp only
    cases h3 : pairs? xs with
    | some ps =>
      have e := pairs_m h3
      have hl2 : ps.length ≤ 16777216 := by
        have := congrArg List.length e
        rw [List.length_map] at this
        omega
      simp only [if_pos (fits_of hl2)]
      refine ⟨_, rfl, ?_⟩
      rw [e]
      exact (List.mergeSort_perm ps lePair).map _
    | none =>
      have ho : ordN xs = some 1 := by
        unfold ordN
        rw [if_pos (List.all_eq_true.mpr h)]
      have hc : (fits xs.length && (decide (xs.length ≤ 1) || xs.all neT)) = true := by
        rw [fits_of hl, Bool.true_and, Bool.or_eq_true, decide_eq_true_eq, List.all_eq_true]
        exact h2
      simp only [ho, if_pos hc]
      exact ⟨_, rfl, List.mergeSort_perm _ _⟩
/-- sorted, by value -/
def srt (xs : List D) : List D := (sortD xs).getD []
theorem srt_ok {xs : List D} (h : ∀ x ∈ xs, ordk 1 x = true) (h2 : xs.length ≤ 1 ∨ ∀ x ∈ xs, neT x = true) (hl : xs.length ≤ 16777216) (t : Tg) : biD "sorted" [.lst t xs] = some (.lst .own (srt xs)) ∧ (srt xs).Perm xs := by
  obtain ⟨qs, h3, h4⟩ := sort_tups h h2 hl
  have e : srt xs = qs := by unfold srt; rw [h3]; rfl
  rw [e]
  refine ⟨?_, h4⟩
  show (sortD xs).map (D.lst .own) = _
  rw [h3]; rfl
@[simp] theorem bi_minN {a b : Nat} : biD "min" [.int (a : Int), .int (b : Int)] = some (.int (min a b : Nat)) := by
  show some (D.int (if (b : Int) < a then b else a)) = _
  congr 2
  split <;> omega
@[simp] theorem bi_maxN {a b : Nat} : biD "max" [.int (a : Int), .int (b : Int)] = some (.int (max a b : Nat)) := by
  show some (D.int (if (b : Int) > a then b else a)) = _
  congr 2
  split <;> omega
theorem bin_fdivI {i j : Int} (h : 0 < j) (h2 : j < 1073741824) : binD .FloorDiv (.int i) (.int j) = some (.int (i / j)) := by simp only [binD, arith, if_pos (And.intro h h2), Option.map_some]
theorem bin_mulN {a b : Nat} (h : a < 2 ^ 62) : binD .Mult (.int (a : Int)) (.int (b : Int)) = some (.int ((a * b : Nat) : Int)) := by
  rw [bin_mulI (.inl (by omega))]
  simp
theorem range_srcI {G : Cfg} {q : Ex} {e : Env} {j : Int} (h : lk G q true e = .ok (.int j) e) (hj : j < 2 ^ 62) (hj2 : -(2 ^ 62) ≤ j) : src G (.rng none (some q) none) e = .ok ((List.range j.toNat).map fun (k : Nat) => .int k, []) e := by
  by_cases h0 : 0 ≤ j
  · obtain ⟨n, rfl⟩ := Int.eq_ofNat_of_zero_le h0
    exact range_src h (by omega)
  · have hz : j.toNat = 0 := by omega
    rw [hz]
    simp only [src, h, res_bind_ok]
    have : rangeD 0 j = some [] := by
      unfold rangeD
      have hc : -(2 ^ 62) ≤ (0 : Int) ∧ (0 : Int) < 2 ^ 62 ∧ -(2 ^ 62) ≤ j ∧ j < 2 ^ 62 := ⟨by omega, by omega, hj2, hj⟩
      rw [if_pos hc, show (j - 0).toNat = 0 by omega]
      rfl
    rw [this]; rfl
theorem range_src2 {G : Cfg} {qa qb : Ex} {e : Env} {a b : Nat} (ha : lk G qa true e = .ok (.int (a : Int)) e) (hb : lk G qb true e = .ok (.int (b : Int)) e) (ha2 : a < 2 ^ 61) (hb2 : b < 2 ^ 61) : src G (.rng (some qa) (some qb) none) e = .ok ((List.range (b - a)).map fun (k : Nat) => .int ((a + k : Nat) : Int), []) e := by
  simp only [src, ha, hb, res_bind_ok]
  have : rangeD (a : Int) (b : Int) = some ((List.range (b - a)).map fun (k : Nat) => .int ((a + k : Nat) : Int)) := by
    unfold rangeD
    rw [if_pos ⟨by omega, by omega, by omega, by omega⟩, show ((b : Int) - a).toNat = b - a by omega]
    congr 1
  rw [this]; rfl
theorem itv_src {G : Cfg} {x : Ex} {e e1 : Env} {d : D} {is : List D} (h : ev G x e = .ok d e1) (hi : items? d.froz = some is) : src G (.itv x) e = .ok (is, []) e1 := by
  simp only [src, h, res_bind_ok, hi]; rfl
theorem sorted_ints {t : Tg} {xs : List Int} : biD "sorted" [.lst t (xs.map .int)] = some (.lst .own ((sortI xs).map .int)) := by
  have h : ints? (xs.map D.int) = some xs := by
    induction xs with
    | nil => rfl
    | cons k ks ih => simp [ints?, ih]
  show (sortD (xs.map .int)).map (D.lst .own) = _
  simp only [sortD, h]; rfl
theorem modL {d k : Int} (h : 0 < k) : ∃ a : Nat, binD .Mod (.int d) (.int k) = some (.int a) ∧ (a : Int) < k ∧ d % k = a := by
  have h1 := Int.emod_nonneg d (show k ≠ 0 by omega)
  have h2 := Int.emod_lt_of_pos d h
  refine ⟨(d % k).toNat, ?_, by omega, by omega⟩
  rw [bin_modI h]
  congr 2
  omega
/-- max(0, min(x, y)) -/
theorem maxmin {x y : Int} (h : 0 ≤ y) : ∃ (t : Nat) (z : Int), (t : Int) ≤ y ∧ biD "min" [.int x, .int y] = some (.int z) ∧ biD "max" [.int 0, .int z] = some (.int t) := by
  by_cases h1 : y < x
  · refine ⟨y.toNat, y, by omega, ?_, ?_⟩
    · show some (D.int (if y < x then y else x)) = _
      rw [if_pos h1]
    · show some (D.int (if y > 0 then y else 0)) = _
      congr 2
      split <;> omega
  · refine ⟨x.toNat, x, by omega, ?_, ?_⟩
    · show some (D.int (if y < x then y else x)) = _
      rw [if_neg h1]
    · show some (D.int (if x > 0 then x else 0)) = _
      congr 2
      split <;> omega
/-! ### bits -/
@[simp] theorem bin_andN {m n : Nat} : binD .BitAnd (.int (m : Int)) (.int (n : Int)) = some (.int (m &&& n : Nat)) := by
  show (some (PySem.Builtin.bitAnd (m : Int) (n : Int))).map D.int = _
  rw [bitAnd_N]; rfl
/-- a without m -/
def nnd (a m : Nat) : Nat := a - (a &&& m)
theorem nnd_bit : ∀ {x a m : Nat}, (nnd a m).testBit x = (a.testBit x && !m.testBit x)
  | 0, a, m => by
    have h1 : (a &&& m).testBit 0 = (a.testBit 0 && m.testBit 0) := Nat.testBit_and ..
    have h2 : a &&& m ≤ a := Nat.and_le_left
    simp only [Nat.testBit_zero, nnd] at h1 ⊢
    generalize a &&& m = c at h1 h2 ⊢
    by_cases ha : a % 2 = 1 <;> by_cases hm : m % 2 = 1 <;> simp [ha, hm] at h1 ⊢ <;> omega
  | x + 1, a, m => by
    have ih := nnd_bit (x := x) (a := a / 2) (m := m / 2)
    rw [Nat.testBit_succ, Nat.testBit_succ, Nat.testBit_succ, ← ih]
    congr 1
    have h0 : (a &&& m).testBit 0 = (a.testBit 0 && m.testBit 0) := Nat.testBit_and ..
    have h1 : (a &&& m) / 2 = a / 2 &&& m / 2 := Nat.and_div_two
    have h2 : a &&& m ≤ a := Nat.and_le_left
    have h3 : a / 2 &&& m / 2 ≤ a / 2 := Nat.and_le_left
    simp only [Nat.testBit_zero] at h0
    unfold nnd
    rw [← h1] at h3 ⊢
    generalize a &&& m = c at h0 h2 h3 ⊢
    by_cases ha : a % 2 = 1 <;> by_cases hm : m % 2 = 1 <;> simp [ha, hm] at h0 <;> omega
@[simp] theorem un_inv {m : Nat} : unD .Invert (.int (m : Int)) = some (.int (-(m : Int) - 1)) := (rfl)
@[simp] theorem bin_nndN {a m : Nat} : binD .BitAnd (.int (a : Int)) (.int (-(m : Int) - 1)) = some (.int (nnd a m : Nat)) := by
  have h : PySem.Builtin.bitAnd (a : Int) (-(m : Int) - 1) = ((nnd a m : Nat) : Int) := by
    have h1 : ¬ (0 : Int) ≤ -(m : Int) - 1 := by omega
    have e1 : -(-(m : Int) - 1) - 1 = m := by omega
    have h2 : a &&& m ≤ a := Nat.and_le_left
    have h3 : (0 : Int) ≤ (a : Int) := by omega
    simp only [PySem.Builtin.bitAnd, PySem.Builtin.bitNot, h1, h3, decide_false, decide_true, e1, Int.toNat_natCast, nnd]
    omega
  show (some (PySem.Builtin.bitAnd (a : Int) (-(m : Int) - 1))).map D.int = _
  rw [h]; rfl
/-! ### while -/
theorem exec_whil' {G : Cfg} {c : Ex} {b : List St} {e : Env} : exec G false (.whil c b) e = whileL (te G c) (execs G false b) G.wf e := by simp only [exec, Bool.false_eq_true, if_false]
theorem whileL_wp {t : Env → Res Bool} {b : Env → SR} {env : Env} {ks : List Nat} {N : Nat} {I : Nat → List Slot → Prop} {J : List Slot → Prop} {Q : SR → Prop} (hend : ∀ ss, ¬ I N ss)
    (h : ∀ i ss, I i ss → WP ((t (puts env ks ss)).st fun c e => if c then b e else .bk e) (LQ env ks (I (i + 1)) J Q)) : ∀ (n i : Nat) (ss : List Slot), N ≤ n + i → i ≤ N → I i ss →
    WP (whileL t b n (puts env ks ss)) (fun r => match r with
      | .nx e => ∃ ss, e = puts env ks ss ∧ J ss
      | r => Q r)
  | 0, i, ss, h1, h2, hI => by
    have : i = N := by omega
    subst this
    exact absurd hI (hend ss)
  | n + 1, i, ss, h1, h2, hI => by
    have hlt : i < N := by
      by_cases e : i = N
      · subst e; exact absurd hI (hend ss)
      · omega
    have h3 := h i ss hI
    have ih := fun ss' h' => whileL_wp hend h n (i + 1) ss' (by omega) (by omega) h'
    unfold WP at h3 ih ⊢
    simp only [whileL]
    cases ht : t (puts env ks ss) with
    | bad => rw [ht] at h3; exact h3
    | ex c ds e => rw [ht] at h3; exact h3
    | ok c e =>
      rw [ht] at h3
      simp only [res_st_ok] at h3 ⊢
      cases c with
      | false =>
        simp only [Bool.false_eq_true, if_false] at h3 ⊢
        exact ⟨_, h3.1, h3.2⟩
      | true =>
        simp only [if_true] at h3 ⊢
        cases hb : b e with
        | nx e => rw [hb] at h3; simp only; rw [h3.1]; exact ih _ h3.2
        | ct e => rw [hb] at h3; simp only; rw [h3.1]; exact ih _ h3.2
        | bk e => rw [hb] at h3; exact ⟨_, h3.1, h3.2⟩
        | rt d e => rw [hb] at h3; exact h3
        | ex c ds e => rw [hb] at h3; exact h3
        | bad => rw [hb] at h3; exact h3
theorem wp_while {G : Cfg} {c : Ex} {b : List St} {env : Env} {f : Env → SR} {Q : SR → Prop} (N : Nat) (ks : List Nat) (I : Nat → List Slot → Prop) (J : List Slot → Prop) (hN : N ≤ G.wf) (h00 : env = puts env ks (gets env ks)) (h0 : I 0 (gets env ks)) (hend : ∀ ss, ¬ I N ss)
    (hstep : ∀ i ss (K : SR → Prop), I i ss → K = LQ env ks (I (i + 1)) J (fun r => WP (r.then f) Q) → WP ((te G c (puts env ks ss)).st fun t e => if t then execs G false b e else .bk e) K)
    (hrest : ∀ ss, J ss → WP (f (puts env ks ss)) Q) : WP ((exec G false (.whil c b) env).then f) Q := by
  rw [exec_whil']
  have key := whileL_wp (t := te G c) (b := execs G false b) (env := env) (ks := ks) (N := N) (I := I) (J := J) (Q := fun r => WP (r.then f) Q) hend (fun i ss hI => hstep i ss _ hI rfl) G.wf 0 (gets env ks) (by omega) (by omega) h0
  rw [← h00] at key
  unfold WP at key
  cases hr : whileL (te G c) (execs G false b) G.wf env with
  | nx e =>
    rw [hr] at key
    obtain ⟨ss, he, hI⟩ := key
    rw [sr_then_nx, he]
    exact hrest ss hI
  | _ => rw [hr] at key; exact key
theorem wq_rt {K : SR → Prop} {env e : Env} {ks : List Nat} {I J : List Slot → Prop} {Q : SR → Prop} {d : D} {f : Env → SR} (hK : K = LQ env ks I J (fun r => WP (r.then f) Q)) (h : WP (.rt d e) Q) : WP (.rt d e) K := by subst hK; exact h
theorem wq_ex {K : SR → Prop} {env e : Env} {ks : List Nat} {I J : List Slot → Prop} {Q : SR → Prop} {c : String} {ds : List D} {f : Env → SR} (hK : K = LQ env ks I J (fun r => WP (r.then f) Q)) (h : WP (.ex c ds e) Q) : WP (.ex c ds e) K := by subst hK; exact h
theorem cq_rt {K : SR → Prop} {env e : Env} {ks : List Nat} {I : List Slot → Prop} {Q : SR → Prop} {d : D} (hK : K = CutQ env ks I Q) (h : WP (.rt d e) Q) : WP (.rt d e) K := by subst hK; exact h
theorem cq_ex {K : SR → Prop} {env e : Env} {ks : List Nat} {I : List Slot → Prop} {Q : SR → Prop} {c : String} {ds : List D} (hK : K = CutQ env ks I Q) (h : WP (.ex c ds e) Q) : WP (.ex c ds e) K := by subst hK; exact h
theorem fq_nxo {K : SR → Prop} {as : List Slot} {e : Env} {R : CRes → Prop} {o : List D} (hK : K = FQ as R) (ha : outs as e = some o) (hR : R (.ok .non o)) : WP (.nx e) K := by subst hK; exact ⟨o, ha, hR⟩
theorem fq_rto {K : SR → Prop} {as : List Slot} {e : Env} {R : CRes → Prop} {o : List D} {d : D} (hK : K = FQ as R) (ha : outs as e = some o) (hR : R (.ok d o)) : WP (.rt d e) K := by subst hK; exact ⟨o, ha, hR⟩
/-! ### dicts and sets of ints -/
@[simp] theorem cmp_inS {i : Int} {t : Tg} {xs : List Int} : cmpD .In (.int i) (.iset t xs) = some (decide (i ∈ xs)) := (rfl)
@[simp] theorem cmp_ninS {i : Int} {t : Tg} {xs : List Int} : cmpD .NotIn (.int i) (.iset t xs) = some (!decide (i ∈ xs)) := (rfl)
/-- a dict whose values are all True -/
def dicT (t : Tg) (ks : List Int) : D := .dic t (ks.map .int) (ks.map fun _ => .bl true)
def insK (i : Int) (ks : List Int) : List Int := if i ∈ ks then ks else ks ++ [i]
theorem any_isK {i : Int} {ks : List Int} : (ks.map D.int).any (isK i) = decide (i ∈ ks) := by
  rw [Bool.eq_iff_iff]
  simp [isK]
@[simp] theorem cmp_inT {i : Int} {t : Tg} {ks : List Int} : cmpD .In (.int i) (dicT t ks) = some (decide (i ∈ ks)) := by
  show some ((ks.map D.int).any (isK i)) = _
  rw [any_isK]
@[simp] theorem cmp_ninT {i : Int} {t : Tg} {ks : List Int} : cmpD .NotIn (.int i) (dicT t ks) = some (!decide (i ∈ ks)) := by
  show some (!(ks.map D.int).any (isK i)) = _
  rw [any_isK]
@[simp] theorem len_T {t : Tg} {ks : List Int} : biD "len" [dicT t ks] = some (.int ks.length) := by
  show some (D.int ((ks.map D.int).length : Nat)) = _
  rw [List.length_map]
theorem ints_m : ∀ {ks : List Int}, ints? (ks.map D.int) = some ks
  | [] => rfl
  | k :: ks => by simp [ints?, ints_m (ks := ks)]
@[simp] theorem list_T {t : Tg} {ks : List Int} : biD "list" [dicT t ks] = some (.lst .own (ks.map .int)) := by
  show (if (ints? (ks.map D.int)).isSome then some (D.lst .own (ks.map .int)) else none) = _
  rw [ints_m]; rfl
theorem putK_T {i : Int} {ks : List Int} : putK (ks.map .int) (ks.map fun _ => .bl true) i (.bl true) = ((insK i ks).map .int, (insK i ks).map fun _ => .bl true) := by
  unfold putK insK
  rw [any_isK]
  by_cases h : i ∈ ks
  · simp only [h, decide_true, if_true]
    congr 1
    clear h
    induction ks with
    | nil => rfl
    | cons k ks ih => simp only [List.map_cons, List.zipWith_cons_cons, ih]; congr 1; split <;> rfl
  · simp [h]
@[simp] theorem setD_T {i : Int} {ks : List Int} : setD (dicT .own ks) (.int i) (.bl true) = if ks.length < 16777216 then some (dicT .own (insK i ks)) else none := by
  unfold dicT
  simp only [setD, putK_T, ints_m, List.length_map, D.stb, Bool.true_and, Option.isSome_some, Bool.and_true, decide_eq_true_eq]
@[simp] theorem getS_mk0 : (D.dic .own [] []) = dicT .own [] := rfl
theorem mem_insK {i k : Int} {ks : List Int} : k ∈ insK i ks ↔ k = i ∨ k ∈ ks := by
  unfold insK
  split
  · constructor
    · exact .inr
    · rintro (rfl | h)
      · assumption
      · exact h
  · simp [or_comm]
theorem insK_len {i : Int} {ks : List Int} : (insK i ks).length ≤ ks.length + 1 := by
  unfold insK
  split
  · omega
  · simp
theorem len_insK {i : Int} {ks : List Int} : ks.length ≤ (insK i ks).length := by
  unfold insK
  split
  · omega
  · simp
@[simp] theorem ev_mk0' {G : Cfg} {b : Bool} {e : Env} : ev G (.mk0 b) e = .ok (if b then .iset .own [] else dicT .own []) e := by simp only [ev]; rfl
@[simp] theorem dicT_stb {ks : List Int} : (dicT .own ks).stb = false := (rfl)
@[simp] theorem dicT_fstb {ks : List Int} : (dicT .fro ks).stb = true := by
  have h1 : stbs (ks.map D.int) = true := stbs_mem fun x hx => by obtain ⟨i, _, rfl⟩ := List.mem_map.mp hx; rfl
  have h2 : stbs (ks.map fun _ => D.bl true) = true := stbs_mem fun x hx => by obtain ⟨i, _, rfl⟩ := List.mem_map.mp hx; rfl
  unfold dicT
  simp only [D.stb, h1, h2]
  rfl
@[simp] theorem dicT_froz {t : Tg} {ks : List Int} : (dicT t ks).froz = dicT .fro ks := by
  unfold dicT
  simp only [D.froz, frozs_map, List.map_map]
  rfl
/-! ### extend, add -/
def oex : Slot → D → Option Slot
  | .me (.lst .own xs), .lst .own ys => if fits (xs.length + ys.length) && stbs ys then some (.me (.lst .own (xs ++ ys))) else none
  | .me (.lst .own xs), .lst .fro ys => if fits (xs.length + ys.length) && stbs ys then some (.me (.lst .own (xs ++ ys))) else none
  | _, _ => none
@[simp] theorem oex_own {xs ys : List D} : oex (.me (.lst .own xs)) (.lst .own ys) = if fits (xs.length + ys.length) && stbs ys then some (.me (.lst .own (xs ++ ys))) else none := (rfl)
@[simp] theorem oex_fro {xs ys : List D} : oex (.me (.lst .own xs)) (.lst .fro ys) = if fits (xs.length + ys.length) && stbs ys then some (.me (.lst .own (xs ++ ys))) else none := (rfl)
theorem exec_ext {G : Cfg} {x : Nat} {y : Ex} {e e1 : Env} {d : D} {s s' : Slot} (h : ev G y e = .ok d e1) (hl : isL (getS e x) = true) (hx : e1[x]? = some s) (ho : oex s d = some s') : exec G false (.expr (.mm x [] "extend" [y])) e = .nx (e1.set x s') := by
  have h0 : isM "extend" (getS e x) = true := by
    cases hg : getS e x with
    | none => rw [hg] at hl; cases hl
    | some d => rw [hg] at hl; cases d <;> first | rfl | cases hl
  rw [exec_expr']
  simp only [ev, List.isEmpty_nil, Bool.not_true, Bool.false_and, Bool.false_eq_true, if_false, pels, Bool.and_true, h0, evs_cons', evs_nil', h, res_bind_ok, updS, hx]
  unfold oex at ho
  split at ho
  · split at ho
    · rename_i hc; cases ho
      simp [updAt, mmD_ext, mmExt, hc, Res.st]
    · cases ho
  · split at ho
    · rename_i hc; cases ho
      simp [updAt, mmD_ext, mmExt, hc, Res.st]
    · cases ho
  · cases ho
theorem exec_add {G : Cfg} {x : Nat} {y : Ex} {e e1 : Env} {i : Int} {xs : List Int} (h : ev G y e = .ok (.int i) e1) (hl : ∃ t ys, getS e x = some (.iset t ys)) (hx : e1[x]? = some (.me (.iset .own xs))) (ho : xs.length < 4000) : exec G false (.expr (.mm x [] "add" [y])) e = .nx (e1.set x (.me (.iset .own (insI i xs)))) := by
  have h0 : isM "add" (getS e x) = true := by
    obtain ⟨t, ys, hl⟩ := hl
    rw [hl]; rfl
  rw [exec_expr']
  simp only [ev, List.isEmpty_nil, Bool.not_true, Bool.false_and, Bool.false_eq_true, if_false, pels, Bool.and_true, h0, evs_cons', evs_nil', h, res_bind_ok, updS, hx, updAt, mmD_add, mmAdd, ho, if_true, Option.map_some, res_st_ok]
end Wv

set_option Elab.async false
set_option linter.all false
set_option maxRecDepth 100000
/-! Wm1: words of bits and their numbers (plain). -/
namespace Wm
open Wv
open PySem (Str Operator UnaryOp CmpOp)
def bt (n k : Nat) : Nat := if n.testBit k then 1 else 0
/-- the word of L letters of a number -/
def wd (L n : Nat) : List Nat := (List.range L).map fun k => bt n (L - 1 - k)
def numb (w : List Nat) : Nat := w.foldl (fun a b => 2 * a + b) 0
theorem wd_len {L n : Nat} : (wd L n).length = L := by simp [wd]
theorem bt_half {n k : Nat} : bt n (k + 1) = bt (n / 2) k := by unfold bt; rw [Nat.testBit_succ]
theorem bt_zero {n : Nat} : bt n 0 = n % 2 := by
  unfold bt
  rw [Nat.testBit_zero]
  by_cases h : n % 2 = 1
  · simp [h]
  · have : n % 2 = 0 := by omega
    simp [this]
theorem wd_snoc {L n : Nat} : wd (L + 1) n = wd L (n / 2) ++ [n % 2] := by
  unfold wd
  rw [List.range_succ, List.map_append]
  congr 1
  · apply List.map_congr_left
    intro k hk
    rw [List.mem_range] at hk
    rw [show L + 1 - 1 - k = (L - 1 - k) + 1 by omega, bt_half]
  · simp [bt_zero]
theorem wd_cons {L n : Nat} : wd (L + 1) n = bt n L :: wd L n := by
  unfold wd
  rw [List.range_succ_eq_map, List.map_cons, List.map_map]
  congr 1
  apply List.map_congr_left
  intro k hk
  simp only [Function.comp]
  congr 1
  omega
theorem numb_snoc {w : List Nat} {b : Nat} : numb (w ++ [b]) = 2 * numb w + b := by unfold numb; rw [List.foldl_append]; rfl
theorem numb_wd : ∀ {L n : Nat}, n < 2 ^ L → numb (wd L n) = n
  | 0, n, h => by
    have : n = 0 := by omega
    subst this; rfl
  | L + 1, n, h => by
    rw [wd_snoc, numb_snoc, numb_wd (by rw [Nat.pow_succ] at h; omega)]
    omega
theorem wd_inj {L a b : Nat} (ha : a < 2 ^ L) (hb : b < 2 ^ L) (h : wd L a = wd L b) : a = b := by
  rw [← numb_wd ha, ← numb_wd hb, h]
theorem wd_mod {L n : Nat} : wd L (n % 2 ^ L) = wd L n := by
  unfold wd
  apply List.map_congr_left
  intro k hk
  rw [List.mem_range] at hk
  unfold bt
  rw [Nat.testBit_mod_two_pow]
  have : L - 1 - k < L := by omega
  simp [this]
theorem wd_bit {L n x : Nat} (h : x ∈ wd L n) : x = 0 ∨ x = 1 := by
  obtain ⟨k, _, rfl⟩ := List.mem_map.mp h
  unfold bt; split <;> simp
def cN (w : List Nat) : List Int := w.map fun (k : Nat) => (k : Int)
theorem top {L n : Nat} (h : n < 2 ^ (L + 1)) : n = bt n L * 2 ^ L + n % 2 ^ L := by
  have h1 : n / 2 ^ L < 2 := Nat.div_lt_of_lt_mul (by rw [Nat.pow_succ] at h; exact h)
  have h2 : bt n L = n / 2 ^ L := by
    unfold bt
    rw [Nat.testBit_eq_decide_div_mod_eq]
    have : n / 2 ^ L = 0 ∨ n / 2 ^ L = 1 := by generalize n / 2 ^ L = c at h1; omega
    rcases this with h | h <;> simp [h]
  rw [h2, Nat.mul_comm]
  exact (Nat.div_add_mod n (2 ^ L)).symm
theorem wd_lex : ∀ {L a b : Nat}, a < 2 ^ L → b < 2 ^ L → lexLt (cN (wd L a)) (cN (wd L b)) = decide (a < b)
  | 0, a, b, ha, hb => by
    have : a = 0 := by omega
    have : b = 0 := by omega
    subst a b; rfl
  | L + 1, a, b, ha, hb => by
    have ta := top ha
    have tb := top hb
    have ih := wd_lex (L := L) (a := a % 2 ^ L) (b := b % 2 ^ L) (Nat.mod_lt _ (Nat.two_pow_pos L)) (Nat.mod_lt _ (Nat.two_pow_pos L))
    have ma : a % 2 ^ L < 2 ^ L := Nat.mod_lt _ (Nat.two_pow_pos L)
    have mb : b % 2 ^ L < 2 ^ L := Nat.mod_lt _ (Nat.two_pow_pos L)
    rw [wd_mod, wd_mod] at ih
    rw [wd_cons, wd_cons]
    show (if ((bt a L : Nat) : Int) = (bt b L : Nat) then lexLt (cN (wd L a)) (cN (wd L b)) else decide (((bt a L : Nat) : Int) < (bt b L : Nat))) = _
    rw [ih]
    have b1 : bt a L = 0 ∨ bt a L = 1 := by unfold bt; split <;> simp
    have b2 : bt b L = 0 ∨ bt b L = 1 := by unfold bt; split <;> simp
    generalize a % 2 ^ L = a' at ta ma
    generalize b % 2 ^ L = b' at tb mb
    generalize 2 ^ L = p at ta tb ma mb
    rcases b1 with b1 | b1 <;> rcases b2 with b2 | b2 <;> rw [b1] at ta ⊢ <;> rw [b2] at tb ⊢ <;> simp <;> omega
def WN (w : List Nat) : D := .tup (w.map fun (k : Nat) => .int k)
theorem ints_N (w : List Nat) : ints? (w.map fun (k : Nat) => D.int (k : Int)) = some (cN w) := by
  induction w with
  | nil => rfl
  | cons k w ih => simp only [List.map_cons, ints?, ih]; rfl
theorem wd_le {L a b : Nat} (ha : a < 2 ^ L) (hb : b < 2 ^ L) : cmpD .LtE (WN (wd L a)) (WN (wd L b)) = some (decide (a ≤ b)) := by
  unfold WN
  simp only [cmpD, ints_N, wd_lex ha hb]
  congr 1
  have : (cN (wd L a) == cN (wd L b)) = decide (a = b) := by
    rw [Bool.eq_iff_iff, beq_iff_eq, decide_eq_true_eq]
    constructor
    · intro h
      refine wd_inj ha hb ?_
      unfold cN at h
      exact (List.map_inj_right (fun x y h => by omega)).mp h
    · rintro rfl; rfl
  rw [this, Bool.eq_iff_iff]
  simp only [Bool.or_eq_true, decide_eq_true_eq]
  omega
/-! ### the majority -/
def maj (a b c : Nat) : Nat := nor (a &&& b) (nor a b &&& c)
theorem maj_bit {a b c x : Nat} : (maj a b c).testBit x = ((a.testBit x && b.testBit x) || ((a.testBit x || b.testBit x) && c.testBit x)) := by
  unfold maj; rw [nor_bit, Nat.testBit_and, Nat.testBit_and, nor_bit]
theorem maj_law {a b c : Nat} : nor (nor (a &&& b) (a &&& c)) (b &&& c) = maj a b c := Nat.eq_of_testBit_eq fun x => by
  rw [maj_bit, nor_bit, nor_bit, Nat.testBit_and, Nat.testBit_and, Nat.testBit_and]
  cases a.testBit x <;> cases b.testBit x <;> cases c.testBit x <;> rfl
theorem lt_bits {L n : Nat} (h : ∀ x, n.testBit x = true → x < L) : n < 2 ^ L := Nat.lt_pow_two_of_testBit n fun x hx => by
  cases hb : n.testBit x with
  | false => rfl
  | true => have := h x hb; omega
theorem bits_lt {L n x : Nat} (h : n < 2 ^ L) (hx : n.testBit x = true) : x < L := by
  by_cases h1 : x < L
  · exact h1
  · rw [Nat.testBit_lt_two_pow (Nat.lt_of_lt_of_le h (Nat.pow_le_pow_right (by omega) (by omega)))] at hx
    cases hx
theorem maj_lt {L a b c : Nat} (ha : a < 2 ^ L) (hb : b < 2 ^ L) (hc : c < 2 ^ L) : maj a b c < 2 ^ L := lt_bits fun x hx => by
  rw [maj_bit] at hx
  simp only [Bool.or_eq_true, Bool.and_eq_true] at hx
  rcases hx with ⟨h, _⟩ | ⟨_, h⟩
  · exact bits_lt ha h
  · exact bits_lt hc h
end Wm

set_option Elab.async false
set_option linter.all false
set_option maxRecDepth 100000
/-! Wm2: sorted and membership for lists of Nats; bit lists; the grid's numbers (plain). -/
namespace Wm
open Wv
open PySem (Str Operator UnaryOp CmpOp)
def NL (is : List Nat) : List D := is.map fun (i : Nat) => .int (i : Int)
@[simp] theorem NL_len {is : List Nat} : (NL is).length = is.length := by unfold NL; exact List.length_map ..
@[simp] theorem NL_stb {is : List Nat} : stbs (NL is) = true := stbs_intF
@[simp] theorem NL_froz {is : List Nat} : frozs (NL is) = NL is := by rw [frozs_map]; simp [NL]
@[simp] theorem iset_fresh {xs : List Int} : (D.iset .own xs).fresh = true := (rfl)
@[simp] theorem iset_stb0 {xs : List Int} : (D.iset .own xs).stb = false := (rfl)
@[simp] theorem iset_stb1 {xs : List Int} : (D.iset .fro xs).stb = true := (rfl)
@[simp] theorem iset_froz {t : Tg} {xs : List Int} : (D.iset t xs).froz = .iset .fro xs := by simp only [D.froz]
theorem ints_L (w : List Nat) : ints? (NL w) = some (cN w) := ints_N w
theorem sort_N {t : Tg} {xs : List Nat} : ∃ r : List Nat, biD "sorted" [.lst t (NL xs)] = some (.lst .own (NL r)) ∧ r.Perm xs ∧ r.Pairwise (· ≤ ·) := by
  have h1 := List.mergeSort_perm (cN xs) (fun a b => decide (a ≤ b))
  have h2 : (sortI (cN xs)).Pairwise fun a b => (decide (a ≤ b)) = true := List.pairwise_mergeSort (fun a b c h1 h2 => by simp at h1 h2 ⊢; omega) (fun a b => by simp; omega) _
  have h3 : ∀ x ∈ sortI (cN xs), ∃ k : Nat, x = k := fun x hx => by
    have := h1.mem_iff.mp hx
    obtain ⟨k, _, rfl⟩ := List.mem_map.mp this
    exact ⟨k, rfl⟩
  have h4 : sortI (cN xs) = cN ((sortI (cN xs)).map Int.toNat) := by
    unfold cN
    rw [List.map_map]
    conv => lhs; rw [← List.map_id (sortI _)]
    apply List.map_congr_left
    intro x hx
    obtain ⟨k, rfl⟩ := h3 x hx
    simp
  refine ⟨(sortI (cN xs)).map Int.toNat, ?_, ?_, ?_⟩
  · show (sortD (NL xs)).map (D.lst .own) = _
    unfold sortD
    rw [ints_L]
    simp only [Option.map_some]
    congr 2
    conv => lhs; rw [h4]
    unfold cN NL
    rw [List.map_map]; rfl
  · have := (show (sortI (cN xs)).Perm (cN xs) from h1).map Int.toNat
    have e : (cN xs).map Int.toNat = xs := by
      unfold cN
      rw [List.map_map]
      conv => rhs; rw [← List.map_id xs]
      apply List.map_congr_left
      intro x _; simp
    rwa [e] at this
  · rw [List.pairwise_map]
    refine h2.imp_of_mem fun {a b} ha hb h => ?_
    obtain ⟨k, rfl⟩ := h3 a ha
    obtain ⟨l, rfl⟩ := h3 b hb
    simpa using h
theorem asc_of {xs : List Nat} (h : xs.Pairwise (· ≤ ·)) (hn : xs.Nodup) : xs.Pairwise (· < ·) := (h.and hn).imp fun ⟨h1, h2⟩ => Nat.lt_of_le_of_ne h1 h2
theorem pl_L {is : List Nat} : plains (NL is) = true := by
  induction is with
  | nil => rfl
  | cons i is ih => unfold NL at *; simp only [List.map_cons, plains, ih]; rfl
theorem mem_L {t : Tg} {n : Nat} {is : List Nat} : cmpD .In (.int (n : Int)) (.lst t (NL is)) = some (decide (n ∈ is)) := by
  show memD (.int (n : Int)) (NL is) = _
  have h3 : min (D.int (n : Int)).dp (dps (NL is)) ≤ 60 := by
    have : (D.int (n : Int)).dp = 0 := rfl
    omega
  unfold memD
  rw [pl_L, decide_eq_true h3]
  simp only [D.plain, Bool.and_self, if_true]
  congr 1
  unfold NL
  rw [List.any_map]
  rw [Bool.eq_iff_iff]
  simp only [List.any_eq_true, Function.comp, decide_eq_true_eq]
  constructor
  · rintro ⟨x, hx, h⟩
    simp only [eqB, D.num, beq_iff_eq] at h
    have h' : (x : Int) = n := by simpa using h
    have : x = n := by omega
    subst this; exact hx
  · intro h
    exact ⟨n, h, by simp [eqB, D.num]⟩
theorem nin_L {t : Tg} {n : Nat} {is : List Nat} : cmpD .NotIn (.int (n : Int)) (.lst t (NL is)) = some (!decide (n ∈ is)) := by
  have h := mem_L (t := t) (n := n) (is := is)
  show (memD (.int (n : Int)) (NL is)).map (!·) = _
  rw [show memD (.int (n : Int)) (NL is) = _ from h]; rfl
/-! ### lists of bits -/
def Bits (w : List Nat) : Prop := ∀ b ∈ w, b ≤ 1
theorem numb_bound : ∀ {w : List Nat} (a : Nat), Bits w → w.foldl (fun a b => 2 * a + b) a < (a + 1) * 2 ^ w.length
  | [], a, _ => by simp
  | b :: w, a, h => by
    have hb := h b (by simp)
    have ih := numb_bound (w := w) (2 * a + b) fun x hx => h x (by simp [hx])
    rw [List.foldl_cons, List.length_cons, Nat.pow_succ]
    have : (2 * a + b + 1) * 2 ^ w.length ≤ (2 * (a + 1)) * 2 ^ w.length := Nat.mul_le_mul (by omega) (Nat.le_refl _)
    have e : (2 * (a + 1)) * 2 ^ w.length = (a + 1) * (2 ^ w.length * 2) := by
      rw [Nat.mul_comm 2 (a + 1), Nat.mul_assoc, Nat.mul_comm 2]
    omega
theorem numb_lt {w : List Nat} (h : Bits w) : numb w < 2 ^ w.length := by
  have := numb_bound 0 h
  unfold numb; simpa using this
theorem numb_wd_of : ∀ {w : List Nat}, Bits w → wd w.length (numb w) = w := by
  intro w
  induction hl : w.length generalizing w with
  | zero => intro _; rw [List.length_eq_zero_iff.mp hl]; rfl
  | succ n ih =>
    intro h
    have hne : w ≠ [] := fun z => by rw [z] at hl; cases hl
    have e := List.dropLast_concat_getLast hne
    have hlast := h _ (List.getLast_mem hne)
    have hl2 : w.dropLast.length = n := by rw [List.length_dropLast, hl]; rfl
    have ih2 := ih hl2 fun b hb => h b (List.dropLast_subset w hb)
    generalize w.dropLast = v at e ih2
    generalize w.getLast hne = b at e hlast
    rw [← e, wd_snoc, numb_snoc, show (2 * numb v + b) / 2 = numb v by omega, show (2 * numb v + b) % 2 = b by omega, ih2]
theorem numb_inj {v w : List Nat} (hv : Bits v) (hw : Bits w) (hl : v.length = w.length) (h : numb v = numb w) : v = w := by
  rw [← numb_wd_of hv, ← numb_wd_of hw, h, hl]
/-! ### the grid -/
theorem pm_lt {i w : Nat} (h : i ≤ w) : 2 ^ i - 1 < 2 ^ w := by
  have := Nat.pow_le_pow_right (show 0 < 2 by omega) h
  have := Nat.two_pow_pos i
  omega
theorem pm_inj {i j : Nat} (h : 2 ^ i - 1 = 2 ^ j - 1) : i = j := by
  have h1 := Nat.two_pow_pos i
  have h2 := Nat.two_pow_pos j
  exact Nat.pow_right_inj (by omega) |>.mp (show 2 ^ i = 2 ^ j by omega)
/-- the number of a field -/
def fld3 (p q i j k : Nat) : Nat := (2 ^ i - 1) + (2 ^ j - 1) * 2 ^ p + (2 ^ k - 1) * 2 ^ (p + q)
theorem fld3_split {p q i j k : Nat} : fld3 p q i j k = (2 ^ i - 1) + 2 ^ p * ((2 ^ j - 1) + 2 ^ q * (2 ^ k - 1)) := by
  unfold fld3
  rw [Nat.mul_add, Nat.pow_add, Nat.mul_comm (2 ^ j - 1), Nat.mul_comm (2 ^ k - 1), Nat.mul_assoc, Nat.add_assoc]
theorem fld3_inj {p q i j k i' j' k' : Nat} (hi : i ≤ p) (hj : j ≤ q) (hi' : i' ≤ p) (hj' : j' ≤ q) (h : fld3 p q i j k = fld3 p q i' j' k') : i = i' ∧ j = j' ∧ k = k' := by
  rw [fld3_split, fld3_split] at h
  have a := pm_lt hi
  have a' := pm_lt hi'
  have b := pm_lt hj
  have b' := pm_lt hj'
  have h1 := congrArg (· % 2 ^ p) h
  have h2 := congrArg (· / 2 ^ p) h
  simp only [Nat.add_mul_mod_self_left, Nat.mod_eq_of_lt a, Nat.mod_eq_of_lt a', Nat.add_mul_div_left _ _ (Nat.two_pow_pos p), Nat.div_eq_of_lt a, Nat.div_eq_of_lt a', Nat.zero_add] at h1 h2
  have h3 := congrArg (· % 2 ^ q) h2
  have h4 := congrArg (· / 2 ^ q) h2
  simp only [Nat.add_mul_mod_self_left, Nat.mod_eq_of_lt b, Nat.mod_eq_of_lt b', Nat.add_mul_div_left _ _ (Nat.two_pow_pos q), Nat.div_eq_of_lt b, Nat.div_eq_of_lt b', Nat.zero_add] at h3 h4
  exact ⟨pm_inj h1, pm_inj h3, pm_inj h4⟩
theorem fld3_lt {p q r i j k : Nat} (hi : i ≤ p) (hj : j ≤ q) (hk : k ≤ r) : fld3 p q i j k < 2 ^ (p + q + r) := by
  rw [fld3_split]
  have a := pm_lt hi
  have b := pm_lt hj
  have c := pm_lt hk
  have h1 : 2 ^ j - 1 + 2 ^ q * (2 ^ k - 1) < 2 ^ q * 2 ^ r := by
    have : 2 ^ q * (2 ^ k - 1) + 2 ^ q ≤ 2 ^ q * 2 ^ r := by
      rw [← Nat.mul_succ]; exact Nat.mul_le_mul (Nat.le_refl _) (by omega)
    omega
  rw [Nat.add_assoc, Nat.pow_add, Nat.pow_add]
  generalize 2 ^ j - 1 + 2 ^ q * (2 ^ k - 1) = y at h1
  have : 2 ^ p * y + 2 ^ p ≤ 2 ^ p * (2 ^ q * 2 ^ r) := by
    rw [← Nat.mul_succ]; exact Nat.mul_le_mul (Nat.le_refl _) (by omega)
  omega
end Wm

set_option Elab.async false
set_option linter.all false
set_option maxRecDepth 100000
set_option maxHeartbeats 1000000
namespace Law_k21
open Wv Wm
open PySem (Str Operator UnaryOp CmpOp)
theorem c_between {N : Nat} {i lo hi : Int} (hN : 2 ≤ N) : callN pd.P N "is_between" [.br (.int i), .br (.int lo), .br (.int hi)] = .ok (.bl (decide (lo ≤ i) && decide (i ≤ hi))) [] := by
  obtain ⟨n, rfl⟩ : ∃ n, N = n + 2 := ⟨N - 2, by omega⟩
  have h : callN pd.P (n + 1) "is_integer" [.br (.int i)] = .ok (.bl true) [] := by
    rw [run_is_integer]
    simp [runFn, f_is_integer, isiD, isiB]
  rw [run_is_between]
  by_cases h1 : lo ≤ i <;> simp [runFn, f_is_between, ev_callC, h, h1]
theorem c_bit {N b : Nat} (hN : 3 ≤ N) (hb : b ≤ 1) : callN pd.P N "is_bit" [.br (.int b)] = .ok (.bl true) [] := by
  obtain ⟨n, rfl⟩ : ∃ n, N = n + 3 := ⟨N - 3, by omega⟩
  have h := c_between (N := n + 2) (i := (b : Int)) (lo := 0) (hi := 1) (by omega)
  have h1 : (decide ((0 : Int) ≤ b) && decide ((b : Int) ≤ 1)) = true := by simp; omega
  rw [h1] at h
  rw [run_is_bit]
  simp [runFn, f_is_bit, ev_callC, h]
theorem bls_true : ∀ {n : Nat}, bls? (List.replicate n (D.bl true)) = some (List.replicate n true)
  | 0 => rfl
  | n + 1 => by simp only [List.replicate_succ, bls?, bls_true (n := n)]; rfl
theorem c_word {N L : Nat} {w : List Nat} (hN : 4 ≤ N) (hw : Bits w) (hl : w.length = L) (h39 : L ≤ 1000) : callN pd.P N "is_word" [.br (WN w), .br (.int L)] = .ok (.bl true) [] := by
  refine go (f := "is_word") (k := 3) (R := fun r => r = .ok (.bl true) []) hN (by rfl) ⟨rfl, rfl⟩ fun M K hM hK => ?_
  show WP (execs _ _ _ [.br (WN w), .br (.int L), .no]) _
  have hst : (WN w).stb = true := by show stbs (NL w) = true; exact stbs_intF
  have hl2 : biD "len" [WN w] = some (.int L) := by
    show some (D.int ((NL w).length : Nat)) = _
    unfold NL; rw [List.length_map, hl]
  have hi : isiD (cfg pd.P (callN pd.P M)) (WN w) ["tuple"] = some true := by simp [WN, isiD, isiB]
  simp [f_is_word, hl2, hi, hst]
  rw [comp_a (φ := fun (k : Nat) => D.int k) (rs := [0]) w (fun _ => .bl true) (itq_src rfl rfl) (by omega) (fun b hb => by
    have h := c_bit (N := M) (b := b) (by omega) (hw b hb)
    simp [lock, lockS, wipe, el_is_word_0, ev_callC, h])]
  have e : (w.map fun _ => D.bl true) = List.replicate w.length (D.bl true) := by
    rw [List.map_const']
  rw [e]
  have h2 : biD "all" [.lst .own (List.replicate w.length (D.bl true))] = some (.bl true) := by
    show (bls? (List.replicate w.length (D.bl true))).map (fun bs => D.bl (bs.all id)) = _
    rw [bls_true]
    simp
  simp [h2]
  exact fq_rt hK (by simp [outs_all, isBr]) rfl
/-- a Words -/
abbrev WD (t : Tg) (L : Nat) (ns : List Nat) : D := .obj t "Words" ["length", "words"] [.int L, .tup (ns.map fun n => WN (wd L n))]
/-- rows of numbers -/
structure Rw (L : Nat) (ns : List Nat) : Prop where
  asc : ns.Pairwise (· < ·)
  lt : ∀ n ∈ ns, n < 2 ^ L
  pos : 1 ≤ ns.length
  len : ns.length ≤ 40
theorem WN_stb {w : List Nat} : (WN w).stb = true := by show stbs (NL w) = true; exact stbs_intF
theorem stbs_W {L : Nat} {ns : List Nat} : stbs (ns.map fun n => WN (wd L n)) = true := stbs_mem fun x hx => by obtain ⟨n, _, rfl⟩ := List.mem_map.mp hx; exact WN_stb
theorem bits_wd {L n : Nat} : Bits (wd L n) := fun b hb => by rcases wd_bit hb with rfl | rfl <;> omega
theorem c_words {N L : Nat} {t : Tg} {ns : List Nat} (hN : 5 ≤ N) (hL : L ≤ 39) (h : Rw L ns) :
    callN pd.P N "Words.__init__" [.mp (.obj .own "Words" [] []), .br (.int L), .br (.lst t (ns.map fun n => WN (wd L n)))] = .ok .non [WD .own L ns] := by
  refine go (f := "Words.__init__") (k := 4) (R := fun r => r = .ok .non [WD .own L ns]) hN (by rfl) ⟨rfl, rfl⟩ fun M K hM hK => ?_
  show WP (execs _ _ _ [.mp (.obj .own "Words" [] []), .br (.int L), .br (.lst t (ns.map fun n => WN (wd L n))), .no, .no]) _
  have q1 := c_between (N := M) (i := (L : Int)) (lo := 0) (hi := 39) (by omega)
  have q2 : (decide ((0 : Int) ≤ L) && decide ((L : Int) ≤ 39)) = true := by simp; omega
  rw [q2] at q1
  have hpos := h.pos
  have hlen := h.len
  have h0 : ¬ ((ns.length : Int) = 0) := by omega
  have h0' : ¬ ns = [] := by rintro rfl; simp at hpos
  have hst := stbs_W (L := L) (ns := ns)
  simp [f_WordsX_initX, ev_callC, q1, isiD, isiB, h0, h0', -exec_for']
  refine wp_for (enumD (ns.map fun n => WN (wd L n))) [2] [3, 4] (fun i ss => ∃ s3 s4, ss = [s3, s4] ∧ fre s3 = true ∧ fre s4 = true) (fun _ => False)
    (enq_src rfl rfl) rfl rfl rfl rfl ⟨_, _, rfl, rfl, rfl⟩ ?_ ?_ ?_
  · rintro ss (⟨s3, s4, rfl, f3, f4⟩ | h)
    · simp [f3, f4]
    · exact h.elim
  · rintro i x ss K2 hx ⟨s3, s4, rfl, f3, f4⟩ hK2
    have hx' : ∃ nn, ns[i]? = some nn ∧ x = .tup [.int i, WN (wd L nn)] := by
      unfold enumD at hx
      rw [List.getElem?_zipWith] at hx
      cases h1 : (List.range (ns.map fun n => WN (wd L n)).length)[i]? with
      | none => rw [h1] at hx; simp at hx
      | some k =>
        rw [h1] at hx
        obtain ⟨hlt, e⟩ := List.getElem?_eq_some_iff.mp h1
        rw [List.getElem_range] at e
        subst e
        rw [List.getElem?_map] at hx
        cases h2 : ns[i]? with
        | none => rw [h2] at hx; simp at hx
        | some nn => rw [h2] at hx; exact ⟨nn, rfl, by simpa using hx.symm⟩
    obtain ⟨nn, hnn, rfl⟩ := hx'
    have hi := (List.getElem?_eq_some_iff.mp hnn).1
    have q3 : callN pd.P M "is_word" [.br (WN (wd L nn)), .br (.int L)] = .ok (.bl true) [] := c_word (by omega) bits_wd wd_len (by omega)
    have i40 : ¬ (i : Int) = 40 := by omega
    have i40' : ¬ i = 40 := by omega
    have sW : (WN (wd L nn)).stb = true := WN_stb
    by_cases hi0 : i = 0
    · subst hi0
      simp [forB_eq, lp_WordsX_initX_0, fre_opn f3, fre_opn f4, ev_callC, q3, sW]
      exact lq_nx hK2 rfl ⟨_, _, rfl, rfl, rfl⟩
    · obtain ⟨j, rfl⟩ : ∃ j, i = j + 1 := ⟨i - 1, by omega⟩
      have g1 : ns[j]? = some (ns[j]'(by omega)) := List.getElem?_eq_getElem (by omega)
      have hlt := List.pairwise_iff_getElem.mp h.asc j (j + 1) (by omega) hi (by omega)
      have e1 : ns[j + 1] = nn := (List.getElem?_eq_some_iff.mp hnn).2
      rw [e1] at hlt
      have l1 := h.lt _ (List.mem_of_getElem? hnn)
      have l2 := h.lt _ (List.mem_of_getElem? g1)
      generalize ns[j]'(by omega) = pp at g1 hlt l2
      have hle := wd_le (L := L) l1 l2
      rw [decide_eq_false (by omega)] at hle
      have hat : atI (ns.map fun n => WN (wd L n)) (j : Int) = some (WN (wd L pp)) := by
        unfold atI ixN
        rw [if_pos (by omega), if_pos (by simp; omega)]
        simp [g1]
      have i40'' : ¬ (j : Int) + 1 = 40 := by omega
      simp [forB_eq, lp_WordsX_initX_0, fre_opn f3, fre_opn f4, ev_callC, q3, sW, i40', i40'', hle, hat, g1]
      exact lq_nx hK2 rfl ⟨_, _, rfl, rfl, rfl⟩
  · rintro ss (⟨s3, s4, rfl, f3, f4⟩ | h)
    · simp [hst, updS, updAt, putFld]
      exact fq_nxo hK (o := [WD .own L ns]) rfl rfl
    · exact h.elim
end Law_k21

set_option Elab.async false
set_option linter.all false
set_option maxRecDepth 100000
set_option maxHeartbeats 1000000
namespace Law_k21
open Wv Wm
open PySem (Str Operator UnaryOp CmpOp)
theorem map_at {α : Type} {f : α → D} {xs : List α} {i : Nat} {x : D} (h : (xs.map f)[i]? = some x) : ∃ a, xs[i]? = some a ∧ x = f a := by
  rw [List.getElem?_map, Option.map_eq_some_iff] at h
  obtain ⟨d, hd, rfl⟩ := h
  exact ⟨d, hd, rfl⟩
theorem c_number {N : Nat} {w : List Nat} (hN : 1 ≤ N) (hw : Bits w) : callN pd.P N "number_of_word" [.br (WN w)] = .ok (.int (numb w : Nat)) [] := by
  refine go (f := "number_of_word") (k := 0) (R := fun r => r = .ok (.int (numb w : Nat)) []) hN (by rfl) ⟨rfl, rfl⟩ fun M K hM hK => ?_
  show WP (execs _ _ _ [.br (WN w), .no, .no]) _
  simp [f_number_of_word, -exec_for']
  refine wp_for (w.map fun (k : Nat) => D.int k) [0] [1, 2] (fun i ss => ∃ s2, ss = [.me (.int (numb (w.take i) : Nat)), s2] ∧ fre s2 = true) (fun _ => False)
    (itq_src rfl rfl) rfl rfl rfl rfl ⟨_, rfl, rfl⟩ ?_ ?_ ?_
  · rintro ss (⟨s2, rfl, f2⟩ | h)
    · simp [f2]
    · exact h.elim
  · rintro i x ss K2 hx ⟨s2, rfl, f2⟩ hK2
    obtain ⟨b, hb, rfl⟩ := map_at hx
    have m1 : binD .Mult (.int 2) (.int (numb (w.take i) : Nat)) = some (.int (2 * (numb (w.take i) : Nat))) := bin_mulI (.inl (by omega))
    have e : numb (w.take (i + 1)) = 2 * numb (w.take i) + b := by rw [List.take_add_one, hb]; exact numb_snoc
    generalize numb (w.take i) = m at m1 e
    simp [forB_eq, lp_number_of_word_0, fre_opn f2, m1]
    exact lq_nx hK2 rfl ⟨.me (.int b), by simp [gets, e], rfl⟩
  · rintro ss (⟨s2, rfl, f2⟩ | h)
    · rw [List.length_map, List.take_length]
      simp
      exact fq_rt hK (by simp [outs_all, isBr]) rfl
    · exact h.elim
section
variable {cf : String → List Slot → CRes} {t : Tg} {L : Nat} {ns : List Nat}
@[simp] theorem at_length : attrD (cfg pd.P cf) (WD t L ns) "length" = some (.int L) := by simp [attrD, fld]
@[simp] theorem at_words : attrD (cfg pd.P cf) (WD t L ns) "words" = some (.tup (ns.map fun n => WN (wd L n))) := by simp [attrD, fld]
end
theorem c_numbers {N L : Nat} {t : Tg} {ns : List Nat} (hN : 2 ≤ N) (hl : ns.length ≤ 1000) (h : ∀ n ∈ ns, n < 2 ^ L) : callN pd.P N "numbers_of" [.br (WD t L ns)] = .ok (.lst .own (NL ns)) [] := by
  refine go (f := "numbers_of") (k := 1) (R := fun r => r = .ok (.lst .own (NL ns)) []) hN (by rfl) ⟨rfl, rfl⟩ fun M K hM hK => ?_
  show WP (execs _ _ _ [.br (WD t L ns), .no]) _
  simp only [f_numbers_of, execs_cons', execs_nil', exec_ret']
  rw [comp_a (φ := fun n => WN (wd L n)) (rs := [0]) ns (fun n => .int n) (itq_src (d := .tup (ns.map fun n => WN (wd L n))) (by simp) rfl) (by omega) (fun n hn => by
    have q : callN pd.P M "number_of_word" [.br (WN (wd L n))] = _ := c_number (by omega) bits_wd
    rw [numb_wd (h n hn)] at q
    have sW : (WN (wd L n)).stb = true := WN_stb
    simp [lock, lockS, wipe, el_numbers_of_0, ev_callC, q, sW])]
  simp
  exact fq_rt hK (by simp [outs_all, isBr]) rfl
end Law_k21

set_option Elab.async false
set_option linter.all false
set_option maxRecDepth 100000
set_option maxHeartbeats 1000000
namespace Law_k21
open Wv Wm
open PySem (Str Operator UnaryOp CmpOp)
def setN (ns : List Nat) : List Int := (cN ns).foldl (fun a i => insI i a) []
theorem mem_setN {ns : List Nat} {n : Nat} : ((n : Int) ∈ setN ns) ↔ n ∈ ns := by
  have key : ∀ (l xs : List Int) (k : Int), k ∈ l.foldl (fun a i => insI i a) xs ↔ k ∈ l ∨ k ∈ xs := by
    intro l
    induction l with
    | nil => intro xs k; simp
    | cons i l ih =>
      intro xs k
      rw [List.foldl_cons, ih, mem_insI, List.mem_cons]
      constructor
      · rintro (h | h | h)
        · exact .inl (.inr h)
        · exact .inl (.inl h)
        · exact .inr h
      · rintro ((h | h) | h)
        · exact .inr (.inl h)
        · exact .inl h
        · exact .inr (.inr h)
  unfold setN
  rw [key]
  simp only [List.not_mem_nil, or_false]
  unfold cN
  rw [List.mem_map]
  constructor
  · rintro ⟨m, hm, h⟩
    have : m = n := by omega
    subst this; exact hm
  · intro h; exact ⟨n, h, rfl⟩
theorem set_N {t : Tg} {ns : List Nat} (h : ns.length < 4000) : biD "set" [.lst t (NL ns)] = some (.iset .own (setN ns)) := by
  show (match ints? (NL ns) with
    | some is => if is.length < 4000 then some (D.iset .own (is.foldl (fun a i => insI i a) [])) else none
    | none => none) = _
  rw [ints_L]
  have : (cN ns).length < 4000 := by unfold cN; rw [List.length_map]; exact h
  simp only [this, if_true]
  rfl
/-- no majority of these three -/
def Bad (ns : List Nat) (i j k : Nat) : Prop := i < j ∧ j < k ∧ k < ns.length ∧ maj (ns.getD i 0) (ns.getD j 0) (ns.getD k 0) ∉ ns
def bef (i' j' k' i j k : Nat) : Prop := i' < i ∨ (i' = i ∧ (j' < j ∨ (j' = j ∧ k' < k)))
/-- the first wrong three -/
def First (ns : List Nat) : Option (Nat × Nat × Nat) → Prop
  | none => ∀ i j k, ¬ Bad ns i j k
  | some (i, j, k) => Bad ns i j k ∧ ∀ i' j' k', bef i' j' k' i j k → ¬ Bad ns i' j' k'
theorem First.uniq {ns : List Nat} : ∀ {r r' : Option (Nat × Nat × Nat)}, First ns r → First ns r' → r = r'
  | none, none, _, _ => rfl
  | none, some (i, j, k), h, h2 => absurd h2.1 (h i j k)
  | some (i, j, k), none, h, h2 => absurd h.1 (h2 i j k)
  | some (i, j, k), some (i', j', k'), h, h2 => by
    have h3 := h.2 i' j' k'
    have h4 := h2.2 i j k
    have h5 : ¬ bef i' j' k' i j k := fun z => h3 z h2.1
    have h6 : ¬ bef i j k i' j' k' := fun z => h4 z h.1
    unfold bef at h5 h6
    have e1 : i = i' := by omega
    have e2 : j = j' := by omega
    have e3 : k = k' := by omega
    subst e1 e2 e3; rfl
theorem getD_at {ms : List Nat} {k : Nat} (h : k < ms.length) : (NL ms)[k]? = some (.int (ms.getD k 0 : Nat)) := by
  unfold NL
  rw [List.getElem?_map, List.getD_eq_getElem?_getD, List.getElem?_eq_getElem h]; rfl
theorem c_first_wrong {N : Nat} {t : Tg} {ns : List Nat} (hN : 1 ≤ N) (hl : ns.length ≤ 1000) :
    ∃ r, First ns r ∧ callN pd.P N "first_wrong" [.br (.lst t (NL ns))] = .ok (match r with | none => .non | some (i, j, k) => .tup [.int (i : Nat), .int (j : Nat), .int (k : Nat)]) [] := by
  refine go (f := "first_wrong") (k := 0) (R := fun r' => ∃ r, First ns r ∧ r' = .ok (match r with | none => .non | some (i, j, k) => .tup [.int (i : Nat), .int (j : Nat), .int (k : Nat)]) []) hN (by rfl) ⟨rfl, rfl⟩ fun M K hM hK => ?_
  show WP (execs _ _ _ [.br (.lst t (NL ns)), .no, .no, .no, .no, .no, .no, .no]) _
  have hset := set_N (t := t) (ns := ns) (by omega)
  have hlen : (NL ns).length = ns.length := by unfold NL; exact List.length_map ..
  simp only [f_first_wrong, execs_cons', execs_nil']
  simp [st_first_wrong_0, st_first_wrong_1, hset]
  simp only [st_first_wrong_2]
  refine wp_for ((List.range ns.length).map fun (k : Nat) => D.int k) [] [3, 4, 5, 6, 7] (fun i ss => ∃ s3 s4 s5 s6 s7, ss = [s3, s4, s5, s6, s7] ∧ (∀ i' j k, i' < i → ¬ Bad ns i' j k) ∧ fre s3 = true ∧ fre s4 = true ∧ fre s5 = true ∧ fre s6 = true ∧ fre s7 = true) (fun _ => False)
    (range_src (n := ns.length) (by simp) (by omega)) rfl rfl rfl rfl ⟨_, _, _, _, _, rfl, fun i' j k h => by omega, rfl, rfl, rfl, rfl, rfl⟩ ?_ ?_ ?_
  · rintro ss (⟨s3, s4, s5, s6, s7, rfl, _, f3, f4, f5, f6, f7⟩ | h)
    · simp [f3]
    · exact h.elim
  · rintro i x ss K2 hx ⟨s3, s4, s5, s6, s7, rfl, hb1, f3, f4, f5, f6, f7⟩ hK2
    obtain ⟨rfl, hi⟩ := range_get hx
    simp [forB_eq, lp_first_wrong_2, fre_opn f3, -exec_for']
    refine wp_for ((List.range (ns.length - (i + 1))).map fun (k : Nat) => D.int ((i + 1 + k : Nat) : Int)) [] [4, 5, 6, 7] (fun j ss => ∃ s4 s5 s6 s7, ss = [s4, s5, s6, s7] ∧ (∀ j' k, j' < i + 1 + j → ¬ Bad ns i j' k) ∧ fre s4 = true ∧ fre s5 = true ∧ fre s6 = true ∧ fre s7 = true) (fun _ => False)
      (range_src2 (a := i + 1) (b := ns.length) (by simp) (by simp) (by omega) (by omega)) rfl rfl (by simp [fre_nlk f4]) rfl ⟨_, _, _, _, rfl, fun j' k h => by
        intro hbad
        have := hbad.1
        omega, f4, f5, f6, f7⟩ ?_ ?_ ?_
    · rintro ss (⟨s4, s5, s6, s7, rfl, _, f4, f5, f6, f7⟩ | h)
      · simp [f4]
      · exact h.elim
    · rintro j' x ss K3 hx ⟨s4, s5, s6, s7, rfl, hb2, f4, f5, f6, f7⟩ hK3
      obtain ⟨j0, hj0, rfl⟩ := map_at hx
      obtain ⟨hj1, hj2⟩ := List.getElem?_eq_some_iff.mp hj0
      rw [List.getElem_range] at hj2
      subst hj2
      rw [List.length_range] at hj1
      generalize hj : i + 1 + j' = j at hb2
      have hjn : j < ns.length := by omega
      have hij : i < j := by omega
      have gi := getD_at hi
      have gj := getD_at hjn
      simp [forB_eq, lp_first_wrong_1, fre_opn f4, fre_opn f5, fre_opn f6, gi, gj, -exec_for', -List.getD_eq_getElem?_getD]
      refine wp_for ((List.range (ns.length - (j + 1))).map fun (k : Nat) => D.int ((j + 1 + k : Nat) : Int)) [] [7] (fun k ss => ∃ s7, ss = [s7] ∧ (∀ k', k' < j + 1 + k → ¬ Bad ns i j k') ∧ fre s7 = true) (fun _ => False)
        (range_src2 (a := j + 1) (b := ns.length) (by simp) (by simp) (by omega) (by omega)) rfl rfl (by simp [fre_nlk f7]) rfl ⟨_, rfl, fun k' h => by
          intro hbad
          have := hbad.2.1
          omega, f7⟩ ?_ ?_ ?_
      · rintro ss (⟨s7, rfl, _, f7⟩ | h)
        · simp [f7]
        · exact h.elim
      · rintro k' x ss K4 hx ⟨s7, rfl, hb3, f7⟩ hK4
        obtain ⟨k0, hk0, rfl⟩ := map_at hx
        obtain ⟨hk1, hk2⟩ := List.getElem?_eq_some_iff.mp hk0
        rw [List.getElem_range] at hk2
        subst hk2
        rw [List.length_range] at hk1
        generalize hk : j + 1 + k' = k at hb3
        have hkn : k < ns.length := by omega
        have gk := getD_at hkn
        have hm : (((maj (ns.getD i 0) (ns.getD j 0) (ns.getD k 0) : Nat) : Int) ∈ setN ns) ↔ maj (ns.getD i 0) (ns.getD j 0) (ns.getD k 0) ∈ ns := mem_setN
        have hmj : maj (ns.getD i 0) (ns.getD j 0) (ns.getD k 0) = nor (ns.getD i 0 &&& ns.getD j 0) (nor (ns.getD i 0) (ns.getD j 0) &&& ns.getD k 0) := rfl
        by_cases hin : maj (ns.getD i 0) (ns.getD j 0) (ns.getD k 0) ∈ ns
        · have hin' := hm.mpr hin
          rw [hmj] at hin'
          simp [forB_eq, lp_first_wrong_0, fre_opn f7, gk, hin', -List.getD_eq_getElem?_getD]
          refine lq_nx hK4 rfl ⟨_, rfl, fun k'' h hbad => ?_, rfl⟩
          by_cases e : k'' = k
          · subst e; exact hbad.2.2.2 hin
          · exact hb3 k'' (by omega) hbad
        · have hin' : ¬ ((maj (ns.getD i 0) (ns.getD j 0) (ns.getD k 0) : Nat) : Int) ∈ setN ns := fun z => hin (hm.mp z)
          have hbad : Bad ns i j k := ⟨hij, by omega, hkn, hin⟩
          rw [hmj] at hin'
          simp [forB_eq, lp_first_wrong_0, fre_opn f7, gk, hin', fits, -List.getD_eq_getElem?_getD]
          refine lq_rt hK4 (lq_rt hK3 (lq_rt hK2 (fq_rt hK (by simp [outs_all, isBr, aft_len]) ⟨some (i, j, k), ⟨hbad, fun i' j'' k'' hb => ?_⟩, rfl⟩)))
          rcases hb with h | ⟨rfl, h | ⟨rfl, h⟩⟩
          · exact hb1 i' j'' k'' h
          · exact hb2 j'' k'' h
          · exact hb3 k'' h
      · rintro ss (⟨s7, rfl, hb3, f7⟩ | h)
        · simp
          refine lq_nx hK3 rfl ⟨_, _, _, _, rfl, fun j'' k h hbad => ?_, rfl, rfl, rfl, f7⟩
          by_cases e : j'' = j
          · subst e
            refine hb3 k ?_ hbad
            have := hbad.2.2.1
            rw [List.length_map, List.length_range]
            omega
          · exact hb2 j'' k (by omega) hbad
        · exact h.elim
    · rintro ss (⟨s4, s5, s6, s7, rfl, hb2, f4, f5, f6, f7⟩ | h)
      · simp
        refine lq_nx hK2 rfl ⟨_, _, _, _, _, rfl, fun i' j k h => ?_, rfl, f4, f5, f6, f7⟩
        by_cases e : i' = i
        · subst e
          intro hbad
          refine hb2 j k ?_ hbad
          have := hbad.2.1
          have := hbad.2.2.1
          rw [List.length_map, List.length_range]
          omega
        · exact hb1 i' j k (by omega)
      · exact h.elim
  · rintro ss (⟨s3, s4, s5, s6, s7, rfl, hb1, f3, f4, f5, f6, f7⟩ | h)
    · simp [st_first_wrong_3]
      refine fq_rt hK (by simp [outs_all, isBr]) ⟨none, fun i j k hbad => hb1 i j k ?_ hbad, rfl⟩
      have := hbad.1
      have := hbad.2.1
      have := hbad.2.2.1
      rw [List.length_map, List.length_range]
      omega
    · exact h.elim
end Law_k21

set_option Elab.async false
set_option linter.all false
set_option maxRecDepth 100000
set_option maxHeartbeats 1000000
namespace Law_k21
open Wv Wm
open PySem (Str Operator UnaryOp CmpOp)
/-- the places of a first wrong three -/
def plc : Option (Nat × Nat × Nat) → D
  | none => .non
  | some (i, j, k) => .tup [.int (i : Nat), .int (j : Nat), .int (k : Nat)]
theorem c_fw {N L : Nat} {t : Tg} {ns : List Nat} (hN : 3 ≤ N) (h : Rw L ns) : ∃ r, First ns r ∧ callN pd.P N "numbers_of" [.br (WD t L ns)] = .ok (.lst .own (NL ns)) [] ∧ callN pd.P N "first_wrong" [.br (.lst .own (NL ns))] = .ok (plc r) [] := by
  have hl := h.len
  obtain ⟨r, h1, h2⟩ := c_first_wrong (N := N) (t := .own) (ns := ns) (by omega) (by omega)
  refine ⟨r, h1, c_numbers (by omega) (by omega) h.lt, ?_⟩
  rw [h2]
  cases r with
  | none => rfl
  | some p => rfl
theorem c_closed {N L : Nat} {t : Tg} {ns : List Nat} (hN : 4 ≤ N) (ht : t ≠ .own) (h : Rw L ns) : ∃ r, First ns r ∧ callN pd.P N "is_closed" [.br (WD t L ns)] = .ok (.bl r.isNone) [] := by
  obtain ⟨n, rfl⟩ : ∃ n, N = n + 1 := ⟨N - 1, by omega⟩
  obtain ⟨r, h1, h2, h3⟩ := c_fw (N := n) (t := t) (by omega) h
  have sE : (WD t L ns).stb = true := by
    have := stbs_W (L := L) (ns := ns)
    cases t <;> simp [D.stb, this] <;> exact absurd rfl ht
  refine ⟨r, h1, ?_⟩
  rw [run_is_closed]
  cases r with
  | none => simp [runFn, f_is_closed, ev_callC, h2, h3, plc, sE, D.isNon]
  | some p =>
    obtain ⟨i, j, k⟩ := p
    simp [runFn, f_is_closed, ev_callC, h2, h3, plc, sE, D.isNon]
/-- the words at the places -/
def plw (L : Nat) (ns : List Nat) : Nat × Nat × Nat → D := fun p => .tup [WN (wd L (ns.getD p.1 0)), WN (wd L (ns.getD p.2.1 0)), WN (wd L (ns.getD p.2.2 0))]
theorem c_wrong {N L : Nat} {t : Tg} {ns : List Nat} (hN : 4 ≤ N) (ht : t ≠ .own) (h : Rw L ns) : ∃ r, First ns r ∧ callN pd.P N "wrong_words" [.br (WD t L ns)] = (match r with
    | none => .ex "Undefined" [.str (Str.ofString "words")] []
    | some p => .ok (plw L ns p) []) := by
  obtain ⟨n, rfl⟩ : ∃ n, N = n + 1 := ⟨N - 1, by omega⟩
  obtain ⟨r, h1, h2, h3⟩ := c_fw (N := n) (t := t) (by omega) h
  have sE : (WD t L ns).stb = true := by
    have := stbs_W (L := L) (ns := ns)
    cases t <;> simp [D.stb, this] <;> exact absurd rfl ht
  refine ⟨r, h1, ?_⟩
  rw [run_wrong_words]
  cases r with
  | none => simp [runFn, f_wrong_words, ev_callC, h2, h3, plc, sE, D.isNon]
  | some p =>
    obtain ⟨i, j, k⟩ := p
    obtain ⟨⟨g1, g2, g3, _⟩, _⟩ := h1
    simp [runFn, f_wrong_words, ev_callC, h2, h3, plc, sE, D.isNon]
    have gw : ∀ i, i < ns.length → (ns.map fun n => WN (wd L n))[i]? = some (WN (wd L (ns.getD i 0))) := fun i hi => by
      rw [List.getElem?_map, List.getD_eq_getElem?_getD, List.getElem?_eq_getElem hi]; rfl
    rw [comp_a (φ := fun (k : Nat) => D.int k) (rs := [1]) [i, j, k] (fun k => WN (wd L (ns.getD k 0))) (itq_src rfl rfl) (by simp) (fun x hx => by
      have hx' : x < ns.length := by
        simp only [List.mem_cons, List.not_mem_nil, or_false] at hx
        rcases hx with rfl | rfl | rfl <;> omega
      have g := gw x hx'
      have sW : (WN (wd L (ns.getD x 0))).stb = true := WN_stb
      generalize ns.getD x 0 = v at g sW
      simp [lock, lockS, wipe, el_wrong_words_0, g, sW])]
    have sW : ∀ v, (WN (wd L v)).stb = true := fun v => WN_stb
    have fW : ∀ v, (WN (wd L v)).froz = WN (wd L v) := fun v => by
      show D.tup (frozs (NL (wd L v))) = _
      rw [NL_froz]; rfl
    simp [sW, fW, plw]
end Law_k21

set_option Elab.async false
set_option linter.all false
set_option maxRecDepth 100000
set_option maxHeartbeats 1000000
namespace Law_k21
open Wv Wm
open PySem (Str Operator UnaryOp CmpOp)
theorem c_maj {N a b c : Nat} (hN : 1 ≤ N) : callN pd.P N "_law_majority" [.br (.int a), .br (.int b), .br (.int c)] = .ok (.int (maj a b c : Nat)) [] := by
  obtain ⟨n, rfl⟩ : ∃ n, N = n + 1 := ⟨N - 1, by omega⟩
  have h := maj_law (a := a) (b := b) (c := c)
  rw [run__law_majority]
  simp [runFn, f__law_majority, h]
/-- what the triple's numbers are -/
def trp (ns : List Nat) : Option (Nat × Nat × Nat) → List Nat
  | none => []
  | some (i, j, k) => [ns.getD i 0, ns.getD j 0, ns.getD k 0]
theorem c_law_first {N : Nat} {t : Tg} {ns : List Nat} (hN : 2 ≤ N) (hl : ns.length ≤ 1000) :
    ∃ r, First ns r ∧ callN pd.P N "_law_first" [.br (.lst t (NL ns))] = .ok (.lst .own (NL (trp ns r))) [] := by
  refine go (f := "_law_first") (k := 1) (R := fun r' => ∃ r, First ns r ∧ r' = .ok (.lst .own (NL (trp ns r))) []) hN (by rfl) ⟨rfl, rfl⟩ fun M K hM hK => ?_
  show WP (execs _ _ _ [.br (.lst t (NL ns)), .no, .no, .no, .no, .no]) _
  simp only [f__law_first, execs_cons', execs_nil']
  simp [st__law_first_0, ev_mk0']
  simp only [st__law_first_1]
  refine wp_for (NL ns) [0] [1, 2] (fun i ss => ∃ ks s2, ss = [.me (dicT .own ks), s2] ∧ (∀ k : Nat, (k : Int) ∈ ks ↔ k ∈ ns.take i) ∧ ks.length ≤ i ∧ fre s2 = true) (fun _ => False)
    (itq_src rfl rfl) rfl rfl rfl rfl ⟨[], _, rfl, by simp, by simp, rfl⟩ ?_ ?_ ?_
  · rintro ss (⟨ks, s2, rfl, _, _, f2⟩ | h)
    · simp [f2]
    · exact h.elim
  · rintro i x ss K2 hx ⟨ks, s2, rfl, hk, hkl, f2⟩ hK2
    obtain ⟨n, hn, rfl⟩ := map_at hx
    have hi := (List.getElem?_eq_some_iff.mp hn).1
    have hsz : ks.length < 16777216 := by omega
    simp [forB_eq, lp__law_first_0, fre_opn f2, updS, updAt, hsz]
    refine lq_nx hK2 rfl ⟨insK n ks, .me (.int n), by simp [gets], fun k => ?_, by have := insK_len (i := n) (ks := ks); omega, rfl⟩
    rw [mem_insK, hk, List.take_add_one, hn]
    simp only [List.mem_append, Option.toList_some, List.mem_singleton]
    constructor
    · rintro (h | h)
      · exact .inr (by omega)
      · exact .inl h
    · rintro (h | h)
      · exact .inr h
      · exact .inl (by omega)
  · rintro ss (⟨ks, s2, rfl, hk, hkl, f2⟩ | h)
    · rw [NL_len, List.take_length] at hk
      simp only [puts_cons, puts_nil, List.set_cons_succ, List.set_cons_zero, st__law_first_2]
      refine wp_for ((List.range ns.length).map fun (k : Nat) => D.int k) [] [3, 4, 5] (fun i ss => ∃ s3 s4 s5, ss = [s3, s4, s5] ∧ (∀ i' j k, i' < i → ¬ Bad ns i' j k) ∧ fre s3 = true ∧ fre s4 = true ∧ fre s5 = true) (fun _ => False)
        (range_src (n := ns.length) (by simp) (by omega)) rfl rfl rfl rfl ⟨_, _, _, rfl, fun i' j k h => by omega, rfl, rfl, rfl⟩ ?_ ?_ ?_
      · rintro ss (⟨s3, s4, s5, rfl, _, f3, f4, f5⟩ | h)
        · simp [f3]
        · exact h.elim
      · rintro i x ss K2 hx ⟨s3, s4, s5, rfl, hb1, f3, f4, f5⟩ hK2
        obtain ⟨rfl, hi⟩ := range_get hx
        simp [forB_eq, lp__law_first_3, fre_opn f3, -exec_for']
        refine wp_for ((List.range (ns.length - (i + 1))).map fun (k : Nat) => D.int ((i + 1 + k : Nat) : Int)) [] [4, 5] (fun j ss => ∃ s4 s5, ss = [s4, s5] ∧ (∀ j' k, j' < i + 1 + j → ¬ Bad ns i j' k) ∧ fre s4 = true ∧ fre s5 = true) (fun _ => False)
          (range_src2 (a := i + 1) (b := ns.length) (by simp) (by simp) (by omega) (by omega)) rfl rfl (by simp [fre_nlk f4]) rfl ⟨_, _, rfl, fun j' k h => by
            intro hbad
            have := hbad.1
            omega, f4, f5⟩ ?_ ?_ ?_
        · rintro ss (⟨s4, s5, rfl, _, f4, f5⟩ | h)
          · simp [f4]
          · exact h.elim
        · rintro j' x ss K3 hx ⟨s4, s5, rfl, hb2, f4, f5⟩ hK3
          obtain ⟨j0, hj0, rfl⟩ := map_at hx
          obtain ⟨hj1, hj2⟩ := List.getElem?_eq_some_iff.mp hj0
          rw [List.getElem_range] at hj2
          subst hj2
          rw [List.length_range] at hj1
          generalize hj : i + 1 + j' = j at hb2
          have hjn : j < ns.length := by omega
          have hij : i < j := by omega
          have gi := getD_at hi
          have gj := getD_at hjn
          simp [forB_eq, lp__law_first_2, fre_opn f4, -exec_for']
          refine wp_for ((List.range (ns.length - (j + 1))).map fun (k : Nat) => D.int ((j + 1 + k : Nat) : Int)) [] [5] (fun k ss => ∃ s5, ss = [s5] ∧ (∀ k', k' < j + 1 + k → ¬ Bad ns i j k') ∧ fre s5 = true) (fun _ => False)
            (range_src2 (a := j + 1) (b := ns.length) (by simp) (by simp) (by omega) (by omega)) rfl rfl (by simp [fre_nlk f5]) rfl ⟨_, rfl, fun k' h => by
              intro hbad
              have := hbad.2.1
              omega, f5⟩ ?_ ?_ ?_
          · rintro ss (⟨s5, rfl, _, f5⟩ | h)
            · simp [f5]
            · exact h.elim
          · rintro k' x ss K4 hx ⟨s5, rfl, hb3, f5⟩ hK4
            obtain ⟨k0, hk0, rfl⟩ := map_at hx
            obtain ⟨hk1, hk2⟩ := List.getElem?_eq_some_iff.mp hk0
            rw [List.getElem_range] at hk2
            subst hk2
            rw [List.length_range] at hk1
            generalize hkk : j + 1 + k' = k at hb3
            have hkn : k < ns.length := by omega
            have gk := getD_at hkn
            have q := c_maj (N := M) (a := ns.getD i 0) (b := ns.getD j 0) (c := ns.getD k 0) (by omega)
            have hm := hk (maj (ns.getD i 0) (ns.getD j 0) (ns.getD k 0))
            by_cases hin : maj (ns.getD i 0) (ns.getD j 0) (ns.getD k 0) ∈ ns
            · have hin' := hm.mpr hin
              simp [forB_eq, lp__law_first_1, fre_opn f5, ev_callC, gi, gj, gk, q, hin', -List.getD_eq_getElem?_getD]
              refine lq_nx hK4 rfl ⟨_, rfl, fun k'' h hbad => ?_, rfl⟩
              by_cases e : k'' = k
              · subst e; exact hbad.2.2.2 hin
              · exact hb3 k'' (by omega) hbad
            · have hin' : ¬ ((maj (ns.getD i 0) (ns.getD j 0) (ns.getD k 0) : Nat) : Int) ∈ ks := fun z => hin (hm.mp z)
              have hbad : Bad ns i j k := ⟨hij, by omega, hkn, hin⟩
              simp [forB_eq, lp__law_first_1, fre_opn f5, ev_callC, gi, gj, gk, q, hin', fits, -List.getD_eq_getElem?_getD]
              refine lq_rt hK4 (lq_rt hK3 (lq_rt hK2 (fq_rt hK (by simp [outs_all, isBr, aft_len]) ⟨some (i, j, k), ⟨hbad, fun i' j'' k'' hb => ?_⟩, rfl⟩)))
              rcases hb with h | ⟨rfl, h | ⟨rfl, h⟩⟩
              · exact hb1 i' j'' k'' h
              · exact hb2 j'' k'' h
              · exact hb3 k'' h
          · rintro ss (⟨s5, rfl, hb3, f5⟩ | h)
            · simp
              refine lq_nx hK3 rfl ⟨_, _, rfl, fun j'' k h hbad => ?_, rfl, f5⟩
              by_cases e : j'' = j
              · subst e
                refine hb3 k ?_ hbad
                have := hbad.2.2.1
                rw [List.length_map, List.length_range]
                omega
              · exact hb2 j'' k (by omega) hbad
            · exact h.elim
        · rintro ss (⟨s4, s5, rfl, hb2, f4, f5⟩ | h)
          · simp
            refine lq_nx hK2 rfl ⟨_, _, _, rfl, fun i' j k h => ?_, rfl, f4, f5⟩
            by_cases e : i' = i
            · subst e
              intro hbad
              refine hb2 j k ?_ hbad
              have := hbad.2.1
              have := hbad.2.2.1
              rw [List.length_map, List.length_range]
              omega
            · exact hb1 i' j k (by omega)
          · exact h.elim
      · rintro ss (⟨s3, s4, s5, rfl, hb1, f3, f4, f5⟩ | h)
        · simp [st__law_first_3, fits]
          refine fq_rt hK (by simp [outs_all, isBr]) ⟨none, fun i j k hbad => hb1 i j k ?_ hbad, rfl⟩
          have := hbad.1
          have := hbad.2.1
          have := hbad.2.2.1
          rw [List.length_map, List.length_range]
          omega
        · exact h.elim
    · exact h.elim
end Law_k21

set_option Elab.async false
set_option linter.all false
set_option maxRecDepth 100000
set_option maxHeartbeats 1000000
namespace Law_k21
open Wv Wm
open PySem (Str Operator UnaryOp CmpOp)
theorem bt_eq {n k : Nat} : bt n k = nsr n k % 2 := by
  unfold bt nsr
  rw [Nat.testBit_eq_decide_div_mod_eq, Nat.shiftRight_eq_div_pow]
  have := Nat.mod_lt (n / 2 ^ k) (show 0 < 2 by omega)
  by_cases h : n / 2 ^ k % 2 = 1
  · simp [h]
  · have : n / 2 ^ k % 2 = 0 := by omega
    simp [this]
theorem c_law_word {N L n : Nat} (hN : 1 ≤ N) (hL : L ≤ 1000) : callN pd.P N "_law_word" [.br (.int n), .br (.int L)] = .ok (WN (wd L n)) [] := by
  refine go (f := "_law_word") (k := 0) (R := fun r => r = .ok (WN (wd L n)) []) hN (by rfl) ⟨rfl, rfl⟩ fun M K hM hK => ?_
  show WP (execs _ _ _ [.br (.int n), .br (.int L), .no]) _
  have hco := comp_a (P := pd.P) (cf := callN pd.P M) (own := [2]) (p := .v 2) (elt := el__law_word_0) (φ := fun (k : Nat) => D.int k) (rs := []) (s := .rng none (some (.q (.var 1))) none) (e := [.br (.int n), .br (.int L), .no]) (List.range L) (fun k => .int (bt n (L - 1 - k) : Nat)) (range_src (n := L) (by simp) (by omega)) (by simp; omega) (fun k hk => by
    rw [List.mem_range] at hk
    have e : (L : Int) - 1 - k = ((L - 1 - k : Nat) : Int) := by omega
    have q : binD .Mod (.int (nsr n (L - 1 - k) : Nat)) (.int 2) = some (.int (bt n (L - 1 - k) : Nat)) := by
      rw [bin_modI (by omega), bt_eq]; rfl
    simp [lock, lockS, wipe, el__law_word_0, e, q])
  have hst : stbs ((List.range L).map fun k => D.int (bt n (L - 1 - k) : Nat)) = true := stbs_mem fun x hx => by obtain ⟨i, _, rfl⟩ := List.mem_map.mp hx; rfl
  have hfr : frozs ((List.range L).map fun k => D.int (bt n (L - 1 - k) : Nat)) = (List.range L).map fun k => D.int (bt n (L - 1 - k) : Nat) := by rw [frozs_map]; simp
  simp only [f__law_word, execs_cons', execs_nil', exec_ret']
  simp [hco, hst, hfr]
  refine fq_rt hK (by simp [outs_all, isBr]) ?_
  unfold WN wd
  rw [List.map_map]; rfl
theorem c_rowN {N m : Nat} {ns : List Int} {a limit : Nat} (hN : 2 ≤ N) (hm : m ≤ 1000000) (hl : 0 < limit) (hl2 : limit < 1073741824) :
    ∃ row : List Nat, row.length = m ∧ (∀ x ∈ row, x < limit) ∧ callN pd.P N "_law_row" [.br (.lst .scr (ns.map .int)), .br (.int (a : Int)), .br (.int (m : Int)), .br (.int (limit : Int))] = .ok (.lst .own (NL row)) [] := by
  obtain ⟨n, rfl⟩ : ∃ n, N = n + 2 := ⟨N - 2, by omega⟩
  obtain ⟨row, h1, h2, h3⟩ := c_law_row (n := n) (m := m) (ns := ns) (at_ := (a : Int)) (limit := (limit : Int)) (by omega) hm (by omega) (by omega)
  refine ⟨row.map Int.toNat, by simpa using h1, fun x hx => ?_, ?_⟩
  · obtain ⟨y, hy, rfl⟩ := List.mem_map.mp hx
    have := h2 y hy
    omega
  · rw [h3]
    congr 2
    unfold NL
    rw [List.map_map]
    apply List.map_congr_left
    intro x hx
    have := h2 x hx
    show D.int x = D.int ((x.toNat : Nat) : Int)
    congr 1
    omega
/-- what _law_drawn tells -/
structure Dr (L m : Nat) (ns : List Nat) : Prop where
  asc : ns.Pairwise (· < ·)
  lt : ∀ n ∈ ns, n < 2 ^ L
  pos : 1 ≤ ns.length
  len : ns.length ≤ m
theorem nsh_pow {k : Nat} : nsh k = 2 ^ k := (rfl)
theorem app_N {xs : List Nat} {n : Nat} : NL xs ++ [D.int (n : Int)] = NL (xs ++ [n]) := by unfold NL; simp
theorem c_law_drawn {N m L : Nat} {ns : List Int} {a : Nat} (hN : 3 ≤ N) (hm : 1 ≤ m ∧ m ≤ 1000) (hL : L ≤ 1000) :
    ∃ xs : List Nat, Dr L m xs ∧ callN pd.P N "_law_drawn" [.br (.lst .scr (ns.map .int)), .br (.int (a : Int)), .br (.int (m : Int)), .br (.int (L : Int))] = .ok (.lst .own (NL xs)) [] := by
  refine go (f := "_law_drawn") (k := 2) (R := fun r => ∃ xs : List Nat, Dr L m xs ∧ r = .ok (.lst .own (NL xs)) []) hN (by rfl) ⟨rfl, rfl⟩ fun M K hM hK => ?_
  show WP (execs _ _ _ [.br (.lst .scr (ns.map .int)), .br (.int (a : Int)), .br (.int (m : Int)), .br (.int (L : Int)), .no, .no, .no, .no]) _
  obtain ⟨row, r1, r2, r3⟩ := c_rowN (N := M) (m := 2 * m) (ns := ns) (a := a) (limit := 1048576) (by omega) (by omega) (by omega) (by omega)
  have e2 : binD .Mult (.int 2) (.int (m : Int)) = some (.int ((2 * m : Nat) : Int)) := by
    rw [bin_mulI (.inl (by omega))]; rfl
  simp only [f__law_drawn, execs_cons', execs_nil']
  simp [st__law_drawn_0, st__law_drawn_1, ev_callC, e2, fits]
  rw [show (2 * (m : Int)) = ((2 * m : Nat) : Int) by omega, show (1048576 : Int) = ((1048576 : Nat) : Int) by rfl, r3]
  simp
  simp only [st__law_drawn_2]
  refine wp_for ((List.range m).map fun (k : Nat) => D.int k) [] [5, 6, 7] (fun i ss => ∃ (found : List Nat) (s6 s7 : Slot), ss = [.me (.lst .own (NL found)), s6, s7] ∧ found.Nodup ∧ (∀ x ∈ found, x < 2 ^ L) ∧ found.length ≤ i ∧ (0 < i → 1 ≤ found.length) ∧ fre s6 = true ∧ fre s7 = true) (fun _ => False)
    (range_src (n := m) (by simp) (by omega)) rfl rfl rfl rfl ⟨[], _, _, rfl, by simp, by simp, by simp, by simp, rfl, rfl⟩ ?_ ?_ ?_
  · rintro ss (⟨found, s6, s7, rfl, _, _, _, _, f6, f7⟩ | h)
    · simp [f6]
    · exact h.elim
  · rintro i x ss K2 hx ⟨found, s6, s7, rfl, h1, h2, h3, h4, f6, f7⟩ hK2
    obtain ⟨rfl, hi⟩ := range_get hx
    have g1 := getD_at (ms := row) (k := 2 * i) (by omega)
    have g2 := getD_at (ms := row) (k := 2 * i + 1) (by omega)
    generalize row.getD (2 * i) 0 = u at g1
    generalize row.getD (2 * i + 1) 0 = v at g2
    have e3 : binD .Mult (.int 2) (.int (i : Int)) = some (.int ((2 * i : Nat) : Int)) := by
      rw [bin_mulI (.inl (by omega))]; congr 2
    have e4 : binD .Mult (.int (u : Int)) (.int 1048576) = some (.int ((u * 1048576 : Nat) : Int)) := by
      rw [bin_mulI (.inr (by omega))]; congr 2
    have e5 := bin_shlN (k := L) (by omega)
    rw [nsh_pow] at e5
    have hp := Nat.two_pow_pos L
    have hw := Nat.mod_lt (u * 1048576 + v) hp
    have e6 : binD .Mod (.int ((u * 1048576 + v : Nat) : Int)) (.int ((2 ^ L : Nat) : Int)) = some (.int (((u * 1048576 + v) % 2 ^ L : Nat) : Int)) := by
      rw [bin_modI (by omega)]; rfl
    have e7 : (NL row)[2 * i + 1]? = some (.int v) := g2
    generalize (u * 1048576 + v) % 2 ^ L = w at e6 hw
    have e8 : ((u * 1048576 : Nat) : Int) + (v : Int) = ((u * 1048576 + v : Nat) : Int) := by omega
    have e9 : ((2 * i : Nat) : Int) + 1 = ((2 * i + 1 : Nat) : Int) := by omega
    have hn := nin_L (t := .own) (n := w) (is := found)
    by_cases hin : w ∈ found
    · rw [decide_eq_true hin] at hn
      simp only [puts_cons, puts_nil, List.set_cons_succ, List.set_cons_zero, forB_eq, lp__law_drawn_0, fre_opn f6, fre_opn f7]
      simp [fre_opn f6, fre_opn f7, e3, e9, g1, e7, e4, e8, e5, e6, hn, -Int.natCast_add, -Int.natCast_mul, -Int.natCast_pow]
      exact lq_nx hK2 rfl ⟨found, .me (.int i), .me (.int w), by simp [gets], h1, h2, by omega, fun _ => List.length_pos_of_mem hin, rfl, rfl⟩
    · rw [decide_eq_false hin] at hn
      have hsz : found.length < 16777216 := by omega
      simp [forB_eq, lp__law_drawn_0, fre_opn f6, fre_opn f7, e3, e9, g1, e7, e4, e8, e5, e6, hn, hsz, app_N, -Int.natCast_add, -Int.natCast_mul, -Int.natCast_pow]
      refine lq_nx hK2 rfl ⟨found ++ [w], .me (.int i), .me (.int w), by simp [gets], ?_, ?_, by simp; omega, by simp, rfl, rfl⟩
      · rw [List.nodup_append]
        refine ⟨h1, by simp, ?_⟩
        intro a ha b hb
        rw [List.mem_singleton] at hb
        subst hb
        rintro rfl
        exact hin ha
      · intro x hx
        rcases List.mem_append.mp hx with hx | hx
        · exact h2 x hx
        · rw [List.mem_singleton] at hx; subst hx; exact hw
  · rintro ss (⟨found, s6, s7, rfl, h1, h2, h3, h4, f6, f7⟩ | h)
    · obtain ⟨r, q1, q2, q3⟩ := sort_N (t := .own) (xs := found)
      rw [List.length_map, List.length_range] at h3 h4
      simp [st__law_drawn_3, q1]
      refine fq_rt hK (by simp [outs_all, isBr]) ⟨r, ⟨asc_of q3 (q2.nodup_iff.mpr h1), fun n hn => h2 n (q2.mem_iff.mp hn), ?_, ?_⟩, rfl⟩
      · rw [q2.length_eq]; exact h4 (by omega)
      · rw [q2.length_eq]; exact h3
    · exact h.elim
end Law_k21

set_option Elab.async false
set_option linter.all false
set_option maxRecDepth 100000
set_option maxHeartbeats 1000000
namespace Law_k21
open Wv Wm
open PySem (Str Operator UnaryOp CmpOp)
/-- found and seen -/
structure Fd (L : Nat) (row found : List Nat) (ks : List Int) (b : Nat) : Prop where
  nod : found.Nodup
  lt : ∀ n ∈ found, n < 2 ^ L
  seen : ∀ k : Nat, (k : Int) ∈ ks ↔ k ∈ found
  len : found.length ≤ row.length + b
  kl : ks.length ≤ row.length + b
  pre : ∀ n ∈ row, n ∈ found
theorem Fd.mono {L : Nat} {row found : List Nat} {ks : List Int} {b b' : Nat} (h : Fd L row found ks b) (hb : b ≤ b') : Fd L row found ks b' := { h with len := by have := h.len; omega, kl := by have := h.kl; omega }
theorem Fd.app {L : Nat} {row found : List Nat} {ks : List Int} {b n : Nat} (h : Fd L row found ks b) (hn : n < 2 ^ L) (hin : n ∉ found) : Fd L row (found ++ [n]) (insK n ks) (b + 1) where
  nod := by
    rw [List.nodup_append]
    refine ⟨h.nod, by simp, ?_⟩
    intro a ha b hb
    rw [List.mem_singleton] at hb
    subst hb
    rintro rfl
    exact hin ha
  lt := fun x hx => by
    rcases List.mem_append.mp hx with hx | hx
    · exact h.lt x hx
    · rw [List.mem_singleton] at hx; subst hx; exact hn
  seen := fun k => by
    rw [mem_insK, h.seen, List.mem_append, List.mem_singleton]
    constructor
    · rintro (h | h)
      · exact .inr (by omega)
      · exact .inl h
    · rintro (h | h)
      · exact .inr h
      · exact .inl (by omega)
  len := by have := h.len; simp; omega
  kl := by have := h.kl; have := insK_len (i := n) (ks := ks); omega
  pre := fun x hx => List.mem_append_left _ (h.pre x hx)
/-- the sorted found -/
theorem Fd.fin {L : Nat} {row found : List Nat} {ks : List Int} {b : Nat} (h : Fd L row found ks b) (hr : row.Nodup) : ∃ xs : List Nat, biD "sorted" [.lst .own (NL found)] = some (.lst .own (NL xs)) ∧ xs.Pairwise (· < ·) ∧ (∀ n ∈ xs, n < 2 ^ L) ∧ row.length ≤ xs.length := by
  obtain ⟨r, q1, q2, q3⟩ := sort_N (t := .own) (xs := found)
  refine ⟨r, q1, asc_of q3 (q2.nodup_iff.mpr h.nod), fun n hn => h.lt n (q2.mem_iff.mp hn), ?_⟩
  rw [q2.length_eq]
  exact hr.length_le_of_subset h.pre
theorem c_closure {N L : Nat} {t : Tg} {row : List Nat} (hN : 2 ≤ N) (hr : row.Nodup) (hl : ∀ n ∈ row, n < 2 ^ L) (h1000 : row.length ≤ 1000) :
    ∃ xs : List Nat, xs.Pairwise (· < ·) ∧ (∀ n ∈ xs, n < 2 ^ L) ∧ row.length ≤ xs.length ∧ callN pd.P N "_law_closure" [.br (.lst t (NL row)), .br (.int 40)] = .ok (.lst .own (NL xs)) [] := by
  refine go (f := "_law_closure") (k := 1) (R := fun r => ∃ xs : List Nat, xs.Pairwise (· < ·) ∧ (∀ n ∈ xs, n < 2 ^ L) ∧ row.length ≤ xs.length ∧ r = .ok (.lst .own (NL xs)) []) hN (by rfl) ⟨rfl, rfl⟩ fun M K hM hK => ?_
  show WP (execs _ _ _ [.br (.lst t (NL row)), .br (.int 40), .no, .no, .no, .no, .no, .no]) _
  have hli : biD "list" [.lst t (NL row)] = some (.lst .own (NL row)) := by simp [bi_list]
  simp only [f__law_closure, execs_cons', execs_nil']
  simp [st__law_closure_0, st__law_closure_1, hli, ev_mk0']
  simp only [st__law_closure_2]
  refine wp_for (NL row) [0] [3, 4] (fun i ss => ∃ ks s4, ss = [.me (dicT .own ks), s4] ∧ (∀ k : Nat, (k : Int) ∈ ks ↔ k ∈ row.take i) ∧ ks.length ≤ i ∧ fre s4 = true) (fun _ => False)
    (itq_src rfl rfl) rfl rfl rfl rfl ⟨[], _, rfl, by simp, by simp, rfl⟩ ?_ ?_ ?_
  · rintro ss (⟨ks, s4, rfl, _, _, f4⟩ | h)
    · simp [f4]
    · exact h.elim
  · rintro i x ss K2 hx ⟨ks, s4, rfl, hk, hkl, f4⟩ hK2
    obtain ⟨n, hn, rfl⟩ := map_at hx
    have hi := (List.getElem?_eq_some_iff.mp hn).1
    have hsz : ks.length < 16777216 := by omega
    simp [forB_eq, lp__law_closure_0, fre_opn f4, updS, updAt, hsz]
    refine lq_nx hK2 rfl ⟨insK n ks, .me (.int n), by simp [gets], fun k => ?_, by have := insK_len (i := n) (ks := ks); omega, rfl⟩
    rw [mem_insK, hk, List.take_add_one, hn]
    simp only [List.mem_append, Option.toList_some, List.mem_singleton]
    constructor
    · rintro (h | h)
      · exact .inr (by omega)
      · exact .inl h
    · rintro (h | h)
      · exact .inr h
      · exact .inl (by omega)
  · rintro ss (⟨ks, s4, rfl, hk, hkl, f4⟩ | h)
    · rw [NL_len, List.take_length] at hk
      rw [NL_len] at hkl
      simp only [puts_cons, puts_nil, List.set_cons_succ, List.set_cons_zero, st__law_closure_3]
      refine wp_for ((List.range 41).map fun (k : Nat) => D.int k) [] [2, 3, 4, 5, 6, 7] (fun i ss => ∃ found ks s4 s5 s6 s7, ss = [.me (.lst .own (NL found)), .me (dicT .own ks), s4, s5, s6, s7] ∧ Fd L row found ks (i * 2500) ∧ fre s4 = true ∧ fre s5 = true ∧ fre s6 = true ∧ fre s7 = true) (fun _ => False)
        (range_src (n := 41) (by simp) (by omega)) rfl rfl rfl rfl ⟨row, ks, _, _, _, _, rfl, ⟨hr, hl, hk, by omega, by omega, fun n hn => hn⟩, f4, rfl, rfl, rfl⟩ ?_ ?_ ?_
      · rintro ss (⟨found, ks, s4, s5, s6, s7, rfl, _, f4, f5, f6, f7⟩ | h)
        · simp [f5]
        · exact h.elim
      · rintro k x ss K2 hx ⟨found, ks, s4, s5, s6, s7, rfl, hF, f4, f5, f6, f7⟩ hK2
        obtain ⟨rfl, hk41⟩ := range_get hx
        obtain ⟨xs, e1, e2, e3, e4⟩ := hF.fin hr
        by_cases hA : found.length ≤ k
        · simp [forB_eq, lp__law_closure_3, fre_opn f5, hA, e1]
          exact lq_rt hK2 (fq_rt hK (by simp [outs_all, isBr, aft_len]) ⟨xs, e2, e3, e4, rfl⟩)
        by_cases hB : 40 < found.length
        · have hB' : (40 : Int) < found.length := by omega
          simp [forB_eq, lp__law_closure_3, fre_opn f5, hA, hB, hB', e1]
          exact lq_rt hK2 (fq_rt hK (by simp [outs_all, isBr, aft_len]) ⟨xs, e2, e3, e4, rfl⟩)
        have hB' : ¬ (40 : Int) < found.length := by omega
        simp [forB_eq, lp__law_closure_3, fre_opn f5, hA, hB, hB', -exec_for']
        have hkf : k < found.length := by omega
        clear hA hB hB' e1 e2 e3 e4
        refine wp_for ((List.range k).map fun (k : Nat) => D.int k) [] [2, 3, 4, 6, 7] (fun i ss => ∃ found ks s4 s6 s7, ss = [.me (.lst .own (NL found)), .me (dicT .own ks), s4, s6, s7] ∧ Fd L row found ks (k * 2500 + i * 50) ∧ k < found.length ∧ fre s4 = true ∧ fre s6 = true ∧ fre s7 = true) (fun _ => False)
          (range_src (n := k) (by simp) (by omega)) rfl rfl (by simp [fre_nlk f6]) rfl ⟨found, ks, _, _, _, rfl, hF.mono (by omega), hkf, f4, f6, f7⟩ ?_ ?_ ?_
        · rintro ss (⟨found, ks, s4, s6, s7, rfl, _, _, f4, f6, f7⟩ | h)
          · simp [f6]
          · exact h.elim
        · rintro i x ss K3 hx ⟨found, ks, s4, s6, s7, rfl, hF, hkf, f4, f6, f7⟩ hK3
          obtain ⟨rfl, hik⟩ := range_get hx
          simp [forB_eq, lp__law_closure_2, fre_opn f6, -exec_for']
          refine wp_for ((List.range i).map fun (k : Nat) => D.int k) [] [2, 3, 4, 7] (fun j ss => ∃ found ks s4 s7, ss = [.me (.lst .own (NL found)), .me (dicT .own ks), s4, s7] ∧ Fd L row found ks (k * 2500 + i * 50 + j) ∧ k < found.length ∧ fre s4 = true ∧ fre s7 = true) (fun _ => False)
            (range_src (n := i) (by simp) (by omega)) rfl rfl (by simp [fre_nlk f7]) rfl ⟨found, ks, _, _, rfl, hF.mono (by omega), hkf, f4, f7⟩ ?_ ?_ ?_
          · rintro ss (⟨found, ks, s4, s7, rfl, _, _, f4, f7⟩ | h)
            · simp [f7]
            · exact h.elim
          · rintro j x ss K4 hx ⟨found, ks, s4, s7, rfl, hF, hkf, f4, f7⟩ hK4
            obtain ⟨rfl, hji⟩ := range_get hx
            have gi := getD_at (ms := found) (k := i) (by omega)
            have gj := getD_at (ms := found) (k := j) (by omega)
            have gk := getD_at (ms := found) (k := k) (by omega)
            have li := hF.lt _ (show found.getD i 0 ∈ found by rw [List.getD_eq_getElem?_getD, List.getElem?_eq_getElem (by omega)]; exact List.getElem_mem _)
            have lj := hF.lt _ (show found.getD j 0 ∈ found by rw [List.getD_eq_getElem?_getD, List.getElem?_eq_getElem (by omega)]; exact List.getElem_mem _)
            have lk := hF.lt _ (show found.getD k 0 ∈ found by rw [List.getD_eq_getElem?_getD, List.getElem?_eq_getElem (by omega)]; exact List.getElem_mem _)
            have q := c_maj (N := M) (a := found.getD i 0) (b := found.getD j 0) (c := found.getD k 0) (by omega)
            have hlt := maj_lt li lj lk
            generalize maj (found.getD i 0) (found.getD j 0) (found.getD k 0) = w at q hlt
            have hm := hF.seen w
            have hl1 := hF.len
            have hl2 := hF.kl
            by_cases hin : w ∈ found
            · have hin' := hm.mpr hin
              simp [forB_eq, lp__law_closure_1, fre_opn f4, fre_opn f7, ev_callC, gi, gj, gk, q, hin', -List.getD_eq_getElem?_getD]
              exact lq_nx hK4 rfl ⟨found, ks, .me (.int w), .me (.int j), by simp [gets], hF.mono (by omega), hkf, rfl, rfl⟩
            · have hin' : ¬ (w : Int) ∈ ks := fun z => hin (hm.mp z)
              have hz1 : found.length < 16777216 := by omega
              have hz2 : ks.length < 16777216 := by omega
              simp [forB_eq, lp__law_closure_1, fre_opn f4, fre_opn f7, ev_callC, gi, gj, gk, q, hin', updS, updAt, hz1, hz2, app_N, -List.getD_eq_getElem?_getD]
              exact lq_nx hK4 rfl ⟨found ++ [w], insK w ks, .me (.int w), .me (.int j), by simp [gets], hF.app hlt hin, by simp; omega, rfl, rfl⟩
          · rintro ss (⟨found, ks, s4, s7, rfl, hF, hkf, f4, f7⟩ | h)
            · rw [List.length_map, List.length_range] at hF
              simp
              exact lq_nx hK3 rfl ⟨found, ks, _, _, _, rfl, hF.mono (by omega), hkf, f4, rfl, f7⟩
            · exact h.elim
        · rintro ss (⟨found, ks, s4, s6, s7, rfl, hF, hkf, f4, f6, f7⟩ | h)
          · rw [List.length_map, List.length_range] at hF
            simp
            exact lq_nx hK2 rfl ⟨found, ks, _, _, _, _, rfl, hF.mono (by omega), f4, rfl, f6, f7⟩
          · exact h.elim
      · rintro ss (⟨found, ks, s4, s5, s6, s7, rfl, hF, f4, f5, f6, f7⟩ | h)
        · obtain ⟨xs, e1, e2, e3, e4⟩ := hF.fin hr
          simp [st__law_closure_4, e1]
          exact fq_rt hK (by simp [outs_all, isBr]) ⟨xs, e2, e3, e4, rfl⟩
        · exact h.elim
    · exact h.elim
end Law_k21

set_option Elab.async false
set_option linter.all false
set_option maxRecDepth 100000
set_option maxHeartbeats 1000000
namespace Law_k21
open Wv Wm
open PySem (Str Operator UnaryOp CmpOp)
theorem bin_shlG {a k : Nat} (ha : a < 2 ^ 64) (hk : k ≤ 1000) : binD .LShift (.int (a : Int)) (.int (k : Int)) = some (.int (a * 2 ^ k : Nat)) := by
  have h1 : (0 : Int) ≤ k ∧ (k : Int) ≤ 1000000 ∧ (a : Int).natAbs < 2 ^ 128 := ⟨by omega, by omega, by omega⟩
  simp only [binD, arith, if_pos h1, Option.map_some, Int.toNat_natCast]
  congr 2
theorem modN {a b : Nat} (h : 0 < b) : binD .Mod (.int (a : Int)) (.int (b : Int)) = some (.int (a % b : Nat)) := by
  rw [bin_modI (by omega)]; rfl
theorem divN {a b : Nat} (h : 0 < b) (h2 : b < 1073741824) : binD .FloorDiv (.int (a : Int)) (.int (b : Int)) = some (.int (a / b : Nat)) := by
  rw [bin_divI ⟨by omega, by omega⟩]; rfl
theorem mulN {a b : Nat} (h : a < 2 ^ 64) : binD .Mult (.int (a : Int)) (.int (b : Int)) = some (.int (a * b : Nat)) := by
  rw [bin_mulI (.inl (by omega))]; congr 2
theorem min3N {a b c : Nat} : ∃ t : Nat, t ≤ a ∧ t ≤ b ∧ t ≤ c ∧ biD "min" [.int (a : Int), .int (b : Int), .int (c : Int)] = some (.int (t : Int)) := by
  refine ⟨min (min a b) c, by omega, by omega, by omega, ?_⟩
  show some (D.int (if (c : Int) < (if (b : Int) < a then (b : Int) else a) then (c : Int) else (if (b : Int) < a then (b : Int) else a))) = _
  congr 2
  split <;> split <;> omega
/-- numbers of fields told before (i, j, k) -/
structure Gd (p q r i j k : Nat) (row : List Nat) : Prop where
  nod : row.Nodup
  mem : ∀ x ∈ row, ∃ i' j' k', i' ≤ p ∧ j' ≤ q ∧ k' ≤ r ∧ bef i' j' k' i j k ∧ x = fld3 p q i' j' k'
  len : row.length = (i * (q + 1) + j) * (r + 1) + k
theorem Gd.app {p q r i j k : Nat} {row : List Nat} (h : Gd p q r i j k row) (hi : i ≤ p) (hj : j ≤ q) (hk : k ≤ r) : Gd p q r i j (k + 1) (row ++ [fld3 p q i j k]) where
  nod := by
    rw [List.nodup_append]
    refine ⟨h.nod, by simp, ?_⟩
    intro a ha b hb
    rw [List.mem_singleton] at hb
    subst hb
    rintro rfl
    obtain ⟨i', j', k', h1, h2, h3, h4, h5⟩ := h.mem _ ha
    obtain ⟨rfl, rfl, rfl⟩ := fld3_inj hi hj h1 h2 h5
    unfold bef at h4; omega
  mem := fun x hx => by
    rcases List.mem_append.mp hx with hx | hx
    · obtain ⟨i', j', k', h1, h2, h3, h4, h5⟩ := h.mem _ hx
      exact ⟨i', j', k', h1, h2, h3, by unfold bef at h4 ⊢; omega, h5⟩
    · rw [List.mem_singleton] at hx
      exact ⟨i, j, k, hi, hj, hk, by unfold bef; omega, hx⟩
  len := by rw [List.length_append, h.len]; simp; omega
theorem Gd.nextJ {p q r i j : Nat} {row : List Nat} (h : Gd p q r i j (r + 1) row) : Gd p q r i (j + 1) 0 row := ⟨h.nod, fun x hx => by
    obtain ⟨i', j', k', h1, h2, h3, h4, h5⟩ := h.mem _ hx
    exact ⟨i', j', k', h1, h2, h3, by unfold bef at h4 ⊢; omega, h5⟩, by
    rw [h.len, ← Nat.add_assoc (i * (q + 1)), Nat.add_mul (i * (q + 1) + j) 1, Nat.one_mul]; rfl⟩
theorem Gd.nextI {p q r i : Nat} {row : List Nat} (h : Gd p q r i (q + 1) 0 row) : Gd p q r (i + 1) 0 0 row := ⟨h.nod, fun x hx => by
    obtain ⟨i', j', k', h1, h2, h3, h4, h5⟩ := h.mem _ hx
    exact ⟨i', j', k', h1, h2, h3, by unfold bef at h4 ⊢; omega, h5⟩, by
    rw [h.len, Nat.add_mul i 1, Nat.one_mul]; rfl⟩
/-- distinct numbers of few bits -/
structure Ds (L : Nat) (row : List Nat) : Prop where
  nod : row.Nodup
  lt : ∀ x ∈ row, x < 2 ^ L
theorem Ds.tail {L : Nat} {row : List Nat} (h : Ds L row) : Ds (L + 1) (row ++ [2 ^ (L + 1) - 1]) where
  nod := by
    rw [List.nodup_append]
    refine ⟨h.nod, by simp, ?_⟩
    intro a ha b hb
    rw [List.mem_singleton] at hb
    subst hb
    rintro rfl
    have := h.lt _ ha
    rw [Nat.pow_succ] at this
    have := Nat.two_pow_pos L
    omega
  lt := fun x hx => by
    have h1 := Nat.two_pow_pos L
    have h2 := Nat.pow_succ 2 L
    rcases List.mem_append.mp hx with hx | hx
    · have := h.lt x hx; omega
    · rw [List.mem_singleton] at hx; omega
theorem prod_le {p q r : Nat} : p + q + r + 1 ≤ (1 + p) * (1 + q) * (1 + r) := by
  have h1 : 1 + p + q ≤ (1 + p) * (1 + q) := by
    rw [Nat.mul_add, Nat.mul_one]
    have := Nat.le_mul_of_pos_left q (show 0 < 1 + p by omega)
    omega
  generalize (1 + p) * (1 + q) = w at h1
  rw [Nat.mul_add, Nat.mul_one]
  have := Nat.le_mul_of_pos_left r (show 0 < w by omega)
  omega
end Law_k21

set_option Elab.async false
set_option linter.all false
set_option maxRecDepth 100000
set_option maxHeartbeats 1000000
namespace Law_k21
open Wv Wm
open PySem (Str Operator UnaryOp CmpOp)
theorem c_grid {N a b c d : Nat} {t : Tg} (hN : 1 ≤ N) :
    ∃ (L : Nat) (row : List Nat), Ds L row ∧ L ≤ 39 ∧ 1 ≤ row.length ∧ row.length ≤ 40 ∧ callN pd.P N "_law_grid" [.br (.lst t (NL [a, b, c, d]))] = .ok (.lst .own [.int (L : Nat), .lst .fro (NL row)]) [] := by
  refine go (f := "_law_grid") (k := 0) (R := fun r' => ∃ (L : Nat) (row : List Nat), Ds L row ∧ L ≤ 39 ∧ 1 ≤ row.length ∧ row.length ≤ 40 ∧ r' = .ok (.lst .own [.int (L : Nat), .lst .fro (NL row)]) []) hN (by rfl) ⟨rfl, rfl⟩ fun M K hM hK => ?_
  show WP (execs _ _ _ [.br (.lst t (NL [a, b, c, d])), .no, .no, .no, .no, .no, .no, .no, .no, .no]) _
  have g0 : NL [a, b, c, d] = [.int (a : Nat), .int (b : Nat), .int (c : Nat), .int (d : Nat)] := rfl
  obtain ⟨p, hp, hp8⟩ : ∃ p : Nat, binD .Mod (.int (a : Int)) (.int 8) = some (.int (p : Int)) ∧ p < 8 := ⟨a % 8, modN (b := 8) (by omega), Nat.mod_lt _ (by omega)⟩
  obtain ⟨c1, hc1, hc1p, hc1m⟩ : ∃ c1 : Nat, binD .FloorDiv (.int 40) (.int (1 + (p : Int))) = some (.int (c1 : Int)) ∧ 0 < c1 ∧ (1 + p) * c1 ≤ 40 := by
    refine ⟨40 / (1 + p), ?_, Nat.div_pos (by omega) (by omega), Nat.mul_div_le ..⟩
    have := divN (a := 40) (b := 1 + p) (by omega) (by omega)
    rwa [show ((1 + p : Nat) : Int) = 1 + (p : Int) by omega] at this
  obtain ⟨q, hq, hqc⟩ : ∃ q : Nat, binD .Mod (.int (b : Int)) (.int (c1 : Int)) = some (.int (q : Int)) ∧ q < c1 := ⟨b % c1, modN hc1p, Nat.mod_lt _ hc1p⟩
  have hw1 : (1 + p) * (1 + q) ≤ 40 := Nat.le_trans (Nat.mul_le_mul (Nat.le_refl _) (by omega)) hc1m
  have hw0 : 0 < (1 + p) * (1 + q) := Nat.mul_pos (by omega) (by omega)
  have hpl := @prod_le p q
  obtain ⟨w, hw⟩ : ∃ w, (1 + p) * (1 + q) = w := ⟨_, rfl⟩
  rw [hw] at hw1 hw0
  have hmw : binD .Mult (.int (1 + (p : Int))) (.int (1 + (q : Int))) = some (.int (w : Int)) := by
    have := mulN (a := 1 + p) (b := 1 + q) (by omega)
    rw [hw] at this
    rwa [show ((1 + p : Nat) : Int) = 1 + (p : Int) by omega, show ((1 + q : Nat) : Int) = 1 + (q : Int) by omega] at this
  obtain ⟨c2, hc2, hc2p, hc2m⟩ : ∃ c2 : Nat, binD .FloorDiv (.int 40) (.int (w : Int)) = some (.int (c2 : Int)) ∧ 0 < c2 ∧ w * c2 ≤ 40 :=
    ⟨40 / w, divN (a := 40) hw0 (by omega), Nat.div_pos (by omega) (by omega), Nat.mul_div_le ..⟩
  obtain ⟨r, hr, hrc⟩ : ∃ r : Nat, binD .Mod (.int (c : Int)) (.int (c2 : Int)) = some (.int (r : Int)) ∧ r < c2 := ⟨c % c2, modN hc2p, Nat.mod_lt _ hc2p⟩
  have hv1 : w * (1 + r) ≤ 40 := Nat.le_trans (Nat.mul_le_mul (Nat.le_refl _) (by omega)) hc2m
  have hpl := @hpl r
  rw [hw] at hpl
  obtain ⟨v, hv⟩ : ∃ v, w * (1 + r) = v := ⟨_, rfl⟩
  rw [hv] at hv1 hpl
  have hmv : binD .Mult (.int (w : Int)) (.int (1 + (r : Int))) = some (.int (v : Int)) := by
    have := mulN (a := w) (b := 1 + r) (by omega)
    rw [hv] at this
    rwa [show ((1 + r : Nat) : Int) = 1 + (r : Int) by omega] at this
  obtain ⟨l, hl⟩ : ∃ l, p + q + r = l := ⟨_, rfl⟩
  have el : 1 + (p : Int) + (1 + (q : Int)) + (1 + (r : Int)) - 3 = (l : Int) := by omega
  obtain ⟨d5, hd⟩ : ∃ d5 : Nat, binD .Mod (.int (d : Int)) (.int 5) = some (.int (d5 : Int)) := ⟨d % 5, modN (b := 5) (by omega)⟩
  obtain ⟨tl, t1, t2, t3, ht⟩ := @min3N d5 (40 - v) (39 - l)
  rw [show ((40 - v : Nat) : Int) = 40 - (v : Int) by omega, show ((39 - l : Nat) : Int) = 39 - (l : Int) by omega] at ht
  simp only [f__law_grid, execs_cons', execs_nil']
  simp [st__law_grid_0, st__law_grid_1, st__law_grid_2, st__law_grid_3, st__law_grid_4, st__law_grid_5, g0, hp, hc1, hq, hmw, hc2, hr, el, hd, hmv, ht, fits]
  simp only [st__law_grid_6]
  refine wp_for ((List.range (1 + p)).map fun (k : Nat) => D.int k) [] [6, 7, 8, 9] (fun i ss => ∃ row s7 s8 s9, ss = [.me (.lst .own (NL row)), s7, s8, s9] ∧ Gd p q r i 0 0 row ∧ fre s7 = true ∧ fre s8 = true ∧ fre s9 = true) (fun _ => False)
    (range_src (n := 1 + p) (by simp) (by omega)) rfl rfl rfl rfl ⟨[], _, _, _, rfl, ⟨by simp, by simp, by simp⟩, rfl, rfl, rfl⟩ ?_ ?_ ?_
  · rintro ss (⟨row, s7, s8, s9, rfl, _, f7, f8, f9⟩ | h)
    · simp [f7]
    · exact h.elim
  · rintro i x ss K2 hx ⟨row, s7, s8, s9, rfl, hG, f7, f8, f9⟩ hK2
    obtain ⟨rfl, hi⟩ := range_get hx
    simp [forB_eq, lp__law_grid_2, fre_opn f7, -exec_for']
    refine wp_for ((List.range (1 + q)).map fun (k : Nat) => D.int k) [] [6, 8, 9] (fun j ss => ∃ row s8 s9, ss = [.me (.lst .own (NL row)), s8, s9] ∧ Gd p q r i j 0 row ∧ fre s8 = true ∧ fre s9 = true) (fun _ => False)
      (range_src (n := 1 + q) (by simp) (by omega)) rfl rfl (by simp [fre_nlk f8]) rfl ⟨row, _, _, rfl, hG, f8, f9⟩ ?_ ?_ ?_
    · rintro ss (⟨row, s8, s9, rfl, _, f8, f9⟩ | h)
      · simp [f8]
      · exact h.elim
    · rintro j x ss K3 hx ⟨row, s8, s9, rfl, hG, f8, f9⟩ hK3
      obtain ⟨rfl, hj⟩ := range_get hx
      simp [forB_eq, lp__law_grid_1, fre_opn f8, -exec_for']
      refine wp_for ((List.range (1 + r)).map fun (k : Nat) => D.int k) [] [6, 9] (fun k ss => ∃ row s9, ss = [.me (.lst .own (NL row)), s9] ∧ Gd p q r i j k row ∧ fre s9 = true) (fun _ => False)
        (range_src (n := 1 + r) (by simp) (by omega)) rfl rfl (by simp [fre_nlk f9]) rfl ⟨row, _, rfl, hG, f9⟩ ?_ ?_ ?_
      · rintro ss (⟨row, s9, rfl, _, f9⟩ | h)
        · simp [f9]
        · exact h.elim
      · rintro k x ss K4 hx ⟨row, s9, rfl, hG, f9⟩ hK4
        obtain ⟨rfl, hk⟩ := range_get hx
        have hG2 := hG.app (by omega) (by omega) (by omega)
        have hfd : fld3 p q i j k = (2 ^ i - 1) + (2 ^ j - 1) * 2 ^ p + (2 ^ k - 1) * 2 ^ (p + q) := rfl
        obtain ⟨A, hA⟩ : ∃ A, 2 ^ i = A + 1 := ⟨2 ^ i - 1, by have := Nat.two_pow_pos i; omega⟩
        obtain ⟨B, hB⟩ : ∃ A, 2 ^ j = A + 1 := ⟨2 ^ j - 1, by have := Nat.two_pow_pos j; omega⟩
        obtain ⟨C, hC⟩ : ∃ A, 2 ^ k = A + 1 := ⟨2 ^ k - 1, by have := Nat.two_pow_pos k; omega⟩
        have bB : 2 ^ j < 2 ^ 64 := Nat.pow_lt_pow_right (by omega) (by omega)
        have bC : 2 ^ k < 2 ^ 64 := Nat.pow_lt_pow_right (by omega) (by omega)
        have b1 := bin_shlN (k := i) (by omega)
        have b2 := bin_shlN (k := j) (by omega)
        have b3 := bin_shlN (k := k) (by omega)
        rw [nsh_pow, hA] at b1
        rw [nsh_pow, hB] at b2
        rw [nsh_pow, hC] at b3
        have b4 := bin_shlG (a := B) (k := p) (by omega) (by omega)
        have b5 := bin_shlG (a := C) (k := p + q) (by omega) (by omega)
        rw [hA, hB, hC] at hfd
        simp only [Nat.add_sub_cancel] at hfd
        generalize B * 2 ^ p = B2 at hfd b4
        generalize C * 2 ^ (p + q) = C2 at hfd b5
        rw [hfd] at hG2
        rw [show ((p + q : Nat) : Int) = (p : Int) + q by omega] at b5
        have x1 : ((A + 1 : Nat) : Int) - 1 = (A : Int) := by omega
        have x2 : ((B + 1 : Nat) : Int) - 1 = (B : Int) := by omega
        have x3 : ((C + 1 : Nat) : Int) - 1 = (C : Int) := by omega
        have x4 : 1 + (p : Int) - 1 = (p : Int) := by omega
        have x5 : 1 + (p : Int) + (1 + (q : Int)) - 2 = (p : Int) + q := by omega
        have x6 : (A : Int) + B2 + C2 = ((A + B2 + C2 : Nat) : Int) := by omega
        have hsz : row.length < 16777216 := by
          rw [hG.len]
          have h1 : i * (q + 1) ≤ 40 * 40 := Nat.mul_le_mul (by omega) (by omega)
          have h2 : (i * (q + 1) + j) * (r + 1) ≤ 1640 * 40 := Nat.mul_le_mul (by omega) (by omega)
          omega
        generalize A + B2 + C2 = z at x6 hG2
        simp only [puts_cons, puts_nil, List.set_cons_succ, List.set_cons_zero, forB_eq, lp__law_grid_0]
        simp [fre_opn f9, b1, b2, b3, b4, b5, x4, x5, x6, hsz, app_N]
        exact lq_nx hK4 rfl ⟨row ++ [z], .me (.int k), by simp [gets], hG2, rfl⟩
      · rintro ss (⟨row, s9, rfl, hG, f9⟩ | h)
        · rw [List.length_map, List.length_range, show 1 + r = r + 1 by omega] at hG
          simp
          exact lq_nx hK3 rfl ⟨row, _, _, rfl, hG.nextJ, rfl, f9⟩
        · exact h.elim
    · rintro ss (⟨row, s8, s9, rfl, hG, f8, f9⟩ | h)
      · rw [List.length_map, List.length_range, show 1 + q = q + 1 by omega] at hG
        simp
        exact lq_nx hK2 rfl ⟨row, _, _, _, rfl, hG.nextI, rfl, f8, f9⟩
      · exact h.elim
  · rintro ss (⟨row, s7, s8, s9, rfl, hG, f7, f8, f9⟩ | h)
    · rw [List.length_map, List.length_range] at hG
      have hrl : row.length = v := by
        rw [hG.len, ← hv, ← hw, Nat.add_zero, Nat.add_zero, Nat.add_comm q, Nat.add_comm r]
      have hD : Ds l row := ⟨hG.nod, fun x hx => by
        obtain ⟨i', j', k', h1, h2, h3, _, rfl⟩ := hG.mem x hx
        rw [← hl]
        exact fld3_lt h1 h2 h3⟩
      clear hG
      simp only [puts_cons, puts_nil, List.set_cons_succ, List.set_cons_zero, st__law_grid_7]
      refine wp_for ((List.range tl).map fun (k : Nat) => D.int k) [] [6, 9] (fun k ss => ∃ row s9, ss = [.me (.lst .own (NL row)), s9] ∧ Ds (l + k) row ∧ row.length = v + k ∧ fre s9 = true) (fun _ => False)
        (range_src (n := tl) (by simp) (by omega)) rfl rfl (by simp [fre_nlk f9]) rfl ⟨row, _, rfl, hD, hrl, f9⟩ ?_ ?_ ?_
      · rintro ss (⟨row, s9, rfl, _, _, f9⟩ | h)
        · simp [f9]
        · exact h.elim
      · rintro k x ss K2 hx ⟨row, s9, rfl, hD, hrl, f9⟩ hK2
        obtain ⟨rfl, hk⟩ := range_get hx
        have hD2 := hD.tail
        obtain ⟨A, hA⟩ : ∃ A, 2 ^ (l + k + 1) = A + 1 := ⟨2 ^ (l + k + 1) - 1, by have := Nat.two_pow_pos (l + k + 1); omega⟩
        have b1 := bin_shlN (k := l + k + 1) (by omega)
        rw [nsh_pow, hA, show ((l + k + 1 : Nat) : Int) = (l : Int) + k + 1 by omega] at b1
        rw [hA, Nat.add_sub_cancel] at hD2
        have hsz : row.length < 16777216 := by omega
        simp [forB_eq, lp__law_grid_3, fre_opn f9, b1, hsz, app_N]
        exact lq_nx hK2 rfl ⟨row ++ [A], .me (.int k), by simp [gets], hD2, by simp; omega, rfl⟩
      · rintro ss (⟨row, s9, rfl, hD, hrl, f9⟩ | h)
        · rw [List.length_map, List.length_range] at hD hrl
          simp [st__law_grid_8, fits]
          refine fq_rt hK (by simp [outs_all, isBr]) ⟨l + tl, row, hD, by omega, by omega, by omega, ?_⟩
          simp
        · exact h.elim
    · exact h.elim
end Law_k21

set_option Elab.async false
set_option linter.all false
set_option maxRecDepth 100000
set_option maxHeartbeats 1000000
namespace Law_k21
open Wv Wm
open PySem (Str Operator UnaryOp CmpOp)
theorem ord_lt {n : Nat} {f : Nat → Nat} {r : List Nat} (hp : r.Perm ((List.range n).map fun k => f k * 64 + k)) (hn : n ≤ 64) {k : Nat} (hk : k < n) : r.getD k 0 % 64 < n := by
  have hl : r.length = n := by rw [hp.length_eq]; simp
  have hm : r.getD k 0 ∈ r := by rw [List.getD_eq_getElem?_getD, List.getElem?_eq_getElem (by omega)]; exact List.getElem_mem _
  obtain ⟨m, hm2, e⟩ := List.mem_map.mp (hp.mem_iff.mp hm)
  rw [List.mem_range] at hm2
  rw [← e]
  omega
theorem ord_at {n : Nat} {f : Nat → Nat} {r : List Nat} (hp : r.Perm ((List.range n).map fun k => f k * 64 + k)) (hn : n ≤ 64) {m : Nat} (hm : m < n) : ∃ k, k < n ∧ r.getD k 0 % 64 = m := by
  have hl : r.length = n := by rw [hp.length_eq]; simp
  have h1 : f m * 64 + m ∈ r := hp.mem_iff.mpr (List.mem_map.mpr ⟨m, List.mem_range.mpr hm, rfl⟩)
  obtain ⟨k, hk, e⟩ := List.mem_iff_getElem.mp h1
  refine ⟨k, by omega, ?_⟩
  rw [List.getD_eq_getElem?_getD, List.getElem?_eq_getElem hk]
  simp only [Option.getD_some]
  rw [e]; omega
/-- the mixed bits of a number -/
def mxw (n : Nat) (S c : Nat → Nat) (x : Nat) : List Nat := (List.range n).map fun k => (nsr x (S k) + c k) % 2
theorem mxw_bits {n : Nat} {S c : Nat → Nat} {x : Nat} : Bits (mxw n S c x) := fun b hb => by
  obtain ⟨k, _, rfl⟩ := List.mem_map.mp hb
  have := Nat.mod_lt (nsr x (S k) + c k) (show 0 < 2 by omega)
  omega
theorem mxw_len {n : Nat} {S c : Nat → Nat} {x : Nat} : (mxw n S c x).length = n := by simp [mxw]
theorem mxw_inj {l n : Nat} {S c : Nat → Nat} (hS : ∀ m, m < l → ∃ k, k < n ∧ S k = m) {a b : Nat} (ha : a < 2 ^ l) (hb : b < 2 ^ l) (h : numb (mxw n S c a) = numb (mxw n S c b)) : a = b := by
  have h2 := numb_inj mxw_bits mxw_bits (by rw [mxw_len, mxw_len]) h
  apply Nat.eq_of_testBit_eq
  intro m
  by_cases hm : m < l
  · obtain ⟨k, hk, rfl⟩ := hS m hm
    have h3 := congrArg (fun w => w[k]?) h2
    simp only [mxw, List.getElem?_map, List.getElem?_range hk, Option.map_some, Option.some.injEq] at h3
    have e1 := bt_eq (n := a) (k := S k)
    have e2 := bt_eq (n := b) (k := S k)
    have e3 : bt a (S k) = bt b (S k) := by omega
    unfold bt at e3
    cases hA : a.testBit (S k) <;> cases hB : b.testBit (S k) <;> simp_all
  · rw [Nat.testBit_lt_two_pow (Nat.lt_of_lt_of_le ha (Nat.pow_le_pow_right (by omega) (by omega))), Nat.testBit_lt_two_pow (Nat.lt_of_lt_of_le hb (Nat.pow_le_pow_right (by omega) (by omega)))]
theorem mxw_take {n : Nat} {S c : Nat → Nat} {x k : Nat} (hk : k < n) : numb ((mxw n S c x).take (k + 1)) = 2 * numb ((mxw n S c x).take k) + (nsr x (S k) + c k) % 2 := by
  have : (mxw n S c x)[k]? = some ((nsr x (S k) + c k) % 2) := by simp [mxw, List.getElem?_range hk]
  rw [List.take_add_one, this]
  exact numb_snoc
theorem L_map {α : Type} {f : α → Nat} {xs : List α} : (xs.map fun k => D.int (f k : Nat)) = NL (xs.map f) := by unfold NL; rw [List.map_map]; rfl
theorem bin_addN {s t : Tg} {xs ys : List Nat} (hs : s ≠ .scr) (ht : t ≠ .scr) (h : xs.length + ys.length ≤ 10000) : binD .Add (.lst s (NL xs)) (.lst t (NL ys)) = some (.lst .own (NL (xs ++ ys))) := by
  rw [bin_addL hs ht (by rw [NL_len, NL_len]; omega) NL_stb NL_stb]
  unfold NL; rw [List.map_append]
theorem c_mixed {N l : Nat} {t t2 : Tg} {row keys : List Nat} (hN : 1 ≤ N) (hl : l ≤ 39) (hD : Ds l row) (h1 : 1 ≤ row.length) (h40 : row.length ≤ 40) (hk : keys.length = 44) (hk2 : ∀ x ∈ keys, x < 1009) :
    ∃ (L : Nat) (xs : List Nat), Rw L xs ∧ L ≤ 39 ∧ callN pd.P N "_law_mixed" [.br (.int (l : Int)), .br (.lst t (NL row)), .br (.lst t2 (NL keys))] = .ok (.lst .own [.int (L : Nat), .lst .own (NL xs)]) [] := by
  refine go (f := "_law_mixed") (k := 0) (R := fun r' => ∃ (L : Nat) (xs : List Nat), Rw L xs ∧ L ≤ 39 ∧ r' = .ok (.lst .own [.int (L : Nat), .lst .own (NL xs)]) []) hN (by rfl) ⟨rfl, rfl⟩ fun M K hM hK => ?_
  show WP (execs _ _ _ [.br (.int (l : Int)), .br (.lst t (NL row)), .br (.lst t2 (NL keys)), .no, .no, .no, .no, .no, .no, .no]) _
  have gk : ∀ k, k < 44 → (NL keys)[k]? = some (.int (keys.getD k 0 : Nat)) := fun k h => getD_at (by omega)
  have bk : ∀ k, keys.getD k 0 < 1009 := fun k => by
    by_cases h : k < keys.length
    · exact hk2 _ (by rw [List.getD_eq_getElem?_getD, List.getElem?_eq_getElem h]; exact List.getElem_mem _)
    · rw [List.getD_eq_getElem?_getD, List.getElem?_eq_none (by omega)]; decide
  have g0 := gk 0 (by omega)
  have e1 : binD .Mod (.int (keys.getD 0 0 : Nat)) (.int 4) = some (.int (keys.getD 0 0 % 4 : Nat)) := modN (b := 4) (by omega)
  generalize keys.getD 0 0 = k0 at g0 e1
  generalize hex : min (k0 % 4) (39 - l) = ex
  have e2 : biD "min" [.int (k0 % 4 : Nat), .int (39 - (l : Int))] = some (.int (ex : Int)) := by
    rw [← hex, show 39 - (l : Int) = ((39 - l : Nat) : Int) by omega]; exact bi_minN
  generalize k0 % 4 = k4 at e1 e2 hex
  have hexl : l + ex ≤ 39 := by omega
  have hex3 : ex ≤ 39 := by omega
  simp only [f__law_mixed, execs_cons', execs_nil']
  simp [st__law_mixed_0, g0, e1, e2, -bi_minN]
  simp only [st__law_mixed_1]
  have hc1 := comp_a (P := pd.P) (cf := callN pd.P M) (own := [9]) (p := .v 9) (elt := el__law_mixed_0) (φ := fun (k : Nat) => D.int k) (rs := []) (s := .rng none (some (.q (.var 0))) none) (e := [.br (.int (l : Int)), .br (.lst t (NL row)), .br (.lst t2 (NL keys)), .me (.int (ex : Int)), .no, .no, .no, .no, .no, .no]) (List.range l) (fun k => .int (k : Nat)) (range_src (n := l) (by simp) (by omega)) (by simp; omega) (fun k hk => by
    simp [lock, lockS, wipe, el__law_mixed_0])
  have hc2 := comp_a (P := pd.P) (cf := callN pd.P M) (own := [9]) (p := .v 9) (elt := el__law_mixed_1) (φ := fun (k : Nat) => D.int k) (rs := []) (s := .rng none (some (.q (.var 3))) none) (e := [.br (.int (l : Int)), .br (.lst t (NL row)), .br (.lst t2 (NL keys)), .me (.int (ex : Int)), .no, .no, .no, .no, .no, .no]) (List.range ex) (fun k => .int (keys.getD (1 + k) 0 % (l + 1) : Nat)) (range_src (n := ex) (by simp) (by omega)) (by simp; omega) (fun k hk => by
    rw [List.mem_range] at hk
    have g := gk (1 + k) (by omega)
    have m : binD .Mod (.int (keys.getD (1 + k) 0 : Nat)) (.int ((l : Int) + 1)) = some (.int (keys.getD (1 + k) 0 % (l + 1) : Nat)) := modN (b := l + 1) (by omega)
    generalize keys.getD (1 + k) 0 = y at g m
    generalize y % (l + 1) = z at m
    have e : (1 : Int) + (k : Int) = ((1 + k : Nat) : Int) := by omega
    simp [lock, lockS, wipe, el__law_mixed_1, e, g, m, -Int.natCast_add])
  rw [L_map] at hc1 hc2
  generalize hA : (List.range l).map (fun k => k) = As at hc1
  generalize hB : (List.range ex).map (fun k => keys.getD (1 + k) 0 % (l + 1)) = Bs at hc2
  have hAl : As.length = l := by rw [← hA]; simp
  have hBl : Bs.length = ex := by rw [← hB]; simp
  generalize hsrc : As ++ Bs = sr
  have hsl : sr.length = l + ex := by rw [← hsrc]; simp [hAl, hBl]
  have hsm : ∀ m, m < l → sr.getD m 0 = m := fun m hm => by
    rw [← hsrc, List.getD_eq_getElem?_getD, List.getElem?_append_left (by omega), ← hA]
    simp [hm]
  have hsb : ∀ m, m < l + ex → (NL sr)[m]? = some (.int (sr.getD m 0 : Nat)) := fun m hm => getD_at (by omega)
  have had : binD .Add (.lst .own (NL As)) (.lst .own (NL Bs)) = some (.lst .own (NL sr)) := by rw [bin_addN (by simp) (by simp) (by omega), hsrc]
  simp [hc1, hc2, had]
  simp only [st__law_mixed_2]
  have hc3 := comp_a (P := pd.P) (cf := callN pd.P M) (own := [9]) (p := .v 9) (elt := el__law_mixed_2) (φ := fun (k : Nat) => D.int k) (rs := []) (s := .rng none (some (.q (.bi "len" [(.var 4)]))) none) (e := [.br (.int (l : Int)), .br (.lst t (NL row)), .br (.lst t2 (NL keys)), .me (.int (ex : Int)), .me (.lst .fro (NL sr)), .no, .no, .no, .no, .no]) (List.range (l + ex)) (fun k => .int (keys.getD (5 + k) 0 * 64 + k : Nat)) (range_src (n := l + ex) (by simp [hsl]) (by omega)) (by simp; omega) (fun k hk => by
    rw [List.mem_range] at hk
    have g := gk (5 + k) (by omega)
    have b := bk (5 + k)
    have m := mulN (a := keys.getD (5 + k) 0) (b := 64) (by omega)
    generalize keys.getD (5 + k) 0 = y at g m
    have e : (5 : Int) + (k : Int) = ((5 + k : Nat) : Int) := by omega
    have m' : binD .Mult (.int (y : Int)) (.int 64) = some (.int (y * 64 : Nat)) := m
    generalize y * 64 = z at m'
    simp [lock, lockS, wipe, el__law_mixed_2, e, g, m', -Int.natCast_add]
    omega)
  rw [L_map] at hc3
  generalize hord : (List.range (l + ex)).map (fun k => keys.getD (5 + k) 0 * 64 + k) = ord at hc3
  obtain ⟨r, hs1, hs2, hs3⟩ := sort_N (t := .fro) (xs := ord)
  rw [← hord] at hs2
  have hrl : r.length = l + ex := by rw [hs2.length_eq]; simp
  have hr1 := fun k hk => ord_lt (f := fun k => keys.getD (5 + k) 0) hs2 (by omega) (k := k) hk
  have hr2 := fun m hm => ord_at (f := fun k => keys.getD (5 + k) 0) hs2 (by omega) (m := m) hm
  simp [hc3, hs1, st__law_mixed_3, fits]
  simp only [st__law_mixed_4]
  generalize hS : (fun k => sr.getD (r.getD k 0 % 64) 0) = S
  generalize hC : (fun k => keys.getD (5 + k) 0 / 7) = C
  have hSm : ∀ m, m < l → ∃ k, k < l + ex ∧ S k = m := fun m hm => by
    obtain ⟨k, h1, h2⟩ := hr2 m (by omega)
    refine ⟨k, h1, ?_⟩
    rw [← hS]
    show sr.getD (r.getD k 0 % 64) 0 = m
    rw [h2, hsm m hm]
  refine wp_for (NL row) [1] [6, 7, 8, 9] (fun i ss => ∃ s7 s8 s9, ss = [.me (.lst .own (NL ((row.take i).map fun x => numb (mxw (l + ex) S C x)))), s7, s8, s9] ∧ fre s7 = true ∧ fre s8 = true ∧ fre s9 = true) (fun _ => False)
    (itq_src rfl rfl) rfl rfl rfl rfl ⟨.no, .no, .no, rfl, rfl, rfl, rfl⟩ ?_ ?_ ?_
  · rintro ss (⟨s7, s8, s9, rfl, f7, f8, f9⟩ | h)
    · simp [f7]
    · exact h.elim
  · rintro i x ss K2 hx ⟨s7, s8, s9, rfl, f7, f8, f9⟩ hK2
    obtain ⟨x, hxr, rfl⟩ := map_at hx
    have hir := (List.getElem?_eq_some_iff.mp hxr).1
    have htk : (row.take (i + 1)).map (fun x => numb (mxw (l + ex) S C x)) = (row.take i).map (fun x => numb (mxw (l + ex) S C x)) ++ [numb (mxw (l + ex) S C x)] := by
      rw [List.take_add_one, hxr]; simp
    have hfl : ((row.take i).map (fun x => numb (mxw (l + ex) S C x))).length = i := by simp; omega
    generalize (row.take i).map (fun x => numb (mxw (l + ex) S C x)) = fd at htk hfl
    simp [forB_eq, lp__law_mixed_1, fre_opn f7, fre_opn f8, -exec_for']
    refine wp_for ((List.range (l + ex)).map fun (k : Nat) => D.int k) [] [8, 9] (fun k ss => ∃ s9, ss = [.me (.int (numb ((mxw (l + ex) S C x).take k) : Nat)), s9] ∧ fre s9 = true) (fun _ => False)
      (range_src (n := l + ex) (by simp [hrl]) (by omega)) rfl rfl (by simp [fre_nlk f9]) rfl ⟨_, rfl, f9⟩ ?_ ?_ ?_
    · rintro ss (⟨s9, rfl, f9⟩ | h)
      · simp [f9]
      · exact h.elim
    · rintro k y ss K3 hy ⟨s9, rfl, f9⟩ hK3
      obtain ⟨rfl, hk3⟩ := range_get hy
      have a1 := mxw_take (S := S) (c := C) (x := x) hk3
      generalize numb ((mxw (l + ex) S C x).take k) = m0 at a1
      generalize hm1 : numb ((mxw (l + ex) S C x).take (k + 1)) = m1 at a1
      have gr : (NL r)[k]? = some (.int (r.getD k 0 : Nat)) := getD_at (by omega)
      have a2 := hr1 k hk3
      have a3 := modN (a := r.getD k 0) (b := 64) (by omega)
      have a4 : S k = sr.getD (r.getD k 0 % 64) 0 := by rw [← hS]
      have a5 := hsb _ a2
      have a6 := gk (5 + k) (by omega)
      have a7 : C k = keys.getD (5 + k) 0 / 7 := by rw [← hC]
      have a8 := divN (a := keys.getD (5 + k) 0) (b := 7) (by omega) (by omega)
      rw [← a4] at a5
      rw [← a7] at a8
      generalize keys.getD (5 + k) 0 = ky at a6 a8
      generalize r.getD k 0 % 64 = rm at a3 a5
      generalize r.getD k 0 = rv at gr a3
      generalize S k = sv at a5 a1
      generalize C k = cv at a8 a1
      have a9 := modN (a := nsr x sv + cv) (b := 2) (by omega)
      generalize hbt : (nsr x sv + cv) % 2 = bv at a9 a1
      have a10 : binD .Mult (.int (m0 : Int)) (.int 2) = some (.int (m0 * 2 : Nat)) := by
        rw [bin_mulI (.inr (by omega))]; congr 2
      have a11 : ((m0 * 2 : Nat) : Int) + (bv : Int) = (m1 : Int) := by omega
      generalize m0 * 2 = m2 at a10 a11
      have a12 : (5 : Int) + (k : Int) = ((5 + k : Nat) : Int) := by omega
      have a13 : ((nsr x sv : Nat) : Int) + (cv : Int) = ((nsr x sv + cv : Nat) : Int) := by omega
      generalize nsr x sv + cv = nc at a9 a13
      have a3' : binD .Mod (.int (rv : Int)) (.int 64) = some (.int (rm : Int)) := a3
      have a8' : binD .FloorDiv (.int (ky : Int)) (.int 7) = some (.int (cv : Int)) := a8
      have a9' : binD .Mod (.int (nc : Int)) (.int 2) = some (.int (bv : Int)) := a9
      simp [forB_eq, lp__law_mixed_0, fre_opn f9, gr, a3', a5, a12, a6, a8', a13, a9', a10, a11, -Int.natCast_add]
      refine lq_nx hK3 rfl ⟨.me (.int k), ?_, rfl⟩
      simp [gets, hm1]
    · rintro ss (⟨s9, rfl, f9⟩ | h)
      · rw [List.length_map, List.length_range, List.take_of_length_le (by rw [mxw_len]; omega)]
        generalize numb (mxw (l + ex) S C x) = fx at htk
        have hsz : fd.length < 16777216 := by omega
        simp [hsz, app_N]
        exact lq_nx hK2 rfl ⟨.me (.int x), .me (.int fx), s9, by simp [gets, htk], rfl, rfl, f9⟩
      · exact h.elim
  · rintro ss (⟨s7, s8, s9, rfl, f7, f8, f9⟩ | h)
    · rw [NL_len, List.take_length]
      obtain ⟨xs, x1, x2, x3⟩ := sort_N (t := .own) (xs := row.map fun x => numb (mxw (l + ex) S C x))
      have hnd : (row.map fun x => numb (mxw (l + ex) S C x)).Nodup := by
        unfold List.Nodup
        rw [List.pairwise_map]
        exact hD.nod.imp_of_mem fun {a b} ha hb hab h => hab (mxw_inj hSm (hD.lt a ha) (hD.lt b hb) h)
      simp [st__law_mixed_5, x1, hrl, fits]
      refine fq_rt hK (by simp [outs_all, isBr]) ⟨l + ex, xs, ⟨asc_of x3 (x2.nodup_iff.mpr hnd), fun n hn => ?_, ?_, ?_⟩, by omega, ?_⟩
      · obtain ⟨y, _, rfl⟩ := List.mem_map.mp (x2.mem_iff.mp hn)
        have := numb_lt (mxw_bits (n := l + ex) (S := S) (c := C) (x := y))
        rwa [mxw_len] at this
      · rw [x2.length_eq]; simpa using h1
      · rw [x2.length_eq]; simpa using h40
      · simp
    · exact h.elim
end Law_k21

set_option Elab.async false
set_option linter.all false
set_option maxRecDepth 100000
set_option maxHeartbeats 1000000
namespace Law_k21
open Wv Wm
open PySem (Str Operator UnaryOp CmpOp)
theorem len8 {ps : List Nat} (h : ps.length = 8) : ∃ a b c d e f g i, ps = [a, b, c, d, e, f, g, i] := by
  match ps, h with
  | [a, b, c, d, e, f, g, i], _ => exact ⟨a, b, c, d, e, f, g, i, rfl⟩
theorem Dr.rw {L m : Nat} {xs : List Nat} (h : Dr L m xs) (hm : m ≤ 40) : Rw L xs := ⟨h.asc, h.lt, h.pos, Nat.le_trans h.len hm⟩
theorem setD_1 {x : D} {y z : D} : setD (.lst .own [x, y]) (.int 1) z = some (.lst .own [x, z]) := by
  rfl
theorem c_law_bag {N : Nat} {ns : List Int} (hN : 6 ≤ N) :
    ∃ (L : Nat) (xs : List Nat) (t : Tg), (t = .own ∨ t = .fro) ∧ Rw L xs ∧ L ≤ 39 ∧ callN pd.P N "_law_bag" [.br (.lst .scr (ns.map .int))] = .ok (.lst .own [.int (L : Nat), .lst t (NL xs)]) [] := by
  refine go (f := "_law_bag") (k := 5) (R := fun r' => ∃ (L : Nat) (xs : List Nat) (t : Tg), (t = .own ∨ t = .fro) ∧ Rw L xs ∧ L ≤ 39 ∧ r' = .ok (.lst .own [.int (L : Nat), .lst t (NL xs)]) []) hN (by rfl) ⟨rfl, rfl⟩ fun M K hM hK => ?_
  show WP (execs _ _ _ [.br (.lst .scr (ns.map .int)), .no, .no, .no, .no, .no, .no, .no]) _
  obtain ⟨ps, p1, p2, p3⟩ := c_rowN (N := M) (m := 8) (ns := ns) (a := 0) (limit := 1009) (by omega) (by omega) (by omega) (by omega)
  obtain ⟨a, b, c, d, e, f, g, i, rfl⟩ := len8 p1
  clear p1 p2
  have g0 : NL [a, b, c, d, e, f, g, i] = [.int (a : Nat), .int (b : Nat), .int (c : Nat), .int (d : Nat), .int (e : Nat), .int (f : Nat), .int (g : Nat), .int (i : Nat)] := rfl
  rw [g0] at p3
  have p3' : callN pd.P M "_law_row" [.br (.lst .scr (ns.map .int)), .br (.int 0), .br (.int 8), .br (.int 1009)] = _ := p3
  obtain ⟨kd, hkd, hk8⟩ : ∃ p : Nat, binD .Mod (.int (a : Int)) (.int 8) = some (.int (p : Int)) ∧ p < 8 := ⟨a % 8, modN (b := 8) (by omega), Nat.mod_lt _ (by omega)⟩
  obtain ⟨l0, hl0, hl6⟩ : ∃ p : Nat, binD .Mod (.int (b : Int)) (.int 6) = some (.int (p : Int)) ∧ p < 6 := ⟨b % 6, modN (b := 6) (by omega), Nat.mod_lt _ (by omega)⟩
  have e1 : (1 : Int) + (l0 : Int) = ((1 + l0 : Nat) : Int) := by omega
  generalize hl : 1 + l0 = l at e1
  simp only [f__law_bag, execs_cons', execs_nil']
  simp [st__law_bag_0, st__law_bag_1, st__law_bag_2, ev_callC, p3', hkd, hl0, e1, fits]
  by_cases hA : kd < 2
  · have hA' : (kd : Int) < 2 := by omega
    obtain ⟨m, hm, hm10⟩ : ∃ p : Nat, binD .Mod (.int (c : Int)) (.int 10) = some (.int (p : Int)) ∧ p < 10 := ⟨c % 10, modN (b := 10) (by omega), Nat.mod_lt _ (by omega)⟩
    have e2 : (1 : Int) + (m : Int) = ((1 + m : Nat) : Int) := by omega
    obtain ⟨xs, x1, x2⟩ := c_law_drawn (N := M) (m := 1 + m) (L := l) (ns := ns) (a := 1) (by omega) (by omega) (by omega)
    rw [← e2] at x2
    have x2' : callN pd.P M "_law_drawn" [.br (.lst .scr (ns.map .int)), .br (.int 1), .br (.int (1 + (m : Int))), .br (.int (l : Int))] = _ := x2
    simp [st__law_bag_3, hA, hA', hm, ev_callC, x2', fits]
    exact fq_rt hK (by simp [outs_all, isBr]) ⟨l, xs, .fro, .inr rfl, x1.rw (by omega), by omega, rfl⟩
  have hA' : ¬ (kd : Int) < 2 := by omega
  simp [st__law_bag_3, hA, hA']
  by_cases hB : kd = 2
  · subst hB
    obtain ⟨m, hm, hm10⟩ : ∃ p : Nat, binD .Mod (.int (c : Int)) (.int 40) = some (.int (p : Int)) ∧ p < 40 := ⟨c % 40, modN (b := 40) (by omega), Nat.mod_lt _ (by omega)⟩
    obtain ⟨lb, hlb, hlb40⟩ : ∃ p : Nat, binD .Mod (.int (b : Int)) (.int 40) = some (.int (p : Int)) ∧ p < 40 := ⟨b % 40, modN (b := 40) (by omega), Nat.mod_lt _ (by omega)⟩
    obtain ⟨d4, hd4, hd44⟩ : ∃ p : Nat, binD .Mod (.int (d : Int)) (.int 4) = some (.int (p : Int)) ∧ p < 4 := ⟨d % 4, modN (b := 4) (by omega), Nat.mod_lt _ (by omega)⟩
    have e2 : (1 : Int) + (m : Int) = ((1 + m : Nat) : Int) := by omega
    have hL : ∃ L : Nat, L ≤ 39 ∧ [D.int (lb : Int), .int 39, .int 0, .int 1][d4]? = some (.int (L : Int)) := by
      have : d4 = 0 ∨ d4 = 1 ∨ d4 = 2 ∨ d4 = 3 := by omega
      rcases this with rfl | rfl | rfl | rfl
      · exact ⟨lb, by omega, rfl⟩
      · exact ⟨39, by omega, rfl⟩
      · exact ⟨0, by omega, rfl⟩
      · exact ⟨1, by omega, rfl⟩
    obtain ⟨L, hL39, hL⟩ := hL
    obtain ⟨xs, x1, x2⟩ := c_law_drawn (N := M) (m := 1 + m) (L := L) (ns := ns) (a := 1) (by omega) (by omega) (by omega)
    rw [← e2] at x2
    have x2' : callN pd.P M "_law_drawn" [.br (.lst .scr (ns.map .int)), .br (.int 1), .br (.int (1 + (m : Int))), .br (.int (L : Int))] = _ := x2
    simp [st__law_bag_4, hm, hlb, hd4, hL, ev_callC, x2', fits]
    exact fq_rt hK (by simp [outs_all, isBr]) ⟨L, xs, .fro, .inr rfl, x1.rw (by omega), by omega, rfl⟩
  have hB' : ¬ (kd : Int) = 2 := by omega
  simp [st__law_bag_4, hB, hB']
  refine wp_cut [4, 5, 6] (fun ss => ∃ (s4 s5 : Slot) (L : Nat) (xs : List Nat) (t : Tg), ss = [s4, s5, .me (.lst .own [.int (L : Int), .lst t (NL xs)])] ∧ (t = .own ∨ t = .fro) ∧ Rw L xs ∧ L ≤ 39) (fun K2 hK2 => ?_) ?_
  · by_cases hC : kd < 5
    · have hC' : (kd : Int) < 5 := by omega
      obtain ⟨m, hm, hm10⟩ : ∃ p : Nat, binD .Mod (.int (c : Int)) (.int 5) = some (.int (p : Int)) ∧ p < 5 := ⟨c % 5, modN (b := 5) (by omega), Nat.mod_lt _ (by omega)⟩
      have e2 : (2 : Int) + (m : Int) = ((2 + m : Nat) : Int) := by omega
      obtain ⟨xs, x1, x2⟩ := c_law_drawn (N := M) (m := 2 + m) (L := l + 1) (ns := ns) (a := 1) (by omega) (by omega) (by omega)
      have x2' : callN pd.P M "_law_drawn" [.br (.lst .scr (ns.map .int)), .br (.int 1), .br (.int (2 + (m : Int))), .br (.int ((l : Int) + 1))] = .ok (.lst .own (NL xs)) [] := by rw [e2]; exact x2
      have xl := x1.len
      obtain ⟨ys, y1, y2, y3, y4⟩ := c_closure (N := M) (L := l + 1) (t := .fro) (row := xs) (by omega) (x1.asc.imp fun h => Nat.ne_of_lt h) x1.lt (by omega)
      by_cases hy : ys.length ≤ 40
      · have hy' : (ys.length : Int) ≤ 40 := by omega
        simp [st__law_bag_5, hC, hC', hm, ev_callC, x2', y4, hy, hy', fits]
        refine cq_nx hK2 rfl ⟨_, _, l + 1, ys, .fro, by simp [gets]; exact ⟨rfl, rfl⟩, .inr rfl, ⟨y1, y2, by have := x1.pos; omega, hy⟩, by omega⟩
      · have hy' : ¬ (ys.length : Int) ≤ 40 := by omega
        simp [st__law_bag_5, hC, hC', hm, ev_callC, x2', y4, hy, hy', fits]
        refine cq_nx hK2 rfl ⟨_, _, l + 1, xs, .fro, by simp [gets]; exact ⟨rfl, rfl⟩, .inr rfl, x1.rw (by omega), by omega⟩
    · have hC' : ¬ (kd : Int) < 5 := by omega
      obtain ⟨L0, row, h1, h2, h3, h4, h5⟩ := c_grid (N := M) (a := b) (b := c) (c := d) (d := e) (t := .fro) (by omega)
      have h5' : callN pd.P M "_law_grid" [.br (.lst .fro [.int (b : Nat), .int (c : Nat), .int (d : Nat), .int (e : Nat)])] = .ok (.lst .own [.int (L0 : Nat), .lst .fro (NL row)]) [] := h5
      have hcut : cut [D.int (a : Nat), .int (b : Nat), .int (c : Nat), .int (d : Nat), .int (e : Nat), .int (f : Nat), .int (g : Nat), .int (i : Nat)] (some 1) (some 5) = [.int (b : Nat), .int (c : Nat), .int (d : Nat), .int (e : Nat)] := rfl
      obtain ⟨ks, k1, k2, k3⟩ := c_rowN (N := M) (m := 44) (ns := ns) (a := 1) (limit := 1009) (by omega) (by omega) (by omega) (by omega)
      have k3' : callN pd.P M "_law_row" [.br (.lst .scr (ns.map .int)), .br (.int 1), .br (.int 44), .br (.int 1009)] = .ok (.lst .own (NL ks)) [] := k3
      obtain ⟨L, xs, x1, x2, x3⟩ := c_mixed (N := M) (l := L0) (t := .fro) (t2 := .own) (row := row) (keys := ks) (by omega) h2 h1 h3 h4 k1 k2
      simp [st__law_bag_5, hC, hC', ev_callC, h5', k3', x3, hcut, fits]
      refine cq_nx hK2 rfl ⟨_, _, L, xs, .own, by simp [gets]; exact ⟨rfl, rfl⟩, .inl rfl, x1, x2⟩
  · rintro ss ⟨s4, s5, L, xs, t, rfl, ht, hR, hL⟩
    simp only [puts_cons, puts_nil, List.set_cons_succ, List.set_cons_zero]
    refine wp_cut [6, 7] (fun ss => ∃ (s7 : Slot) (xs : List Nat) (t : Tg), ss = [.me (.lst .own [.int (L : Int), .lst t (NL xs)]), s7] ∧ (t = .own ∨ t = .fro) ∧ Rw L xs) (fun K2 hK2 => ?_) ?_
    · obtain ⟨m, hm⟩ : ∃ p : Nat, binD .Mod (.int (f : Int)) (.int 3) = some (.int (p : Int)) := ⟨f % 3, modN (b := 3) (by omega)⟩
      by_cases h0 : m = 0
      · subst h0
        obtain ⟨ys, y1, y2⟩ := c_law_drawn (N := M) (m := 1) (L := L) (ns := ns) (a := 2) (by omega) (by omega) (by omega)
        have y2' : callN pd.P M "_law_drawn" [.br (.lst .scr (ns.map .int)), .br (.int 2), .br (.int 1), .br (.int (L : Int))] = .ok (.lst .own (NL ys)) [] := y2
        have y3 := y1.pos
        obtain ⟨y, ys', rfl⟩ : ∃ y ys', ys = y :: ys' := by cases ys with
          | nil => simp at y3
          | cons y ys' => exact ⟨y, ys', rfl⟩
        have hyl := y1.lt y (by simp)
        have hn := nin_L (t := t) (n := y) (is := xs)
        have hx : (NL (y :: ys')) = .int (y : Int) :: NL ys' := rfl
        have hst : ∀ t : Tg, (t = .own ∨ t = .fro) → True := fun _ _ => trivial
        by_cases hin : y ∈ xs
        · rw [decide_eq_true hin] at hn
          simp [st__law_bag_6, hm, ev_callC, y2', hx, hn]
          exact cq_nx hK2 rfl ⟨_, xs, t, by simp [gets]; rfl, ht, hR⟩
        · rw [decide_eq_false hin] at hn
          by_cases h40 : xs.length < 40
          · have h40' : (xs.length : Int) < 40 := by omega
            obtain ⟨r, r1, r2, r3⟩ := sort_N (t := .fro) (xs := xs ++ [y])
            have hadd : binD .Add (.lst t (NL xs)) (.lst .fro [.int (y : Int)]) = some (.lst .own (NL (xs ++ [y]))) := by
              exact bin_addN (ys := [y]) (by rcases ht with rfl | rfl <;> simp) (by simp) (by simp; omega)
            simp [st__law_bag_6, hm, ev_callC, y2', hx, hn, h40, h40', hadd, r1, fits, updS, updAt, setD_1]
            refine cq_nx hK2 rfl ⟨_, r, .own, by simp [gets]; rfl, .inl rfl, ⟨asc_of r3 (r2.nodup_iff.mpr ?_), ?_, ?_, ?_⟩⟩
            · rw [List.nodup_append]
              refine ⟨hR.asc.imp fun h => Nat.ne_of_lt h, by simp, ?_⟩
              intro a ha b hb
              rw [List.mem_singleton] at hb
              subst hb
              rintro rfl
              exact hin ha
            · intro n hn
              have := r2.mem_iff.mp hn
              rcases List.mem_append.mp this with h | h
              · exact hR.lt n h
              · rw [List.mem_singleton] at h; subst h; exact hyl
            · rw [r2.length_eq]; simp
            · rw [r2.length_eq]; simp; omega
          · have h40' : ¬ (xs.length : Int) < 40 := by omega
            simp [st__law_bag_6, hm, ev_callC, y2', hx, hn, h40, h40']
            exact cq_nx hK2 rfl ⟨_, xs, t, by simp [gets]; rfl, ht, hR⟩
      · have h0' : ¬ (m : Int) = 0 := by omega
        simp [st__law_bag_6, hm, h0, h0']
        exact cq_nx hK2 rfl ⟨_, xs, t, by simp [gets]; rfl, ht, hR⟩
    · rintro ss ⟨s7, xs, t, rfl, ht, hR⟩
      simp [st__law_bag_7]
      exact fq_rt hK (by simp [outs_all, isBr]) ⟨L, xs, t, ht, hR, hL, rfl⟩
end Law_k21

set_option Elab.async false
set_option linter.all false
set_option maxRecDepth 100000
set_option maxHeartbeats 1000000
namespace Law_k21
open Wv Wm
open PySem (Str Operator UnaryOp CmpOp)
theorem WN_froz {w : List Nat} : (WN w).froz = WN w := by
  show D.tup (frozs (NL w)) = _
  rw [NL_froz]; rfl
theorem WN_plain {w : List Nat} : (WN w).plain = true := by show plains (NL w) = true; exact pl_L
theorem dps_leW {n : Nat} {xs : List D} (h : ∀ x ∈ xs, x.dp ≤ n) : dps xs ≤ n := by
  induction xs with
  | nil => simp [dps]
  | cons x xs ih =>
    have := h x (by simp)
    have := ih fun y hy => h y (by simp [hy])
    simp only [dps]; omega
theorem NL_dps {w : List Nat} : dps (NL w) ≤ 0 := dps_leW fun x hx => by obtain ⟨i, _, rfl⟩ := List.mem_map.mp hx; exact Nat.le_refl 0
theorem WN_dp {w : List Nat} : (WN w).dp ≤ 1 := by
  have := NL_dps (w := w)
  show dps (NL w) + 1 ≤ 1
  omega
theorem cmp_neSelf {d : D} (h : d.plain = true) (h2 : d.dp ≤ 60) : cmpD .NotEq d d = some false := by
  have := cmp_eqSelf h h2
  show (eqD d d).map (fun x => !x) = some false
  rw [show eqD d d = some true from this]; rfl
theorem c_told {N L : Nat} {ns : List Nat} {named : Bool} {t : Tg} (hN : 5 ≤ N) (ht : t ≠ .own) (h : Rw L ns) : ∃ r, First ns r ∧ callN pd.P N "_law_told" [.br (WD t L ns), .br (.bl named)] = .ok (.lst .own (match r with
    | none => [.int 1]
    | some p => [.int 0, plw L ns p])) [] := by
  refine go (f := "_law_told") (k := 4) (R := fun r' => ∃ r, First ns r ∧ r' = .ok (.lst .own (match r with
    | none => [.int 1]
    | some p => [.int 0, plw L ns p])) []) hN (by rfl) ⟨rfl, rfl⟩ fun M K hM hK => ?_
  show WP (execs _ _ _ [.br (WD t L ns), .br (.bl named), .no, .no]) _
  obtain ⟨r, h1, h2⟩ := c_wrong (N := M) (t := t) (by omega) ht h
  have k1 : picks (cfg pd.P (callN pd.P M)) "wrong_words" ["words"] [Slot.br (WD t L ns)] = some [.br (WD t L ns)] := rfl
  have q3 : cmpD .NotEq (.str (Str.ofString "words")) (.str (Str.ofString "words")) = some false := by kernel_rfl
  have sE : (WD t L ns).stb = true := by
    have := stbs_W (L := L) (ns := ns)
    cases t <;> simp [D.stb, this] <;> exact absurd rfl ht
  have sW : ∀ v, (WN (wd L v)).stb = true := fun v => WN_stb
  generalize WD t L ns = E at h2 k1 sE
  cases r with
  | none =>
    simp only at h2
    cases named <;> simp [f__law_told, ev_callC, ev_callK, k1, h2, handle, xiD, xfD, fld, isiD, isiB, q3, fits, sE] <;> exact fq_rt hK (by simp [outs_all, isBr]) ⟨none, h1, rfl⟩
  | some p =>
    simp only at h2
    have sP : (plw L ns p).stb = true := by simp [plw, sW]
    generalize hpl : plw L ns p = P at h2 sP
    cases named <;> simp [f__law_told, ev_callC, ev_callK, k1, h2, fits, sE, sP] <;> exact fq_rt hK (by simp [outs_all, isBr]) ⟨some p, h1, by rw [← hpl]⟩
theorem c_right {N L : Nat} {ns : List Nat} {named : Bool} {r : Option (Nat × Nat × Nat)} {t : Tg} (hN : 6 ≤ N) (hL : L ≤ 39) (h : Rw L ns) (hr : First ns r) :
    callN pd.P N "_law_right" [.br (WD .fro L ns), .br (.int (L : Int)), .br (.lst t (NL (trp ns r))), .br (.bl named)] = .ok (.bl true) [] := by
  refine go (f := "_law_right") (k := 5) (R := fun r => r = .ok (.bl true) []) hN (by rfl) ⟨rfl, rfl⟩ fun M K hM hK => ?_
  show WP (execs _ _ _ [.br (WD .fro L ns), .br (.int (L : Int)), .br (.lst t (NL (trp ns r))), .br (.bl named), .no, .no, .no, .no]) _
  obtain ⟨r', h1, h2⟩ := c_told (N := M) (t := .fro) (named := named) (by omega) (by simp) h
  obtain rfl := First.uniq hr h1
  have sE : (WD .fro L ns).stb = true := by
    have := stbs_W (L := L) (ns := ns)
    simp [D.stb, this]
  have sW : ∀ v, (WN (wd L v)).stb = true := fun v => WN_stb
  have fW : ∀ v, (WN (wd L v)).froz = WN (wd L v) := fun v => WN_froz
  generalize WD .fro L ns = E at h2 sE
  simp only [f__law_right, execs_cons', execs_nil']
  cases r with
  | none =>
    have e1 : cmpD .Eq (.lst .fro [.int 1]) (.lst .fro [.int 1]) = some true := by kernel_rfl
    have e2 : cmpD .Eq (.lst t []) (.lst .fro []) = some true := by cases t <;> kernel_rfl
    simp only at h2
    simp [st__law_right_0, st__law_right_1, ev_callC, h2, e1, e2, fits, sE, trp, NL]
    exact fq_rt hK (by simp [outs_all, isBr]) rfl
  | some p =>
    obtain ⟨i, j, k⟩ := p
    simp only at h2
    generalize ha : ns.getD i 0 = a
    generalize hb : ns.getD j 0 = b
    generalize hc : ns.getD k 0 = c
    have e2 : cmpD .Eq (.lst t [.int (a : Int), .int (b : Int), .int (c : Int)]) (.lst .fro []) = some false := by cases t <;> rfl
    have hpl : plw L ns (i, j, k) = .tup [WN (wd L a), WN (wd L b), WN (wd L c)] := by unfold plw; rw [← ha, ← hb, ← hc]
    have htr : NL (trp ns (some (i, j, k))) = [.int (a : Int), .int (b : Int), .int (c : Int)] := by show NL [ns.getD i 0, ns.getD j 0, ns.getD k 0] = _; rw [ha, hb, hc]; rfl
    rw [hpl] at h2
    have z0 : cmpD .NotEq (.int 0) (.int 0) = some false := by kernel_rfl
    simp [st__law_right_0, st__law_right_1, st__law_right_2, ev_callC, h2, e2, fits, sE, htr, sW, fW, isiD, isiB]
    simp only [st__law_right_3]
    refine wp_for ((List.range 3).map fun (k : Nat) => D.int k) [] [5, 6, 7] (fun i ss => ∃ s5 s6 s7, ss = [s5, s6, s7] ∧ fre s5 = true ∧ fre s6 = true ∧ fre s7 = true) (fun _ => False)
      (range_src (n := 3) (by simp) (by omega)) rfl rfl rfl rfl ⟨_, _, _, rfl, rfl, rfl, rfl⟩ ?_ ?_ ?_
    · rintro ss (⟨s5, s6, s7, rfl, f5, f6, f7⟩ | h)
      · simp [f5]
      · exact h.elim
    · rintro m x ss K2 hx ⟨s5, s6, s7, rfl, f5, f6, f7⟩ hK2
      obtain ⟨rfl, hm⟩ := range_get hx
      obtain ⟨v, g1, g2⟩ : ∃ v, [WN (wd L a), WN (wd L b), WN (wd L c)][m]? = some (WN (wd L v)) ∧ [D.int (a : Int), .int (b : Int), .int (c : Int)][m]? = some (.int (v : Int)) := by
        have : m = 0 ∨ m = 1 ∨ m = 2 := by omega
        rcases this with rfl | rfl | rfl
        · exact ⟨a, rfl, rfl⟩
        · exact ⟨b, rfl, rfl⟩
        · exact ⟨c, rfl, rfl⟩
      have q : callN pd.P M "_law_word" [.br (.int (v : Int)), .br (.int (L : Int))] = .ok (WN (wd L v)) [] := c_law_word (by omega) (by omega)
      have s1 := sW v
      have ne := cmp_neSelf (d := WN (wd L v)) WN_plain (by have := @WN_dp (wd L v); omega)
      have hit : items? (WN (wd L v)) = some (NL (wd L v)) := rfl
      have hln : biD "len" [WN (wd L v)] = some (.int (L : Int)) := by
        show some (D.int ((NL (wd L v)).length : Nat)) = _
        rw [NL_len, wd_len]
      have hti : isiD (cfg pd.P (callN pd.P M)) (WN (wd L v)) ["tuple"] = some true := by simp [WN, isiD, isiB]
      generalize WN (wd L v) = W at g1 q s1 ne hit hln hti
      simp [forB_eq, lp__law_right_1, fre_opn f5, fre_opn f6, g1, s1, hti, hln, -exec_for']
      refine wp_for (NL (wd L v)) [6] [7] (fun i ss => ∃ s7, ss = [s7] ∧ fre s7 = true) (fun _ => False)
        (itq_src (by simp) hit) (by simp [calm, s1]) rfl (by simp [fre_nlk f7]) rfl ⟨_, rfl, f7⟩ ?_ ?_ ?_
      · rintro ss (⟨s7, rfl, f7⟩ | h)
        · simp [f7]
        · exact h.elim
      · rintro u x ss K3 hx ⟨s7, rfl, f7⟩ hK3
        obtain ⟨n, hn, rfl⟩ := map_at hx
        simp [forB_eq, lp__law_right_0, fre_opn f7, isiD, isiB]
        exact lq_nx hK3 rfl ⟨_, rfl, rfl⟩
      · rintro ss (⟨s7, rfl, f7⟩ | h)
        · simp [ev_callC, g2, q, s1, ne]
          exact lq_nx hK2 rfl ⟨_, _, _, rfl, rfl, rfl, f7⟩
        · exact h.elim
    · rintro ss (⟨s5, s6, s7, rfl, f5, f6, f7⟩ | h)
      · simp [st__law_right_4]
        exact fq_rt hK (by simp [outs_all, isBr]) rfl
      · exact h.elim
theorem pl_W {L : Nat} {ns : List Nat} : plains (ns.map fun n => WN (wd L n)) = true := by
  induction ns with
  | nil => rfl
  | cons n ns ih => simp only [List.map_cons, plains, ih, WN_plain]; rfl
theorem c_kept {N L : Nat} {ns : List Nat} {t : Tg} (hN : 2 ≤ N) (hL : L ≤ 39) (h : Rw L ns) : callN pd.P N "_law_kept" [.br (WD .fro L ns), .br (.int (L : Int)), .br (.lst t (NL ns))] = .ok (.bl true) [] := by
  refine go (f := "_law_kept") (k := 1) (R := fun r => r = .ok (.bl true) []) hN (by rfl) ⟨rfl, rfl⟩ fun M K hM hK => ?_
  show WP (execs _ _ _ [.br (WD .fro L ns), .br (.int (L : Int)), .br (.lst t (NL ns)), .no]) _
  have hlen := h.len
  have hco := comp_a (P := pd.P) (cf := callN pd.P M) (own := [3]) (p := .v 3) (elt := el__law_kept_0) (φ := fun (k : Nat) => D.int k) (rs := [2]) (s := .itq (.var 2)) (e := [.br (WD .fro L ns), .br (.int (L : Int)), .br (.lst t (NL ns)), .no]) ns (fun n => WN (wd L n)) (itq_src rfl rfl) (by omega) (fun n hn => by
    have q : callN pd.P M "_law_word" [.br (.int (n : Int)), .br (.int (L : Int))] = .ok (WN (wd L n)) [] := c_law_word (by omega) (by omega)
    simp [lock, lockS, wipe, el__law_kept_0, ev_callC, q])
  have a1 : attrD (cfg pd.P (callN pd.P M)) (WD .fro L ns) "length" = _ := at_length
  have a2 : attrD (cfg pd.P (callN pd.P M)) (WD .fro L ns) "words" = _ := at_words
  have sW := stbs_W (L := L) (ns := ns)
  have sE : (WD .fro L ns).stb = true := by simp [D.stb, sW]
  have fW : frozs (ns.map fun n => WN (wd L n)) = ns.map fun n => WN (wd L n) := by rw [frozs_map]; simp only [List.map_map]; apply List.map_congr_left; intro n hn; exact WN_froz
  have pl := pl_W (L := L) (ns := ns)
  have dp := dps_leW (n := 1) (xs := ns.map fun n => WN (wd L n)) fun x hx => by obtain ⟨i, _, rfl⟩ := List.mem_map.mp hx; exact WN_dp
  have eq : cmpD .Eq (.tup (ns.map fun n => WN (wd L n))) (.tup (ns.map fun n => WN (wd L n))) = some true := cmp_eqSelf (by simp only [D.plain]; exact pl) (by simp only [D.dp]; omega)
  generalize WD .fro L ns = E at hco a1 a2 sE
  generalize (ns.map fun n => WN (wd L n)) = W at hco a1 a2 sE sW fW eq
  simp [f__law_kept, a1, a2, isiD, isiB, hco, sW, fW, eq]
  exact fq_rt hK (by simp [outs_all, isBr]) rfl
end Law_k21

set_option Elab.async false
set_option linter.all false
set_option maxRecDepth 100000
set_option maxHeartbeats 1000000
namespace Law_k21
open Wv Wm
open PySem (Str Operator UnaryOp CmpOp)
theorem eq_nilL {t t' : Tg} {rs : List Nat} : cmpD .Eq (.lst t (NL rs)) (.lst t' []) = some (decide (rs = [])) := by
  show eqD (.lst t (NL rs)) (.lst t' []) = _
  unfold eqD
  have h1 : (D.lst t (NL rs)).plain = true := by show plains (NL rs) = true; exact pl_L
  have h2 : (D.lst t' []).plain = true := rfl
  have h3 : min (D.lst t (NL rs)).dp (D.lst t' []).dp ≤ 60 := by
    have : (D.lst t' []).dp ≤ 1 := by simp [D.dp, dps]
    omega
  rw [h1, h2, decide_eq_true h3]
  simp only [Bool.and_self, if_true]
  cases rs with
  | nil => simp [eqB, eqBs, NL]
  | cons r rs => simp [eqB, eqBs, NL]
theorem cut_lo {xs : List Nat} {a : Nat} (h : a ≤ xs.length) : cut (NL xs) none (some (a : Int)) = NL (xs.take a) := by
  unfold cut sIx
  rw [NL_len]
  have h2 : ¬ ((a : Int) < 0) := by omega
  simp only [h2, if_false, Int.toNat_natCast, List.drop_zero, Nat.sub_zero]
  rw [Nat.min_eq_left h]
  unfold NL
  rw [List.map_take]
theorem cut_hi {xs : List Nat} {a : Nat} (h : a ≤ xs.length) : cut (NL xs) (some (a : Int)) none = NL (xs.drop a) := by
  unfold cut sIx
  rw [NL_len]
  have h2 : ¬ ((a : Int) < 0) := by omega
  simp only [h2, if_false, Int.toNat_natCast]
  rw [Nat.min_eq_left h]
  unfold NL
  rw [List.map_drop, List.take_of_length_le (by simp)]
theorem trp_nil {ns : List Nat} {r : Option (Nat × Nat × Nat)} : (trp ns r = []) ↔ r.isNone = true := by
  cases r with
  | none => simp [trp]
  | some p => obtain ⟨i, j, k⟩ := p; simp [trp]
theorem cmp_blNe {b : Bool} : cmpD .NotEq (.bl b) (.bl b) = some false := by cases b <;> kernel_rfl
theorem src_itq2 {G : Cfg} {q : Qx} {e : Env} : src G (.itq q) e = (match qv G q e with
    | some d => Res.of ((items? d).map fun ds => (ds, roots q)) e
    | none => .bad) := by simp only [src] <;> rfl
theorem c_asked {N : Nat} {ns : List Int} (hN : 8 ≤ N) : callN pd.P N "_law_asked" [.br (.lst .scr (ns.map .int))] = .ok (.bl true) [] := by
  refine go (f := "_law_asked") (k := 7) (R := fun r => r = .ok (.bl true) []) hN (by rfl) ⟨rfl, rfl⟩ fun M K hM hK => ?_
  show WP (execs _ _ _ [.br (.lst .scr (ns.map .int)), .no, .no, .no, .no, .no, .no, .no, .no, .no, .no, .no, .no]) _
  obtain ⟨L, xs, t, ht, hR, hL, q0⟩ := c_law_bag (N := M) (ns := ns) (by omega)
  obtain ⟨ps, p1, p2, p3⟩ := c_rowN (N := M) (m := 1) (ns := ns) (a := 3) (limit := 1009) (by omega) (by omega) (by omega) (by omega)
  obtain ⟨a, rfl⟩ : ∃ a, ps = [a] := by
    match ps, p1 with
    | [a], _ => exact ⟨a, rfl⟩
  have p3' : callN pd.P M "_law_row" [.br (.lst .scr (ns.map .int)), .br (.int 3), .br (.int 1), .br (.int 1009)] = .ok (.lst .own [.int (a : Int)]) [] := p3
  clear p1 p2 p3
  have hpos := hR.pos
  have hlen := hR.len
  obtain ⟨at_, hat, hatl⟩ : ∃ p : Nat, binD .Mod (.int (a : Int)) (.int (xs.length : Int)) = some (.int (p : Int)) ∧ p < xs.length := ⟨a % xs.length, modN (by omega), Nat.mod_lt _ (by omega)⟩
  have s0 : (D.lst .own [.int (L : Int), .lst t (NL xs)]).stb = false := rfl
  have f0 : (D.lst .own [.int (L : Int), .lst t (NL xs)]).froz = .lst .fro [.int (L : Int), .lst .fro (NL xs)] := by
    rcases ht with rfl | rfl <;> simp [D.froz, frozs]
  have c1 := cut_lo (xs := xs) (a := at_) (by omega)
  have c2 := cut_hi (xs := xs) (a := at_ + 1) (by omega)
  rw [show ((at_ + 1 : Nat) : Int) = (at_ : Int) + 1 by omega] at c2
  simp only [f__law_asked, execs_cons', execs_nil']
  generalize hrs : xs.take at_ ++ xs.drop (at_ + 1) = rs
  have hadd' : binD .Add (.lst .fro (NL (xs.take at_))) (.lst .fro (NL (xs.drop (at_ + 1)))) = some (.lst .own (NL rs)) := by rw [bin_addN (by simp) (by simp) (by simp; omega), hrs]
  simp [st__law_asked_0, st__law_asked_1, st__law_asked_2, ev_callC, q0, s0, f0, p3', hat, c1, c2, hadd', fits]
  have hrl : rs.length = xs.length - 1 := by rw [← hrs]; simp; omega
  have hra : rs.Pairwise (· < ·) := by
    rw [← hrs, ← List.eraseIdx_eq_take_drop_succ]
    exact hR.asc.sublist (List.eraseIdx_sublist ..)
  have hrm : ∀ n ∈ rs, n < 2 ^ L := fun n hn => by
    rw [← hrs, ← List.eraseIdx_eq_take_drop_succ] at hn
    exact hR.lt n ((List.eraseIdx_sublist ..).subset hn)
  refine wp_cut [4] (fun ss => ∃ rs : List Nat, ss = [.me (.lst .fro (NL rs))] ∧ Rw L rs) (fun K2 hK2 => ?_) ?_
  · have e1 := eq_nilL (t := .fro) (t' := .fro) (rs := rs)
    by_cases hnil : rs = []
    · rw [decide_eq_true hnil] at e1
      obtain ⟨x, hx⟩ : ∃ x, xs = [x] := by
        rw [hnil] at hrl
        match xs, hpos, hrl with
        | [x], _, _ => exact ⟨x, rfl⟩
      have hxl := hR.lt x (by rw [hx]; simp)
      have b1 := bin_shlN (k := L) (by omega)
      rw [nsh_pow] at b1
      have b2 : ((2 ^ L : Nat) : Int) - 1 - (x : Int) = ((2 ^ L - 1 - x : Nat) : Int) := by omega
      have b3 : 2 ^ L - 1 - x < 2 ^ L := by have := Nat.two_pow_pos L; omega
      generalize hP : 2 ^ L = P at b1 b2 b3
      generalize P - 1 - x = y at b2 b3
      have hx' : (NL xs)[0]? = some (.int (x : Int)) := by rw [hx]; rfl
      simp [st__law_asked_3, e1, b1, hx', b2, fits]
      exact cq_nx hK2 rfl ⟨[y], rfl, ⟨by simp, by simpa [hP] using b3, by simp, by simp⟩⟩
    · rw [decide_eq_false hnil] at e1
      simp [st__law_asked_3, e1, fits]

      exact cq_nx hK2 rfl ⟨rs, rfl, ⟨hra, hrm, List.length_pos_iff.mpr hnil, by omega⟩⟩
  clear hrl hra hrm hrs hadd'
  rintro ss ⟨rs, rfl, hS⟩
  have hlen2 := hS.len
  obtain ⟨r1, u1, v1⟩ := c_law_first (N := M) (t := .fro) (ns := xs) (by omega) (by omega)
  obtain ⟨r2, u2, v2⟩ := c_law_first (N := M) (t := .fro) (ns := rs) (by omega) (by omega)
  simp only [puts_cons, puts_nil, List.set_cons_succ, List.set_cons_zero]
  simp [st__law_asked_4, ev_callC, v1, v2, fits]
  simp only [st__law_asked_5]
  generalize hdue : D.lst .fro [.lst .fro (NL (trp xs r1)), .lst .fro (NL (trp rs r2))] = due
  have hds : due.stb = true := by rw [← hdue]; simp
  have hin : ∀ part : List Nat, Rw L part → ev (cfg pd.P (callN pd.P M)) (.comp [11] (.v 11) (.itq (.var 12)) [] el__law_asked_0) [.br (.lst .scr (ns.map .int)), .me (.int (L : Int)), .me (.lst .fro (NL xs)), .me (.int (at_ : Int)), .me (.lst .fro (NL rs)), .me due, .no, .no, .no, .no, .no, .no, .me (.lst .fro (NL part))] = .ok (.lst .own (part.map fun n => WN (wd L n))) [.br (.lst .scr (ns.map .int)), .me (.int (L : Int)), .me (.lst .fro (NL xs)), .me (.int (at_ : Int)), .me (.lst .fro (NL rs)), .me due, .no, .no, .no, .no, .no, .no, .me (.lst .fro (NL part))] := fun part hp => by
    have := hp.len
    exact comp_a (φ := fun (k : Nat) => D.int k) (rs := [12]) part (fun n => WN (wd L n)) (itq_src rfl rfl) (by omega) (fun n hn => by
      have q : callN pd.P M "_law_word" [.br (.int (n : Int)), .br (.int (L : Int))] = .ok (WN (wd L n)) [] := c_law_word (by omega) (by omega)
      simp [lock, lockS, wipe, el__law_asked_0, ev_callC, q])
  have hW : ∀ part : List Nat, (WD .own L part).froz = WD .fro L part := fun part => by
    have fW : frozs (part.map fun n => WN (wd L n)) = part.map fun n => WN (wd L n) := by rw [frozs_map]; simp only [List.map_map]; apply List.map_congr_left; intro n hn; exact WN_froz
    simp [D.froz, frozs, fW]
  have hWs : ∀ part : List Nat, (WD .fro L part).stb = true := fun part => by
    have := stbs_W (L := L) (ns := part)
    simp [D.stb, this]
  have hWf : ∀ part : List Nat, (WD .fro L part).froz = WD .fro L part := fun part => by
    have fW : frozs (part.map fun n => WN (wd L n)) = part.map fun n => WN (wd L n) := by rw [frozs_map]; simp only [List.map_map]; apply List.map_congr_left; intro n hn; exact WN_froz
    simp [D.froz, frozs, fW]
  have hsrc : src (cfg pd.P (callN pd.P M)) (.itq (.lst [.var 2, .var 4])) [.br (.lst .scr (ns.map .int)), .me (.int (L : Int)), .me (.lst .fro (NL xs)), .me (.int (at_ : Int)), .me (.lst .fro (NL rs)), .me due, .no, .no, .no, .no, .no, .no, .no] = .ok ([xs, rs].map (fun (part : List Nat) => D.lst .fro (NL part)), []) [.br (.lst .scr (ns.map .int)), .me (.int (L : Int)), .me (.lst .fro (NL xs)), .me (.int (at_ : Int)), .me (.lst .fro (NL rs)), .me due, .no, .no, .no, .no, .no, .no, .no] :=
    by
      refine itq_src (d := .lst .fro [.lst .fro (NL xs), .lst .fro (NL rs)]) ?_ rfl
      simp [fits]
  have hco := comp_a (P := pd.P) (cf := callN pd.P M) (own := [12]) (p := .v 12) (elt := el__law_asked_1) (φ := fun (part : List Nat) => D.lst .fro (NL part)) (rs := []) (s := .itq (.lst [.var 2, .var 4])) (e := [.br (.lst .scr (ns.map .int)), .me (.int (L : Int)), .me (.lst .fro (NL xs)), .me (.int (at_ : Int)), .me (.lst .fro (NL rs)), .me due, .no, .no, .no, .no, .no, .no, .no]) [xs, rs] (fun part => WD .fro L part) hsrc (by simp) (fun part hp => by
    have hpR : Rw L part := by
      simp only [List.mem_cons, List.not_mem_nil, or_false] at hp
      rcases hp with rfl | rfl
      · exact hR
      · exact hS
    have q : callN pd.P M "Words.__init__" [.mp (.obj .own "Words" [] []), .br (.int L), .br (.lst .own (part.map fun n => WN (wd L n)))] = .ok .non [WD .own L part] := c_words (by omega) hL hpR
    have z := hin part hpR
    have w := hW part
    generalize part.map (fun n => WN (wd L n)) = ws at z q
    generalize WD .own L part = E1 at q w
    simp [lock, lockS, wipe, el__law_asked_1, hds, z, evA, getS, muts, q, w])
  simp [hco, hWs, hWf]
  have hk1 : ∀ E, picks (cfg pd.P (callN pd.P M)) "is_closed" ["words"] [Slot.br E] = some [.br E] := fun E => rfl
  have hgo : ∀ k, k < 2 → ∃ v r, Rw L v ∧ First v r ∧ [WD .fro L xs, WD .fro L rs][k]? = some (WD .fro L v) ∧ [D.lst .fro (NL (trp xs r1)), .lst .fro (NL (trp rs r2))][k]? = some (.lst .fro (NL (trp v r))) := fun k hk => by
    have : k = 0 ∨ k = 1 := by omega
    rcases this with rfl | rfl
    · exact ⟨xs, r1, hR, u1, rfl, rfl⟩
    · exact ⟨rs, r2, hS, u2, rfl, rfl⟩
  have h71 := c_kept (N := M) (t := .fro) (by omega) hL hR
  have h72 := c_kept (N := M) (t := .fro) (by omega) hL hS
  have hE1 := hWs xs
  have hE2 := hWs rs
  subst hdue
  generalize hbags : [WD .fro L xs, WD .fro L rs] = bags at hgo
  have hbs : stbs bags = true := by rw [← hbags]; simp [hWs]
  simp only [st__law_asked_6]
  refine wp_for ((List.range 2).map fun (k : Nat) => D.int k) [] [7, 8, 9, 10] (fun i ss => ∃ s7 s8 s9 s10, ss = [s7, s8, s9, s10] ∧ fre s7 = true ∧ fre s8 = true ∧ fre s9 = true ∧ fre s10 = true) (fun _ => False)
    (range_src (n := 2) (by simp) (by omega)) rfl rfl rfl rfl ⟨_, _, _, _, rfl, rfl, rfl, rfl, rfl⟩ ?_ ?_ ?_
  · rintro ss (⟨s7, s8, s9, s10, rfl, f7, f8, f9, f10⟩ | h)
    · simp [f7]
    · exact h.elim
  · rintro turn x ss K2 hx ⟨s7, s8, s9, s10, rfl, f7, f8, f9, f10⟩ hK2
    obtain ⟨rfl, hturn⟩ := range_get hx
    simp only [puts_cons, puts_nil, List.set_cons_succ, List.set_cons_zero, forB_eq, lp__law_asked_3, execs_cons', execs_nil']
    simp [fre_opn f7, -exec_for']
    refine wp_for ((List.range 2).map fun (k : Nat) => D.int k) [] [8, 9, 10] (fun i ss => ∃ s8 s9 s10, ss = [s8, s9, s10] ∧ fre s8 = true ∧ fre s9 = true ∧ fre s10 = true) (fun _ => False)
      (range_src (n := 2) (by simp) (by omega)) rfl rfl (by simp [fre_nlk f8]) rfl ⟨_, _, _, rfl, f8, f9, f10⟩ ?_ ?_ ?_
    · rintro ss (⟨s8, s9, s10, rfl, f8, f9, f10⟩ | h)
      · simp [f8]
      · exact h.elim
    · rintro k x ss K3 hx ⟨s8, s9, s10, rfl, f8, f9, f10⟩ hK3
      obtain ⟨rfl, hk⟩ := range_get hx
      obtain ⟨v, r, w1, w2, w3, w4⟩ := hgo k hk
      obtain ⟨r', w5, w6⟩ := c_closed (N := M) (t := .fro) (by omega) (by simp) w1
      obtain rfl := First.uniq w2 w5
      have w7 := eq_nilL (t := .fro) (t' := .fro) (rs := trp v r)
      have w8 : decide (trp v r = []) = r.isNone := by
        have := @trp_nil v r
        cases h : r.isNone <;> simp_all
      rw [w8] at w7
      have w9 := @cmp_blNe r.isNone
      have w10 := hWs v
      generalize WD .fro L v = E at w3 w6 w10
      generalize NL (trp v r) = T at w4 w7
      generalize r.isNone = b at w6 w7 w9
      have kk : picks (cfg pd.P (callN pd.P M)) "is_closed" ["words"] [Slot.br E] = some [.br E] := rfl
      have : turn = 0 ∨ turn = 1 := by omega
      rcases this with rfl | rfl
      · simp [forB_eq, lp__law_asked_1, lp__law_asked_0, fre_opn f8, fre_opn f9, fre_opn f10, fre_nlk f10, ev_callC, ev_callK, kk, w3, w6, w4, w7, w9, w10, fits, isiD, isiB, forL, lock, lockS, src_itq2, items?, roots, aft, Wv.unlock, clearP]
        exact lq_nx hK3 rfl ⟨_, _, _, rfl, rfl, rfl, rfl⟩
      · simp [forB_eq, lp__law_asked_1, lp__law_asked_0, fre_opn f8, fre_opn f9, fre_opn f10, fre_nlk f10, ev_callC, ev_callK, kk, w3, w6, w4, w7, w9, w10, fits, isiD, isiB, forL, lock, lockS, src_itq2, items?, roots, aft, Wv.unlock, clearP]
        exact lq_nx hK3 rfl ⟨_, _, _, rfl, rfl, rfl, rfl⟩
    · rintro ss (⟨s8, s9, s10, rfl, f8, f9, f10⟩ | h)
      · simp only [puts_cons, puts_nil, List.set_cons_succ, List.set_cons_zero]
        refine wp_for ((List.range 2).map fun (k : Nat) => D.int k) [] [8] (fun i ss => ∃ s8, ss = [s8] ∧ fre s8 = true) (fun _ => False)
          (range_src (n := 2) (by simp) (by omega)) rfl rfl (by simp [fre_nlk f8]) rfl ⟨_, rfl, f8⟩ ?_ ?_ ?_
        · rintro ss (⟨s8, rfl, f8⟩ | h)
          · simp [f8]
          · exact h.elim
        · rintro k x ss K3 hx ⟨s8, rfl, f8⟩ hK3
          obtain ⟨rfl, hk⟩ := range_get hx
          obtain ⟨v, r, w1, w2, w3, w4⟩ := hgo k hk
          have w5 := fun named => c_right (N := M) (t := .fro) (named := named) (by omega) hL w1 w2
          have w10 := hWs v
          generalize WD .fro L v = E at w3 w5 w10
          generalize NL (trp v r) = T at w4 w5
          simp [forB_eq, lp__law_asked_2, fre_opn f8, ev_callC, w3, w4, w5, w10]
          exact lq_nx hK3 rfl ⟨_, rfl, rfl⟩
        · rintro ss (⟨s8, rfl, f8⟩ | h)
          · simp
            exact lq_nx hK2 rfl ⟨_, _, _, _, rfl, rfl, f8, f9, f10⟩
          · exact h.elim
      · exact h.elim
  · rintro ss (⟨s7, s8, s9, s10, rfl, f7, f8, f9, f10⟩ | h)
    · subst hbags
      simp only [puts_cons, puts_nil, List.set_cons_succ, List.set_cons_zero]
      generalize WD .fro L xs = E1 at h71 hE1
      generalize WD .fro L rs = E2 at h72 hE2
      simp [st__law_asked_7, ev_callC, h71, h72, hE1, hE2]
      exact fq_rt hK (by simp [outs_all, isBr]) rfl
    · exact h.elim
theorem plain (ns : List Int) (hn : ns.length ≤ 63) : callN pd.P 40 "law" [.br (.lst .scr (ns.map .int))] = .ok (.bl true) [] := by
  show callN pd.P (39 + 1) "law" _ = _
  rw [run_law]
  have h : callN pd.P 39 "_law_asked" [.br (.lst .scr (ns.map .int))] = .ok (.bl true) [] := c_asked (by omega)
  simp [runFn, f_law, st_law_0, ev_callC, h]
end Law_k21

set_option maxRecDepth 100000
set_option maxHeartbeats 0
/-! ### the head -/
namespace Law_k21
open PySem PySem.Spec PyProof.Rows L2 Wv
def top (i : Nat) : Stmt := PySem.Challenge.pw_widewebs_k21_closed_judge.main.body.getD i (.Pass ⟨0, 0, 0, 0⟩)
def meth (i j : Nat) : Stmt := (C8.clsBody (top i)).getD j (.Pass ⟨0, 0, 0, 0⟩)
def d_is_integer : He.DefD := ⟨(Str.ofString "is_integer", none), Str.ofString "is_integer", Str.ofString "is_integer", defArgs (top 6), defBody (top 6), defScope (top 6), [], []⟩
def d_is_between : He.DefD := ⟨(Str.ofString "is_between", none), Str.ofString "is_between", Str.ofString "is_between", defArgs (top 7), defBody (top 7), defScope (top 7), [], []⟩
def d_is_bit : He.DefD := ⟨(Str.ofString "is_bit", none), Str.ofString "is_bit", Str.ofString "is_bit", defArgs (top 8), defBody (top 8), defScope (top 8), [], []⟩
def d_is_word : He.DefD := ⟨(Str.ofString "is_word", none), Str.ofString "is_word", Str.ofString "is_word", defArgs (top 9), defBody (top 9), defScope (top 9), [], []⟩
def d_WordsX_initX : He.DefD := ⟨(Str.ofString "Words", some (Str.ofString "__init__")), Str.ofString "__init__", Str.ofString "Words.__init__", defArgs (meth 13 0), defBody (meth 13 0), defScope (meth 13 0), [], []⟩
def d_number_of_word : He.DefD := ⟨(Str.ofString "number_of_word", none), Str.ofString "number_of_word", Str.ofString "number_of_word", defArgs (top 14), defBody (top 14), defScope (top 14), [], []⟩
def d_numbers_of : He.DefD := ⟨(Str.ofString "numbers_of", none), Str.ofString "numbers_of", Str.ofString "numbers_of", defArgs (top 15), defBody (top 15), defScope (top 15), [], []⟩
def d_first_wrong : He.DefD := ⟨(Str.ofString "first_wrong", none), Str.ofString "first_wrong", Str.ofString "first_wrong", defArgs (top 16), defBody (top 16), defScope (top 16), [], []⟩
def d_is_closed : He.DefD := ⟨(Str.ofString "is_closed", none), Str.ofString "is_closed", Str.ofString "is_closed", defArgs (top 17), defBody (top 17), defScope (top 17), [], []⟩
def d_wrong_words : He.DefD := ⟨(Str.ofString "wrong_words", none), Str.ofString "wrong_words", Str.ofString "wrong_words", defArgs (top 18), defBody (top 18), defScope (top 18), [], []⟩
def d__law_cell : He.DefD := ⟨(Str.ofString "_law_cell", none), Str.ofString "_law_cell", Str.ofString "_law_cell", defArgs (top 20), defBody (top 20), defScope (top 20), [], []⟩
def d__law_row : He.DefD := ⟨(Str.ofString "_law_row", none), Str.ofString "_law_row", Str.ofString "_law_row", defArgs (top 21), defBody (top 21), defScope (top 21), [], []⟩
def d__law_word : He.DefD := ⟨(Str.ofString "_law_word", none), Str.ofString "_law_word", Str.ofString "_law_word", defArgs (top 22), defBody (top 22), defScope (top 22), [], []⟩
def d__law_drawn : He.DefD := ⟨(Str.ofString "_law_drawn", none), Str.ofString "_law_drawn", Str.ofString "_law_drawn", defArgs (top 23), defBody (top 23), defScope (top 23), [], []⟩
def d__law_majority : He.DefD := ⟨(Str.ofString "_law_majority", none), Str.ofString "_law_majority", Str.ofString "_law_majority", defArgs (top 24), defBody (top 24), defScope (top 24), [], []⟩
def d__law_closure : He.DefD := ⟨(Str.ofString "_law_closure", none), Str.ofString "_law_closure", Str.ofString "_law_closure", defArgs (top 25), defBody (top 25), defScope (top 25), [], []⟩
def d__law_grid : He.DefD := ⟨(Str.ofString "_law_grid", none), Str.ofString "_law_grid", Str.ofString "_law_grid", defArgs (top 26), defBody (top 26), defScope (top 26), [], []⟩
def d__law_mixed : He.DefD := ⟨(Str.ofString "_law_mixed", none), Str.ofString "_law_mixed", Str.ofString "_law_mixed", defArgs (top 27), defBody (top 27), defScope (top 27), [], []⟩
def d__law_bag : He.DefD := ⟨(Str.ofString "_law_bag", none), Str.ofString "_law_bag", Str.ofString "_law_bag", defArgs (top 28), defBody (top 28), defScope (top 28), [], []⟩
def d__law_first : He.DefD := ⟨(Str.ofString "_law_first", none), Str.ofString "_law_first", Str.ofString "_law_first", defArgs (top 29), defBody (top 29), defScope (top 29), [], []⟩
def d__law_told : He.DefD := ⟨(Str.ofString "_law_told", none), Str.ofString "_law_told", Str.ofString "_law_told", defArgs (top 30), defBody (top 30), defScope (top 30), [], []⟩
def d__law_right : He.DefD := ⟨(Str.ofString "_law_right", none), Str.ofString "_law_right", Str.ofString "_law_right", defArgs (top 31), defBody (top 31), defScope (top 31), [], []⟩
def d__law_kept : He.DefD := ⟨(Str.ofString "_law_kept", none), Str.ofString "_law_kept", Str.ofString "_law_kept", defArgs (top 32), defBody (top 32), defScope (top 32), [], []⟩
def d__law_asked : He.DefD := ⟨(Str.ofString "_law_asked", none), Str.ofString "_law_asked", Str.ofString "_law_asked", defArgs (top 33), defBody (top 33), defScope (top 33), [], []⟩
def d_law : He.DefD := ⟨(Str.ofString "law", none), Str.ofString "law", Str.ofString "law", defArgs (top 34), defBody (top 34), defScope (top 34), [], []⟩
def d_InvalidWordsX_initX : He.DefD := ⟨(Str.ofString "InvalidWords", some (Str.ofString "__init__")), Str.ofString "__init__", Str.ofString "InvalidWords.__init__", defArgs (meth 2 0), defBody (meth 2 0), defScope (meth 2 0), [], []⟩
def d_UndefinedX_initX : He.DefD := ⟨(Str.ofString "Undefined", some (Str.ofString "__init__")), Str.ofString "__init__", Str.ofString "Undefined.__init__", defArgs (meth 3 0), defBody (meth 3 0), defScope (meth 3 0), [], []⟩
def d_TooLargeX_initX : He.DefD := ⟨(Str.ofString "TooLarge", some (Str.ofString "__init__")), Str.ofString "__init__", Str.ofString "TooLarge.__init__", defArgs (meth 4 0), defBody (meth 4 0), defScope (meth 4 0), [], []⟩
def fnD : List He.DefD := [d_is_integer, d_is_between, d_is_bit, d_is_word, d_WordsX_initX, d_number_of_word, d_numbers_of, d_first_wrong, d_is_closed, d_wrong_words, d__law_cell, d__law_row, d__law_word, d__law_drawn, d__law_majority, d__law_closure, d__law_grid, d__law_mixed, d__law_bag, d__law_first, d__law_told, d__law_right, d__law_kept, d__law_asked, d_law, d_InvalidWordsX_initX, d_UndefinedX_initX, d_TooLargeX_initX]
theorem dc_is_integer : DefC pd "is_integer" f_is_integer d_is_integer [Str.ofString "value"] where
  at_ := by kernel_rfl
  plain := ⟨rfl, rfl⟩
  sc := by kernel_rfl
  len := ⟨rfl, by decide, rfl⟩
  er := fun cf => by kernel_rfl
  bind := fun _ _ _ _ _ _ us hl => match us, hl with | [_], _ => by kernel_rfl
  kb := fun n ks h => by exact absurd h (by simp [pd])
theorem dc_is_between : DefC pd "is_between" f_is_between d_is_between [Str.ofString "value", Str.ofString "low", Str.ofString "high"] where
  at_ := by kernel_rfl
  plain := ⟨rfl, rfl⟩
  sc := by kernel_rfl
  len := ⟨rfl, by decide, rfl⟩
  er := fun cf => by kernel_rfl
  bind := fun _ _ _ _ _ _ us hl => match us, hl with | [_, _, _], _ => by kernel_rfl
  kb := fun n ks h => by exact absurd h (by simp [pd])
theorem dc_is_bit : DefC pd "is_bit" f_is_bit d_is_bit [Str.ofString "value"] where
  at_ := by kernel_rfl
  plain := ⟨rfl, rfl⟩
  sc := by kernel_rfl
  len := ⟨rfl, by decide, rfl⟩
  er := fun cf => by kernel_rfl
  bind := fun _ _ _ _ _ _ us hl => match us, hl with | [_], _ => by kernel_rfl
  kb := fun n ks h => by exact absurd h (by simp [pd])
theorem dc_is_word : DefC pd "is_word" f_is_word d_is_word [Str.ofString "value", Str.ofString "length", Str.ofString "letter"] where
  at_ := by kernel_rfl
  plain := ⟨rfl, rfl⟩
  sc := by kernel_rfl
  len := ⟨rfl, by decide, rfl⟩
  er := fun cf => by kernel_rfl
  bind := fun _ _ _ _ _ _ us hl => match us, hl with | [_, _], _ => by kernel_rfl
  kb := fun n ks h => by exact absurd h (by simp [pd])
theorem dc_WordsX_initX : DefC pd "Words.__init__" f_WordsX_initX d_WordsX_initX [Str.ofString "self", Str.ofString "length", Str.ofString "words", Str.ofString "place", Str.ofString "word"] where
  at_ := by kernel_rfl
  plain := ⟨rfl, rfl⟩
  sc := by kernel_rfl
  len := ⟨rfl, by decide, rfl⟩
  er := fun cf => by kernel_rfl
  bind := fun _ _ _ _ _ _ us hl => match us, hl with | [_, _, _], _ => by kernel_rfl
  kb := fun n ks h => by exact absurd h (by simp [pd])
theorem dc_number_of_word : DefC pd "number_of_word" f_number_of_word d_number_of_word [Str.ofString "word", Str.ofString "number", Str.ofString "letter"] where
  at_ := by kernel_rfl
  plain := ⟨rfl, rfl⟩
  sc := by kernel_rfl
  len := ⟨rfl, by decide, rfl⟩
  er := fun cf => by kernel_rfl
  bind := fun _ _ _ _ _ _ us hl => match us, hl with | [_], _ => by kernel_rfl
  kb := fun n ks h => by exact absurd h (by simp [pd])
theorem dc_numbers_of : DefC pd "numbers_of" f_numbers_of d_numbers_of [Str.ofString "words", Str.ofString "word"] where
  at_ := by kernel_rfl
  plain := ⟨rfl, rfl⟩
  sc := by kernel_rfl
  len := ⟨rfl, by decide, rfl⟩
  er := fun cf => by kernel_rfl
  bind := fun _ _ _ _ _ _ us hl => match us, hl with | [_], _ => by kernel_rfl
  kb := fun n ks h => by exact absurd h (by simp [pd])
theorem dc_first_wrong : DefC pd "first_wrong" f_first_wrong d_first_wrong [Str.ofString "numbers", Str.ofString "known", Str.ofString "many", Str.ofString "i", Str.ofString "j", Str.ofString "both", Str.ofString "either", Str.ofString "k"] where
  at_ := by kernel_rfl
  plain := ⟨rfl, rfl⟩
  sc := by kernel_rfl
  len := ⟨rfl, by decide, rfl⟩
  er := fun cf => by kernel_rfl
  bind := fun _ _ _ _ _ _ us hl => match us, hl with | [_], _ => by kernel_rfl
  kb := fun n ks h => by exact absurd h (by simp [pd])
theorem dc_is_closed : DefC pd "is_closed" f_is_closed d_is_closed [Str.ofString "words"] where
  at_ := by kernel_rfl
  plain := ⟨rfl, rfl⟩
  sc := by kernel_rfl
  len := ⟨rfl, by decide, rfl⟩
  er := fun cf => by kernel_rfl
  bind := fun _ _ _ _ _ _ us hl => match us, hl with | [_], _ => by kernel_rfl
  kb := fun n ks h => by
    simp [pd] at h
    rcases h with ⟨rfl, rfl⟩
    · intro _ _ _ _ _ _ us ws zs h1 h2 h3
      match us, ws, h1, h2, h3 with
      | [], [w0], _, _, h3 =>
        have e : pickL f_is_closed.ps ["words"] [] [w0] = some [w0] := by kernel_rfl
        rw [e] at h3; cases h3; kernel_rfl
theorem dc_wrong_words : DefC pd "wrong_words" f_wrong_words d_wrong_words [Str.ofString "words", Str.ofString "places", Str.ofString "place"] where
  at_ := by kernel_rfl
  plain := ⟨rfl, rfl⟩
  sc := by kernel_rfl
  len := ⟨rfl, by decide, rfl⟩
  er := fun cf => by kernel_rfl
  bind := fun _ _ _ _ _ _ us hl => match us, hl with | [_], _ => by kernel_rfl
  kb := fun n ks h => by
    simp [pd] at h
    rcases h with ⟨rfl, rfl⟩
    · intro _ _ _ _ _ _ us ws zs h1 h2 h3
      match us, ws, h1, h2, h3 with
      | [], [w0], _, _, h3 =>
        have e : pickL f_wrong_words.ps ["words"] [] [w0] = some [w0] := by kernel_rfl
        rw [e] at h3; cases h3; kernel_rfl
theorem dc__law_cell : DefC pd "_law_cell" f__law_cell d__law_cell [Str.ofString "script", Str.ofString "k"] where
  at_ := by kernel_rfl
  plain := ⟨rfl, rfl⟩
  sc := by kernel_rfl
  len := ⟨rfl, by decide, rfl⟩
  er := fun cf => by kernel_rfl
  bind := fun _ _ _ _ _ _ us hl => match us, hl with | [_, _], _ => by kernel_rfl
  kb := fun n ks h => by exact absurd h (by simp [pd])
theorem dc__law_row : DefC pd "_law_row" f__law_row d__law_row [Str.ofString "script", Str.ofString "at", Str.ofString "many", Str.ofString "limit", Str.ofString "row", Str.ofString "left", Str.ofString "k"] where
  at_ := by kernel_rfl
  plain := ⟨rfl, rfl⟩
  sc := by kernel_rfl
  len := ⟨rfl, by decide, rfl⟩
  er := fun cf => by kernel_rfl
  bind := fun _ _ _ _ _ _ us hl => match us, hl with | [_, _, _, _], _ => by kernel_rfl
  kb := fun n ks h => by exact absurd h (by simp [pd])
theorem dc__law_word : DefC pd "_law_word" f__law_word d__law_word [Str.ofString "number", Str.ofString "length", Str.ofString "k"] where
  at_ := by kernel_rfl
  plain := ⟨rfl, rfl⟩
  sc := by kernel_rfl
  len := ⟨rfl, by decide, rfl⟩
  er := fun cf => by kernel_rfl
  bind := fun _ _ _ _ _ _ us hl => match us, hl with | [_, _], _ => by kernel_rfl
  kb := fun n ks h => by exact absurd h (by simp [pd])
theorem dc__law_drawn : DefC pd "_law_drawn" f__law_drawn d__law_drawn [Str.ofString "script", Str.ofString "at", Str.ofString "many", Str.ofString "length", Str.ofString "halves", Str.ofString "found", Str.ofString "k", Str.ofString "number"] where
  at_ := by kernel_rfl
  plain := ⟨rfl, rfl⟩
  sc := by kernel_rfl
  len := ⟨rfl, by decide, rfl⟩
  er := fun cf => by kernel_rfl
  bind := fun _ _ _ _ _ _ us hl => match us, hl with | [_, _, _, _], _ => by kernel_rfl
  kb := fun n ks h => by exact absurd h (by simp [pd])
theorem dc__law_majority : DefC pd "_law_majority" f__law_majority d__law_majority [Str.ofString "one", Str.ofString "other", Str.ofString "third"] where
  at_ := by kernel_rfl
  plain := ⟨rfl, rfl⟩
  sc := by kernel_rfl
  len := ⟨rfl, by decide, rfl⟩
  er := fun cf => by kernel_rfl
  bind := fun _ _ _ _ _ _ us hl => match us, hl with | [_, _, _], _ => by kernel_rfl
  kb := fun n ks h => by exact absurd h (by simp [pd])
theorem dc__law_closure : DefC pd "_law_closure" f__law_closure d__law_closure [Str.ofString "row", Str.ofString "most", Str.ofString "found", Str.ofString "seen", Str.ofString "number", Str.ofString "k", Str.ofString "i", Str.ofString "j"] where
  at_ := by kernel_rfl
  plain := ⟨rfl, rfl⟩
  sc := by kernel_rfl
  len := ⟨rfl, by decide, rfl⟩
  er := fun cf => by kernel_rfl
  bind := fun _ _ _ _ _ _ us hl => match us, hl with | [_, _], _ => by kernel_rfl
  kb := fun n ks h => by exact absurd h (by simp [pd])
theorem dc__law_grid : DefC pd "_law_grid" f__law_grid d__law_grid [Str.ofString "picks", Str.ofString "wide", Str.ofString "high", Str.ofString "deep", Str.ofString "letters", Str.ofString "tail", Str.ofString "row", Str.ofString "i", Str.ofString "j", Str.ofString "k"] where
  at_ := by kernel_rfl
  plain := ⟨rfl, rfl⟩
  sc := by kernel_rfl
  len := ⟨rfl, by decide, rfl⟩
  er := fun cf => by kernel_rfl
  bind := fun _ _ _ _ _ _ us hl => match us, hl with | [_], _ => by kernel_rfl
  kb := fun n ks h => by exact absurd h (by simp [pd])
theorem dc__law_mixed : DefC pd "_law_mixed" f__law_mixed d__law_mixed [Str.ofString "letters", Str.ofString "row", Str.ofString "keys", Str.ofString "extra", Str.ofString "sources", Str.ofString "order", Str.ofString "found", Str.ofString "number", Str.ofString "made", Str.ofString "k"] where
  at_ := by kernel_rfl
  plain := ⟨rfl, rfl⟩
  sc := by kernel_rfl
  len := ⟨rfl, by decide, rfl⟩
  er := fun cf => by kernel_rfl
  bind := fun _ _ _ _ _ _ us hl => match us, hl with | [_, _, _], _ => by kernel_rfl
  kb := fun n ks h => by exact absurd h (by simp [pd])
theorem dc__law_bag : DefC pd "_law_bag" f__law_bag d__law_bag [Str.ofString "script", Str.ofString "picks", Str.ofString "kind", Str.ofString "length", Str.ofString "row", Str.ofString "wide", Str.ofString "made", Str.ofString "number"] where
  at_ := by kernel_rfl
  plain := ⟨rfl, rfl⟩
  sc := by kernel_rfl
  len := ⟨rfl, by decide, rfl⟩
  er := fun cf => by kernel_rfl
  bind := fun _ _ _ _ _ _ us hl => match us, hl with | [_], _ => by kernel_rfl
  kb := fun n ks h => by exact absurd h (by simp [pd])
theorem dc__law_first : DefC pd "_law_first" f__law_first d__law_first [Str.ofString "row", Str.ofString "seen", Str.ofString "number", Str.ofString "i", Str.ofString "j", Str.ofString "k"] where
  at_ := by kernel_rfl
  plain := ⟨rfl, rfl⟩
  sc := by kernel_rfl
  len := ⟨rfl, by decide, rfl⟩
  er := fun cf => by kernel_rfl
  bind := fun _ _ _ _ _ _ us hl => match us, hl with | [_], _ => by kernel_rfl
  kb := fun n ks h => by exact absurd h (by simp [pd])
theorem dc__law_told : DefC pd "_law_told" f__law_told d__law_told [Str.ofString "bag", Str.ofString "named", Str.ofString "told", Str.ofString "e"] where
  at_ := by kernel_rfl
  plain := ⟨rfl, rfl⟩
  sc := by kernel_rfl
  len := ⟨rfl, by decide, rfl⟩
  er := fun cf => by kernel_rfl
  bind := fun _ _ _ _ _ _ us hl => match us, hl with | [_, _], _ => by kernel_rfl
  kb := fun n ks h => by exact absurd h (by simp [pd])
theorem dc__law_right : DefC pd "_law_right" f__law_right d__law_right [Str.ofString "bag", Str.ofString "length", Str.ofString "due", Str.ofString "named", Str.ofString "told", Str.ofString "k", Str.ofString "word", Str.ofString "letter"] where
  at_ := by kernel_rfl
  plain := ⟨rfl, rfl⟩
  sc := by kernel_rfl
  len := ⟨rfl, by decide, rfl⟩
  er := fun cf => by kernel_rfl
  bind := fun _ _ _ _ _ _ us hl => match us, hl with | [_, _, _, _], _ => by kernel_rfl
  kb := fun n ks h => by exact absurd h (by simp [pd])
theorem dc__law_kept : DefC pd "_law_kept" f__law_kept d__law_kept [Str.ofString "bag", Str.ofString "length", Str.ofString "row", Str.ofString "number"] where
  at_ := by kernel_rfl
  plain := ⟨rfl, rfl⟩
  sc := by kernel_rfl
  len := ⟨rfl, by decide, rfl⟩
  er := fun cf => by kernel_rfl
  bind := fun _ _ _ _ _ _ us hl => match us, hl with | [_, _, _], _ => by kernel_rfl
  kb := fun n ks h => by exact absurd h (by simp [pd])
theorem dc__law_asked : DefC pd "_law_asked" f__law_asked d__law_asked [Str.ofString "script", Str.ofString "length", Str.ofString "row", Str.ofString "at", Str.ofString "rest", Str.ofString "due", Str.ofString "bags", Str.ofString "turn", Str.ofString "k", Str.ofString "answers", Str.ofString "told", Str.ofString "number", Str.ofString "part"] where
  at_ := by kernel_rfl
  plain := ⟨rfl, rfl⟩
  sc := by kernel_rfl
  len := ⟨rfl, by decide, rfl⟩
  er := fun cf => by kernel_rfl
  bind := fun _ _ _ _ _ _ us hl => match us, hl with | [_], _ => by kernel_rfl
  kb := fun n ks h => by exact absurd h (by simp [pd])
theorem dc_law : DefC pd "law" f_law d_law [Str.ofString "script"] where
  at_ := by kernel_rfl
  plain := ⟨rfl, rfl⟩
  sc := by kernel_rfl
  len := ⟨rfl, by decide, rfl⟩
  er := fun cf => by kernel_rfl
  bind := fun _ _ _ _ _ _ us hl => match us, hl with | [_], _ => by kernel_rfl
  kb := fun n ks h => by exact absurd h (by simp [pd])
theorem dx_InvalidWordsX_initX : ExcD pd "InvalidWords" d_InvalidWordsX_initX [Str.ofString "self", Str.ofString "part", Str.ofString "place"] [Str.ofString "self", Str.ofString "part", Str.ofString "place"] where
  at_ := by kernel_rfl
  plain := ⟨rfl, rfl⟩
  sc := by kernel_rfl
  len := by kernel_rfl
  ini := by kernel_rfl
  bind := fun _ _ _ _ _ _ us hl => match us, hl with | [_, _, _], _ => by kernel_rfl
theorem dx_UndefinedX_initX : ExcD pd "Undefined" d_UndefinedX_initX [Str.ofString "self", Str.ofString "what"] [Str.ofString "self", Str.ofString "what"] where
  at_ := by kernel_rfl
  plain := ⟨rfl, rfl⟩
  sc := by kernel_rfl
  len := by kernel_rfl
  ini := by kernel_rfl
  bind := fun _ _ _ _ _ _ us hl => match us, hl with | [_, _], _ => by kernel_rfl
theorem dx_TooLargeX_initX : ExcD pd "TooLarge" d_TooLargeX_initX [Str.ofString "self", Str.ofString "what"] [Str.ofString "self", Str.ofString "what"] where
  at_ := by kernel_rfl
  plain := ⟨rfl, rfl⟩
  sc := by kernel_rfl
  len := by kernel_rfl
  ini := by kernel_rfl
  bind := fun _ _ _ _ _ _ us hl => match us, hl with | [_, _], _ => by kernel_rfl
theorem progD : ProgD pd fnD where
  defs := fun t ht => by
    simp only [pd, List.mem_cons, List.mem_nil_iff, or_false] at ht
    rcases ht with rfl | rfl | rfl | rfl | rfl | rfl | rfl | rfl | rfl | rfl | rfl | rfl | rfl | rfl | rfl | rfl | rfl | rfl | rfl | rfl | rfl | rfl | rfl | rfl | rfl
    · exact ⟨_, _, by simp [fnD], dc_is_integer⟩
    · exact ⟨_, _, by simp [fnD], dc_is_between⟩
    · exact ⟨_, _, by simp [fnD], dc_is_bit⟩
    · exact ⟨_, _, by simp [fnD], dc_is_word⟩
    · exact ⟨_, _, by simp [fnD], dc_WordsX_initX⟩
    · exact ⟨_, _, by simp [fnD], dc_number_of_word⟩
    · exact ⟨_, _, by simp [fnD], dc_numbers_of⟩
    · exact ⟨_, _, by simp [fnD], dc_first_wrong⟩
    · exact ⟨_, _, by simp [fnD], dc_is_closed⟩
    · exact ⟨_, _, by simp [fnD], dc_wrong_words⟩
    · exact ⟨_, _, by simp [fnD], dc__law_cell⟩
    · exact ⟨_, _, by simp [fnD], dc__law_row⟩
    · exact ⟨_, _, by simp [fnD], dc__law_word⟩
    · exact ⟨_, _, by simp [fnD], dc__law_drawn⟩
    · exact ⟨_, _, by simp [fnD], dc__law_majority⟩
    · exact ⟨_, _, by simp [fnD], dc__law_closure⟩
    · exact ⟨_, _, by simp [fnD], dc__law_grid⟩
    · exact ⟨_, _, by simp [fnD], dc__law_mixed⟩
    · exact ⟨_, _, by simp [fnD], dc__law_bag⟩
    · exact ⟨_, _, by simp [fnD], dc__law_first⟩
    · exact ⟨_, _, by simp [fnD], dc__law_told⟩
    · exact ⟨_, _, by simp [fnD], dc__law_right⟩
    · exact ⟨_, _, by simp [fnD], dc__law_kept⟩
    · exact ⟨_, _, by simp [fnD], dc__law_asked⟩
    · exact ⟨_, _, by simp [fnD], dc_law⟩
  excs := fun c hc hf => by
    simp only [pd, List.mem_cons, List.mem_nil_iff, or_false] at hc
    rcases hc with rfl | rfl | rfl | rfl
    · exact absurd hf (by decide)
    · exact ⟨_, _, _, by simp [fnD], dx_InvalidWordsX_initX⟩
    · exact ⟨_, _, _, by simp [fnD], dx_UndefinedX_initX⟩
    · exact ⟨_, _, _, by simp [fnD], dx_TooLargeX_initX⟩
def loose0 : List Str := [Str.ofString "MiddleError", Str.ofString "InvalidWords", Str.ofString "Undefined", Str.ofString "TooLarge", Str.ofString "is_integer", Str.ofString "is_between", Str.ofString "is_bit", Str.ofString "is_word", Str.ofString "MOST_LETTERS", Str.ofString "MOST_WORDS", Str.ofString "Words", Str.ofString "number_of_word", Str.ofString "numbers_of", Str.ofString "first_wrong", Str.ofString "is_closed", Str.ofString "wrong_words", Str.ofString "_law_cell", Str.ofString "_law_row", Str.ofString "_law_word", Str.ofString "_law_drawn", Str.ofString "_law_majority", Str.ofString "_law_closure", Str.ofString "_law_grid", Str.ofString "_law_mixed", Str.ofString "_law_bag", Str.ofString "_law_first", Str.ofString "_law_told", Str.ofString "_law_right", Str.ofString "_law_kept", Str.ofString "_law_asked"]
def loose : List Str := loose0
abbrev R : PySem.W.OpenRow := PySem.W.OpenLaw.row PySem.Challenge.rw_widewebs_k21_closed_judge
abbrev hk : PySem.W.Hook := He.hookX 5 [] fnD [] [] (factB pd)
def ob (s : PySem.W.SharedT) : He.AlX := He.obsX 5 [] fnD [] [] (factB pd) (HandSHeadRun.getT s)
theorem ob_eq (s : PySem.W.SharedT) : ob s = hk.obs s.abs := He.obsX_eq (HandSHeadRun.getT_eq s)
theorem run (w : World) : HandSHeadRun.RunEq R (PySem.W.view R.prog [34]) hk ob 4800 loose w := by
  intro os
  kernel_rfl
end Law_k21
open PySem PySem.W PySem.Calls PyProof.Rows in
theorem Law_k21.holds (plain : ∀ ns : List Int, ns.length ≤ 63 → Wv.callN Law_k21.pd.P 40 "law" [.br (.lst .scr (ns.map .int))] = .ok (.bl true) []) : PySem.Challenge.rw_widewebs_k21_closed_judge.Holds := by
  w_on; o_law
  refine HandSHeadRun.head_any (r := OpenLaw.row PySem.Challenge.rw_widewebs_k21_closed_judge) (q := view (OpenLaw.row PySem.Challenge.rw_widewebs_k21_closed_judge).prog [34]) (H := Law_k21.hk) (ob := Law_k21.ob) (M := 4800) (loose := Law_k21.loose) (d := HandSHeadRun.topDef (OpenLaw.row PySem.Challenge.rw_widewebs_k21_closed_judge).prog 34) (kwd := []) Law_k21.ob_eq
    (by kernel_rfl) (fun s => by kernel_rfl) Law_k21.run (by kernel_rfl) (by kernel_rfl) (by kernel_rfl) (by rfl) (by first | assumption | decide +kernel) (by decide +kernel) ⟨rfl, rfl, rfl, rfl, rfl, by decide +kernel⟩ ?hw ?hc
  case hw => w_witness2
  case hc =>
    exact Wv.law_walk (fn := Law_k21.fnD) (f0 := Law_k21.f_law) (n := 63) rfl (by decide) (by kernel_rfl) Wv.room40 (by kernel_rfl) Law_k21.progD rfl rfl (by decide) plain

theorem PySem.Challenge.cw_widewebs_k21_closed_judge_holds : PySem.Challenge.rw_widewebs_k21_closed_judge.Holds := by
  exact Law_k21.holds Law_k21.plain
