import PyProof.Rows.All
import Wide.All
import OpenK.AllK
import Wide.FinOn
import HandS.CallLocal
import HandS.Deep
import HandS.Exc
import HandS.Flow
import HandS.ForMost
import HandS.IsInst
import HandS.SortInts
import HandS.Style
import HandS.TupAny
import HandS.TupMul
import HandS.Words
import HandS.Zip
import KE.KSortedM
import PySem.Challenge.RW_alertrules_k03_whole_order_of_rules
set_option Elab.async false
set_option linter.all false
set_option maxRecDepth 100000
/-! Core1: own data, own small language of expressions and statements, and what they compute. -/
namespace AR
open PySem

/-- data -/
inductive D where
  | non | bl (b : Bool) | int (i : Int) | str (s : List Nat)
  | tup (ds : List D) | lst (ds : List D) | dic (kvs : List (D × D)) | fn (x : Nat) | scr (ns : List Int)
  deriving Inhabited

/-- how a value may be shared: by anyone; new, nobody else's; a slot's own -/
inductive Fl where
  | sh | fr | bo | bi
  deriving DecidableEq
/-- a slot: shared data; a list or dict of its own; a list that came as an argument to be changed -/
inductive Sl where
  | sh | own | io
  deriving DecidableEq
inductive Err where
  | stuck | exc (c : Nat)
abbrev R := Except Err
abbrev stuck {α : Type} : R α := .error .stuck

abbrev Env := List (Option (Sl × D))

inductive Bop where
  | add | sub | mul | fdiv | mod | pow
  deriving DecidableEq
inductive Cop where
  | eq | ne | lt | le | gt | ge | is | isnot | isin | notin
  deriving DecidableEq
inductive Bt where
  | maxV | len | max1 | min1 | max2 | min2 | all | any | list | tuple | sorted | sortedSet | int | bool
  deriving DecidableEq
inductive Ty where
  | int | bool | str | tuple | list
  deriving DecidableEq

/-- targets -/
inductive T where
  | var (i : Nat)
  | tup (ts : List T)

mutual
inductive E where
  | cst (d : D)
  | var (i : Nat)
  | gfn (x : Nat)
  | gcn (x : Str) (d : D)
  | tup (es : Es)
  | lst (es : Es)
  | dic0
  | dic1 (k v : E)
  | bin (op : Bop) (a b : E)
  | neg (a : E)
  | notE (a : E)
  | and2 (a b : E)
  | or2 (a b : E)
  | ife (c a b : E)
  | cmp (op : Cop) (a b : E)
  | chain (op op' : Cop) (a b c : E)
  | ref (i : Nat)
  | call (x : Nat) (es : Es)
  | callv (i : Nat) (es : Es)
  | blt (k : Bt) (es : Es)
  | isi (a : E) (ts : List Ty)
  | idx (o a : E)
  | get2 (o a b : E)
  | pop (i : Nat) (a : E)
  | pop0 (i : Nat)
  | sub (a b : E)
  | slc (a : E) (lo hi : Option E)
  | rev (a : E)
  | comp (own : List Nat) (cl : Cl)
  | rng (t : Bool) (it : It)
inductive Es where
  | nil
  | cons (e : E) (es : Es)
inductive It where
  | val (e : E)
  | rng1 (a : E)
  | rng2 (a b : E)
  | rng3 (a b c : E)
  | enm (a : E)
  | zip2 (a b : E)
  | zip3 (a b c : E)
  | items (a : E)
inductive Cl where
  | el (e : E)
  | cons (t : T) (it : It) (ifs : Es) (rest : Cl)
end

mutual
inductive S where
  | asg (t : T) (e : E)
  | par (is : List Nat) (es : Es)
  | app (i : Nat) (e : E)
  | setk (i : Nat) (k e : E)
  | aug (i : Nat) (op : Bop) (e : E)
  | ret (e : E)
  | ret0
  | ife (c : E) (a b : Ss)
  | forS (t : T) (it : It) (b : Ss)
  | whl (c : E) (b : Ss)
  | ex (e : E)
  | pass
inductive Ss where
  | nil
  | cons (s : S) (ss : Ss)
end

/-- a def: how many parameters, which of them are lists to be changed, how many slots, the body -/
structure Fn where
  np : Nat
  io : List Nat
  ns : Nat
  body : Ss

/-! ### data -/
def b2i (b : Bool) : Int := if b then 1 else 0
mutual
def D.eqv : D → D → Bool
  | .non, .non => true
  | .bl a, .bl b => a == b
  | .bl a, .int j => b2i a == j
  | .int i, .bl b => i == b2i b
  | .int i, .int j => i == j
  | .str x, .str y => x == y
  | .lst xs, .lst ys => D.eqvs xs ys
  | .tup xs, .tup ys => D.eqvs xs ys
  | _, _ => false
def D.eqvs : List D → List D → Bool
  | [], [] => true
  | x :: xs, y :: ys => D.eqv x y && D.eqvs xs ys
  | _, _ => false
end

/-! data that == is asked of: no dict, no def; at most n deep -/
mutual
def D.flat : Nat → D → Bool
  | _, .non => true
  | _, .bl _ => true
  | _, .int _ => true
  | _, .str s => s.all fun c => decide (c < 1114112)
  | 0, .tup _ => false
  | 0, .lst _ => false
  | n + 1, .tup ds => D.flats n ds
  | n + 1, .lst ds => D.flats n ds
  | _, .dic _ => false
  | _, .fn _ => false
  | _, .scr _ => false
def D.flats : Nat → List D → Bool
  | _, [] => true
  | n, d :: ds => D.flat n d && D.flats n ds
end
/-- neither a sequence nor a dict: a value that cannot be shared -/
def D.plain : D → Bool
  | .non => true
  | .bl _ => true
  | .int _ => true
  | .str _ => true
  | .fn _ => true
  | _ => false
/-- scalars -/
def D.scal : D → Bool
  | .non => true
  | .bl _ => true
  | .int _ => true
  | .str _ => true
  | _ => false
def D.isNon : D → Bool
  | .non => true
  | _ => false
def D.mut : D → Bool
  | .lst _ => true
  | .dic _ => true
  | _ => false

def bnd {α β : Type} (x : R α) (f : α → R β) : R β := match x with
  | .ok a => f a
  | .error e => .error e
def guardR {α : Type} (b : Bool) (x : R α) : R α := if b = true then x else stuck

def D.truth : D → R Bool
  | .non => .ok false
  | .bl b => .ok b
  | .int i => .ok (i != 0)
  | .str s => guardR (decide (s.length ≤ sizeLine)) (.ok (!s.isEmpty))
  | .tup ds => .ok (!ds.isEmpty)
  | .lst ds => .ok (!ds.isEmpty)
  | _ => stuck

def smallI (i : Int) : Bool := decide (-(2 ^ 64) < i) && decide (i < 2 ^ 64)

def binop : Bop → D → D → R (Fl × D)
  | .add, .int i, .int j => .ok (.sh, .int (i + j))
  | .add, .str x, .str y => guardR (decide (x.length + y.length ≤ sizeLine)) (.ok (.sh, .str (x ++ y)))
  | .add, .lst x, .lst y => guardR (decide (x.length + y.length ≤ sizeLine)) (.ok (.fr, .lst (x ++ y)))
  | .add, .tup x, .tup y => guardR (decide (x.length + y.length ≤ sizeLine)) (.ok (.sh, .tup (x ++ y)))
  | .sub, .int i, .int j => .ok (.sh, .int (i - j))
  | .mul, .int i, .int j => guardR (smallI i || smallI j) (.ok (.sh, .int (i * j)))
  | .mul, .tup x, .int k => guardR (!x.isEmpty && decide (2 ≤ k) && decide (k ≤ 1000) && decide (x.length ≤ 1000)) (.ok (.sh, .tup (List.replicate k.toNat x).flatten))
  | .fdiv, .int i, .int j => guardR (decide (0 < j) && decide (j < 1073741824)) (.ok (.sh, .int (i / j)))
  | .mod, .int i, .int j => guardR (decide (0 < j)) (.ok (.sh, .int (i % j)))
  | .pow, .int i, .int j => guardR (decide (0 ≤ j) && decide (j ≤ 1000000) && decide (i.natAbs < 2 ^ 64)) (.ok (.sh, .int (i ^ j.toNat)))
  | _, _, _ => stuck

def D.look (k : D) : List (D × D) → Option D
  | [] => none
  | (k', v) :: r => if D.eqv k' k = true then some v else D.look k r
def D.put (k v : D) : List (D × D) → List (D × D)
  | [] => [(k, v)]
  | (k', v') :: r => if D.eqv k' k = true then (k', v) :: r else (k', v') :: D.put k v r

def subop : D → D → R D
  | .tup ds, .int i => match L2.atI ds i with | some d => .ok d | none => stuck
  | .lst ds, .int i => match L2.atI ds i with | some d => .ok d | none => stuck
  | .scr ns, .int i => match L2.atI ns i with | some n => .ok (.int n) | none => stuck
  | .str s, .int i => guardR (decide (s.length ≤ sizeLine)) (match L2.atI s i with | some c => .ok (.str [c]) | none => stuck)
  | .dic kvs, k => match D.look k kvs with | some v => .ok v | none => stuck
  | _, _ => stuck

def cut {α : Type} (xs : List α) (lo hi : Option Int) : List α :=
  (xs.drop (HT.sIx xs.length 0 lo)).take (HT.sIx xs.length xs.length hi - HT.sIx xs.length 0 lo)

def slcop : D → Option Int → Option Int → R (Fl × D)
  | .tup ds, lo, hi => .ok (.sh, .tup (cut ds lo hi))
  | .lst ds, lo, hi => .ok (.fr, .lst (cut ds lo hi))
  | _, _, _ => stuck

def revop : D → R (Fl × D)
  | .tup ds => .ok (.sh, .tup ds.reverse)
  | .lst ds => .ok (.fr, .lst ds.reverse)
  | _ => stuck

def ltS : List Nat → List Nat → Bool
  | [], [] => false
  | [], _ :: _ => true
  | _ :: _, [] => false
  | x :: xs, y :: ys => if x = y then ltS xs ys else decide (x < y)

def inop (x : D) : D → R Bool
  | .tup ds => guardR (x.scal && ds.all D.scal) (.ok (ds.any fun y => D.eqv y x))
  | .lst ds => guardR (D.flat 60 x && D.flats 60 ds) (.ok (ds.any fun y => D.eqv y x))
  | .dic kvs => .ok (D.look x kvs).isSome
  | .str s => match x with
    | .str [c] => .ok (decide (c ∈ s))
    | _ => stuck
  | _ => stuck

def cmpop : Cop → D → D → R Bool
  | .eq, a, b => guardR (D.flat 60 a && D.flat 60 b) (.ok (D.eqv a b))
  | .ne, a, b => guardR (D.flat 60 a && D.flat 60 b) (.ok (!D.eqv a b))
  | .lt, .int i, .int j => .ok (decide (i < j))
  | .lt, .str x, .str y => .ok (ltS x y)
  | .le, .int i, .int j => .ok (decide (i ≤ j))
  | .gt, .int i, .int j => .ok (decide (j < i))
  | .ge, .int i, .int j => .ok (decide (j ≤ i))
  | .is, a, .non => .ok a.isNon
  | .is, .bl a, .bl b => .ok (a == b)
  | .isnot, a, .non => .ok (!a.isNon)
  | .isnot, .bl a, .bl b => .ok (a != b)
  | .isin, x, c => inop x c
  | .notin, x, c => match inop x c with | .ok b => .ok (!b) | .error e => .error e
  | _, _, _ => stuck

def ints? : List D → R (List Int)
  | [] => .ok []
  | .int i :: r => match ints? r with | .ok l => .ok (i :: l) | .error e => .error e
  | _ :: _ => stuck
def bls? : List D → R (List Bool)
  | [] => .ok []
  | .bl i :: r => match bls? r with | .ok l => .ok (i :: l) | .error e => .error e
  | _ :: _ => stuck
def maxI : Int → List Int → Int
  | m, [] => m
  | m, x :: r => maxI (if x > m then x else m) r
def minI : Int → List Int → Int
  | m, [] => m
  | m, x :: r => minI (if x < m then x else m) r
def insI (x : Int) : List Int → List Int
  | [] => [x]
  | y :: r => if x ≤ y then x :: y :: r else y :: insI x r
def sortI : List Int → List Int
  | [] => []
  | x :: r => insI x (sortI r)
/-- into a rising list without equals -/
def insU (x : Int) : List Int → List Int
  | [] => [x]
  | y :: r => if x < y then x :: y :: r else if x = y then y :: r else y :: insU x r
def sortU : List Int → List Int
  | [] => []
  | x :: r => insU x (sortU r)

def seq? : D → R (List D)
  | .tup ds => .ok ds
  | .lst ds => .ok ds
  | _ => stuck

def bltop : Bt → List D → R (Fl × D)
  | .len, [.str s] => guardR (decide (s.length ≤ sizeLine)) (.ok (.sh, .int s.length))
  | .len, [.tup ds] => .ok (.sh, .int ds.length)
  | .len, [.lst ds] => .ok (.sh, .int ds.length)
  | .len, [.scr ns] => .ok (.sh, .int ns.length)
  | .max2, [.int i, .int j] => .ok (.sh, .int (if j > i then j else i))
  | .min2, [.int i, .int j] => .ok (.sh, .int (if j < i then j else i))
  | .max1, [d] => bnd (bnd (seq? d) ints?) fun l => match l with
    | [] => stuck
    | x :: r => .ok (.sh, .int (maxI x r))
  | .maxV, [.dic kvs] => bnd (ints? (kvs.map (·.2))) fun l => match l with
    | [] => stuck
    | x :: r => .ok (.sh, .int (maxI x r))
  | .min1, [d] => bnd (bnd (seq? d) ints?) fun l => match l with
    | [] => stuck
    | x :: r => .ok (.sh, .int (minI x r))
  | .all, [.lst ds] => bnd (bls? ds) fun l => .ok (.sh, .bl (l.all id))
  | .any, [.lst ds] => bnd (bls? ds) fun l => .ok (.sh, .bl (l.any id))
  | .list, [.tup ds] => .ok (.fr, .lst ds)
  | .list, [.lst ds] => .ok (.fr, .lst ds)
  | .list, [.dic kvs] => .ok (.fr, .lst (kvs.map (·.1)))
  | .tuple, [.tup ds] => .ok (.sh, .tup ds)
  | .tuple, [.lst ds] => .ok (.sh, .tup ds)
  | .sorted, [.lst ds] => bnd (ints? ds) fun l => .ok (.fr, .lst ((sortI l).map .int))
  | .sortedSet, [.lst ds] => bnd (ints? ds) fun l => .ok (.fr, .lst ((sortU l).map .int))
  | .int, [.int i] => .ok (.sh, .int i)
  | .int, [.bl b] => .ok (.sh, .int (if b then 1 else 0))
  | .bool, [.int i] => .ok (.sh, .bl (i != 0))
  | .bool, [.bl b] => .ok (.sh, .bl b)
  | _, _ => stuck

def tyOf : D → Option Ty
  | .bl _ => some .bool
  | .int _ => some .int
  | .str _ => some .str
  | .tup _ => some .tuple
  | .lst _ => some .list
  | _ => none
/-- isinstance(d, t) -/
def isTy (d : D) : Ty → Bool
  | .int => match d with | .int _ => true | .bl _ => true | _ => false
  | .bool => match d with | .bl _ => true | _ => false
  | .str => match d with | .str _ => true | _ => false
  | .tuple => match d with | .tup _ => true | _ => false
  | .list => match d with | .lst _ => true | _ => false

def tyOk : D → Bool
  | .dic _ => false
  | .fn _ => false
  | .scr _ => false
  | _ => true
def isiop (ts : List Ty) (d : D) : R (Fl × D) := guardR (tyOk d) (.ok (.sh, .bl (ts.any (isTy d))))
def idxop (o x : D) : R D := bnd (seq? o) fun ds =>
  guardR (x.scal && ds.all D.scal) (match ds.findIdx? (fun y => D.eqv y x) with | some i => .ok (.int i) | none => stuck)

def rangeI (lo hi : Int) : List D := (List.range (hi - lo).toNat).map fun i => .int (lo + (i : Nat))
def okB (i : Int) : Bool := decide (-(2 ^ 62) ≤ i) && decide (i < 2 ^ 62)

/-! ### slots -/
/-- the kind of a new slot that holds a value of this kind -/
def newSl : Fl → D → Sl
  | .fr, .lst _ => .own
  | .fr, .dic _ => .own
  | _, _ => .sh
/-- the slots at is are shared from now on -/
def freeze : List Nat → Env → R Env
  | [], env => .ok env
  | i :: is, env => match env[i]? with
    | some (some (.own, d)) => freeze is (env.set i (some (.sh, d)))
    | some (some (.io, _)) => stuck
    | _ => freeze is env
/-- every list is shared, for as long as nothing is changed -/
def iceE (env : Env) : Env := env.map fun o => match o with
  | some (_, d) => some (.sh, d)
  | none => none
def isIo : Option (Sl × D) → Bool
  | some (.io, _) => true
  | _ => false
def setV (i : Nat) (k : Sl) (d : D) (env : Env) : R Env := match env[i]? with
  | some o => if isIo o = true then stuck else .ok (env.set i (some (k, d)))
  | none => stuck
def wipeE : List Nat → Env → Env
  | [], env => env
  | i :: is, env => (wipeE is env).set i none

mutual
def bindT : T → D → Env → R Env
  | .var i, d, env => setV i .sh d env
  | .tup ts, .tup ds, env => bindTs ts ds env
  | .tup _, _, _ => stuck
def bindTs : List T → List D → Env → R Env
  | [], [], env => .ok env
  | t :: ts, d :: ds, env => bnd (bindT t d env) (bindTs ts ds)
  | _, _, _ => stuck
end
/-! ### what may share a slot's list -/
mutual
def E.esc : E → List Nat
  | .cst _ | .gfn _ | .gcn _ _ | .ref _ | .pop0 _ | .dic0 => []
  | .var i => [i]
  | .tup es | .lst es | .call _ es | .callv _ es => es.esc
  | .dic1 k v => k.esc ++ v.esc
  | .bin _ a b => a.escP ++ b.escP
  | .neg a | .notE a => a.escP
  | .and2 a b | .or2 a b => a.esc ++ b.esc
  | .ife c a b => c.escP ++ (a.esc ++ b.esc)
  | .cmp _ a b => a.escP ++ b.escP
  | .chain _ _ a b c => a.escP ++ (b.escP ++ c.escP)
  | .blt _ es => es.escP
  | .isi a _ => a.escP
  | .idx o a => o.escP ++ a.escP
  | .get2 o a b => o.escP ++ (a.esc ++ b.esc)
  | .pop _ a => a.escP
  | .sub a b => a.escP ++ b.escP
  | .slc a lo hi => a.escP ++ (escO lo ++ escO hi)
  | .rev a => a.escP
  | .comp _ cl => cl.esc
  | .rng _ it => it.escP
/-- .. where its items alone are asked for -/
def E.escP : E → List Nat
  | .var _ => []
  | .cst _ | .gfn _ | .gcn _ _ | .ref _ | .pop0 _ | .dic0 => []
  | .tup es | .lst es | .call _ es | .callv _ es => es.esc
  | .dic1 k v => k.esc ++ v.esc
  | .bin _ a b => a.escP ++ b.escP
  | .neg a | .notE a => a.escP
  | .and2 a b | .or2 a b => a.escP ++ b.escP
  | .ife c a b => c.escP ++ (a.escP ++ b.escP)
  | .cmp _ a b => a.escP ++ b.escP
  | .chain _ _ a b c => a.escP ++ (b.escP ++ c.escP)
  | .blt _ es => es.escP
  | .isi a _ => a.escP
  | .idx o a => o.escP ++ a.escP
  | .get2 o a b => o.escP ++ (a.esc ++ b.esc)
  | .pop _ a => a.escP
  | .sub a b => a.escP ++ b.escP
  | .slc a lo hi => a.escP ++ (escO lo ++ escO hi)
  | .rev a => a.escP
  | .comp _ cl => cl.esc
  | .rng _ it => it.escP
def Es.esc : Es → List Nat
  | .nil => []
  | .cons e es => e.esc ++ es.esc
def Es.escP : Es → List Nat
  | .nil => []
  | .cons e es => e.escP ++ es.escP
def escO : Option E → List Nat
  | none => []
  | some e => e.escP
/-- the source of a loop: the list that is walked stays as it is -/
def It.esc : It → List Nat
  | .val e | .rng1 e | .enm e | .items e => e.esc
  | .rng2 a b | .zip2 a b => a.esc ++ b.esc
  | .rng3 a b c | .zip3 a b c => a.esc ++ (b.esc ++ c.esc)
def It.escP : It → List Nat
  | .val e | .rng1 e | .enm e | .items e => e.escP
  | .rng2 a b | .zip2 a b => a.escP ++ b.escP
  | .rng3 a b c | .zip3 a b c => a.escP ++ (b.escP ++ c.escP)
def Cl.esc : Cl → List Nat
  | .el e => e.esc
  | .cons _ it ifs r => it.escP ++ (ifs.escP ++ r.esc)
end

mutual
def T.vars : T → List Nat
  | .var i => [i]
  | .tup ts => varsL ts
def varsL : List T → List Nat
  | [] => []
  | t :: ts => T.vars t ++ varsL ts
end
/-! ### no list is changed -/
mutual
def E.pure : E → Bool
  | .cst _ | .gfn _ | .gcn _ _ | .dic0 | .var _ => true
  | .ref _ | .pop0 _ | .pop _ _ => false
  | .tup es | .lst es | .call _ es | .callv _ es | .blt _ es => es.pure
  | .dic1 a b | .bin _ a b | .and2 a b | .or2 a b | .cmp _ a b | .idx a b | .sub a b => a.pure && b.pure
  | .neg a | .notE a | .isi a _ | .rev a => a.pure
  | .ife a b c | .chain _ _ a b c | .get2 a b c => a.pure && (b.pure && c.pure)
  | .slc a lo hi => a.pure && (pureO lo && pureO hi)
  | .comp own cl => cl.pureC own
  | .rng _ it => it.pure
def Es.pure : Es → Bool
  | .nil => true
  | .cons e es => e.pure && es.pure
def pureO : Option E → Bool
  | none => true
  | some e => e.pure
def It.pure : It → Bool
  | .val e | .rng1 e | .enm e | .items e => e.pure
  | .rng2 a b | .zip2 a b => a.pure && b.pure
  | .rng3 a b c | .zip3 a b c => a.pure && (b.pure && c.pure)
def Cl.pureC (own : List Nat) : Cl → Bool
  | .el e => e.pure
  | .cons t it ifs r => (t.vars.all fun i => own.contains i) && (it.pure && (ifs.pure && r.pureC own))
end
/-! ### what an expression is worth -/
inductive Arg where
  | v (d : D) | r (i : Nat)
abbrev CallF := Nat → List (Sl × D) → R (List D × Fl × D)
/-- a value that may be laid into another, or handed to a def -/
def Fl.free : Fl → Bool
  | .sh => true
  | .fr => true
  | _ => false
/-- a slot's own list may be looked at behind b -/
def pk (f : Fl) (b : Bool) : Bool := f.free || b
def resolve : Env → List Arg → R (List (Sl × D))
  | _, [] => .ok []
  | env, .v d :: as => bnd (resolve env as) fun r => .ok ((.sh, d) :: r)
  | env, .r i :: as => match env[i]? with
    | some (some (.own, d)) => bnd (resolve env as) fun r => .ok ((.io, d) :: r)
    | some (some (.io, d)) => bnd (resolve env as) fun r => .ok ((.io, d) :: r)
    | _ => stuck
def isMut (env : Env) (i : Nat) : Bool := match env[i]? with
  | some (some (.own, _)) => true
  | some (some (.io, _)) => true
  | _ => false
def refs : List Arg → List Nat
  | [] => []
  | .v _ :: as => refs as
  | .r i :: as => i :: refs as
def setOuts : List Nat → List D → Env → R Env
  | [], [], env => .ok env
  | i :: is, d :: ds, env => match env[i]? with
    | some (some (k, _)) => setOuts is ds (env.set i (some (k, d)))
    | _ => stuck
  | _, _, _ => stuck
def zipD : List D → List D → List D
  | x :: xs, y :: ys => .tup [x, y] :: zipD xs ys
  | _, _ => []
def zip3D : List D → List D → List D → List D
  | x :: xs, y :: ys, z :: zs => .tup [x, y, z] :: zip3D xs ys zs
  | _, _, _ => []
def enumD : Nat → List D → List D
  | _, [] => []
  | n, x :: xs => .tup [.int n, x] :: enumD (n + 1) xs
def enmOf : D → R (List D)
  | .lst ds => .ok ds
  | _ => stuck
def zip2Of : D → D → R (List D)
  | .lst ds, .lst es => .ok (zipD ds es)
  | .tup ds, .tup es => .ok (zipD ds es)
  | _, _ => stuck
/-- what a for walks -/
def itemsOf : D → R (List D)
  | .tup ds => .ok ds
  | .lst ds => .ok ds
  | .str s => .ok (s.map fun c => .str [c])
  | .dic kvs => .ok (kvs.map (·.1))
  | _ => stuck
def rng3 (lo hi st : Int) : R (List D) :=
  guardR (okB lo && okB hi && decide (0 < st) && decide (st < 1073741824)) (.ok ((List.range ((hi - lo + st - 1) / st).toNat).map fun i => .int (lo + (i : Nat) * st)))
/-- the slots at is are as in env0 -/
def keepO : List Nat → Env → Env → Env
  | [], _, env => env
  | i :: is, env0, env => (keepO is env0 env).set i (env0.getD i none)
def collect (own : List Nat) (f : Env → D → R (Env × List D)) : List D → Env → R (Env × List D)
  | [], env => .ok (env, [])
  | d :: ds, env => bnd (f env d) fun r => bnd (collect own f ds (keepO own env r.1)) fun q => .ok (q.1, r.2 ++ q.2)

mutual
def ev (C : CallF) : E → Env → R (Env × Fl × D)
  | .cst d, env => .ok (env, .sh, d)
  | .var i, env => match env[i]? with
    | some (some (.sh, d)) => .ok (env, .sh, d)
    | some (some (.own, d)) => .ok (env, .bo, d)
    | some (some (.io, d)) => .ok (env, .bi, d)
    | _ => stuck
  | .gfn x, env => .ok (env, .sh, .fn x)
  | .gcn _ d, env => .ok (env, .sh, d)
  | .tup es, env => bnd (evs C es env) fun r => guardR (decide (r.2.length ≤ sizeLine)) (.ok (r.1, .sh, .tup r.2))
  | .lst es, env => bnd (evs C es env) fun r => guardR (decide (r.2.length ≤ sizeLine)) (.ok (r.1, .fr, .lst r.2))
  | .dic0, env => .ok (env, .fr, .dic [])
  | .dic1 k v, env => bnd (ev C k env) fun a => guardR a.2.1.free (bnd (ev C v a.1) fun b => guardR (b.2.1.free && D.flat 8 a.2.2) (.ok (b.1, .fr, .dic [(a.2.2, b.2.2)])))
  | .bin op a b, env => bnd (ev C a env) fun x => guardR (pk x.2.1 b.pure) (bnd (ev C b x.1) fun y => bnd (binop op x.2.2 y.2.2) fun r => .ok (y.1, r.1, r.2))
  | .neg a, env => bnd (ev C a env) fun x => match x.2.2 with
    | .int i => .ok (x.1, .sh, .int (-i))
    | _ => stuck
  | .notE a, env => bnd (ev C a env) fun x => bnd x.2.2.truth fun k => .ok (x.1, .sh, .bl (!k))
  | .and2 a b, env => bnd (ev C a env) fun x => bnd x.2.2.truth fun k => if k = true then ev C b x.1 else .ok x
  | .or2 a b, env => bnd (ev C a env) fun x => bnd x.2.2.truth fun k => if k = true then .ok x else ev C b x.1
  | .ife c a b, env => bnd (ev C c env) fun x => bnd x.2.2.truth fun k => if k = true then ev C a x.1 else ev C b x.1
  | .cmp op a b, env => bnd (ev C a env) fun x => guardR (pk x.2.1 b.pure) (bnd (ev C b x.1) fun y => bnd (cmpop op x.2.2 y.2.2) fun k => .ok (y.1, .sh, .bl k))
  | .chain op op' a b c, env => bnd (ev C a env) fun x => guardR (pk x.2.1 b.pure) (bnd (ev C b x.1) fun y => bnd (cmpop op x.2.2 y.2.2) fun k =>
      if k = true then guardR (pk y.2.1 c.pure) (bnd (ev C c y.1) fun z => bnd (cmpop op' y.2.2 z.2.2) fun k' => .ok (z.1, .sh, .bl k')) else .ok (y.1, .sh, .bl false))
  | .ref _, _ => stuck
  | .call f es, env => bnd (evA C es env) fun r => bnd (resolve r.1 r.2) fun as => guardR (decide (refs r.2).Nodup) (bnd (C f as) fun q => bnd (setOuts (refs r.2) q.1 r.1) fun env2 => .ok (env2, q.2.1, q.2.2))
  | .callv i es, env => match env[i]? with
    | some (some (.sh, .fn f)) => bnd (evs C es env) fun r => bnd (C f (r.2.map fun d => (.sh, d))) fun q => .ok (r.1, q.2.1, q.2.2)
    | _ => stuck
  | .blt k es, env => bnd (evP C es env) fun r => bnd (bltop k r.2) fun q => .ok (r.1, q.1, q.2)
  | .isi a ts, env => bnd (ev C a env) fun x => bnd (isiop ts x.2.2) fun r => .ok (x.1, r.1, r.2)
  | .idx o a, env => bnd (ev C o env) fun x => guardR (pk x.2.1 a.pure) (bnd (ev C a x.1) fun y => bnd (idxop x.2.2 y.2.2) fun r => .ok (y.1, .sh, r))
  | .get2 o a b, env => bnd (ev C o env) fun x => guardR (pk x.2.1 (a.pure && b.pure)) (bnd (ev C a x.1) fun y => guardR y.2.1.free (bnd (ev C b y.1) fun z => guardR z.2.1.free (match x.2.2 with
      | .dic kvs => guardR (D.flat 8 y.2.2) (.ok (z.1, .sh, (D.look y.2.2 kvs).getD z.2.2))
      | _ => stuck)))
  | .pop i a, env => bnd (ev C a env) fun x => match x.2.2, x.1[i]? with
    | .int k, some (some (s, .lst ds)) => guardR (s != .sh) (match L2.ixN ds.length k with
      | some j => .ok (x.1.set i (some (s, .lst (ds.eraseIdx j))), .sh, ds.getD j .non)
      | none => stuck)
    | _, _ => stuck
  | .pop0 i, env => match env[i]? with
    | some (some (s, .lst ds)) => guardR (s != .sh && !ds.isEmpty) (.ok (env.set i (some (s, .lst ds.dropLast)), .sh, ds.getD (ds.length - 1) .non))
    | _ => stuck
  | .sub a b, env => bnd (ev C a env) fun x => guardR (pk x.2.1 b.pure) (bnd (ev C b x.1) fun y => bnd (subop x.2.2 y.2.2) fun r => .ok (y.1, .sh, r))
  | .slc a lo hi, env => bnd (ev C a env) fun x => guardR (pk x.2.1 (pureO lo && pureO hi)) (bnd (evO C lo x.1) fun y => bnd (evO C hi y.1) fun z => bnd (slcop x.2.2 y.2 z.2) fun r => .ok (z.1, r.1, r.2))
  | .rev a, env => bnd (ev C a env) fun x => bnd (revop x.2.2) fun r => .ok (x.1, r.1, r.2)
  | .comp own cl, env => bnd (evCl C own cl (wipeE own env)) fun r => guardR (decide (r.2.length ≤ sizeLine)) (.ok (keepO own env r.1, .fr, .lst r.2))
  | .rng t it, env => bnd (evI C it true env) fun r => guardR (decide (r.2.length ≤ sizeLine)) (.ok (r.1, if t = true then (.sh, .tup r.2) else (.fr, .lst r.2)))
/-- values to be handed on -/
def evs (C : CallF) : Es → Env → R (Env × List D)
  | .nil, env => .ok (env, [])
  | .cons e es, env => bnd (ev C e env) fun x => guardR x.2.1.free (bnd (evs C es x.1) fun r => .ok (r.1, x.2.2 :: r.2))
/-- arguments: values, and slots by place -/
def evA (C : CallF) : Es → Env → R (Env × List Arg)
  | .nil, env => .ok (env, [])
  | .cons (.ref i) es, env => guardR (isMut env i) (bnd (evA C es env) fun r => .ok (r.1, .r i :: r.2))
  | .cons e es, env => bnd (ev C e env) fun x => guardR x.2.1.free (bnd (evA C es x.1) fun r => .ok (r.1, .v x.2.2 :: r.2))
/-- values to be looked at -/
def evP (C : CallF) : Es → Env → R (Env × List D)
  | .nil, env => .ok (env, [])
  | .cons e es, env => bnd (ev C e env) fun x => guardR (pk x.2.1 es.pure) (bnd (evP C es x.1) fun r => .ok (r.1, x.2.2 :: r.2))
def evO (C : CallF) : Option E → Env → R (Env × Option Int)
  | none, env => .ok (env, none)
  | some e, env => bnd (ev C e env) fun x => match x.2.2 with
    | .int i => .ok (x.1, some i)
    | _ => stuck
/-- what is walked; b: nothing of it is changed meanwhile -/
def evI (C : CallF) : It → Bool → Env → R (Env × List D)
  | .val e, b, env => bnd (ev C e env) fun x => guardR (pk x.2.1 b) (bnd (itemsOf x.2.2) fun l => .ok (x.1, l))
  | .rng1 e, _, env => bnd (ev C e env) fun x => match x.2.2 with
    | .int i => guardR (okB i) (.ok (x.1, rangeI 0 i))
    | _ => stuck
  | .rng2 a c, _, env => bnd (ev C a env) fun x => bnd (ev C c x.1) fun y => match x.2.2, y.2.2 with
    | .int i, .int j => guardR (okB i && okB j) (.ok (y.1, rangeI i j))
    | _, _ => stuck
  | .rng3 a c d, _, env => bnd (ev C a env) fun x => bnd (ev C c x.1) fun y => bnd (ev C d y.1) fun z => match x.2.2, y.2.2, z.2.2 with
    | .int i, .int j, .int k => bnd (rng3 i j k) fun l => .ok (z.1, l)
    | _, _, _ => stuck
  | .enm e, b, env => bnd (ev C e env) fun x => guardR (pk x.2.1 b) (bnd (enmOf x.2.2) fun l => .ok (x.1, enumD 0 l))
  | .zip2 a c, b, env => bnd (ev C a env) fun x => guardR (pk x.2.1 (b && c.pure)) (bnd (ev C c x.1) fun y => guardR (pk y.2.1 b) (bnd (zip2Of x.2.2 y.2.2) fun l => .ok (y.1, l)))
  | .zip3 a c d, b, env => bnd (ev C a env) fun x => guardR (pk x.2.1 (b && (c.pure && d.pure))) (bnd (ev C c x.1) fun y => guardR (pk y.2.1 (b && d.pure)) (bnd (ev C d y.1) fun z => guardR (pk z.2.1 b) (
      bnd (seq? x.2.2) fun l => bnd (seq? y.2.2) fun m => bnd (seq? z.2.2) fun n => .ok (z.1, zip3D l m n))))
  | .items e, b, env => bnd (ev C e env) fun x => guardR (pk x.2.1 b) (match x.2.2 with
    | .dic kvs => .ok (x.1, kvs.map fun p => .tup [p.1, p.2])
    | _ => stuck)
def evIfs (C : CallF) : Es → Env → R (Env × Bool)
  | .nil, env => .ok (env, true)
  | .cons e es, env => bnd (ev C e env) fun x => bnd x.2.2.truth fun k => if k = true then evIfs C es x.1 else .ok (x.1, false)
def evCl (C : CallF) (own : List Nat) : Cl → Env → R (Env × List D)
  | .el e, env => bnd (ev C e env) fun x => guardR x.2.1.free (.ok (x.1, [x.2.2]))
  | .cons t it ifs rest, env => bnd (evI C it (ifs.pure && rest.pureC own) env) fun r =>
      collect own (fun env1 d => bnd (bindT t d env1) fun env2 => bnd (evIfs C ifs env2) fun q => if q.2 = true then evCl C own rest q.1 else .ok (q.1, [])) r.2 r.1
end

/-! ### what a statement does -/
inductive Flow where
  | nx (env : Env)
  | rt (env : Env) (fl : Fl) (d : D)
/-- what a returned expression may share -/
def E.escR : E → List Nat
  | .var _ => []
  | .ife c a b => c.escP ++ (a.escR ++ b.escR)
  | e => e.esc
def anyMut (env : Env) (is : List Nat) : Bool := is.any (isMut env)
/-- an expression in a statement: what it may share is shared from now on, unless it is worth a plain value -/
def evF (C : CallF) (e : E) (is : List Nat) (env : Env) : R (Env × Fl × D) :=
  if (anyMut env is && e.pure) = true then bnd (ev C e (iceE env)) fun r => if r.2.2.plain = true then .ok (env, .sh, r.2.2) else bnd (freeze is env) (ev C e)
  else bnd (freeze is env) (ev C e)
def evT (C : CallF) (e : E) (env : Env) : R (Env × Bool) :=
  if (anyMut env e.escP && e.pure) = true then bnd (ev C e (iceE env)) fun r => bnd r.2.2.truth fun k => .ok (env, k)
  else bnd (freeze e.escP env) fun env0 => bnd (ev C e env0) fun r => bnd r.2.2.truth fun k => .ok (r.1, k)
def whlL (c : Env → R (Env × Bool)) (b : Env → R Flow) : Nat → Env → R Flow
  | 0, _ => stuck
  | n + 1, env => bnd (c env) fun t => if t.2 = true then bnd (b t.1) fun f => (match f with
      | .nx env2 => whlL c b n env2
      | .rt env2 fl d => .ok (.rt env2 fl d)) else .ok (.nx t.1)
def forL (b : Env → D → R Flow) : List D → Env → R Flow
  | [], env => .ok (.nx env)
  | d :: ds, env => bnd (b env d) fun f => match f with
    | .nx env2 => forL b ds env2
    | .rt env2 fl d => .ok (.rt env2 fl d)
/-- several names at once; they are stored from the right -/
def evPar (C : CallF) : Es → Env → R (Env × List (Fl × D))
  | .nil, env => .ok (env, [])
  | .cons e es, env => bnd (ev C e env) fun x => guardR x.2.1.free (bnd (evPar C es x.1) fun r => .ok (r.1, x.2 :: r.2))
def storePar : List Nat → List (Fl × D) → Env → R Env
  | [], [], env => .ok env
  | i :: is, r :: rs, env => bnd (storePar is rs env) fun env1 => setV i (newSl r.1 r.2) r.2 env1
  | _, _, _ => stuck

mutual
def exec (C : CallF) (w : Nat) : S → Env → R Flow
  | .asg (.var i) e, env => bnd (evF C e e.esc env) fun r => guardR r.2.1.free (bnd (setV i (newSl r.2.1 r.2.2) r.2.2 r.1) fun env2 => .ok (.nx env2))
  | .asg t e, env => bnd (evF C e e.esc env) fun r => guardR r.2.1.free (bnd (bindT t r.2.2 r.1) fun env2 => .ok (.nx env2))
  | .par is es, env => bnd (freeze es.esc env) fun env0 => bnd (evPar C es env0) fun r => bnd (storePar is r.2 r.1) fun env2 => .ok (.nx env2)
  | .app i e, env => guardR (isMut env i) (bnd (evF C e e.esc env) fun r => guardR r.2.1.free (match r.1[i]? with
    | some (some (s, .lst ds)) => guardR (s != .sh && decide (ds.length < sizeLine)) (.ok (.nx (r.1.set i (some (s, .lst (ds ++ [r.2.2]))))))
    | _ => stuck))
  | .setk i k e, env => guardR (isMut env i) (bnd (evF C e e.esc env) fun r => guardR r.2.1.free (bnd (evF C k k.esc r.1) fun q => guardR q.2.1.free (match q.1[i]? with
    | some (some (s, .lst ds)) => match q.2.2 with
      | .int j => guardR (s != .sh) (match L2.ixN ds.length j with
        | some n => .ok (.nx (q.1.set i (some (s, .lst (ds.set n r.2.2)))))
        | none => stuck)
      | _ => stuck
    | some (some (s, .dic kvs)) => guardR (s != .sh && D.flat 8 q.2.2 && decide (kvs.length < sizeLine)) (.ok (.nx (q.1.set i (some (s, .dic (D.put q.2.2 r.2.2 kvs))))))
    | _ => stuck)))
  | .aug i op e, env => match env[i]? with
    | some (some (.sh, .int a)) => bnd (evF C e e.escP env) fun r => (match r.2.2 with
      | .int b => bnd (binop op (.int a) (.int b)) fun q => bnd (setV i .sh q.2 r.1) fun env2 => .ok (.nx env2)
      | _ => stuck)
    | _ => stuck
  | .ret e, env => bnd (evF C e e.escR env) fun r => .ok (.rt r.1 r.2.1 r.2.2)
  | .ret0, env => .ok (.rt env .sh .non)
  | .ife c a b, env => bnd (evT C c env) fun t => if t.2 = true then execs C w a t.1 else execs C w b t.1
  | .forS t it b, env => bnd (freeze it.esc env) fun env0 => bnd (evI C it false env0) fun r =>
      forL (fun env1 d => bnd (bindT t d env1) fun env2 => execs C w b env2) r.2 r.1
  | .whl c b, env => whlL (evT C c) (execs C w b) w env
  | .ex e, env => bnd (evF C e e.esc env) fun r => .ok (.nx r.1)
  | .pass, env => .ok (.nx env)
def execs (C : CallF) (w : Nat) : Ss → Env → R Flow
  | .nil, env => .ok (.nx env)
  | .cons s ss, env => bnd (exec C w s env) fun f => match f with
    | .nx env2 => execs C w ss env2
    | .rt env2 fl d => .ok (.rt env2 fl d)
end

/-! ### calls -/
def kinds : List (Sl × D) → Nat → List Nat
  | [], _ => []
  | (.sh, _) :: r, n => kinds r (n + 1)
  | (_, _) :: r, n => n :: kinds r (n + 1)
def outs (env : Env) : List Nat → R (List D)
  | [] => .ok []
  | i :: is => match env[i]? with
    | some (some (.io, d)) => bnd (outs env is) fun r => .ok (d :: r)
    | _ => stuck
/-- a def's own list, handed back, is new to the caller -/
def Fl.out : Fl → R Fl
  | .sh => .ok .sh
  | .fr => .ok .fr
  | .bo => .ok .fr
  | .bi => stuck
/-- the defs by their numbers; w: how often a while may turn; then how deep calls may go -/
def callN (tab : Nat → Option Fn) (w : Nat) : Nat → CallF
  | 0, _, _ => stuck
  | n + 1, x, as => match tab x with
    | none => stuck
    | some F => guardR (decide (as.length = F.np) && (decide (kinds as 0 = F.io) && as.all fun p => p.1 != .own)) (bnd (execs (callN tab w n) w F.body (as.map some ++ List.replicate (F.ns - F.np) none)) fun f => match f with
      | .nx env => bnd (outs env F.io) fun os => .ok (os, .sh, .non)
      | .rt env fl d => bnd (outs env F.io) fun os => bnd fl.out fun fl' => .ok (os, fl', d))
end AR

/-! Core2: how data stand in the heap; the operators by values. -/
namespace AR
open PySem PySem.Spec PyProof.Rows L2

def strV (s : List Nat) : Str := ⟨s.toArray⟩

section
variable (K : PySem.W.Frag) (FA : Nat → Option Addr)
/-- a tuple that stands there for good: among F, or the module's own -/
def TupAt (F : Addr → Prop) (H : Hp) (a : Addr) (xs : List V) : Prop :=
  (F a ∧ Rd H a (.tup xs)) ∨ ∃ (o : Obj) (its : Array Value) (n : Nat), K.lookup a = some o ∧ o.cls = .type "tuple" ∧ o.data = .seq its n ∧ its.size ≤ sizeLine ∧ Vals xs its.toList
/-- the script -/
def ScrAt (H : Hp) (a : Addr) (xs : List V) : Prop :=
  (∃ o, H a = some (.frz o (.lst xs))) ∨ ∃ (o : Obj) (its : Array Value) (n : Nat), K.lookup a = some o ∧ o.cls = .type "list" ∧ o.dict = none ∧ o.data = .seq its n ∧ its.size ≤ sizeLine ∧ Vals xs its.toList
mutual
def Rep (F : Addr → Prop) (H : Hp) : D → V → Prop
  | .non, v => v = .non
  | .bl b, v => v = .bl b
  | .int i, v => v = .int i
  | .str s, v => v = .str (strV s)
  | .tup ds, v => ∃ a xs, v = .ref a ∧ TupAt K F H a xs ∧ Reps F H ds xs
  | .lst ds, v => ∃ a xs, v = .ref a ∧ F a ∧ H a = some (.lst xs) ∧ Reps F H ds xs
  | .scr ns, v => ∃ a, v = .ref a ∧ ScrAt K H a (ns.map V.int)
  | .fn x, v => ∃ a, v = .ref a ∧ FA x = some a
  | .dic _, _ => False
def Reps (F : Addr → Prop) (H : Hp) : List D → List V → Prop
  | [], xs => xs = []
  | d :: ds, xs => ∃ v r, xs = v :: r ∧ Rep F H d v ∧ Reps F H ds r
end
/-- a list of one's own at a -/
def RepM (F : Addr → Prop) (H : Hp) : D → Addr → Prop
  | .lst ds, a => ∃ xs, H a = some (.lst xs) ∧ Reps K FA F H ds xs
  | _, _ => False
/-- to be looked at -/
def Pk (F : Addr → Prop) (H : Hp) (d : D) (v : V) : Prop := Rep K FA F H d v ∨ ∃ a, v = .ref a ∧ RepM K FA F H d a
end

section
variable {K : PySem.W.Frag} {FA : Nat → Option Addr} {F F' : Addr → Prop} {H H' : Hp} {a : Addr} {xs ys : List V} {d : D} {ds : List D} {v : V}
theorem TupAt.sq (h : TupAt K F H a xs) : SqT K H a xs := by
  rcases h with ⟨_, h⟩ | h
  · exact .inl h
  · exact .inr h
theorem ScrAt.sq (h : ScrAt K H a xs) : SqL K H a xs := by
  rcases h with ⟨o, h⟩ | h
  · exact .inl (.inr ⟨o, h⟩)
  · exact .inr h
/-- what stands among F, and what is locked, stays -/
structure Keep (F : Addr → Prop) (H H' : Hp) : Prop where
  on : ∀ b o, F b → H b = some o → H' b = some o
  frz : ∀ b o u, H b = some (.frz o u) → H' b = some (.frz o u)
theorem Keep.of_same (h : Same H H') : Keep F H H' := ⟨fun b o _ e => h b o e, fun b o u e => h b _ e⟩
theorem Keep.refl : Keep F H H := ⟨fun _ _ _ e => e, fun _ _ _ e => e⟩
theorem TupAt.mono (hF : ∀ b, F b → F' b) (k : Keep F H H') (h : TupAt K F H a xs) : TupAt K F' H' a xs := by
  rcases h with ⟨f, h | ⟨o, h⟩⟩ | h
  · exact .inl ⟨hF _ f, .inl (k.on _ _ f h)⟩
  · exact .inl ⟨hF _ f, .inr ⟨o, k.on _ _ f h⟩⟩
  · exact .inr h
theorem ScrAt.mono (k : Keep F H H') (h : ScrAt K H a xs) : ScrAt K H' a xs := by
  rcases h with ⟨o, h⟩ | h
  · exact .inl ⟨o, k.frz _ _ _ h⟩
  · exact .inr h
mutual
theorem Rep.mono (hF : ∀ b, F b → F' b) (k : Keep F H H') : ∀ (d : D) (v : V), Rep K FA F H d v → Rep K FA F' H' d v
  | .non, _, h => h
  | .bl _, _, h => h
  | .int _, _, h => h
  | .str _, _, h => h
  | .fn _, _, h => h
  | .dic _, _, h => h
  | .scr _, _, ⟨a, e, h⟩ => ⟨a, e, h.mono k⟩
  | .tup ds, _, ⟨a, xs, e, h, r⟩ => ⟨a, xs, e, h.mono hF k, Reps.mono hF k ds xs r⟩
  | .lst ds, _, ⟨a, xs, e, f, h, r⟩ => ⟨a, xs, e, hF _ f, k.on _ _ f h, Reps.mono hF k ds xs r⟩
theorem Reps.mono (hF : ∀ b, F b → F' b) (k : Keep F H H') : ∀ (ds : List D) (xs : List V), Reps K FA F H ds xs → Reps K FA F' H' ds xs
  | [], _, h => h
  | d :: ds, _, ⟨v, r, e, h, t⟩ => ⟨v, r, e, Rep.mono hF k d v h, Reps.mono hF k ds r t⟩
end
theorem Reps.len : ∀ {ds : List D} {xs : List V}, Reps K FA F H ds xs → ds.length = xs.length
  | [], _, h => by cases h; rfl
  | d :: ds, _, ⟨v, r, e, _, t⟩ => by subst e; rw [List.length_cons, List.length_cons, Reps.len t]
theorem Reps.get : ∀ {ds : List D} {xs : List V} {i : Nat} {d : D}, Reps K FA F H ds xs → ds[i]? = some d → ∃ v, xs[i]? = some v ∧ Rep K FA F H d v
  | [], _, _, _, _, e => by simp at e
  | d :: ds, _, 0, d', ⟨v, r, e, h, t⟩, q => by subst e; simp at q; subst q; exact ⟨v, rfl, h⟩
  | d :: ds, _, i + 1, d', ⟨v, r, e, h, t⟩, q => by
    subst e
    obtain ⟨v', q1, q2⟩ := Reps.get (i := i) (d := d') t (by simpa using q)
    exact ⟨v', by simpa using q1, q2⟩
theorem Reps.cons (h : Rep K FA F H d v) (t : Reps K FA F H ds xs) : Reps K FA F H (d :: ds) (v :: xs) := ⟨v, xs, rfl, h, t⟩
theorem Reps.nil : Reps K FA F H [] [] := rfl
theorem Reps.app : ∀ {ds es : List D} {xs ys : List V}, Reps K FA F H ds xs → Reps K FA F H es ys → Reps K FA F H (ds ++ es) (xs ++ ys)
  | [], _, _, _, h, t => by cases h; exact t
  | d :: ds, _, _, _, ⟨v, r, e, h, t⟩, u => by subst e; exact ⟨v, _, rfl, h, Reps.app t u⟩
theorem Reps.drop : ∀ (n : Nat) {ds : List D} {xs : List V}, Reps K FA F H ds xs → Reps K FA F H (ds.drop n) (xs.drop n)
  | 0, _, _, h => h
  | n + 1, [], _, h => by cases h; exact rfl
  | n + 1, d :: ds, _, ⟨v, r, e, h, t⟩ => by subst e; exact Reps.drop n t
theorem Reps.take : ∀ (n : Nat) {ds : List D} {xs : List V}, Reps K FA F H ds xs → Reps K FA F H (ds.take n) (xs.take n)
  | 0, _, _, h => rfl
  | n + 1, [], _, h => by cases h; exact rfl
  | n + 1, d :: ds, _, ⟨v, r, e, h, t⟩ => by subst e; exact ⟨v, _, rfl, h, Reps.take n t⟩
theorem Reps.rev : ∀ {ds : List D} {xs : List V}, Reps K FA F H ds xs → Reps K FA F H ds.reverse xs.reverse
  | [], _, h => by cases h; exact rfl
  | d :: ds, _, ⟨v, r, e, h, t⟩ => by
    subst e
    rw [List.reverse_cons, List.reverse_cons]
    exact (Reps.rev t).app (.cons h .nil)
theorem Reps.set {e : D} {w : V} (he : Rep K FA F H e w) : ∀ {ds : List D} {xs : List V} (n : Nat), Reps K FA F H ds xs → Reps K FA F H (ds.set n e) (xs.set n w)
  | [], _, _, h => by cases h; exact rfl
  | d :: ds, _, 0, ⟨v, r, q, h, t⟩ => by subst q; exact ⟨w, r, rfl, he, t⟩
  | d :: ds, _, n + 1, ⟨v, r, q, h, t⟩ => by subst q; exact ⟨v, _, rfl, h, Reps.set he n t⟩
theorem Reps.erase : ∀ {ds : List D} {xs : List V} (n : Nat), Reps K FA F H ds xs → Reps K FA F H (ds.eraseIdx n) (xs.eraseIdx n)
  | [], _, _, h => by cases h; exact rfl
  | d :: ds, _, 0, ⟨v, r, q, h, t⟩ => by subst q; exact t
  | d :: ds, _, n + 1, ⟨v, r, q, h, t⟩ => by subst q; exact ⟨v, _, rfl, h, Reps.erase n t⟩
theorem Reps.dropLast {ds : List D} {xs : List V} (h : Reps K FA F H ds xs) : Reps K FA F H ds.dropLast xs.dropLast := by
  rw [List.dropLast_eq_take, List.dropLast_eq_take, h.len]
  exact h.take _
theorem Reps.rep {ds : List D} {xs : List V} (h : Reps K FA F H ds xs) : ∀ n : Nat, Reps K FA F H (List.replicate n ds).flatten (List.replicate n xs).flatten
  | 0 => rfl
  | n + 1 => by
    rw [List.replicate_succ, List.replicate_succ, List.flatten_cons, List.flatten_cons]
    exact h.app (Reps.rep h n)
theorem Reps.ints : ∀ {ds : List D} {xs : List V} {ns : List Int}, ints? ds = .ok ns → Reps K FA F H ds xs → xs = ns.map V.int
  | [], _, _, e, h => by cases h; cases e; rfl
  | .int i :: ds, _, ns, e, ⟨v, r, q, h, t⟩ => by
    subst q
    unfold ints? at e
    cases q : ints? ds with
    | error x => rw [q] at e; cases e
    | ok l =>
      rw [q] at e; cases e
      rw [List.map_cons, Reps.ints q t, show v = .int i from h]
  | .non :: _, _, _, e, _ => by unfold ints? at e; cases e
  | .bl _ :: _, _, _, e, _ => by unfold ints? at e; cases e
  | .str _ :: _, _, _, e, _ => by unfold ints? at e; cases e
  | .tup _ :: _, _, _, e, _ => by unfold ints? at e; cases e
  | .lst _ :: _, _, _, e, _ => by unfold ints? at e; cases e
  | .dic _ :: _, _, _, e, _ => by unfold ints? at e; cases e
  | .fn _ :: _, _, _, e, _ => by unfold ints? at e; cases e
  | .scr _ :: _, _, _, e, _ => by unfold ints? at e; cases e
theorem Reps.bls : ∀ {ds : List D} {xs : List V} {ns : List Bool}, bls? ds = .ok ns → Reps K FA F H ds xs → xs = ns.map V.bl
  | [], _, _, e, h => by cases h; cases e; rfl
  | .bl i :: ds, _, ns, e, ⟨v, r, q, h, t⟩ => by
    subst q
    unfold bls? at e
    cases q : bls? ds with
    | error x => rw [q] at e; cases e
    | ok l =>
      rw [q] at e; cases e
      rw [List.map_cons, Reps.bls q t, show v = .bl i from h]
  | .non :: _, _, _, e, _ => by unfold bls? at e; cases e
  | .int _ :: _, _, _, e, _ => by unfold bls? at e; cases e
  | .str _ :: _, _, _, e, _ => by unfold bls? at e; cases e
  | .tup _ :: _, _, _, e, _ => by unfold bls? at e; cases e
  | .lst _ :: _, _, _, e, _ => by unfold bls? at e; cases e
  | .dic _ :: _, _, _, e, _ => by unfold bls? at e; cases e
  | .fn _ :: _, _, _, e, _ => by unfold bls? at e; cases e
  | .scr _ :: _, _, _, e, _ => by unfold bls? at e; cases e
theorem Reps.ofInts : ∀ ns : List Int, Reps K FA F H (ns.map D.int) (ns.map V.int)
  | [] => rfl
  | n :: ns => ⟨_, _, rfl, rfl, Reps.ofInts ns⟩

/-! ### what is looked at -/
theorem Pk.lst (h : Pk K FA F H (.lst ds) v) : ∃ a xs, v = .ref a ∧ H a = some (.lst xs) ∧ Reps K FA F H ds xs := by
  rcases h with ⟨a, xs, e, _, h, r⟩ | ⟨a, e, xs, h, r⟩
  · exact ⟨a, xs, e, h, r⟩
  · exact ⟨a, xs, e, h, r⟩
theorem Pk.tup (h : Pk K FA F H (.tup ds) v) : ∃ a xs, v = .ref a ∧ TupAt K F H a xs ∧ Reps K FA F H ds xs := by
  rcases h with h | ⟨_, _, h⟩
  · exact h
  · exact h.elim
theorem Pk.rep (hd : ∀ ds, d ≠ .lst ds) (h : Pk K FA F H d v) : Rep K FA F H d v := by
  rcases h with h | ⟨_, _, h⟩
  · exact h
  · cases d with
    | lst ds => exact absurd rfl (hd ds)
    | _ => exact h.elim
theorem Pk.int {i : Int} (h : Pk K FA F H (.int i) v) : v = .int i := h.rep (by intro ds e; cases e)
theorem Pk.bl {i : Bool} (h : Pk K FA F H (.bl i) v) : v = .bl i := h.rep (by intro ds e; cases e)
theorem Pk.str {i : List Nat} (h : Pk K FA F H (.str i) v) : v = .str (strV i) := h.rep (by intro ds e; cases e)
theorem Pk.non (h : Pk K FA F H .non v) : v = .non := h.rep (by intro ds e; cases e)
theorem Pk.dic {k : List (D × D)} (h : Pk K FA F H (.dic k) v) : False := h.rep (by intro ds e; cases e)
theorem Pk.scr {ns : List Int} (h : Pk K FA F H (.scr ns) v) : ∃ a, v = .ref a ∧ ScrAt K H a (ns.map V.int) := h.rep (by intro ds e; cases e)
theorem Pk.fn {x : Nat} (h : Pk K FA F H (.fn x) v) : ∃ a, v = .ref a ∧ FA x = some a := h.rep (by intro ds e; cases e)

/-! ### what an operation leaves: new objects alone -/
structure Res (K : PySem.W.Frag) (FA : Nat → Option Addr) (F : Addr → Prop) (H : Hp) (fl : Fl) (d : D) (v : V) (F' : Addr → Prop) (H' : Hp) : Prop where
  sub : ∀ b, F b → F' b
  new : ∀ b, F' b → F b ∨ H b = none
  fin : ∀ b, F' b → H' b ≠ none
  same : Same H H'
  val : match fl with
    | .sh => Rep K FA F' H' d v
    | .fr => ∃ a, v = .ref a ∧ H a = none ∧ ¬ F' a ∧ RepM K FA F' H' d a
    | _ => False
abbrev Fin' (F : Addr → Prop) (H : Hp) : Prop := ∀ b, F b → H b ≠ none
theorem Res.flat (f : Fin' F H) (h : Rep K FA F H d v) : Res K FA F H .sh d v F H := ⟨fun _ h => h, fun _ h => .inl h, f, Same.refl H, h⟩
theorem same_upd {p : Addr} {o : HO} (h : H p = none) : Same H (upd H p o) := fun b x e => by
  rw [upd_ne (ne_of_none e h)]
  exact e
theorem fin_same {F : Addr → Prop} {H H' : Hp} (f : Fin' F H) (k : Same H H') : Fin' F H' := fun b h => by
  cases q : H b with
  | none => exact absurd q (f b h)
  | some o => rw [k b o q]; exact Option.some_ne_none _
/-- a new list -/
theorem Res.lst {p : Addr} (f : Fin' F H) (n : H p = none) (r : Reps K FA F H ds xs) : Res K FA F H .fr (.lst ds) (.ref p) F (upd H p (.lst xs)) :=
  ⟨fun _ h => h, fun _ h => .inl h, fin_same f (same_upd n), same_upd n, p, rfl, n, fun h => f p h n, xs, upd_same, r.mono (fun _ h => h) (.of_same (same_upd n))⟩
/-- a new tuple -/
theorem Res.tup {p : Addr} (f : Fin' F H) (n : H p = none) (r : Reps K FA F H ds xs) : Res K FA F H .sh (.tup ds) (.ref p) (fun b => F b ∨ b = p) (upd H p (.tup xs)) :=
  ⟨fun _ h => .inl h, fun b h => h.elim .inl fun e => .inr (e ▸ n), fun b h => h.elim (fin_same f (same_upd n) b) fun e => by rw [e, upd_same]; exact Option.some_ne_none _,
    same_upd n, p, xs, rfl, .inl ⟨.inr rfl, .inl upd_same⟩, r.mono (fun _ h => .inl h) (.of_same (same_upd n))⟩
end

theorem bnd_ok {α β : Type} {x : R α} {f : α → R β} {r : β} (h : bnd x f = .ok r) : ∃ a, x = .ok a ∧ f a = .ok r := by
  cases x with
  | error e => cases h
  | ok a => exact ⟨a, rfl, h⟩
theorem guard_ok {α : Type} {b : Bool} {x : R α} {r : α} (h : guardR b x = .ok r) : b = true ∧ x = .ok r := by
  unfold guardR at h
  split at h
  · rename_i q; exact ⟨q, h⟩
  · cases h
end AR

/-! Core3: the operators by values, over the layer's rules. -/
namespace AR
open PySem PySem.Spec PyProof.Rows L2

def bopT : Bop → Operator
  | .add => .Add | .sub => .Sub | .mul => .Mult | .fdiv => .FloorDiv | .mod => .Mod | .pow => .Pow
def copT : Cop → CmpOp
  | .eq => .Eq | .ne => .NotEq | .lt => .Lt | .le => .LtE | .gt => .Gt | .ge => .GtE | .is => .Is | .isnot => .IsNot | .isin => .In | .notin => .NotIn

/-! ### data as the library's data -/
mutual
def D.py : D → PyData
  | .non => .none
  | .bl b => .bool b
  | .int i => .int i
  | .str s => .str (strV s)
  | .tup ds => .tuple (D.pys ds)
  | .lst ds => .list (D.pys ds)
  | .dic _ => .none
  | .fn _ => .none
  | .scr _ => .none
def D.pys : List D → List PyData
  | [] => []
  | d :: ds => D.py d :: D.pys ds
end
theorem strV_inj {s t : List Nat} : strV s = strV t ↔ s = t := by
  unfold strV
  constructor
  · intro h
    injection h with h
    injection h
  · rintro rfl; rfl
theorem strV_len (s : List Nat) : (strV s).length = s.length := by
  show s.toArray.size = s.length
  simp
mutual
theorem eqv_py : ∀ (n m : Nat) (d e : D), D.flat n d = true → D.flat m e = true → PyData.eqv d.py e.py = D.eqv d e
  | n, m, .non, e, _, h => by cases e <;> first | rfl | (cases m <;> (simp [D.flat] at h)) | simp [D.py, D.eqv, PyData.eqv]
  | n, m, .bl b, e, _, h => by cases e <;> first | rfl | (cases m <;> (simp [D.flat] at h)) | simp [D.py, D.eqv, PyData.eqv]
  | n, m, .int b, e, _, h => by cases e <;> first | rfl | (cases m <;> (simp [D.flat] at h)) | simp [D.py, D.eqv, PyData.eqv]
  | n, m, .str b, .str c, _, h => by
    rw [D.py, D.py, PyData.eqv, D.eqv]
    by_cases q : b = c
    · subst q; simp
    · rw [beq_eq_false_iff_ne.mpr q, beq_eq_false_iff_ne.mpr fun z => q (strV_inj.mp z)]
  | n, m, .str b, .non, _, h => by simp [D.py, D.eqv, PyData.eqv]
  | n, m, .str b, .bl _, _, h => by simp [D.py, D.eqv, PyData.eqv]
  | n, m, .str b, .int _, _, h => by simp [D.py, D.eqv, PyData.eqv]
  | n, m, .str b, .tup _, _, h => by simp [D.py, D.eqv, PyData.eqv]
  | n, m, .str b, .lst _, _, h => by simp [D.py, D.eqv, PyData.eqv]
  | n, m, .str b, .dic _, _, h => by cases m <;> simp [D.flat] at h
  | n, m, .str b, .fn _, _, h => by cases m <;> simp [D.flat] at h
  | n, m, .str b, .scr _, _, h => by cases m <;> simp [D.flat] at h
  | n + 1, m + 1, .tup xs, .tup ys, h1, h2 => by
    rw [D.py, D.py, PyData.eqv, D.eqv]
    exact eqvs_py n m xs ys (by simpa [D.flat] using h1) (by simpa [D.flat] using h2)
  | n + 1, m + 1, .lst xs, .lst ys, h1, h2 => by
    rw [D.py, D.py, PyData.eqv, D.eqv]
    exact eqvs_py n m xs ys (by simpa [D.flat] using h1) (by simpa [D.flat] using h2)
  | 0, _, .tup _, _, h, _ => by simp [D.flat] at h
  | 0, _, .lst _, _, h, _ => by simp [D.flat] at h
  | _ + 1, 0, .tup _, .tup _, _, h => by simp [D.flat] at h
  | _ + 1, 0, .lst _, .lst _, _, h => by simp [D.flat] at h
  | n + 1, m, .tup _, .non, _, h => by simp [D.py, D.eqv, PyData.eqv]
  | n + 1, m, .tup _, .bl _, _, h => by simp [D.py, D.eqv, PyData.eqv]
  | n + 1, m, .tup _, .int _, _, h => by simp [D.py, D.eqv, PyData.eqv]
  | n + 1, m, .tup _, .str _, _, h => by simp [D.py, D.eqv, PyData.eqv]
  | n + 1, m, .tup _, .lst _, _, h => by simp [D.py, D.eqv, PyData.eqv]
  | n + 1, m, .tup _, .dic _, _, h => by cases m <;> simp [D.flat] at h
  | n + 1, m, .tup _, .fn _, _, h => by cases m <;> simp [D.flat] at h
  | n + 1, m, .tup _, .scr _, _, h => by cases m <;> simp [D.flat] at h
  | n + 1, m, .lst _, .non, _, h => by simp [D.py, D.eqv, PyData.eqv]
  | n + 1, m, .lst _, .bl _, _, h => by simp [D.py, D.eqv, PyData.eqv]
  | n + 1, m, .lst _, .int _, _, h => by simp [D.py, D.eqv, PyData.eqv]
  | n + 1, m, .lst _, .str _, _, h => by simp [D.py, D.eqv, PyData.eqv]
  | n + 1, m, .lst _, .tup _, _, h => by simp [D.py, D.eqv, PyData.eqv]
  | n + 1, m, .lst _, .dic _, _, h => by cases m <;> simp [D.flat] at h
  | n + 1, m, .lst _, .fn _, _, h => by cases m <;> simp [D.flat] at h
  | n + 1, m, .lst _, .scr _, _, h => by cases m <;> simp [D.flat] at h
  | n, m, .dic _, _, h, _ => by cases n <;> simp [D.flat] at h
  | n, m, .fn _, _, h, _ => by cases n <;> simp [D.flat] at h
  | n, m, .scr _, _, h, _ => by cases n <;> simp [D.flat] at h
theorem eqvs_py : ∀ (n m : Nat) (ds es : List D), D.flats n ds = true → D.flats m es = true → PyData.eqvAll (D.pys ds) (D.pys es) = D.eqvs ds es
  | n, m, [], [], _, _ => rfl
  | n, m, [], e :: es, _, _ => rfl
  | n, m, d :: ds, [], _, _ => rfl
  | n, m, d :: ds, e :: es, h1, h2 => by
    rw [D.flats, Bool.and_eq_true] at h1 h2
    rw [D.pys, D.pys, PyData.eqvAll, D.eqvs, eqv_py n m d e h1.1 h2.1, eqvs_py n m ds es h1.2 h2.2]
end
mutual
theorem canLay_py : ∀ (n : Nat) (d : D), D.flat n d = true → d.py.canLay0 = true ∧ d.py.depth ≤ n
  | n, .non, _ => by simp [D.py, PyData.canLay0, PyData.depth]
  | n, .bl _, _ => by simp [D.py, PyData.canLay0, PyData.depth]
  | n, .int _, _ => by simp [D.py, PyData.canLay0, PyData.depth]
  | n, .str s, h => by
    have h' : (s.all fun c => decide (c < 1114112)) = true := by cases n <;> simpa [D.flat] using h
    have : PyData.strOk (strV s) = true := by
      unfold PyData.strOk strV
      simpa using h'
    simp [D.py, PyData.canLay0, PyData.depth, this]
  | 0, .tup _, h => by simp [D.flat] at h
  | 0, .lst _, h => by simp [D.flat] at h
  | n + 1, .tup ds, h => by
    obtain ⟨h1, h2⟩ := canLays_py n ds (by simpa [D.flat] using h)
    simp only [D.py, PyData.canLay0, PyData.depth]
    exact ⟨h1, by omega⟩
  | n + 1, .lst ds, h => by
    obtain ⟨h1, h2⟩ := canLays_py n ds (by simpa [D.flat] using h)
    simp only [D.py, PyData.canLay0, PyData.depth]
    exact ⟨h1, by omega⟩
  | n, .dic _, h => by cases n <;> simp [D.flat] at h
  | n, .fn _, h => by cases n <;> simp [D.flat] at h
  | n, .scr _, h => by cases n <;> simp [D.flat] at h
theorem canLays_py : ∀ (n : Nat) (ds : List D), D.flats n ds = true → PyData.canLayAll0 (D.pys ds) = true ∧ PyData.depthAll (D.pys ds) ≤ n
  | n, [], _ => by simp [D.pys, PyData.canLayAll0, PyData.depthAll]
  | n, d :: ds, h => by
    rw [D.flats, Bool.and_eq_true] at h
    obtain ⟨h1, h2⟩ := canLay_py n d h.1
    obtain ⟨h3, h4⟩ := canLays_py n ds h.2
    simp only [D.pys, PyData.canLayAll0, PyData.depthAll, Bool.and_eq_true]
    exact ⟨⟨h1, h3⟩, by omega⟩
end
theorem shaped_py {d : D} (h : D.flat 60 d = true) : SeqAt.shaped d.py = true := by
  obtain ⟨h1, h2⟩ := canLay_py 60 d h
  unfold SeqAt.shaped
  rw [h1, Bool.true_and]
  exact decide_eq_true (by omega)

section
variable {K : PySem.W.Frag} {FA : Nat → Option Addr} {F : Addr → Prop} {H : Hp}
mutual
theorem Rep.dp : ∀ (n : Nat) (d : D) (v : V), D.flat n d = true → Rep K FA F H d v → Dp K H v d.py
  | _, .non, _, _, h => by rw [show _ = V.non from h]; exact .non
  | _, .bl b, _, _, h => by rw [show _ = V.bl b from h]; exact .bl b
  | _, .int b, _, _, h => by rw [show _ = V.int b from h]; exact .int b
  | _, .str b, _, _, h => by rw [show _ = V.str (strV b) from h]; exact .str _
  | 0, .tup _, _, f, _ => by simp [D.flat] at f
  | 0, .lst _, _, f, _ => by simp [D.flat] at f
  | n + 1, .tup ds, _, f, ⟨a, xs, e, t, r⟩ => by
    subst e
    exact .tup t.sq (Reps.dp n ds xs (by simpa [D.flat] using f) r)
  | n + 1, .lst ds, _, f, ⟨a, xs, e, _, t, r⟩ => by
    subst e
    exact .lst (SqL.of t) (Reps.dp n ds xs (by simpa [D.flat] using f) r)
  | n, .dic _, _, f, _ => by cases n <;> simp [D.flat] at f
  | n, .fn _, _, f, _ => by cases n <;> simp [D.flat] at f
  | n, .scr _, _, f, _ => by cases n <;> simp [D.flat] at f
theorem Reps.dp : ∀ (n : Nat) (ds : List D) (vs : List V), D.flats n ds = true → Reps K FA F H ds vs → DpAll K H vs (D.pys ds)
  | _, [], _, _, h => by rw [show _ = [] from h]; exact .nil
  | n, d :: ds, _, f, ⟨v, r, e, h, t⟩ => by
    subst e
    rw [D.flats, Bool.and_eq_true] at f
    exact .cons (Rep.dp n d v f.1 h) (Reps.dp n ds r f.2 t)
end
theorem Pk.dp {n : Nat} {d : D} {v : V} (f : D.flat n d = true) (h : Pk K FA F H d v) : Dp K H v d.py := by
  rcases h with h | ⟨a, e, h⟩
  · exact h.dp n d v f
  · subst e
    cases d with
    | lst ds =>
      obtain ⟨xs, h, r⟩ := h
      cases n with
      | zero => simp [D.flat] at f
      | succ n => exact .lst (SqL.of h) (Reps.dp n ds xs (by simpa [D.flat] using f) r)
    | _ => exact h.elim
end

/-! ### binary operators -/
section
variable (X : Cx) (FA : Nat → Option Addr)
/-- an operation on two values, by data -/
def rOp (K : PySem.W.Frag) (f : D → D → R (Fl × D)) : R2 := fun x y H Q => ∃ F d e r, Fin' F H ∧ Pk K FA F H d x ∧ Pk K FA F H e y ∧ f d e = .ok r ∧ ∀ v F' H', Res K FA F H r.1 r.2 v F' H' → Q v H'
end
section
variable {X : Cx} {FA : Nat → Option Addr}
theorem smallI_mul {i j : Int} (h : (smallI i || smallI j) = true) : CMul i j := by
  unfold smallI at h
  simp only [Bool.or_eq_true, Bool.and_eq_true, decide_eq_true_eq] at h
  exact h
theorem op_bin (op : Bop) : OpR X (binaryOp (bopT op)) (rOp FA X.K (binop op)) := by
  intro pins s σ H x y v u Q I rx ry ⟨F, d, e, r, fi, hd, he, hr, q⟩
  cases op with
  | add =>
    cases d with
    | int i =>
      cases e with
      | int j =>
        cases hr
        exact op_add pins s σ H x y v u Q I rx ry ⟨i, j, hd.int, he.int, q _ _ _ (.flat fi rfl)⟩
      | _ => cases hr
    | str i =>
      cases e with
      | str j =>
        obtain ⟨hz, hr⟩ := guard_ok hr
        cases hr
        refine op_add_str pins s σ H x y v u Q I rx ry ⟨strV i, strV j, hd.str, he.str, ?_, ?_⟩
        · rw [strV_len, strV_len]; exact of_decide_eq_true hz
        · have e1 : strV i ++ strV j = strV (i ++ j) := by
            show (⟨i.toArray ++ j.toArray⟩ : Str) = ⟨(i ++ j).toArray⟩
            simp
          rw [e1]
          exact q _ _ _ (.flat fi rfl)
      | _ => cases hr
    | lst i =>
      cases e with
      | lst j =>
        obtain ⟨hz, hr⟩ := guard_ok hr
        cases hr
        obtain ⟨a, xs, e1, h1, r1⟩ := hd.lst
        obtain ⟨b, ys, e2, h2, r2⟩ := he.lst
        refine op_cat pins s σ H x y v u Q I rx ry ⟨a, b, xs, ys, e1, e2, h1, h2, ?_, fun p np => q _ _ _ (.lst fi np (r1.app r2))⟩
        rw [← r1.len, ← r2.len]; exact of_decide_eq_true hz
      | _ => cases hr
    | tup i =>
      cases e with
      | tup j =>
        obtain ⟨hz, hr⟩ := guard_ok hr
        cases hr
        obtain ⟨a, xs, e1, h1, r1⟩ := hd.tup
        obtain ⟨b, ys, e2, h2, r2⟩ := he.tup
        refine op_catA pins s σ H x y v u Q I rx ry ⟨a, b, xs, ys, e1, e2, h1.sq, h2.sq, ?_, fun z => ?_, fun _ z => ?_, fun _ _ p np => q _ _ _ (.tup fi np (r1.app r2))⟩
        · rw [← r1.len, ← r2.len]; exact of_decide_eq_true hz
        · subst z
          have : i = [] := List.eq_nil_of_length_eq_zero (by rw [r1.len]; rfl)
          subst this
          exact q _ _ _ (.flat fi ⟨b, ys, rfl, h2, r2⟩)
        · subst z
          have : j = [] := List.eq_nil_of_length_eq_zero (by rw [r2.len]; rfl)
          subst this
          rw [List.append_nil] at q
          exact q _ _ _ (.flat fi ⟨a, xs, rfl, h1, r1⟩)
      | _ => cases hr
    | _ => cases hr
  | sub =>
    cases d with
    | int i =>
      cases e with
      | int j =>
        cases hr
        exact op_sub pins s σ H x y v u Q I rx ry ⟨i, j, hd.int, he.int, q _ _ _ (.flat fi rfl)⟩
      | _ => cases hr
    | _ => cases hr
  | mul =>
    cases d with
    | int i =>
      cases e with
      | int j =>
        obtain ⟨hz, hr⟩ := guard_ok hr
        cases hr
        exact op_mul pins s σ H x y v u Q I rx ry ⟨i, j, hd.int, he.int, smallI_mul hz, q _ _ _ (.flat fi rfl)⟩
      | _ => cases hr
    | tup i =>
      cases e with
      | int j =>
        obtain ⟨hz, hr⟩ := guard_ok hr
        cases hr
        simp only [Bool.and_eq_true, decide_eq_true_eq] at hz
        obtain ⟨a, xs, e1, h1, r1⟩ := hd.tup
        refine op_repT pins s σ H x y v u Q I rx ry ⟨a, j, xs, e1, he.int, h1.sq, ?_, hz.1.1.2, hz.1.2, by rw [← r1.len]; exact hz.2, fun p np => q _ _ _ (.tup fi np (r1.rep _))⟩
        intro z
        subst z
        have : i = [] := List.eq_nil_of_length_eq_zero (by rw [r1.len]; rfl)
        subst this
        exact absurd hz.1.1.1 (by decide)
      | _ => cases hr
    | _ => cases hr
  | fdiv =>
    cases d with
    | int i =>
      cases e with
      | int j =>
        obtain ⟨hz, hr⟩ := guard_ok hr
        cases hr
        simp only [Bool.and_eq_true, decide_eq_true_eq] at hz
        exact op_fdiv pins s σ H x y v u Q I rx ry ⟨i, j, hd.int, he.int, hz, q _ _ _ (.flat fi rfl)⟩
      | _ => cases hr
    | _ => cases hr
  | mod =>
    cases d with
    | int i =>
      cases e with
      | int j =>
        obtain ⟨hz, hr⟩ := guard_ok hr
        cases hr
        exact op_mod pins s σ H x y v u Q I rx ry ⟨i, j, hd.int, he.int, of_decide_eq_true hz, q _ _ _ (.flat fi rfl)⟩
      | _ => cases hr
    | _ => cases hr
  | pow =>
    cases d with
    | int i =>
      cases e with
      | int j =>
        obtain ⟨hz, hr⟩ := guard_ok hr
        cases hr
        simp only [Bool.and_eq_true, decide_eq_true_eq] at hz
        exact op_pow pins s σ H x y v u Q I rx ry ⟨i, j, hd.int, he.int, ⟨hz.1.1, hz.1.2, hz.2⟩, q _ _ _ (.flat fi rfl)⟩
      | _ => cases hr
    | _ => cases hr
end
end AR

/-! Core4: comparisons, items, slices, built-ins by values. -/
namespace AR
open PySem PySem.Spec PyProof.Rows L2

def cmpR (op : Cop) (d e : D) : R (Fl × D) := bnd (cmpop op d e) fun k => .ok (.sh, .bl k)
theorem ltS_eq : ∀ x y : List Nat, decide (x < y) = ltS x y
  | [], [] => rfl
  | [], b :: y => by
    rw [ltS]
    exact decide_eq_true (List.nil_lt_cons b y)
  | a :: x, [] => by
    rw [ltS]
    exact decide_eq_false (List.not_lt_nil _)
  | a :: x, b :: y => by
    rw [ltS]
    by_cases h : a = b
    · subst h
      rw [if_pos rfl, ← ltS_eq x y]
      apply decide_eq_decide.mpr
      rw [List.cons_lt_cons_iff]
      constructor
      · rintro (h | h)
        · exact absurd h (Nat.lt_irrefl _)
        · exact h.2
      · exact fun h => .inr ⟨rfl, h⟩
    · rw [if_neg h]
      apply decide_eq_decide.mpr
      rw [List.cons_lt_cons_iff]
      constructor
      · rintro (q | q)
        · exact q
        · exact absurd q.1 h
      · exact fun q => .inl q

section
variable {K : PySem.W.Frag} {FA : Nat → Option Addr} {F : Addr → Prop} {H : Hp}
theorem scal_flat {d : D} {v : V} (h : d.scal = true) (r : Rep K FA F H d v) : flatV v = true := by
  cases d with
  | non => rw [show v = V.non from r]; rfl
  | bl _ => rw [show v = V.bl _ from r]; rfl
  | int _ => rw [show v = V.int _ from r]; rfl
  | str _ => rw [show v = V.str _ from r]; rfl
  | _ => cases h
theorem scal_pk {d : D} {v : V} (h : d.scal = true) (r : Pk K FA F H d v) : Rep K FA F H d v := by
  cases d with
  | lst _ => cases h
  | _ => exact r.rep (by intro ds e; cases e)
theorem scal_eqv {d e : D} {v w : V} (h : d.scal = true) (h' : e.scal = true) (r : Rep K FA F H d v) (r' : Rep K FA F H e w) : eqV v w = D.eqv d e := by
  cases d with
  | non =>
    rw [show v = V.non from r]
    cases e with
    | non => rw [show w = V.non from r']; rfl
    | bl _ => rw [show w = V.bl _ from r']; rfl
    | int _ => rw [show w = V.int _ from r']; rfl
    | str _ => rw [show w = V.str _ from r']; rfl
    | _ => cases h'
  | bl b =>
    rw [show v = V.bl _ from r]
    cases e with
    | non => rw [show w = V.non from r']; simp [eqV, D.eqv]
    | bl _ => rw [show w = V.bl _ from r']; simp [eqV, D.eqv]
    | int _ => rw [show w = V.int _ from r']; simp [eqV, D.eqv, b2i]
    | str _ => rw [show w = V.str _ from r']; simp [eqV, D.eqv]
    | _ => cases h'
  | int b =>
    rw [show v = V.int _ from r]
    cases e with
    | non => rw [show w = V.non from r']; simp [eqV, D.eqv]
    | bl _ => rw [show w = V.bl _ from r']; simp [eqV, D.eqv, b2i]
    | int _ => rw [show w = V.int _ from r']; simp [eqV, D.eqv]
    | str _ => rw [show w = V.str _ from r']; simp [eqV, D.eqv]
    | _ => cases h'
  | str b =>
    rw [show v = V.str _ from r]
    cases e with
    | non => rw [show w = V.non from r']; simp [eqV, D.eqv]
    | bl _ => rw [show w = V.bl _ from r']; simp [eqV, D.eqv]
    | int _ => rw [show w = V.int _ from r']; simp [eqV, D.eqv]
    | str c =>
      rw [show w = V.str _ from r']
      simp only [eqV, D.eqv]
      by_cases q : b = c
      · subst q; simp
      · rw [beq_eq_false_iff_ne.mpr q, beq_eq_false_iff_ne.mpr fun z => q (strV_inj.mp z)]
    | _ => cases h'
  | _ => cases h
theorem inV_eq {x : D} {v : V} (hx : x.scal = true) (rx : Rep K FA F H x v) : ∀ {ds : List D} {vs : List V}, ds.all D.scal = true → Reps K FA F H ds vs → vs.all flatV = true ∧ inV v vs = ds.any fun y => D.eqv y x
  | [], _, _, h => by cases h; exact ⟨rfl, rfl⟩
  | d :: ds, _, f, ⟨w, r, e, h, t⟩ => by
    subst e
    rw [List.all_cons, Bool.and_eq_true] at f
    obtain ⟨h1, h2⟩ := inV_eq hx rx f.2 t
    refine ⟨by rw [List.all_cons, scal_flat f.1 h, h1]; rfl, ?_⟩
    show (w :: r).any (fun y => eqV y v) = _
    rw [List.any_cons, List.any_cons, scal_eqv f.1 hx h rx]
    exact congrArg _ h2
theorem anyPy {x : D} (hx : D.flat 60 x = true) : ∀ {ds : List D}, D.flats 60 ds = true → ((D.pys ds).any fun z => PyData.eqv z x.py) = ds.any fun y => D.eqv y x
  | [], _ => rfl
  | d :: ds, h => by
    rw [D.flats, Bool.and_eq_true] at h
    rw [D.pys, List.any_cons, List.any_cons, eqv_py 60 60 d x h.1 hx, anyPy hx h.2]
theorem shapedL {ds : List D} (h : D.flats 60 ds = true) : SeqAt.shaped (.list (D.pys ds)) = true := by
  obtain ⟨h1, h2⟩ := canLays_py 60 ds h
  unfold SeqAt.shaped
  rw [show PyData.canLay0 (.list (D.pys ds)) = true by simp [PyData.canLay0, h1], Bool.true_and]
  refine decide_eq_true ?_
  simp only [PyData.depth]
  omega
theorem Pk.lstDp {ds : List D} {v : V} (f : D.flats 60 ds = true) (h : Pk K FA F H (.lst ds) v) : Dp K H v (.list (D.pys ds)) := by
  obtain ⟨a, xs, e, h1, r⟩ := h.lst
  subst e
  exact .lst (SqL.of h1) (Reps.dp 60 ds xs f r)
theorem Pk.none_iff {d : D} {v : V} (h : Pk K FA F H d v) : decide (v = V.non) = d.isNon := by
  cases d with
  | non => rw [h.non]; rfl
  | bl _ => rw [h.bl]; rfl
  | int _ => rw [h.int]; rfl
  | str _ => rw [h.str]; rfl
  | tup _ => obtain ⟨a, _, e, _⟩ := h.tup; rw [e]; rfl
  | lst _ => obtain ⟨a, _, e, _⟩ := h.lst; rw [e]; rfl
  | dic _ => exact h.dic.elim
  | fn _ => obtain ⟨a, e, _⟩ := h.fn; rw [e]; rfl
  | scr _ => obtain ⟨a, e, _⟩ := h.scr; rw [e]; rfl
end

section
variable {X : Cx} {FA : Nat → Option Addr}
theorem cmpR_ok {op : Cop} {d e : D} {r : Fl × D} (h : cmpR op d e = .ok r) : ∃ k, cmpop op d e = .ok k ∧ r = (.sh, .bl k) := by
  obtain ⟨k, h1, h2⟩ := bnd_ok h
  cases h2
  exact ⟨k, h1, rfl⟩
theorem inop_rule (neg : Bool) (hu : X.A.units + 65 < cLine) : OpR X (compareOp (if neg then .NotIn else .In)) (fun x y H Q => ∃ F d e k, Fin' F H ∧ Pk X.K FA F H d x ∧ Pk X.K FA F H e y ∧ inop d e = .ok k ∧ Q (.bl (if neg then !k else k)) H) := by
  intro pins s σ H x y v u Q I rx ry ⟨F, d, e, k, fi, hd, he, hk, q⟩
  cases e with
  | tup ds =>
    obtain ⟨f, hk⟩ := guard_ok hk
    cases hk
    rw [Bool.and_eq_true] at f
    obtain ⟨a, xs, e1, h1, r1⟩ := he.tup
    have rd := scal_pk f.1 hd
    obtain ⟨i1, i2⟩ := inV_eq f.1 rd f.2 r1
    cases neg with
    | true =>
      refine op_notIn_seq pins s σ H x y v u Q I rx ry ⟨a, xs, e1, .inr h1.sq, scal_flat f.1 rd, i1, ?_⟩
      rw [if_pos rfl, i2]; exact q
    | false =>
      refine op_in_seq pins s σ H x y v u Q I rx ry ⟨a, xs, e1, .inr h1.sq, scal_flat f.1 rd, i1, ?_⟩
      rw [if_neg Bool.false_ne_true, i2]; exact q
  | lst ds =>
    obtain ⟨f, hk⟩ := guard_ok hk
    cases hk
    rw [Bool.and_eq_true] at f
    cases neg with
    | true =>
      refine op_notInD hu pins s σ H x y v u Q I rx ry ⟨d.py, D.pys ds, hd.dp f.1, he.lstDp f.2, shaped_py f.1, shapedL f.2, ?_⟩
      rw [anyPy f.1 f.2]; exact q
    | false =>
      refine op_inD hu pins s σ H x y v u Q I rx ry ⟨d.py, D.pys ds, hd.dp f.1, he.lstDp f.2, shaped_py f.1, shapedL f.2, ?_⟩
      rw [anyPy f.1 f.2]; exact q
  | str z =>
    cases d with
    | str c =>
      match c, hk, hd with
      | [c], hk, hd =>
        cases hk
        have e2 : decide (c ∈ (strV z).cps.toList) = decide (c ∈ z) := decide_eq_decide.mpr (by simp [strV])
        cases neg with
        | true =>
          refine op_notIn_sign pins s σ H x y v u Q I rx ry ⟨c, strV z, hd.str, he.str, ?_⟩
          rw [e2]; exact q
        | false =>
          refine op_in_sign pins s σ H x y v u Q I rx ry ⟨c, strV z, hd.str, he.str, ?_⟩
          rw [e2]; exact q
      | [], hk, hd => cases hk
      | _ :: _ :: _, hk, hd => cases hk
    | _ => cases hk
  | dic kvs => exact he.dic.elim
  | _ => cases hk
theorem op_cop (op : Cop) (hu : X.A.units + 65 < cLine) : OpR X (compareOp (copT op)) (rOp FA X.K (cmpR op)) := by
  intro pins s σ H x y v u Q I rx ry ⟨F, d, e, r, fi, hd, he, hr, q⟩
  obtain ⟨k, hk, rfl⟩ := cmpR_ok hr
  have fin : Q (.bl k) H := q _ _ _ (.flat fi rfl)
  cases op with
  | eq =>
    obtain ⟨f, hk⟩ := guard_ok hk
    rw [Bool.and_eq_true] at f
    cases hk
    refine op_eqD (by omega) pins s σ H x y v u Q I rx ry ⟨d.py, e.py, hd.dp f.1, he.dp f.2, shaped_py f.1, shaped_py f.2, ?_⟩
    rw [eqv_py 60 60 d e f.1 f.2]; exact fin
  | ne =>
    obtain ⟨f, hk⟩ := guard_ok hk
    rw [Bool.and_eq_true] at f
    cases hk
    refine op_neD (by omega) pins s σ H x y v u Q I rx ry ⟨d.py, e.py, hd.dp f.1, he.dp f.2, shaped_py f.1, shaped_py f.2, ?_⟩
    rw [eqv_py 60 60 d e f.1 f.2]; exact fin
  | lt =>
    cases d with
    | int i =>
      cases e with
      | int j => cases hk; exact op_lt pins s σ H x y v u Q I rx ry ⟨i, j, hd.int, he.int, fin⟩
      | _ => cases hk
    | str i =>
      cases e with
      | str j =>
        cases hk
        refine op_lt_str pins s σ H x y v u Q I rx ry ⟨strV i, strV j, hd.str, he.str, ?_⟩
        rw [← ltS_eq] at fin
        exact fin
      | _ => cases hk
    | _ => cases hk
  | le =>
    cases d with
    | int i =>
      cases e with
      | int j => cases hk; exact op_le pins s σ H x y v u Q I rx ry ⟨i, j, hd.int, he.int, fin⟩
      | _ => cases hk
    | _ => cases hk
  | gt =>
    cases d with
    | int i =>
      cases e with
      | int j => cases hk; exact op_gt pins s σ H x y v u Q I rx ry ⟨i, j, hd.int, he.int, fin⟩
      | _ => cases hk
    | _ => cases hk
  | ge =>
    cases d with
    | int i =>
      cases e with
      | int j => cases hk; exact op_ge pins s σ H x y v u Q I rx ry ⟨i, j, hd.int, he.int, fin⟩
      | _ => cases hk
    | _ => cases hk
  | is =>
    cases e with
    | non =>
      have hk' : k = d.isNon := by cases d <;> cases hk <;> rfl
      refine op_isN pins s σ H x y v u Q I rx ry ⟨he.non, ?_⟩
      rw [hd.none_iff, ← hk']; exact fin
    | bl b =>
      cases d with
      | bl a =>
        cases hk
        refine op_isBl pins s σ H x y v u Q I rx ry ⟨a, b, hd.bl, he.bl, ?_⟩
        rw [show decide (a = b) = (a == b) by cases a <;> cases b <;> rfl]; exact fin
      | _ => cases hk
    | _ => cases d <;> cases hk
  | isnot =>
    cases e with
    | non =>
      have hk' : k = !d.isNon := by cases d <;> cases hk <;> rfl
      refine op_notN pins s σ H x y v u Q I rx ry ⟨he.non, ?_⟩
      rw [hd.none_iff, ← hk']; exact fin
    | bl b =>
      cases d with
      | bl a =>
        cases hk
        refine op_notBl pins s σ H x y v u Q I rx ry ⟨a, b, hd.bl, he.bl, ?_⟩
        rw [show (!decide (a = b)) = (a != b) by cases a <;> cases b <;> rfl]; exact fin
      | _ => cases hk
    | _ => cases d <;> cases hk
  | isin =>
    exact inop_rule false hu pins s σ H x y v u Q I rx ry ⟨F, d, e, k, fi, hd, he, by simpa [cmpop] using hk, fin⟩
  | notin =>
    have hk2 : ∃ k', inop d e = .ok k' ∧ k = !k' := by
      simp only [cmpop] at hk
      cases q : inop d e with
      | error z => rw [q] at hk; cases hk
      | ok k' => rw [q] at hk; cases hk; exact ⟨k', rfl, rfl⟩
    obtain ⟨k', h1, rfl⟩ := hk2
    exact inop_rule true hu pins s σ H x y v u Q I rx ry ⟨F, d, e, k', fi, hd, he, h1, fin⟩

/-! ### items -/
theorem atI_rep {K : PySem.W.Frag} {F : Addr → Prop} {H : Hp} {ds : List D} {xs : List V} {i : Int} {d : D} (r : Reps K FA F H ds xs) (h : atI ds i = some d) : ∃ v, atI xs i = some v ∧ Rep K FA F H d v := by
  unfold atI at h ⊢
  rw [r.len] at h
  cases q : ixN xs.length i with
  | none => rw [q] at h; cases h
  | some j =>
    rw [q] at h
    obtain ⟨v, h1, h2⟩ := r.get (i := j) h
    exact ⟨v, h1, h2⟩
theorem atI_map {α β : Type} (f : α → β) (xs : List α) (i : Int) : atI (xs.map f) i = (atI xs i).map f := by
  unfold atI
  rw [List.length_map]
  cases ixN xs.length i with
  | none => rfl
  | some j => simp
def subR (d e : D) : R (Fl × D) := bnd (subop d e) fun r => .ok (.sh, r)
theorem ix_sub : IxR X (rOp FA X.K subR) := by
  intro ve se pins s σ H x y v u Q I rx ry ⟨F, d, e, r, fi, hd, he, hr, q⟩ hss
  obtain ⟨r', hk, h2⟩ := bnd_ok hr
  cases h2
  have fin : ∀ w, Rep X.K FA F H r' w → Q w H := fun w hw => q w F H (.flat fi hw)
  cases d with
  | tup ds =>
    cases e with
    | int i =>
      obtain ⟨a, xs, e1, h1, r1⟩ := hd.tup
      simp only [subop] at hk
      cases qa : atI ds i with
      | none => rw [qa] at hk; cases hk
      | some d' =>
        rw [qa] at hk; cases hk
        obtain ⟨w, h2, h3⟩ := atI_rep r1 qa
        exact ix_tup ve se pins s σ H x y v u Q I rx ry ⟨a, xs, i, w, e1, he.int, h1.sq, h2, fin w h3⟩ hss
    | _ => cases hk
  | lst ds =>
    cases e with
    | int i =>
      obtain ⟨a, xs, e1, h1, r1⟩ := hd.lst
      simp only [subop] at hk
      cases qa : atI ds i with
      | none => rw [qa] at hk; cases hk
      | some d' =>
        rw [qa] at hk; cases hk
        obtain ⟨w, h2, h3⟩ := atI_rep r1 qa
        exact ix_list ve se pins s σ H x y v u Q I rx ry ⟨a, xs, i, w, e1, he.int, SqL.of h1, h2, fin w h3⟩ hss
    | _ => cases hk
  | scr ns =>
    cases e with
    | int i =>
      obtain ⟨a, e1, h1⟩ := hd.scr
      simp only [subop] at hk
      cases qa : atI ns i with
      | none => rw [qa] at hk; cases hk
      | some d' =>
        rw [qa] at hk; cases hk
        exact ix_list ve se pins s σ H x y v u Q I rx ry ⟨a, _, i, V.int d', e1, he.int, h1.sq, by rw [atI_map, qa]; rfl, fin _ rfl⟩ hss
    | _ => cases hk
  | str z =>
    cases e with
    | int i =>
      obtain ⟨f, hk⟩ := guard_ok hk
      cases qa : atI z i with
      | none => rw [qa] at hk; cases hk
      | some c =>
        rw [qa] at hk; cases hk
        refine ix_str ve se pins s σ H x y v u Q I rx ry ⟨strV z, i, c, hd.str, he.int, by rw [strV_len]; exact of_decide_eq_true f, ?_, fin _ rfl⟩ hss
        have : (strV z).cps.toList = z := by simp [strV]
        rw [this]; exact qa
    | _ => cases hk
  | dic kvs => exact hd.dic.elim
  | _ => cases e <;> cases hk

/-! ### slices -/
theorem cut_rep {K : PySem.W.Frag} {F : Addr → Prop} {H : Hp} {ds : List D} {xs : List V} (r : Reps K FA F H ds xs) (lo hi : Option Int) : Reps K FA F H (cut ds lo hi) (cutV xs lo hi) := by
  unfold cut cutV
  rw [r.len]
  exact (r.drop _).take _
theorem cut_whole {K : PySem.W.Frag} {F : Addr → Prop} {H : Hp} {ds : List D} {xs : List V} (r : Reps K FA F H ds xs) {lo hi : Option Int} (h : HT.sIx xs.length 0 lo = 0 ∧ HT.sIx xs.length xs.length hi = xs.length) : cut ds lo hi = ds := by
  unfold cut
  rw [r.len, h.1, h.2, List.drop_zero, Nat.sub_zero, ← r.len, List.take_length]
def rSlc (FA : Nat → Option Addr) (K : PySem.W.Frag) : V → Option Int → Option Int → Hp → VK → Prop := fun x lo hi H Q => ∃ F d r, Fin' F H ∧ Pk K FA F H d x ∧ slcop d lo hi = .ok r ∧ ∀ v F' H', Res K FA F H r.1 r.2 v F' H' → Q v H'
theorem sl_all : SlR X (rSlc FA X.K) := by
  intro pins s σ H x v vl vu lo hi sl Q I rx hs pl pu hh
  obtain ⟨F, d, r, fi, hd, hr, q⟩ := hh
  cases d with
  | tup ds =>
    cases hr
    obtain ⟨a, xs, e1, h1, r1⟩ := hd.tup
    refine sl_tupA pins s σ H x v vl vu lo hi sl Q I rx hs pl pu ⟨a, xs, e1, h1.sq, fun z => ?_, fun _ p np => q _ _ _ (.tup fi np (cut_rep r1 lo hi))⟩
    rw [cut_whole r1 z] at q
    exact q _ _ _ (.flat fi ⟨a, xs, rfl, h1, r1⟩)
  | lst ds =>
    cases hr
    obtain ⟨a, xs, e1, h1, r1⟩ := hd.lst
    exact sl_list pins s σ H x v vl vu lo hi sl Q I rx hs pl pu ⟨a, xs, e1, SqL.of h1, fun p np => q _ _ _ (.lst fi np (cut_rep r1 lo hi))⟩
  | _ => cases hr
end
end AR

/-! Core5: the built-ins by values. -/
namespace AR
open PySem PySem.Spec PyProof.Rows L2

/-! ### max, min of tuples of ints -/
section
variable {prog : Program} {w : World} {A : Around} {E : Value → Shared → Prop} {s : Shared} {l : Addr} {xs : Array (Int × Tok)}
theorem iter_intTup {Q : Value → Shared → Prop} (hl : s.heap.IsTuple l (intItems xs))
    (h : ∀ s₂ : Shared, s₂ = { s with heap := s.heap.push { cls := .type "tuple_iterator", data := .fields #[.ref l, .int 0 0] } } →
      (s₂.heap.get? s.heap.objs.size = some { cls := .type "tuple_iterator", data := .fields #[.ref l, .int 0 0] } ∧ s₂.heap.IsTuple l (intItems xs)) → (∀ b ∈ [s.heap.objs.size, l], b < s₂.heap.objs.size) → l ≠ s.heap.objs.size → Q (.ref s.heap.objs.size) s₂) :
    wpAny (model prog w) A (pyIter (.ref l)) Q E s := by
  have hlt : l < s.heap.objs.size := by obtain ⟨_, e, _⟩ := hl; exact Heap.lt_size e
  refine wpAny_pyIter_tuple hl (h _ rfl ⟨Heap.get?_push_size _ rfl, hl.push _⟩ (fun b hb => ?_) (Nat.ne_of_lt hlt))
  show b < (s.heap.push _).objs.size
  rw [Heap.size_push]
  rcases List.mem_cons.mp hb with rfl | hb
  · exact Nat.lt_succ_self _
  · rcases List.mem_cons.mp hb with rfl | hb
    · exact Nat.lt_succ_of_lt hlt
    · cases hb
theorem old_keptT {h' : Heap} (hk : ∀ b o, b ∉ [s.heap.objs.size] → (s.heap.push { cls := .type "tuple_iterator", data := .fields #[.ref l, .int 0 0] }).get? b = some o → h'.get? b = some o) :
    ∀ b o, s.heap.get? b = some o → h'.get? b = some o := fun b o e => by
  refine hk b o (fun hm => ?_) (Heap.get?_push_of_some _ e)
  rcases List.mem_cons.mp hm with e1 | hm
  · exact absurd (e1 ▸ Heap.lt_size e) (Nat.lt_irrefl _)
  · cases hm
theorem max_intTup {Q : Value → Shared → Prop} (hh : A.handled = none) (hl : s.heap.IsTuple l (intItems xs)) (hne : 0 < xs.size)
    (h : ∀ v h' tk, (intItems xs)[argBest (fun i j => decide (numAt xs i > numAt xs j)) (xs.size - 1)]? = some v → (∀ b o, s.heap.get? b = some o → h'.get? b = some o) → Q v { s with heap := h', toks := tk }) :
    wpAny (model prog w) A (call (.builtin "max") [.ref l]) Q E s := by
  refine call_max_walk (iter_intTup hl fun s₂ e st hfp hlI => ?_)
  subst e
  refine ⟨_, _, _, _, _, _, _, rfl, Walks.tuple (A := A.in1) hh _ l hlI (intItems xs), ⟨⟨_, st.1, rfl, rfl⟩, st.2⟩, hfp, by simpa [intItems] using hne, CmpOf.ints_gt (numAt xs) (fun _ _ => intItems_at), fun v h' tk hP hk => ?_⟩
  exact h v h' tk (by simpa [intItems] using hP) (old_keptT hk)
theorem min_intTup {Q : Value → Shared → Prop} (hh : A.handled = none) (hl : s.heap.IsTuple l (intItems xs)) (hne : 0 < xs.size)
    (h : ∀ v h' tk, (intItems xs)[argBest (fun i j => decide (numAt xs i < numAt xs j)) (xs.size - 1)]? = some v → (∀ b o, s.heap.get? b = some o → h'.get? b = some o) → Q v { s with heap := h', toks := tk }) :
    wpAny (model prog w) A (call (.builtin "min") [.ref l]) Q E s := by
  refine call_min_walk (iter_intTup hl fun s₂ e st hfp hlI => ?_)
  subst e
  refine ⟨_, _, _, _, _, _, _, rfl, Walks.tuple (A := A.in1) hh _ l hlI (intItems xs), ⟨⟨_, st.1, rfl, rfl⟩, st.2⟩, hfp, by simpa [intItems] using hne, CmpOf.ints_lt (numAt xs) (fun _ _ => intItems_at), fun v h' tk hP hk => ?_⟩
  exact h v h' tk (by simpa [intItems] using hP) (old_keptT hk)
variable {its : List Value} {ns : List Int} {Q : Value → Shared → Prop}
theorem max_rawT (hh : A.handled = none) (hl : s.heap.IsTuple l its.toArray) (hi : IntsAre its ns) (hne : 0 < ns.length)
    (h : ∀ h' tk M t', (∀ b o, s.heap.get? b = some o → h'.get? b = some o) → M ∈ ns → (∀ a, a ∈ ns → a ≤ M) → Q (.int M t') { s with heap := h', toks := tk }) : wpAny (model prog w) A (call (.builtin "max") [.ref l]) Q E s := by
  obtain ⟨xs, e⟩ := hi.allInts.items
  have hn : numsOf (intItems xs).toList = ns := by rw [← e]; exact hi.numsOf
  rw [nums_intItems] at hn
  subst hn
  rw [e] at hl
  have hsz : 0 < xs.size := by simpa using hne
  refine max_intTup hh hl hsz fun v h' tk hv hk => ?_
  obtain ⟨t, rfl⟩ := intItems_at hv
  obtain ⟨h1, h2⟩ := argBest_gt (numAt xs) (xs.size - 1)
  refine h h' tk _ t hk ?_ fun a ha => ?_
  · rw [numAt_eq]; exact PySem.getD_mem (by rw [List.length_map, Array.length_toList]; omega)
  · obtain ⟨j, hj, rfl⟩ := mem_getD ha
    rw [List.length_map, Array.length_toList] at hj
    rw [← numAt_eq]; exact h2 j (by omega)
theorem min_rawT (hh : A.handled = none) (hl : s.heap.IsTuple l its.toArray) (hi : IntsAre its ns) (hne : 0 < ns.length)
    (h : ∀ h' tk M t', (∀ b o, s.heap.get? b = some o → h'.get? b = some o) → M ∈ ns → (∀ a, a ∈ ns → M ≤ a) → Q (.int M t') { s with heap := h', toks := tk }) : wpAny (model prog w) A (call (.builtin "min") [.ref l]) Q E s := by
  obtain ⟨xs, e⟩ := hi.allInts.items
  have hn : numsOf (intItems xs).toList = ns := by rw [← e]; exact hi.numsOf
  rw [nums_intItems] at hn
  subst hn
  rw [e] at hl
  have hsz : 0 < xs.size := by simpa using hne
  refine min_intTup hh hl hsz fun v h' tk hv hk => ?_
  obtain ⟨t, rfl⟩ := intItems_at hv
  obtain ⟨h1, h2⟩ := argBest_lt (numAt xs) (xs.size - 1)
  refine h h' tk _ t hk ?_ fun a ha => ?_
  · rw [numAt_eq]; exact PySem.getD_mem (by rw [List.length_map, Array.length_toList]; omega)
  · obtain ⟨j, hj, rfl⟩ := mem_getD ha
    rw [List.length_map, Array.length_toList] at hj
    rw [← numAt_eq]; exact h2 j (by omega)
end
theorem maxI_ge : ∀ (r : List Int) (m : Int), m ≤ maxI m r ∧ (∀ y ∈ r, y ≤ maxI m r) ∧ (maxI m r = m ∨ maxI m r ∈ r)
  | [], m => ⟨Int.le_refl _, by simp, .inl rfl⟩
  | x :: r, m => by
    rw [maxI]
    obtain ⟨h1, h2, h3⟩ := maxI_ge r (if x > m then x else m)
    by_cases h : x > m
    · rw [if_pos h] at h1 h2 h3 ⊢
      refine ⟨by omega, fun y hy => ?_, ?_⟩
      · rcases List.mem_cons.mp hy with rfl | hy
        · exact h1
        · exact h2 y hy
      · rcases h3 with h3 | h3
        · rw [h3]; exact .inr List.mem_cons_self
        · exact .inr (List.mem_cons_of_mem _ h3)
    · rw [if_neg h] at h1 h2 h3 ⊢
      refine ⟨h1, fun y hy => ?_, ?_⟩
      · rcases List.mem_cons.mp hy with rfl | hy
        · omega
        · exact h2 y hy
      · rcases h3 with h3 | h3
        · exact .inl h3
        · exact .inr (List.mem_cons_of_mem _ h3)
theorem minI_le : ∀ (r : List Int) (m : Int), minI m r ≤ m ∧ (∀ y ∈ r, minI m r ≤ y) ∧ (minI m r = m ∨ minI m r ∈ r)
  | [], m => ⟨Int.le_refl _, by simp, .inl rfl⟩
  | x :: r, m => by
    rw [minI]
    obtain ⟨h1, h2, h3⟩ := minI_le r (if x < m then x else m)
    by_cases h : x < m
    · rw [if_pos h] at h1 h2 h3 ⊢
      refine ⟨by omega, fun y hy => ?_, ?_⟩
      · rcases List.mem_cons.mp hy with rfl | hy
        · exact h1
        · exact h2 y hy
      · rcases h3 with h3 | h3
        · rw [h3]; exact .inr List.mem_cons_self
        · exact .inr (List.mem_cons_of_mem _ h3)
    · rw [if_neg h] at h1 h2 h3 ⊢
      refine ⟨h1, fun y hy => ?_, ?_⟩
      · rcases List.mem_cons.mp hy with rfl | hy
        · omega
        · exact h2 y hy
      · rcases h3 with h3 | h3
        · exact .inl h3
        · exact .inr (List.mem_cons_of_mem _ h3)
theorem maxI_eq {x m : Int} {r : List Int} (h1 : m ∈ x :: r) (h2 : ∀ y ∈ x :: r, y ≤ m) : m = maxI x r := by
  obtain ⟨a, b, c⟩ := maxI_ge r x
  have e1 : m ≤ maxI x r := by
    rcases List.mem_cons.mp h1 with rfl | h
    · exact a
    · exact b m h
  have e2 : maxI x r ≤ m := by
    rcases c with c | c
    · rw [c]; exact h2 _ List.mem_cons_self
    · exact h2 _ (List.mem_cons_of_mem _ c)
  omega
theorem minI_eq {x m : Int} {r : List Int} (h1 : m ∈ x :: r) (h2 : ∀ y ∈ x :: r, m ≤ y) : m = minI x r := by
  obtain ⟨a, b, c⟩ := minI_le r x
  have e1 : minI x r ≤ m := by
    rcases List.mem_cons.mp h1 with rfl | h
    · exact a
    · exact b m h
  have e2 : m ≤ minI x r := by
    rcases c with c | c
    · rw [c]; exact h2 _ List.mem_cons_self
    · exact h2 _ (List.mem_cons_of_mem _ c)
  omega
theorem insI_perm (x : Int) : ∀ l : List Int, (insI x l).Perm (x :: l)
  | [] => .refl _
  | y :: r => by
    rw [insI]
    by_cases h : x ≤ y
    · rw [if_pos h]
    · rw [if_neg h]
      exact ((insI_perm x r).cons y).trans (List.Perm.swap _ _ _)
theorem insI_sorted (x : Int) : ∀ l : List Int, l.Pairwise (· ≤ ·) → (insI x l).Pairwise (· ≤ ·)
  | [], _ => by simp [insI]
  | y :: r, h => by
    rw [insI]
    obtain ⟨h1, h2⟩ := List.pairwise_cons.mp h
    by_cases q : x ≤ y
    · rw [if_pos q]
      refine List.pairwise_cons.mpr ⟨fun z hz => ?_, h⟩
      rcases List.mem_cons.mp hz with rfl | hz
      · exact q
      · exact Int.le_trans q (h1 z hz)
    · rw [if_neg q]
      refine List.pairwise_cons.mpr ⟨fun z hz => ?_, insI_sorted x r h2⟩
      rcases List.mem_cons.mp ((insI_perm x r).mem_iff.mp hz) with rfl | hz
      · omega
      · exact h1 z hz
theorem sortI_perm : ∀ l : List Int, (sortI l).Perm l
  | [] => .refl _
  | x :: r => (insI_perm x (sortI r)).trans ((sortI_perm r).cons x)
theorem sortI_sorted : ∀ l : List Int, (sortI l).Pairwise (· ≤ ·)
  | [] => .nil
  | x :: r => insI_sorted x _ (sortI_sorted r)

/-! ### the calls -/
section
variable {K : PySem.W.Frag} {FA : Nat → Option Addr} {F F' : Addr → Prop} {H H' : Hp}
def Pks (K : PySem.W.Frag) (FA : Nat → Option Addr) (F : Addr → Prop) (H : Hp) : List D → List V → Prop
  | [], xs => xs = []
  | d :: ds, xs => ∃ v r, xs = v :: r ∧ Pk K FA F H d v ∧ Pks K FA F H ds r
def rCall (FA : Nat → Option Addr) (K : PySem.W.Frag) (f : List D → R (Fl × D)) : List V → Hp → VK → Prop := fun xs H Q => ∃ F ds r, Fin' F H ∧ Pks K FA F H ds xs ∧ f ds = .ok r ∧ ∀ v F' H', Res K FA F H r.1 r.2 v F' H' → Q v H'
theorem Pks.one {d : D} {xs : List V} (h : Pks K FA F H [d] xs) : ∃ v, xs = [v] ∧ Pk K FA F H d v := by
  obtain ⟨v, r, e, h, t⟩ := h
  cases t
  exact ⟨v, e, h⟩
theorem Pks.two {d e : D} {xs : List V} (h : Pks K FA F H [d, e] xs) : ∃ v w, xs = [v, w] ∧ Pk K FA F H d v ∧ Pk K FA F H e w := by
  obtain ⟨v, r, e1, h, t⟩ := h
  obtain ⟨w, q, t2⟩ := Pks.one t
  subst q
  exact ⟨v, w, e1, h, t2⟩
end
inductive BtK where
  | fn (id : String) | ty (T : String)
def btK : Bt → Option BtK
  | .len => some (.fn "len") | .max1 => some (.fn "max") | .max2 => some (.fn "max") | .min1 => some (.fn "min") | .min2 => some (.fn "min")
  | .all => some (.fn "all") | .any => some (.fn "any") | .list => some (.ty "list") | .tuple => some (.ty "tuple") | .sorted => some (.fn "sorted")
  | .int => some (.ty "int") | .bool => some (.ty "bool") | .sortedSet => none | .maxV => none
def BtK.val : BtK → Value
  | .fn id => .builtin id
  | .ty T => .type T
section
variable {X : Cx} {FA : Nat → Option Addr}
theorem seq_ints {d : D} {ns : List Int} {v : V} {F : Addr → Prop} {H : Hp} (hp : Pk X.K FA F H d v) (h : bnd (seq? d) ints? = .ok ns) : ∃ a, v = .ref a ∧ (SqL X.K H a (ns.map V.int) ∨ SqT X.K H a (ns.map V.int)) := by
  obtain ⟨ds, h1, h2⟩ := bnd_ok h
  cases d with
  | tup es =>
    cases h1
    obtain ⟨a, xs, e, t, r⟩ := hp.tup
    have := r.ints h2
    subst this
    exact ⟨a, e, .inr t.sq⟩
  | lst es =>
    cases h1
    obtain ⟨a, xs, e, t, r⟩ := hp.lst
    have := r.ints h2
    subst this
    exact ⟨a, e, .inl (SqL.of t)⟩
  | _ => cases h1
theorem call_bt (hc : X.calm = true) (k : Bt) (b : BtK) (hb : btK k = some b) : CallR X b.val (rCall FA X.K (bltop k)) := by
  intro pins s σ H xs us Q I rx ⟨F, ds, r, fi, hd, hr, q⟩
  have one : ∀ {d : D} {v : V}, ds = [d] → ∃ v, xs = [v] ∧ Pk X.K FA F H d v := fun e => by subst e; exact hd.one
  cases k with
  | maxV => cases hb
  | sortedSet => cases hb
  | len =>
    cases hb
    match ds, hd, hr with
    | [.str z], hd, hr =>
      obtain ⟨v, e, hp⟩ := hd.one
      obtain ⟨f, hr⟩ := guard_ok hr
      cases hr
      subst e
      refine call_len pins s σ H _ us Q I rx ⟨v, z.length, rfl, ?_, q _ _ _ (.flat fi rfl)⟩
      rw [hp.str]
      exact ⟨by rw [strV_len]; exact of_decide_eq_true f, (strV_len z).symm⟩
    | [.tup z], hd, hr =>
      obtain ⟨v, e, hp⟩ := hd.one
      cases hr
      subst e
      obtain ⟨a, ys, e1, h1, r1⟩ := hp.tup
      subst e1
      exact call_len pins s σ H _ us Q I rx ⟨_, z.length, rfl, .inr ⟨ys, h1.sq, r1.len⟩, q _ _ _ (.flat fi rfl)⟩
    | [.lst z], hd, hr =>
      obtain ⟨v, e, hp⟩ := hd.one
      cases hr
      subst e
      obtain ⟨a, ys, e1, h1, r1⟩ := hp.lst
      subst e1
      exact call_len pins s σ H _ us Q I rx ⟨_, z.length, rfl, .inl ⟨ys, SqL.of h1, r1.len⟩, q _ _ _ (.flat fi rfl)⟩
    | [.scr z], hd, hr =>
      obtain ⟨v, e, hp⟩ := hd.one
      cases hr
      subst e
      obtain ⟨a, e1, h1⟩ := hp.scr
      subst e1
      exact call_len pins s σ H _ us Q I rx ⟨_, z.length, rfl, .inl ⟨_, h1.sq, (List.length_map _).symm⟩, q _ _ _ (.flat fi rfl)⟩
    | [.non], _, hr => cases hr
    | [.bl _], _, hr => cases hr
    | [.int _], _, hr => cases hr
    | [.dic _], _, hr => cases hr
    | [.fn _], _, hr => cases hr
    | [], _, hr => cases hr
    | x :: _ :: _, _, hr => cases x <;> cases hr
  | max2 =>
    cases hb
    match ds, hd, hr with
    | [x, y], hd, hr =>
      obtain ⟨v, w, e, hp, hp'⟩ := hd.two
      cases x with
      | int i =>
        cases y with
        | int j =>
          cases hr
          subst e
          exact call_max2 hc pins s σ H _ us Q I rx ⟨i, j, by rw [hp.int, hp'.int], q _ _ _ (.flat fi rfl)⟩
        | _ => cases hr
      | _ => cases hr
    | [], _, hr => cases hr
    | [x], _, hr => cases x <;> cases hr
    | x :: y :: _ :: _, _, hr => cases x <;> cases y <;> cases hr
  | min2 =>
    cases hb
    match ds, hd, hr with
    | [x, y], hd, hr =>
      obtain ⟨v, w, e, hp, hp'⟩ := hd.two
      cases x with
      | int i =>
        cases y with
        | int j =>
          cases hr
          subst e
          exact call_min2 hc pins s σ H _ us Q I rx ⟨i, j, by rw [hp.int, hp'.int], q _ _ _ (.flat fi rfl)⟩
        | _ => cases hr
      | _ => cases hr
    | [], _, hr => cases hr
    | [x], _, hr => cases x <;> cases hr
    | x :: y :: _ :: _, _, hr => cases x <;> cases y <;> cases hr
  | max1 =>
    cases hb
    match ds, hd, hr with
    | [d], hd, hr =>
      obtain ⟨v, e, hp⟩ := hd.one
      subst e
      simp only [bltop] at hr
      obtain ⟨l, h1, h2⟩ := bnd_ok hr
      obtain ⟨a, e1, h3⟩ := seq_ints hp h1
      subst e1
      match l, h2, h3 with
      | x :: l, h2, h3 =>
        cases h2
        rcases h3 with h3 | h3
        · exact cr_max hc pins s σ H _ us Q I rx ⟨a, x :: l, rfl, h3, Nat.succ_pos _, fun m hm hy => by rw [maxI_eq hm hy]; exact q _ _ _ (.flat fi rfl)⟩
        · obtain ⟨its, rv, hl, _⟩ := I.tuple h3
          rw [Vals.ref1 rx]
          exact max_rawT (I.ok.hd hc) hl rv.ints (Nat.succ_pos _) fun h' tk m t' hk hm hy => ⟨.int m, H, I.kept hk, ⟨_, rfl⟩, by rw [maxI_eq hm hy]; exact q _ _ _ (.flat fi rfl)⟩
      | [], h2, _ => cases h2
    | [], _, hr => cases hr
    | _ :: _ :: _, _, hr => cases hr
  | min1 =>
    cases hb
    match ds, hd, hr with
    | [d], hd, hr =>
      obtain ⟨v, e, hp⟩ := hd.one
      subst e
      simp only [bltop] at hr
      obtain ⟨l, h1, h2⟩ := bnd_ok hr
      obtain ⟨a, e1, h3⟩ := seq_ints hp h1
      subst e1
      match l, h2, h3 with
      | x :: l, h2, h3 =>
        cases h2
        rcases h3 with h3 | h3
        · exact cr_min hc pins s σ H _ us Q I rx ⟨a, x :: l, rfl, h3, Nat.succ_pos _, fun m hm hy => by rw [minI_eq hm hy]; exact q _ _ _ (.flat fi rfl)⟩
        · obtain ⟨its, rv, hl, _⟩ := I.tuple h3
          rw [Vals.ref1 rx]
          exact min_rawT (I.ok.hd hc) hl rv.ints (Nat.succ_pos _) fun h' tk m t' hk hm hy => ⟨.int m, H, I.kept hk, ⟨_, rfl⟩, by rw [minI_eq hm hy]; exact q _ _ _ (.flat fi rfl)⟩
      | [], h2, _ => cases h2
    | [], _, hr => cases hr
    | _ :: _ :: _, _, hr => cases hr
  | all =>
    cases hb
    match ds, hd, hr with
    | [.lst z], hd, hr =>
      obtain ⟨v, e, hp⟩ := hd.one
      subst e
      simp only [bltop] at hr
      obtain ⟨l, h1, h2⟩ := bnd_ok hr
      cases h2
      obtain ⟨a, ys, e1, h3, r1⟩ := hp.lst
      have e2 := r1.bls h1
      subst e1 e2
      exact cr_all hc pins s σ H _ us Q I rx ⟨a, l, rfl, SqL.of h3, q _ _ _ (.flat fi rfl)⟩
    | [.non], _, hr => cases hr
    | [.bl _], _, hr => cases hr
    | [.int _], _, hr => cases hr
    | [.dic _], _, hr => cases hr
    | [.fn _], _, hr => cases hr
    | [.str _], _, hr => cases hr
    | [.tup _], _, hr => cases hr
    | [.scr _], _, hr => cases hr
    | [], _, hr => cases hr
    | x :: _ :: _, _, hr => cases x <;> cases hr
  | any =>
    cases hb
    match ds, hd, hr with
    | [.lst z], hd, hr =>
      obtain ⟨v, e, hp⟩ := hd.one
      subst e
      simp only [bltop] at hr
      obtain ⟨l, h1, h2⟩ := bnd_ok hr
      cases h2
      obtain ⟨a, ys, e1, h3, r1⟩ := hp.lst
      have e2 := r1.bls h1
      subst e1 e2
      exact cr_any hc pins s σ H _ us Q I rx ⟨a, l, rfl, SqL.of h3, q _ _ _ (.flat fi rfl)⟩
    | [.non], _, hr => cases hr
    | [.bl _], _, hr => cases hr
    | [.int _], _, hr => cases hr
    | [.dic _], _, hr => cases hr
    | [.fn _], _, hr => cases hr
    | [.str _], _, hr => cases hr
    | [.tup _], _, hr => cases hr
    | [.scr _], _, hr => cases hr
    | [], _, hr => cases hr
    | x :: _ :: _, _, hr => cases x <;> cases hr
  | list =>
    cases hb
    match ds, hd, hr with
    | [.lst z], hd, hr =>
      obtain ⟨v, e, hp⟩ := hd.one
      subst e
      cases hr
      obtain ⟨a, ys, e1, h3, r1⟩ := hp.lst
      subst e1
      exact call_list_of pins s σ H _ us Q I rx ⟨a, ys, rfl, .inl (SqL.of h3), fun l nl => q _ _ _ (.lst fi nl r1)⟩
    | [.tup z], hd, hr =>
      obtain ⟨v, e, hp⟩ := hd.one
      subst e
      cases hr
      obtain ⟨a, ys, e1, h3, r1⟩ := hp.tup
      subst e1
      exact call_list_of pins s σ H _ us Q I rx ⟨a, ys, rfl, .inr h3.sq, fun l nl => q _ _ _ (.lst fi nl r1)⟩
    | [.dic _], hd, hr =>
      obtain ⟨v, e, hp⟩ := hd.one
      exact hp.dic.elim
    | [.non], _, hr => cases hr
    | [.bl _], _, hr => cases hr
    | [.int _], _, hr => cases hr
    | [.fn _], _, hr => cases hr
    | [.str _], _, hr => cases hr
    | [.scr _], _, hr => cases hr
    | [], _, hr => cases hr
    | x :: _ :: _, _, hr => cases x <;> cases hr
  | tuple =>
    cases hb
    match ds, hd, hr with
    | [.lst z], hd, hr =>
      obtain ⟨v, e, hp⟩ := hd.one
      subst e
      cases hr
      obtain ⟨a, ys, e1, h3, r1⟩ := hp.lst
      subst e1
      exact call_tuple_of pins s σ H _ us Q I rx ⟨a, ys, rfl, .inl ⟨SqL.of h3, fun l nl => q _ _ _ (.tup fi nl r1)⟩⟩
    | [.tup z], hd, hr =>
      obtain ⟨v, e, hp⟩ := hd.one
      subst e
      cases hr
      obtain ⟨a, ys, e1, h3, r1⟩ := hp.tup
      subst e1
      exact call_tuple_of pins s σ H _ us Q I rx ⟨a, ys, rfl, .inr ⟨h3.sq, q _ _ _ (.flat fi ⟨a, ys, rfl, h3, r1⟩)⟩⟩
    | [.dic _], hd, hr => cases hr
    | [.non], _, hr => cases hr
    | [.bl _], _, hr => cases hr
    | [.int _], _, hr => cases hr
    | [.fn _], _, hr => cases hr
    | [.str _], _, hr => cases hr
    | [.scr _], _, hr => cases hr
    | [], _, hr => cases hr
    | x :: _ :: _, _, hr => cases x <;> cases hr
  | sorted =>
    cases hb
    match ds, hd, hr with
    | [.lst z], hd, hr =>
      obtain ⟨v, e, hp⟩ := hd.one
      subst e
      simp only [bltop] at hr
      obtain ⟨l, h1, h2⟩ := bnd_ok hr
      cases h2
      obtain ⟨a, ys, e1, h3, r1⟩ := hp.lst
      have e2 := r1.ints h1
      subst e1 e2
      refine cr_sortedI pins s σ H _ us Q I rx ⟨a, l, rfl, SqL.of h3, fun ns' p hp hs np => ?_⟩
      have e3 : ns' = sortI l := PySem.W.ksm_same (hp.trans (sortI_perm l).symm) hs (sortI_sorted l)
      subst e3
      exact q _ _ _ (.lst fi np (Reps.ofInts _))
    | [.non], _, hr => cases hr
    | [.bl _], _, hr => cases hr
    | [.int _], _, hr => cases hr
    | [.dic _], _, hr => cases hr
    | [.fn _], _, hr => cases hr
    | [.str _], _, hr => cases hr
    | [.tup _], _, hr => cases hr
    | [.scr _], _, hr => cases hr
    | [], _, hr => cases hr
    | x :: _ :: _, _, hr => cases x <;> cases hr
  | int =>
    cases hb
    match ds, hd, hr with
    | [.int z], hd, hr =>
      obtain ⟨v, e, hp⟩ := hd.one
      subst e
      cases hr
      exact call_int1 pins s σ H _ us Q I rx (.inl ⟨z, by rw [hp.int], q _ _ _ (.flat fi rfl)⟩)
    | [.bl z], hd, hr =>
      obtain ⟨v, e, hp⟩ := hd.one
      subst e
      cases hr
      exact call_int1 pins s σ H _ us Q I rx (.inr ⟨z, by rw [hp.bl], q _ _ _ (.flat fi rfl)⟩)
    | [.non], _, hr => cases hr
    | [.dic _], _, hr => cases hr
    | [.fn _], _, hr => cases hr
    | [.str _], _, hr => cases hr
    | [.tup _], _, hr => cases hr
    | [.lst _], _, hr => cases hr
    | [.scr _], _, hr => cases hr
    | [], _, hr => cases hr
    | x :: _ :: _, _, hr => cases x <;> cases hr
  | bool =>
    cases hb
    match ds, hd, hr with
    | [.int z], hd, hr =>
      obtain ⟨v, e, hp⟩ := hd.one
      subst e
      cases hr
      exact call_bool1 pins s σ H _ us Q I rx (.inl ⟨z, by rw [hp.int], q _ _ _ (.flat fi rfl)⟩)
    | [.bl z], hd, hr =>
      obtain ⟨v, e, hp⟩ := hd.one
      subst e
      cases hr
      exact call_bool1 pins s σ H _ us Q I rx (.inr ⟨z, by rw [hp.bl], q _ _ _ (.flat fi rfl)⟩)
    | [.non], _, hr => cases hr
    | [.dic _], _, hr => cases hr
    | [.fn _], _, hr => cases hr
    | [.str _], _, hr => cases hr
    | [.tup _], _, hr => cases hr
    | [.lst _], _, hr => cases hr
    | [.scr _], _, hr => cases hr
    | [], _, hr => cases hr
    | x :: _ :: _, _, hr => cases x <;> cases hr
end
end AR

/-! Core6: a def's slots against its environment; what an expression leaves. -/
namespace AR
open PySem PySem.Spec PyProof.Rows L2

/-- the slots hold what the environment says; the lists of one's own stand apart from F and from one another -/
structure EnvOk (K : PySem.W.Frag) (FA : Nat → Option Addr) (F : Addr → Prop) (H : Hp) (σ : L2.St) (env : Env) : Prop where
  len : env.length = σ.length
  fin : Fin' F H
  sh : ∀ (i : Nat) (d : D), env[i]? = some (some (Sl.sh, d)) → ∃ v, σ[i]? = some (some v) ∧ Rep K FA F H d v
  mu : ∀ (i : Nat) (k : Sl) (d : D), k ≠ Sl.sh → env[i]? = some (some (k, d)) → ∃ a, σ[i]? = some (some (V.ref a)) ∧ ¬ F a ∧ RepM K FA F H d a
  ap : ∀ (i j : Nat) (k l : Sl) (d e : D) (a : Addr), k ≠ Sl.sh → l ≠ Sl.sh → env[i]? = some (some (k, d)) → env[j]? = some (some (l, e)) → σ[i]? = some (some (V.ref a)) → σ[j]? = some (some (V.ref a)) → i = j
def Own (σ : L2.St) (env : Env) (a : Addr) : Prop := ∃ (i : Nat) (k : Sl) (d : D), k ≠ Sl.sh ∧ env[i]? = some (some (k, d)) ∧ σ[i]? = some (some (V.ref a))
def kindsE (env : Env) : List (Option Sl) := env.map (Option.map (·.1))
structure Post (K : PySem.W.Frag) (FA : Nat → Option Addr) (F : Addr → Prop) (H : Hp) (σ : L2.St) (env : Env) (F' : Addr → Prop) (H' : Hp) (env' : Env) : Prop where
  sub : ∀ b, F b → F' b
  new : ∀ b, F' b → F b ∨ H b = none
  keep : ∀ b o, ¬ Own σ env b → H b = some o → H' b = some o
  ok : EnvOk K FA F' H' σ env'
  kin : kindsE env' = kindsE env
/-- an expression's value -/
def ValOk (K : PySem.W.Frag) (FA : Nat → Option Addr) (H : Hp) (σ : L2.St) (env' : Env) (F' : Addr → Prop) (H' : Hp) (fl : Fl) (d : D) (v : V) : Prop := match fl with
  | .sh => Rep K FA F' H' d v
  | .fr => ∃ a, v = .ref a ∧ H a = none ∧ ¬ F' a ∧ RepM K FA F' H' d a
  | .bo => ∃ i : Nat, env'[i]? = some (some (Sl.own, d)) ∧ σ[i]? = some (some v)
  | .bi => ∃ i : Nat, env'[i]? = some (some (Sl.io, d)) ∧ σ[i]? = some (some v)

section
variable {K : PySem.W.Frag} {FA : Nat → Option Addr} {F F1 F2 F' : Addr → Prop} {H H1 H2 H' : Hp} {σ : L2.St} {env env1 env2 env' : Env} {d : D} {v : V} {a : Addr} {fl : Fl}
theorem RepM.there (h : RepM K FA F H d a) : ∃ xs, H a = some (.lst xs) := by
  cases d with
  | lst ds => obtain ⟨xs, h, _⟩ := h; exact ⟨xs, h⟩
  | _ => exact h.elim
theorem EnvOk.own (E : EnvOk K FA F H σ env) (h : Own σ env a) : ¬ F a ∧ ∃ xs, H a = some (.lst xs) := by
  obtain ⟨i, k, d, hk, h1, h2⟩ := h
  obtain ⟨b, h3, h4, h5⟩ := E.mu i k d hk h1
  rw [h2] at h3
  cases h3
  exact ⟨h4, h5.there⟩
theorem kin_get {i : Nat} (h : kindsE env' = kindsE env) : (env'[i]?).map (Option.map (·.1)) = (env[i]?).map (Option.map (·.1)) := by
  have := congrArg (fun l => l[i]?) h
  simpa [kindsE] using this
theorem kin_some {i : Nat} {k : Sl} {d : D} (h : kindsE env' = kindsE env) (e : env'[i]? = some (some (k, d))) : ∃ d', env[i]? = some (some (k, d')) := by
  have q := kin_get (i := i) h
  rw [e] at q
  cases z : env[i]? with
  | none => rw [z] at q; cases q
  | some o =>
    rw [z] at q
    cases o with
    | none => simp at q
    | some p =>
      simp at q
      obtain ⟨k', d'⟩ := p
      exact ⟨d', by rw [show k = k' from q]⟩
theorem Own.kin (h : kindsE env' = kindsE env) (o : Own σ env' a) : Own σ env a := by
  obtain ⟨i, k, d, hk, h1, h2⟩ := o
  obtain ⟨d', h1'⟩ := kin_some h h1
  exact ⟨i, k, d', hk, h1', h2⟩
theorem Post.toKeep (E : EnvOk K FA F H σ env) (p : Post K FA F H σ env F' H' env') : Keep F H H' :=
  ⟨fun b o f e => p.keep b o (fun z => (E.own z).1 f) e, fun b o u e => p.keep b _ (fun z => by obtain ⟨xs, q⟩ := (E.own z).2; rw [e] at q; cases q) e⟩
theorem Post.dom (E : EnvOk K FA F H σ env) (p : Post K FA F H σ env F' H' env') (h : H' a = none) : H a = none := by
  cases q : H a with
  | none => rfl
  | some o =>
    by_cases z : Own σ env a
    · obtain ⟨_, xs, e⟩ := p.ok.own (z.kin p.kin.symm)
      rw [h] at e; cases e
    · rw [p.keep a o z q] at h; cases h
theorem Post.trans (E : EnvOk K FA F H σ env) (p : Post K FA F H σ env F1 H1 env1) (q : Post K FA F1 H1 σ env1 F2 H2 env2) : Post K FA F H σ env F2 H2 env2 where
  sub := fun b h => q.sub b (p.sub b h)
  new := fun b h => (q.new b h).elim (p.new b) fun z => .inr (p.dom E z)
  keep := fun b o n e => q.keep b o (fun z => n (z.kin p.kin)) (p.keep b o n e)
  ok := q.ok
  kin := q.kin.trans p.kin
theorem Post.refl (E : EnvOk K FA F H σ env) : Post K FA F H σ env F H env := ⟨fun _ h => h, fun _ h => .inl h, fun _ _ _ e => e, E, rfl⟩
theorem RepM.mono (hF : ∀ b, F b → F' b) (k : Keep F H H') (ha : ∀ o, H a = some o → H' a = some o) (h : RepM K FA F H d a) : RepM K FA F' H' d a := by
  cases d with
  | lst ds => obtain ⟨xs, h, r⟩ := h; exact ⟨xs, ha _ h, r.mono hF k⟩
  | _ => exact h.elim
/-- new objects alone -/
theorem EnvOk.grow (E : EnvOk K FA F H σ env) (hF : ∀ b, F b → F' b) (hn : ∀ b, F' b → F b ∨ H b = none) (fi : Fin' F' H') (sm : Same H H') : EnvOk K FA F' H' σ env where
  len := E.len
  fin := fi
  sh := fun i d e => let ⟨v, h1, h2⟩ := E.sh i d e; ⟨v, h1, h2.mono hF (.of_same sm)⟩
  mu := fun i k d hk e => by
    obtain ⟨a, h1, h2, h3⟩ := E.mu i k d hk e
    obtain ⟨xs, h4⟩ := h3.there
    refine ⟨a, h1, fun z => ?_, h3.mono hF (.of_same sm) fun o q => sm a o q⟩
    rcases hn a z with z | z
    · exact h2 z
    · rw [h4] at z; cases z
  ap := E.ap
theorem Res.post (E : EnvOk K FA F H σ env) (r : Res K FA F H fl d v F' H') : Post K FA F H σ env F' H' env :=
  ⟨r.sub, r.new, fun b o _ e => r.same b o e, E.grow r.sub r.new r.fin r.same, rfl⟩
theorem Res.valOk (r : Res K FA F H fl d v F' H') : ValOk K FA H σ env F' H' fl d v := by
  obtain ⟨_, _, _, _, h⟩ := r
  cases fl with
  | sh => exact h
  | fr => exact h
  | bo => exact h.elim
  | bi => exact h.elim
/-- an operation behind an expression -/
theorem fin_res (E : EnvOk K FA F H σ env) (p : Post K FA F H σ env F1 H1 env1) (r : Res K FA F1 H1 fl d v F2 H2) : Post K FA F H σ env F2 H2 env1 ∧ ValOk K FA H σ env1 F2 H2 fl d v := by
  refine ⟨p.trans E (r.post p.ok), ?_⟩
  have h := r.valOk (σ := σ) (env := env1)
  cases fl with
  | sh => exact h
  | fr =>
    obtain ⟨a, h1, h2, h3⟩ := h
    exact ⟨a, h1, p.dom E h2, h3⟩
  | bo => exact h
  | bi => exact h
/-- a value, looked at later -/
theorem ValOk.pk (E : EnvOk K FA F H σ env) (p : Post K FA F H σ env F1 H1 env1) (h : ValOk K FA H σ env1 F1 H1 fl d v) (q : Post K FA F1 H1 σ env1 F2 H2 env2) (hp : fl.free = true ∨ env2 = env1) : Pk K FA F2 H2 d v := by
  cases fl with
  | sh => exact .inl (Rep.mono q.sub (q.toKeep p.ok) d v h)
  | fr =>
    obtain ⟨a, rfl, h2, h3, h4⟩ := h
    refine .inr ⟨a, rfl, h4.mono q.sub (q.toKeep p.ok) fun o e => q.keep a o (fun z => ?_) e⟩
    obtain ⟨_, xs, e2⟩ := E.own (z.kin p.kin)
    rw [h2] at e2; cases e2
  | bo =>
    obtain ⟨i, h1, h2⟩ := h
    rcases hp with z | z
    · cases z
    · subst z
      obtain ⟨a, h3, _, h5⟩ := q.ok.mu i _ d (by decide) h1
      rw [h2] at h3
      cases h3
      exact .inr ⟨a, rfl, h5⟩
  | bi =>
    obtain ⟨i, h1, h2⟩ := h
    rcases hp with z | z
    · cases z
    · subst z
      obtain ⟨a, h3, _, h5⟩ := q.ok.mu i _ d (by decide) h1
      rw [h2] at h3
      cases h3
      exact .inr ⟨a, rfl, h5⟩
theorem ValOk.pk0 (E : EnvOk K FA F H σ env) (p : Post K FA F H σ env F1 H1 env1) (h : ValOk K FA H σ env1 F1 H1 fl d v) : Pk K FA F1 H1 d v := h.pk E p (.refl p.ok) (.inr rfl)
/-- a new list is handed on: it is shared from now on -/
theorem ValOk.give (E : EnvOk K FA F H σ env) (p : Post K FA F H σ env F1 H1 env1) (h : ValOk K FA H σ env1 F1 H1 fl d v) (hf : fl.free = true) : ∃ F2, Post K FA F H σ env F2 H1 env1 ∧ Rep K FA F2 H1 d v := by
  cases fl with
  | sh => exact ⟨F1, p, h⟩
  | fr =>
    obtain ⟨a, rfl, h2, h3, h4⟩ := h
    obtain ⟨xs, h5⟩ := h4.there
    have na : ¬ Own σ env a := fun z => by
      obtain ⟨_, ys, e2⟩ := E.own z
      rw [h2] at e2; cases e2
    have kk : Keep F1 H1 H1 := .refl
    refine ⟨fun b => F1 b ∨ b = a, ⟨fun b z => .inl (p.sub b z), fun b z => z.elim (p.new b) fun e => .inr (e ▸ h2), p.keep, ⟨p.ok.len, fun b z => z.elim (p.ok.fin b) fun e => by rw [e, h5]; exact Option.some_ne_none _, fun i d e => ?_, fun i k d hk e => ?_, p.ok.ap⟩, p.kin⟩, ?_⟩
    · obtain ⟨v, q1, q2⟩ := p.ok.sh i d e
      exact ⟨v, q1, q2.mono (fun _ z => .inl z) kk⟩
    · obtain ⟨b, q1, q2, q3⟩ := p.ok.mu i k d hk e
      refine ⟨b, q1, fun z => z.elim q2 fun z => ?_, q3.mono (fun _ z => .inl z) kk fun _ z => z⟩
      subst z
      obtain ⟨d', e'⟩ := kin_some p.kin e
      exact na ⟨i, k, d', hk, e', q1⟩
    · cases d with
      | lst ds =>
        obtain ⟨ys, q1, q2⟩ := h4
        exact ⟨a, ys, rfl, .inr rfl, q1, q2.mono (fun _ z => .inl z) kk⟩
      | _ => exact h4.elim
  | bo => cases hf
  | bi => cases hf
/-- the same, seen later -/
theorem ValOk.later (E : EnvOk K FA F H σ env) (p : Post K FA F H σ env F1 H1 env1) (q : Post K FA F1 H1 σ env1 F2 H2 env2) (h : ValOk K FA H1 σ env2 F2 H2 fl d v) : ValOk K FA H σ env2 F2 H2 fl d v := by
  cases fl with
  | sh => exact h
  | fr =>
    obtain ⟨a, h1, h2, h3⟩ := h
    exact ⟨a, h1, p.dom E h2, h3⟩
  | bo => exact h
  | bi => exact h
theorem pk_or {b : Bool} (h : pk fl b = true) : fl.free = true ∨ b = true := by
  unfold pk at h
  rwa [Bool.or_eq_true] at h
/-- a slot's list is changed -/
theorem EnvOk.write {i : Nat} {k : Sl} {ds es : List D} {ys : List V} (E : EnvOk K FA F H σ env) (hk : k ≠ Sl.sh) (h : env[i]? = some (some (k, .lst ds))) (hs : σ[i]? = some (some (V.ref a))) (r : Reps K FA F H es ys) :
    Post K FA F H σ env F (upd H a (.lst ys)) (env.set i (some (k, .lst es))) := by
  have ow : Own σ env a := ⟨i, k, _, hk, h, hs⟩
  obtain ⟨nf, xs, hx⟩ := E.own ow
  have kp : Keep F H (upd H a (.lst ys)) := ⟨fun b o f e => by rw [upd_ne (fun z : b = a => nf (z ▸ f))]; exact e, fun b o u e => by rw [upd_ne (fun z : b = a => by rw [z, hx] at e; cases e)]; exact e⟩
  have hi : i < env.length := by
    rcases Nat.lt_or_ge i env.length with z | z
    · exact z
    · rw [List.getElem?_eq_none z] at h; cases h
  have get : ∀ j k' d', (env.set i (some (k, .lst es)))[j]? = some (some (k', d')) → (j = i ∧ k' = k ∧ d' = .lst es) ∨ (j ≠ i ∧ env[j]? = some (some (k', d'))) := fun j k' d' e => by
    by_cases z : j = i
    · subst z
      rw [List.getElem?_set_self hi] at e
      cases e
      exact .inl ⟨rfl, rfl, rfl⟩
    · rw [List.getElem?_set_ne (Ne.symm z)] at e
      exact .inr ⟨z, e⟩
  refine ⟨fun _ h => h, fun _ h => .inl h, fun b o n e => by rw [upd_ne (fun z : b = a => n (z ▸ ow))]; exact e, ⟨by rw [List.length_set]; exact E.len, fun b f => ?_, fun j d' e => ?_, fun j k' d' hk' e => ?_, fun j l k1 k2 d1 d2 b h1 h2 e1 e2 s1 s2 => ?_⟩, ?_⟩
  · rw [upd_ne (fun z : b = a => nf (z ▸ f))]; exact E.fin b f
  · rcases get j _ d' e with ⟨_, z, _⟩ | ⟨_, e⟩
    · exact absurd z.symm hk
    · obtain ⟨w, q1, q2⟩ := E.sh j d' e
      exact ⟨w, q1, q2.mono (fun _ z => z) kp⟩
  · rcases get j k' d' e with ⟨z1, z2, z3⟩ | ⟨nj, e⟩
    · subst z1 z2 z3
      exact ⟨a, hs, nf, ys, upd_same, r.mono (fun _ z => z) kp⟩
    · obtain ⟨b, q1, q2, q3⟩ := E.mu j k' d' hk' e
      refine ⟨b, q1, q2, q3.mono (fun _ z => z) kp fun o z => ?_⟩
      have : b ≠ a := fun w => by
        subst w
        exact nj (E.ap j i k' k d' _ b hk' hk e h q1 hs)
      rw [upd_ne this]; exact z
  · have o1 : ∃ d', env[j]? = some (some (k1, d')) := by
      rcases get j k1 d1 e1 with ⟨z1, z2, _⟩ | ⟨_, e⟩
      · subst z1 z2; exact ⟨_, h⟩
      · exact ⟨_, e⟩
    have o2 : ∃ d', env[l]? = some (some (k2, d')) := by
      rcases get l k2 d2 e2 with ⟨z1, z2, _⟩ | ⟨_, e⟩
      · subst z1 z2; exact ⟨_, h⟩
      · exact ⟨_, e⟩
    obtain ⟨d1', o1⟩ := o1
    obtain ⟨d2', o2⟩ := o2
    exact E.ap j l k1 k2 d1' d2' b h1 h2 o1 o2 s1 s2
  · unfold kindsE
    apply List.ext_getElem?
    intro j
    rw [List.getElem?_map, List.getElem?_map]
    by_cases z : j = i
    · subst z
      rw [List.getElem?_set_self hi, h]
      rfl
    · rw [List.getElem?_set_ne (Ne.symm z)]
end
end AR

/-! Core7: from the text to the small language. -/
namespace AR
open PySem PySem.Spec PyProof.Rows L2

/-- what a module's name holds -/
inductive GK where
  | fn (x : Nat) (io : List Nat)
  | cn (d : D)
/-- the def's names by slot; the module's names -/
structure CC where
  N : List Str
  G : List (Str × GK)
abbrev NM := List (Str × NameKind)

def vis (nm : NM) (x : Str) : Bool := match nm.lookup x with
  | some .local => true
  | some .cell => true
  | some .free => true
  | _ => false
def locl (nm : NM) (x : Str) : Bool := match nm.lookup x with
  | some .local => true
  | some .cell => true
  | _ => false
def loc1 (nm : NM) (x : Str) : Bool := match nm.lookup x with
  | some .local => true
  | _ => false
def glb (nm : NM) (x : Str) : Bool := match nm.lookup x with
  | some .globalImplicit => true
  | _ => false
def slotOf : List Str → Str → Option Nat
  | [], _ => none
  | y :: r, x => if y = x then some 0 else (slotOf r x).map (· + 1)
def okName (x : Str) : Bool := !(x == ("__debug__" : Str)) && (!(x == ("__classdict__" : Str)) && !(x == ("__name__" : Str)))

def bopOf : Operator → Option Bop
  | .Add => some .add | .Sub => some .sub | .Mult => some .mul | .FloorDiv => some .fdiv | .Mod => some .mod | .Pow => some .pow
  | _ => none
def copOf : CmpOp → Cop
  | .Eq => .eq | .NotEq => .ne | .Lt => .lt | .LtE => .le | .Gt => .gt | .GtE => .ge | .Is => .is | .IsNot => .isnot | .In => .isin | .NotIn => .notin
def isSet : Expr → Bool
  | .Set .. => true
  | _ => false
def isStar : Expr → Bool
  | .Starred .. => true
  | _ => false
def isComp : Expr → Bool
  | .ListComp .. => true
  | .SetComp .. => true
  | .DictComp .. => true
  | _ => false

def bt1 (x : Str) : Option Bt :=
  if x = "len" then some .len else if x = "max" then some .max1 else if x = "min" then some .min1 else if x = "all" then some .all else
  if x = "any" then some .any else if x = "list" then some .list else if x = "tuple" then some .tuple else if x = "sorted" then some .sorted else
  if x = "int" then some .int else if x = "bool" then some .bool else none
def bt2 (x : Str) : Option Bt := if x = "max" then some .max2 else if x = "min" then some .min2 else none
def tyName (x : Str) : Option Ty :=
  if x = "int" then some .int else if x = "bool" then some .bool else if x = "str" then some .str else if x = "tuple" then some .tuple else if x = "list" then some .list else none

def compK : Const → Option E
  | .none => some (.cst .non)
  | .bool b => some (.cst (.bl b))
  | .int i => some (.cst (.int i))
  | .str s => some (.cst (.str s.cps.toList))
  | _ => none
def compName (c : CC) (nm : NM) (x : Str) : Option E :=
  if okName x = true then
    if vis nm x = true then (slotOf c.N x).map .var
    else if glb nm x = true then match c.G.lookup x with
      | some (.fn k _) => some (.gfn k)
      | some (.cn d) => some (.gcn x d)
      | none => none
    else none
  else none

def refOf (c : CC) (nm : NM) : Expr → Option Nat
  | .Name x _ => if okName x = true ∧ vis nm x = true then slotOf c.N x else none
  | _ => none
/-- not a slot handed over -/
def E.isRef : E → Bool
  | .ref _ => true
  | _ => false
section
variable (f : Expr → Option E)
def compEs : List Expr → Option Es
  | [] => some .nil
  | e :: es => if isStar e = true then none else (f e).bind fun e' => (compEs es).bind fun es' => some (.cons e' es')
/-- the arguments of a def; those at the places io are slots handed over -/
def compAs (c : CC) (nm : NM) (io : List Nat) : Nat → List Expr → Option Es
  | _, [] => some .nil
  | k, e :: es => if isStar e = true then none else
    if io.contains k = true then (refOf c nm e).bind fun i => (compAs c nm io (k + 1) es).bind fun es' => some (.cons (.ref i) es')
    else (f e).bind fun e' => if e'.isRef = true then none else (compAs c nm io (k + 1) es).bind fun es' => some (.cons e' es')
def compBool (op : BoolOp) : List Expr → Option E
  | [] => none
  | [e] => f e
  | e :: e2 :: es => (f e).bind fun a => (compBool op (e2 :: es)).bind fun b => some (match op with | .And => .and2 a b | .Or => .or2 a b)
def compCmp (a : Expr) : List CmpOp → List Expr → Option E
  | [op], [b] => if isSet b = true then none else (f a).bind fun a' => (f b).bind fun b' => some (.cmp (copOf op) a' b')
  | [op, op'], [b, d] => if isSet b = true ∨ isSet d = true then none else (f a).bind fun a' => (f b).bind fun b' => (f d).bind fun d' => some (.chain (copOf op) (copOf op') a' b' d')
  | _, _ => none
def tyNames (nm : NM) : List Expr → Option (List Ty)
  | [] => some []
  | .Name x _ :: es => if glb nm x = true ∧ okName x = true then (tyName x).bind fun t => (tyNames nm es).bind fun ts => some (t :: ts) else none
  | _ :: _ => none
def compBlt (c : CC) (nm : NM) (x : Str) : List Expr → Option E
  | [a] => if isStar a = true then none else (bt1 x).bind fun k => (f a).bind fun a' => some (.blt k (.cons a' .nil))
  | [a, b] => if isStar a = true ∨ isStar b = true then none else
    if x = ("isinstance" : Str) then (match b with
      | .Name y _ => if glb nm y = true ∧ okName y = true ∧ (c.G.lookup y).isNone = true then (tyName y).bind fun t => (f a).bind fun a' => some (.isi a' [t]) else none
      | _ => none)
    else (bt2 x).bind fun k => (f a).bind fun a' => (f b).bind fun b' => some (.blt k (.cons a' (.cons b' .nil)))
  | _ => none
def compCall (c : CC) (nm : NM) : Expr → List Expr → Option E
  | .Name x _, args => if okName x = true then
      if vis nm x = true then (slotOf c.N x).bind fun i => if args.isEmpty = true then none else (compEs f args).bind fun es => some (.callv i es)
      else if glb nm x = true then match c.G.lookup x with
        | some (.fn k io) => (compAs f c nm io 0 args).bind fun es => some (.call k es)
        | some (.cn _) => none
        | none => compBlt f c nm x args
      else none
    else none
  | _, _ => none
def compO : Option Expr → Option (Option E)
  | none => some none
  | some e => (f e).bind fun e' => some (some e')
def isSlice : Expr → Bool
  | .Slice .. => true
  | _ => false
def compSub (a s : Expr) : Option E :=
  if isSlice s = true then (match s with
    | .Slice lo hi none _ => (f a).bind fun a' => (compO f lo).bind fun l => (compO f hi).bind fun h => some (.slc a' l h)
    | _ => none)
  else (f a).bind fun a' => (f s).bind fun s' => some (.sub a' s')
end

/-- targets: names of one's own, tuples of such -/
def compT (c : CC) (nm : NM) : Nat → Expr → Option T
  | 0, _ => none
  | _ + 1, .Name x _ => if okName x = true ∧ locl nm x = true then (slotOf c.N x).map .var else none
  | n + 1, .Tuple es _ _ => (go (compT c nm n) es).map .tup
  | _ + 1, _ => none
where
  go (f : Expr → Option T) : List Expr → Option (List T)
    | [] => some []
    | e :: es => if isStar e = true then none else (f e).bind fun t => (go f es).bind fun ts => some (t :: ts)

def isTupT : Expr → Bool
  | .Tuple .. => true
  | _ => false
/-- what a loop walks; tup: its target is a tuple -/
def compI (f : Expr → Option E) (c : CC) (nm : NM) (tup : Bool) (e : Expr) : Option It := match e with
  | .Call (.Name x _) args [] _ =>
    if glb nm x = true ∧ okName x = true ∧ (c.G.lookup x).isNone = true then
      if x = "range" then (match args with
        | [a] => if isStar a = true then none else (f a).bind fun a' => some (.rng1 a')
        | [a, b] => if isStar a = true ∨ isStar b = true then none else (f a).bind fun a' => (f b).bind fun b' => some (.rng2 a' b')
        | _ => none)
      else if x = "enumerate" ∧ tup = true then (match args with
        | [a] => if isStar a = true then none else (f a).bind fun a' => some (.enm a')
        | _ => none)
      else if x = "zip" ∧ tup = true then (match args with
        | [a, b] => if isStar a = true ∨ isStar b = true then none else (f a).bind fun a' => (f b).bind fun b' => some (.zip2 a' b')
        | _ => none)
      else (f e).bind fun e' => some (.val e')
    else (f e).bind fun e' => some (.val e')
  | _ => if isSet e = true then none else (f e).bind fun e' => some (.val e')

/-- a comprehension's own names, with their slots -/
def ownOf (c : CC) : NM → Option (List (Str × Nat))
  | [] => some []
  | (x, k) :: r => match k with
    | .local => (ownOf c r).map fun l => match slotOf c.N x with
      | some i => (x, i) :: l
      | none => l
    | .cell => (ownOf c r).map fun l => match slotOf c.N x with
      | some i => (x, i) :: l
      | none => l
    | _ => ownOf c r
def scp (nm : NM) : Scope := { kind := .function, names := nm, isGenerator := false, isCoroutine := false }
def compE : Nat → CC → NM → Expr → Option E
  | 0, _, _, _ => none
  | n + 1, c, nm, e => match e with
    | .Constant k _ _ => compK k
    | .Name x _ => compName c nm x
    | .Tuple es _ _ => (compEs (compE n c nm) es).bind fun es' => some (.tup es')
    | .List es _ => (compEs (compE n c nm) es).bind fun es' => some (.lst es')
    | .BinOp a op b _ => (bopOf op).bind fun o => (compE n c nm a).bind fun a' => (compE n c nm b).bind fun b' => some (.bin o a' b')
    | .UnaryOp op a _ => match op with
      | .USub => (compE n c nm a).bind fun a' => some (.neg a')
      | .Not => (compE n c nm a).bind fun a' => some (.notE a')
      | _ => none
    | .BoolOp op vs _ => compBool (compE n c nm) op vs
    | .IfExp t a b _ => (compE n c nm t).bind fun t' => (compE n c nm a).bind fun a' => (compE n c nm b).bind fun b' => some (.ife t' a' b')
    | .Compare a ops bs _ => compCmp (compE n c nm) a ops bs
    | .Call fn args kws _ => if kws.isEmpty = true then compCall (compE n c nm) c nm fn args else none
    | .Subscript a s _ => compSub (compE n c nm) a s
    | .ListComp elt gens scope _ => match gens with
      | [⟨tg, iter, ifs, 0⟩] => (ownOf c scope.names).bind fun own => if blkC c.N (scp nm) scope own = true then
          (compI (compE n c nm) c nm (isTupT tg) iter).bind fun it => (compT c scope.names 4 tg).bind fun t =>
            (compEs (compE n c scope.names) ifs).bind fun is => (compE n c scope.names elt).bind fun el =>
              if (t.vars.all fun i => (own.map (·.2)).contains i) = true then some (.comp (own.map (·.2)) (.cons t it is (.el el))) else none
        else none
      | _ => none
    | _ => none

/-- two names at once that are stored from the right -/
def nameOf (nm : NM) : Expr → Option Str
  | .Name x _ => if loc1 nm x = true then some x else none
  | _ => none
def compAsg (f : Expr → Option E) (c : CC) (nm : NM) (tg e : Expr) : Option S := match tg with
  | .Name x _ => if okName x = true ∧ locl nm x = true then (slotOf c.N x).bind fun i => (f e).bind fun e' => some (.asg (.var i) e') else none
  | .Subscript (.Name x _) k _ => if isSlice k = true ∨ isComp e = true then none else if okName x = true ∧ vis nm x = true then (slotOf c.N x).bind fun i => (f k).bind fun k' => (f e).bind fun e' => some (.setk i k' e') else none
  | .Tuple ts _ _ => match e with
    | .Tuple vs _ _ => (match ts, vs with
      | [.Name x px, .Name y py], [a, b] => if okName x = true ∧ okName y = true ∧ loc1 nm x = true ∧ loc1 nm y = true ∧ px.line == py.line ∧ x ≠ y ∧ isStar a = false ∧ isStar b = false ∧ [a, b].all (foldedForSure 8) = false ∧ [a, b].all (constantsAlone 8) = false then
          (slotOf c.N x).bind fun i => (slotOf c.N y).bind fun j => (f a).bind fun a' => (f b).bind fun b' => some (.par [i, j] (.cons a' (.cons b' .nil))) else none
      | _, _ => none)
    | _ => if isComp e = true then none else (compT c nm 4 tg).bind fun t => (f e).bind fun e' => some (.asg t e')
  | _ => none
def compX (f : Expr → Option E) (c : CC) (nm : NM) (e : Expr) : Option S := match e with
  | .Call (.Attribute (.Name x _) m ap) [a] [] cp => if m = "append" ∧ okName x = true ∧ vis nm x = true ∧ isStar a = false ∧ (ap.endLine == cp.line) = true then (slotOf c.N x).bind fun i => (f a).bind fun a' => some (.app i a') else none
  | _ => if isComp e = true then none else (f e).bind fun e' => some (.ex e')

def compSs (g : Stmt → Option S) : List Stmt → Option Ss
  | [] => some .nil
  | s :: ss => (g s).bind fun s' => (compSs g ss).bind fun ss' => some (.cons s' ss')
def compS : Nat → CC → NM → Stmt → Option S
  | 0, _, _, _ => none
  | n + 1, c, nm, s => match s with
    | .Pass _ => some .pass
    | .Return v _ => match v with
      | some e => (compE n c nm e).bind fun e' => some (.ret e')
      | none => some .ret0
    | .Expr e _ => compX (compE n c nm) c nm e
    | .Assign tgs e _ => match tgs with
      | [tg] => compAsg (compE n c nm) c nm tg e
      | _ => none
    | .AugAssign tg op e _ => match tg, op with
      | .Name x _, .Add => if okName x = true ∧ locl nm x = true then (slotOf c.N x).bind fun i => (compE n c nm e).bind fun e' => some (.aug i .add e') else none
      | _, _ => none
    | .If t a b _ => (compE n c nm t).bind fun t' => (compSs (compS n c nm) a).bind fun a' => (compSs (compS n c nm) b).bind fun b' => some (.ife t' a' b')
    | .For tg it b els _ => if els.isEmpty = true then (compI (compE n c nm) c nm (isTupT tg) it).bind fun it' => (compT c nm 4 tg).bind fun t => (compSs (compS n c nm) b).bind fun b' => some (.forS t it' b') else none
    | .While t b els _ => if els.isEmpty = true then (compE n c nm t).bind fun t' => (compSs (compS n c nm) b).bind fun b' => some (.whl t' b') else none
    | _ => none
end AR

/-! Core8: an expression without pops leaves the environment as it is. -/
namespace AR
open PySem

structure EqOut (own : List Nat) (env env' : Env) : Prop where
  len : env'.length = env.length
  out : ∀ i : Nat, i ∉ own → env'[i]? = env[i]?
theorem EqOut.refl {own : List Nat} {env : Env} : EqOut own env env := ⟨rfl, fun _ _ => rfl⟩
theorem EqOut.trans {own : List Nat} {env env1 env2 : Env} (a : EqOut own env env1) (b : EqOut own env1 env2) : EqOut own env env2 := ⟨b.len.trans a.len, fun i h => (b.out i h).trans (a.out i h)⟩
theorem keepO_len (env0 : Env) : ∀ (is : List Nat) (env : Env), (keepO is env0 env).length = env.length
  | [], _ => rfl
  | i :: is, env => by rw [keepO, List.length_set, keepO_len env0 is env]
theorem keepO_get (env0 : Env) : ∀ (is : List Nat) (env : Env) (j : Nat), (keepO is env0 env)[j]? = if j ∈ is then (if j < env.length then some (env0.getD j none) else none) else env[j]?
  | [], env, j => by simp [keepO]
  | i :: is, env, j => by
    rw [keepO]
    by_cases h : i = j
    · subst h
      rw [if_pos List.mem_cons_self]
      by_cases q : i < env.length
      · rw [if_pos q, List.getElem?_set_self (by rw [keepO_len]; exact q)]
      · rw [if_neg q, List.getElem?_eq_none (by rw [List.length_set, keepO_len]; omega)]
    · rw [List.getElem?_set_ne h, keepO_get env0 is env j]
      by_cases q : j ∈ is
      · rw [if_pos q, if_pos (List.mem_cons_of_mem _ q)]
      · rw [if_neg q, if_neg (fun z => (List.mem_cons.mp z).elim (fun z => h z.symm) q)]
theorem EqOut.keep {own : List Nat} {env env' : Env} (h : EqOut own env env') : keepO own env env' = env := by
  apply List.ext_getElem?
  intro j
  rw [keepO_get]
  by_cases q : j ∈ own
  · rw [if_pos q, h.len]
    by_cases z : j < env.length
    · rw [if_pos z, List.getD_eq_getElem?_getD, List.getElem?_eq_getElem z]; rfl
    · rw [if_neg z, List.getElem?_eq_none (by omega)]
  · rw [if_neg q]; exact h.out j q
theorem wipeE_len : ∀ (is : List Nat) (env : Env), (wipeE is env).length = env.length
  | [], _ => rfl
  | i :: is, env => by rw [wipeE, List.length_set, wipeE_len is env]
theorem wipeE_out : ∀ (is : List Nat) (env : Env), EqOut is env (wipeE is env)
  | [], env => .refl
  | i :: is, env => by
    refine ⟨wipeE_len _ _, fun j h => ?_⟩
    rw [wipeE, List.getElem?_set_ne (fun z : i = j => h (z ▸ List.mem_cons_self))]
    exact (wipeE_out is env).out j fun z => h (List.mem_cons_of_mem _ z)
theorem setV_out {own : List Nat} {i : Nat} {k : Sl} {d : D} {env env' : Env} (hi : i ∈ own) (h : setV i k d env = .ok env') : EqOut own env env' := by
  have key : env' = env.set i (some (k, d)) := by
    unfold setV at h
    split at h
    · split at h
      · cases h
      · cases h; rfl
    · cases h
  subst key
  exact ⟨List.length_set .., fun j hj => List.getElem?_set_ne (fun z : i = j => hj (z ▸ hi))⟩
mutual
theorem bindT_out {own : List Nat} : ∀ (t : T) (d : D) (env env' : Env), (∀ i ∈ t.vars, i ∈ own) → bindT t d env = .ok env' → EqOut own env env'
  | .var i, d, env, env', h, e => setV_out (h i (by simp [T.vars])) (by simpa [bindT] using e)
  | .tup ts, .tup ds, env, env', h, e => bindTs_out ts ds env env' (by simpa [T.vars] using h) (by simpa [bindT] using e)
  | .tup _, .non, _, _, _, e => by simp [bindT] at e
  | .tup _, .bl _, _, _, _, e => by simp [bindT] at e
  | .tup _, .int _, _, _, _, e => by simp [bindT] at e
  | .tup _, .str _, _, _, _, e => by simp [bindT] at e
  | .tup _, .lst _, _, _, _, e => by simp [bindT] at e
  | .tup _, .dic _, _, _, _, e => by simp [bindT] at e
  | .tup _, .fn _, _, _, _, e => by simp [bindT] at e
  | .tup _, .scr _, _, _, _, e => by simp [bindT] at e
theorem bindTs_out {own : List Nat} : ∀ (ts : List T) (ds : List D) (env env' : Env), (∀ i ∈ varsL ts, i ∈ own) → bindTs ts ds env = .ok env' → EqOut own env env'
  | [], [], env, env', _, e => by simp [bindTs] at e; subst e; exact .refl
  | [], _ :: _, _, _, _, e => by simp [bindTs] at e
  | _ :: _, [], _, _, _, e => by simp [bindTs] at e
  | t :: ts, d :: ds, env, env', h, e => by
    rw [bindTs] at e
    obtain ⟨env1, e1, e2⟩ := bnd_ok e
    exact (bindT_out t d env env1 (fun i hi => h i (by simp [varsL, hi])) e1).trans (bindTs_out ts ds env1 env' (fun i hi => h i (by simp [varsL, hi])) e2)
end
theorem collect_pure {own : List Nat} {f : Env → D → R (Env × List D)} (hf : ∀ env d r, f env d = .ok r → EqOut own env r.1) : ∀ (ds : List D) (env : Env) (r : Env × List D), collect own f ds env = .ok r → r.1 = env
  | [], env, r, h => by cases h; rfl
  | d :: ds, env, r, h => by
    rw [collect] at h
    obtain ⟨a, h1, h2⟩ := bnd_ok h
    obtain ⟨b, h3, h4⟩ := bnd_ok h2
    cases h4
    have := collect_pure hf ds _ b h3
    rw [(hf env d a h1).keep] at this
    exact this

theorem and2 {a b : Bool} (h : (a && b) = true) : a = true ∧ b = true := Bool.and_eq_true_iff.mp h
mutual
theorem ev_pure (C : CallF) : ∀ (e : E) (env : Env) (r : Env × Fl × D), e.pure = true → ev C e env = .ok r → r.1 = env
  | .cst d, env, r, _, h => by rw [ev] at h; cases h; rfl
  | .var i, env, r, _, h => by
    rw [ev] at h
    split at h <;> cases h <;> rfl
  | .gfn x, env, r, _, h => by rw [ev] at h; cases h; rfl
  | .gcn x d, env, r, _, h => by rw [ev] at h; cases h; rfl
  | .tup es, env, r, p, h => by
    rw [ev] at h
    obtain ⟨a, h1, h2⟩ := bnd_ok h
    obtain ⟨_, h3⟩ := guard_ok h2
    cases h3
    exact evs_pure C es env a (by simpa [E.pure] using p) h1
  | .lst es, env, r, p, h => by
    rw [ev] at h
    obtain ⟨a, h1, h2⟩ := bnd_ok h
    obtain ⟨_, h3⟩ := guard_ok h2
    cases h3
    exact evs_pure C es env a (by simpa [E.pure] using p) h1
  | .dic0, env, r, _, h => by rw [ev] at h; cases h; rfl
  | .dic1 k v, env, r, p, h => by
    rw [ev] at h
    rw [E.pure] at p
    obtain ⟨p1, p2⟩ := and2 p
    obtain ⟨a, h1, h2⟩ := bnd_ok h
    obtain ⟨_, h3⟩ := guard_ok h2
    obtain ⟨b, h4, h5⟩ := bnd_ok h3
    obtain ⟨_, h6⟩ := guard_ok h5
    cases h6
    exact (ev_pure C v _ b p2 h4).trans (ev_pure C k env a p1 h1)
  | .bin op a b, env, r, p, h => by
    rw [ev] at h
    rw [E.pure] at p
    obtain ⟨p1, p2⟩ := and2 p
    obtain ⟨x, h1, h2⟩ := bnd_ok h
    obtain ⟨_, h3⟩ := guard_ok h2
    obtain ⟨y, h4, h5⟩ := bnd_ok h3
    obtain ⟨z, _, h6⟩ := bnd_ok h5
    cases h6
    exact (ev_pure C b _ y p2 h4).trans (ev_pure C a env x p1 h1)
  | .neg a, env, r, p, h => by
    rw [ev] at h
    obtain ⟨x, h1, h2⟩ := bnd_ok h
    have := ev_pure C a env x (by simpa [E.pure] using p) h1
    split at h2
    · cases h2; exact this
    · cases h2
  | .notE a, env, r, p, h => by
    rw [ev] at h
    obtain ⟨x, h1, h2⟩ := bnd_ok h
    obtain ⟨k, _, h3⟩ := bnd_ok h2
    cases h3
    exact ev_pure C a env x (by simpa [E.pure] using p) h1
  | .and2 a b, env, r, p, h => by
    rw [ev] at h
    rw [E.pure] at p
    obtain ⟨p1, p2⟩ := and2 p
    obtain ⟨x, h1, h2⟩ := bnd_ok h
    obtain ⟨k, _, h3⟩ := bnd_ok h2
    have q := ev_pure C a env x p1 h1
    split at h3
    · exact (ev_pure C b _ r p2 h3).trans q
    · cases h3; exact q
  | .or2 a b, env, r, p, h => by
    rw [ev] at h
    rw [E.pure] at p
    obtain ⟨p1, p2⟩ := and2 p
    obtain ⟨x, h1, h2⟩ := bnd_ok h
    obtain ⟨k, _, h3⟩ := bnd_ok h2
    have q := ev_pure C a env x p1 h1
    split at h3
    · cases h3; exact q
    · exact (ev_pure C b _ r p2 h3).trans q
  | .ife c a b, env, r, p, h => by
    rw [ev] at h
    rw [E.pure] at p
    obtain ⟨p0, p⟩ := and2 p
    obtain ⟨p1, p2⟩ := and2 p
    obtain ⟨x, h1, h2⟩ := bnd_ok h
    obtain ⟨k, _, h3⟩ := bnd_ok h2
    have q := ev_pure C c env x p0 h1
    split at h3
    · exact (ev_pure C a _ r p1 h3).trans q
    · exact (ev_pure C b _ r p2 h3).trans q
  | .cmp op a b, env, r, p, h => by
    rw [ev] at h
    rw [E.pure] at p
    obtain ⟨p1, p2⟩ := and2 p
    obtain ⟨x, h1, h2⟩ := bnd_ok h
    obtain ⟨_, h3⟩ := guard_ok h2
    obtain ⟨y, h4, h5⟩ := bnd_ok h3
    obtain ⟨z, _, h6⟩ := bnd_ok h5
    cases h6
    exact (ev_pure C b _ y p2 h4).trans (ev_pure C a env x p1 h1)
  | .chain op op' a b c, env, r, p, h => by
    rw [ev] at h
    rw [E.pure] at p
    obtain ⟨p0, p⟩ := and2 p
    obtain ⟨p1, p2⟩ := and2 p
    obtain ⟨x, h1, h2⟩ := bnd_ok h
    obtain ⟨_, h3⟩ := guard_ok h2
    obtain ⟨y, h4, h5⟩ := bnd_ok h3
    obtain ⟨k, _, h6⟩ := bnd_ok h5
    have q := (ev_pure C b _ y p1 h4).trans (ev_pure C a env x p0 h1)
    split at h6
    · obtain ⟨_, h7⟩ := guard_ok h6
      obtain ⟨z, h8, h9⟩ := bnd_ok h7
      obtain ⟨k', _, h10⟩ := bnd_ok h9
      cases h10
      exact (ev_pure C c _ z p2 h8).trans q
    · cases h6; exact q
  | .ref _, _, _, p, _ => by simp [E.pure] at p
  | .call f es, env, r, p, h => by
    rw [ev] at h
    obtain ⟨a, h1, h2⟩ := bnd_ok h
    obtain ⟨as, _, h3⟩ := bnd_ok h2
    obtain ⟨_, h4⟩ := guard_ok h3
    obtain ⟨q, _, h5⟩ := bnd_ok h4
    obtain ⟨env2, h6, h7⟩ := bnd_ok h5
    cases h7
    obtain ⟨q1, q2⟩ := evA_pure C es env a (by simpa [E.pure] using p) h1
    rw [q2] at h6
    cases hq : q.1 with
    | nil => rw [hq] at h6; cases h6; exact q1
    | cons _ _ => rw [hq] at h6; cases h6
  | .callv i es, env, r, p, h => by
    rw [ev] at h
    split at h
    · obtain ⟨a, h1, h2⟩ := bnd_ok h
      obtain ⟨q, _, h3⟩ := bnd_ok h2
      cases h3
      exact evs_pure C es env a (by simpa [E.pure] using p) h1
    · cases h
  | .blt k es, env, r, p, h => by
    rw [ev] at h
    obtain ⟨a, h1, h2⟩ := bnd_ok h
    obtain ⟨q, _, h3⟩ := bnd_ok h2
    cases h3
    exact evP_pure C es env a (by simpa [E.pure] using p) h1
  | .isi a ts, env, r, p, h => by
    rw [ev] at h
    obtain ⟨x, h1, h2⟩ := bnd_ok h
    obtain ⟨z, _, h2⟩ := bnd_ok h2
    cases h2
    exact ev_pure C a env x (by simpa [E.pure] using p) h1
  | .idx a b, env, r, p, h => by
    rw [ev] at h
    rw [E.pure] at p
    obtain ⟨p1, p2⟩ := and2 p
    obtain ⟨x, h1, h2⟩ := bnd_ok h
    obtain ⟨_, h3⟩ := guard_ok h2
    obtain ⟨y, h4, h5⟩ := bnd_ok h3
    obtain ⟨z, _, h6⟩ := bnd_ok h5
    cases h6
    exact (ev_pure C b _ y p2 h4).trans (ev_pure C a env x p1 h1)
  | .get2 o a b, env, r, p, h => by
    rw [ev] at h
    rw [E.pure] at p
    obtain ⟨p0, p⟩ := and2 p
    obtain ⟨p1, p2⟩ := and2 p
    obtain ⟨x, h1, h2⟩ := bnd_ok h
    obtain ⟨_, h3⟩ := guard_ok h2
    obtain ⟨y, h4, h5⟩ := bnd_ok h3
    obtain ⟨_, h6⟩ := guard_ok h5
    obtain ⟨z, h7, h8⟩ := bnd_ok h6
    obtain ⟨_, h9⟩ := guard_ok h8
    have q := (ev_pure C b _ z p2 h7).trans ((ev_pure C a _ y p1 h4).trans (ev_pure C o env x p0 h1))
    split at h9
    · obtain ⟨_, h10⟩ := guard_ok h9
      cases h10; exact q
    · cases h9
  | .pop _ _, _, _, p, _ => by simp [E.pure] at p
  | .pop0 _, _, _, p, _ => by simp [E.pure] at p
  | .sub a b, env, r, p, h => by
    rw [ev] at h
    rw [E.pure] at p
    obtain ⟨p1, p2⟩ := and2 p
    obtain ⟨x, h1, h2⟩ := bnd_ok h
    obtain ⟨_, h3⟩ := guard_ok h2
    obtain ⟨y, h4, h5⟩ := bnd_ok h3
    obtain ⟨z, _, h6⟩ := bnd_ok h5
    cases h6
    exact (ev_pure C b _ y p2 h4).trans (ev_pure C a env x p1 h1)
  | .slc a lo hi, env, r, p, h => by
    rw [ev] at h
    rw [E.pure] at p
    obtain ⟨p0, p⟩ := and2 p
    obtain ⟨p1, p2⟩ := and2 p
    obtain ⟨x, h1, h2⟩ := bnd_ok h
    obtain ⟨_, h3⟩ := guard_ok h2
    obtain ⟨y, h4, h5⟩ := bnd_ok h3
    obtain ⟨z, h6, h7⟩ := bnd_ok h5
    obtain ⟨w, _, h8⟩ := bnd_ok h7
    cases h8
    exact (evO_pure C hi _ z p2 h6).trans ((evO_pure C lo _ y p1 h4).trans (ev_pure C a env x p0 h1))
  | .rev a, env, r, p, h => by
    rw [ev] at h
    obtain ⟨x, h1, h2⟩ := bnd_ok h
    obtain ⟨w, _, h3⟩ := bnd_ok h2
    cases h3
    exact ev_pure C a env x (by simpa [E.pure] using p) h1
  | .comp own cl, env, r, p, h => by
    rw [ev] at h
    obtain ⟨x, h1, h2⟩ := bnd_ok h
    obtain ⟨_, h3⟩ := guard_ok h2
    cases h3
    exact ((wipeE_out own env).trans (evCl_pure C own cl _ x (by simpa [E.pure] using p) h1)).keep
  | .rng t it, env, r, p, h => by
    rw [ev] at h
    obtain ⟨x, h1, h2⟩ := bnd_ok h
    obtain ⟨_, h3⟩ := guard_ok h2
    cases h3
    exact evI_pure C it true env x (by simpa [E.pure] using p) h1
theorem evs_pure (C : CallF) : ∀ (es : Es) (env : Env) (r : Env × List D), es.pure = true → evs C es env = .ok r → r.1 = env
  | .nil, env, r, _, h => by rw [evs] at h; cases h; rfl
  | .cons e es, env, r, p, h => by
    rw [evs] at h
    rw [Es.pure] at p
    obtain ⟨p1, p2⟩ := and2 p
    obtain ⟨x, h1, h2⟩ := bnd_ok h
    obtain ⟨_, h3⟩ := guard_ok h2
    obtain ⟨y, h4, h5⟩ := bnd_ok h3
    cases h5
    exact (evs_pure C es _ y p2 h4).trans (ev_pure C e env x p1 h1)
theorem evA_pure (C : CallF) : ∀ (es : Es) (env : Env) (r : Env × List Arg), es.pure = true → evA C es env = .ok r → r.1 = env ∧ refs r.2 = []
  | .nil, env, r, _, h => by rw [evA] at h; cases h; exact ⟨rfl, rfl⟩
  | .cons (.ref i) es, env, r, p, h => by simp [Es.pure, E.pure] at p
  | .cons e es, env, r, p, h => by
    rw [Es.pure] at p
    obtain ⟨p1, p2⟩ := and2 p
    have h' : (bnd (ev C e env) fun x => guardR x.2.1.free (bnd (evA C es x.1) fun r => .ok (r.1, Arg.v x.2.2 :: r.2))) = .ok r := by
      cases e <;> first | (simp [E.pure] at p1; done) | (rw [evA] at h; exact h; intro i z; cases z)
    obtain ⟨x, h1, h2⟩ := bnd_ok h'
    obtain ⟨_, h3⟩ := guard_ok h2
    obtain ⟨y, h4, h5⟩ := bnd_ok h3
    cases h5
    obtain ⟨q1, q2⟩ := evA_pure C es _ y p2 h4
    exact ⟨q1.trans (ev_pure C e env x p1 h1), q2⟩
theorem evP_pure (C : CallF) : ∀ (es : Es) (env : Env) (r : Env × List D), es.pure = true → evP C es env = .ok r → r.1 = env
  | .nil, env, r, _, h => by rw [evP] at h; cases h; rfl
  | .cons e es, env, r, p, h => by
    rw [evP] at h
    rw [Es.pure] at p
    obtain ⟨p1, p2⟩ := and2 p
    obtain ⟨x, h1, h2⟩ := bnd_ok h
    obtain ⟨_, h3⟩ := guard_ok h2
    obtain ⟨y, h4, h5⟩ := bnd_ok h3
    cases h5
    exact (evP_pure C es _ y p2 h4).trans (ev_pure C e env x p1 h1)
theorem evO_pure (C : CallF) : ∀ (o : Option E) (env : Env) (r : Env × Option Int), pureO o = true → evO C o env = .ok r → r.1 = env
  | none, env, r, _, h => by rw [evO] at h; cases h; rfl
  | some e, env, r, p, h => by
    rw [evO] at h
    obtain ⟨x, h1, h2⟩ := bnd_ok h
    have := ev_pure C e env x (by simpa [pureO] using p) h1
    split at h2
    · cases h2; exact this
    · cases h2
theorem evI_pure (C : CallF) : ∀ (it : It) (b : Bool) (env : Env) (r : Env × List D), it.pure = true → evI C it b env = .ok r → r.1 = env
  | .val e, b, env, r, p, h => by
    rw [evI] at h
    obtain ⟨x, h1, h2⟩ := bnd_ok h
    obtain ⟨_, h3⟩ := guard_ok h2
    obtain ⟨y, _, h5⟩ := bnd_ok h3
    cases h5
    exact ev_pure C e env x (by simpa [It.pure] using p) h1
  | .rng1 e, b, env, r, p, h => by
    rw [evI] at h
    obtain ⟨x, h1, h2⟩ := bnd_ok h
    have := ev_pure C e env x (by simpa [It.pure] using p) h1
    split at h2
    · obtain ⟨_, h3⟩ := guard_ok h2
      cases h3; exact this
    · cases h2
  | .rng2 a c, b, env, r, p, h => by
    rw [evI] at h
    rw [It.pure] at p
    obtain ⟨p1, p2⟩ := and2 p
    obtain ⟨x, h1, h2⟩ := bnd_ok h
    obtain ⟨y, h3, h4⟩ := bnd_ok h2
    have q := (ev_pure C c _ y p2 h3).trans (ev_pure C a env x p1 h1)
    split at h4
    · obtain ⟨_, h5⟩ := guard_ok h4
      cases h5; exact q
    · cases h4
  | .rng3 a c d, b, env, r, p, h => by
    rw [evI] at h
    rw [It.pure] at p
    obtain ⟨p0, p⟩ := and2 p
    obtain ⟨p1, p2⟩ := and2 p
    obtain ⟨x, h1, h2⟩ := bnd_ok h
    obtain ⟨y, h3, h4⟩ := bnd_ok h2
    obtain ⟨z, h5, h6⟩ := bnd_ok h4
    have q := (ev_pure C d _ z p2 h5).trans ((ev_pure C c _ y p1 h3).trans (ev_pure C a env x p0 h1))
    split at h6
    · obtain ⟨l, _, h7⟩ := bnd_ok h6
      cases h7; exact q
    · cases h6
  | .enm e, b, env, r, p, h => by
    rw [evI] at h
    obtain ⟨x, h1, h2⟩ := bnd_ok h
    obtain ⟨_, h3⟩ := guard_ok h2
    obtain ⟨y, _, h5⟩ := bnd_ok h3
    cases h5
    exact ev_pure C e env x (by simpa [It.pure] using p) h1
  | .zip2 a c, b, env, r, p, h => by
    rw [evI] at h
    rw [It.pure] at p
    obtain ⟨p1, p2⟩ := and2 p
    obtain ⟨x, h1, h2⟩ := bnd_ok h
    obtain ⟨_, h3⟩ := guard_ok h2
    obtain ⟨y, h4, h5⟩ := bnd_ok h3
    obtain ⟨_, h6⟩ := guard_ok h5
    obtain ⟨l, _, h7⟩ := bnd_ok h6
    cases h7
    exact (ev_pure C c _ y p2 h4).trans (ev_pure C a env x p1 h1)
  | .zip3 a c d, b, env, r, p, h => by
    rw [evI] at h
    rw [It.pure] at p
    obtain ⟨p0, p⟩ := and2 p
    obtain ⟨p1, p2⟩ := and2 p
    obtain ⟨x, h1, h2⟩ := bnd_ok h
    obtain ⟨_, h3⟩ := guard_ok h2
    obtain ⟨y, h4, h5⟩ := bnd_ok h3
    obtain ⟨_, h6⟩ := guard_ok h5
    obtain ⟨z, h7, h8⟩ := bnd_ok h6
    obtain ⟨_, h9⟩ := guard_ok h8
    obtain ⟨l, _, h10⟩ := bnd_ok h9
    obtain ⟨m, _, h11⟩ := bnd_ok h10
    obtain ⟨n, _, h12⟩ := bnd_ok h11
    cases h12
    exact (ev_pure C d _ z p2 h7).trans ((ev_pure C c _ y p1 h4).trans (ev_pure C a env x p0 h1))
  | .items e, b, env, r, p, h => by
    rw [evI] at h
    obtain ⟨x, h1, h2⟩ := bnd_ok h
    obtain ⟨_, h3⟩ := guard_ok h2
    have := ev_pure C e env x (by simpa [It.pure] using p) h1
    split at h3
    · cases h3; exact this
    · cases h3
theorem evIfs_pure (C : CallF) : ∀ (es : Es) (env : Env) (r : Env × Bool), es.pure = true → evIfs C es env = .ok r → r.1 = env
  | .nil, env, r, _, h => by rw [evIfs] at h; cases h; rfl
  | .cons e es, env, r, p, h => by
    rw [evIfs] at h
    rw [Es.pure] at p
    obtain ⟨p1, p2⟩ := and2 p
    obtain ⟨x, h1, h2⟩ := bnd_ok h
    obtain ⟨k, _, h3⟩ := bnd_ok h2
    have q := ev_pure C e env x p1 h1
    split at h3
    · exact (evIfs_pure C es _ r p2 h3).trans q
    · cases h3; exact q
theorem evCl_pure (C : CallF) (own : List Nat) : ∀ (cl : Cl) (env : Env) (r : Env × List D), cl.pureC own = true → evCl C own cl env = .ok r → EqOut own env r.1
  | .el e, env, r, p, h => by
    rw [evCl] at h
    obtain ⟨x, h1, h2⟩ := bnd_ok h
    obtain ⟨_, h3⟩ := guard_ok h2
    cases h3
    have := ev_pure C e env x (by simpa [Cl.pureC] using p) h1
    rw [show (x.1, [x.2.2]).1 = env from this]
    exact .refl
  | .cons t it ifs rest, env, r, p, h => by
    rw [evCl] at h
    rw [Cl.pureC] at p
    obtain ⟨p0, p⟩ := and2 p
    obtain ⟨p1, p⟩ := and2 p
    obtain ⟨p2, p3⟩ := and2 p
    obtain ⟨x, h1, h2⟩ := bnd_ok h
    have q := evI_pure C it _ env x p1 h1
    have q2 := collect_pure (fun env1 d r hr => by
      obtain ⟨env2, h3, h4⟩ := bnd_ok hr
      obtain ⟨y, h5, h6⟩ := bnd_ok h4
      have e1 := bindT_out (own := own) t d env1 env2 (fun i hi => by simpa using List.all_eq_true.mp p0 i hi) h3
      have e2 := evIfs_pure C ifs env2 y p2 h5
      split at h6
      · have e3 := evCl_pure C own rest _ r p3 h6
        rw [e2] at e3
        exact e1.trans e3
      · cases h6
        rw [show (y.1, ([] : List D)).1 = env2 from e2]
        exact e1) x.2 x.1 r h2
    rw [q2, q]
    exact .refl
end
end AR

/-! Core9: expressions: names, operators, truth. -/
namespace AR
open PySem PySem.Spec PyProof.Rows L2

theorem _root_.L2.PE.imp {X : Cx} {e : Expr} {t t' : TE} (h : PE X e t) (hi : ∀ σ H Q, t' σ H Q → t σ H Q) : PE X e t' := ⟨fun pins s σ H Q I hw => h.run pins s σ H Q I (hi _ _ _ hw)⟩
theorem _root_.L2.PT.imp {X : Cx} {e : Expr} {t t' : TT} (h : PT X e t) (hi : ∀ σ H Q, t' σ H Q → t σ H Q) : PT X e t' := ⟨fun pins s σ H Q I hw => h.run pins s σ H Q I (hi _ _ _ hw)⟩
theorem _root_.L2.PW.imp {X : Cx} {e : Expr} {t t' : TT} (h : PW X e t) (hi : ∀ σ H Q, t' σ H Q → t σ H Q) : PW X e t' := ⟨fun wh pins s σ H Q I hw => h.run wh pins s σ H Q I (hi _ _ _ hw)⟩
theorem _root_.L2.PA.imp {X : Cx} {e : List Expr} {t t' : TA} (h : PA X e t) (hi : ∀ σ H Q, t' σ H Q → t σ H Q) : PA X e t' := ⟨fun pos pins s σ H Q I hw => h.run pos pins s σ H Q I (hi _ _ _ hw)⟩

section
variable (K : PySem.W.Frag) (FA : Nat → Option Addr) (C : CallF)
/-- an expression's reading -/
def TEv (e : E) : TE := fun σ H Q => ∃ F env r, EnvOk K FA F H σ env ∧ ev C e env = .ok r ∧ ∀ v F' H', Post K FA F H σ env F' H' r.1 → ValOk K FA H σ r.1 F' H' r.2.1 r.2.2 v → Q v H'
/-- a test's -/
def TTv (e : E) : TT := fun σ H Q => ∃ F env r k, EnvOk K FA F H σ env ∧ ev C e env = .ok r ∧ r.2.2.truth = .ok k ∧ ∀ F' H', Post K FA F H σ env F' H' r.1 → Q k H'
end

section
variable {K : PySem.W.Frag} {FA : Nat → Option Addr} {C : CallF} {F F' : Addr → Prop} {H H' : Hp} {σ : L2.St}
theorem truth_pk {d : D} {v : V} {k : Bool} (h : Pk K FA F H d v) (t : d.truth = .ok k) : TruV K v H k := by
  cases d with
  | non => rw [h.non]; cases t; rfl
  | bl b => rw [h.bl]; cases t; rfl
  | int i => rw [h.int]; cases t; rfl
  | str s =>
    rw [h.str]
    obtain ⟨f, t⟩ := guard_ok t
    cases t
    refine ⟨by rw [strV_len]; exact of_decide_eq_true f, ?_⟩
    rw [strV_len]
    cases s with
    | nil => rfl
    | cons a r =>
      rw [List.length_cons]
      simp only [List.isEmpty_cons, Bool.not_false]
      exact (bne_iff_ne.mpr (by omega)).symm
  | tup ds =>
    cases t
    obtain ⟨a, xs, e, h1, r⟩ := h.tup
    subst e
    refine .inr (.inl ⟨xs, h1.sq, ?_⟩)
    cases ds <;> cases xs <;> first | rfl | (have := r.len; simp at this)
  | lst ds =>
    cases t
    obtain ⟨a, xs, e, h1, r⟩ := h.lst
    subst e
    refine .inl ⟨xs, SqL.of h1, ?_⟩
    cases ds <;> cases xs <;> first | rfl | (have := r.len; simp at this)
  | dic _ => exact h.dic.elim
  | fn _ => cases t
  | scr _ => cases t

/-- two operands -/
theorem tev_two {e a b : E} {g : D → D → R (Fl × D)} (he : ∀ env, ev C e env = bnd (ev C a env) fun x => guardR (pk x.2.1 b.pure) (bnd (ev C b x.1) fun y => bnd (g x.2.2 y.2.2) fun r => .ok (y.1, r.1, r.2)))
    {Q : VK} (h : TEv K FA C e σ H Q) : TEv K FA C a σ H fun v1 H1 => TEv K FA C b σ H1 fun v2 H2 => rOp FA K g v1 v2 H2 Q := by
  obtain ⟨F, env, r, E, hr, q⟩ := h
  rw [he] at hr
  obtain ⟨x, h1, h2⟩ := bnd_ok hr
  obtain ⟨hp, h3⟩ := guard_ok h2
  obtain ⟨y, h4, h5⟩ := bnd_ok h3
  obtain ⟨z, h6, h7⟩ := bnd_ok h5
  cases h7
  refine ⟨F, env, x, E, h1, fun v1 F1 H1 P1 V1 => ⟨F1, x.1, y, P1.ok, h4, fun v2 F2 H2 P2 V2 => ?_⟩⟩
  have pk1 := V1.pk E P1 P2 ((pk_or hp).imp id fun b => ev_pure C _ _ _ b h4)
  have pk2 := V2.pk0 P1.ok P2
  refine ⟨F2, x.2.2, y.2.2, z, P2.ok.fin, pk1, pk2, h6, fun v F' H' R => ?_⟩
  obtain ⟨p, w⟩ := fin_res E (P1.trans E P2) R
  exact q v F' H' p w
/-- one operand -/
theorem tev_one {e a : E} {g : D → R (Fl × D)} (he : ∀ env, ev C e env = bnd (ev C a env) fun x => bnd (g x.2.2) fun r => .ok (x.1, r.1, r.2))
    {Q : VK} (h : TEv K FA C e σ H Q) : TEv K FA C a σ H fun v H1 => ∃ F d r, Fin' F H1 ∧ Pk K FA F H1 d v ∧ g d = .ok r ∧ ∀ w F' H', Res K FA F H1 r.1 r.2 w F' H' → Q w H' := by
  obtain ⟨F, env, r, E, hr, q⟩ := h
  rw [he] at hr
  obtain ⟨x, h1, h2⟩ := bnd_ok hr
  obtain ⟨z, h6, h7⟩ := bnd_ok h2
  cases h7
  refine ⟨F, env, x, E, h1, fun v1 F1 H1 P1 V1 => ⟨F1, x.2.2, z, P1.ok.fin, V1.pk0 E P1, h6, fun w F' H' R => ?_⟩⟩
  obtain ⟨p, w'⟩ := fin_res E P1 R
  exact q w F' H' p w'
/-- the value itself, with its truth -/
theorem tev_tru {e : E} {Q : Bool → Hp → Prop} (h : TTv K FA C e σ H Q) : TEv K FA C e σ H fun x H' => ∃ k, TruV K x H' k ∧ Q k H' := by
  obtain ⟨F, env, r, k, E, hr, ht, q⟩ := h
  exact ⟨F, env, r, E, hr, fun v F' H' P V => ⟨k, truth_pk (V.pk0 E P) ht, q F' H' P⟩⟩
/-- in the middle: another reading goes on -/
theorem ttv_of {e : E} {Q : Bool → Hp → Prop} {F : Addr → Prop} {env : Env} {r : Env × Fl × D} {k : Bool} (E : EnvOk K FA F H σ env) (hr : ev C e env = .ok r) (ht : r.2.2.truth = .ok k) (q : ∀ F' H', Post K FA F H σ env F' H' r.1 → Q k H') : TTv K FA C e σ H Q := ⟨F, env, r, k, E, hr, ht, q⟩
end

section
variable {X : Cx} {FA : Nat → Option Addr} {C : CallF} {a b c : Expr} {a' b' c' : E} {pos : Pos}
theorem pe_binE {op : Operator} {o : Bop} (ho : bopOf op = some o) (ha : PE X a (TEv X.K FA C a')) (hb : PE X b (TEv X.K FA C b')) : PE X (.BinOp a op b pos) (TEv X.K FA C (.bin o a' b')) := by
  have e : op = bopT o := by cases op <;> cases o <;> first | rfl | cases ho
  subst e
  exact (pe_op (op_bin (FA := FA) o) ha hb).imp fun σ H Q h => tev_two (g := binop o) (fun env => by rw [ev]) h
theorem pe_cmpE {op : CmpOp} (hu : X.A.units + 65 < cLine) (hm : behindInMarks op b = false) (ha : PE X a (TEv X.K FA C a')) (hb : PE X b (TEv X.K FA C b')) : PE X (.Compare a [op] [b] pos) (TEv X.K FA C (.cmp (copOf op) a' b')) := by
  have e : copT (copOf op) = op := by cases op <;> rfl
  have h := op_cop (FA := FA) (copOf op) hu
  rw [e] at h
  refine (pe_cmpR h ha hb hm).imp fun σ H Q h => tev_two (g := cmpR (copOf op)) (fun env => ?_) h
  rw [ev]
  congr; funext x; congr; funext y
  unfold cmpR
  cases cmpop (copOf op) x.2.2 y.2.2 <;> rfl
theorem pt_cmpE {op : CmpOp} (hu : X.A.units + 65 < cLine) (hm : behindInMarks op b = false) (ha : PE X a (TEv X.K FA C a')) (hb : PE X b (TEv X.K FA C b')) : PT X (.Compare a [op] [b] pos) (TTv X.K FA C (.cmp (copOf op) a' b')) := by
  have e : copT (copOf op) = op := by cases op <;> rfl
  have h := op_cop (FA := FA) (copOf op) hu
  rw [e] at h
  refine (pt_cmpR h ha hb hm).imp fun σ H Q h => ?_
  have h2 : TEv X.K FA C (.cmp (copOf op) a' b') σ H fun x H' => ∃ k, x = .bl k ∧ Q k H' := by
    obtain ⟨F, env, r, k, E, hr, ht, q⟩ := h
    refine ⟨F, env, r, E, hr, fun v F' H' P V => ⟨k, ?_, q F' H' P⟩⟩
    rw [ev] at hr
    obtain ⟨x, _, h2⟩ := bnd_ok hr
    obtain ⟨_, h3⟩ := guard_ok h2
    obtain ⟨y, _, h5⟩ := bnd_ok h3
    obtain ⟨z, _, h7⟩ := bnd_ok h5
    cases h7
    cases ht
    exact V
  refine tev_two (g := cmpR (copOf op)) (fun env => ?_) h2
  rw [ev]
  congr; funext x; congr; funext y
  unfold cmpR
  cases cmpop (copOf op) x.2.2 y.2.2 <;> rfl
/-- a test by its value -/
theorem pt_plainE {e : Expr} {e' : E} (h : PE X e (TEv X.K FA C e')) (he : ∀ whole, isTrue e X.env whole = (do let v ← whole; standAt e.pos; holding [v] (truthy v))) : PT X e (TTv X.K FA C e') :=
  (pt_truth h he).imp fun _ _ _ h => tev_tru h
theorem pe_notE (h : PE X a (TEv X.K FA C a')) : PE X (.UnaryOp .Not a pos) (TEv X.K FA C (.notE a')) := by
  refine (pe_notT h).imp fun σ H Q ⟨F, env, r, E, hr, q⟩ => ?_
  rw [ev] at hr
  obtain ⟨x, h1, h2⟩ := bnd_ok hr
  obtain ⟨k, h3, h4⟩ := bnd_ok h2
  cases h4
  exact ⟨F, env, x, E, h1, fun v F' H' P V => ⟨k, truth_pk (V.pk0 E P) h3, q _ F' H' P rfl⟩⟩
theorem pt_notE (h : PT X a (TTv X.K FA C a')) : PT X (.UnaryOp .Not a pos) (TTv X.K FA C (.notE a')) := by
  refine (pt_not h).imp fun σ H Q ⟨F, env, r, k, E, hr, ht, q⟩ => ?_
  rw [ev] at hr
  obtain ⟨x, h1, h2⟩ := bnd_ok hr
  obtain ⟨k', h3, h4⟩ := bnd_ok h2
  cases h4
  cases ht
  exact ⟨F, env, x, k', E, h1, h3, fun F' H' P => q F' H' P⟩
def negI (d : D) : R (Fl × D) := match d with
  | .int i => .ok (.sh, .int (-i))
  | _ => stuck
theorem pe_negE (h : PE X a (TEv X.K FA C a')) : PE X (.UnaryOp .USub a pos) (TEv X.K FA C (.neg a')) := by
  refine (pe_un un_neg h).imp fun σ H Q hq => ?_
  obtain ⟨F, env, r, E, hr, q⟩ := tev_one (a := a') (g := negI) (fun env => by
    rw [ev]
    congr; funext x
    unfold negI
    cases x.2.2 <;> rfl) hq
  refine ⟨F, env, r, E, hr, fun v F' H' P V => ?_⟩
  obtain ⟨F1, d, z, fi, hp, hz, hq⟩ := q v F' H' P V
  unfold negI at hz
  split at hz
  · cases hz
    exact ⟨_, hp.int, hq _ _ _ (.flat fi rfl)⟩
  · cases hz
theorem pe_ifE {t : Expr} {t' : E} (ht : PT X t (TTv X.K FA C t')) (ha : PE X a (TEv X.K FA C a')) (hb : PE X b (TEv X.K FA C b')) : PE X (.IfExp t a b pos) (TEv X.K FA C (.ife t' a' b')) := by
  refine (pe_ifExp ht ha hb).imp fun σ H Q ⟨F, env, r, E, hr, q⟩ => ?_
  rw [ev] at hr
  obtain ⟨x, h1, h2⟩ := bnd_ok hr
  obtain ⟨k, h3, h4⟩ := bnd_ok h2
  refine ⟨F, env, x, k, E, h1, h3, fun F1 H1 P1 => ?_⟩
  cases k with
  | true =>
    rw [if_pos rfl] at h4 ⊢
    exact ⟨F1, x.1, r, P1.ok, h4, fun v F2 H2 P2 V2 => q v F2 H2 (P1.trans E P2) (V2.later E P1 P2)⟩
  | false =>
    rw [if_neg Bool.false_ne_true] at h4 ⊢
    exact ⟨F1, x.1, r, P1.ok, h4, fun v F2 H2 P2 V2 => q v F2 H2 (P1.trans E P2) (V2.later E P1 P2)⟩
theorem pt_ifE {t : Expr} {t' : E} (ht : PT X t (TTv X.K FA C t')) (ha : PT X a (TTv X.K FA C a')) (hb : PT X b (TTv X.K FA C b')) : PT X (.IfExp t a b pos) (TTv X.K FA C (.ife t' a' b')) := by
  have key : PT X (.IfExp t a b pos) (fun σ H Q => TTv X.K FA C t' σ H fun c H1 => if c = true then TTv X.K FA C a' σ H1 Q else TTv X.K FA C b' σ H1 Q) := by
    refine ⟨fun pins s σ H Q I h => ?_⟩
    rw [PySem.isTrue]
    refine wpAny_bind (thn (ht.run pins s σ H _ I h) fun d s1 ⟨H1, I1, q1⟩ => ?_)
    cases d with
    | true => exact ha.run pins s1 σ H1 Q I1 q1
    | false => exact hb.run pins s1 σ H1 Q I1 q1
  refine key.imp fun σ H Q ⟨F, env, r, k', E, hr, hk, q⟩ => ?_
  rw [ev] at hr
  obtain ⟨x, h1, h2⟩ := bnd_ok hr
  obtain ⟨k, h3, h4⟩ := bnd_ok h2
  refine ⟨F, env, x, k, E, h1, h3, fun F1 H1 P1 => ?_⟩
  cases k with
  | true =>
    rw [if_pos rfl] at h4 ⊢
    exact ⟨F1, x.1, r, k', P1.ok, h4, hk, fun F2 H2 P2 => q F2 H2 (P1.trans E P2)⟩
  | false =>
    rw [if_neg Bool.false_ne_true] at h4 ⊢
    exact ⟨F1, x.1, r, k', P1.ok, h4, hk, fun F2 H2 P2 => q F2 H2 (P1.trans E P2)⟩

/-! ### and, or -/
variable {f : Expr → Option E}
theorem pe_boolE {op : BoolOp} (hf : ∀ e e', f e = some e' → PE X e (TEv X.K FA C e')) : ∀ (vs : List Expr) (e' : E), compBool f op vs = some e' → PE X (.BoolOp op vs pos) (TEv X.K FA C e')
  | [], e', h => by cases h
  | [e], e', h => pe_one (hf e e' h)
  | e :: e2 :: es, e', h => by
    rw [compBool] at h
    obtain ⟨a, h1, h2⟩ := Option.bind_eq_some_iff.mp h
    obtain ⟨b, h3, h4⟩ := Option.bind_eq_some_iff.mp h2
    have ih := pe_boolE hf (e2 :: es) b h3
    cases op with
    | And =>
      cases h4
      refine (pe_andT (hf e a h1) ih).imp fun σ H Q ⟨F, env, r, E, hr, q⟩ => ?_
      rw [ev] at hr
      obtain ⟨x, h1, h2⟩ := bnd_ok hr
      obtain ⟨k, h3, h4⟩ := bnd_ok h2
      refine ⟨F, env, x, E, h1, fun v F1 H1 P1 V1 => ⟨k, truth_pk (V1.pk0 E P1) h3, ?_⟩⟩
      cases k with
      | true =>
        rw [if_pos rfl] at h4 ⊢
        exact ⟨F1, x.1, r, P1.ok, h4, fun v F2 H2 P2 V2 => q v F2 H2 (P1.trans E P2) (V2.later E P1 P2)⟩
      | false =>
        rw [if_neg Bool.false_ne_true] at h4 ⊢
        cases h4
        exact q v F1 H1 P1 V1
    | Or =>
      cases h4
      refine (pe_orT (hf e a h1) ih).imp fun σ H Q ⟨F, env, r, E, hr, q⟩ => ?_
      rw [ev] at hr
      obtain ⟨x, h1, h2⟩ := bnd_ok hr
      obtain ⟨k, h3, h4⟩ := bnd_ok h2
      refine ⟨F, env, x, E, h1, fun v F1 H1 P1 V1 => ⟨k, truth_pk (V1.pk0 E P1) h3, ?_⟩⟩
      cases k with
      | true =>
        rw [if_pos rfl] at h4 ⊢
        cases h4
        exact q v F1 H1 P1 V1
      | false =>
        rw [if_neg Bool.false_ne_true] at h4 ⊢
        exact ⟨F1, x.1, r, P1.ok, h4, fun v F2 H2 P2 V2 => q v F2 H2 (P1.trans E P2) (V2.later E P1 P2)⟩
theorem pw_boolE {op : BoolOp} (hf : ∀ e e', f e = some e' → PT X e (TTv X.K FA C e')) : ∀ (vs : List Expr) (e' : E), compBool f op vs = some e' → PW X (.BoolOp op vs pos) (TTv X.K FA C e')
  | [], e', h => by cases h
  | [e], e', h => by
    cases op with
    | And => exact pw_and1 (hf e e' h)
    | Or => exact pw_or1 (hf e e' h)
  | e :: e2 :: es, e', h => by
    rw [compBool] at h
    obtain ⟨a, h1, h2⟩ := Option.bind_eq_some_iff.mp h
    obtain ⟨b, h3, h4⟩ := Option.bind_eq_some_iff.mp h2
    have ih := pw_boolE hf (e2 :: es) b h3
    cases op with
    | And =>
      cases h4
      refine (pw_and (hf e a h1) ih).imp fun σ H Q ⟨F, env, r, k', E, hr, hk, q⟩ => ?_
      rw [ev] at hr
      obtain ⟨x, h1, h2⟩ := bnd_ok hr
      obtain ⟨k, h3, h4⟩ := bnd_ok h2
      refine ⟨F, env, x, k, E, h1, h3, fun F1 H1 P1 => ?_⟩
      cases k with
      | true =>
        rw [if_pos rfl] at h4 ⊢
        exact ⟨F1, x.1, r, k', P1.ok, h4, hk, fun F2 H2 P2 => q F2 H2 (P1.trans E P2)⟩
      | false =>
        rw [if_neg Bool.false_ne_true] at h4 ⊢
        cases h4
        rw [h3] at hk
        cases hk
        exact q F1 H1 P1
    | Or =>
      cases h4
      refine (pw_or (hf e a h1) ih).imp fun σ H Q ⟨F, env, r, k', E, hr, hk, q⟩ => ?_
      rw [ev] at hr
      obtain ⟨x, h1, h2⟩ := bnd_ok hr
      obtain ⟨k, h3, h4⟩ := bnd_ok h2
      refine ⟨F, env, x, k, E, h1, h3, fun F1 H1 P1 => ?_⟩
      cases k with
      | true =>
        rw [if_pos rfl] at h4 ⊢
        cases h4
        rw [h3] at hk
        cases hk
        exact q F1 H1 P1
      | false =>
        rw [if_neg Bool.false_ne_true] at h4 ⊢
        exact ⟨F1, x.1, r, k', P1.ok, h4, hk, fun F2 H2 P2 => q F2 H2 (P1.trans E P2)⟩

/-! ### chains -/
theorem tev_chain {op op' : CmpOp} {σ : L2.St} {H : Hp} {Q : VK} (h : TEv X.K FA C (.chain (copOf op) (copOf op') a' b' c') σ H Q) :
    tChain (rOp FA X.K (cmpR (copOf op))) (rOp FA X.K (cmpR (copOf op'))) (TEv X.K FA C a') (TEv X.K FA C b') (TEv X.K FA C c') σ H Q := by
  obtain ⟨F, env, r, E, hr, q⟩ := h
  rw [ev] at hr
  obtain ⟨x, h1, h2⟩ := bnd_ok hr
  obtain ⟨hp, h3⟩ := guard_ok h2
  obtain ⟨y, h4, h5⟩ := bnd_ok h3
  obtain ⟨k, h6, h7⟩ := bnd_ok h5
  refine ⟨F, env, x, E, h1, fun v1 F1 H1 P1 V1 => ⟨F1, x.1, y, P1.ok, h4, fun v2 F2 H2 P2 V2 => ?_⟩⟩
  have pk1 := V1.pk E P1 P2 ((pk_or hp).imp id fun b => ev_pure C _ _ _ b h4)
  have pk2 := V2.pk0 P1.ok P2
  refine ⟨F2, x.2.2, y.2.2, (.sh, .bl k), P2.ok.fin, pk1, pk2, by unfold cmpR; rw [h6]; rfl, fun v F3 H3 R3 => ?_⟩
  obtain ⟨P3, w⟩ := fin_res E (P1.trans E P2) R3
  refine ⟨k, w, ?_⟩
  cases k with
  | false =>
    rw [if_neg Bool.false_ne_true] at h7 ⊢
    cases h7
    cases (show v = V.bl false from w)
    exact q _ F3 H3 P3 rfl
  | true =>
    rw [if_pos rfl] at h7 ⊢
    obtain ⟨hp', h8⟩ := guard_ok h7
    obtain ⟨z, h9, h10⟩ := bnd_ok h8
    obtain ⟨k', h11, h12⟩ := bnd_ok h10
    cases h12
    have P23 : Post X.K FA F1 H1 σ x.1 F3 H3 y.1 := P2.trans P1.ok (R3.post P2.ok)
    refine ⟨F3, y.1, z, P3.ok, h9, fun v3 F4 H4 P4 V4 => ?_⟩
    have V2' : ValOk X.K FA H1 σ y.1 F2 H2 y.2.1 y.2.2 v2 := V2
    have pk2' : Pk X.K FA F4 H4 y.2.2 v2 := V2'.pk P1.ok P2 ((R3.post P2.ok).trans P2.ok P4) ((pk_or hp').imp id fun b => ev_pure C _ _ _ b h9)
    refine ⟨F4, y.2.2, z.2.2, (.sh, .bl k'), P4.ok.fin, pk2', V4.pk0 P3.ok P4, by unfold cmpR; rw [h11]; rfl, fun v F5 H5 R5 => ?_⟩
    obtain ⟨P5, w5⟩ := fin_res E (P3.trans E P4) R5
    exact q v F5 H5 P5 w5
theorem pe_chainE {op op' : CmpOp} (hu : X.A.units + 65 < cLine) (hm : lastMarks [op, op'] [b, c] = false) (ha : PE X a (TEv X.K FA C a')) (hb : PE X b (TEv X.K FA C b')) (hc : PE X c (TEv X.K FA C c')) :
    PE X (.Compare a [op, op'] [b, c] pos) (TEv X.K FA C (.chain (copOf op) (copOf op') a' b' c')) := by
  have e : ∀ op, copT (copOf op) = op := fun op => by cases op <;> rfl
  have h := op_cop (FA := FA) (copOf op) hu
  have h' := op_cop (FA := FA) (copOf op') hu
  rw [e] at h h'
  exact (pe_chain h h' ha hb hc hm).imp fun σ H Q h => tev_chain h
theorem pt_chainE {op op' : CmpOp} (hu : X.A.units + 65 < cLine) (hm : lastMarks [op, op'] [b, c] = false) (ha : PE X a (TEv X.K FA C a')) (hb : PE X b (TEv X.K FA C b')) (hc : PE X c (TEv X.K FA C c')) :
    PT X (.Compare a [op, op'] [b, c] pos) (TTv X.K FA C (.chain (copOf op) (copOf op') a' b' c')) := by
  have e : ∀ op, copT (copOf op) = op := fun op => by cases op <;> rfl
  have h := op_cop (FA := FA) (copOf op) hu
  have h' := op_cop (FA := FA) (copOf op') hu
  rw [e] at h h'
  refine (pt_chain h h' ha hb hc hm).imp fun σ H Q h => ?_
  refine tev_chain (Q := fun x H' => ∃ k, x = .bl k ∧ Q k H') ?_
  obtain ⟨F, env, r, k, E, hr, ht, q⟩ := h
  refine ⟨F, env, r, E, hr, fun v F' H' P V => ⟨k, ?_, q F' H' P⟩⟩
  rw [ev] at hr
  obtain ⟨x, _, h2⟩ := bnd_ok hr
  obtain ⟨_, h3⟩ := guard_ok h2
  obtain ⟨y, _, h5⟩ := bnd_ok h3
  obtain ⟨z, _, h7⟩ := bnd_ok h5
  cases z with
  | true =>
    rw [if_pos rfl] at h7
    obtain ⟨_, h8⟩ := guard_ok h7
    obtain ⟨w, _, h10⟩ := bnd_ok h8
    obtain ⟨_, _, h12⟩ := bnd_ok h10
    cases h12
    cases ht
    exact V
  | false =>
    rw [if_neg Bool.false_ne_true] at h7
    cases h7
    cases ht
    exact V
end
end AR

/-! Core10: names, displays, subscripts, built-ins. -/
namespace AR
open PySem PySem.Spec PyProof.Rows L2

/-! ### what a def promises -/
/-- the arguments: shared data; lists to be changed -/
def ArgIn (K : PySem.W.Frag) (FA : Nat → Option Addr) (F : Addr → Prop) (H : Hp) : List (Sl × D) → List V → Prop
  | [], vs => vs = []
  | (k, d) :: as, vs => ∃ v r, vs = v :: r ∧ (if k = .sh then Rep K FA F H d v else ∃ a, v = .ref a ∧ ¬ F a ∧ RepM K FA F H d a) ∧ ArgIn K FA F H as r
/-- the lists to be changed -/
def ioVs : List (Sl × D) → List V → List V
  | (k, _) :: as, v :: vs => if k = .sh then ioVs as vs else v :: ioVs as vs
  | _, _ => []
def OutOk (K : PySem.W.Frag) (FA : Nat → Option Addr) (F : Addr → Prop) (H : Hp) : List D → List V → Prop
  | [], vs => vs = []
  | d :: ds, vs => ∃ a r, vs = V.ref a :: r ∧ (¬ F a ∧ RepM K FA F H d a) ∧ OutOk K FA F H ds r
structure CallPost (K : PySem.W.Frag) (FA : Nat → Option Addr) (F : Addr → Prop) (H : Hp) (io : List V) (os : List D) (fl : Fl) (d : D) (v : V) (F' : Addr → Prop) (H' : Hp) : Prop where
  sub : ∀ b, F b → F' b
  new : ∀ b, F' b → F b ∨ H b = none
  fin : Fin' F' H'
  keep : ∀ b o, V.ref b ∉ io → H b = some o → H' b = some o
  outs : OutOk K FA F' H' os io
  val : match fl with
    | .sh => Rep K FA F' H' d v
    | .fr => ∃ a, v = .ref a ∧ H a = none ∧ ¬ F' a ∧ RepM K FA F' H' d a
    | _ => False
def spOf (K : PySem.W.Frag) (FA : Nat → Option Addr) (C : CallF) (x : Nat) : Sp := fun vs H Q _ => ∃ F as q, Fin' F H ∧ ArgIn K FA F H as vs ∧ (ioVs as vs).Nodup ∧ C x as = .ok q ∧
  ∀ v F' H', CallPost K FA F H (ioVs as vs) q.1 q.2.1 q.2.2 v F' H' → Q v H'

/-! ### where one stands -/
def bltNames : List Str := ["len", "max", "min", "all", "any", "list", "tuple", "sorted", "int", "bool", "str", "isinstance", "range", "enumerate", "zip", "set"]
structure XOk (X : Cx) (FA : Nat → Option Addr) (C : CallF) (c : CC) (nm : NM) : Prop where
  calm : X.calm = true
  N : X.N = c.N
  nd : c.N.Nodup
  sc : ∀ x k, nm.lookup x = some k → X.env.scope.names.lookup x = some k ∨ (k = .free ∧ X.env.scope.names.lookup x = some .cell)
  st : ∀ x, locl nm x = true → X.fn x = true ∨ X.env.scope.names.lookup x = some .local
  units : X.A.units + 65 < cLine
  fns : ∀ x k io, c.G.lookup x = some (.fn k io) → ∃ f, FA k = some f ∧ X.mg x = some (.ref f)
  fok : ∀ k f, FA k = some f → ∃ (j : Nat) (fd : FuncData) (ps : List Str), PySem.W.keepIn X.K (.ref f) = true ∧ Binds X.K fd ps [] ∧ Room j X.A ∧ FnOk X.prog X.w X.K X.mg X.base CX0 j f fd ps (spOf X.K FA C k)
  cns : ∀ x d, c.G.lookup x = some (.cn d) → ∃ u v, X.mg x = some u ∧ RelV v u ∧ ∀ F H, Rep X.K FA F H d v
  blt : ∀ x ∈ bltNames, c.G.lookup x = none → X.mg x = none

section
variable {X : Cx} {FA : Nat → Option Addr} {C : CallF} {c : CC} {nm : NM}
theorem slotOf_get : ∀ {N : List Str} {x : Str} {i : Nat}, slotOf N x = some i → N[i]? = some x
  | y :: r, x, i, h => by
    rw [slotOf] at h
    by_cases q : y = x
    · rw [if_pos q] at h
      cases h
      rw [q]; rfl
    · rw [if_neg q] at h
      obtain ⟨j, h1, h2⟩ := Option.map_eq_some_iff.mp h
      subst h2
      exact slotOf_get (N := r) h1
theorem okName_of {x : Str} (h : okName x = true) : (x == ("__debug__" : Str)) = false ∧ (x == ("__classdict__" : Str)) = false ∧ x ≠ "__name__" := by
  unfold okName at h
  simp only [Bool.and_eq_true, Bool.not_eq_true'] at h
  exact ⟨h.1, h.2.1, fun e => by rw [e] at h; simp at h⟩
theorem XOk.vis (O : XOk X FA C c nm) {x : Str} (h : vis nm x = true) : Vis X.env.scope x := by
  unfold AR.vis at h
  split at h
  · rename_i e
    rcases O.sc _ _ e with q | ⟨q, _⟩
    · exact .inl q
    · cases q
  · rename_i e
    rcases O.sc _ _ e with q | ⟨q, _⟩
    · exact .inr (.inl q)
    · cases q
  · rename_i e
    rcases O.sc _ _ e with q | ⟨_, q⟩
    · exact .inr (.inr q)
    · exact .inr (.inl q)
  · cases h
theorem XOk.glb (O : XOk X FA C c nm) {x : Str} (h : glb nm x = true) : Gl X x := by
  unfold AR.glb at h
  split at h
  · rename_i e
    rcases O.sc _ _ e with q | ⟨q, _⟩
    · exact q
    · cases q
  · cases h
theorem XOk.loc (O : XOk X FA C c nm) {x : Str} (h : locl nm x = true) : Loc X.env.scope x := by
  unfold locl at h
  split at h
  · rename_i e
    rcases O.sc _ _ e with q | ⟨q, _⟩
    · exact .inl q
    · cases q
  · rename_i e
    rcases O.sc _ _ e with q | ⟨q, _⟩
    · exact .inr q
    · cases q
  · cases h
theorem XOk.at (O : XOk X FA C c nm) {x : Str} {i : Nat} (h : slotOf c.N x = some i) : X.N[i]? = some x := by rw [O.N]; exact slotOf_get h

/-! ### names, constants -/
theorem pe_constE {k : Const} {j : Nat} {pos : Pos} {e' : E} (h : compK k = some e') : PE X (.Constant k j pos) (TEv X.K FA C e') := by
  have key : ∀ {d : D} {v : V}, (∀ F H, Rep X.K FA F H d v) → PE X (.Constant k j pos) (tC v) → PE X (.Constant k j pos) (TEv X.K FA C (.cst d)) := fun {d v} hr hp =>
    hp.imp fun σ H Q ⟨F, env, r, E, he, q⟩ => by
      rw [ev] at he
      cases he
      exact q v F H (.refl E) (hr F H)
  cases k with
  | none => cases h; exact key (fun _ _ => rfl) pe_non
  | bool b => cases h; exact key (fun _ _ => rfl) pe_bl
  | int i => cases h; exact key (fun _ _ => rfl) pe_int
  | str s =>
    cases h
    refine key (v := .str s) (fun _ _ => ?_) pe_str
    show V.str s = V.str (strV s.cps.toList)
    unfold strV
    simp
  | _ => cases h
theorem pe_nameE (O : XOk X FA C c nm) {x : Str} {pos : Pos} {e' : E} (h : compName c nm x = some e') : PE X (.Name x pos) (TEv X.K FA C e') := by
  unfold compName at h
  split at h
  · rename_i hn
    obtain ⟨n1, n2, n3⟩ := okName_of hn
    split at h
    · rename_i hv
      obtain ⟨i, h1, h2⟩ := Option.map_eq_some_iff.mp h
      subst h2
      refine (pe_var (O.at h1) (O.vis hv) n1 n2).imp fun σ H Q ⟨F, env, r, E, he, q⟩ => ?_
      rw [ev] at he
      split at he
      · rename_i d e1
        cases he
        obtain ⟨v, e2, e3⟩ := E.sh i d e1
        exact ⟨v, e2, q v F H (.refl E) e3⟩
      · rename_i d e1
        cases he
        obtain ⟨a, e2, _, _⟩ := E.mu i _ d (by decide) e1
        exact ⟨_, e2, q _ F H (.refl E) ⟨i, e1, e2⟩⟩
      · rename_i d e1
        cases he
        obtain ⟨a, e2, _, _⟩ := E.mu i _ d (by decide) e1
        exact ⟨_, e2, q _ F H (.refl E) ⟨i, e1, e2⟩⟩
      · cases he
    · split at h
      · rename_i hg
        split at h
        · rename_i k io hk
          cases h
          obtain ⟨f, f1, f2⟩ := O.fns _ _ _ hk
          refine (pe_glob (v := .ref f) (O.glb hg) f2 rfl n1).imp fun σ H Q ⟨F, env, r, E, he, q⟩ => ?_
          rw [ev] at he
          cases he
          exact q _ F H (.refl E) ⟨f, rfl, f1⟩
        · rename_i d hk
          cases h
          obtain ⟨u, v, f1, f2, f3⟩ := O.cns _ _ hk
          refine (pe_glob (v := v) (O.glb hg) f1 f2 n1).imp fun σ H Q ⟨F, env, r, E, he, q⟩ => ?_
          rw [ev] at he
          cases he
          exact q _ F H (.refl E) (f3 F H)
        · cases h
      · cases h
  · cases h

/-! ### lists of expressions -/
theorem star_cons {e : Expr} {es : List Expr} (h : isStar e = false) : starEach (e :: es) X.env = (false, eval e X.env) :: starEach es X.env := by
  cases e <;> first | rfl | cases h
theorem star_none : ∀ {es : List Expr}, (∀ e ∈ es, isStar e = false) → ∀ pos : Pos, (backTo pos (starEach es X.env)).any (·.1) = false
  | [], _, _ => rfl
  | e :: es, h, pos => by
    rw [star_cons (h e List.mem_cons_self)]
    show (false || (backTo pos (starEach es X.env)).any (·.1)) = false
    rw [star_none (fun e' he => h e' (List.mem_cons_of_mem _ he)) pos]
    rfl
/-- values handed on -/
def TVs (K : PySem.W.Frag) (FA : Nat → Option Addr) (C : CallF) (es : Es) : TA := fun σ H Q => ∃ F env r, EnvOk K FA F H σ env ∧ evs C es env = .ok r ∧ ∀ vs F' H', Post K FA F H σ env F' H' r.1 → Reps K FA F' H' r.2 vs → Q vs H'
/-- values looked at -/
def TVp (K : PySem.W.Frag) (FA : Nat → Option Addr) (C : CallF) (es : Es) : TA := fun σ H Q => ∃ F env r, EnvOk K FA F H σ env ∧ evP C es env = .ok r ∧ ∀ vs F' H', Post K FA F H σ env F' H' r.1 → Pks K FA F' H' r.2 vs → Q vs H'
variable {f : Expr → Option E}
theorem compEs_star : ∀ {es : List Expr} {es' : Es}, compEs f es = some es' → ∀ e ∈ es, isStar e = false
  | [], _, _, _, h => by cases h
  | e :: es, es', h, e2, hm => by
    rw [compEs] at h
    split at h
    · cases h
    · rename_i hs
      obtain ⟨a, _, h2⟩ := Option.bind_eq_some_iff.mp h
      obtain ⟨b, h3, _⟩ := Option.bind_eq_some_iff.mp h2
      rcases List.mem_cons.mp hm with rfl | hm
      · simpa using hs
      · exact compEs_star h3 e2 hm
theorem pa_esE (hf : ∀ e e', f e = some e' → PE X e (TEv X.K FA C e')) : ∀ (es : List Expr) (es' : Es), compEs f es = some es' → PA X es (TVs X.K FA C es')
  | [], es', h => by
    cases h
    refine pa_nil.imp fun σ H Q ⟨F, env, r, E, he, q⟩ => ?_
    rw [evs] at he
    cases he
    exact q [] F H (.refl E) rfl
  | e :: es, es', h => by
    have hst := compEs_star h e List.mem_cons_self
    rw [compEs] at h
    split at h
    · cases h
    · obtain ⟨a, h1, h2⟩ := Option.bind_eq_some_iff.mp h
      obtain ⟨b, h3, h4⟩ := Option.bind_eq_some_iff.mp h2
      cases h4
      refine (pa_cons (hf e a h1) (pa_esE hf es b h3) (star_cons hst)).imp fun σ H Q ⟨F, env, r, E, he, q⟩ => ?_
      rw [evs] at he
      obtain ⟨x, e1, e2⟩ := bnd_ok he
      obtain ⟨e3, e4⟩ := guard_ok e2
      obtain ⟨y, e5, e6⟩ := bnd_ok e4
      cases e6
      refine ⟨F, env, x, E, e1, fun v F1 H1 P1 V1 => ?_⟩
      obtain ⟨F2, P2, R2⟩ := V1.give E P1 e3
      exact ⟨F2, x.1, y, P2.ok, e5, fun vs F3 H3 P3 R3 => q _ F3 H3 (P2.trans E P3) (.cons (R2.mono P3.sub (P3.toKeep P2.ok)) R3)⟩
/-- one, two values to be looked at -/
theorem pa_p1 {a : Expr} {a' : E} (hs : isStar a = false) (ha : PE X a (TEv X.K FA C a')) : PA X [a] (TVp X.K FA C (.cons a' .nil)) := by
  refine (pa_cons ha pa_nil (star_cons hs)).imp fun σ H Q ⟨F, env, r, E, he, q⟩ => ?_
  rw [evP] at he
  obtain ⟨x, e1, e2⟩ := bnd_ok he
  obtain ⟨_, e4⟩ := guard_ok e2
  obtain ⟨y, e5, e6⟩ := bnd_ok e4
  rw [evP] at e5
  cases e5
  cases e6
  exact ⟨F, env, x, E, e1, fun v F1 H1 P1 V1 => q _ F1 H1 P1 ⟨v, [], rfl, V1.pk0 E P1, rfl⟩⟩
theorem pa_p2 {a b : Expr} {a' b' : E} (hs : isStar a = false) (hs2 : isStar b = false) (ha : PE X a (TEv X.K FA C a')) (hb : PE X b (TEv X.K FA C b')) : PA X [a, b] (TVp X.K FA C (.cons a' (.cons b' .nil))) := by
  refine (pa_cons ha (pa_p1 hs2 hb) (star_cons hs)).imp fun σ H Q ⟨F, env, r, E, he, q⟩ => ?_
  rw [evP] at he
  obtain ⟨x, e1, e2⟩ := bnd_ok he
  obtain ⟨e3, e4⟩ := guard_ok e2
  obtain ⟨y, e5, e6⟩ := bnd_ok e4
  cases e6
  refine ⟨F, env, x, E, e1, fun v F1 H1 P1 V1 => ⟨F1, x.1, y, P1.ok, e5, fun vs F2 H2 P2 R2 => ?_⟩⟩
  exact q _ F2 H2 (P1.trans E P2) ⟨v, vs, rfl, V1.pk E P1 P2 ((pk_or e3).imp id fun b => evP_pure C _ _ _ b e5), R2⟩

/-! ### displays -/
theorem pe_tupE {es : List Expr} {es' : Es} {k : Nat} {pos : Pos} (h : PA X es (TVs X.K FA C es')) : PE X (.Tuple es k pos) (TEv X.K FA C (.tup es')) := by
  refine (pe_tup h).imp fun σ H Q ⟨F, env, r, E, he, q⟩ => ?_
  rw [ev] at he
  obtain ⟨x, e1, e2⟩ := bnd_ok he
  obtain ⟨e3, e4⟩ := guard_ok e2
  cases e4
  refine ⟨F, env, x, E, e1, fun vs F1 H1 P1 R1 => ⟨by rw [← R1.len]; exact of_decide_eq_true e3, fun p np => ?_⟩⟩
  obtain ⟨P2, V2⟩ := fin_res E P1 (Res.tup P1.ok.fin np R1)
  exact q _ _ _ P2 V2
theorem pe_lstE {es : List Expr} {es' : Es} {pos : Pos} (h : PA X es (TVs X.K FA C es')) : PE X (.List es pos) (TEv X.K FA C (.lst es')) := by
  refine (pe_lst h).imp fun σ H Q ⟨F, env, r, E, he, q⟩ => ?_
  rw [ev] at he
  obtain ⟨x, e1, e2⟩ := bnd_ok he
  obtain ⟨e3, e4⟩ := guard_ok e2
  cases e4
  refine ⟨F, env, x, E, e1, fun vs F1 H1 P1 R1 => ⟨by rw [← R1.len]; exact of_decide_eq_true e3, fun p np => ?_⟩⟩
  obtain ⟨P2, V2⟩ := fin_res E P1 (Res.lst P1.ok.fin np R1)
  exact q _ _ _ P2 V2

/-! ### subscripts, slices -/
theorem plainIx {b : Expr} (h : isSlice b = false) : PlainIx b := by
  intro o i
  cases b <;> first | rfl | cases h
theorem pe_subE {a b : Expr} {a' b' : E} {pos : Pos} (hs : isSlice b = false) (ha : PE X a (TEv X.K FA C a')) (hb : PE X b (TEv X.K FA C b')) : PE X (.Subscript a b pos) (TEv X.K FA C (.sub a' b')) := by
  refine (pe_ix (ix_sub (FA := FA)) ha hb (plainIx hs)).imp fun σ H Q h => tev_two (g := subR) (fun env => ?_) h
  rw [ev]
  congr; funext x; congr; funext y
  unfold subR
  cases subop x.2.2 y.2.2 <;> rfl
def TOv (K : PySem.W.Frag) (FA : Nat → Option Addr) (C : CallF) (o : Option E) : TO := fun σ H Q => ∃ F env r, EnvOk K FA F H σ env ∧ evO C o env = .ok r ∧ ∀ F' H', Post K FA F H σ env F' H' r.1 → Q r.2 H'
theorem _root_.L2.PO.imp {X : Cx} {e : Option Expr} {t t' : TO} (h : PO X e t) (hi : ∀ σ H Q, t' σ H Q → t σ H Q) : PO X e t' := ⟨fun pins s σ H Q I hw => h.run pins s σ H Q I (hi _ _ _ hw)⟩
theorem po_E (hf : ∀ e e', f e = some e' → PE X e (TEv X.K FA C e')) : ∀ (o : Option Expr) (o' : Option E), compO f o = some o' → PO X o (TOv X.K FA C o')
  | none, o', h => by
    cases h
    refine po_none.imp fun σ H Q ⟨F, env, r, E, he, q⟩ => ?_
    rw [evO] at he
    cases he
    exact q F H (.refl E)
  | some e, o', h => by
    rw [compO] at h
    obtain ⟨a, h1, h2⟩ := Option.bind_eq_some_iff.mp h
    cases h2
    refine (po_some (hf e a h1)).imp fun σ H Q ⟨F, env, r, E, he, q⟩ => ?_
    rw [evO] at he
    obtain ⟨x, e1, e2⟩ := bnd_ok he
    refine ⟨F, env, x, E, e1, fun v F1 H1 P1 V1 => ?_⟩
    split at e2
    · rename_i i e3
      cases e2
      have := V1.pk0 E P1
      rw [e3] at this
      exact ⟨i, this.int, q F1 H1 P1⟩
    · cases e2
theorem pe_slcE {a : Expr} {a' : E} {lo hi : Option Expr} {lo' hi' : Option E} {p2 pos : Pos} (ha : PE X a (TEv X.K FA C a')) (hl : PO X lo (TOv X.K FA C lo')) (hh : PO X hi (TOv X.K FA C hi')) :
    PE X (.Subscript a (.Slice lo hi none p2) pos) (TEv X.K FA C (.slc a' lo' hi')) := by
  refine (pe_slice (sl_all (FA := FA)) ha hl hh).imp fun σ H Q ⟨F, env, r, E, he, q⟩ => ?_
  rw [ev] at he
  obtain ⟨x, e1, e2⟩ := bnd_ok he
  obtain ⟨e3, e4⟩ := guard_ok e2
  obtain ⟨y, e5, e6⟩ := bnd_ok e4
  obtain ⟨z, e7, e8⟩ := bnd_ok e6
  obtain ⟨w, e9, e10⟩ := bnd_ok e8
  cases e10
  refine ⟨F, env, x, E, e1, fun v F1 H1 P1 V1 => ⟨F1, x.1, y, P1.ok, e5, fun F2 H2 P2 => ⟨F2, y.1, z, P2.ok, e7, fun F3 H3 P3 => ?_⟩⟩⟩
  have pk := V1.pk E P1 (P2.trans P1.ok P3) ((pk_or e3).imp id fun b => by
    obtain ⟨b1, b2⟩ := and2 b
    exact (evO_pure C _ _ _ b2 e7).trans (evO_pure C _ _ _ b1 e5))
  refine ⟨F3, x.2.2, w, P3.ok.fin, pk, e9, fun u F4 H4 R4 => ?_⟩
  obtain ⟨P5, V5⟩ := fin_res E (P1.trans E (P2.trans P1.ok P3)) R4
  exact q _ _ _ P5 V5

/-! ### built-ins -/
theorem tcall_p {es : Es} {k : Bt} {σ : L2.St} {H : Hp} {Q : VK} (h : TEv X.K FA C (.blt k es) σ H Q) : tCB (rCall FA X.K (bltop k)) (TVp X.K FA C es) σ H Q := by
  obtain ⟨F, env, r, E, he, q⟩ := h
  rw [ev] at he
  obtain ⟨x, e1, e2⟩ := bnd_ok he
  obtain ⟨y, e3, e4⟩ := bnd_ok e2
  cases e4
  refine ⟨F, env, x, E, e1, fun vs F1 H1 P1 R1 => ⟨F1, x.2, y, P1.ok.fin, R1, e3, fun v F2 H2 R2 => ?_⟩⟩
  obtain ⟨P3, V3⟩ := fin_res E P1 R2
  exact q _ _ _ P3 V3
theorem pe_bltE (O : XOk X FA C c nm) {x : Str} {p pos : Pos} {e : Expr} {es : List Expr} {es' : Es} {k : Bt} {b : BtK} (hb : btK k = some b) (hv : bootBuiltins x = some b.val) (hm : x ∈ bltNames) (hg : glb nm x = true) (hn : okName x = true) (hG : c.G.lookup x = none)
    (hst : ∀ a ∈ e :: es, isStar a = false) (ha : PA X (e :: es) (TVp X.K FA C es')) : PE X (.Call (.Name x p) (e :: es) [] pos) (TEv X.K FA C (.blt k es')) := by
  obtain ⟨n1, n2, n3⟩ := okName_of hn
  have hc := call_bt (FA := FA) O.calm k b hb
  have s1 := star_cons (X := X) (es := es) (hst e List.mem_cons_self)
  have s2 := star_none (X := X) (es := es) (fun a h => hst a (List.mem_cons_of_mem _ h)) pos
  cases b with
  | fn id => exact (pe_callB hc (O.glb hg) (O.blt x hm hG) hv ha n3 n1 s1 s2).imp fun σ H Q h => tcall_p h
  | ty T => exact (pe_callTy hc (O.glb hg) (O.blt x hm hG) hv ha n3 n1 s1 s2).imp fun σ H Q h => tcall_p h
theorem bt1_ok {x : Str} {k : Bt} (h : bt1 x = some k) : ∃ b, btK k = some b ∧ bootBuiltins x = some b.val ∧ x ∈ bltNames := by
  unfold bt1 at h
  split at h
  · rename_i e; subst e; cases h; exact ⟨_, rfl, by decide +kernel, by decide +kernel⟩
  split at h
  · rename_i e; subst e; cases h; exact ⟨_, rfl, by decide +kernel, by decide +kernel⟩
  split at h
  · rename_i e; subst e; cases h; exact ⟨_, rfl, by decide +kernel, by decide +kernel⟩
  split at h
  · rename_i e; subst e; cases h; exact ⟨_, rfl, by decide +kernel, by decide +kernel⟩
  split at h
  · rename_i e; subst e; cases h; exact ⟨_, rfl, by decide +kernel, by decide +kernel⟩
  split at h
  · rename_i e; subst e; cases h; exact ⟨_, rfl, by decide +kernel, by decide +kernel⟩
  split at h
  · rename_i e; subst e; cases h; exact ⟨_, rfl, by decide +kernel, by decide +kernel⟩
  split at h
  · rename_i e; subst e; cases h; exact ⟨_, rfl, by decide +kernel, by decide +kernel⟩
  split at h
  · rename_i e; subst e; cases h; exact ⟨_, rfl, by decide +kernel, by decide +kernel⟩
  split at h
  · rename_i e; subst e; cases h; exact ⟨_, rfl, by decide +kernel, by decide +kernel⟩
  · cases h
theorem bt2_ok {x : Str} {k : Bt} (h : bt2 x = some k) : ∃ b, btK k = some b ∧ bootBuiltins x = some b.val ∧ x ∈ bltNames := by
  unfold bt2 at h
  split at h
  · rename_i e; subst e; cases h; exact ⟨_, rfl, by decide +kernel, by decide +kernel⟩
  split at h
  · rename_i e; subst e; cases h; exact ⟨_, rfl, by decide +kernel, by decide +kernel⟩
  · cases h

/-! ### isinstance -/
def tyId : Ty → String
  | .int => "int" | .bool => "bool" | .str => "str" | .tuple => "tuple" | .list => "list"
theorem tyName_ok {x : Str} {t : Ty} (h : tyName x = some t) : bootBuiltins x = some (.type (tyId t)) ∧ x ∈ bltNames := by
  unfold tyName at h
  split at h
  · rename_i e; subst e; cases h; exact ⟨by decide +kernel, by decide +kernel⟩
  split at h
  · rename_i e; subst e; cases h; exact ⟨by decide +kernel, by decide +kernel⟩
  split at h
  · rename_i e; subst e; cases h; exact ⟨by decide +kernel, by decide +kernel⟩
  split at h
  · rename_i e; subst e; cases h; exact ⟨by decide +kernel, by decide +kernel⟩
  split at h
  · rename_i e; subst e; cases h; exact ⟨by decide +kernel, by decide +kernel⟩
  · cases h
def isTyT : Ty → Ty → Bool
  | .int, .int => true
  | .bool, .int => true
  | .bool, .bool => true
  | .str, .str => true
  | .tuple, .tuple => true
  | .list, .list => true
  | _, _ => false
theorem kitT (T t : Ty) : kitB (tyId T) (tyId t) = some (isTyT T t) := by cases T <;> cases t <;> decide +kernel
theorem kitN (t : Ty) : kitB "NoneType" (tyId t) = some false := by cases t <;> decide +kernel
theorem isi_ok {F : Addr → Prop} {H : Hp} {d : D} {v : V} (hp : Pk X.K FA F H d v) (ho : tyOk d = true) (t : Ty) : ∃ T : String, TyX X.K H v (.type T) ∧ PySem.W.kitOne X.K (.type T) (.type (tyId t)) = some (isTy d t) := by
  cases d with
  | non => rw [hp.non]; exact ⟨_, .base .non, kit_ty ((kitN t).trans (by cases t <;> rfl))⟩
  | bl b => rw [hp.bl]; exact ⟨_, .base (.bl b), kit_ty ((kitT .bool t).trans (by cases t <;> rfl))⟩
  | int b => rw [hp.int]; exact ⟨_, .base (.int b), kit_ty ((kitT .int t).trans (by cases t <;> rfl))⟩
  | str b => rw [hp.str]; exact ⟨_, .base (.str _), kit_ty ((kitT .str t).trans (by cases t <;> rfl))⟩
  | tup ds =>
    obtain ⟨a, xs, e, h, _⟩ := hp.tup
    subst e
    refine ⟨"tuple", ?_, kit_ty ((kitT .tuple t).trans (by cases t <;> rfl))⟩
    rcases h with ⟨_, h | ⟨o, h⟩⟩ | ⟨o, its, n, h, hc, _⟩
    · exact .base (.tup h)
    · exact .fTuple h
    · exact .kTuple h hc
  | lst ds =>
    obtain ⟨a, xs, e, h, _⟩ := hp.lst
    subst e
    exact ⟨"list", .base (.lst h), kit_ty ((kitT .list t).trans (by cases t <;> rfl))⟩
  | _ => cases ho
theorem pe_isiE (O : XOk X FA C c nm) {x y : Str} {p p2 pos : Pos} {a : Expr} {a' : E} {t : Ty} (hx : x = ("isinstance" : Str)) (hg : glb nm x = true) (hn : okName x = true) (hG : c.G.lookup x = none)
    (hy : tyName y = some t) (hg2 : glb nm y = true) (hn2 : okName y = true) (hG2 : c.G.lookup y = none) (hs : isStar a = false) (ha : PE X a (TEv X.K FA C a')) :
    PE X (.Call (.Name x p) [a, .Name y p2] [] pos) (TEv X.K FA C (.isi a' [t])) := by
  obtain ⟨n1, n2, n3⟩ := okName_of hn
  obtain ⟨m1, m2, m3⟩ := okName_of hn2
  obtain ⟨t1, t2⟩ := tyName_ok hy
  have hv : bootBuiltins x = some (.builtin "isinstance") := by rw [hx]; decide +kernel
  have hmm : x ∈ bltNames := by rw [hx]; decide +kernel
  have py : PE X (.Name y p2) (tC (.ty (tyId t))) := pe_bltn (O.glb hg2) (O.blt y t2 hG2) t1 rfl m3 m1
  refine (pe_callB call_isi (O.glb hg) (O.blt x hmm hG) hv (pa_cons ha (pa_cons py pa_nil (star_cons rfl)) (star_cons hs)) n3 n1 (star_cons hs) (star_none (fun e he => by simp at he; subst he; rfl) pos)).imp fun σ H Q h => ?_
  obtain ⟨F, env, r, E, he, q⟩ := h
  rw [ev] at he
  obtain ⟨z, e1, e2⟩ := bnd_ok he
  obtain ⟨w, e3, e4⟩ := bnd_ok e2
  cases e4
  obtain ⟨g, e5⟩ := guard_ok e3
  cases e5
  refine ⟨F, env, z, E, e1, fun v F1 H1 P1 V1 => ?_⟩
  obtain ⟨T, ty, kit⟩ := isi_ok (V1.pk0 E P1) g t
  refine ⟨v, .ty (tyId t), .type T, .type (tyId t), isTy z.2.2 t, rfl, .ty _, ty, kit, ?_⟩
  have := q (V.bl (isTy z.2.2 t)) F1 H1 P1
  refine this ?_
  show V.bl _ = V.bl _
  simp
end
end AR

/-! Core11: calls of defs. -/
namespace AR
open PySem PySem.Spec PyProof.Rows L2

section
variable (K : PySem.W.Frag) (FA : Nat → Option Addr) (C : CallF)
def ArgsOk (F : Addr → Prop) (H : Hp) (σ : L2.St) : List Arg → List V → Prop
  | [], vs => vs = []
  | .v d :: as, vs => ∃ v r, vs = v :: r ∧ Rep K FA F H d v ∧ ArgsOk F H σ as r
  | .r i :: as, vs => ∃ v r, vs = v :: r ∧ σ[i]? = some (some v) ∧ ArgsOk F H σ as r
def TAv (es : Es) : TA := fun σ H Q => ∃ F env r, EnvOk K FA F H σ env ∧ evA C es env = .ok r ∧ ∀ vs F' H', Post K FA F H σ env F' H' r.1 → ArgsOk K FA F' H' σ r.2 vs → Q vs H'
end
/-- the slots at is hold the values vs -/
def IoAt (σ : L2.St) : List Nat → List V → Prop
  | [], vs => vs = []
  | i :: is, vs => ∃ a r, vs = V.ref a :: r ∧ σ[i]? = some (some (V.ref a)) ∧ IoAt σ is r

section
variable {K : PySem.W.Frag} {FA : Nat → Option Addr} {C : CallF} {F F1 F2 F' : Addr → Prop} {H H1 H2 H' : Hp} {σ : L2.St} {env env1 env2 : Env}
theorem ArgsOk.mono (hF : ∀ b, F b → F' b) (k : Keep F H H') : ∀ {as : List Arg} {vs : List V}, ArgsOk K FA F H σ as vs → ArgsOk K FA F' H' σ as vs
  | [], _, h => h
  | .v d :: as, _, ⟨v, r, e, h, t⟩ => ⟨v, r, e, h.mono hF k, ArgsOk.mono hF k t⟩
  | .r i :: as, _, ⟨v, r, e, h, t⟩ => ⟨v, r, e, h, ArgsOk.mono hF k t⟩
theorem isMut_ok {i : Nat} (h : isMut env i = true) : ∃ k d, k ≠ Sl.sh ∧ env[i]? = some (some (k, d)) := by
  unfold isMut at h
  split at h
  · exact ⟨.own, _, by decide, by assumption⟩
  · exact ⟨.io, _, by decide, by assumption⟩
  · cases h
theorem resolve_ok (E : EnvOk K FA F H σ env) : ∀ {as : List Arg} {vs : List V} {bs : List (Sl × D)}, resolve env as = .ok bs → ArgsOk K FA F H σ as vs → ArgIn K FA F H bs vs ∧ IoAt σ (refs as) (ioVs bs vs) ∧ ∀ i ∈ refs as, isMut env i = true
  | [], vs, bs, h, t => by
    cases h
    cases t
    exact ⟨rfl, rfl, fun _ z => by cases z⟩
  | .v d :: as, vs, bs, h, ⟨v, r, e, q, t⟩ => by
    rw [resolve] at h
    obtain ⟨b, h1, h2⟩ := bnd_ok h
    cases h2
    subst e
    obtain ⟨i1, i2, i3⟩ := resolve_ok E h1 t
    refine ⟨⟨v, r, rfl, by rw [if_pos rfl]; exact q, i1⟩, ?_, i3⟩
    show IoAt σ (refs as) (if Sl.sh = Sl.sh then ioVs b r else v :: ioVs b r)
    rw [if_pos rfl]; exact i2
  | .r i :: as, vs, bs, h, ⟨v, r, e, q, t⟩ => by
    rw [resolve] at h
    subst e
    have go : ∀ (k : Sl) (d : D), k ≠ .sh → env[i]? = some (some (k, d)) → (bnd (resolve env as) fun r => .ok ((Sl.io, d) :: r)) = .ok bs → ArgIn K FA F H bs (v :: r) ∧ IoAt σ (refs (.r i :: as)) (ioVs bs (v :: r)) ∧ ∀ j ∈ refs (.r i :: as), isMut env j = true := fun k d hk he h => by
      obtain ⟨b, h1, h2⟩ := bnd_ok h
      cases h2
      obtain ⟨i1, i2, i3⟩ := resolve_ok E h1 t
      obtain ⟨a, m1, m2, m3⟩ := E.mu i k d hk he
      rw [q] at m1
      cases m1
      refine ⟨⟨_, r, rfl, by rw [if_neg (by decide)]; exact ⟨a, rfl, m2, m3⟩, i1⟩, ?_, fun j hj => ?_⟩
      · show IoAt σ (i :: refs as) (if Sl.io = Sl.sh then ioVs b r else V.ref a :: ioVs b r)
        rw [if_neg (by decide)]
        exact ⟨a, _, rfl, q, i2⟩
      · rcases List.mem_cons.mp hj with rfl | hj
        · unfold isMut
          rw [he]
          cases k with
          | sh => exact absurd rfl hk
          | own => rfl
          | io => rfl
        · exact i3 j hj
    split at h
    · rename_i d he
      exact go _ d (by decide) he h
    · rename_i d he
      exact go _ d (by decide) he h
    · cases h
theorem IoAt.mem : ∀ {is : List Nat} {vs : List V} {a : Addr}, IoAt σ is vs → V.ref a ∈ vs → ∃ i ∈ is, σ[i]? = some (some (V.ref a))
  | [], _, _, h, m => by cases h; cases m
  | i :: is, _, a, ⟨b, r, e, h, t⟩, m => by
    subst e
    rcases List.mem_cons.mp m with q | m
    · cases q
      exact ⟨i, List.mem_cons_self, h⟩
    · obtain ⟨j, j1, j2⟩ := IoAt.mem t m
      exact ⟨j, List.mem_cons_of_mem _ j1, j2⟩
theorem IoAt.nodup (E : EnvOk K FA F H σ env) : ∀ {is : List Nat} {vs : List V}, IoAt σ is vs → (∀ i ∈ is, isMut env i = true) → is.Nodup → vs.Nodup
  | [], _, h, _, _ => by cases h; exact .nil
  | i :: is, _, ⟨b, r, e, h, t⟩, hm, nd => by
    subst e
    obtain ⟨n1, n2⟩ := List.nodup_cons.mp nd
    refine List.nodup_cons.mpr ⟨fun m => ?_, IoAt.nodup E t (fun j hj => hm j (List.mem_cons_of_mem _ hj)) n2⟩
    obtain ⟨j, j1, j2⟩ := t.mem m
    obtain ⟨k1, d1, a1, b1⟩ := isMut_ok (hm i List.mem_cons_self)
    obtain ⟨k2, d2, a2, b2⟩ := isMut_ok (hm j (List.mem_cons_of_mem _ j1))
    exact n1 (E.ap i j k1 k2 d1 d2 b a1 a2 b1 b2 h j2 ▸ j1)
/-- all slots but those at B are in order -/
structure EnvB (K : PySem.W.Frag) (FA : Nat → Option Addr) (B : List Nat) (F : Addr → Prop) (H : Hp) (σ : L2.St) (env : Env) : Prop where
  len : env.length = σ.length
  fin : Fin' F H
  sh : ∀ (i : Nat) (d : D), env[i]? = some (some (Sl.sh, d)) → ∃ v, σ[i]? = some (some v) ∧ Rep K FA F H d v
  mu : ∀ (i : Nat) (k : Sl) (d : D), i ∉ B → k ≠ Sl.sh → env[i]? = some (some (k, d)) → ∃ a, σ[i]? = some (some (V.ref a)) ∧ ¬ F a ∧ RepM K FA F H d a
  ap : ∀ (i j : Nat) (k l : Sl) (d e : D) (a : Addr), k ≠ Sl.sh → l ≠ Sl.sh → env[i]? = some (some (k, d)) → env[j]? = some (some (l, e)) → σ[i]? = some (some (V.ref a)) → σ[j]? = some (some (V.ref a)) → i = j
theorem EnvB.ok (E : EnvB K FA [] F H σ env) : EnvOk K FA F H σ env := ⟨E.len, E.fin, E.sh, fun i k d hk e => E.mu i k d (by simp) hk e, E.ap⟩
theorem set_get {i : Nat} {k : Sl} {d0 d : D} (h : env[i]? = some (some (k, d0))) : ∀ (j : Nat) (k' : Sl) (d' : D), (env.set i (some (k, d)))[j]? = some (some (k', d')) → (j = i ∧ k' = k ∧ d' = d) ∨ (j ≠ i ∧ env[j]? = some (some (k', d'))) := fun j k' d' e => by
  have hi : i < env.length := by
    rcases Nat.lt_or_ge i env.length with z | z
    · exact z
    · rw [List.getElem?_eq_none z] at h; cases h
  by_cases z : j = i
  · subst z
    rw [List.getElem?_set_self hi] at e
    cases e
    exact .inl ⟨rfl, rfl, rfl⟩
  · rw [List.getElem?_set_ne (Ne.symm z)] at e
    exact .inr ⟨z, e⟩
theorem kin_set {i : Nat} {k : Sl} {d0 d : D} (h : env[i]? = some (some (k, d0))) : kindsE (env.set i (some (k, d))) = kindsE env := by
  have hi : i < env.length := by
    rcases Nat.lt_or_ge i env.length with z | z
    · exact z
    · rw [List.getElem?_eq_none z] at h; cases h
  unfold kindsE
  apply List.ext_getElem?
  intro j
  rw [List.getElem?_map, List.getElem?_map]
  by_cases z : j = i
  · subst z
    rw [List.getElem?_set_self hi, h]
    rfl
  · rw [List.getElem?_set_ne (Ne.symm z)]
theorem EnvB.step {i : Nat} {B : List Nat} {k : Sl} {d0 d : D} {a : Addr} (E : EnvB K FA (i :: B) F H σ env) (hk : k ≠ .sh) (h : env[i]? = some (some (k, d0))) (hs : σ[i]? = some (some (V.ref a))) (nf : ¬ F a) (r : RepM K FA F H d a) : EnvB K FA B F H σ (env.set i (some (k, d))) := by
  have get := set_get (d := d) h
  refine ⟨by rw [List.length_set]; exact E.len, E.fin, fun j d' e => ?_, fun j k' d' hB hk' e => ?_, fun j l k1 k2 d1 d2 b h1 h2 e1 e2 s1 s2 => ?_⟩
  · rcases get j _ d' e with ⟨_, z, _⟩ | ⟨_, e⟩
    · exact absurd z.symm hk
    · exact E.sh j d' e
  · rcases get j k' d' e with ⟨z1, z2, z3⟩ | ⟨nj, e⟩
    · subst z1 z2 z3
      exact ⟨a, hs, nf, r⟩
    · exact E.mu j k' d' (fun z => (List.mem_cons.mp z).elim nj hB) hk' e
  · have o1 : ∃ d', env[j]? = some (some (k1, d')) := by
      rcases get j k1 d1 e1 with ⟨z1, z2, _⟩ | ⟨_, e⟩
      · subst z1 z2; exact ⟨_, h⟩
      · exact ⟨_, e⟩
    have o2 : ∃ d', env[l]? = some (some (k2, d')) := by
      rcases get l k2 d2 e2 with ⟨z1, z2, _⟩ | ⟨_, e⟩
      · subst z1 z2; exact ⟨_, h⟩
      · exact ⟨_, e⟩
    obtain ⟨d1', o1⟩ := o1
    obtain ⟨d2', o2⟩ := o2
    exact E.ap j l k1 k2 d1' d2' b h1 h2 o1 o2 s1 s2
theorem setOuts_ok : ∀ {is : List Nat} {ds : List D} {vs : List V} {env env2 : Env}, setOuts is ds env = .ok env2 → EnvB K FA is F H σ env → (∀ i ∈ is, isMut env i = true) → IoAt σ is vs → OutOk K FA F H ds vs → EnvOk K FA F H σ env2 ∧ kindsE env2 = kindsE env
  | [], [], _, env, env2, h, E, _, _, _ => by
    cases h
    exact ⟨E.ok, rfl⟩
  | [], _ :: _, _, _, _, h, _, _, _, _ => by cases h
  | _ :: _, [], _, _, _, h, _, _, _, _ => by cases h
  | i :: is, d :: ds, vs, env, env2, h, E, hm, ⟨a, r, e, hs, t⟩, ⟨a2, r2, e2, ho, t2⟩ => by
    subst e
    cases e2
    rw [setOuts] at h
    obtain ⟨k, d0, hk, he⟩ := isMut_ok (hm i List.mem_cons_self)
    rw [he] at h
    have hm' : ∀ j ∈ is, isMut (env.set i (some (k, d))) j = true := fun j hj => by
      obtain ⟨k2, d2, hk2, he2⟩ := isMut_ok (hm j (List.mem_cons_of_mem _ hj))
      unfold isMut
      by_cases z : i = j
      · subst z
        rw [List.getElem?_set_self (by
          rcases Nat.lt_or_ge i env.length with z | z
          · exact z
          · rw [List.getElem?_eq_none z] at he; cases he)]
        cases k with
        | sh => exact absurd rfl hk
        | own => rfl
        | io => rfl
      · rw [List.getElem?_set_ne z, he2]
        cases k2 with
        | sh => exact absurd rfl hk2
        | own => rfl
        | io => rfl
    obtain ⟨q1, q2⟩ := setOuts_ok h (E.step hk he hs ho.1 ho.2) hm' t t2
    exact ⟨q1, q2.trans (kin_set he)⟩
/-- the callee's promise, from arguments that stand there -/
theorem call_tail {f : Nat} {as : List Arg} {vs : List V} {bs : List (Sl × D)} {q : List D × Fl × D} {Q : VK} {X0 : XK} (E : EnvOk K FA F H σ env) (ha : ArgsOk K FA F H σ as vs) (hr : resolve env as = .ok bs) (hn : (refs as).Nodup) (hc : C f bs = .ok q)
    (ho : setOuts (refs as) q.1 env = .ok env2) (hq : ∀ v F2 H2, Post K FA F H σ env F2 H2 env2 → ValOk K FA H σ env2 F2 H2 q.2.1 q.2.2 v → Q v H2) : spOf K FA C f vs H Q X0 := by
  obtain ⟨i1, i2, i3⟩ := resolve_ok E hr ha
  refine ⟨F, bs, q, E.fin, i1, i2.nodup E i3 hn, hc, fun v F2 H2 P => ?_⟩
  have notIo : ∀ {b : Addr}, ¬ Own σ env b → V.ref b ∉ ioVs bs vs := fun {b} nb m => by
    obtain ⟨i, j1, j2⟩ := i2.mem m
    obtain ⟨k, d, hk, he⟩ := isMut_ok (i3 i j1)
    exact nb ⟨i, k, d, hk, he, j2⟩
  have kp : Keep F H H2 := ⟨fun b o f e => P.keep b o (notIo fun z => (E.own z).1 f) e, fun b o u e => P.keep b _ (notIo fun z => by
    obtain ⟨xs, q⟩ := (E.own z).2
    rw [e] at q; cases q) e⟩
  have EB : EnvB K FA (refs as) F2 H2 σ env := by
    refine ⟨E.len, P.fin, fun i d e => ?_, fun i k d hB hk e => ?_, E.ap⟩
    · obtain ⟨w, q1, q2⟩ := E.sh i d e
      exact ⟨w, q1, q2.mono P.sub kp⟩
    · obtain ⟨a, q1, q2, q3⟩ := E.mu i k d hk e
      have na : V.ref a ∉ ioVs bs vs := fun m => by
        obtain ⟨j, j1, j2⟩ := i2.mem m
        obtain ⟨k', d', hk', he'⟩ := isMut_ok (i3 j j1)
        exact hB (E.ap i j k k' d d' a hk hk' e he' q1 j2 ▸ j1)
      obtain ⟨xs, q4⟩ := q3.there
      refine ⟨a, q1, fun z => ?_, q3.mono P.sub kp fun o e => P.keep a o na e⟩
      rcases P.new a z with z | z
      · exact q2 z
      · rw [q4] at z; cases z
  obtain ⟨E2, k2⟩ := setOuts_ok ho EB i3 i2 P.outs
  have PP : Post K FA F H σ env F2 H2 env2 := ⟨P.sub, P.new, fun b o nb e => P.keep b o (notIo nb) e, E2, k2⟩
  refine hq v F2 H2 PP ?_
  have := P.val
  cases z : q.2.1 with
  | sh => rw [z] at this; exact this
  | fr => rw [z] at this; exact this
  | bo => rw [z] at this; exact this.elim
  | bi => rw [z] at this; exact this.elim
end

section
variable {X : Cx} {FA : Nat → Option Addr} {C : CallF} {c : CC} {nm : NM} {f : Expr → Option E}
theorem compAs_star : ∀ {es : List Expr} {k : Nat} {io : List Nat} {es' : Es}, compAs f c nm io k es = some es' → ∀ e ∈ es, isStar e = false
  | [], _, _, _, _, _, h => by cases h
  | e :: es, k, io, es', h, e2, hm => by
    rw [compAs] at h
    split at h
    · cases h
    · rename_i hs
      rcases List.mem_cons.mp hm with rfl | hm
      · simpa using hs
      · split at h
        · obtain ⟨i, _, h2⟩ := Option.bind_eq_some_iff.mp h
          obtain ⟨b, h3, _⟩ := Option.bind_eq_some_iff.mp h2
          exact compAs_star h3 e2 hm
        · obtain ⟨i, _, h2⟩ := Option.bind_eq_some_iff.mp h
          split at h2
          · cases h2
          · obtain ⟨b, h3, _⟩ := Option.bind_eq_some_iff.mp h2
            exact compAs_star h3 e2 hm
theorem refOf_ok {e : Expr} {i : Nat} (h : refOf c nm e = some i) : ∃ x pos, e = .Name x pos ∧ okName x = true ∧ vis nm x = true ∧ slotOf c.N x = some i := by
  cases e with
  | Name x pos =>
    simp only [refOf] at h
    by_cases q : okName x = true ∧ vis nm x = true
    · rw [if_pos q] at h
      exact ⟨x, pos, rfl, q.1, q.2, h⟩
    · rw [if_neg q] at h
      cases h
  | _ => cases h
theorem evA_cons {e : E} {es : Es} {env : Env} (h : e.isRef = false) : evA C (.cons e es) env = bnd (ev C e env) fun x => guardR x.2.1.free (bnd (evA C es x.1) fun r => .ok (r.1, .v x.2.2 :: r.2)) := by
  cases e <;> first | (cases h; done) | (rw [evA]; intro i z; cases z)
theorem pa_asE (O : XOk X FA C c nm) (hf : ∀ e e', f e = some e' → PE X e (TEv X.K FA C e')) {io : List Nat} : ∀ (es : List Expr) (k : Nat) (es' : Es), compAs f c nm io k es = some es' → PA X es (TAv X.K FA C es')
  | [], k, es', h => by
    cases h
    refine pa_nil.imp fun σ H Q ⟨F, env, r, E, he, q⟩ => ?_
    rw [evA] at he
    cases he
    exact q [] F H (.refl E) rfl
  | e :: es, k, es', h => by
    have hst := compAs_star h e List.mem_cons_self
    rw [compAs] at h
    split at h
    · cases h
    · split at h
      · obtain ⟨i, h1, h2⟩ := Option.bind_eq_some_iff.mp h
        obtain ⟨b, h3, h4⟩ := Option.bind_eq_some_iff.mp h2
        cases h4
        obtain ⟨x, pos, e0, x1, x2, x3⟩ := refOf_ok h1
        subst e0
        obtain ⟨n1, n2, n3⟩ := okName_of x1
        refine (pa_cons (pe_var (O.at x3) (O.vis x2) n1 n2) (pa_asE O hf es (k + 1) b h3) (star_cons rfl)).imp fun σ H Q ⟨F, env, r, E, he, q⟩ => ?_
        rw [evA] at he
        obtain ⟨e1, e2⟩ := guard_ok he
        obtain ⟨y, e3, e4⟩ := bnd_ok e2
        cases e4
        obtain ⟨k', d, hk, hi⟩ := isMut_ok e1
        obtain ⟨a, m1, _, _⟩ := E.mu i k' d hk hi
        exact ⟨_, m1, F, env, y, E, e3, fun vs F1 H1 P1 A1 => q _ F1 H1 P1 ⟨_, vs, rfl, m1, A1⟩⟩
      · obtain ⟨a, h1, h2⟩ := Option.bind_eq_some_iff.mp h
        split at h2
        · cases h2
        rename_i hr
        have hr : a.isRef = false := by simpa using hr
        obtain ⟨b, h3, h4⟩ := Option.bind_eq_some_iff.mp h2
        cases h4
        refine (pa_cons (hf e a h1) (pa_asE O hf es (k + 1) b h3) (star_cons hst)).imp fun σ H Q ⟨F, env, r, E, he, q⟩ => ?_
        rw [evA_cons hr] at he
        obtain ⟨x, e1, e2⟩ := bnd_ok he
        obtain ⟨e3, e4⟩ := guard_ok e2
        obtain ⟨y, e5, e6⟩ := bnd_ok e4
        cases e6
        refine ⟨F, env, x, E, e1, fun v F1 H1 P1 V1 => ?_⟩
        obtain ⟨F2, P2, R2⟩ := V1.give E P1 e3
        exact ⟨F2, x.1, y, P2.ok, e5, fun vs F3 H3 P3 A3 => q _ F3 H3 (P2.trans E P3) ⟨v, vs, rfl, R2.mono P3.sub (P3.toKeep P2.ok), A3⟩⟩
theorem pe_callE (O : XOk X FA C c nm) {x : Str} {p pos : Pos} {k : Nat} {io : List Nat} {args : List Expr} {es : Es} (hn : okName x = true) (hg : glb nm x = true) (hG : c.G.lookup x = some (.fn k io)) (hs : ∀ e ∈ args, isStar e = false) (hnil : args = [] → es = .nil) (ha : PA X args (TAv X.K FA C es)) :
    PE X (.Call (.Name x p) args [] pos) (TEv X.K FA C (.call k es)) := by
  obtain ⟨n1, n2, n3⟩ := okName_of hn
  obtain ⟨a, f1, f2⟩ := O.fns x k io hG
  obtain ⟨j, fd, ps, kp, bi, hr, fok⟩ := O.fok k a f1
  have go : ∀ {σ : L2.St} {H : Hp} {Q : VK}, TEv X.K FA C (.call k es) σ H Q → TAv X.K FA C es σ H fun vs H1 => spOf X.K FA C k (vs ++ []) H1 Q E0 := fun {σ H Q} ⟨F, env, r, E, he, q⟩ => by
    rw [ev] at he
    obtain ⟨y, e1, e2⟩ := bnd_ok he
    obtain ⟨bs, e3, e4⟩ := bnd_ok e2
    obtain ⟨e5, e6⟩ := guard_ok e4
    obtain ⟨z, e7, e8⟩ := bnd_ok e6
    obtain ⟨env2, e9, e10⟩ := bnd_ok e8
    cases e10
    refine ⟨F, env, y, E, e1, fun vs F1 H1 P1 A1 => ?_⟩
    show spOf X.K FA C k (vs ++ []) H1 Q E0
    rw [List.append_nil]
    exact call_tail P1.ok A1 e3 (of_decide_eq_true e5) e7 e9 fun v F2 H2 P2 V2 => q v F2 H2 (P1.trans E P2) (V2.later E P1 P2)
  cases args with
  | nil =>
    refine (pe_call0 (E := E0) fok hr (O.glb hg) f2 kp bi .nil pass0 n1).imp fun σ H Q h => ?_
    have hes : es = .nil := hnil rfl
    subst hes
    obtain ⟨F, env, r, E, he, q⟩ := h
    rw [ev, evA] at he
    obtain ⟨y, e1, e2⟩ := bnd_ok he
    cases e1
    obtain ⟨bs, e3, e4⟩ := bnd_ok e2
    obtain ⟨e5, e6⟩ := guard_ok e4
    obtain ⟨z, e7, e8⟩ := bnd_ok e6
    obtain ⟨env2, e9, e10⟩ := bnd_ok e8
    cases e10
    exact call_tail (X0 := E0) (as := []) (vs := []) E rfl e3 (of_decide_eq_true e5) e7 e9 fun v F2 H2 P2 V2 => q v F2 H2 P2 V2
  | cons e es' =>
    exact (pe_call (E := E0) fok hr (O.glb hg) f2 kp bi .nil pass0 ha n1 (star_cons (hs e List.mem_cons_self)) (star_none (fun a h => hs a (List.mem_cons_of_mem _ h)) pos)).imp fun σ H Q h => go h

theorem _root_.L2.PE.ex {X : Cx} {e : Expr} {α : Type} {t : α → TE} (h : ∀ a, PE X e (t a)) : PE X e (fun σ H Q => ∃ a, t a σ H Q) := ⟨fun pins s σ H Q I ⟨a, hw⟩ => (h a).run pins s σ H Q I hw⟩
theorem args_of {F : Addr → Prop} {H : Hp} {σ : L2.St} : ∀ {ds : List D} {vs : List V}, Reps X.K FA F H ds vs → ArgsOk X.K FA F H σ (ds.map Arg.v) vs
  | [], _, h => h
  | d :: ds, _, ⟨v, r, e, h, t⟩ => ⟨v, r, e, h, args_of t⟩
theorem resolve_v (env : Env) : ∀ ds : List D, resolve env (ds.map Arg.v) = .ok (ds.map fun d => (Sl.sh, d))
  | [] => rfl
  | d :: ds => by
    rw [List.map_cons, resolve, resolve_v env ds]
    rfl
theorem refs_v : ∀ ds : List D, refs (ds.map Arg.v) = []
  | [] => rfl
  | d :: ds => by rw [List.map_cons, refs, refs_v ds]
/-- a call of a slot that holds a def -/
theorem pe_callvE (O : XOk X FA C c nm) {x : Str} {p pos : Pos} {i : Nat} {e : Expr} {args : List Expr} {es : Es} (hn : okName x = true) (hv : vis nm x = true) (hi : slotOf c.N x = some i) (hs : ∀ a ∈ e :: args, isStar a = false) (ha : PA X (e :: args) (TVs X.K FA C es))
    (hout : ∀ k as q, C k as = .ok q → (as.map (·.1)).all (· == .sh) = true → q.1 = []) :
    PE X (.Call (.Name x p) (e :: args) [] pos) (TEv X.K FA C (.callv i es)) := by
  obtain ⟨n1, n2, n3⟩ := okName_of hn
  have key : PE X (.Call (.Name x p) (e :: args) [] pos) (fun σ H Q => ∃ kf : { kf : Nat × Addr // FA kf.1 = some kf.2 }, tCallL i kf.1.2 (spOf X.K FA C kf.1.1) [] E0 (TVs X.K FA C es) σ H Q) := by
    refine PE.ex fun kf => ?_
    obtain ⟨j, fd, ps, kp, bi, hr, fok⟩ := O.fok kf.1.1 kf.1.2 kf.2
    exact pe_callL fok hr (O.at hi) (O.vis hv) kp bi .nil pass0 ha n1 n2 (star_cons (hs e List.mem_cons_self)) (star_none (fun a h => hs a (List.mem_cons_of_mem _ h)) pos)
  refine key.imp fun σ H Q ⟨F, env, r, E, he, q⟩ => ?_
  rw [ev] at he
  split at he
  · rename_i k hk
    obtain ⟨y, e1, e2⟩ := bnd_ok he
    obtain ⟨z, e3, e4⟩ := bnd_ok e2
    cases e4
    obtain ⟨v, s1, s2⟩ := E.sh i _ hk
    obtain ⟨a, rfl, s3⟩ := s2
    refine ⟨⟨(k, a), s3⟩, s1, F, env, y, E, e1, fun vs F1 H1 P1 R1 => ?_⟩
    show spOf X.K FA C k (vs ++ []) H1 Q E0
    rw [List.append_nil]
    have ho : z.1 = [] := hout k _ z e3 (by simp)
    exact call_tail (X0 := E0) (env2 := y.1) P1.ok (args_of R1) (resolve_v _ _) (by rw [refs_v]; exact .nil) e3 (by rw [refs_v, ho]; rfl) fun v F2 H2 P2 V2 => q v F2 H2 (P1.trans E P2) (V2.later E P1 P2)
  · cases he
end
end AR

/-! Core12: what loops and comprehensions walk. -/
namespace AR
open PySem PySem.Spec PyProof.Rows L2

section
variable (K : PySem.W.Frag) (FA : Nat → Option Addr) (C : CallF)
/-- the iterator yields the data ds while the sources stand -/
def Serves (J : L2.It) (ds : List D) (srcs : List (D × V)) : Prop := ∀ (i : Nat) (F : Addr → Prop) (H : Hp), Fin' F H → (∀ s ∈ srcs, Pk K FA F H s.1 s.2) →
  (∀ d, ds[i]? = some d → J.go i H ∧ ∀ x H', J.yld i H x H' → ∃ F', Res K FA F H .sh d x F' H') ∧ (ds.length ≤ i → J.stop i H)
/-- a source stands: it is shared, or it is a slot's own and nothing is changed -/
def SrcOk (F : Addr → Prop) (H : Hp) (σ : L2.St) (env : Env) (b : Bool) (s : D × V) : Prop := Rep K FA F H s.1 s.2 ∨ (b = true ∧ ∃ (i : Nat) (k : Sl), k ≠ .sh ∧ env[i]? = some (some (k, s.1)) ∧ σ[i]? = some (some s.2))
def TIv (it : It) (b : Bool) : TI := fun σ H R => ∃ F env r, EnvOk K FA F H σ env ∧ evI C it b env = .ok r ∧
  ∀ J srcs F' H', Post K FA F H σ env F' H' r.1 → (∀ s ∈ srcs, SrcOk K FA F' H' σ r.1 b s) → Serves K FA J r.2 srcs → R J H'
end
section
variable {K : PySem.W.Frag} {FA : Nat → Option Addr} {C : CallF} {F F1 F2 F' : Addr → Prop} {H H1 H2 H' : Hp} {σ : L2.St} {env env1 env2 : Env}
theorem SrcOk.pk {b : Bool} {s : D × V} (E : EnvOk K FA F H σ env) (h : SrcOk K FA F H σ env b s) : Pk K FA F H s.1 s.2 := by
  rcases h with h | ⟨_, i, k, hk, h1, h2⟩
  · exact .inl h
  · obtain ⟨a, m1, _, m3⟩ := E.mu i k _ hk h1
    rw [h2] at m1
    exact .inr ⟨a, Option.some.inj (Option.some.inj m1), m3⟩
/-- a value that is walked -/
theorem src_of {fl : Fl} {d : D} {v : V} {b : Bool} (E : EnvOk K FA F H σ env) (p : Post K FA F H σ env F1 H1 env1) (h : ValOk K FA H σ env1 F1 H1 fl d v) (hp : pk fl b = true) : ∃ F2, Post K FA F H σ env F2 H1 env1 ∧ SrcOk K FA F2 H1 σ env1 b (d, v) := by
  rcases pk_or hp with z | z
  · obtain ⟨F2, p2, r2⟩ := h.give E p z
    exact ⟨F2, p2, .inl r2⟩
  · subst z
    cases fl with
    | sh => exact ⟨F1, p, .inl h⟩
    | fr =>
      obtain ⟨F2, p2, r2⟩ := h.give E p rfl
      exact ⟨F2, p2, .inl r2⟩
    | bo =>
      obtain ⟨i, h1, h2⟩ := h
      exact ⟨F1, p, .inr ⟨rfl, i, _, by decide, h1, h2⟩⟩
    | bi =>
      obtain ⟨i, h1, h2⟩ := h
      exact ⟨F1, p, .inr ⟨rfl, i, _, by decide, h1, h2⟩⟩
theorem SrcOk.later {b : Bool} {s : D × V} (E : EnvOk K FA F H σ env) (h : SrcOk K FA F H σ env b s) (p : Post K FA F H σ env F1 H1 env1) (he : b = true → env1 = env) : SrcOk K FA F1 H1 σ env1 b s := by
  rcases h with h | ⟨hb, i, k, hk, h1, h2⟩
  · exact .inl (h.mono p.sub (p.toKeep E))
  · rw [he hb]
    exact .inr ⟨hb, i, k, hk, h1, h2⟩
/-! ### the iterators -/
theorem serves_list {a : Addr} {ds : List D} : Serves K FA (Itl K a) ds [(.lst ds, .ref a)] := by
  intro i F H fi hs
  obtain ⟨a', xs, e, h1, r⟩ := (hs _ List.mem_cons_self).lst
  cases e
  refine ⟨fun d hd => ?_, fun hl => ⟨xs, SqL.of h1, by rw [← r.len]; exact hl⟩⟩
  obtain ⟨v, v1, v2⟩ := r.get hd
  refine ⟨⟨xs, v, SqL.of h1, v1⟩, fun x H' hy => ?_⟩
  obtain ⟨e1, hy⟩ := hy
  subst e1
  have := hy xs (SqL.of h1)
  rw [v1] at this
  cases this
  exact ⟨F, .flat fi v2⟩
theorem serves_tup {a : Addr} {ds : List D} : Serves K FA (Itt K a) ds [(.tup ds, .ref a)] := by
  intro i F H fi hs
  obtain ⟨a', xs, e, h1, r⟩ := (hs _ List.mem_cons_self).tup
  cases e
  refine ⟨fun d hd => ?_, fun hl => ⟨xs, h1.sq, by rw [← r.len]; exact hl⟩⟩
  obtain ⟨v, v1, v2⟩ := r.get hd
  refine ⟨⟨xs, v, h1.sq, v1⟩, fun x H' hy => ?_⟩
  obtain ⟨e1, hy⟩ := hy
  subst e1
  have := hy xs h1.sq
  rw [v1] at this
  cases this
  exact ⟨F, .flat fi v2⟩
theorem serves_str {s : List Nat} : Serves K FA (Its (strV s)) (s.map fun c => .str [c]) [] := by
  intro i F H fi hs
  have hsz : (strV s).cps.size = s.length := by simp [strV]
  refine ⟨fun d hd => ?_, fun hl => ?_⟩
  · rw [List.getElem?_map] at hd
    obtain ⟨c, c1, c2⟩ := Option.map_eq_some_iff.mp hd
    subst c2
    have hi : i < s.length := by
      rcases Nat.lt_or_ge i s.length with z | z
      · exact z
      · rw [List.getElem?_eq_none z] at c1; cases c1
    refine ⟨by show i < (strV s).cps.size; rw [hsz]; exact hi, fun x H' hy => ?_⟩
    obtain ⟨e1, c', e2, e3⟩ := hy
    subst e1 e3
    have : c' = c := by
      have q : (strV s).cps[i]? = s[i]? := by simp [strV]
      rw [q, c1] at e2
      cases e2; rfl
    subst this
    exact ⟨F, .flat fi rfl⟩
  · show (strV s).cps.size ≤ i
    rw [hsz]; simpa using hl
theorem serves_rng {lo hi : Int} : Serves K FA (Itr lo (hi - lo).toNat) (rangeI lo hi) [] := by
  intro i F H fi hs
  refine ⟨fun d hd => ?_, fun hl => ?_⟩
  · unfold rangeI at hd
    rw [List.getElem?_map] at hd
    obtain ⟨c, c1, c2⟩ := Option.map_eq_some_iff.mp hd
    subst c2
    have hi' : i < (hi - lo).toNat := by
      rcases Nat.lt_or_ge i (hi - lo).toNat with z | z
      · exact z
      · rw [List.getElem?_eq_none (by simpa using z)] at c1; cases c1
    have : c = i := by
      rw [List.getElem?_range hi'] at c1
      cases c1; rfl
    subst this
    refine ⟨hi', fun x H' hy => ?_⟩
    obtain ⟨e1, e2⟩ := hy
    subst e1 e2
    exact ⟨F, .flat fi rfl⟩
  · show (hi - lo).toNat ≤ i
    unfold rangeI at hl
    simpa using hl
theorem enumD_get : ∀ (ds : List D) (n i : Nat), (enumD n ds)[i]? = (ds[i]?).map fun d => .tup [.int (n + i : Nat), d]
  | [], n, i => by simp [enumD]
  | d :: ds, n, 0 => by simp [enumD]
  | d :: ds, n, i + 1 => by
    rw [enumD, List.getElem?_cons_succ, List.getElem?_cons_succ, enumD_get ds (n + 1) i]
    rw [show n + 1 + i = n + (i + 1) by omega]
theorem enumD_len : ∀ (ds : List D) (n : Nat), (enumD n ds).length = ds.length
  | [], _ => rfl
  | d :: ds, n => by rw [enumD, List.length_cons, List.length_cons, enumD_len ds]
theorem serves_enum {a : Addr} {ds : List D} : Serves K FA (Ite K a) (enumD 0 ds) [(.lst ds, .ref a)] := by
  intro i F H fi hs
  obtain ⟨a', xs, e, h1, r⟩ := (hs _ List.mem_cons_self).lst
  cases e
  refine ⟨fun d hd => ?_, fun hl => ⟨xs, SqL.of h1, by rw [← r.len]; rwa [enumD_len] at hl⟩⟩
  rw [enumD_get] at hd
  obtain ⟨d', d1, d2⟩ := Option.map_eq_some_iff.mp hd
  subst d2
  obtain ⟨v, v1, v2⟩ := r.get d1
  refine ⟨⟨xs, v, SqL.of h1, v1⟩, fun x H' hy => ?_⟩
  obtain ⟨T, w, e1, e2, e3, e4⟩ := hy
  subst e1 e3
  have := e4 xs (SqL.of h1)
  rw [v1] at this
  cases this
  exact ⟨_, .tup fi e2 (.cons (by rw [Nat.zero_add]; rfl) (.cons v2 .nil))⟩
theorem zipD_get : ∀ (ds es : List D) (i : Nat) (d : D), (zipD ds es)[i]? = some d → ∃ x y, ds[i]? = some x ∧ es[i]? = some y ∧ d = .tup [x, y]
  | [], es, i, d, h => by simp [zipD] at h
  | _ :: _, [], i, d, h => by simp [zipD] at h
  | x :: ds, y :: es, 0, d, h => by simp [zipD] at h; exact ⟨x, y, rfl, rfl, h.symm⟩
  | x :: ds, y :: es, i + 1, d, h => by
    rw [zipD, List.getElem?_cons_succ] at h
    obtain ⟨a, b, h1, h2, h3⟩ := zipD_get ds es i d h
    exact ⟨a, b, by simpa using h1, by simpa using h2, h3⟩
theorem zipD_len : ∀ (ds es : List D), (zipD ds es).length = min ds.length es.length
  | [], es => by simp [zipD]
  | _ :: _, [] => by simp [zipD]
  | x :: ds, y :: es => by rw [zipD, List.length_cons, List.length_cons, List.length_cons, zipD_len ds es]; omega
theorem serves_zipL {a b : Addr} {ds es : List D} : Serves K FA (Itz K a b) (zipD ds es) [(.lst ds, .ref a), (.lst es, .ref b)] := by
  intro i F H fi hs
  obtain ⟨a', xs, e, h1, r⟩ := (hs _ List.mem_cons_self).lst
  cases e
  obtain ⟨b', ys, e, h2, r2⟩ := (hs (.lst es, .ref b) (by simp)).lst
  cases e
  refine ⟨fun d hd => ?_, fun hl => ⟨xs, ys, SqL.of h1, SqL.of h2, ?_⟩⟩
  · obtain ⟨d1, d2, g1, g2, g3⟩ := zipD_get _ _ _ _ hd
    subst g3
    obtain ⟨v, v1, v2⟩ := r.get g1
    obtain ⟨w, w1, w2⟩ := r2.get g2
    refine ⟨⟨xs, ys, v, w, SqL.of h1, SqL.of h2, v1, w1⟩, fun x H' hy => ?_⟩
    obtain ⟨T, p, q, e1, e2, e3, e4, e5⟩ := hy
    subst e1 e3
    have t1 := e4 xs (SqL.of h1)
    have t2 := e5 ys (SqL.of h2)
    rw [v1] at t1
    rw [w1] at t2
    cases t1
    cases t2
    exact ⟨_, .tup fi e2 (.cons v2 (.cons w2 .nil))⟩
  · rw [zipD_len] at hl
    rw [← r.len, ← r2.len]
    omega
theorem serves_zipT {a b : Addr} {ds es : List D} : Serves K FA (RZ.ItzT K a b) (zipD ds es) [(.tup ds, .ref a), (.tup es, .ref b)] := by
  intro i F H fi hs
  obtain ⟨a', xs, e, h1, r⟩ := (hs _ List.mem_cons_self).tup
  cases e
  obtain ⟨b', ys, e, h2, r2⟩ := (hs (.tup es, .ref b) (by simp)).tup
  cases e
  refine ⟨fun d hd => ?_, fun hl => ⟨xs, ys, h1.sq, h2.sq, ?_⟩⟩
  · obtain ⟨d1, d2, g1, g2, g3⟩ := zipD_get _ _ _ _ hd
    subst g3
    obtain ⟨v, v1, v2⟩ := r.get g1
    obtain ⟨w, w1, w2⟩ := r2.get g2
    refine ⟨⟨xs, ys, v, w, h1.sq, h2.sq, v1, w1⟩, fun x H' hy => ?_⟩
    obtain ⟨T, p, q, e1, e2, e3, e4, e5⟩ := hy
    subst e1 e3
    have t1 := e4 xs h1.sq
    have t2 := e5 ys h2.sq
    rw [v1] at t1
    rw [w1] at t2
    cases t1
    cases t2
    exact ⟨_, .tup fi e2 (.cons v2 (.cons w2 .nil))⟩
  · rw [zipD_len] at hl
    rw [← r.len, ← r2.len]
    omega
end

/-! ### the sources -/
section
variable {X : Cx} {FA : Nat → Option Addr} {C : CallF} {c : CC} {nm : NM} {f : Expr → Option E} {tg : Expr} {b : Bool}
theorem _root_.L2.PI.imp {X : Cx} {tg e : Expr} {t t' : TI} (h : PI X tg e t) (hi : ∀ σ H Q, t' σ H Q → t σ H Q) : PI X tg e t' := ⟨fun pins s σ H Q I hw => h.run pins s σ H Q I (hi _ _ _ hw)⟩
theorem PI.or3 {X : Cx} {tg e : Expr} {t1 t2 t3 : TI} (h1 : PI X tg e t1) (h2 : PI X tg e t2) (h3 : PI X tg e t3) : PI X tg e (fun σ H R => t1 σ H R ∨ t2 σ H R ∨ t3 σ H R) :=
  ⟨fun pins s σ H R I h => h.elim (h1.run pins s σ H R I) fun h => h.elim (h2.run pins s σ H R I) (h3.run pins s σ H R I)⟩
theorem pi_valE {e : Expr} {e' : E} (he : PE X e (TEv X.K FA C e')) : PI X tg e (TIv X.K FA C (.val e') b) := by
  refine (PI.or3 (pi_list (tg := tg) he) (pi_tup (tg := tg) he) (pi_str (tg := tg) he)).imp fun σ H R ⟨F, env, r, E, hr, q⟩ => ?_
  rw [evI] at hr
  obtain ⟨x, h1, h2⟩ := bnd_ok hr
  obtain ⟨hp, h3⟩ := guard_ok h2
  obtain ⟨l, h4, h5⟩ := bnd_ok h3
  cases h5
  cases hd : x.2.2 with
  | lst ds =>
    rw [hd] at h4
    cases h4
    refine .inl ⟨F, env, x, E, h1, fun v F1 H1 P1 V1 => ?_⟩
    rw [hd] at V1
    obtain ⟨a, xs, e1, e2, e3⟩ := (V1.pk0 E P1).lst
    subst e1
    obtain ⟨F2, P2, S2⟩ := src_of E P1 V1 hp
    exact ⟨a, rfl, ⟨xs, SqL.of e2⟩, q _ [(.lst l, .ref a)] F2 H1 P2 (fun s hs => by cases List.mem_singleton.mp hs; exact S2) serves_list⟩
  | tup ds =>
    rw [hd] at h4
    cases h4
    refine .inr (.inl ⟨F, env, x, E, h1, fun v F1 H1 P1 V1 => ?_⟩)
    rw [hd] at V1
    obtain ⟨a, xs, e1, e2, e3⟩ := (V1.pk0 E P1).tup
    subst e1
    obtain ⟨F2, P2, S2⟩ := src_of E P1 V1 hp
    exact ⟨a, rfl, ⟨xs, e2.sq⟩, q _ [(.tup l, .ref a)] F2 H1 P2 (fun s hs => by cases List.mem_singleton.mp hs; exact S2) serves_tup⟩
  | str s =>
    rw [hd] at h4
    cases h4
    refine .inr (.inr ⟨F, env, x, E, h1, fun v F1 H1 P1 V1 => ?_⟩)
    rw [hd] at V1
    exact ⟨strV s, (V1.pk0 E P1).str, q _ [] F1 H1 P1 (fun s hs => by cases hs) serves_str⟩
  | dic kvs =>
    refine .inl ⟨F, env, x, E, h1, fun v F1 H1 P1 V1 => ?_⟩
    rw [hd] at V1
    exact (V1.pk0 E P1).dic.elim
  | _ => rw [hd] at h4; cases h4
theorem okB_of {i : Int} (h : okB i = true) : -(2 ^ 62) ≤ i ∧ i < 2 ^ 62 := by
  unfold okB at h
  simpa using h
theorem pi_rng1E (O : XOk X FA C c nm) {a : Expr} {a' : E} {x : Str} {p pos : Pos} (hx : x = "range") (hg : glb nm x = true) (hG : c.G.lookup x = none) (hs : isStar a = false) (ha : PE X a (TEv X.K FA C a')) : PI X tg (.Call (.Name x p) [a] [] pos) (TIv X.K FA C (.rng1 a') b) := by
  subst hx
  refine (pi_range1 (O.glb hg) (O.blt _ (by decide +kernel) hG) (pa_cons ha pa_nil (star_cons hs)) (star_cons hs)).imp fun σ H R ⟨F, env, r, E, hr, q⟩ => ?_
  rw [evI] at hr
  obtain ⟨y, h1, h2⟩ := bnd_ok hr
  refine ⟨F, env, y, E, h1, fun v F1 H1 P1 V1 => ?_⟩
  split at h2
  · rename_i i hi
    obtain ⟨h3, h4⟩ := guard_ok h2
    cases h4
    rw [hi] at V1
    obtain ⟨b1, b2⟩ := okB_of h3
    refine ⟨i, by rw [(V1.pk0 E P1).int], b1, b2, q _ [] F1 H1 P1 (fun s hs => by cases hs) ?_⟩
    have := serves_rng (K := X.K) (FA := FA) (lo := 0) (hi := i)
    rwa [Int.sub_zero] at this
  · cases h2
theorem pi_rng2E (O : XOk X FA C c nm) {a d : Expr} {a' d' : E} {x : Str} {p pos : Pos} (hx : x = "range") (hg : glb nm x = true) (hG : c.G.lookup x = none) (hs : isStar a = false) (hs2 : isStar d = false) (ha : PE X a (TEv X.K FA C a')) (hd : PE X d (TEv X.K FA C d')) :
    PI X tg (.Call (.Name x p) [a, d] [] pos) (TIv X.K FA C (.rng2 a' d') b) := by
  subst hx
  refine (pi_range2 (O.glb hg) (O.blt _ (by decide +kernel) hG) (pa_cons ha (pa_cons hd pa_nil (star_cons hs2)) (star_cons hs)) (by rw [star_cons hs, star_cons hs2]; rfl) (star_cons hs2)).imp fun σ H R ⟨F, env, r, E, hr, q⟩ => ?_
  rw [evI] at hr
  obtain ⟨y, h1, h2⟩ := bnd_ok hr
  obtain ⟨z, h3, h4⟩ := bnd_ok h2
  refine ⟨F, env, y, E, h1, fun v F1 H1 P1 V1 => ⟨F1, y.1, z, P1.ok, h3, fun w F2 H2 P2 V2 => ?_⟩⟩
  split at h4
  · rename_i i j hi hj
    obtain ⟨h5, h6⟩ := guard_ok h4
    cases h6
    rw [hi] at V1
    rw [hj] at V2
    obtain ⟨g1, g2⟩ := and2 h5
    obtain ⟨b1, b2⟩ := okB_of g1
    obtain ⟨b3, b4⟩ := okB_of g2
    exact ⟨i, j, by rw [(V1.pk0 E P1).int, (V2.pk0 P1.ok P2).int], ⟨b1, b2, b3, b4⟩, q _ [] F2 H2 (P1.trans E P2) (fun s hs => by cases hs) serves_rng⟩
  · cases h4
theorem pi_enmE (O : XOk X FA C c nm) {a : Expr} {a' : E} {x : Str} {p pos tpos : Pos} {elts : List Expr} {kk : Nat} (hx : x = "enumerate") (hg : glb nm x = true) (hG : c.G.lookup x = none) (hs : isStar a = false) (ha : PE X a (TEv X.K FA C a')) :
    PI X (.Tuple elts kk tpos) (.Call (.Name x p) [a] [] pos) (TIv X.K FA C (.enm a') b) := by
  subst hx
  refine (pi_enum (O.glb hg) (O.blt _ (by decide +kernel) hG) (pa_cons ha pa_nil (star_cons hs)) (star_cons hs)).imp fun σ H R ⟨F, env, r, E, hr, q⟩ => ?_
  rw [evI] at hr
  obtain ⟨y, h1, h2⟩ := bnd_ok hr
  obtain ⟨hp, h3⟩ := guard_ok h2
  obtain ⟨l, h4, h5⟩ := bnd_ok h3
  cases h5
  refine ⟨F, env, y, E, h1, fun v F1 H1 P1 V1 => ?_⟩
  cases hd : y.2.2 with
  | lst ds =>
    rw [hd] at h4 V1
    cases h4
    obtain ⟨a, xs, e1, e2, e3⟩ := (V1.pk0 E P1).lst
    subst e1
    obtain ⟨F2, P2, S2⟩ := src_of E P1 V1 hp
    exact ⟨a, xs, rfl, SqL.of e2, q _ [(.lst l, .ref a)] F2 H1 P2 (fun s hs => by cases List.mem_singleton.mp hs; exact S2) serves_enum⟩
  | _ => rw [hd] at h4; cases h4
theorem pi_zipE (O : XOk X FA C c nm) {a d : Expr} {a' d' : E} {x : Str} {p pos tpos : Pos} {elts : List Expr} {kk : Nat} (hx : x = "zip") (hg : glb nm x = true) (hG : c.G.lookup x = none) (hs : isStar a = false) (hs2 : isStar d = false) (ha : PE X a (TEv X.K FA C a')) (hd : PE X d (TEv X.K FA C d')) :
    PI X (.Tuple elts kk tpos) (.Call (.Name x p) [a, d] [] pos) (TIv X.K FA C (.zip2 a' d') b) := by
  subst hx
  refine (RZ.pi_zipA (O.glb hg) (O.blt _ (by decide +kernel) hG) (pa_cons ha (pa_cons hd pa_nil (star_cons hs2)) (star_cons hs)) (star_cons hs) (star_none (fun e he => by cases List.mem_singleton.mp he; exact hs2) pos)).imp fun σ H R ⟨F, env, r, E, hr, q⟩ => ?_
  rw [evI] at hr
  obtain ⟨y, h1, h2⟩ := bnd_ok hr
  obtain ⟨hp, h3⟩ := guard_ok h2
  obtain ⟨z, h4, h5⟩ := bnd_ok h3
  obtain ⟨hp2, h6⟩ := guard_ok h5
  obtain ⟨l, h7, h8⟩ := bnd_ok h6
  cases h8
  refine ⟨F, env, y, E, h1, fun v F1 H1 P1 V1 => ?_⟩
  have hb : (b && d'.pure) = true → b = true ∧ z.1 = y.1 := fun w => ⟨(and2 w).1, ev_pure C _ _ _ (and2 w).2 h4⟩
  obtain ⟨F1', P1', S1⟩ := src_of E P1 V1 hp
  have S1' : SrcOk X.K FA F1' H1 σ y.1 b (y.2.2, v) := by
    rcases S1 with S1 | ⟨w, S1⟩
    · exact .inl S1
    · exact .inr ⟨(hb w).1, S1⟩
  have he : (∃ (i : Nat) (k : Sl), k ≠ Sl.sh ∧ y.1[i]? = some (some (k, y.2.2)) ∧ σ[i]? = some (some v)) ∧ (b && d'.pure) = true ∨ Rep X.K FA F1' H1 y.2.2 v := by
    rcases S1 with S1 | ⟨w, S1⟩
    · exact .inr S1
    · exact .inl ⟨S1, w⟩
  refine ⟨F1', y.1, z, P1'.ok, h4, fun w F2 H2 P2 V2 => ?_⟩
  obtain ⟨F3, P3, S3⟩ := src_of P1'.ok P2 V2 hp2
  have S4 : SrcOk X.K FA F3 H2 σ z.1 b (y.2.2, v) := by
    rcases he with ⟨S, w⟩ | S
    · refine .inr ⟨(hb w).1, ?_⟩
      rw [(hb w).2]; exact S
    · exact .inl (S.mono P3.sub (P3.toKeep P1'.ok))
  have PP := P1'.trans E P3
  cases hdy : y.2.2 with
  | lst ds =>
    cases hdz : z.2.2 with
    | lst es =>
      rw [hdy, hdz] at h7
      cases h7
      rw [hdy] at S4
      rw [hdz] at S3
      obtain ⟨a, xs, e1, e2, e3⟩ := (S4.pk P3.ok).lst
      obtain ⟨a2, ys, e4, e5, e6⟩ := (S3.pk P3.ok).lst
      cases e1
      cases e4
      refine ⟨a, a2, xs, ys, rfl, .inl ⟨SqL.of e2, SqL.of e5, q _ [(.lst ds, .ref a), (.lst es, .ref a2)] F3 H2 PP (fun s hs => ?_) serves_zipL⟩⟩
      rcases List.mem_cons.mp hs with rfl | hs
      · exact S4
      · cases List.mem_singleton.mp hs; exact S3
    | _ => rw [hdy, hdz] at h7; cases h7
  | tup ds =>
    cases hdz : z.2.2 with
    | tup es =>
      rw [hdy, hdz] at h7
      cases h7
      rw [hdy] at S4
      rw [hdz] at S3
      obtain ⟨a, xs, e1, e2, e3⟩ := (S4.pk P3.ok).tup
      obtain ⟨a2, ys, e4, e5, e6⟩ := (S3.pk P3.ok).tup
      cases e1
      cases e4
      refine ⟨a, a2, xs, ys, rfl, .inr ⟨e2.sq, e5.sq, q _ [(.tup ds, .ref a), (.tup es, .ref a2)] F3 H2 PP (fun s hs => ?_) serves_zipT⟩⟩
      rcases List.mem_cons.mp hs with rfl | hs
      · exact S4
      · cases List.mem_singleton.mp hs; exact S3
    | _ => rw [hdy, hdz] at h7; cases h7
  | _ => rw [hdy] at h7; cases hdz : z.2.2 <;> (rw [hdz] at h7; cases h7)
end
end AR

/-! Core13: targets, tests, comprehensions. -/
namespace AR
open PySem PySem.Spec PyProof.Rows L2

section
variable {K : PySem.W.Frag} {FA : Nat → Option Addr} {C : CallF} {F F1 F2 F' : Addr → Prop} {H H1 H2 H' : Hp} {σ : L2.St} {env env1 env2 env' : Env} {d : D} {v : V}
theorem setV_eq {i : Nat} {k : Sl} (h : setV i k d env = .ok env') : env' = env.set i (some (k, d)) ∧ i < env.length ∧ ∀ e, env[i]? ≠ some (some (.io, e)) := by
  unfold setV at h
  split at h
  · rename_i o he
    split at h
    · cases h
    · rename_i hn
      cases h
      refine ⟨rfl, ?_, fun e z => hn (by rw [he] at z; cases z; rfl)⟩
      rcases Nat.lt_or_ge i env.length with z | z
      · exact z
      · rw [List.getElem?_eq_none z] at he; cases he
  · cases h
theorem getElem?_set_cases {α : Type} {l : List α} {i j : Nat} {a b : α} (h : (l.set i a)[j]? = some b) : (j = i ∧ b = a) ∨ (j ≠ i ∧ l[j]? = some b) := by
  by_cases z : j = i
  · subst z
    rcases Nat.lt_or_ge j l.length with q | q
    · rw [List.getElem?_set_self q] at h; cases h; exact .inl ⟨rfl, rfl⟩
    · rw [List.getElem?_eq_none (by simpa using q)] at h; cases h
  · rw [List.getElem?_set_ne (Ne.symm z)] at h
    exact .inr ⟨z, h⟩
/-- a value is stored in a slot -/
theorem EnvOk.store {i : Nat} {k : Sl} (E : EnvOk K FA F H σ env) (h : setV i k d env = .ok env') (hv : (k = .sh ∧ Rep K FA F H d v) ∨ (k ≠ .sh ∧ ∃ a, v = .ref a ∧ ¬ F a ∧ RepM K FA F H d a ∧ ¬ Own σ env a)) : EnvOk K FA F H (σ.set i (some v)) env' := by
  obtain ⟨he, hi, hio⟩ := setV_eq h
  subst he
  have hi' : i < σ.length := by rw [← E.len]; exact hi
  have sget : ∀ j : Nat, j ≠ i → (σ.set i (some v))[j]? = σ[j]? := fun j hj => List.getElem?_set_ne (Ne.symm hj)
  refine ⟨by rw [List.length_set, List.length_set]; exact E.len, E.fin, fun j d' e => ?_, fun j k' d' hk e => ?_, fun j l k1 k2 d1 d2 b h1 h2 e1 e2 s1 s2 => ?_⟩
  · rcases getElem?_set_cases e with ⟨z, q⟩ | ⟨z, q⟩
    · subst z
      cases q
      rcases hv with ⟨_, r⟩ | ⟨r, _⟩
      · exact ⟨v, List.getElem?_set_self hi', r⟩
      · exact absurd rfl r
    · rw [sget j z]; exact E.sh j d' q
  · rcases getElem?_set_cases e with ⟨z, q⟩ | ⟨z, q⟩
    · subst z
      cases q
      rcases hv with ⟨r, _⟩ | ⟨_, a, r1, r2, r3, _⟩
      · exact absurd r hk
      · subst r1; exact ⟨a, List.getElem?_set_self hi', r2, r3⟩
    · rw [sget j z]; exact E.mu j k' d' hk q
  · rcases getElem?_set_cases e1 with ⟨z1, q1⟩ | ⟨z1, q1⟩
    · rcases getElem?_set_cases e2 with ⟨z2, q2⟩ | ⟨z2, q2⟩
      · rw [z1, z2]
      · exfalso
        subst z1
        cases q1
        rw [sget l z2] at s2
        rw [List.getElem?_set_self hi'] at s1
        rcases hv with ⟨r, _⟩ | ⟨_, a, r1, _, _, r4⟩
        · exact h1 r
        · subst r1; cases s1; exact r4 ⟨l, k2, d2, h2, q2, s2⟩
    · rcases getElem?_set_cases e2 with ⟨z2, q2⟩ | ⟨z2, q2⟩
      · exfalso
        subst z2
        cases q2
        rw [sget j z1] at s1
        rw [List.getElem?_set_self hi'] at s2
        rcases hv with ⟨r, _⟩ | ⟨_, a, r1, _, _, r4⟩
        · exact h2 r
        · subst r1; cases s2; exact r4 ⟨j, k1, d1, h1, q1, s1⟩
      · rw [sget j z1] at s1
        rw [sget l z2] at s2
        exact E.ap j l k1 k2 d1 d2 b h1 h2 q1 q2 s1 s2
end

/-! ### targets -/
section
variable (K : PySem.W.Frag) (FA : Nat → Option Addr)
def TGv (t : T) : TG := fun v σ H Q => ∃ F env d env', EnvOk K FA F H σ env ∧ Rep K FA F H d v ∧ bindT t d env = .ok env' ∧ ∀ σ' : L2.St, EnvOk K FA F H σ' env' → (∀ i : Nat, i ∉ t.vars → σ'[i]? = σ[i]?) → Q σ' H
def TGvs (ts : List T) : TGs := fun vs σ H Q => ∃ F env ds env', EnvOk K FA F H σ env ∧ Reps K FA F H ds vs ∧ bindTs ts ds env = .ok env' ∧ ∀ σ' : L2.St, EnvOk K FA F H σ' env' → (∀ i : Nat, i ∉ varsL ts → σ'[i]? = σ[i]?) → Q σ' H
end
section
variable {X : Cx} {FA : Nat → Option Addr} {C : CallF} {c : CC} {nm : NM} {f : Expr → Option E}
theorem _root_.L2.PG.imp {X : Cx} {e : Expr} {t t' : TG} (h : PG X e t) (hi : ∀ v σ H Q, t' v σ H Q → t v σ H Q) : PG X e t' := ⟨fun pins s σ H v u Q I r hw => h.run pins s σ H v u Q I r (hi _ _ _ _ hw)⟩
theorem _root_.L2.PGs.imp {X : Cx} {e : List Expr} {t t' : TGs} (h : PGs X e t) (hi : ∀ v σ H Q, t' v σ H Q → t v σ H Q) : PGs X e t' := ⟨fun pins s σ H v u Q I r hw => h.run pins s σ H v u Q I r (hi _ _ _ _ hw)⟩
theorem assign_each {e : Expr} {es : List Expr} {env : PySem.Env} (h : isStar e = false) : assignEach (e :: es) env = (false, assign e env) :: assignEach es env := by
  cases e <;> first | rfl | cases h
theorem go_star {g : Expr → Option T} : ∀ {es : List Expr} {ts : List T}, compT.go g es = some ts → (∀ env : PySem.Env, (assignEach es env).length = ts.length ∧ (assignEach es env).findIdx? (·.1) = none) 
  | [], ts, h => by
    cases h
    exact fun env => ⟨rfl, rfl⟩
  | e :: es, ts, h => by
    rw [compT.go] at h
    split at h
    · cases h
    · rename_i hs
      have hs : isStar e = false := by simpa using hs
      obtain ⟨t, h1, h2⟩ := Option.bind_eq_some_iff.mp h
      obtain ⟨us, h3, h4⟩ := Option.bind_eq_some_iff.mp h2
      cases h4
      intro env
      obtain ⟨i1, i2⟩ := go_star h3 env
      rw [assign_each hs, List.length_cons, List.length_cons, i1, List.findIdx?_cons, i2]
      exact ⟨rfl, rfl⟩
theorem bindTs_len : ∀ {ts : List T} {ds : List D} {env env' : Env}, bindTs ts ds env = .ok env' → ds.length = ts.length
  | [], [], _, _, _ => rfl
  | [], _ :: _, _, _, h => by rw [bindTs] at h <;> first | cases h | simp
  | _ :: _, [], _, _, h => by rw [bindTs] at h <;> first | cases h | simp
  | t :: ts, d :: ds, env, env', h => by
    rw [bindTs] at h
    obtain ⟨e1, _, h2⟩ := bnd_ok h
    rw [List.length_cons, List.length_cons, bindTs_len h2]
theorem pgs_go {g : Expr → Option T} (hg : ∀ e t, g e = some t → PG X e (TGv X.K FA t)) : ∀ (es : List Expr) (ts : List T), compT.go g es = some ts → PGs X es (TGvs X.K FA ts)
  | [], ts, h => by
    cases h
    refine pgs_nil.imp fun vs σ H Q ⟨F, env, ds, env', E, r, hb, q⟩ => ?_
    have := bindTs_len hb
    have hd : ds = [] := by simpa using this
    subst hd
    cases hb
    exact ⟨r, q σ E fun _ _ => rfl⟩
  | e :: es, ts, h => by
    rw [compT.go] at h
    split at h
    · cases h
    · rename_i hs
      have hs : isStar e = false := by simpa using hs
      obtain ⟨t, h1, h2⟩ := Option.bind_eq_some_iff.mp h
      obtain ⟨us, h3, h4⟩ := Option.bind_eq_some_iff.mp h2
      cases h4
      refine (pgs_cons (hg e t h1) (pgs_go hg es us h3) (by rw [assign_each hs]; rfl)).imp fun vs σ H Q ⟨F, env, ds, env', E, r, hb, q⟩ => ?_
      cases ds with
      | nil => have := bindTs_len hb; simp at this
      | cons d ds =>
        obtain ⟨v, rr, e1, r1, r2⟩ := r
        subst e1
        rw [bindTs] at hb
        obtain ⟨env1, b1, b2⟩ := bnd_ok hb
        refine ⟨v, rr, rfl, F, env, d, env1, E, r1, b1, fun σ1 E1 o1 => ⟨F, env1, ds, env', E1, r2, b2, fun σ2 E2 o2 => q σ2 E2 fun i hi => ?_⟩⟩
        rw [varsL, List.mem_append, not_or] at hi
        rw [o2 i hi.2, o1 i hi.1]
theorem pg_T (O : XOk X FA C c nm) : ∀ (n : Nat) (tg : Expr) (t : T), compT c nm n tg = some t → PG X tg (TGv X.K FA t)
  | 0, _, _, h => by rw [compT] at h; cases h
  | n + 1, tg, t, h => by
    unfold compT at h
    split at h
    · cases h
    · rename_i m x pos hm
      split at h
      · rename_i hc
        obtain ⟨i, h1, h2⟩ := Option.map_eq_some_iff.mp h
        subst h2
        refine (pg_name (by rw [O.N]; exact O.nd) (O.at h1) (O.loc hc.2) (O.st x hc.2)).imp fun v σ H Q ⟨F, env, d, env', E, r, hb, q⟩ => ?_
        rw [bindT] at hb
        refine q _ (E.store hb (.inl ⟨rfl, r⟩)) fun j hj => List.getElem?_set_ne fun z => hj ?_
        rw [T.vars, z]; exact List.mem_singleton.mpr rfl
      · cases h
    · rename_i m es kk pos hm
      cases hm
      obtain ⟨ts, h1, h2⟩ := Option.map_eq_some_iff.mp h
      subst h2
      obtain ⟨s1, s2⟩ := go_star h1 X.env
      refine (pg_tup O.calm (pgs_go (fun e t he => pg_T O n e t he) es ts h1) s1 s2).imp fun v σ H Q ⟨F, env, d, env', E, r, hb, q⟩ => ?_
      cases d with
      | tup ds =>
        rw [bindT] at hb
        obtain ⟨a, xs, e1, t1, r1⟩ := r
        exact ⟨a, xs, e1, t1.sq, by rw [← r1.len]; exact bindTs_len hb, F, env, ds, env', E, r1, hb, fun σ' E' o' => q σ' E' fun i hi => o' i (by rwa [T.vars] at hi)⟩
      | _ => rw [bindT] at hb; cases hb; all_goals (intro a b; cases b)
    · cases h

/-! ### tests -/
def TIfs (K : PySem.W.Frag) (FA : Nat → Option Addr) (C : CallF) (es : Es) : TT := fun σ H Q => ∃ F env r, EnvOk K FA F H σ env ∧ evIfs C es env = .ok r ∧ ∀ F' H', Post K FA F H σ env F' H' r.1 → Q r.2 H'
theorem wpAny_tests_no {prog : Program} {w : World} {A : Around} {E : Value → Shared → Prop} {env : PySem.Env} {Q : Bool → Shared → Prop} : ∀ (cs : List Expr) {s : Shared}, Q false s →
    wpAny (model prog w) A (forIn cs false fun c r => if r = true then do let ok ← isTrue c env (eval c env); pure (ForInStep.yield ok) else pure (ForInStep.yield r)) Q E s
  | [], s, h => wpAny_pure h
  | c :: cs, s, h => by
    rw [List.forIn_cons]
    exact wpAny_bind (wpAny_pure (wpAny_tests_no cs h))
theorem pts_cons {c : Expr} {cs : List Expr} {t u : TT} (h : PT X c t) (hs : PTs X cs u) : PTs X (c :: cs) (fun σ H Q => t σ H fun b H1 => if b = true then u σ H1 Q else Q false H1) := by
  refine ⟨fun pins s σ H Q I hw => ?_⟩
  rw [List.forIn_cons]
  refine wpAny_bind (wpAny_bind (thn (h.run pins s σ H _ I hw) fun b s1 ⟨H1, I1, q⟩ => wpAny_pure ?_))
  cases b with
  | true => exact hs.run pins s1 σ H1 Q I1 q
  | false => exact wpAny_tests_no cs ⟨H1, I1, q⟩
theorem pts_E (hf : ∀ e e', f e = some e' → PT X e (TTv X.K FA C e')) : ∀ (es : List Expr) (es' : Es), compEs f es = some es' → PTs X es (TIfs X.K FA C es')
  | [], es', h => by
    cases h
    refine ⟨fun pins s σ H Q I ⟨F, env, r, E, he, q⟩ => ?_⟩
    rw [evIfs] at he
    cases he
    exact pts_nil.run pins s σ H Q I (q F H (.refl E))
  | e :: es, es', h => by
    rw [compEs] at h
    split at h
    · cases h
    · obtain ⟨a, h1, h2⟩ := Option.bind_eq_some_iff.mp h
      obtain ⟨b, h3, h4⟩ := Option.bind_eq_some_iff.mp h2
      cases h4
      have hh := pts_cons (hf e a h1) (pts_E hf es b h3)
      refine ⟨fun pins s σ H Q I ⟨F, env, r, E, he, q⟩ => hh.run pins s σ H Q I ?_⟩
      rw [evIfs] at he
      obtain ⟨x, e1, e2⟩ := bnd_ok he
      obtain ⟨k, e3, e4⟩ := bnd_ok e2
      refine ⟨F, env, x, k, E, e1, e3, fun F1 H1 P1 => ?_⟩
      cases k with
      | true => exact ⟨F1, x.1, r, P1.ok, e4, fun F2 H2 P2 => q F2 H2 (P1.trans E P2)⟩
      | false => cases e4; exact q F1 H1 P1
end
end AR

/-! Core14: comprehensions; every expression. -/
namespace AR
open PySem PySem.Spec PyProof.Rows L2

section
variable {K : PySem.W.Frag} {FA : Nat → Option Addr} {C : CallF} {F F1 F2 F' : Addr → Prop} {H H1 H2 H' : Hp} {σ σ2 : L2.St} {env env1 env2 env3 env' : Env} {d : D} {v : V} {own : List Nat}
/-- no slot of own holds anything -/
def Off (own : List Nat) (env : Env) : Prop := ∀ i ∈ own, ∀ p, env[i]? ≠ some (some p)
theorem wipeE_in : ∀ (is : List Nat) (env : Env) (i : Nat), i ∈ is → ∀ p, (wipeE is env)[i]? ≠ some (some p)
  | j :: is, env, i, h, p, e => by
    rw [wipeE] at e
    rcases getElem?_set_cases e with ⟨_, q⟩ | ⟨z, q⟩
    · cases q
    · rcases List.mem_cons.mp h with h | h
      · exact z h
      · exact wipeE_in is env i h p q
theorem Off.kin (h : Off own env) (k : kindsE env' = kindsE env) : Off own env' := fun i hi p e => by
  obtain ⟨kk, dd⟩ := p
  obtain ⟨d', e'⟩ := kin_some k e
  exact h i hi _ e'
/-- fewer slots -/
theorem EnvOk.less (E : EnvOk K FA F H σ env) (hl : env'.length = env.length) (h : ∀ (i : Nat) p, env'[i]? = some (some p) → env[i]? = some (some p)) : EnvOk K FA F H σ env' :=
  ⟨hl.trans E.len, E.fin, fun i d e => E.sh i d (h i _ e), fun i k d hk e => E.mu i k d hk (h i _ e), fun i j k l d e a hk hl e1 e2 => E.ap i j k l d e a hk hl (h i _ e1) (h j _ e2)⟩
/-- other slots may hold anything -/
theorem EnvOk.slots (E : EnvOk K FA F H σ env) (hl : σ2.length = σ.length) (h : ∀ (i : Nat) p, env[i]? = some (some p) → σ2[i]? = σ[i]?) : EnvOk K FA F H σ2 env :=
  ⟨E.len.trans hl.symm, E.fin, fun i d e => by rw [h i _ e]; exact E.sh i d e, fun i k d hk e => by rw [h i _ e]; exact E.mu i k d hk e, fun i j k l d e a hk hl e1 e2 s1 s2 => E.ap i j k l d e a hk hl e1 e2 (by rw [← h i _ e1]; exact s1) (by rw [← h j _ e2]; exact s2)⟩
theorem wipe_get (σ : L2.St) : ∀ (vs : List Nat) (i : Nat), i ∉ vs → (wipe σ vs)[i]? = σ[i]?
  | [], i, _ => rfl
  | v :: vs, i, h => by
    rw [List.mem_cons, not_or] at h
    unfold wipe
    rw [List.getElem?_set_ne (Ne.symm h.1), wipe_get σ vs i h.2]
theorem wipe_eq (hl : σ2.length = σ.length) : ∀ (vs : List Nat), (∀ i : Nat, i ∉ vs → σ2[i]? = σ[i]?) → wipe σ2 vs = wipe σ vs := fun vs h => by
  apply List.ext_getElem?
  intro j
  by_cases z : j ∈ vs
  · have key : ∀ (τ : L2.St) (vs : List Nat), j ∈ vs → (wipe τ vs)[j]? = if j < τ.length then some none else none := fun τ vs => by
      induction vs with
      | nil => intro h; cases h
      | cons v vs ih =>
        intro h
        unfold wipe
        by_cases q : v = j
        · subst q
          by_cases hlt : v < τ.length
          · rw [List.getElem?_set_self (by rw [wipe_length]; exact hlt), if_pos hlt]
          · rw [if_neg hlt, List.getElem?_eq_none (by rw [List.length_set, wipe_length]; omega)]
        · rw [List.getElem?_set_ne q]
          exact ih ((List.mem_cons.mp h).resolve_left fun e => q e.symm)
    rw [key σ2 vs z, key σ vs z, hl]
  · rw [wipe_get σ2 vs j z, wipe_get σ vs j z]
    exact h j z
theorem wipe_wipe (vs : List Nat) : wipe (wipe σ vs) vs = wipe σ vs := by
  exact wipe_eq (wipe_length σ vs) vs fun i hi => wipe_get σ vs i hi
theorem EnvOk.slen (E : EnvOk K FA F H σ env) (E2 : EnvOk K FA F' H' σ2 env2) (h : env2.length = env.length) : σ2.length = σ.length := by rw [← E.len, ← E2.len, h]
/-- a turn of a comprehension: the target's slots are set, something is done, the slots are off again -/
theorem Post.turn (E : EnvOk K FA F H σ env) (ho : Off own env) (hb : EqOut own env env1) (hsh : ∀ i ∈ own, ∀ k d, env1[i]? = some (some (k, d)) → k = Sl.sh) (hs : ∀ i : Nat, i ∉ own → σ2[i]? = σ[i]?) (hl : σ2.length = σ.length)
    (p : Post K FA F H σ2 env1 F' H' env2) : Post K FA F H σ env F' H' (keepO own env env2) := by
  have ow : ∀ b, Own σ2 env1 b → Own σ env b := fun b ⟨i, k, d, hk, e1, e2⟩ => by
    by_cases z : i ∈ own
    · exact absurd (hsh i z k d e1) hk
    · exact ⟨i, k, d, hk, by rw [← hb.out i z]; exact e1, by rw [← hs i z]; exact e2⟩
  have kl : env2.length = env1.length := by
    have := congrArg List.length p.kin
    simpa [kindsE] using this
  have get : ∀ (i : Nat) q, (keepO own env env2)[i]? = some (some q) → i ∉ own ∧ env2[i]? = some (some q) := fun i q e => by
    rw [keepO_get] at e
    by_cases z : i ∈ own
    · rw [if_pos z] at e
      exfalso
      split at e
      · have e := Option.some.inj e
        rw [List.getD_eq_getElem?_getD] at e
        cases w : env[i]? with
        | none => rw [w] at e; cases e
        | some o =>
          rw [w] at e
          have e : o = some q := e
          subst e
          exact ho i z q w
      · cases e
    · rw [if_neg z] at e
      exact ⟨z, e⟩
  refine ⟨p.sub, p.new, fun b o n e => p.keep b o (fun z => n (ow b z)) e, ?_, ?_⟩
  · refine (p.ok.less (env' := keepO own env env2) (keepO_len _ _ _) fun i q e => (get i q e).2).slots hl.symm fun i q e => ?_
    exact (hs i (get i q e).1).symm
  · unfold kindsE
    apply List.ext_getElem?
    intro j
    rw [List.getElem?_map, List.getElem?_map, keepO_get]
    by_cases z : j ∈ own
    · rw [if_pos z, kl, hb.len]
      by_cases hj : j < env.length
      · rw [if_pos hj, List.getD_eq_getElem?_getD, List.getElem?_eq_getElem hj]
        rfl
      · rw [if_neg hj, List.getElem?_eq_none (by omega)]
    · rw [if_neg z]
      have q := kin_get (i := j) p.kin
      rw [hb.out j z] at q
      cases h1 : env2[j]? <;> cases h2 : env[j]? <;> rw [h1, h2] at q <;> simpa using q
theorem setV_sh {i j : Nat} {k : Sl} {d : D} {own : List Nat} (h : setV i .sh d env = .ok env') (hq : ∀ i ∈ own, ∀ k d, env[i]? = some (some (k, d)) → k = Sl.sh) : ∀ i ∈ own, ∀ k d, env'[i]? = some (some (k, d)) → k = Sl.sh := fun i hi k d e => by
  obtain ⟨he, _, _⟩ := setV_eq h
  subst he
  rcases getElem?_set_cases e with ⟨_, q⟩ | ⟨_, q⟩
  · cases q; rfl
  · exact hq i hi k d q
mutual
theorem bindT_sh : ∀ (t : T) (d : D) (env env' : Env), bindT t d env = .ok env' → (∀ i ∈ own, ∀ k d, env[i]? = some (some (k, d)) → k = Sl.sh) → ∀ i ∈ own, ∀ k d, env'[i]? = some (some (k, d)) → k = Sl.sh
  | .var i, d, env, env', h, hq => by
    rw [bindT] at h
    exact setV_sh (j := 0) (k := .sh) h hq
  | .tup ts, d, env, env', h, hq => by
    cases d with
    | tup ds => rw [bindT] at h; exact bindTs_sh ts ds env env' h hq
    | _ => rw [bindT] at h; cases h; all_goals (intro a b; cases b)
theorem bindTs_sh : ∀ (ts : List T) (ds : List D) (env env' : Env), bindTs ts ds env = .ok env' → (∀ i ∈ own, ∀ k d, env[i]? = some (some (k, d)) → k = Sl.sh) → ∀ i ∈ own, ∀ k d, env'[i]? = some (some (k, d)) → k = Sl.sh
  | [], [], env, env', h, hq => by rw [bindTs] at h; cases h; exact hq
  | [], _ :: _, _, _, h, _ => by rw [bindTs] at h <;> first | cases h | simp
  | _ :: _, [], _, _, h, _ => by rw [bindTs] at h <;> first | cases h | simp
  | t :: ts, d :: ds, env, env', h, hq => by
    rw [bindTs] at h
    obtain ⟨e1, h1, h2⟩ := bnd_ok h
    exact bindTs_sh ts ds e1 env' h2 (bindT_sh t d env e1 h1 hq)
end
/-- the list that grows -/
structure Acc (K : PySem.W.Frag) (FA : Nat → Option Addr) (F : Addr → Prop) (H : Hp) (σ : L2.St) (env : Env) (L : Addr) (F' : Addr → Prop) (H' : Hp) (env' : Env) (ds : List D) : Prop where
  post : Post K FA F H σ env F' H' env'
  at_ : ∃ xs, H' L = some (.lst xs) ∧ Reps K FA F' H' ds xs
  nf : ¬ F' L
section
variable {L : Addr} {ds : List D}
theorem Acc.notOwn (E : EnvOk K FA F H σ env) (hD : H L = none) (a : Acc K FA F H σ env L F' H' env' ds) : ¬ Own σ env' L := fun z => by
  obtain ⟨_, xs, e⟩ := E.own (z.kin a.post.kin)
  rw [hD] at e; cases e
theorem Acc.step {env2 : Env} (E : EnvOk K FA F H σ env) (hD : H L = none) (a : Acc K FA F H σ env L F1 H1 env1 ds) (p : Post K FA F1 H1 σ env1 F2 H2 env2) : Acc K FA F H σ env L F2 H2 env2 ds := by
  obtain ⟨xs, h1, r1⟩ := a.at_
  refine ⟨a.post.trans E p, ⟨xs, p.keep L _ (a.notOwn E hD) h1, r1.mono p.sub (p.toKeep a.post.ok)⟩, fun z => ?_⟩
  rcases p.new L z with z | z
  · exact a.nf z
  · rw [h1] at z; cases z
/-- one item more -/
theorem Acc.push {xs : List V} (E : EnvOk K FA F H σ env) (hD : H L = none) (a : Acc K FA F H σ env L F1 H1 env1 ds) (hx : H1 L = some (.lst xs)) (r : Reps K FA F1 H1 ds xs) (rv : Rep K FA F1 H1 d v) :
    Acc K FA F H σ env L F1 (upd H1 L (.lst (xs ++ [v]))) env1 (ds ++ [d]) := by
  have kp : Keep F1 H1 (upd H1 L (.lst (xs ++ [v]))) := ⟨fun b o f e => by rw [upd_ne (fun z : b = L => a.nf (z ▸ f))]; exact e, fun b o u e => by rw [upd_ne (fun z : b = L => by rw [z, hx] at e; cases e)]; exact e⟩
  have no := a.notOwn E hD
  refine ⟨⟨a.post.sub, a.post.new, fun b o n e => by rw [upd_ne (fun z : b = L => by rw [z, hD] at e; cases e)]; exact a.post.keep b o n e, ⟨a.post.ok.len, fun b f => ?_, fun i d' e => ?_, fun i k d' hk e => ?_, a.post.ok.ap⟩, a.post.kin⟩, ⟨_, upd_same, ?_⟩, a.nf⟩
  · rw [upd_ne (fun z : b = L => a.nf (z ▸ f))]; exact a.post.ok.fin b f
  · obtain ⟨w, q1, q2⟩ := a.post.ok.sh i d' e
    exact ⟨w, q1, q2.mono (fun _ z => z) kp⟩
  · obtain ⟨b, q1, q2, q3⟩ := a.post.ok.mu i k d' hk e
    refine ⟨b, q1, q2, q3.mono (fun _ z => z) kp fun o z => ?_⟩
    rw [upd_ne (fun w : b = L => no (w ▸ ⟨i, k, d', hk, e, q1⟩))]; exact z
  · exact (r.mono (fun _ z => z) kp).app (.cons (rv.mono (fun _ z => z) kp) .nil)
end
end

section
variable {K : PySem.W.Frag} {FA : Nat → Option Addr} {C : CallF} {F F1 F2 F' : Addr → Prop} {H H1 H2 H' : Hp} {σ σ2 : L2.St} {env env1 env2 env3 env' : Env} {d : D} {v : V} {own : List Nat}
theorem Post.slots (p : Post K FA F H σ2 env F' H' env') (hl : σ2.length = σ.length) (h : ∀ (i : Nat) q, env[i]? = some (some q) → σ2[i]? = σ[i]?) : Post K FA F H σ env F' H' env' := by
  refine ⟨p.sub, p.new, fun b o n e => p.keep b o (fun ⟨i, k, d, hk, e1, e2⟩ => n ⟨i, k, d, hk, e1, by rw [← h i _ e1]; exact e2⟩) e, p.ok.slots hl.symm fun i q e => ?_, p.kin⟩
  obtain ⟨k, d⟩ := q
  obtain ⟨d', e'⟩ := kin_some p.kin e
  exact (h i _ e').symm
theorem wipeE_some {is : List Nat} {i : Nat} {p : Sl × D} (h : (wipeE is env)[i]? = some (some p)) : i ∉ is ∧ env[i]? = some (some p) := by
  by_cases z : i ∈ is
  · exact absurd h (wipeE_in is env i z p)
  · exact ⟨z, by rw [← (wipeE_out is env).out i z]; exact h⟩
theorem keepO_some {is : List Nat} {env0 : Env} {i : Nat} {p : Sl × D} (h : (keepO is env0 env)[i]? = some (some p)) : (i ∈ is ∧ env0[i]? = some (some p)) ∨ (i ∉ is ∧ env[i]? = some (some p)) := by
  rw [keepO_get] at h
  by_cases z : i ∈ is
  · rw [if_pos z] at h
    split at h
    · refine .inl ⟨z, ?_⟩
      have e := Option.some.inj h
      rw [List.getD_eq_getElem?_getD] at e
      cases w : env0[i]? with
      | none => rw [w] at e; cases e
      | some o =>
        rw [w] at e
        have e : o = some p := e
        rw [e]
    · cases h
  · rw [if_neg z] at h
    exact .inr ⟨z, h⟩
/-- the block's own names come back -/
theorem Post.unwipe (E : EnvOk K FA F H σ env) (p : Post K FA F H σ (wipeE own env) F' H' env') : Post K FA F H σ env F' H' (keepO own env env') := by
  have E0 : EnvOk K FA F H σ (wipeE own env) := E.less (wipeE_len _ _) fun i q e => (wipeE_some e).2
  have kp := p.toKeep E0
  have kl : env'.length = env.length := by
    have := congrArg List.length p.kin
    simpa [kindsE, wipeE_len] using this
  have all : ∀ (i : Nat) k d, (keepO own env env')[i]? = some (some (k, d)) → ∃ d', env[i]? = some (some (k, d')) := fun i k d e => by
    rcases keepO_some e with ⟨_, q⟩ | ⟨_, q⟩
    · exact ⟨d, q⟩
    · obtain ⟨d', q'⟩ := kin_some p.kin q
      exact ⟨d', (wipeE_some q').2⟩
  refine ⟨p.sub, p.new, fun b o n e => p.keep b o (fun ⟨i, k, d, hk, e1, e2⟩ => n ⟨i, k, d, hk, (wipeE_some e1).2, e2⟩) e, ⟨by rw [keepO_len, kl]; exact E.len, p.ok.fin, fun i d e => ?_, fun i k d hk e => ?_, fun i j k l d1 d2 a hk hl e1 e2 s1 s2 => ?_⟩, ?_⟩
  · rcases keepO_some e with ⟨_, q⟩ | ⟨_, q⟩
    · obtain ⟨w, q1, q2⟩ := E.sh i d q
      exact ⟨w, q1, q2.mono p.sub kp⟩
    · exact p.ok.sh i d q
  · rcases keepO_some e with ⟨hi, q⟩ | ⟨_, q⟩
    · obtain ⟨a, q1, q2, q3⟩ := E.mu i k d hk q
      obtain ⟨xs, q4⟩ := q3.there
      refine ⟨a, q1, fun z => ?_, q3.mono p.sub kp fun o z => p.keep a o (fun ⟨j, l, e, hl, w1, w2⟩ => ?_) z⟩
      · rcases p.new a z with z | z
        · exact q2 z
        · rw [q4] at z; cases z
      · obtain ⟨w3, w4⟩ := wipeE_some w1
        exact w3 (E.ap i j k l d e a hk hl q w4 q1 w2 ▸ hi)
    · exact p.ok.mu i k d hk q
  · obtain ⟨d1', e1⟩ := all i k d1 e1
    obtain ⟨d2', e2⟩ := all j l d2 e2
    exact E.ap i j k l d1' d2' a hk hl e1 e2 s1 s2
  · unfold kindsE
    apply List.ext_getElem?
    intro j
    rw [List.getElem?_map, List.getElem?_map, keepO_get]
    by_cases z : j ∈ own
    · rw [if_pos z, kl]
      by_cases hj : j < env.length
      · rw [if_pos hj, List.getD_eq_getElem?_getD, List.getElem?_eq_getElem hj]
        rfl
      · rw [if_neg hj, List.getElem?_eq_none (by omega)]
    · rw [if_neg z]
      have q := kin_get (i := j) p.kin
      rw [(wipeE_out own env).out j z] at q
      cases h1 : env'[j]? <;> cases h2 : env[j]? <;> rw [h1, h2] at q <;> simpa using q
theorem Acc.start {L : Addr} (E : EnvOk K FA F H σ env) (hL : H L = none) : Acc K FA F H σ env L F (upd H L (.lst [])) env [] := by
  have kp : Keep F H (upd H L (.lst [])) := .of_same (same_upd hL)
  exact ⟨⟨fun _ h => h, fun _ h => .inl h, fun b o _ e => by rw [upd_ne (fun z : b = L => by rw [z, hL] at e; cases e)]; exact e, E.grow (fun _ h => h) (fun _ h => .inl h) (fin_same E.fin (same_upd hL)) (same_upd hL), rfl⟩, ⟨[], upd_same, .nil⟩, fun z => E.fin L z hL⟩
theorem SrcOk.slots {b : Bool} {s : D × V} (h : SrcOk K FA F H σ env b s) (hs : ∀ (i : Nat) q, env[i]? = some (some q) → σ2[i]? = σ[i]?) : SrcOk K FA F H σ2 env b s := by
  rcases h with h | ⟨hb, i, k, hk, h1, h2⟩
  · exact .inl h
  · exact .inr ⟨hb, i, k, hk, h1, by rw [hs i _ h1]; exact h2⟩
theorem drop_cons {α : Type} {l : List α} {i : Nat} {a : α} (h : l[i]? = some a) : l.drop i = a :: l.drop (i + 1) := by
  have hi : i < l.length := by
    rcases Nat.lt_or_ge i l.length with z | z
    · exact z
    · rw [List.getElem?_eq_none z] at h; cases h
  rw [List.drop_eq_getElem_cons hi]
  rw [List.getElem?_eq_getElem hi] at h
  cases h
  rfl
theorem off_sh (h : Off own env) : ∀ i ∈ own, ∀ k d, env[i]? = some (some (k, d)) → k = Sl.sh := fun i hi k d e => absurd e (h i hi _)
theorem tlc_ok {it : It} {t : T} {ifs : Es} {e : E} {Q : VK} (hv : ∀ i ∈ t.vars, i ∈ own) (h : TEv K FA C (.comp own (.cons t it ifs (.el e))) σ H Q) :
    tLc (TIv K FA C it (ifs.pure && (Cl.el e).pureC own)) (TGv K FA t) (TIfs K FA C ifs) (TEv K FA C e) own σ H Q := by
  obtain ⟨F, env, r, E, he, q⟩ := h
  rw [ev] at he
  obtain ⟨r0, h0, he⟩ := bnd_ok he
  obtain ⟨hlen, he⟩ := guard_ok he
  cases he
  have hlen : r0.2.length ≤ sizeLine := of_decide_eq_true hlen
  rw [evCl] at h0
  obtain ⟨x, hI, hcol⟩ := bnd_ok h0
  have E0 : EnvOk K FA F H σ (wipeE own env) := E.less (wipeE_len _ _) fun i q e => (wipeE_some e).2
  refine ⟨F, wipeE own env, x, E0, hI, fun J srcs F1 H1 P1 hsrc hserve L hL => ?_⟩
  have off : Off own x.1 := Off.kin (fun i hi p e => wipeE_in own env i hi p e) P1.kin
  have out : ∀ {τ : L2.St} (i : Nat) (p : Sl × D), x.1[i]? = some (some p) → (wipe τ own)[i]? = τ[i]? := fun i p e => wipe_get _ own i fun z => off i z p e
  have E1 : EnvOk K FA F1 H1 (wipe σ own) x.1 := P1.ok.slots (wipe_length _ _) out
  generalize hf : (fun (env1 : Env) (d : D) => bnd (bindT t d env1) fun env2 => bnd (evIfs C ifs env2) fun q => if q.2 = true then evCl C own (.el e) q.1 else .ok (q.1, [])) = f at hcol
  refine ⟨fun i m H' => m = x.2.length - i ∧ ∃ F' env' ds rest, Acc K FA F1 H1 (wipe σ own) x.1 L F' H' env' ds ∧ collect own f (x.2.drop i) env' = .ok rest ∧ rest.1 = r0.1 ∧ ds ++ rest.2 = r0.2 ∧ ((ifs.pure && (Cl.el e).pureC own) = true → env' = x.1),
    ⟨_, rfl, F1, x.1, [], r0, Acc.start E1 hL, hcol, rfl, rfl, fun _ => rfl⟩, ?_⟩
  rintro i m H3 ⟨rfl, F3, env3, ds, rest, A3, c3, c4, c5, c6⟩
  have src3 : ∀ s ∈ srcs, Pk K FA F3 H3 s.1 s.2 := fun s hs => (((hsrc s hs).slots out).later E1 A3.post c6).pk A3.post.ok
  have sv := hserve i F3 H3 A3.post.ok.fin src3
  rcases Nat.lt_or_ge i x.2.length with hi | hi
  · have hd : x.2[i]? = some x.2[i] := List.getElem?_eq_getElem hi
    obtain ⟨go, yl⟩ := sv.1 _ hd
    refine .inr ⟨go, fun H' => (x.2.length - (i + 1) = x.2.length - (i + 1)) ∧ ∃ F' env' ds rest, Acc K FA F1 H1 (wipe σ own) x.1 L F' H' env' ds ∧ collect own f (x.2.drop (i + 1)) env' = .ok rest ∧ rest.1 = r0.1 ∧ ds ++ rest.2 = r0.2 ∧ ((ifs.pure && (Cl.el e).pureC own) = true → env' = x.1),
      fun H' nx => ⟨_, by omega, nx⟩, fun y H4 hy => ?_⟩
    obtain ⟨F4, R4⟩ := yl y H4 hy
    have A4 := A3.step E1 hL (R4.post A3.post.ok)
    have rv : Rep K FA F4 H4 x.2[i] y := R4.valOk (σ := σ) (env := env3)
    rw [drop_cons hd, collect] at c3
    obtain ⟨r1, c7, c8⟩ := bnd_ok c3
    obtain ⟨q1, c9, c10⟩ := bnd_ok c8
    cases c10
    rw [← hf] at c7
    obtain ⟨env5, b1, b2⟩ := bnd_ok c7
    obtain ⟨q5, b3, b4⟩ := bnd_ok b2
    have eo := bindT_out (own := own) t _ _ _ hv b1
    have off3 := off.kin A4.post.kin
    refine ⟨F4, env3, x.2[i], env5, A4.post.ok, rv, b1, fun σ2 E5 o5 => ?_⟩
    have hl2 : σ2.length = (wipe σ own).length := A4.post.ok.slen E5 eo.len
    have ho : ∀ j : Nat, j ∉ own → σ2[j]? = (wipe σ own)[j]? := fun j hj => o5 j fun z => hj (hv j z)
    refine ⟨(wipe_eq hl2 own ho).trans (wipe_wipe own), F4, env5, q5, E5, b3, fun F6 H6 P6 => ?_⟩
    have tn : ∀ {F7 : Addr → Prop} {H7 : Hp} {env7 : Env}, Post K FA F4 H4 σ2 env5 F7 H7 env7 → Post K FA F4 H4 (wipe σ own) env3 F7 H7 (keepO own env3 env7) := fun P => Post.turn A4.post.ok off3 eo (bindT_sh t _ _ _ b1 (off_sh off3)) ho hl2 P
    by_cases hq : q5.2 = true
    · dsimp only
      rw [if_pos hq] at b4 ⊢
      rw [evCl] at b4
      obtain ⟨z, b5, b6⟩ := bnd_ok b4
      obtain ⟨b7, b8⟩ := guard_ok b6
      cases b8
      refine ⟨F6, q5.1, z, P6.ok, b5, fun u F7 H7 P7 V7 => ?_⟩
      obtain ⟨F8, P8, R8⟩ := V7.give P6.ok P7 b7
      have A8 := A4.step E1 hL (tn (P6.trans E5 P8))
      obtain ⟨acc, a1, a2⟩ := A8.at_
      have hr : ds ++ (z.2.2 :: q1.2) = r0.2 := c5
      refine ⟨acc, a1, ?_, rfl, F8, _, _, q1, A8.push E1 hL a1 a2 R8, c9, c4, ?_, fun hp => ?_⟩
      · rw [← a2.len]
        have := congrArg List.length hr
        rw [List.length_append, List.length_cons] at this
        omega
      · rw [← hr]; simp
      · obtain ⟨p1, p2⟩ := and2 hp
        have e1 := evIfs_pure C ifs _ _ p1 b3
        have e2 := ev_pure C e _ _ (by simpa [Cl.pureC] using p2) b5
        have : EqOut own env3 z.1 := by rw [e2, e1]; exact eo
        show keepO own env3 z.1 = x.1
        rw [this.keep]
        exact c6 hp
    · dsimp only
      rw [if_neg hq] at b4 ⊢
      cases b4
      refine ⟨rfl, F6, _, _, q1, A4.step E1 hL (tn P6), c9, c4, c5, fun hp => ?_⟩
      obtain ⟨p1, p2⟩ := and2 hp
      have e1 := evIfs_pure C ifs _ _ p1 b3
      have : EqOut own env3 q5.1 := by rw [e1]; exact eo
      show keepO own env3 q5.1 = x.1
      rw [this.keep]
      exact c6 hp
  · refine .inl ⟨sv.2 hi, ?_⟩
    rw [List.drop_eq_nil_of_le hi] at c3
    cases c3
    have hds : ds = r0.2 := by rw [← c5]; simp
    obtain ⟨xs, a1, a2⟩ := A3.at_
    have c4 : env3 = r0.1 := c4
    rw [← c4, ← hds] at q
    exact q _ F3 H3 (Post.unwipe E (P1.trans E0 (A3.post.slots (wipe_length _ _) out))) ⟨L, rfl, P1.dom E0 hL, A3.nf, xs, a1, a2⟩
end
end AR

/-! Core15: every expression of the small language. -/
namespace AR
open PySem PySem.Spec PyProof.Rows L2

/-- a def that is handed nothing to change hands nothing back -/
def Outs (C : CallF) : Prop := ∀ k as q, C k as = .ok q → (as.map (·.1)).all (· == .sh) = true → q.1 = []
section
variable {X : Cx} {FA : Nat → Option Addr} {C : CallF} {c : CC} {nm : NM} {f : Expr → Option E}
theorem isSet_folded {e : Expr} (h : isSet e = false) (env : PySem.Env) : ∀ x, foldedSetIterable e env x = pure x := by
  intro x
  cases e <;> first | rfl | cases h
theorem isSet_marks {op : CmpOp} {e : Expr} (h : isSet e = false) : behindInMarks op e = false := by
  cases e <;> first | rfl | cases h
theorem compI_set {tup : Bool} {e : Expr} {it : It} (h : compI f c nm tup e = some it) : isSet e = false := by
  cases e <;> first | rfl | (unfold compI at h; simp [isSet] at h)
theorem pi_I (O : XOk X FA C c nm) (hf : ∀ e e', f e = some e' → PE X e (TEv X.K FA C e')) {tg e : Expr} {it : It} (b : Bool) (h : compI f c nm (isTupT tg) e = some it) : PI X tg e (TIv X.K FA C it b) := by
  have val : ∀ {e : Expr} {it : It}, ((f e).bind fun e' => some (It.val e')) = some it → PI X tg e (TIv X.K FA C it b) := fun {e it} h => by
    obtain ⟨a, h1, h2⟩ := Option.bind_eq_some_iff.mp h
    cases h2
    exact pi_valE (hf e a h1)
  unfold compI at h
  split at h
  · rename_i x px args pos
    split at h
    · rename_i hc
      obtain ⟨hg, hn, hG⟩ := hc
      have hG : c.G.lookup x = none := Option.isNone_iff_eq_none.mp hG
      split at h
      · rename_i hx
        split at h
        · rename_i a
          split at h
          · cases h
          · rename_i hs
            obtain ⟨a', h1, h2⟩ := Option.bind_eq_some_iff.mp h
            cases h2
            exact pi_rng1E O hx hg hG (by simpa using hs) (hf a a' h1)
        · rename_i a d
          split at h
          · cases h
          · rename_i hs
            rw [not_or] at hs
            obtain ⟨a', h1, h2⟩ := Option.bind_eq_some_iff.mp h
            obtain ⟨d', h3, h4⟩ := Option.bind_eq_some_iff.mp h2
            cases h4
            exact pi_rng2E O hx hg hG (by simpa using hs.1) (by simpa using hs.2) (hf a a' h1) (hf d d' h3)
        · cases h
      · split at h
        · rename_i hx
          split at h
          · rename_i a
            split at h
            · cases h
            · rename_i hs
              obtain ⟨a', h1, h2⟩ := Option.bind_eq_some_iff.mp h
              cases h2
              have ht := hx.2
              cases tg with
              | Tuple elts kk tpos => exact pi_enmE O hx.1 hg hG (by simpa using hs) (hf a a' h1)
              | _ => cases ht
          · cases h
        · split at h
          · rename_i hx
            split at h
            · rename_i a d
              split at h
              · cases h
              · rename_i hs
                rw [not_or] at hs
                obtain ⟨a', h1, h2⟩ := Option.bind_eq_some_iff.mp h
                obtain ⟨d', h3, h4⟩ := Option.bind_eq_some_iff.mp h2
                cases h4
                have ht := hx.2
                cases tg with
                | Tuple elts kk tpos => exact pi_zipE O hx.1 hg hG (by simpa using hs.1) (by simpa using hs.2) (hf a a' h1) (hf d d' h3)
                | _ => cases ht
            · cases h
          · exact val h
    · exact val h
  · split at h
    · cases h
    · exact val h
theorem XOk.blk (O : XOk X FA C c nm) {s : Shared} {H : Hp} {scope : Scope} {cl : List (PySem.Str × Addr)} {A : Addr} {fp : List Addr} : XOk (X.blk s H scope (compEnvC scope cl A X.env) fp) FA C c scope.names where
  calm := O.calm
  N := O.N
  nd := O.nd
  sc := fun x k h => by
    show (relS scope X.env.scope).names.lookup x = some k ∨ (k = .free ∧ (relS scope X.env.scope).names.lookup x = some .cell)
    by_cases z : k = .free
    · subst z
      have key : ∀ (l : List (PySem.Str × NameKind)), l.lookup x = some .free → ∃ k', (l.map fun (n, k) => if (k == NameKind.free && X.env.scope.kind == .function && X.env.scope.names.lookup n == some .cell) then (n, NameKind.cell) else (n, k)).lookup x = some k' := fun l => by
        induction l with
        | nil => intro h; cases h
        | cons p l ih =>
          intro h
          obtain ⟨n, k₀⟩ := p
          show ∃ k', List.lookup x ((if (k₀ == NameKind.free && X.env.scope.kind == .function && X.env.scope.names.lookup n == some .cell) = true then (n, NameKind.cell) else (n, k₀)) :: (l.map _)) = some k'
          cases hx : x == n with
          | true =>
            split
            · simp only [List.lookup_cons, hx]; exact ⟨_, rfl⟩
            · simp only [List.lookup_cons, hx]; exact ⟨_, rfl⟩
          | false =>
            simp only [List.lookup_cons, hx] at h
            split
            · simp only [List.lookup_cons, hx]; exact ih h
            · simp only [List.lookup_cons, hx]; exact ih h
      obtain ⟨k', hk⟩ := key _ h
      obtain ⟨k2, e1, e2⟩ := lookup_relS (sc := X.env.scope) hk
      rw [h] at e1
      cases e1
      rcases e2 with e2 | ⟨_, e2⟩
      · subst e2; exact .inl hk
      · subst e2; exact .inr ⟨rfl, hk⟩
    · exact .inl (lookup_relS_keep z h)
  st := fun x h => by
    unfold locl at h
    split at h
    · rename_i e
      exact .inr (lookup_relS_keep (by decide) e)
    · rename_i e
      refine .inl ?_
      show (scope.names.lookup x == some NameKind.cell) = true
      rw [e]; rfl
    · cases h
  units := O.units
  fns := O.fns
  fok := O.fok
  cns := O.cns
  blt := O.blt
theorem blk_ok (O : XOk X FA C c nm) {scope : Scope} {own : List (PySem.Str × Nat)} (h : blkC c.N (scp nm) scope own = true) : BlkOk X.N X.env.scope scope own := by
  have b := blkOk_by h
  refine ⟨b.kind, b.uniq, fun p hp => by rw [O.N]; exact b.ix p hp, fun y hy e => ?_, fun y hy e => by rw [O.N]; exact b.own y hy e⟩
  rcases b.free y hy e with q | q
  · have q : nm.lookup y.1 = some .cell := q
    rcases O.sc _ _ q with z | ⟨z, _⟩
    · exact .inl z
    · cases z
  · have q : nm.lookup y.1 = some .free := q
    rcases O.sc _ _ q with z | ⟨_, z⟩
    · exact .inr z
    · exact .inl z
/-- the judgement of one expression -/
def EOk (X : Cx) (FA : Nat → Option Addr) (C : CallF) (e : Expr) (e' : E) : Prop := PE X e (TEv X.K FA C e') ∧ PT X e (TTv X.K FA C e')
theorem EOk.plain {e : Expr} {e' : E} (h : PE X e (TEv X.K FA C e')) (he : ∀ whole, isTrue e X.env whole = (do let v ← whole; standAt e.pos; holding [v] (truthy v))) : EOk X FA C e e' := ⟨h, pt_plainE h he⟩
theorem pe_callAll (O : XOk X FA C c nm) (ho : Outs C) (hf : ∀ e e', f e = some e' → PE X e (TEv X.K FA C e')) {fn : Expr} {args : List Expr} {pos : Pos} {e' : E} (h : compCall f c nm fn args = some e') : PE X (.Call fn args [] pos) (TEv X.K FA C e') := by
  unfold compCall at h
  split at h
  · rename_i x px
    split at h
    · rename_i hn
      split at h
      · rename_i hv
        obtain ⟨i, h1, h2⟩ := Option.bind_eq_some_iff.mp h
        cases args with
        | nil => cases h2
        | cons a as =>
          rw [if_neg (by simp)] at h2
          obtain ⟨es, h3, h4⟩ := Option.bind_eq_some_iff.mp h2
          cases h4
          exact pe_callvE O hn hv h1 (compEs_star h3) (pa_esE hf _ _ h3) ho
      · split at h
        · rename_i hg
          split at h
          · rename_i k io hk
            obtain ⟨es, h3, h4⟩ := Option.bind_eq_some_iff.mp h
            cases h4
            exact pe_callE O hn hg hk (compAs_star h3) (fun e => by subst e; cases h3; rfl) (pa_asE O hf _ _ _ h3)
          · cases h
          · rename_i hk
            unfold compBlt at h
            split at h
            · rename_i a
              split at h
              · cases h
              · rename_i hs
                obtain ⟨k, h1, h2⟩ := Option.bind_eq_some_iff.mp h
                obtain ⟨a', h3, h4⟩ := Option.bind_eq_some_iff.mp h2
                cases h4
                obtain ⟨b, b1, b2, b3⟩ := bt1_ok h1
                have hs : isStar a = false := by simpa using hs
                exact pe_bltE O b1 b2 b3 hg hn hk (fun e he => by simp at he; subst he; exact hs) (pa_p1 hs (hf a a' h3))
            · rename_i a b
              split at h
              · cases h
              · rename_i hs
                rw [not_or] at hs
                have hs1 : isStar a = false := by simpa using hs.1
                have hs2 : isStar b = false := by simpa using hs.2
                split at h
                · rename_i hx
                  split at h
                  · rename_i y py
                    split at h
                    · rename_i hy
                      obtain ⟨t, h1, h2⟩ := Option.bind_eq_some_iff.mp h
                      obtain ⟨a', h3, h4⟩ := Option.bind_eq_some_iff.mp h2
                      cases h4
                      exact pe_isiE O hx hg hn hk h1 hy.1 hy.2.1 (Option.isNone_iff_eq_none.mp hy.2.2) hs1 (hf a a' h3)
                    · cases h
                  · cases h
                · obtain ⟨k, h1, h2⟩ := Option.bind_eq_some_iff.mp h
                  obtain ⟨a', h3, h4⟩ := Option.bind_eq_some_iff.mp h2
                  obtain ⟨b', h5, h6⟩ := Option.bind_eq_some_iff.mp h4
                  cases h6
                  obtain ⟨bk, b1, b2, b3⟩ := bt2_ok h1
                  exact pe_bltE O b1 b2 b3 hg hn hk (fun e he => (List.mem_cons.mp he).elim (fun z => z ▸ hs1) fun z => (List.mem_singleton.mp z) ▸ hs2) (pa_p2 hs1 hs2 (hf a a' h3) (hf b b' h5))
            · cases h
        · cases h
    · cases h
  · cases h
theorem compE_ok (ho : Outs C) : ∀ (n : Nat) {X : Cx} {nm : NM}, XOk X FA C c nm → ∀ (e : Expr) (e' : E), compE n c nm e = some e' → EOk X FA C e e'
  | 0, X, nm, O, e, e', h => by rw [compE] at h; cases h
  | n + 1, X, nm, O, e, e', h => by
    have ih := fun e e' h => compE_ok ho n O e e' h
    have ihE := fun e e' h => (ih e e' h).1
    have ihT := fun e e' h => (ih e e' h).2
    unfold compE at h
    split at h
    · exact .plain (pe_constE h) fun _ => rfl
    · exact .plain (pe_nameE O h) fun _ => rfl
    · obtain ⟨es, h1, h2⟩ := Option.bind_eq_some_iff.mp h
      cases h2
      exact .plain (pe_tupE (pa_esE ihE _ _ h1)) fun _ => rfl
    · obtain ⟨es, h1, h2⟩ := Option.bind_eq_some_iff.mp h
      cases h2
      exact .plain (pe_lstE (pa_esE ihE _ _ h1)) fun _ => rfl
    · obtain ⟨o, h1, h2⟩ := Option.bind_eq_some_iff.mp h
      obtain ⟨a, h3, h4⟩ := Option.bind_eq_some_iff.mp h2
      obtain ⟨b, h5, h6⟩ := Option.bind_eq_some_iff.mp h4
      cases h6
      exact .plain (pe_binE h1 (ihE _ _ h3) (ihE _ _ h5)) fun _ => rfl
    · split at h
      · obtain ⟨a, h1, h2⟩ := Option.bind_eq_some_iff.mp h
        cases h2
        exact .plain (pe_negE (ihE _ _ h1)) fun _ => rfl
      · obtain ⟨a, h1, h2⟩ := Option.bind_eq_some_iff.mp h
        cases h2
        exact ⟨pe_notE (ihE _ _ h1), pt_notE (ihT _ _ h1)⟩
      · cases h
    · exact ⟨pe_boolE ihE _ _ h, (pw_boolE ihT _ _ h).pt⟩
    · obtain ⟨t, h1, h2⟩ := Option.bind_eq_some_iff.mp h
      obtain ⟨a, h3, h4⟩ := Option.bind_eq_some_iff.mp h2
      obtain ⟨b, h5, h6⟩ := Option.bind_eq_some_iff.mp h4
      cases h6
      exact ⟨pe_ifE (ihT _ _ h1) (ihE _ _ h3) (ihE _ _ h5), pt_ifE (ihT _ _ h1) (ihT _ _ h3) (ihT _ _ h5)⟩
    · unfold compCmp at h
      split at h
      · split at h
        · cases h
        · rename_i hs
          obtain ⟨a, h3, h4⟩ := Option.bind_eq_some_iff.mp h
          obtain ⟨b, h5, h6⟩ := Option.bind_eq_some_iff.mp h4
          cases h6
          exact ⟨pe_cmpE O.units (isSet_marks (by simpa using hs)) (ihE _ _ h3) (ihE _ _ h5), pt_cmpE O.units (isSet_marks (by simpa using hs)) (ihE _ _ h3) (ihE _ _ h5)⟩
      · split at h
        · cases h
        · rename_i hs
          rw [not_or] at hs
          obtain ⟨a, h3, h4⟩ := Option.bind_eq_some_iff.mp h
          obtain ⟨b, h5, h6⟩ := Option.bind_eq_some_iff.mp h4
          obtain ⟨d, h7, h8⟩ := Option.bind_eq_some_iff.mp h6
          cases h8
          have hm : ∀ {op op' : CmpOp} {b d : Expr}, isSet d = false → lastMarks [op, op'] [b, d] = false := fun {op op' b d} h => isSet_marks (op := op') h
          exact ⟨pe_chainE O.units (hm (by simpa using hs.2)) (ihE _ _ h3) (ihE _ _ h5) (ihE _ _ h7), pt_chainE O.units (hm (by simpa using hs.2)) (ihE _ _ h3) (ihE _ _ h5) (ihE _ _ h7)⟩
      · cases h
    · rename_i fn args kws pos
      split at h
      · rename_i hk
        cases kws with
        | nil => exact .plain (pe_callAll O ho ihE h) fun _ => rfl
        | cons => cases hk
      · cases h
    · rename_i a s pos
      unfold compSub at h
      split at h
      · split at h
        · obtain ⟨a', h1, h2⟩ := Option.bind_eq_some_iff.mp h
          obtain ⟨l, h3, h4⟩ := Option.bind_eq_some_iff.mp h2
          obtain ⟨hh, h5, h6⟩ := Option.bind_eq_some_iff.mp h4
          cases h6
          exact .plain (pe_slcE (ihE _ _ h1) (po_E ihE _ _ h3) (po_E ihE _ _ h5)) fun _ => rfl
        · cases h
      · rename_i hs
        obtain ⟨a', h1, h2⟩ := Option.bind_eq_some_iff.mp h
        obtain ⟨s', h3, h4⟩ := Option.bind_eq_some_iff.mp h2
        cases h4
        exact .plain (pe_subE (by simpa using hs) (ihE _ _ h1) (ihE _ _ h3)) fun _ => rfl
    · rename_i elt gens scope pos
      split at h
      · rename_i tg iter ifs
        obtain ⟨own, h1, h⟩ := Option.bind_eq_some_iff.mp h
        split at h
        · rename_i hb
          obtain ⟨it, h2, h⟩ := Option.bind_eq_some_iff.mp h
          obtain ⟨t, h3, h⟩ := Option.bind_eq_some_iff.mp h
          obtain ⟨is, h4, h⟩ := Option.bind_eq_some_iff.mp h
          obtain ⟨el, h5, h⟩ := Option.bind_eq_some_iff.mp h
          split at h
          · rename_i hv
            cases h
            have hv : ∀ i ∈ t.vars, i ∈ own.map (·.2) := fun i hi => by simpa using List.all_eq_true.mp hv i hi
            have bO := fun (s : Shared) (H : Hp) (A : Addr) (cl : List (PySem.Str × Addr)) (fp : List Addr) => O.blk (s := s) (H := H) (scope := scope) (cl := cl) (A := A) (fp := fp)
            refine .plain ((pe_lc O.calm (by rw [O.N]; exact O.nd) (pi_I O ihE _ h2) (blk_ok O hb) (fun s H A cl fp => pg_T (bO s H A cl fp) 4 tg t h3) (fun s H A cl fp => pts_E (fun e e' h => (compE_ok ho n (bO s H A cl fp) e e' h).2) ifs is h4)
              (fun s H A cl fp => (compE_ok ho n (bO s H A cl fp) elt el h5).1) (isSet_folded (compI_set h2) _)).imp fun σ H Q h => tlc_ok hv h) fun _ => rfl
          · cases h
        · cases h
      · cases h
    · cases h
end
end AR

/-! Core16: where a def's body stands. -/
namespace AR
open PySem PySem.Spec PyProof.Rows L2

/-- a body that began at F0, H0, its lists to be changed at IO -/
structure StOk (K : PySem.W.Frag) (FA : Nat → Option Addr) (F0 : Addr → Prop) (H0 : Hp) (IO : Nat → Option Addr) (F : Addr → Prop) (H : Hp) (σ : L2.St) (env : Env) : Prop where
  ok : EnvOk K FA F H σ env
  sub : ∀ b, F0 b → F b
  new : ∀ b, F b → F0 b ∨ H0 b = none
  keep : ∀ b o, (∀ i, IO i ≠ some b) → H0 b = some o → H b = some o
  own : ∀ (i : Nat) d a, env[i]? = some (some (Sl.own, d)) → σ[i]? = some (some (V.ref a)) → H0 a = none
  io : ∀ (i : Nat) d a, env[i]? = some (some (Sl.io, d)) → σ[i]? = some (some (V.ref a)) → IO i = some a
  ios : ∀ i a, IO i = some a → ∃ d, env[i]? = some (some (Sl.io, d)) ∧ σ[i]? = some (some (V.ref a))
structure StLe (F : Addr → Prop) (H : Hp) (F' : Addr → Prop) (H' : Hp) : Prop where
  sub : ∀ b, F b → F' b
  keep : Keep F H H'

section
variable {K : PySem.W.Frag} {FA : Nat → Option Addr} {C : CallF} {F0 F F1 F2 F' : Addr → Prop} {H0 H H1 H2 H' : Hp} {IO : Nat → Option Addr} {σ σ' : L2.St} {env env0 env1 env2 env' : Env} {d : D} {v : V} {fl : Fl}
theorem StLe.refl : StLe F H F H := ⟨fun _ h => h, .refl⟩
theorem StLe.trans (a : StLe F H F1 H1) (b : StLe F1 H1 F2 H2) : StLe F H F2 H2 := ⟨fun x h => b.sub x (a.sub x h), ⟨fun x o f e => b.keep.on x o (a.sub x f) (a.keep.on x o f e), fun x o u e => b.keep.frz x o u (a.keep.frz x o u e)⟩⟩
theorem Post.le (E : EnvOk K FA F H σ env) (p : Post K FA F H σ env F' H' env') : StLe F H F' H' := ⟨p.sub, p.toKeep E⟩
theorem StOk.notIO {b : Addr} (S : StOk K FA F0 H0 IO F H σ env) (h : ¬ Own σ env b) : ∀ i, IO i ≠ some b := fun i e => by
  obtain ⟨d, e1, e2⟩ := S.ios i b e
  exact h ⟨i, _, d, by decide, e1, e2⟩
theorem StOk.dom {b : Addr} (S : StOk K FA F0 H0 IO F H σ env) (h : H b = none) : H0 b = none := by
  cases q : H0 b with
  | none => rfl
  | some o =>
    have n : ¬ Own σ env b := fun z => by
      obtain ⟨_, xs, e⟩ := S.ok.own z
      rw [h] at e; cases e
    rw [S.keep b o (S.notIO n) q] at h
    cases h
theorem StOk.post (S : StOk K FA F0 H0 IO F H σ env) (p : Post K FA F H σ env F' H' env') : StOk K FA F0 H0 IO F' H' σ env' := by
  refine ⟨p.ok, fun b h => p.sub b (S.sub b h), fun b h => (p.new b h).elim (S.new b) fun z => .inr (S.dom z), fun b o n e => ?_, fun i d a e1 e2 => ?_, fun i d a e1 e2 => ?_, fun i a e => ?_⟩
  · refine p.keep b o (fun ⟨i, k, d, hk, e1, e2⟩ => ?_) (S.keep b o n e)
    cases k with
    | sh => exact hk rfl
    | own => rw [S.own i d b e1 e2] at e; cases e
    | io => exact n i (S.io i d b e1 e2)
  · obtain ⟨d', e'⟩ := kin_some p.kin e1
    exact S.own i d' a e' e2
  · obtain ⟨d', e'⟩ := kin_some p.kin e1
    exact S.io i d' a e' e2
  · obtain ⟨d, e1, e2⟩ := S.ios i a e
    obtain ⟨d', e'⟩ := kin_some p.kin.symm e1
    exact ⟨d', e', e2⟩
/-- a value of a body -/
def StV (K : PySem.W.Frag) (FA : Nat → Option Addr) (H0 : Hp) (σ : L2.St) (env' : Env) (F' : Addr → Prop) (H' : Hp) (fl : Fl) (d : D) (v : V) : Prop := ValOk K FA H0 σ env' F' H' fl d v ∧ (fl = .fr → ∀ a, v = V.ref a → ¬ Own σ env' a)
theorem StOk.val (S : StOk K FA F0 H0 IO F H σ env) (p : Post K FA F H σ env F' H' env') (h : ValOk K FA H σ env' F' H' fl d v) : StV K FA H0 σ env' F' H' fl d v := by
  cases fl with
  | sh => exact ⟨h, fun z => by cases z⟩
  | fr =>
    obtain ⟨a, h1, h2, h3⟩ := h
    refine ⟨⟨a, h1, S.dom h2, h3⟩, fun _ b e z => ?_⟩
    rw [h1] at e
    cases e
    obtain ⟨_, xs, q⟩ := S.ok.own (z.kin p.kin)
    rw [h2] at q; cases q
  | bo => exact ⟨h, fun z => by cases z⟩
  | bi => exact ⟨h, fun z => by cases z⟩
/-- a new list is handed on -/
theorem StOk.give (S : StOk K FA F0 H0 IO F H σ env) (h : StV K FA H0 σ env F H fl d v) (hf : fl.free = true) : ∃ F2, StOk K FA F0 H0 IO F2 H σ env ∧ StLe F H F2 H ∧ Rep K FA F2 H d v := by
  cases fl with
  | sh => exact ⟨F, S, .refl, h.1⟩
  | fr =>
    obtain ⟨⟨a, rfl, h2, h3, h4⟩, na⟩ := h
    have na := na rfl a rfl
    obtain ⟨xs, h5⟩ := h4.there
    have kk : Keep F H H := .refl
    refine ⟨fun b => F b ∨ b = a, ⟨⟨S.ok.len, fun b z => z.elim (S.ok.fin b) fun e => by rw [e, h5]; exact Option.some_ne_none _, fun i d e => ?_, fun i k d hk e => ?_, S.ok.ap⟩, fun b z => .inl (S.sub b z), fun b z => z.elim (S.new b) fun e => .inr (e ▸ h2), S.keep, S.own, S.io, S.ios⟩, ⟨fun _ z => .inl z, kk⟩, ?_⟩
    · obtain ⟨v, q1, q2⟩ := S.ok.sh i d e
      exact ⟨v, q1, q2.mono (fun _ z => .inl z) kk⟩
    · obtain ⟨b, q1, q2, q3⟩ := S.ok.mu i k d hk e
      refine ⟨b, q1, fun z => z.elim q2 fun z => ?_, q3.mono (fun _ z => .inl z) kk fun _ z => z⟩
      subst z
      exact na ⟨i, k, d, hk, e, q1⟩
    · cases d with
      | lst ds =>
        obtain ⟨ys, q1, q2⟩ := h4
        exact ⟨a, ys, rfl, .inr rfl, q1, q2.mono (fun _ z => .inl z) kk⟩
      | _ => exact h4.elim
  | bo => cases hf
  | bi => cases hf
theorem StOk.freeze1 {i : Nat} (S : StOk K FA F0 H0 IO F H σ env) (h : env[i]? = some (some (Sl.own, d))) : ∃ F2, StOk K FA F0 H0 IO F2 H σ (env.set i (some (Sl.sh, d))) ∧ StLe F H F2 H := by
  obtain ⟨a, q1, q2, q3⟩ := S.ok.mu i _ d (by decide) h
  obtain ⟨xs, q4⟩ := q3.there
  have kk : Keep F H H := .refl
  have hi : i < env.length := by
    rcases Nat.lt_or_ge i env.length with z | z
    · exact z
    · rw [List.getElem?_eq_none z] at h; cases h
  refine ⟨fun b => F b ∨ b = a, ⟨⟨by rw [List.length_set]; exact S.ok.len, fun b z => z.elim (S.ok.fin b) fun e => by rw [e, q4]; exact Option.some_ne_none _, fun j d' e => ?_, fun j k d' hk e => ?_, fun j l k1 k2 d1 d2 b h1 h2 e1 e2 => ?_⟩, fun b z => .inl (S.sub b z), fun b z => z.elim (S.new b) fun e => .inr (e ▸ S.own i d a h q1), S.keep, fun j d' b e1 e2 => ?_, fun j d' b e1 e2 => ?_, fun j b e => ?_⟩, ⟨fun _ z => .inl z, kk⟩⟩
  · rcases getElem?_set_cases e with ⟨z, q⟩ | ⟨z, q⟩
    · subst z
      cases q
      refine ⟨_, q1, ?_⟩
      cases d with
      | lst ds =>
        obtain ⟨ys, q5, q6⟩ := q3
        exact ⟨a, ys, rfl, .inr rfl, q5, q6.mono (fun _ z => .inl z) kk⟩
      | _ => exact q3.elim
    · obtain ⟨v, w1, w2⟩ := S.ok.sh j d' q
      exact ⟨v, w1, w2.mono (fun _ z => .inl z) kk⟩
  · rcases getElem?_set_cases e with ⟨z, q⟩ | ⟨z, q⟩
    · cases q; exact absurd rfl hk
    · obtain ⟨b, w1, w2, w3⟩ := S.ok.mu j k d' hk q
      refine ⟨b, w1, fun y => y.elim w2 fun y => ?_, w3.mono (fun _ z => .inl z) kk fun _ z => z⟩
      subst y
      exact z (S.ok.ap j i k _ d' d b hk (by decide) q h w1 q1)
  · rcases getElem?_set_cases e1 with ⟨_, q⟩ | ⟨_, q⟩
    · cases q; exact absurd rfl h1
    · rcases getElem?_set_cases e2 with ⟨_, q'⟩ | ⟨_, q'⟩
      · cases q'; exact absurd rfl h2
      · exact S.ok.ap j l k1 k2 d1 d2 b h1 h2 q q'
  · rcases getElem?_set_cases e1 with ⟨_, q⟩ | ⟨_, q⟩
    · cases q
    · exact S.own j d' b q e2
  · rcases getElem?_set_cases e1 with ⟨_, q⟩ | ⟨_, q⟩
    · cases q
    · exact S.io j d' b q e2
  · obtain ⟨d', e1, e2⟩ := S.ios j b e
    refine ⟨d', ?_, e2⟩
    rw [List.getElem?_set_ne (fun z => by subst z; rw [h] at e1; cases e1)]
    exact e1
theorem StOk.freeze : ∀ {is : List Nat} {F : Addr → Prop} {env : Env}, StOk K FA F0 H0 IO F H σ env → freeze is env = .ok env0 → ∃ F2, StOk K FA F0 H0 IO F2 H σ env0 ∧ StLe F H F2 H
  | [], F, env, S, h => by
    cases h
    exact ⟨F, S, .refl⟩
  | i :: is, F, env, S, h => by
    rw [AR.freeze] at h
    split at h
    · rename_i d e
      obtain ⟨F1, S1, L1⟩ := S.freeze1 e
      obtain ⟨F2, S2, L2⟩ := StOk.freeze S1 h
      exact ⟨F2, S2, L1.trans L2⟩
    · cases h
    · exact StOk.freeze S h
theorem Post.ice (E : EnvOk K FA F H σ env) : EnvOk K FA (fun b => F b ∨ Own σ env b) H σ (iceE env) := by
  have kk : Keep F H H := .refl
  have get : ∀ (i : Nat) k d, (iceE env)[i]? = some (some (k, d)) → k = .sh ∧ ∃ k', env[i]? = some (some (k', d)) := fun i k d e => by
    unfold iceE at e
    rw [List.getElem?_map] at e
    cases q : env[i]? with
    | none => rw [q] at e; cases e
    | some o =>
      rw [q] at e
      cases o with
      | none => cases e
      | some p =>
        obtain ⟨k', d'⟩ := p
        cases e
        exact ⟨rfl, k', rfl⟩
  refine ⟨by unfold iceE; rw [List.length_map]; exact E.len, fun b z => z.elim (E.fin b) fun z => by obtain ⟨_, xs, e⟩ := E.own z; rw [e]; exact Option.some_ne_none _, fun i d e => ?_, fun i k d hk e => absurd (get i k d e).1 hk, fun i j k l d e a hk hl e1 => absurd (get i k d e1).1 hk⟩
  obtain ⟨_, k, q⟩ := get i _ d e
  by_cases hk : k = .sh
  · subst hk
    obtain ⟨v, w1, w2⟩ := E.sh i d q
    exact ⟨v, w1, w2.mono (fun _ z => .inl z) kk⟩
  · obtain ⟨a, w1, w2, w3⟩ := E.mu i k d hk q
    refine ⟨_, w1, ?_⟩
    cases d with
    | lst ds =>
      obtain ⟨ys, q5, q6⟩ := w3
      exact ⟨a, ys, rfl, .inr ⟨i, k, _, hk, q, w1⟩, q5, q6.mono (fun _ z => .inl z) kk⟩
    | _ => exact w3.elim
theorem ice_own {a : Addr} : ¬ Own σ (iceE env) a := fun ⟨i, k, d, hk, e, _⟩ => by
  unfold iceE at e
  rw [List.getElem?_map] at e
  cases q : env[i]? with
  | none => rw [q] at e; cases e
  | some o =>
    rw [q] at e
    cases o with
    | none => cases e
    | some p =>
      obtain ⟨k', d'⟩ := p
      cases e
      exact hk rfl
/-- nothing was changed -/
theorem StOk.same (S : StOk K FA F0 H0 IO F H σ env) (h : Same H H') : StOk K FA F0 H0 IO F H' σ env :=
  S.post ⟨fun _ z => z, fun _ z => .inl z, fun b o _ e => h b o e, S.ok.grow (fun _ z => z) (fun _ z => .inl z) (fin_same S.ok.fin h) h, rfl⟩
theorem Rep.flatF (hp : d.plain = true) (h : Rep K FA F' H' d v) : Rep K FA F H d v := by
  cases d <;> first | exact h | cases hp
/-- an expression in a statement -/
theorem tev_F {e : E} {is : List Nat} {r : Env × Fl × D} {Q : VK} (S : StOk K FA F0 H0 IO F H σ env) (h : evF C e is env = .ok r)
    (q : ∀ v F' H', StOk K FA F0 H0 IO F' H' σ r.1 → StLe F H F' H' → StV K FA H0 σ r.1 F' H' r.2.1 r.2.2 v → Q v H') : TEv K FA C e σ H Q := by
  have slow : bnd (AR.freeze is env) (ev C e) = .ok r → TEv K FA C e σ H Q := fun h => by
    obtain ⟨env0, h1, h2⟩ := bnd_ok h
    obtain ⟨F2, S2, L2⟩ := S.freeze h1
    exact ⟨F2, env0, r, S2.ok, h2, fun v F3 H3 P3 V3 => q v F3 H3 (S2.post P3) (L2.trans (P3.le S2.ok)) (S2.val P3 V3)⟩
  unfold evF at h
  split at h
  · obtain ⟨x, h1, h2⟩ := bnd_ok h
    split at h2
    · rename_i hp
      cases h2
      refine ⟨_, _, x, Post.ice S.ok, h1, fun v F3 H3 P3 V3 => ?_⟩
      have sm : Same H H3 := fun b o e => P3.keep b o ice_own e
      refine q v F H3 (S.same sm) ⟨fun _ z => z, .of_same sm⟩ ⟨?_, fun z => by cases z⟩
      have rv : Rep K FA F3 H3 x.2.2 v := by
        have := V3.pk0 (Post.ice S.ok) P3
        exact this.rep fun ds e => by rw [e] at hp; cases hp
      exact rv.flatF hp
    · exact slow h2
  · exact slow h
theorem ttv_T {e : E} {r : Env × Bool} {Q : Bool → Hp → Prop} (S : StOk K FA F0 H0 IO F H σ env) (h : evT C e env = .ok r)
    (q : ∀ F' H', StOk K FA F0 H0 IO F' H' σ r.1 → StLe F H F' H' → Q r.2 H') : TTv K FA C e σ H Q := by
  unfold evT at h
  split at h
  · obtain ⟨x, h1, h2⟩ := bnd_ok h
    obtain ⟨k, h3, h4⟩ := bnd_ok h2
    cases h4
    refine ⟨_, _, x, k, Post.ice S.ok, h1, h3, fun F3 H3 P3 => ?_⟩
    have sm : Same H H3 := fun b o e => P3.keep b o ice_own e
    exact q F H3 (S.same sm) ⟨fun _ z => z, .of_same sm⟩
  · obtain ⟨env0, h0, h⟩ := bnd_ok h
    obtain ⟨F2, S2, L2⟩ := S.freeze h0
    obtain ⟨x, h1, h2⟩ := bnd_ok h
    obtain ⟨k, h3, h4⟩ := bnd_ok h2
    cases h4
    exact ⟨F2, env0, x, k, S2.ok, h1, h3, fun F3 H3 P3 => q F3 H3 (S2.post P3) (L2.trans (P3.le S2.ok))⟩
/-- a value is stored -/
theorem StOk.put {i : Nat} (S : StOk K FA F0 H0 IO F H σ env) (h : StV K FA H0 σ env F H fl d v) (hf : fl.free = true) (hs : setV i (newSl fl d) d env = .ok env') : StOk K FA F0 H0 IO F H (σ.set i (some v)) env' := by
  have sgk : newSl fl d = .sh → Rep K FA F H d v := fun z => by
    cases fl with
    | sh => exact h.1
    | fr =>
      obtain ⟨⟨a, _, _, _, h4⟩, _⟩ := h
      cases d with
      | lst ds => cases z
      | _ => exact h4.elim
    | bo => cases hf
    | bi => cases hf
  have sgo : newSl fl d ≠ .sh → newSl fl d = .own ∧ ∃ a, v = .ref a ∧ H0 a = none ∧ ¬ F a ∧ RepM K FA F H d a ∧ ¬ Own σ env a := fun z => by
    cases fl with
    | sh => exact absurd rfl z
    | fr =>
      obtain ⟨⟨a, h1, h2, h3, h4⟩, na⟩ := h
      cases d with
      | lst ds => exact ⟨rfl, a, h1, h2, h3, h4, na rfl a h1⟩
      | _ => exact h4.elim
    | bo => cases hf
    | bi => cases hf
  have E' : EnvOk K FA F H (σ.set i (some v)) env' := S.ok.store hs (by
    by_cases z : newSl fl d = .sh
    · exact .inl ⟨z, sgk z⟩
    · obtain ⟨_, a, q1, _, q2⟩ := sgo z
      exact .inr ⟨z, a, q1, q2⟩)
  obtain ⟨he, hi, hio⟩ := setV_eq hs
  subst he
  have hi' : i < σ.length := by rw [← S.ok.len]; exact hi
  refine ⟨E', S.sub, S.new, S.keep, fun j d' a e1 e2 => ?_, fun j d' a e1 e2 => ?_, fun j a e => ?_⟩
  · rcases getElem?_set_cases e1 with ⟨z, q⟩ | ⟨z, q⟩
    · subst z
      have hk : newSl fl d = Sl.own := by
        have := congrArg (Option.map (·.1)) q
        exact (Option.some.inj this).symm
      obtain ⟨_, b, q1, q2, _⟩ := sgo (by rw [hk]; decide)
      rw [List.getElem?_set_self hi', q1] at e2
      cases e2
      exact q2
    · rw [List.getElem?_set_ne (Ne.symm z)] at e2
      exact S.own j d' a q e2
  · rcases getElem?_set_cases e1 with ⟨z, q⟩ | ⟨z, q⟩
    · exfalso
      have hk : newSl fl d = Sl.io := by
        have := congrArg (Option.map (·.1)) q
        exact (Option.some.inj this).symm
      have := (sgo (by rw [hk]; decide)).1
      rw [hk] at this
      cases this
    · rw [List.getElem?_set_ne (Ne.symm z)] at e2
      exact S.io j d' a q e2
  · obtain ⟨d', e1, e2⟩ := S.ios j a e
    have z : j ≠ i := fun z => hio d' (by rw [← z]; exact e1)
    exact ⟨d', by rw [List.getElem?_set_ne (Ne.symm z)]; exact e1, by rw [List.getElem?_set_ne (Ne.symm z)]; exact e2⟩
/-- what a target changes -/
def Chg (env env' : Env) (vs : List Nat) : Prop := ∀ i : Nat, (i ∉ vs ∧ env'[i]? = env[i]?) ∨ (i ∈ vs ∧ (∀ d, env[i]? ≠ some (some (Sl.io, d))) ∧ ∃ d, env'[i]? = some (some (Sl.sh, d)))
theorem chg_set {i : Nat} (h : setV i .sh d env = .ok env') : Chg env env' [i] := fun j => by
  obtain ⟨he, hi, hio⟩ := setV_eq h
  subst he
  by_cases z : j = i
  · subst z
    exact .inr ⟨List.mem_singleton.mpr rfl, hio, d, List.getElem?_set_self hi⟩
  · exact .inl ⟨fun y => z (List.mem_singleton.mp y), List.getElem?_set_ne (Ne.symm z)⟩
theorem Chg.trans {vs ws : List Nat} (a : Chg env env1 vs) (b : Chg env1 env2 ws) : Chg env env2 (vs ++ ws) := fun i => by
  rcases b i with ⟨b1, b2⟩ | ⟨b1, b2, b3⟩
  · rcases a i with ⟨a1, a2⟩ | ⟨a1, a2, a3⟩
    · exact .inl ⟨fun z => (List.mem_append.mp z).elim a1 b1, b2.trans a2⟩
    · exact .inr ⟨List.mem_append.mpr (.inl a1), a2, by rw [b2]; exact a3⟩
  · refine .inr ⟨List.mem_append.mpr (.inr b1), ?_, b3⟩
    rcases a i with ⟨a1, a2⟩ | ⟨a1, a2, a3⟩
    · intro d e; exact b2 d (by rw [a2]; exact e)
    · exact a2
mutual
theorem bindT_chg : ∀ (t : T) (d : D) (env env' : Env), bindT t d env = .ok env' → Chg env env' t.vars
  | .var i, d, env, env', h => by
    rw [bindT] at h
    rw [T.vars]
    exact chg_set h
  | .tup ts, d, env, env', h => by
    cases d with
    | tup ds => rw [bindT] at h; rw [T.vars]; exact bindTs_chg ts ds env env' h
    | _ => rw [bindT] at h; cases h; all_goals (intro a b; cases b)
theorem bindTs_chg : ∀ (ts : List T) (ds : List D) (env env' : Env), bindTs ts ds env = .ok env' → Chg env env' (varsL ts)
  | [], [], env, env', h => by
    rw [bindTs] at h
    cases h
    exact fun i => .inl ⟨by rw [varsL]; simp, rfl⟩
  | [], _ :: _, _, _, h => by rw [bindTs] at h <;> first | cases h | simp
  | _ :: _, [], _, _, h => by rw [bindTs] at h <;> first | cases h | simp
  | t :: ts, d :: ds, env, env', h => by
    rw [bindTs] at h
    obtain ⟨e1, h1, h2⟩ := bnd_ok h
    rw [varsL]
    exact (bindT_chg t d env e1 h1).trans (bindTs_chg ts ds e1 env' h2)
end
theorem StOk.bind {vs : List Nat} (S : StOk K FA F0 H0 IO F H σ env) (E : EnvOk K FA F H σ' env') (c : Chg env env' vs) (o : ∀ i : Nat, i ∉ vs → σ'[i]? = σ[i]?) : StOk K FA F0 H0 IO F H σ' env' := by
  refine ⟨E, S.sub, S.new, S.keep, fun i d a e1 e2 => ?_, fun i d a e1 e2 => ?_, fun i a e => ?_⟩
  · rcases c i with ⟨c1, c2⟩ | ⟨_, _, d', c3⟩
    · rw [c2] at e1; rw [o i c1] at e2; exact S.own i d a e1 e2
    · rw [c3] at e1; cases e1
  · rcases c i with ⟨c1, c2⟩ | ⟨_, _, d', c3⟩
    · rw [c2] at e1; rw [o i c1] at e2; exact S.io i d a e1 e2
    · rw [c3] at e1; cases e1
  · obtain ⟨d, e1, e2⟩ := S.ios i a e
    rcases c i with ⟨c1, c2⟩ | ⟨_, c2, _⟩
    · exact ⟨d, by rw [c2]; exact e1, by rw [o i c1]; exact e2⟩
    · exact absurd e1 (c2 d)
end
end AR

/-! Core17: every statement. -/
namespace AR
open PySem PySem.Spec PyProof.Rows L2

section
variable (K : PySem.W.Frag) (FA : Nat → Option Addr) (F0 : Addr → Prop) (H0 : Hp) (IO : Nat → Option Addr)
def FlK (D : Ends) (F : Addr → Prop) (H : Hp) : AR.Flow → Prop
  | .nx env' => ∀ F' H' σ', StOk K FA F0 H0 IO F' H' σ' env' → StLe F H F' H' → D.nx σ' H'
  | .rt env' fl d => ∀ F' H' σ' v, StOk K FA F0 H0 IO F' H' σ' env' → StLe F H F' H' → StV K FA H0 σ' env' F' H' fl d v → D.rt v H'
def TSv (g : AR.Env → R AR.Flow) : TS := fun D σ H => ∃ F env f, StOk K FA F0 H0 IO F H σ env ∧ g env = .ok f ∧ FlK K FA F0 H0 IO D F H f
end
section
variable {K : PySem.W.Frag} {FA : Nat → Option Addr} {C : CallF} {F0 F F1 F2 F' : Addr → Prop} {H0 H H1 H2 H' : Hp} {IO : Nat → Option Addr} {σ σ' : L2.St} {env env0 env1 env2 env' : AR.Env} {d : D} {v : V} {fl : Fl} {DD : Ends} {w : Nat}
theorem FlK.le {f : AR.Flow} (h : FlK K FA F0 H0 IO DD F H f) (l : StLe F H F1 H1) : FlK K FA F0 H0 IO DD F1 H1 f := by
  cases f with
  | nx e => exact fun F' H' σ' S L => h F' H' σ' S (l.trans L)
  | rt e fl d => exact fun F' H' σ' v S L V => h F' H' σ' v S (l.trans L) V
theorem _root_.L2.PS.imp {X : Cx} {s : Stmt} {t t' : TS} (h : PS X s t) (hi : ∀ D σ H, t' D σ H → t D σ H) : PS X s t' := ⟨fun pins s σ H D I hw => h.run pins s σ H D I (hi _ _ _ hw)⟩
theorem _root_.L2.PSs.imp {X : Cx} {s : List Stmt} {t t' : TS} (h : PSs X s t) (hi : ∀ D σ H, t' D σ H → t D σ H) : PSs X s t' := ⟨fun pins s σ H D I hw => h.run pins s σ H D I (hi _ _ _ hw)⟩
/-- name = e -/
theorem asg_te {i : Nat} {e : E} (h : TSv K FA F0 H0 IO (exec C w (.asg (.var i) e)) DD σ H) : TEv K FA C e σ H fun x H1 => gName i x σ H1 DD.nx := by
  obtain ⟨F, env, f, S, hx, k⟩ := h
  rw [exec] at hx
  obtain ⟨r, h1, h2⟩ := bnd_ok hx
  obtain ⟨h3, h4⟩ := guard_ok h2
  obtain ⟨env2, h5, h6⟩ := bnd_ok h4
  cases h6
  exact tev_F S h1 fun v F1 H1 S1 L1 V1 => k F1 H1 _ (S1.put V1 h3 h5) L1
end

section
variable {X : Cx} {FA : Nat → Option Addr} {C : CallF} {F0 : Addr → Prop} {H0 : Hp} {IO : Nat → Option Addr} {c : CC} {nm : NM} {w : Nat}
theorem sw_no {e : Expr} (h : isComp e = false) (t : Option Expr) (l : Nat) (env : PySem.Env) : swapsWith e t l env = pure false := by
  cases e <;> first | rfl | cases h
theorem swap_no {tg e : Expr} (h : ∀ vs k p, e ≠ .Tuple vs k p) (env : PySem.Env) : swappedStores [tg] e env = pure none := by
  cases e <;> first | (cases tg <;> rfl) | exact absurd rfl (h _ _ _)
theorem swap_no2 {o k e : Expr} {p : Pos} (env : PySem.Env) : swappedStores [.Subscript o k p] e env = pure none := by
  cases e <;> rfl
/-- name = e -/
theorem ps_nameE (O : XOk X FA C c nm) (ho : Outs C) {n : Nat} {x : PySem.Str} {px pos : Pos} {i : Nat} {e : Expr} {e' : E} (hl : locl nm x = true) (hi : slotOf c.N x = some i) (he : compE n c nm e = some e') :
    PS X (.Assign [.Name x px] e pos) (TSv X.K FA F0 H0 IO (exec C w (.asg (.var i) e'))) := by
  have hN : X.N.Nodup := by rw [O.N]; exact O.nd
  have plain : ∀ (_ : swapsWith e (some (.Name x px)) pos.line X.env = pure false), PS X (.Assign [.Name x px] e pos) (TSv X.K FA F0 H0 IO (exec C w (.asg (.var i) e'))) := fun hs =>
    (ps_set hN (O.at hi) (O.loc hl) (compE_ok ho n O e e' he).1 hs (O.st x hl)).imp fun D σ H h => asg_te h
  by_cases hc : isComp e = false
  · exact plain (sw_no hc _ _ _)
  cases n with
  | zero => rw [compE] at he; cases he
  | succ n =>
    have ihE := fun e e' h => (compE_ok ho n O e e' h).1
    have he0 := he
    unfold compE at he
    split at he <;> first | exact absurd rfl hc | skip
    · rename_i elt gens scope cpos
      split at he
      · rename_i tg iter ifs
        obtain ⟨own, h1, h⟩ := Option.bind_eq_some_iff.mp he
        split at h
        · rename_i hb
          obtain ⟨it, h2, h⟩ := Option.bind_eq_some_iff.mp h
          obtain ⟨t, h3, h⟩ := Option.bind_eq_some_iff.mp h
          obtain ⟨is, h4, h⟩ := Option.bind_eq_some_iff.mp h
          obtain ⟨el, h5, h⟩ := Option.bind_eq_some_iff.mp h
          split at h
          · rename_i hv
            cases h
            have hv : ∀ i ∈ t.vars, i ∈ own.map (·.2) := fun i hi => by simpa using List.all_eq_true.mp hv i hi
            have bO := fun (s : Shared) (H : Hp) (A : Addr) (cl : List (PySem.Str × Addr)) (fp : List Addr) => O.blk (s := s) (H := H) (scope := scope) (cl := cl) (A := A) (fp := fp)
            refine ⟨fun pins s σ H D I hw => ?_⟩
            have sw : swapsWith (.ListComp elt [⟨tg, iter, ifs, 0⟩] scope cpos) (some (.Name x px)) pos.line X.env = pure (X.env.blockKind == .function && X.env.kindOf x == some .local && px.line == cpos.line && !(scope.names.any fun (n, k) => n == x && (k == .local || k == .cell))) := rfl
            cases hq : (X.env.blockKind == .function && X.env.kindOf x == some .local && px.line == cpos.line && !(scope.names.any fun (n, k) => n == x && (k == .local || k == .cell))) with
            | false =>
              rw [hq] at sw
              exact (plain sw).run pins s σ H D I hw
            | true =>
              rw [hq] at sw
              have hloc : X.env.scope.names.lookup x = some .local := by
                obtain ⟨z, _⟩ := and2 hq
                obtain ⟨z, _⟩ := and2 z
                obtain ⟨_, z⟩ := and2 z
                have z : X.env.kindOf x = some .local := by simpa using z
                exact z
              exact ((ps_setLc O.calm hN (O.at hi) hloc sw (pi_I O ihE _ h2) (blk_ok O hb) (fun s H A cl fp => pg_T (bO s H A cl fp) 4 tg t h3) (fun s H A cl fp => pts_E (fun e e' h => (compE_ok ho n (bO s H A cl fp) e e' h).2) ifs is h4)
                (fun s H A cl fp => (compE_ok ho n (bO s H A cl fp) elt el h5).1) (isSet_folded (compI_set h2) _)).imp fun D σ H h => tlc_ok hv (asg_te h)).run pins s σ H D I hw
          · cases h
        · cases h
      · cases he
    · cases he
theorem ps_tupE (O : XOk X FA C c nm) {n : Nat} {ts : List Expr} {kk : Nat} {tp pos : Pos} {t : T} {e : Expr} {e' : E} (ht : compT c nm 4 (.Tuple ts kk tp) = some t) (hc : isComp e = false) (hne : ∀ vs k p, e ≠ .Tuple vs k p) (he : PE X e (TEv X.K FA C e')) :
    PS X (.Assign [.Tuple ts kk tp] e pos) (TSv X.K FA F0 H0 IO (exec C w (.asg t e'))) := by
  have htt : ∃ us, t = .tup us := by
    rw [compT] at ht
    obtain ⟨us, _, e⟩ := Option.map_eq_some_iff.mp ht
    exact ⟨us, e.symm⟩
  obtain ⟨us, htt⟩ := htt
  refine (ps_asg he (pg_T O 4 _ t ht) (hs := (show swapsWith e (some (.Tuple ts kk tp)) pos.line X.env = pure false from sw_no hc _ _ _)) (hw := swap_no hne _) (h1 := by rw [assign_each rfl]; rfl)).imp fun D σ H ⟨F, env, f, S, hx, k⟩ => ?_
  subst htt
  rw [exec] at hx
  · obtain ⟨r, h1, h2⟩ := bnd_ok hx
    obtain ⟨h3, h4⟩ := guard_ok h2
    obtain ⟨env2, h5, h6⟩ := bnd_ok h4
    cases h6
    refine tev_F S h1 fun v F1 H1 S1 L1 V1 => ?_
    obtain ⟨F2, S2, L2, R2⟩ := S1.give V1 h3
    exact ⟨F2, r.1, r.2.2, env2, S2.ok, R2, h5, fun σ' E' o' => k F2 H1 σ' (S2.bind E' (bindT_chg _ _ _ _ h5) o') (L1.trans L2)⟩
  · intro i z; cases z
theorem swap_two {x y : PySem.Str} {px py tp p2 : Pos} {kk k2 : Nat} {a b : Expr} (hk : X.env.scope.kind = .function) (hx : X.env.scope.names.lookup x = some .local) (hy : X.env.scope.names.lookup y = some .local) (hl : (px.line == py.line) = true) (hne : x ≠ y)
    (s1 : isStar a = false) (s2 : isStar b = false) (hf : [a, b].all (foldedForSure 8) = false) (hc : [a, b].all (constantsAlone 8) = false) : swappedStores [.Tuple [.Name x px, .Name y py] kk tp] (.Tuple [a, b] k2 p2) X.env = pure (some [x, y]) := by
  have kx : X.env.kindOf x = some .local := hx
  have ky : X.env.kindOf y = some .local := hy
  have hb : X.env.blockKind = .function := by unfold Env.blockKind; rw [hk]; rfl
  have hll : py.line = px.line := by have := beq_iff_eq.mp hl; exact this.symm
  have hed : [x, y].eraseDups = [x, y] := by
    have q : (y == x) = false := beq_eq_false_iff_ne.mpr (Ne.symm hne)
    simp [List.eraseDups_cons, q]
  unfold swappedStores
  simp [hb, kx, ky, hll, hf, hc, hed, Expr.pos]
  intro h
  exfalso
  rcases h with h | h
  · cases a <;> first | (cases h; done) | (cases s1; done)
  · cases b <;> first | (cases h; done) | (cases s2; done)
/-- the new lists among the values -/
def frV : List (Fl × D) → List V → List V
  | (fl, _) :: rs, v :: vs => if fl = .fr then v :: frV rs vs else frV rs vs
  | _, _ => []
def ParOk (K : PySem.W.Frag) (FA : Nat → Option Addr) (H0 : Hp) (F : Addr → Prop) (H : Hp) : List (Fl × D) → List V → Prop
  | [], vs => vs = []
  | (fl, d) :: rs, vs => ∃ v r, vs = v :: r ∧ ((fl = .sh ∧ Rep K FA F H d v) ∨ (fl = .fr ∧ (∃ a, v = .ref a ∧ H0 a = none ∧ ¬ F a ∧ RepM K FA F H d a) ∧ v ∉ frV rs r)) ∧ ParOk K FA H0 F H rs r
def TVf (K : PySem.W.Frag) (FA : Nat → Option Addr) (C : CallF) (es : Es) : TA := fun σ H Q => ∃ F env r, EnvOk K FA F H σ env ∧ evPar C es env = .ok r ∧ ∀ vs F' H', Post K FA F H σ env F' H' r.1 → ParOk K FA H F' H' r.2 vs → Q vs H'
theorem ParOk.start {K : PySem.W.Frag} {H1 H2 : Hp} {F : Addr → Prop} (hd : ∀ a, H1 a = none → H0 a = none) : ∀ {rs : List (Fl × D)} {vs : List V}, ParOk K FA H1 F H2 rs vs → ParOk K FA H0 F H2 rs vs
  | [], vs, h => h
  | (fl, d) :: rs, vs, ⟨v, r, e, h, t⟩ => ⟨v, r, e, h.imp id fun ⟨h1, ⟨a, h2, h3, h4⟩, h5⟩ => ⟨h1, ⟨a, h2, hd a h3, h4⟩, h5⟩, ParOk.start hd t⟩
theorem ParOk.new {K : PySem.W.Frag} {H1 H2 : Hp} {F : Addr → Prop} : ∀ {rs : List (Fl × D)} {vs : List V} {v : V}, ParOk K FA H1 F H2 rs vs → v ∈ frV rs vs → ∃ a, v = .ref a ∧ H1 a = none
  | [], vs, v, h, m => by cases h; cases m
  | (fl, d) :: rs, vs, v, ⟨w, r, e, h, t⟩, m => by
    subst e
    rw [frV] at m
    split at m
    · rename_i hf
      rcases List.mem_cons.mp m with m | m
      · subst m
        rcases h with ⟨h, _⟩ | ⟨_, ⟨a, h1, h2, _⟩, _⟩
        · rw [h] at hf; cases hf
        · exact ⟨a, h1, h2⟩
      · exact ParOk.new t m
    · exact ParOk.new t m
theorem pa_parE {f : Expr → Option E} (hf : ∀ e e', f e = some e' → PE X e (TEv X.K FA C e')) : ∀ (es : List Expr) (es' : Es), compEs f es = some es' → PA X es (TVf X.K FA C es')
  | [], es', h => by
    cases h
    refine pa_nil.imp fun σ H Q ⟨F, env, r, E, he, q⟩ => ?_
    rw [evPar] at he
    cases he
    exact q [] F H (.refl E) rfl
  | e :: es, es', h => by
    have hst := compEs_star h e List.mem_cons_self
    rw [compEs] at h
    split at h
    · cases h
    · obtain ⟨a, h1, h2⟩ := Option.bind_eq_some_iff.mp h
      obtain ⟨b, h3, h4⟩ := Option.bind_eq_some_iff.mp h2
      cases h4
      refine (pa_cons (hf e a h1) (pa_parE hf es b h3) (star_cons hst)).imp fun σ H Q ⟨F, env, r, E, he, q⟩ => ?_
      rw [evPar] at he
      obtain ⟨x, e1, e2⟩ := bnd_ok he
      obtain ⟨e3, e4⟩ := guard_ok e2
      obtain ⟨y, e5, e6⟩ := bnd_ok e4
      cases e6
      refine ⟨F, env, x, E, e1, fun v F1 H1 P1 V1 => ⟨F1, x.1, y, P1.ok, e5, fun vs F2 H2 P2 R2 => ?_⟩⟩
      refine q _ F2 H2 (P1.trans E P2) ⟨v, vs, rfl, ?_, R2.start fun a z => P1.dom E z⟩
      cases hx : x.2.1 with
      | sh =>
        rw [hx] at V1
        exact .inl ⟨rfl, Rep.mono P2.sub (P2.toKeep P1.ok) _ _ V1⟩
      | fr =>
        rw [hx] at V1
        obtain ⟨a, rfl, v2, v3, v4⟩ := V1
        obtain ⟨xs, v5⟩ := v4.there
        have na : ¬ Own σ x.1 a := fun z => by
          obtain ⟨_, ys, e2⟩ := E.own (z.kin P1.kin)
          rw [v2] at e2; cases e2
        refine .inr ⟨rfl, ⟨a, rfl, v2, fun z => ?_, v4.mono P2.sub (P2.toKeep P1.ok) fun o e => P2.keep a o na e⟩, fun m => ?_⟩
        · rcases P2.new a z with z | z
          · exact v3 z
          · rw [v5] at z; cases z
        · obtain ⟨b, e1, e2⟩ := R2.new m
          cases e1
          rw [v5] at e2; cases e2
      | bo => rw [hx] at e3; cases e3
      | bi => rw [hx] at e3; cases e3
theorem storePar2 {K : PySem.W.Frag} {F : Addr → Prop} {H1 H : Hp} {σ : L2.St} {env0 env env' : AR.Env} {F1 : Addr → Prop} {i j : Nat} {r1 r2 : Fl × D} {v1 v2 : V} (S0 : StOk K FA F0 H0 IO F1 H1 σ env0) (P : Post K FA F1 H1 σ env0 F H env) (h : storePar [i, j] [r1, r2] env = .ok env') (r : ParOk K FA H1 F H [r1, r2] [v1, v2]) :
    StOk K FA F0 H0 IO F H ((σ.set j (some v2)).set i (some v1)) env' := by
  have S := S0.post P
  rw [storePar, storePar, storePar] at h
  obtain ⟨e1, h1, h2⟩ := bnd_ok h
  obtain ⟨e2, h3, h4⟩ := bnd_ok h1
  cases h3
  obtain ⟨_, _, q1, q2, _, _, q3, q4, q5⟩ := r
  cases q1
  cases q3
  have na : ∀ a, H1 a = none → ¬ Own σ env a := fun a ha z => by
    obtain ⟨_, ys, e2⟩ := S0.ok.own (z.kin P.kin)
    rw [ha] at e2; cases e2
  have V2 : StV K FA H0 σ env F H r2.1 r2.2 v2 ∧ r2.1.free = true := by
    rcases q4 with ⟨z, q4⟩ | ⟨z, ⟨a, z1, z2, z3⟩, _⟩
    · have : r2.1 = .sh := z
      rw [this]; exact ⟨⟨q4, fun z => by cases z⟩, rfl⟩
    · have : r2.1 = .fr := z
      rw [this]; exact ⟨⟨⟨a, z1, S0.dom z2, z3⟩, fun _ b e => by rw [z1] at e; cases e; exact na a z2⟩, rfl⟩
  have S1 := S.put V2.1 V2.2 h4
  have V1 : StV K FA H0 (σ.set j (some v2)) e1 F H r1.1 r1.2 v1 ∧ r1.1.free = true := by
    rcases q2 with ⟨z, q4⟩ | ⟨z, ⟨a, z1, z2, z3⟩, z4⟩
    · have : r1.1 = .sh := z
      rw [this]; exact ⟨⟨q4, fun z => by cases z⟩, rfl⟩
    · have : r1.1 = .fr := z
      rw [this]
      refine ⟨⟨⟨a, z1, S0.dom z2, z3⟩, fun _ b e => ?_⟩, rfl⟩
      rw [z1] at e
      cases e
      obtain ⟨he, hj, _⟩ := setV_eq h4
      subst he
      rintro ⟨l, k, d, hk, w1, w2⟩
      rcases getElem?_set_cases w1 with ⟨y1, y2⟩ | ⟨y1, y2⟩
      · subst y1
        rw [List.getElem?_set_self (by rw [← S.ok.len]; exact hj)] at w2
        have hfr : r2.1 = .fr := by
          have y2 : newSl r2.1 r2.2 = k := by cases y2; rfl
          rcases q4 with ⟨z, _⟩ | ⟨z, _⟩
          · have z : r2.1 = .sh := z
            rw [z] at y2; exact absurd y2.symm hk
          · exact z
        refine z4 ?_
        show v1 ∈ (if r2.1 = .fr then v2 :: frV [] [] else frV [] [])
        rw [if_pos hfr]
        cases w2
        rw [z1]
        exact List.mem_cons_self
      · rw [List.getElem?_set_ne (Ne.symm y1)] at w2
        exact na a z2 ⟨l, k, d, hk, y2, w2⟩
  exact S1.put V1.1 V1.2 h2
theorem ps_parE (O : XOk X FA C c nm) {x y : PySem.Str} {px py tp p2 pos : Pos} {kk k2 : Nat} {a b : Expr} {a' b' : E} {i j : Nat} (hx : loc1 nm x = true) (hy : loc1 nm y = true) (hl : (px.line == py.line) = true) (hne : x ≠ y)
    (s1 : isStar a = false) (s2 : isStar b = false) (hf : [a, b].all (foldedForSure 8) = false) (hc : [a, b].all (constantsAlone 8) = false) (hi : slotOf c.N x = some i) (hj : slotOf c.N y = some j) (pa : PA X [a, b] (TVf X.K FA C (.cons a' (.cons b' .nil)))) :
    PS X (.Assign [.Tuple [.Name x px, .Name y py] kk tp] (.Tuple [a, b] k2 p2) pos) (TSv X.K FA F0 H0 IO (exec C w (.par [i, j] (.cons a' (.cons b' .nil))))) := by
  have lx : ∀ {x}, loc1 nm x = true → X.env.scope.names.lookup x = some .local := fun {x} h => by
    unfold loc1 at h
    split at h
    · rename_i e
      rcases O.sc _ _ e with q | ⟨q, _⟩
      · exact q
      · cases q
    · cases h
  have hij : i ≠ j := fun z => by
    have h1 := slotOf_get hi
    rw [z, slotOf_get hj] at h1
    exact hne (Option.some.inj h1).symm
  refine ⟨fun pins s σ H D I hw => (((ps_par O.calm (by rw [O.N]; exact O.nd) (O.at hi) (O.at hj) hij (lx hx) (lx hy) pa (swap_two I.ok.kind (lx hx) (lx hy) hl hne s1 s2 hf hc) (hs := (show swapsWith (.Tuple [a, b] k2 p2) (some (.Tuple [.Name x px, .Name y py] kk tp)) pos.line X.env = pure false from sw_no rfl _ _ _))).imp fun D σ H h => ?_).run pins s σ H D I hw)⟩
  obtain ⟨F, env, f, S, hx, k⟩ := h
  rw [exec] at hx
  obtain ⟨env0, h1, h2⟩ := bnd_ok hx
  obtain ⟨r, h3, h4⟩ := bnd_ok h2
  obtain ⟨env2, h5, h6⟩ := bnd_ok h4
  cases h6
  obtain ⟨F1, S1, L1⟩ := S.freeze h1
  refine ⟨F1, env0, r, S1.ok, h3, fun vs F2 H2 P2 R2 => ?_⟩
  have L2 := P2.le S1.ok
  have hd : ∃ d1 d2, r.2 = [d1, d2] := by
    rw [evPar] at h3
    obtain ⟨x1, _, q1⟩ := bnd_ok h3
    obtain ⟨_, q2⟩ := guard_ok q1
    obtain ⟨y1, q3, q4⟩ := bnd_ok q2
    rw [evPar] at q3
    obtain ⟨x2, _, q5⟩ := bnd_ok q3
    obtain ⟨_, q6⟩ := guard_ok q5
    obtain ⟨y2, q7, q8⟩ := bnd_ok q6
    rw [evPar] at q7
    cases q7
    cases q8
    cases q4
    exact ⟨_, _, rfl⟩
  obtain ⟨d1, d2, hd⟩ := hd
  rw [hd] at R2 h5
  have R2' := R2
  obtain ⟨v1, _, e1, _, v2, _, e2, _, e3⟩ := R2
  subst e3 e2 e1
  refine ⟨v1, v2, rfl, ?_⟩
  have := storePar2 S1 P2 h5 R2'
  rw [List.set_comm _ _ (Ne.symm hij)] at this
  exact k F2 H2 _ this (L1.trans L2)
end
end AR

/-! Core18: every statement. -/
namespace AR
open PySem PySem.Spec PyProof.Rows L2

section
variable {X : Cx} {FA : Nat → Option Addr} {C : CallF} {F0 : Addr → Prop} {H0 : Hp} {IO : Nat → Option Addr} {c : CC} {nm : NM} {w : Nat}
theorem ps_setkE (O : XOk X FA C c nm) {x : PySem.Str} {px sp pos : Pos} {i : Nat} {k e : Expr} {k' e' : E} (hn : okName x = true) (hv : vis nm x = true) (hi : slotOf c.N x = some i) (hs : isSlice k = false) (hc : isComp e = false) (hk : PE X k (TEv X.K FA C k')) (he : PE X e (TEv X.K FA C e')) :
    PS X (.Assign [.Subscript (.Name x px) k sp] e pos) (TSv X.K FA F0 H0 IO (exec C w (.setk i k' e'))) := by
  obtain ⟨n1, n2, n3⟩ := okName_of hn
  have pg : PG X (.Subscript (.Name x px) k sp) (gSub (tVar i) (TEv X.K FA C k') rSetL) := pg_sub (pe_var (O.at hi) (O.vis hv) n1 n2) hk set_list (by
    intro v
    cases k <;> first | rfl | cases hs)
  refine (ps_asg he pg (hs := (show swapsWith e (some (.Subscript (.Name x px) k sp)) pos.line X.env = pure false from sw_no hc _ _ _)) (hw := swap_no2 _) (h1 := by rw [assign_each rfl]; rfl)).imp fun D σ H ⟨F, env, f, S, hx, kk⟩ => ?_
  rw [exec] at hx
  obtain ⟨h0, hx⟩ := guard_ok hx
  obtain ⟨r, h1, h2⟩ := bnd_ok hx
  obtain ⟨h3, h4⟩ := guard_ok h2
  obtain ⟨q, h5, h6⟩ := bnd_ok h4
  obtain ⟨h7, h8⟩ := guard_ok h6
  obtain ⟨k0, d0, hk0, he0⟩ := isMut_ok h0
  obtain ⟨a, m1, m2, m3⟩ := S.ok.mu i k0 d0 hk0 he0
  refine tev_F S h1 fun v F1 H1 S1 L1 V1 => ?_
  obtain ⟨F2, S2, L2, R2⟩ := S1.give V1 h3
  refine ⟨V.ref a, m1, tev_F S2 h5 fun y F3 H3 S3 L3 V3 => ?_⟩
  split at h8
  · rename_i s ds hq
    split at h8
    · rename_i j hj
      obtain ⟨h9, h10⟩ := guard_ok h8
      split at h10
      · rename_i n hn
        cases h10
        have hs' : s ≠ Sl.sh := by simpa using h9
        obtain ⟨a', w1, w2, w3⟩ := S3.ok.mu i s _ hs' hq
        rw [m1] at w1
        cases w1
        obtain ⟨xs, w4, w5⟩ := w3
        have hy : y = .int j := by
          have hh := V3.1
          rw [hj] at hh
          cases z : q.2.1 with
          | sh => rw [z] at hh; exact hh
          | fr => rw [z] at hh; obtain ⟨_, _, _, _, z⟩ := hh; exact z.elim
          | bo => rw [z] at h7; cases h7
          | bi => rw [z] at h7; cases h7
        refine ⟨a, xs, j, n, rfl, hy, w4, by rw [← w5.len]; exact hn, ?_⟩
        have rv := R2.mono L3.sub L3.keep
        have P := S3.ok.write (es := ds.set n r.2.2) (ys := xs.set n v) hs' hq m1 (w5.set rv n)
        exact kk F3 _ σ (S3.post P) (L1.trans (L2.trans (L3.trans (P.le S3.ok))))
      · cases h10
    · cases h8
  · rename_i s kvs hq
    obtain ⟨h9, _⟩ := guard_ok h8
    obtain ⟨h9, _⟩ := and2 h9
    obtain ⟨h9, _⟩ := and2 h9
    have hs' : s ≠ Sl.sh := by simpa using h9
    obtain ⟨_, _, _, w3⟩ := S3.ok.mu i s _ hs' hq
    exact w3.elim
  · cases h8
theorem ps_appE (O : XOk X FA C c nm) {x m : PySem.Str} {px ap cp pos : Pos} {i : Nat} {e : Expr} {e' : E} (hm : m = "append") (hn : okName x = true) (hv : vis nm x = true) (hs : isStar e = false) (hl : (ap.endLine == cp.line) = true) (hi : slotOf c.N x = some i) (he : PE X e (TEv X.K FA C e')) :
    PS X (.Expr (.Call (.Attribute (.Name x px) m ap) [e] [] cp) pos) (TSv X.K FA F0 H0 IO (exec C w (.app i e'))) := by
  obtain ⟨n1, n2, n3⟩ := okName_of hn
  subst hm
  refine (ps_expr (pe_bm PySem.F.plainAttrs_list PySem.F.slot_list_append PySem.F.type_list_append mt_append (pe_var (O.at hi) (O.vis hv) n1 n2) (pa_cons he pa_nil (star_cons hs)) (hbase := rfl) (hfew := by rw [star_cons hs]; rfl) (hline := hl) (hs := star_cons hs) (hplain := rfl))).imp fun D σ H ⟨F, env, f, S, hx, kk⟩ => ?_
  rw [exec] at hx
  obtain ⟨h0, hx⟩ := guard_ok hx
  obtain ⟨r, h1, h2⟩ := bnd_ok hx
  obtain ⟨h3, h4⟩ := guard_ok h2
  obtain ⟨k0, d0, hk0, he0⟩ := isMut_ok h0
  obtain ⟨a, m1, m2, m3⟩ := S.ok.mu i k0 d0 hk0 he0
  obtain ⟨xs0, m4⟩ := m3.there
  refine ⟨V.ref a, m1, .inl ⟨rfl, xs0, SqL.of m4⟩, ?_⟩
  split at h4
  · rename_i s ds hq
    obtain ⟨h5, h6⟩ := guard_ok h4
    cases h6
    obtain ⟨h7, h8⟩ := and2 h5
    have hs' : s ≠ Sl.sh := by simpa using h7
    have h8 : ds.length < sizeLine := of_decide_eq_true h8
    refine tev_F S h1 fun v F1 H1 S1 L1 V1 => ?_
    obtain ⟨F2, S2, L2, R2⟩ := S1.give V1 h3
    obtain ⟨a', w1, w2, w3⟩ := S2.ok.mu i s _ hs' hq
    rw [m1] at w1
    cases w1
    obtain ⟨xs, w4, w5⟩ := w3
    refine ⟨a, xs, v, rfl, rfl, w4, by rw [← w5.len]; exact h8, ?_⟩
    have P := S2.ok.write (es := ds ++ [r.2.2]) (ys := xs ++ [v]) hs' hq m1 (w5.app (.cons R2 .nil))
    exact kk F2 _ σ (S2.post P) (L1.trans (L2.trans (P.le S2.ok)))
  · cases h4
theorem ps_augE (O : XOk X FA C c nm) {x : PySem.Str} {px pos : Pos} {i : Nat} {e : Expr} {e' : E} (hl : locl nm x = true) (hi : slotOf c.N x = some i) (he : PE X e (TEv X.K FA C e')) :
    PS X (.AugAssign (.Name x px) .Add e pos) (TSv X.K FA F0 H0 IO (exec C w (.aug i .add e'))) := by
  refine (ps_aug (by rw [O.N]; exact O.nd) (O.at hi) (O.loc hl) he ip_add (O.st x hl)).imp fun D σ H ⟨F, env, f, S, hx, kk⟩ => ?_
  rw [exec] at hx
  split at hx
  · rename_i a ha
    obtain ⟨r, h1, h2⟩ := bnd_ok hx
    split at h2
    · rename_i b hb
      obtain ⟨q, h3, h4⟩ := bnd_ok h2
      obtain ⟨env2, h5, h6⟩ := bnd_ok h4
      cases h6
      cases h3
      obtain ⟨v0, s1, s2⟩ := S.ok.sh i _ ha
      have s2 : v0 = .int a := s2
      subst s2
      refine ⟨_, s1, tev_F S h1 fun v F1 H1 S1 L1 V1 => ⟨a, b, rfl, ?_, ?_⟩⟩
      · have hh := V1.1
        rw [hb] at hh
        cases z : r.2.1 with
        | sh => rw [z] at hh; exact hh
        | fr => rw [z] at hh; obtain ⟨_, _, _, _, z⟩ := hh; exact z.elim
        | bo =>
          rw [z] at hh
          obtain ⟨j, e1, e2⟩ := hh
          obtain ⟨_, _, _, z⟩ := S1.ok.mu j _ _ (by decide) e1
          exact z.elim
        | bi =>
          rw [z] at hh
          obtain ⟨j, e1, e2⟩ := hh
          obtain ⟨_, _, _, z⟩ := S1.ok.mu j _ _ (by decide) e1
          exact z.elim
      · exact kk F1 H1 _ (S1.put (fl := .sh) (d := .int (a + b)) (v := V.int (a + b)) ⟨rfl, fun z => by cases z⟩ rfl h5) L1
    · cases h2
  · cases hx
theorem ps_forE' (O : XOk X FA C c nm) (hp : PassesOwn (model X.prog X.w) X.A X.env X.xe) {tg iter : Expr} {body : List Stmt} {pos : Pos} {t : T} {it : It} {b : Ss} (hi : ∀ bb, PI X tg iter (TIv X.K FA C it bb)) (hset : isSet iter = false) (ht : compT c nm 4 tg = some t)
    (hb : PSs X body (TSv X.K FA F0 H0 IO (execs C w b))) : PS X (.For tg iter body [] pos) (TSv X.K FA F0 H0 IO (exec C w (.forS t it b))) := by
  refine (ps_for hp O.calm (hi false) (pg_T O 4 tg t ht) hb (isSet_folded hset _)).imp fun D σ H ⟨F, env, f, S, hx, kk⟩ => ?_
  rw [exec] at hx
  obtain ⟨env0, h1, h2⟩ := bnd_ok hx
  obtain ⟨r, h3, h4⟩ := bnd_ok h2
  obtain ⟨F1, S1, L1⟩ := S.freeze h1
  refine ⟨F1, env0, r, S1.ok, h3, fun J srcs F2 H2 P2 hsrc hserve => ?_⟩
  have S2 := S1.post P2
  have L2 := L1.trans (P2.le S1.ok)
  have src2 : ∀ s ∈ srcs, Rep X.K FA F2 H2 s.1 s.2 := fun s hs => by
    rcases hsrc s hs with z | ⟨z, _⟩
    · exact z
    · cases z
  generalize hg : (fun (env1 : AR.Env) (d : AR.D) => bnd (bindT t d env1) fun env2 => execs C w b env2) = g at h4
  refine ⟨fun i m σ' H' => m = r.2.length - i ∧ ∃ F' env', StOk X.K FA F0 H0 IO F' H' σ' env' ∧ (∀ s ∈ srcs, Rep X.K FA F' H' s.1 s.2) ∧ forL g (r.2.drop i) env' = .ok f ∧ FlK X.K FA F0 H0 IO D F' H' f,
    ⟨_, rfl, F2, r.1, S2, src2, h4, kk.le L2⟩, ?_⟩
  rintro i m σ3 H3 ⟨rfl, F3, env3, S3, src3, c3, k3⟩
  have sv := hserve i F3 H3 S3.ok.fin fun s hs => .inl (src3 s hs)
  rcases Nat.lt_or_ge i r.2.length with hlt | hge
  · have hd : r.2[i]? = some r.2[i] := List.getElem?_eq_getElem hlt
    obtain ⟨go, yl⟩ := sv.1 _ hd
    rw [drop_cons hd, forL] at c3
    obtain ⟨fl, c4, c5⟩ := bnd_ok c3
    rw [← hg] at c4
    obtain ⟨env5, b1, b2⟩ := bnd_ok c4
    refine .inr ⟨go, fun σ' H' => ∃ F' env', StOk X.K FA F0 H0 IO F' H' σ' env' ∧ (∀ s ∈ srcs, Rep X.K FA F' H' s.1 s.2) ∧ forL g (r.2.drop (i + 1)) env' = .ok f ∧ FlK X.K FA F0 H0 IO D F' H' f,
      fun σ' H' nx => ⟨_, Nat.sub_succ_lt_self _ _ hlt, rfl, nx⟩, fun y H4 hy => ?_⟩
    obtain ⟨F4, R4⟩ := yl y H4 hy
    have P4 := R4.post S3.ok
    have S4 := S3.post P4
    have L4 := P4.le S3.ok
    have rv : Rep X.K FA F4 H4 r.2[i] y := R4.valOk (σ := σ3) (env := env3)
    refine ⟨F4, env3, r.2[i], env5, S4.ok, rv, b1, fun σ5 E5 o5 => ?_⟩
    have S5 := S4.bind E5 (bindT_chg _ _ _ _ b1) o5
    refine ⟨F4, env5, fl, S5, b2, ?_⟩
    cases fl with
    | nx env6 => exact fun F6 H6 σ6 S6 L6 => ⟨F6, env6, S6, fun s hs => ((src3 s hs).mono L4.sub L4.keep).mono L6.sub L6.keep, c5, k3.le (L4.trans L6)⟩
    | rt env6 fl d =>
      cases c5
      exact fun F6 H6 σ6 v S6 L6 V6 => k3 F6 H6 σ6 v S6 (L4.trans L6) V6
  · refine .inl ⟨sv.2 hge, ?_⟩
    rw [List.drop_eq_nil_of_le hge] at c3
    cases c3
    exact k3 F3 H3 σ3 S3 .refl
theorem ps_whlE (hp : PassesOwn (model X.prog X.w) X.A X.env X.xe) {e : Expr} {e' : E} {body : List Stmt} {b : Ss} {pos : Pos} (he : PT X e (TTv X.K FA C e')) (hb : PSs X body (TSv X.K FA F0 H0 IO (execs C w b))) :
    PS X (.While e body [] pos) (TSv X.K FA F0 H0 IO (exec C w (.whl e' b))) := by
  refine (ps_while hp he hb).imp fun D σ H ⟨F, env, f, S, hx, kk⟩ => ?_
  rw [exec] at hx
  refine ⟨fun m σ' H' => ∃ F' env', StOk X.K FA F0 H0 IO F' H' σ' env' ∧ whlL (evT C e') (execs C w b) m env' = .ok f ∧ FlK X.K FA F0 H0 IO D F' H' f, ⟨w, F, env, S, hx, kk⟩, ?_⟩
  rintro m σ3 H3 ⟨F3, env3, S3, c3, k3⟩
  cases m with
  | zero => cases c3
  | succ m =>
    rw [whlL] at c3
    obtain ⟨t, h1, h2⟩ := bnd_ok c3
    refine ttv_T S3 h1 fun F4 H4 S4 L4 => ?_
    cases ht : t.2 with
    | true =>
      rw [if_pos rfl]
      rw [ht, if_pos rfl] at h2
      obtain ⟨fl, h3, h4⟩ := bnd_ok h2
      refine ⟨fun σ' H' => ∃ F' env', StOk X.K FA F0 H0 IO F' H' σ' env' ∧ whlL (evT C e') (execs C w b) m env' = .ok f ∧ FlK X.K FA F0 H0 IO D F' H' f, fun σ' H' nx => ⟨m, Nat.lt_succ_self m, nx⟩, F4, t.1, fl, S4, h3, ?_⟩
      cases fl with
      | nx env6 => exact fun F6 H6 σ6 S6 L6 => ⟨F6, env6, S6, h4, k3.le (L4.trans L6)⟩
      | rt env6 fl d =>
        cases h4
        exact fun F6 H6 σ6 v S6 L6 V6 => k3 F6 H6 σ6 v S6 (L4.trans L6) V6
    | false =>
      rw [if_neg Bool.false_ne_true]
      rw [ht, if_neg Bool.false_ne_true] at h2
      cases h2
      exact k3 F4 H4 σ3 S4 L4
/-- the statements of a body -/
theorem pss_S {g : Stmt → Option S} (hg : ∀ s s', g s = some s' → PS X s (TSv X.K FA F0 H0 IO (exec C w s'))) : ∀ (ss : List Stmt) (ss' : Ss), compSs g ss = some ss' → PSs X ss (TSv X.K FA F0 H0 IO (execs C w ss'))
  | [], ss', h => by
    cases h
    refine pss_nil.imp fun DE σ H ⟨F, env, f, S, hx, kk⟩ => ?_
    rw [execs] at hx
    cases hx
    exact kk F H σ S .refl
  | s :: ss, ss', h => by
    rw [compSs] at h
    obtain ⟨s1, h1, h2⟩ := Option.bind_eq_some_iff.mp h
    obtain ⟨s2, h3, h4⟩ := Option.bind_eq_some_iff.mp h2
    cases h4
    refine (pss_cons (hg s s1 h1) (pss_S hg ss s2 h3)).imp fun DE σ H ⟨F, env, f, S, hx, kk⟩ => ?_
    rw [execs] at hx
    obtain ⟨fl, h5, h6⟩ := bnd_ok hx
    refine ⟨F, env, fl, S, h5, ?_⟩
    cases fl with
    | nx env2 => exact fun F1 H1 σ1 S1 L1 => ⟨F1, env2, f, S1, h6, kk.le L1⟩
    | rt env2 fl d =>
      cases h6
      exact kk
theorem compS_ok (O : XOk X FA C c nm) (ho : Outs C) (hp : PassesOwn (model X.prog X.w) X.A X.env X.xe) : ∀ (n : Nat) (s : Stmt) (s' : S), compS n c nm s = some s' → PS X s (TSv X.K FA F0 H0 IO (exec C w s'))
  | 0, s, s', h => by rw [compS] at h; cases h
  | n + 1, s, s', h => by
    have ihE := fun e e' h => (compE_ok ho n O e e' h).1
    have ihT := fun e e' h => (compE_ok ho n O e e' h).2
    have ihS := fun s s' h => compS_ok O ho hp n s s' h
    unfold compS at h
    split at h
    · cases h
      refine ps_pass.imp fun DE σ H ⟨F, env, f, S, hx, kk⟩ => ?_
      rw [exec] at hx
      cases hx
      exact kk F H σ S .refl
    · split at h
      · obtain ⟨e', h1, h2⟩ := Option.bind_eq_some_iff.mp h
        cases h2
        refine (ps_ret (ihE _ _ h1)).imp fun DE σ H ⟨F, env, f, S, hx, kk⟩ => ?_
        rw [exec] at hx
        obtain ⟨r, h3, h4⟩ := bnd_ok hx
        cases h4
        exact tev_F S h3 fun v F1 H1 S1 L1 V1 => kk F1 H1 σ v S1 L1 V1
      · cases h
        refine ps_retN.imp fun DE σ H ⟨F, env, f, S, hx, kk⟩ => ?_
        rw [exec] at hx
        cases hx
        exact kk F H σ .non S .refl ⟨rfl, fun z => by cases z⟩
    · unfold compX at h
      split at h
      · split at h
        · rename_i hc
          obtain ⟨i, h1, h2⟩ := Option.bind_eq_some_iff.mp h
          obtain ⟨e', h3, h4⟩ := Option.bind_eq_some_iff.mp h2
          cases h4
          exact ps_appE O hc.1 hc.2.1 hc.2.2.1 hc.2.2.2.1 hc.2.2.2.2 h1 (ihE _ _ h3)
        · cases h
      · split at h
        · cases h
        · rename_i hc
          obtain ⟨e', h1, h2⟩ := Option.bind_eq_some_iff.mp h
          cases h2
          refine (ps_expr (ihE _ _ h1) (hs := sw_no (by simpa using hc) _ _ _)).imp fun DE σ H ⟨F, env, f, S, hx, kk⟩ => ?_
          rw [exec] at hx
          obtain ⟨r, h3, h4⟩ := bnd_ok hx
          cases h4
          exact tev_F S h3 fun v F1 H1 S1 L1 V1 => kk F1 H1 σ S1 L1
    · split at h
      · unfold compAsg at h
        split at h
        · split at h
          · rename_i hc
            obtain ⟨i, h1, h2⟩ := Option.bind_eq_some_iff.mp h
            obtain ⟨e', h3, h4⟩ := Option.bind_eq_some_iff.mp h2
            cases h4
            exact ps_nameE O ho hc.2 h1 h3
          · cases h
        · split at h
          · cases h
          · rename_i hc
            rw [not_or] at hc
            split at h
            · rename_i hn
              obtain ⟨i, h1, h2⟩ := Option.bind_eq_some_iff.mp h
              obtain ⟨k', h3, h4⟩ := Option.bind_eq_some_iff.mp h2
              obtain ⟨e', h5, h6⟩ := Option.bind_eq_some_iff.mp h4
              cases h6
              exact ps_setkE O hn.1 hn.2 h1 (by simpa using hc.1) (by simpa using hc.2) (ihE _ _ h3) (ihE _ _ h5)
            · cases h
        · split at h
          · split at h
            · split at h
              · rename_i hc
                obtain ⟨c1, c2, c3, c4, c5, c6, c7, c8, c9, c10⟩ := hc
                obtain ⟨i, h1, h2⟩ := Option.bind_eq_some_iff.mp h
                obtain ⟨j, h3, h4⟩ := Option.bind_eq_some_iff.mp h2
                obtain ⟨a', h5, h6⟩ := Option.bind_eq_some_iff.mp h4
                obtain ⟨b', h7, h8⟩ := Option.bind_eq_some_iff.mp h6
                cases h8
                exact ps_parE O c3 c4 c5 c6 c7 c8 c9 c10 h1 h3 (pa_parE ihE _ _ (by simp [compEs, c7, c8, h5, h7]))
              · cases h
            · cases h
          · rename_i hne
            split at h
            · cases h
            · rename_i hc
              obtain ⟨t, h1, h2⟩ := Option.bind_eq_some_iff.mp h
              obtain ⟨e', h3, h4⟩ := Option.bind_eq_some_iff.mp h2
              cases h4
              exact ps_tupE (n := 0) O h1 (by simpa using hc) hne (ihE _ _ h3)
        · cases h
      · cases h
    · split at h
      · split at h
        · rename_i hc
          obtain ⟨i, h1, h2⟩ := Option.bind_eq_some_iff.mp h
          obtain ⟨e', h3, h4⟩ := Option.bind_eq_some_iff.mp h2
          cases h4
          exact ps_augE O hc.2 h1 (ihE _ _ h3)
        · cases h
      · cases h
    · obtain ⟨t', h1, h2⟩ := Option.bind_eq_some_iff.mp h
      obtain ⟨a', h3, h4⟩ := Option.bind_eq_some_iff.mp h2
      obtain ⟨b', h5, h6⟩ := Option.bind_eq_some_iff.mp h4
      cases h6
      refine (ps_if (ihT _ _ h1) (pss_S ihS _ _ h3) (pss_S ihS _ _ h5)).imp fun DE σ H ⟨F, env, f, S, hx, kk⟩ => ?_
      rw [exec] at hx
      obtain ⟨t, h7, h8⟩ := bnd_ok hx
      refine ttv_T S h7 fun F1 H1 S1 L1 => ?_
      cases ht : t.2 with
      | true =>
        rw [ht, if_pos rfl] at h8
        rw [if_pos rfl]
        exact ⟨F1, t.1, f, S1, h8, kk.le L1⟩
      | false =>
        rw [ht, if_neg Bool.false_ne_true] at h8
        rw [if_neg Bool.false_ne_true]
        exact ⟨F1, t.1, f, S1, h8, kk.le L1⟩
    · split at h
      · rename_i he
        obtain ⟨it, h1, h2⟩ := Option.bind_eq_some_iff.mp h
        obtain ⟨t, h3, h4⟩ := Option.bind_eq_some_iff.mp h2
        obtain ⟨b', h5, h6⟩ := Option.bind_eq_some_iff.mp h4
        cases h6
        rename_i els _
        cases els with
        | nil => exact ps_forE' O hp (fun bb => pi_I O ihE bb h1) (compI_set h1) h3 (pss_S ihS _ _ h5)
        | cons => cases he
      · cases h
    · split at h
      · rename_i he
        obtain ⟨t', h1, h2⟩ := Option.bind_eq_some_iff.mp h
        obtain ⟨b', h3, h4⟩ := Option.bind_eq_some_iff.mp h2
        cases h4
        rename_i els _
        cases els with
        | nil => exact ps_whlE hp (ihT _ _ h1) (pss_S ihS _ _ h3)
        | cons => cases he
      · cases h
    · cases h
end
end AR

/-! Core19: defs. -/
namespace AR
open PySem PySem.Spec PyProof.Rows L2

section
variable {K : PySem.W.Frag} {FA : Nat → Option Addr} {F : Addr → Prop} {H : Hp}
theorem ArgIn.len : ∀ {as : List (Sl × D)} {vs : List V}, ArgIn K FA F H as vs → vs.length = as.length
  | [], vs, h => by cases h; rfl
  | (k, d) :: as, vs, ⟨v, r, e, _, t⟩ => by subst e; rw [List.length_cons, List.length_cons, ArgIn.len t]
theorem ArgIn.get : ∀ {as : List (Sl × D)} {vs : List V} {i : Nat} {k : Sl} {d : D}, ArgIn K FA F H as vs → as[i]? = some (k, d) → ∃ v, vs[i]? = some v ∧ (if k = .sh then Rep K FA F H d v else ∃ a, v = .ref a ∧ ¬ F a ∧ RepM K FA F H d a)
  | [], _, i, k, d, _, e => by simp at e
  | (k, d) :: as, vs, 0, k', d', ⟨v, r, e, h, t⟩, q => by
    subst e
    simp at q
    obtain ⟨rfl, rfl⟩ := q
    exact ⟨v, rfl, h⟩
  | (k, d) :: as, vs, i + 1, k', d', ⟨v, r, e, h, t⟩, q => by
    subst e
    obtain ⟨w, h1, h2⟩ := ArgIn.get (i := i) t (by simpa using q)
    exact ⟨w, by simpa using h1, h2⟩
theorem ioVs_mem : ∀ {as : List (Sl × D)} {vs : List V} {i : Nat} {k : Sl} {d : D} {v : V}, as[i]? = some (k, d) → k ≠ .sh → vs[i]? = some v → v ∈ ioVs as vs
  | [], _, i, k, d, v, e, _, _ => by simp at e
  | _ :: _, [], i, k, d, v, _, _, e => by simp at e
  | (k, d) :: as, v :: vs, 0, k', d', v', e, hk, q => by
    simp at e q
    obtain ⟨rfl, rfl⟩ := e
    subst q
    rw [ioVs, if_neg hk]
    exact List.mem_cons_self
  | (k, d) :: as, v :: vs, i + 1, k', d', v', e, hk, q => by
    have ih := ioVs_mem (as := as) (vs := vs) (i := i) (by simpa using e) hk (by simpa using q)
    rw [ioVs]
    split
    · exact ih
    · exact List.mem_cons_of_mem _ ih
theorem ioVs_inj : ∀ {as : List (Sl × D)} {vs : List V} {i j : Nat} {k l : Sl} {d e : D} {v : V}, (ioVs as vs).Nodup → as[i]? = some (k, d) → as[j]? = some (l, e) → k ≠ .sh → l ≠ .sh → vs[i]? = some v → vs[j]? = some v → i = j
  | [], _, i, j, k, l, d, e, v, _, h, _, _, _, _, _ => by simp at h
  | _ :: _, [], i, j, k, l, d, e, v, _, _, _, _, _, h, _ => by simp at h
  | (k0, d0) :: as, v0 :: vs, 0, 0, k, l, d, e, v, _, _, _, _, _, _, _ => rfl
  | (k0, d0) :: as, v0 :: vs, 0, j + 1, k, l, d, e, v, nd, h1, h2, hk, hl, q1, q2 => by
    exfalso
    simp at h1 q1
    obtain ⟨rfl, rfl⟩ := h1
    subst q1
    rw [ioVs, if_neg hk] at nd
    exact (List.nodup_cons.mp nd).1 (ioVs_mem (as := as) (vs := vs) (i := j) (by simpa using h2) hl (by simpa using q2))
  | (k0, d0) :: as, v0 :: vs, i + 1, 0, k, l, d, e, v, nd, h1, h2, hk, hl, q1, q2 => by
    exfalso
    simp at h2 q2
    obtain ⟨rfl, rfl⟩ := h2
    subst q2
    rw [ioVs, if_neg hl] at nd
    exact (List.nodup_cons.mp nd).1 (ioVs_mem (as := as) (vs := vs) (i := i) (by simpa using h1) hk (by simpa using q1))
  | (k0, d0) :: as, v0 :: vs, i + 1, j + 1, k, l, d, e, v, nd, h1, h2, hk, hl, q1, q2 => by
    have nd' : (ioVs as vs).Nodup := by
      rw [ioVs] at nd
      split at nd
      · exact nd
      · exact (List.nodup_cons.mp nd).2
    rw [ioVs_inj (as := as) (vs := vs) (i := i) (j := j) nd' (by simpa using h1) (by simpa using h2) hk hl (by simpa using q1) (by simpa using q2)]
/-- the lists that came to be changed -/
def ioAt (as : List (Sl × D)) (vs : List V) (i : Nat) : Option Addr := match as[i]?, vs[i]? with
  | some (k, _), some (.ref a) => if k = .sh then none else some a
  | _, _ => none
theorem ioAt_some {as : List (Sl × D)} {vs : List V} {i : Nat} {a : Addr} (h : ioAt as vs i = some a) : ∃ k d, k ≠ Sl.sh ∧ as[i]? = some (k, d) ∧ vs[i]? = some (.ref a) := by
  unfold ioAt at h
  split at h
  · rename_i k d b e1 e2
    split at h
    · cases h
    · rename_i hk
      cases h
      exact ⟨k, d, hk, e1, e2⟩
  · cases h
theorem ioAt_of {as : List (Sl × D)} {vs : List V} {i : Nat} {a : Addr} {k : Sl} {d : D} (hk : k ≠ .sh) (h1 : as[i]? = some (k, d)) (h2 : vs[i]? = some (.ref a)) : ioAt as vs i = some a := by
  unfold ioAt
  rw [h1, h2]
  exact if_neg hk
theorem start_get {N : List PySem.Str} {vs : List V} {i : Nat} {v : V} (h : vs[i]? = some v) : (L2.start N vs)[i]? = some (some v) := by
  unfold L2.start
  have hi : i < vs.length := by
    rcases Nat.lt_or_ge i vs.length with z | z
    · exact z
    · rw [List.getElem?_eq_none z] at h; cases h
  rw [List.getElem?_append_left (by simpa using hi), List.getElem?_map, h]
  rfl
theorem env0_get {as : List (Sl × D)} {n i : Nat} {p : Sl × D} (h : (as.map some ++ List.replicate n none)[i]? = some (some p)) : as[i]? = some p := by
  rcases Nat.lt_or_ge i as.length with z | z
  · rw [List.getElem?_append_left (by simpa using z), List.getElem?_map] at h
    cases q : as[i]? with
    | none => rw [q] at h; cases h
    | some p' => rw [q] at h; cases h; rfl
  · rw [List.getElem?_append_right (by simpa using z), List.getElem?_replicate] at h
    split at h <;> cases h
theorem env0_of {as : List (Sl × D)} {n i : Nat} {p : Sl × D} (h : as[i]? = some p) : (as.map some ++ List.replicate n none)[i]? = some (some p) := by
  have hi : i < as.length := by
    rcases Nat.lt_or_ge i as.length with z | z
    · exact z
    · rw [List.getElem?_eq_none z] at h; cases h
  rw [List.getElem?_append_left (by simpa using hi), List.getElem?_map, h]
  rfl
theorem stok_start {as : List (Sl × D)} {vs : List V} {N : List PySem.Str} {n : Nat} (fi : Fin' F H) (ha : ArgIn K FA F H as vs) (nd : (ioVs as vs).Nodup) (hw : as.all (fun p => p.1 != Sl.own) = true) (hN : as.length + n = N.length) :
    StOk K FA F H (ioAt as vs) F H (L2.start N vs) (as.map some ++ List.replicate n none) := by
  have noOwn : ∀ i k d, as[i]? = some (k, d) → k ≠ Sl.own := fun i k d e => by
    have := List.all_eq_true.mp hw _ (List.mem_of_getElem? e)
    simpa using this
  have hl := ha.len
  refine ⟨⟨by unfold L2.start; simp [hl]; omega, fi, fun i d e => ?_, fun i k d hk e => ?_, fun i j k l d e a hk hl' e1 e2 s1 s2 => ?_⟩, fun _ h => h, fun _ h => .inl h, fun _ _ _ e => e, fun i d a e1 e2 => ?_, fun i d a e1 e2 => ?_, fun i a e => ?_⟩
  · obtain ⟨v, h1, h2⟩ := ha.get (env0_get e)
    rw [if_pos rfl] at h2
    exact ⟨v, start_get h1, h2⟩
  · obtain ⟨v, h1, h2⟩ := ha.get (env0_get e)
    rw [if_neg hk] at h2
    obtain ⟨a, rfl, h3⟩ := h2
    exact ⟨a, start_get h1, h3⟩
  · obtain ⟨v, h1, h2⟩ := ha.get (env0_get e1)
    obtain ⟨v', h1', h2'⟩ := ha.get (env0_get e2)
    rw [start_get h1] at s1
    rw [start_get h1'] at s2
    cases s1
    cases s2
    exact ioVs_inj nd (env0_get e1) (env0_get e2) hk hl' h1 h1'
  · exact absurd rfl (noOwn i _ d (env0_get e1))
  · obtain ⟨v, h1, h2⟩ := ha.get (env0_get e1)
    rw [start_get h1] at e2
    cases e2
    exact ioAt_of (by decide) (env0_get e1) h1
  · obtain ⟨k, d, hk, h1, h2⟩ := ioAt_some e
    have : k = .io := by
      have := noOwn i k d h1
      cases k with
      | sh => exact absurd rfl hk
      | own => exact absurd rfl this
      | io => rfl
    subst this
    exact ⟨d, env0_of h1, start_get h2⟩
theorem outs_ok {F0 : Addr → Prop} {H0 : Hp} {IO : Nat → Option Addr} {σ : L2.St} {env : AR.Env} (S : StOk K FA F0 H0 IO F H σ env) : ∀ {as : List (Sl × D)} {vs : List V} {n : Nat} {os : List D}, outs env (kinds as n) = .ok os → vs.length = as.length →
    (∀ (j : Nat) k d, as[j]? = some (k, d) → k ≠ .sh → ∃ a, vs[j]? = some (.ref a) ∧ IO (n + j) = some a) → OutOk K FA F H os (ioVs as vs)
  | [], vs, n, os, h, hl, _ => by
    rw [kinds, outs] at h
    cases h
    cases vs with
    | nil => rfl
    | cons => cases hl
  | (k, d) :: as, [], n, os, h, hl, _ => by cases hl
  | (k, d) :: as, v :: vs, n, os, h, hl, hio => by
    have hl' : vs.length = as.length := by simpa using hl
    have hio' : ∀ (j : Nat) k d, as[j]? = some (k, d) → k ≠ .sh → ∃ a, vs[j]? = some (.ref a) ∧ IO (n + 1 + j) = some a := fun j k d e hk => by
      obtain ⟨a, q1, q2⟩ := hio (j + 1) k d (by simpa using e) hk
      exact ⟨a, by simpa using q1, by rw [show n + 1 + j = n + (j + 1) by omega]; exact q2⟩
    by_cases hk : k = .sh
    · subst hk
      rw [kinds] at h
      rw [ioVs, if_pos rfl]
      exact outs_ok S h hl' hio'
    · have hkk : kinds ((k, d) :: as) n = n :: kinds as (n + 1) := by
        cases k with
        | sh => exact absurd rfl hk
        | own => rw [kinds]; intro z; cases z
        | io => rw [kinds]; intro z; cases z
      rw [hkk, outs] at h
      obtain ⟨a, q1, q2⟩ := hio 0 k d rfl hk
      have q1 : v = .ref a := by simpa using q1
      subst q1
      obtain ⟨d', e1, e2⟩ := S.ios (n + 0) a q2
      rw [Nat.add_zero] at e1 e2
      rw [e1] at h
      obtain ⟨os', h1, h2⟩ := bnd_ok h
      cases h2
      rw [ioVs, if_neg hk]
      obtain ⟨b, m1, m2, m3⟩ := S.ok.mu n _ d' (by decide) e1
      rw [e2] at m1
      cases m1
      exact ⟨a, _, rfl, ⟨m2, m3⟩, outs_ok S h1 hl' hio'⟩
end

/-! ### what a def's body promises -/
/-- the module's names, as the proof knows them -/
structure GOk (K : PySem.W.Frag) (FA : Nat → Option Addr) (mg : PySem.Str → Option Value) (G : List (PySem.Str × GK)) : Prop where
  fns : ∀ x k io, G.lookup x = some (.fn k io) → ∃ f, FA k = some f ∧ mg x = some (.ref f)
  cns : ∀ x d, G.lookup x = some (.cn d) → ∃ u v, mg x = some u ∧ RelV v u ∧ ∀ F H, Rep K FA F H d v
  blt : ∀ x ∈ bltNames, G.lookup x = none → mg x = none
/-- one def of the text -/
structure DOk (K : PySem.W.Frag) (FA : Nat → Option Addr) (mg : PySem.Str → Option Value) (tab : Nat → Option Fn) (k : Nat) (f : Addr) (fd : FuncData) (ps : List PySem.Str) : Prop where
  ex : ∃ (x qual : PySem.Str) (st : Stmt) (N : List PySem.Str) (G : List (PySem.Str × GK)) (F : Fn) (n : Nat), Fun K x qual st f fd ∧ FnScope N ps (defScope st) ∧ tab k = some F ∧ F.np = ps.length ∧ F.ns = N.length ∧ GOk K FA mg G ∧
    compSs (compS n ⟨N, G⟩ (defScope st).names) (defBody st) = some F.body
  kp : PySem.W.keepIn K (.ref f) = true
  bi : Binds K fd ps []
theorem out_ok {fl fl' : Fl} (h : Fl.out fl = .ok fl') : (fl = .sh ∧ fl' = .sh) ∨ (fl = .fr ∧ fl' = .fr) ∨ (fl = .bo ∧ fl' = .fr) := by
  cases fl <;> cases h <;> simp
theorem callN_outs {tab : Nat → Option Fn} {w : Nat} : ∀ n, Outs (callN tab w n)
  | 0, k, as, q, h, _ => by cases h
  | n + 1, k, as, q, h, ha => by
    rw [callN] at h
    split at h
    · cases h
    · obtain ⟨h1, h2⟩ := guard_ok h
      obtain ⟨_, h1⟩ := and2 h1
      obtain ⟨h1, _⟩ := and2 h1
      have h1 := of_decide_eq_true h1
      have hk : ∀ (as : List (Sl × D)) (n : Nat), (as.map (·.1)).all (· == .sh) = true → kinds as n = [] := fun as => by
        induction as with
        | nil => intros; rfl
        | cons p as ih =>
          intro n hh
          obtain ⟨k, d⟩ := p
          rw [List.map_cons, List.all_cons] at hh
          obtain ⟨a, b⟩ := and2 hh
          have a : k = .sh := by simpa using a
          subst a
          rw [kinds]
          exact ih _ b
      rw [hk as 0 ha] at h1
      obtain ⟨f, h3, h4⟩ := bnd_ok h2
      rw [← h1] at h4
      split at h4
      · rw [outs] at h4
        obtain ⟨os, h5, h6⟩ := bnd_ok h4
        cases h5
        cases h6
        rfl
      · rw [outs] at h4
        obtain ⟨os, h5, h6⟩ := bnd_ok h4
        cases h5
        obtain ⟨fl', _, h7⟩ := bnd_ok h6
        cases h7
        rfl
section
variable {P : Program} {wd : World} {K : PySem.W.Frag} {mg : PySem.Str → Option Value} {base : Heap} {FA : Nat → Option Addr} {tab : Nat → Option Fn} {w : Nat}
theorem all_ok (hu : ∀ k f, FA k = some f → ∃ fd ps, DOk K FA mg tab k f fd ps) : ∀ (n k : Nat) (f : Addr) (fd : FuncData) (ps : List PySem.Str), FA k = some f → DOk K FA mg tab k f fd ps → FnOk P wd K mg base CX0 n f fd ps (spOf K FA (callN tab w n) k)
  | 0, k, f, fd, ps, _, _ => by
    have no : ∀ vs H Q E, ¬ spOf K FA (callN tab w 0) k vs H Q E := fun vs H Q E ⟨F, as, q, _, _, _, h, _⟩ => by cases h
    exact ⟨fun vs H Q E h => absurd h (no vs H Q E), fun A outer s H args us vs Q E _ _ _ _ h => absurd h (no vs H Q E)⟩
  | n + 1, k, f, fd, ps, hf, D0 => by
    obtain ⟨x, qual, st, N, G, Fn0, fu, F, S, ht, hnp, hns, HG, hc⟩ := D0.ex
    refine F.ok S (fun vs H Q E h => ?_) (fun cdv A outer s H vs Q E hr h => ?_)
    · obtain ⟨F1, as, q, _, ha, _, hC, _⟩ := h
      rw [callN, ht] at hC
      obtain ⟨h1, _⟩ := guard_ok hC
      obtain ⟨h1, _⟩ := and2 h1
      rw [ha.len, of_decide_eq_true h1, hnp]
    · obtain ⟨F1, as, q, fi, ha, nd, hC, hQ⟩ := h
      rw [callN, ht] at hC
      obtain ⟨h1, h2⟩ := guard_ok hC
      obtain ⟨h3, h4⟩ := and2 h1
      obtain ⟨h5, h6⟩ := and2 h4
      have h3 := of_decide_eq_true h3
      have h5 := of_decide_eq_true h5
      obtain ⟨fl, h7, h8⟩ := bnd_ok h2
      have O : XOk (cxOf CX0 P wd K mg base N qual (defScope st) f cdv A outer s H E).nox FA (callN tab w n) ⟨N, G⟩ (defScope st).names := by
        refine ⟨rfl, rfl, S.nd, fun x k h => .inl h, fun x h => .inl rfl, ?_, HG.fns, fun j g hg => ?_, HG.cns, HG.blt⟩
        · have := hr.un
          show (A.deeper (envOfC qual (defScope st) s.heap.objs.size f cdv)).units + 65 < cLine
          omega
        · obtain ⟨fd', ps', D'⟩ := hu j g hg
          exact ⟨n, fd', ps', D'.kp, D'.bi, hr, all_ok hu n j g fd' ps' hg D'⟩
      have hpl : ps.length ≤ N.length := by have := congrArg List.length S.pre; rw [List.length_take] at this; omega
      have st0 := stok_start (N := N) (n := Fn0.ns - Fn0.np) fi ha nd h6 (by rw [h3, hns]; omega)
      refine ⟨_, pss_S (F0 := F1) (H0 := H) (IO := ioAt as vs) (fun s s' h => compS_ok O (callN_outs n) PassesOwn.never fu s s' h) _ _ hc, F1, _, fl, st0, h7, ?_⟩
      have io : ∀ (j : Nat) k d, as[j]? = some (k, d) → k ≠ .sh → ∃ a, vs[j]? = some (.ref a) ∧ ioAt as vs (0 + j) = some a := fun j k d e hk => by
        obtain ⟨v, q1, q2⟩ := ha.get e
        rw [if_neg hk] at q2
        obtain ⟨a, rfl, _⟩ := q2
        exact ⟨a, q1, by rw [Nat.zero_add]; exact ioAt_of hk e q1⟩
      have kp : ∀ {H' : Hp} {F' σ' env'}, StOk K FA F1 H (ioAt as vs) F' H' σ' env' → ∀ b o, V.ref b ∉ ioVs as vs → H b = some o → H' b = some o := fun S' b o nb e => S'.keep b o (fun i hi => by
        obtain ⟨k, d, hk, q1, q2⟩ := ioAt_some hi
        exact nb (ioVs_mem q1 hk q2)) e
      cases fl with
      | nx env' =>
        obtain ⟨os, h9, h10⟩ := bnd_ok h8
        cases h10
        rw [← h5] at h9
        intro F' H' σ' S' L'
        exact hQ _ F' H' ⟨S'.sub, S'.new, S'.ok.fin, kp S', outs_ok S' h9 ha.len io, rfl⟩
      | rt env' fl d =>
        obtain ⟨os, h9, h10⟩ := bnd_ok h8
        obtain ⟨fl', h11, h12⟩ := bnd_ok h10
        cases h12
        rw [← h5] at h9
        intro F' H' σ' v S' L' V'
        refine hQ _ F' H' ⟨S'.sub, S'.new, S'.ok.fin, kp S', outs_ok S' h9 ha.len io, ?_⟩
        rcases out_ok h11 with ⟨e1, e2⟩ | ⟨e1, e2⟩ | ⟨e1, e2⟩
        · subst e1 e2; exact V'.1
        · subst e1 e2
          obtain ⟨a, w1, w2, w3, w4⟩ := V'.1
          exact ⟨a, w1, w2, w3, w4⟩
        · subst e1 e2
          obtain ⟨i, w1, w2⟩ := V'.1
          obtain ⟨a, m1, m2, m3⟩ := S'.ok.mu i _ d (by decide) w1
          rw [w2] at m1
          cases m1
          exact ⟨a, rfl, S'.own i d a w1 w2, m2, m3⟩
end
end AR

/-! Core20: the text's defs in a table; the law's own promise. -/
namespace AR
open PySem PySem.Spec PyProof.Rows L2

structure Def1 where
  x : PySem.Str
  st : Stmt
  ps : List PySem.Str
  N : List PySem.Str
  io : List Nat
  F : Fn
def gtFrom : Nat → List Def1 → List (PySem.Str × GK)
  | _, [] => []
  | k, d :: r => (d.x, .fn k d.io) :: gtFrom (k + 1) r
def GT (TB : List Def1) : List (PySem.Str × GK) := gtFrom 0 TB
def tabOf (TB : List Def1) (k : Nat) : Option Fn := (TB[k]?).map (·.F)
structure DefC (G : List (PySem.Str × GK)) (d : Def1) : Prop where
  body : compSs (compS 60 ⟨d.N, G⟩ (defScope d.st).names) (defBody d.st) = some d.F.body
  np : d.F.np = d.ps.length
  ns : d.F.ns = d.N.length
  sc : FnScope d.N d.ps (defScope d.st)
/-- a def stands in the module -/
structure DefIn (K : PySem.W.Frag) (d : Def1) (f : Addr) : Prop where
  at_ : PySem.W.nsIn K mainGlobals d.x = some (some (.ref f))
  ex : ∃ fd, Fun K d.x d.x d.st f fd ∧ Binds K fd d.ps [] ∧ PySem.W.keepIn K (.ref f) = true
theorem def_in {K : PySem.W.Frag} {d : Def1} {f : Addr} {oc : Value} {od an : Option Addr} {osl : Array (Option Value)} {kV doc pm cdv ct : Value} (a : PySem.W.nsIn K mainGlobals d.x = some (some (.ref f)))
    (l : K.lookup f = some ⟨oc, od, .func (PySem.W.fnOf d.x d.x (defArgs d.st) (defBody d.st) (defScope d.st) .none kV doc pm an cdv ct), osl⟩) (c : PySem.W.codeIn K cdv d.x = true) (k : PySem.W.keepIn K (.ref f) = true)
    (g : ∀ {K : PySem.W.Frag} {f : Addr} {fd : FuncData}, Fun K d.x d.x d.st f fd → Binds K fd d.ps []) : DefIn K d f := ⟨a, _, fun_mk l c k, g (fun_mk l c k), k⟩
section
variable {K : PySem.W.Frag} {fs : List Addr} {TB : List Def1}
def FAof (fs : List Addr) (k : Nat) : Option Addr := fs[k]?
/-- every def of the table stands there -/
def AllIn (K : PySem.W.Frag) : List Def1 → List Addr → Prop
  | [], [] => True
  | d :: ds, f :: fs => DefIn K d f ∧ AllIn K ds fs
  | _, _ => False
def AllC (G : List (PySem.Str × GK)) : List Def1 → Prop
  | [] => True
  | d :: ds => DefC G d ∧ AllC G ds
theorem AllIn.get : ∀ {TB : List Def1} {fs : List Addr}, AllIn K TB fs → ∀ {k : Nat} {f : Addr}, fs[k]? = some f → ∃ d, TB[k]? = some d ∧ DefIn K d f
  | [], [], _, k, f, h => by simp at h
  | [], _ :: _, h, _, _, _ => h.elim
  | _ :: _, [], h, _, _, _ => h.elim
  | d :: ds, f :: fs, ⟨h1, h2⟩, 0, f', e => by simp at e; subst e; exact ⟨d, rfl, h1⟩
  | d :: ds, f :: fs, ⟨h1, h2⟩, k + 1, f', e => by
    obtain ⟨d', q1, q2⟩ := AllIn.get h2 (k := k) (by simpa using e)
    exact ⟨d', by simpa using q1, q2⟩
theorem AllC.get {G : List (PySem.Str × GK)} : ∀ {TB : List Def1}, AllC G TB → ∀ {k : Nat} {d : Def1}, TB[k]? = some d → DefC G d
  | [], _, k, d, h => by simp at h
  | d :: ds, ⟨h1, h2⟩, 0, d', e => by simp at e; subst e; exact h1
  | d :: ds, ⟨h1, h2⟩, k + 1, d', e => AllC.get h2 (k := k) (by simpa using e)
theorem gt_get : ∀ {TB : List Def1} {fs : List Addr} {n : Nat} {x : PySem.Str} {k : Nat} {io : List Nat}, AllIn K TB fs → (gtFrom n TB).lookup x = some (.fn k io) → ∃ j f, k = n + j ∧ fs[j]? = some f ∧ PySem.W.nsIn K mainGlobals x = some (some (.ref f))
  | [], _, n, x, k, io, _, h => by simp [gtFrom] at h
  | _ :: _, [], n, x, k, io, h, _ => h.elim
  | d :: ds, f :: fs, n, x, k, io, ⟨h1, h2⟩, h => by
    rw [gtFrom, List.lookup_cons] at h
    cases hx : x == d.x with
    | true =>
      rw [hx] at h
      cases h
      have hx : x = d.x := by simpa using hx
      subst hx
      exact ⟨0, f, rfl, rfl, h1.at_⟩
    | false =>
      rw [hx] at h
      obtain ⟨j, f', e1, e2, e3⟩ := gt_get h2 h
      exact ⟨j + 1, f', by omega, by simpa using e2, e3⟩
theorem gt_cn : ∀ {TB : List Def1} {n : Nat} {x : PySem.Str} {d : D}, (gtFrom n TB).lookup x ≠ some (.cn d)
  | [], n, x, d => by simp [gtFrom]
  | e :: ds, n, x, d => by
    rw [gtFrom, List.lookup_cons]
    cases hx : x == e.x with
    | true => intro z; cases z
    | false => exact gt_cn
/-- the law's promise -/
def spScr (K : PySem.W.Frag) : Sp := fun vs H Q _ => ∃ (a : Addr) (ns : List Int), vs = [.ref a] ∧ Only H ∧ SqL K H a (ns.map V.int) ∧ ns.length ≤ 63 ∧ ∀ H', Q (.bl true) H'
theorem law_mk {P : Program} {wd : World} {mg : PySem.Str → Option Value} {h : Heap} (KX : K.In h) (G : h.Ns mainGlobals mg) (hi : AllIn K TB fs) (hc : AllC (GT TB) TB) (z : ∀ x ∈ bltNames, (GT TB).lookup x = none → PySem.W.nsIn K mainGlobals x = some none)
    {lawId n w : Nat} {fa : Addr} {d : Def1} (hl : TB[lawId]? = some d) (hps : d.ps = [("_law_script" : PySem.Str)]) (hfa : mg d.x = some (.ref fa)) (hla : fs[lawId]? = some fa)
    (law : ∀ ns : List Int, ns.length ≤ 63 → ∃ fl, callN (tabOf TB) w n lawId [(.sh, .scr ns)] = .ok ([], fl, .bl true)) :
    ∃ fd : FuncData, (∀ base : Heap, K.In base → base.Ns mainGlobals mg → FnOk P wd K mg base CX0 n fa fd [("_law_script" : PySem.Str)] (spScr K)) ∧ Fun K d.x d.x d.st fa fd := by
  have GO : GOk K (FAof fs) mg (GT TB) := by
    refine ⟨fun x k io e => ?_, fun x d e => absurd e gt_cn, fun x hx e => PySem.W.mg_none_of KX G (z x hx e)⟩
    obtain ⟨j, f, e1, e2, e3⟩ := gt_get hi e
    have : k = j := by omega
    subst this
    exact ⟨f, e2, PySem.W.mg_of KX G e3⟩
  have key : ∀ k f, FAof fs k = some f → ∃ d fd, TB[k]? = some d ∧ Fun K d.x d.x d.st f fd ∧ DOk K (FAof fs) mg (tabOf TB) k f fd d.ps := fun k f e => by
    obtain ⟨d, q1, q2⟩ := hi.get e
    have C := hc.get q1
    obtain ⟨fd, F, B, kp⟩ := q2.ex
    exact ⟨d, fd, q1, F, ⟨d.x, d.x, d.st, d.N, GT TB, d.F, 60, F, C.sc, by unfold tabOf; rw [q1]; rfl, C.np, C.ns, GO, C.body⟩, kp, B⟩
  obtain ⟨d', fd, e1, F, D0⟩ := key lawId fa hla
  rw [hl] at e1
  cases e1
  refine ⟨fd, fun base _ _ => ?_, F⟩
  have FO := all_ok (P := P) (wd := wd) (base := base) (w := w) (fun k f e => let ⟨d, fd, _, _, q⟩ := key k f e; ⟨fd, d.ps, q⟩) n lawId fa fd d.ps hla D0
  rw [hps] at FO
  refine FO.imp fun vs H Q E ⟨a, ns, e, hO, hS, hlen, q⟩ => ?_
  subst e
  obtain ⟨fl, hr⟩ := law ns hlen
  have sc : ScrAt K H a (ns.map V.int) := by
    rcases hS with (hS | hS) | hS
    · rcases hO a with z | ⟨o, xs, z⟩ <;> (rw [z] at hS; cases hS)
    · exact .inl hS
    · exact .inr hS
  refine ⟨fun _ => False, [(.sh, .scr ns)], _, fun _ z => z.elim, ⟨.ref a, [], rfl, by rw [if_pos rfl]; exact ⟨a, rfl, sc⟩, rfl⟩, by show ([] : List V).Nodup; exact .nil, hr, fun v F' H' P' => ?_⟩
  have hv := P'.val
  cases fl with
  | sh =>
    have hv : v = .bl true := hv
    subst hv
    exact q H'
  | fr => obtain ⟨_, _, _, _, z⟩ := hv; exact z.elim
  | bo => exact hv.elim
  | bi => exact hv.elim
end
end AR

namespace LW
open AR
/-- _law_cell(_law_script, _law_index) -/
def B_law_cell : Ss := (.cons (.ife (.cmp .lt (.var 1) (.blt .len (.cons (.var 0) .nil))) (.cons (.ret (.sub (.var 0) (.var 1))) .nil) .nil) (.cons (.ife (.cmp .eq (.blt .len (.cons (.var 0) .nil)) (.cst (.int 0))) (.cons (.ret (.bin .add (.bin .mul (.cst (.int 7919)) (.var 1)) (.cst (.int 101)))) .nil) .nil) (.cons (.ret (.bin .add (.bin .mod (.sub (.var 0) (.bin .mod (.var 1) (.blt .len (.cons (.var 0) .nil)))) (.cst (.int 1000003))) (.bin .mul (.cst (.int 7919)) (.var 1)))) .nil)))
/-- _law_digits(_law_script, _law_index, _law_count, _law_base) -/
def B_law_digits (c__law_cell : Nat) : Ss := (.cons (.asg (.var 4) (.tup (.cons (.cst (.int 2147483647)) (.cons (.cst (.int 2147483629)) (.cons (.cst (.int 2147483587)) (.cons (.cst (.int 2147483579)) (.cons (.cst (.int 2147483563)) (.cons (.cst (.int 2147483549)) (.cons (.cst (.int 2147483543)) (.cons (.cst (.int 2147483497)) .nil)))))))))) (.cons (.asg (.var 5) (.call c__law_cell (.cons (.var 0) (.cons (.var 1) .nil)))) (.cons (.asg (.var 6) (.ife (.cmp .ge (.var 5) (.bin .pow (.cst (.int 10)) (.cst (.int 18)))) (.var 5) (.cst (.int 0)))) (.cons (.asg (.var 7) (.lst .nil)) (.cons (.forS (.var 8) (.rng1 (.var 2)) (.cons (.asg (.var 9) (.bin .mul (.bin .mod (.var 5) (.sub (.var 4) (.bin .mod (.var 8) (.cst (.int 8))))) (.bin .add (.cst (.int 48271)) (.bin .mul (.bin .mul (.cst (.int 2)) (.var 8)) (.var 8))))) (.cons (.asg (.var 9) (.bin .add (.bin .add (.var 9) (.bin .mul (.bin .mul (.cst (.int 7919)) (.bin .add (.var 8) (.cst (.int 1)))) (.bin .add (.var 8) (.cst (.int 1))))) (.bin .mul (.cst (.int 104729)) (.var 1)))) (.cons (.asg (.var 9) (.bin .mod (.var 9) (.sub (.var 4) (.bin .mod (.bin .add (.bin .mul (.cst (.int 3)) (.var 8)) (.var 1)) (.cst (.int 8)))))) (.cons (.asg (.var 9) (.bin .mod (.bin .mul (.bin .mul (.var 9) (.var 9)) (.var 9)) (.sub (.var 4) (.bin .mod (.bin .add (.var 8) (.cst (.int 5))) (.cst (.int 8)))))) (.cons (.ife (.cmp .gt (.var 6) (.cst (.int 0))) (.cons (.asg (.var 9) (.var 6)) .nil) .nil) (.cons (.app 7 (.bin .mod (.var 9) (.var 3))) (.cons (.asg (.var 6) (.bin .fdiv (.var 6) (.var 3))) .nil)))))))) (.cons (.ret (.var 7)) .nil))))))
/-- _law_same_bool(_law_result, _law_expected) -/
def B_law_same_bool : Ss := (.cons (.ret (.and2 (.isi (.var 0) [.bool]) (.cmp .eq (.var 0) (.var 1)))) .nil)
/-- _law_rule(_law_digits_here) -/
def B_law_rule : Ss := (.cons (.asg (.var 1) (.sub (.lst (.cons (.bin .sub (.bin .mod (.sub (.var 0) (.cst (.int 0))) (.cst (.int 13))) (.cst (.int 3))) (.cons (.bin .sub (.bin .mod (.sub (.var 0) (.cst (.int 0))) (.cst (.int 201))) (.cst (.int 100))) (.cons (.bin .mod (.sub (.var 0) (.cst (.int 0))) (.cst (.int 4))) .nil)))) (.bin .mod (.sub (.var 0) (.cst (.int 4))) (.cst (.int 3))))) (.cons (.asg (.var 2) (.blt .max2 (.cons (.bin .sub (.cst (.int 0)) (.cst (.int 100))) (.cons (.bin .sub (.var 1) (.sub (.lst (.cons (.cst (.int 0)) (.cons (.bin .mod (.sub (.var 0) (.cst (.int 1))) (.cst (.int 3))) (.cons (.bin .mod (.sub (.var 0) (.cst (.int 1))) (.cst (.int 60))) .nil)))) (.bin .mod (.bin .fdiv (.sub (.var 0) (.cst (.int 4))) (.cst (.int 3))) (.cst (.int 3))))) .nil)))) (.cons (.ret (.tup (.cons (.var 1) (.cons (.bin .add (.cst (.int 1)) (.bin .mod (.sub (.var 0) (.cst (.int 2))) (.cst (.int 5)))) (.cons (.var 2) (.cons (.bin .add (.cst (.int 1)) (.bin .mod (.sub (.var 0) (.cst (.int 3))) (.cst (.int 5)))) .nil)))))) .nil)))
/-- _law_signal(_law_digits_here, _law_rules, _law_size) -/
def B_law_signal : Ss := (.cons (.asg (.var 3) (.lst .nil)) (.cons (.forS (.var 4) (.val (.var 1)) (.cons (.forS (.var 5) (.val (.tup (.cons (.sub (.var 4) (.cst (.int 0))) (.cons (.sub (.var 4) (.cst (.int 2))) .nil)))) (.cons (.asg (.var 3) (.bin .add (.var 3) (.lst (.cons (.bin .sub (.var 5) (.cst (.int 1))) (.cons (.var 5) (.cons (.bin .add (.var 5) (.cst (.int 1))) .nil)))))) .nil)) .nil)) (.cons (.asg (.var 3) (.bin .add (.var 3) (.lst (.cons (.bin .sub (.cst (.int 0)) (.cst (.int 1000))) (.cons (.cst (.int 1000)) (.cons (.cst (.int 0)) .nil)))))) (.cons (.asg (.var 6) (.lst .nil)) (.cons (.forS (.tup [(.var 7), (.var 8)]) (.enm (.slc (.var 0) (some (.cst (.int 2))) (some (.bin .add (.cst (.int 2)) (.bin .mod (.sub (.var 0) (.cst (.int 0))) (.bin .add (.var 2) (.cst (.int 1)))))))) (.cons (.asg (.var 9) (.and2 (.cmp .gt (.var 7) (.cst (.int 0))) (.cmp .gt (.bin .mod (.bin .fdiv (.var 8) (.cst (.int 31))) (.sub (.lst (.cons (.cst (.int 2)) (.cons (.cst (.int 4)) .nil))) (.bin .mod (.sub (.var 0) (.cst (.int 1))) (.cst (.int 2))))) (.cst (.int 0))))) (.cons (.app 6 (.ife (.var 9) (.sub (.var 6) (.neg (.cst (.int 1)))) (.sub (.var 3) (.bin .mod (.var 8) (.blt .len (.cons (.var 3) .nil)))))) .nil))) (.cons (.ret (.blt .tuple (.cons (.var 6) .nil))) .nil))))))
/-- step(rule, state, sample) -/
def B_step : Ss := (.cons (.asg (.tup [(.var 3), (.var 4), (.var 5), (.var 6)]) (.var 0)) (.cons (.asg (.tup [(.var 7), (.var 8)]) (.var 1)) (.cons (.ife (.var 7) (.cons (.asg (.var 8) (.ife (.cmp .lt (.var 2) (.var 5)) (.bin .add (.var 8) (.cst (.int 1))) (.cst (.int 0)))) (.cons (.ret (.ife (.cmp .eq (.var 8) (.var 6)) (.tup (.cons (.cst (.bl false)) (.cons (.cst (.int 0)) .nil))) (.tup (.cons (.cst (.bl true)) (.cons (.var 8) .nil))))) .nil)) .nil) (.cons (.asg (.var 8) (.ife (.cmp .ge (.var 2) (.var 3)) (.bin .add (.var 8) (.cst (.int 1))) (.cst (.int 0)))) (.cons (.ret (.ife (.cmp .eq (.var 8) (.var 4)) (.tup (.cons (.cst (.bl true)) (.cons (.cst (.int 0)) .nil))) (.tup (.cons (.cst (.bl false)) (.cons (.var 8) .nil))))) .nil)))))
/-- rule_activity(rule, signal) -/
def B_rule_activity (c_step : Nat) : Ss := (.cons (.par [2, 3] (.cons (.lst .nil) (.cons (.tup (.cons (.cst (.bl false)) (.cons (.cst (.int 0)) .nil))) .nil))) (.cons (.forS (.var 4) (.val (.var 1)) (.cons (.asg (.var 3) (.call c_step (.cons (.var 0) (.cons (.var 3) (.cons (.var 4) .nil))))) (.cons (.app 2 (.sub (.var 3) (.cst (.int 0)))) .nil))) (.cons (.ret (.var 2)) .nil)))
/-- combined(mode, values) -/
def B_combined : Ss := (.cons (.ret (.ife (.cmp .eq (.var 0) (.cst (.str [97, 110, 121]))) (.blt .any (.cons (.var 1) .nil)) (.blt .all (.cons (.var 1) .nil)))) .nil)
/-- condition_flags(condition, signal) -/
def B_condition_flags (c_combined : Nat) (c_rule_activity : Nat) : Ss := (.cons (.asg (.var 2) (.comp [3] (.cons (.var 3) (.val (.sub (.var 0) (.cst (.int 1)))) .nil (.el (.call c_rule_activity (.cons (.var 3) (.cons (.var 1) .nil))))))) (.cons (.ret (.comp [5] (.cons (.var 5) (.rng1 (.blt .len (.cons (.var 1) .nil))) .nil (.el (.call c_combined (.cons (.sub (.var 0) (.cst (.int 0))) (.cons (.comp [4] (.cons (.var 4) (.val (.var 2)) .nil (.el (.sub (.var 4) (.var 5))))) .nil))))))) .nil))
/-- active(condition, signal) -/
def B_active (c_condition_flags : Nat) : Ss := (.cons (.ret (.blt .tuple (.cons (.comp [2, 3] (.cons (.tup [(.var 2), (.var 3)]) (.enm (.call c_condition_flags (.cons (.var 0) (.cons (.var 1) .nil)))) (.cons (.var 3) .nil) (.el (.var 2)))) .nil))) .nil)
/-- rule_covers(one, other) -/
def B_rule_covers : Ss := (.cons (.ret (.and2 (.cmp .le (.sub (.var 0) (.cst (.int 0))) (.sub (.var 1) (.cst (.int 0)))) (.and2 (.cmp .le (.sub (.var 0) (.cst (.int 1))) (.sub (.var 1) (.cst (.int 1)))) (.and2 (.cmp .le (.sub (.var 0) (.cst (.int 2))) (.sub (.var 1) (.cst (.int 2)))) (.cmp .ge (.sub (.var 0) (.cst (.int 3))) (.sub (.var 1) (.cst (.int 3)))))))) .nil)
/-- _law_stronger(_law_rule_here, _law_digits_here) -/
def B_law_stronger : Ss := (.cons (.asg (.var 2) (.blt .min2 (.cons (.cst (.int 100)) (.cons (.bin .add (.sub (.var 0) (.cst (.int 0))) (.bin .mod (.sub (.var 1) (.cst (.int 0))) (.cst (.int 3)))) .nil)))) (.cons (.asg (.var 3) (.blt .min2 (.cons (.var 2) (.cons (.bin .add (.sub (.var 0) (.cst (.int 2))) (.bin .mod (.sub (.var 1) (.cst (.int 1))) (.cst (.int 4)))) .nil)))) (.cons (.ret (.tup (.cons (.var 2) (.cons (.blt .min2 (.cons (.cst (.int 5)) (.cons (.bin .add (.sub (.var 0) (.cst (.int 1))) (.bin .mod (.sub (.var 1) (.cst (.int 2))) (.cst (.int 2)))) .nil))) (.cons (.var 3) (.cons (.blt .max2 (.cons (.cst (.int 1)) (.cons (.bin .sub (.sub (.var 0) (.cst (.int 3))) (.bin .mod (.sub (.var 1) (.cst (.int 3))) (.cst (.int 2)))) .nil))) .nil)))))) .nil)))
/-- law(_law_script) -/
def B_law_2 (c_active : Nat) (c__law_signal : Nat) (c_rule_covers : Nat) (c__law_same_bool : Nat) (c__law_rule : Nat) (c__law_stronger : Nat) (c__law_digits : Nat) : Ss := (.cons (.forS (.var 1) (.rng1 (.cst (.int 8))) (.cons (.asg (.var 2) (.call c__law_digits (.cons (.var 0) (.cons (.var 1) (.cons (.cst (.int 120)) (.cons (.cst (.int 27720)) .nil)))))) (.cons (.asg (.var 3) (.call c__law_rule (.cons (.var 2) .nil))) (.cons (.asg (.var 4) (.lst (.cons (.var 3) (.cons (.call c__law_stronger (.cons (.var 3) (.cons (.slc (.var 2) (some (.cst (.int 5))) none) .nil))) (.cons (.call c__law_stronger (.cons (.var 3) (.cons (.slc (.var 2) (some (.cst (.int 9))) none) .nil))) (.cons (.call c__law_rule (.cons (.slc (.var 2) (some (.cst (.int 13))) none) .nil)) .nil)))))) (.cons (.app 4 (.tup (.cons (.sub (.var 3) (.cst (.int 0))) (.cons (.sub (.var 3) (.cst (.int 1))) (.cons (.sub (.var 3) (.cst (.int 2))) (.cons (.bin .add (.cst (.int 1)) (.bin .mod (.sub (.var 2) (.cst (.int 20))) (.cst (.int 5)))) .nil)))))) (.cons (.app 4 (.tup (.cons (.sub (.var 3) (.cst (.int 0))) (.cons (.bin .add (.cst (.int 1)) (.bin .mod (.sub (.var 2) (.cst (.int 21))) (.cst (.int 5)))) (.cons (.blt .max2 (.cons (.bin .sub (.cst (.int 0)) (.cst (.int 100))) (.cons (.bin .sub (.sub (.var 3) (.cst (.int 2))) (.cst (.int 1))) .nil))) (.cons (.sub (.var 3) (.cst (.int 3))) .nil)))))) (.cons (.asg (.var 5) (.comp [6] (.cons (.var 6) (.val (.var 4)) .nil (.el (.tup (.cons (.var 3) (.cons (.var 6) .nil))))))) (.cons (.forS (.tup [(.var 7), (.var 6)]) (.val (.bin .add (.var 5) (.comp [6] (.cons (.var 6) (.val (.var 4)) .nil (.el (.tup (.cons (.var 6) (.cons (.var 3) .nil)))))))) (.cons (.asg (.var 8) (.and2 (.cmp .le (.sub (.var 7) (.cst (.int 0))) (.sub (.var 6) (.cst (.int 0)))) (.and2 (.cmp .le (.sub (.var 7) (.cst (.int 1))) (.sub (.var 6) (.cst (.int 1)))) (.and2 (.cmp .le (.sub (.var 7) (.cst (.int 2))) (.sub (.var 6) (.cst (.int 2)))) (.cmp .ge (.sub (.var 7) (.cst (.int 3))) (.sub (.var 6) (.cst (.int 3)))))))) (.cons (.ife (.notE (.call c__law_same_bool (.cons (.call c_rule_covers (.cons (.var 7) (.cons (.var 6) .nil))) (.cons (.var 8) .nil)))) (.cons (.ret (.cst (.bl false))) .nil) .nil) (.cons (.forS (.var 9) (.rng1 (.cst (.int 3))) (.cons (.asg (.var 10) (.call c__law_signal (.cons (.slc (.var 2) (some (.bin .add (.cst (.int 22)) (.bin .mul (.cst (.int 30)) (.var 9)))) none) (.cons (.lst (.cons (.var 7) (.cons (.var 6) .nil))) (.cons (.cst (.int 28)) .nil))))) (.cons (.asg (.var 11) (.call c_active (.cons (.tup (.cons (.cst (.str [97, 110, 121])) (.cons (.tup (.cons (.var 7) .nil)) .nil))) (.cons (.var 10) .nil)))) (.cons (.asg (.var 12) (.comp [13] (.cons (.var 13) (.val (.call c_active (.cons (.tup (.cons (.cst (.str [97, 110, 121])) (.cons (.tup (.cons (.var 6) .nil)) .nil))) (.cons (.var 10) .nil)))) (.cons (.cmp .notin (.var 13) (.var 11)) .nil) (.el (.var 13))))) (.cons (.ife (.and2 (.var 8) (.cmp .ne (.var 12) (.lst .nil))) (.cons (.ret (.cst (.bl false))) .nil) .nil) .nil))))) .nil)))) .nil)))))))) (.cons (.ret (.cst (.bl true))) .nil))
end LW
/-! Run: rules that run the small language by rewriting. -/
namespace AR

section
variable {α β : Type} {C : CallF} {w : Nat} {env env' : Env}
@[simp] theorem bnd_yes (a : α) (f : α → R β) : bnd (.ok a) f = f a := rfl
@[simp] theorem bnd_no (e : Err) (f : α → R β) : bnd (.error e) f = .error e := rfl
@[simp] theorem bnd_ite (c : Prop) [Decidable c] (x y : R α) (f : α → R β) : bnd (if c then x else y) f = if c then bnd x f else bnd y f := by split <;> rfl
@[simp] theorem guard_yes (x : R α) : guardR true x = x := rfl
@[simp] theorem guard_no (x : R α) : guardR false x = stuck := rfl
theorem guard_if {b : Bool} (x : R α) (h : b = true) : guardR b x = x := by rw [h]; rfl
/-! ### expressions -/
def Sl.fl : Sl → Fl
  | .sh => .sh
  | .own => .bo
  | .io => .bi
def getV (env : Env) : Option (Option (Sl × D)) → R (Env × Fl × D)
  | some (some p) => .ok (env, p.1.fl, p.2)
  | _ => stuck
theorem getV_ok (p : Sl × D) : getV env (some (some p)) = .ok (env, p.1.fl, p.2) := rfl
theorem fl_sh : Sl.fl .sh = .sh := rfl
theorem fl_own : Sl.fl .own = .bo := rfl
theorem fl_io : Sl.fl .io = .bi := rfl
theorem ev_var (i : Nat) : ev C (.var i) env = getV env env[i]? := by
  rw [ev]
  cases h : env[i]? with
  | none => rfl
  | some o =>
    cases o with
    | none => rfl
    | some p =>
      obtain ⟨k, d⟩ := p
      cases k <;> rfl
theorem ev_cst (d : D) : ev C (.cst d) env = .ok (env, .sh, d) := by rw [ev]
theorem ev_gfn (x : Nat) : ev C (.gfn x) env = .ok (env, .sh, .fn x) := by rw [ev]
def kTup (r : Env × List D) : R (Env × Fl × D) := guardR (decide (r.2.length ≤ PySem.sizeLine)) (.ok (r.1, .sh, .tup r.2))
theorem kTup_ap (l : List D) : kTup (env, l) = guardR (decide (l.length ≤ PySem.sizeLine)) (.ok (env, .sh, .tup l)) := rfl
def kLst (r : Env × List D) : R (Env × Fl × D) := guardR (decide (r.2.length ≤ PySem.sizeLine)) (.ok (r.1, .fr, .lst r.2))
theorem kLst_ap (l : List D) : kLst (env, l) = guardR (decide (l.length ≤ PySem.sizeLine)) (.ok (env, .fr, .lst l)) := rfl
theorem ev_tup (es : Es) : ev C (.tup es) env = bnd (AR.evs C es env) kTup := by
  rw [ev]
  rfl
theorem ev_lst (es : Es) : ev C (.lst es) env = bnd (AR.evs C es env) kLst := by
  rw [ev]
  rfl
def kRes (e : Env) (r : Fl × D) : R (Env × Fl × D) := .ok (e, r.1, r.2)
theorem kRes_ap (f : Fl) (d : D) : kRes env (f, d) = .ok (env, f, d) := rfl
def kBin2 (op : Bop) (d : D) (y : Env × Fl × D) : R (Env × Fl × D) := bnd (binop op d y.2.2) (kRes y.1)
theorem kBin2_ap (op : Bop) (d d2 : D) (f : Fl) : kBin2 op d (env, f, d2) = bnd (binop op d d2) (kRes env) := rfl
def kBin (C : CallF) (op : Bop) (b : E) (x : Env × Fl × D) : R (Env × Fl × D) := guardR (pk x.2.1 b.pure) (bnd (ev C b x.1) (kBin2 op x.2.2))
theorem kBin_ap (op : Bop) (b : E) (f : Fl) (d : D) : kBin C op b (env, f, d) = guardR (pk f b.pure) (bnd (ev C b env) (kBin2 op d)) := rfl
theorem ev_bin (op : Bop) (a b : E) : ev C (.bin op a b) env = bnd (ev C a env) (kBin C op b) := by
  rw [ev]
  rfl
def negV (x : Env × Fl × D) : R (Env × Fl × D) := match x.2.2 with
  | .int i => .ok (x.1, .sh, .int (-i))
  | _ => stuck
theorem negV_int (fl : Fl) (i : Int) : negV (env, fl, .int i) = .ok (env, .sh, .int (-i)) := rfl
theorem ev_neg (a : E) : ev C (.neg a) env = bnd (ev C a env) negV := by
  rw [ev]
  rfl
def kBl (e : Env) (k : Bool) : R (Env × Fl × D) := .ok (e, .sh, .bl k)
theorem kBl_ap (k : Bool) : kBl env k = .ok (env, .sh, .bl k) := rfl
def kNb (e : Env) (k : Bool) : R (Env × Fl × D) := .ok (e, .sh, .bl (!k))
theorem kNb_ap (k : Bool) : kNb env k = .ok (env, .sh, .bl (!k)) := rfl
def kNot (x : Env × Fl × D) : R (Env × Fl × D) := bnd x.2.2.truth (kNb x.1)
theorem kNot_ap (f : Fl) (d : D) : kNot (env, f, d) = bnd d.truth (kNb env) := rfl
theorem ev_not (a : E) : ev C (.notE a) env = bnd (ev C a env) kNot := by
  rw [ev]
  rfl
def kAnd2 (C : CallF) (b : E) (x : Env × Fl × D) (k : Bool) : R (Env × Fl × D) := if k = true then ev C b x.1 else .ok x
theorem kAnd2_ap (b : E) (x : Env × Fl × D) (k : Bool) : kAnd2 C b x k = if k = true then ev C b x.1 else .ok x := rfl
def kAnd (C : CallF) (b : E) (x : Env × Fl × D) : R (Env × Fl × D) := bnd x.2.2.truth (kAnd2 C b x)
theorem kAnd_ap (b : E) (f : Fl) (d : D) : kAnd C b (env, f, d) = bnd d.truth (kAnd2 C b (env, f, d)) := rfl
theorem ev_and (a b : E) : ev C (.and2 a b) env = bnd (ev C a env) (kAnd C b) := by
  rw [ev]
  rfl
def kOr2 (C : CallF) (b : E) (x : Env × Fl × D) (k : Bool) : R (Env × Fl × D) := if k = true then .ok x else ev C b x.1
theorem kOr2_ap (b : E) (x : Env × Fl × D) (k : Bool) : kOr2 C b x k = if k = true then .ok x else ev C b x.1 := rfl
def kOr (C : CallF) (b : E) (x : Env × Fl × D) : R (Env × Fl × D) := bnd x.2.2.truth (kOr2 C b x)
theorem kOr_ap (b : E) (f : Fl) (d : D) : kOr C b (env, f, d) = bnd d.truth (kOr2 C b (env, f, d)) := rfl
theorem ev_or (a b : E) : ev C (.or2 a b) env = bnd (ev C a env) (kOr C b) := by
  rw [ev]
  rfl
def kIfe2 (C : CallF) (a b : E) (e : Env) (k : Bool) : R (Env × Fl × D) := if k = true then ev C a e else ev C b e
theorem kIfe2_ap (a b : E) (k : Bool) : kIfe2 C a b env k = if k = true then ev C a env else ev C b env := rfl
def kIfe (C : CallF) (a b : E) (x : Env × Fl × D) : R (Env × Fl × D) := bnd x.2.2.truth (kIfe2 C a b x.1)
theorem kIfe_ap (a b : E) (f : Fl) (d : D) : kIfe C a b (env, f, d) = bnd d.truth (kIfe2 C a b env) := rfl
theorem ev_ife (c a b : E) : ev C (.ife c a b) env = bnd (ev C c env) (kIfe C a b) := by
  rw [ev]
  rfl
def kCmp2 (op : Cop) (d : D) (y : Env × Fl × D) : R (Env × Fl × D) := bnd (cmpop op d y.2.2) (kBl y.1)
theorem kCmp2_ap (op : Cop) (d d2 : D) (f : Fl) : kCmp2 op d (env, f, d2) = bnd (cmpop op d d2) (kBl env) := rfl
def kCmp (C : CallF) (op : Cop) (b : E) (x : Env × Fl × D) : R (Env × Fl × D) := guardR (pk x.2.1 b.pure) (bnd (ev C b x.1) (kCmp2 op x.2.2))
theorem kCmp_ap (op : Cop) (b : E) (f : Fl) (d : D) : kCmp C op b (env, f, d) = guardR (pk f b.pure) (bnd (ev C b env) (kCmp2 op d)) := rfl
theorem ev_cmp (op : Cop) (a b : E) : ev C (.cmp op a b) env = bnd (ev C a env) (kCmp C op b) := by
  rw [ev]
  rfl
theorem ev_chain (op op' : Cop) (a b c : E) : ev C (.chain op op' a b c) env = bnd (ev C a env) fun x => guardR (pk x.2.1 b.pure) (bnd (ev C b x.1) fun y => bnd (cmpop op x.2.2 y.2.2) fun k =>
      if k = true then guardR (pk y.2.1 c.pure) (bnd (ev C c y.1) fun z => bnd (cmpop op' y.2.2 z.2.2) fun k' => .ok (z.1, .sh, .bl k')) else .ok (y.1, .sh, .bl false)) := by rw [ev]
def kCall4 (q : Fl × D) (e : Env) : R (Env × Fl × D) := .ok (e, q.1, q.2)
theorem kCall4_ap (q : Fl × D) : kCall4 q env = .ok (env, q.1, q.2) := rfl
def kCall3 (e : Env) (as : List Arg) (q : List D × Fl × D) : R (Env × Fl × D) := bnd (setOuts (refs as) q.1 e) (kCall4 q.2)
theorem kCall3_ap (as : List Arg) (os : List D) (q : Fl × D) : kCall3 env as (os, q) = bnd (setOuts (refs as) os env) (kCall4 q) := rfl
def kCall2 (C : CallF) (f : Nat) (r : Env × List Arg) (as : List (Sl × D)) : R (Env × Fl × D) := guardR (decide (refs r.2).Nodup) (bnd (C f as) (kCall3 r.1 r.2))
theorem kCall2_ap (f : Nat) (l : List Arg) (as : List (Sl × D)) : kCall2 C f (env, l) as = guardR (decide (refs l).Nodup) (bnd (C f as) (kCall3 env l)) := rfl
def kCall (C : CallF) (f : Nat) (r : Env × List Arg) : R (Env × Fl × D) := bnd (resolve r.1 r.2) (kCall2 C f r)
theorem kCall_ap (f : Nat) (l : List Arg) : kCall C f (env, l) = bnd (resolve env l) (kCall2 C f (env, l)) := rfl
theorem ev_call (f : Nat) (es : Es) : ev C (.call f es) env = bnd (evA C es env) (kCall C f) := by
  rw [ev]
  rfl
def kBlt (k : Bt) (r : Env × List D) : R (Env × Fl × D) := bnd (bltop k r.2) (kRes r.1)
theorem kBlt_ap (k : Bt) (l : List D) : kBlt k (env, l) = bnd (bltop k l) (kRes env) := rfl
theorem ev_blt (k : Bt) (es : Es) : ev C (.blt k es) env = bnd (evP C es env) (kBlt k) := by
  rw [ev]
  rfl
def kIsi (ts : List Ty) (x : Env × Fl × D) : R (Env × Fl × D) := bnd (isiop ts x.2.2) (kRes x.1)
theorem kIsi_ap (ts : List Ty) (f : Fl) (d : D) : kIsi ts (env, f, d) = bnd (isiop ts d) (kRes env) := rfl
theorem ev_isi (a : E) (ts : List Ty) : ev C (.isi a ts) env = bnd (ev C a env) (kIsi ts) := by
  rw [ev]
  rfl
def kSh (e : Env) (d : D) : R (Env × Fl × D) := .ok (e, .sh, d)
theorem kSh_ap (d : D) : kSh env d = .ok (env, .sh, d) := rfl
def kSub2 (d : D) (y : Env × Fl × D) : R (Env × Fl × D) := bnd (subop d y.2.2) (kSh y.1)
theorem kSub2_ap (d d2 : D) (f : Fl) : kSub2 d (env, f, d2) = bnd (subop d d2) (kSh env) := rfl
def kSub (C : CallF) (b : E) (x : Env × Fl × D) : R (Env × Fl × D) := guardR (pk x.2.1 b.pure) (bnd (ev C b x.1) (kSub2 x.2.2))
theorem kSub_ap (b : E) (f : Fl) (d : D) : kSub C b (env, f, d) = guardR (pk f b.pure) (bnd (ev C b env) (kSub2 d)) := rfl
theorem ev_sub (a b : E) : ev C (.sub a b) env = bnd (ev C a env) (kSub C b) := by
  rw [ev]
  rfl
def kSlc3 (d : D) (lo : Option Int) (z : Env × Option Int) : R (Env × Fl × D) := bnd (slcop d lo z.2) (kRes z.1)
theorem kSlc3_ap (d : D) (lo hi : Option Int) : kSlc3 d lo (env, hi) = bnd (slcop d lo hi) (kRes env) := rfl
def kSlc2 (C : CallF) (d : D) (hi : Option E) (y : Env × Option Int) : R (Env × Fl × D) := bnd (evO C hi y.1) (kSlc3 d y.2)
theorem kSlc2_ap (d : D) (hi : Option E) (lo : Option Int) : kSlc2 C d hi (env, lo) = bnd (evO C hi env) (kSlc3 d lo) := rfl
def kSlc (C : CallF) (lo hi : Option E) (x : Env × Fl × D) : R (Env × Fl × D) := guardR (pk x.2.1 (pureO lo && pureO hi)) (bnd (evO C lo x.1) (kSlc2 C x.2.2 hi))
theorem kSlc_ap (lo hi : Option E) (f : Fl) (d : D) : kSlc C lo hi (env, f, d) = guardR (pk f (pureO lo && pureO hi)) (bnd (evO C lo env) (kSlc2 C d hi)) := rfl
theorem ev_slc (a : E) (lo hi : Option E) : ev C (.slc a lo hi) env = bnd (ev C a env) (kSlc C lo hi) := by
  rw [ev]
  rfl
def intO (x : Env × Fl × D) : R (Env × Option Int) := match x.2.2 with
  | .int i => .ok (x.1, some i)
  | _ => stuck
theorem intO_int (fl : Fl) (i : Int) : intO (env, fl, .int i) = .ok (env, some i) := rfl
theorem evO_no : evO C none env = .ok (env, none) := by rw [evO]
theorem evO_yes (e : E) : evO C (some e) env = bnd (ev C e env) intO := by
  rw [evO]
  rfl
theorem evs_nil : AR.evs C .nil env = .ok (env, []) := by rw [evs]
def kCons (d : D) (r : Env × List D) : R (Env × List D) := .ok (r.1, d :: r.2)
theorem kCons_ap (d : D) (l : List D) : kCons d (env, l) = .ok (env, d :: l) := rfl
def kEvs (C : CallF) (es : Es) (x : Env × Fl × D) : R (Env × List D) := guardR x.2.1.free (bnd (AR.evs C es x.1) (kCons x.2.2))
theorem kEvs_ap (es : Es) (f : Fl) (d : D) : kEvs C es (env, f, d) = guardR f.free (bnd (AR.evs C es env) (kCons d)) := rfl
theorem evs_cons (e : E) (es : Es) : AR.evs C (.cons e es) env = bnd (ev C e env) (kEvs C es) := by
  rw [evs]
  rfl
theorem evP_nil : evP C .nil env = .ok (env, []) := by rw [evP]
def kEvP (C : CallF) (es : Es) (x : Env × Fl × D) : R (Env × List D) := guardR (pk x.2.1 es.pure) (bnd (evP C es x.1) (kCons x.2.2))
theorem kEvP_ap (es : Es) (f : Fl) (d : D) : kEvP C es (env, f, d) = guardR (pk f es.pure) (bnd (evP C es env) (kCons d)) := rfl
theorem evP_cons (e : E) (es : Es) : evP C (.cons e es) env = bnd (ev C e env) (kEvP C es) := by
  rw [evP]
  rfl
theorem evPar_nil : evPar C .nil env = .ok (env, []) := by rw [evPar]
def kConsF (d : Fl × D) (r : Env × List (Fl × D)) : R (Env × List (Fl × D)) := .ok (r.1, d :: r.2)
theorem kConsF_ap (d : Fl × D) (l : List (Fl × D)) : kConsF d (env, l) = .ok (env, d :: l) := rfl
def kEvPar (C : CallF) (es : Es) (x : Env × Fl × D) : R (Env × List (Fl × D)) := guardR x.2.1.free (bnd (evPar C es x.1) (kConsF x.2))
theorem kEvPar_ap (es : Es) (f : Fl) (d : D) : kEvPar C es (env, f, d) = guardR f.free (bnd (evPar C es env) (kConsF (f, d))) := rfl
theorem evPar_cons (e : E) (es : Es) : evPar C (.cons e es) env = bnd (ev C e env) (kEvPar C es) := by
  rw [evPar]
  rfl
theorem evA_nil : evA C .nil env = .ok (env, []) := by rw [evA]
def kConsA (d : D) (r : Env × List Arg) : R (Env × List Arg) := .ok (r.1, .v d :: r.2)
theorem kConsA_ap (d : D) (l : List Arg) : kConsA d (env, l) = .ok (env, .v d :: l) := rfl
def kEvA (C : CallF) (es : Es) (x : Env × Fl × D) : R (Env × List Arg) := guardR x.2.1.free (bnd (evA C es x.1) (kConsA x.2.2))
theorem kEvA_ap (es : Es) (f : Fl) (d : D) : kEvA C es (env, f, d) = guardR f.free (bnd (evA C es env) (kConsA d)) := rfl
theorem evA_val (e : E) (es : Es) (h : e.isRef = false) : evA C (.cons e es) env = bnd (ev C e env) (kEvA C es) := by
  rw [evA_cons h]
  rfl
def aO (C : CallF) (e : E) (es : Es) (env : Env) : Bool → R (Env × List Arg)
  | false => bnd (ev C e env) (kEvA C es)
  | true => evA C (.cons e es) env
theorem aO_no (e : E) (es : Es) : aO C e es env false = bnd (ev C e env) (kEvA C es) := rfl
theorem evA_c (e : E) (es : Es) : evA C (.cons e es) env = aO C e es env e.isRef := by
  cases h : e.isRef with
  | false => rw [evA_val e es h]; rfl
  | true => rfl
theorem res_nil : resolve env [] = .ok [] := rfl
def kConsS (d : D) (r : List (Sl × D)) : R (List (Sl × D)) := .ok ((.sh, d) :: r)
theorem kConsS_ap (d : D) (r : List (Sl × D)) : kConsS d r = .ok ((.sh, d) :: r) := rfl
theorem res_v (d : D) (as : List Arg) : resolve env (.v d :: as) = bnd (resolve env as) (kConsS d) := rfl
theorem refs_nil : refs [] = [] := rfl
theorem refs_vv (d : D) (as : List Arg) : refs (.v d :: as) = refs as := rfl
theorem outs_nil : setOuts [] [] env = .ok env := rfl
theorem nodup_nil : decide (([] : List Nat).Nodup) = true := rfl
theorem evIfs_nil : evIfs C .nil env = .ok (env, true) := by rw [evIfs]
def kIfs2 (C : CallF) (es : Es) (e : Env) (k : Bool) : R (Env × Bool) := if k = true then evIfs C es e else .ok (e, false)
theorem kIfs2_ap (es : Es) (k : Bool) : kIfs2 C es env k = if k = true then evIfs C es env else .ok (env, false) := rfl
def kIfs (C : CallF) (es : Es) (x : Env × Fl × D) : R (Env × Bool) := bnd x.2.2.truth (kIfs2 C es x.1)
theorem kIfs_ap (es : Es) (f : Fl) (d : D) : kIfs C es (env, f, d) = bnd d.truth (kIfs2 C es env) := rfl
theorem evIfs_cons (e : E) (es : Es) : evIfs C (.cons e es) env = bnd (ev C e env) (kIfs C es) := by
  rw [evIfs]
  rfl
def kEl (x : Env × Fl × D) : R (Env × List D) := guardR x.2.1.free (.ok (x.1, [x.2.2]))
theorem kEl_ap (f : Fl) (d : D) : kEl (env, f, d) = guardR f.free (.ok (env, [d])) := rfl
theorem evCl_el (own : List Nat) (e : E) : evCl C own (.el e) env = bnd (ev C e env) kEl := by
  rw [evCl]
  rfl
def kVal (b : Bool) (x : Env × Fl × D) : R (Env × List D) := guardR (pk x.2.1 b) (bnd (itemsOf x.2.2) (fun l => .ok (x.1, l)))
def kL (e : Env) (l : List D) : R (Env × List D) := .ok (e, l)
theorem kL_ap (l : List D) : kL env l = .ok (env, l) := rfl
theorem kVal_ap (b : Bool) (f : Fl) (d : D) : kVal b (env, f, d) = guardR (pk f b) (bnd (itemsOf d) (kL env)) := rfl
theorem evI_val (e : E) (b : Bool) : evI C (.val e) b env = bnd (ev C e env) (kVal b) := by
  rw [evI]
  rfl
def rngV (x : Env × Fl × D) : R (Env × List D) := match x.2.2 with
  | .int i => guardR (okB i) (.ok (x.1, rangeI 0 i))
  | _ => stuck
theorem rngV_int (fl : Fl) (i : Int) : rngV (env, fl, .int i) = guardR (okB i) (.ok (env, rangeI 0 i)) := rfl
theorem evI_rng1 (e : E) (b : Bool) : evI C (.rng1 e) b env = bnd (ev C e env) rngV := by
  rw [evI]
  rfl
def kEn (e : Env) (l : List D) : R (Env × List D) := .ok (e, enumD 0 l)
theorem kEn_ap (l : List D) : kEn env l = .ok (env, enumD 0 l) := rfl
def kEnm (b : Bool) (x : Env × Fl × D) : R (Env × List D) := guardR (pk x.2.1 b) (bnd (enmOf x.2.2) (kEn x.1))
theorem kEnm_ap (b : Bool) (f : Fl) (d : D) : kEnm b (env, f, d) = guardR (pk f b) (bnd (enmOf d) (kEn env)) := rfl
theorem evI_enm (e : E) (b : Bool) : evI C (.enm e) b env = bnd (ev C e env) (kEnm b) := by
  rw [evI]
  rfl
def kZ2 (b : Bool) (d : D) (y : Env × Fl × D) : R (Env × List D) := guardR (pk y.2.1 b) (bnd (zip2Of d y.2.2) (kL y.1))
theorem kZ2_ap (b : Bool) (d d2 : D) (f : Fl) : kZ2 b d (env, f, d2) = guardR (pk f b) (bnd (zip2Of d d2) (kL env)) := rfl
def kZ (C : CallF) (c : E) (b : Bool) (x : Env × Fl × D) : R (Env × List D) := guardR (pk x.2.1 (b && c.pure)) (bnd (ev C c x.1) (kZ2 b x.2.2))
theorem kZ_ap (c : E) (b : Bool) (f : Fl) (d : D) : kZ C c b (env, f, d) = guardR (pk f (b && c.pure)) (bnd (ev C c env) (kZ2 b d)) := rfl
theorem evI_zip2 (a c : E) (b : Bool) : evI C (.zip2 a c) b env = bnd (ev C a env) (kZ C c b) := by
  rw [evI]
  rfl
def mutO : Option (Option (Sl × D)) → Bool
  | some (some (.own, _)) => true
  | some (some (.io, _)) => true
  | _ => false
theorem isMut_eq (i : Nat) : isMut env i = mutO env[i]? := by
  unfold isMut mutO
  rfl
theorem any_nil : anyMut env [] = false := rfl
theorem any_cons (i : Nat) (is : List Nat) : anyMut env (i :: is) = (mutO env[i]? || anyMut env is) := by
  show (isMut env i || _) = _
  rw [isMut_eq]; rfl
theorem set_eq (i : Nat) (k : Sl) (d : D) {o : Option (Sl × D)} (h : env[i]? = some o) (h2 : isIo o = false) : setV i k d env = .ok (env.set i (some (k, d))) := by
  unfold setV
  rw [h]
  simp [h2]
def setO (env : Env) (i : Nat) (k : Sl) (d : D) : Option (Option (Sl × D)) → R Env
  | some o => if isIo o = true then stuck else .ok (env.set i (some (k, d)))
  | none => stuck
theorem setO_ok (i : Nat) (k : Sl) (d : D) (o : Option (Sl × D)) : setO env i k d (some o) = if isIo o = true then stuck else .ok (env.set i (some (k, d))) := rfl
theorem setV_o (i : Nat) (k : Sl) (d : D) : setV i k d env = setO env i k d env[i]? := by
  unfold setV setO
  cases env[i]? <;> rfl
theorem isIo_no : isIo none = false := rfl
theorem isIo_sh (d : D) : isIo (some (.sh, d)) = false := rfl
theorem isIo_own (d : D) : isIo (some (.own, d)) = false := rfl
def frzO (env : Env) (i : Nat) (is : List Nat) : Option (Option (Sl × D)) → R Env
  | some (some (.own, d)) => freeze is (env.set i (some (.sh, d)))
  | some (some (.io, _)) => stuck
  | _ => freeze is env
theorem frz_nil : freeze [] env = .ok env := rfl
theorem frz_cons (i : Nat) (is : List Nat) : freeze (i :: is) env = frzO env i is env[i]? := by
  rw [freeze]
  rfl
theorem frzO_own (i : Nat) (is : List Nat) (d : D) : frzO env i is (some (some (.own, d))) = freeze is (env.set i (some (.sh, d))) := rfl
theorem frzO_sh (i : Nat) (is : List Nat) (d : D) : frzO env i is (some (some (.sh, d))) = freeze is env := rfl
theorem frzO_no (i : Nat) (is : List Nat) : frzO env i is (some none) = freeze is env := rfl
def plainF (C : CallF) (e : E) (is : List Nat) (env : Env) (r : Env × Fl × D) : R (Env × Fl × D) := if r.2.2.plain = true then .ok (env, .sh, r.2.2) else bnd (freeze is env) (ev C e)
theorem plainF_ap (e : E) (is : List Nat) (e2 : Env) (f : Fl) (d : D) : plainF C e is env (e2, f, d) = if d.plain = true then .ok (env, .sh, d) else bnd (freeze is env) (ev C e) := rfl
def pureF (C : CallF) (e : E) (is : List Nat) (env : Env) : Bool → R (Env × Fl × D)
  | true => bnd (ev C e (iceE env)) (plainF C e is env)
  | false => bnd (freeze is env) (ev C e)
theorem evF_eq (e : E) (is : List Nat) : evF C e is env = pureF C e is env (anyMut env is && e.pure) := by
  unfold evF pureF
  cases h : (anyMut env is && e.pure) <;> simp [plainF]
  rfl
theorem pureF_no (e : E) (is : List Nat) : pureF C e is env false = bnd (freeze is env) (ev C e) := rfl
theorem pureF_yes (e : E) (is : List Nat) : pureF C e is env true = bnd (ev C e (iceE env)) (plainF C e is env) := rfl
def kTr (e : Env) (k : Bool) : R (Env × Bool) := .ok (e, k)
theorem kTr_ap (k : Bool) : kTr env k = .ok (env, k) := rfl
def kT0 (e : Env) (r : Env × Fl × D) : R (Env × Bool) := bnd r.2.2.truth (kTr e)
theorem kT0_ap (e2 : Env) (f : Fl) (d : D) : kT0 env (e2, f, d) = bnd d.truth (kTr env) := rfl
def kT1 (r : Env × Fl × D) : R (Env × Bool) := bnd r.2.2.truth (kTr r.1)
theorem kT1_ap (f : Fl) (d : D) : kT1 (env, f, d) = bnd d.truth (kTr env) := rfl
def kT2 (C : CallF) (e : E) (env0 : Env) : R (Env × Bool) := bnd (ev C e env0) kT1
theorem kT2_ap (e : E) : kT2 C e env = bnd (ev C e env) kT1 := rfl
def pureT (C : CallF) (e : E) (env : Env) : Bool → R (Env × Bool)
  | true => bnd (ev C e (iceE env)) (kT0 env)
  | false => bnd (freeze e.escP env) (kT2 C e)
theorem evT_eq (e : E) : evT C e env = pureT C e env (anyMut env e.escP && e.pure) := by
  unfold evT pureT
  cases h : (anyMut env e.escP && e.pure)
  · simp
    rfl
  · simp
    rfl
theorem pureT_no (e : E) : pureT C e env false = bnd (freeze e.escP env) (kT2 C e) := rfl
theorem pureT_yes (e : E) : pureT C e env true = bnd (ev C e (iceE env)) (kT0 env) := rfl
theorem ice_nil : iceE [] = [] := rfl
theorem ice_some (p : Sl × D) (env : Env) : iceE (some p :: env) = some (.sh, p.2) :: iceE env := rfl
theorem ice_none (env : Env) : iceE (none :: env) = none :: iceE env := rfl
def iceO : Option (Sl × D) → Option (Sl × D)
  | some (_, d) => some (.sh, d)
  | none => none
theorem iceO_some (p : Sl × D) : iceO (some p) = some (.sh, p.2) := rfl
theorem iceO_none : iceO none = none := rfl
theorem ice_cons (o : Option (Sl × D)) (env : Env) : iceE (o :: env) = iceO o :: iceE env := by
  cases o <;> rfl
theorem new_sh (d : D) : newSl .sh d = .sh := by cases d <;> rfl
theorem new_fr (ds : List D) : newSl .fr (.lst ds) = .own := rfl
theorem eqv_ii (i j : Int) : D.eqv (.int i) (.int j) = (i == j) := by rw [D.eqv]
theorem eqv_bb (i j : Bool) : D.eqv (.bl i) (.bl j) = (i == j) := by rw [D.eqv]
theorem eqv_ib (i : Int) (j : Bool) : D.eqv (.int i) (.bl j) = (i == b2i j) := by rw [D.eqv]
theorem eqv_bi (i : Bool) (j : Int) : D.eqv (.bl i) (.int j) = (b2i i == j) := by rw [D.eqv]
theorem eqv_ss (i j : List Nat) : D.eqv (.str i) (.str j) = (i == j) := by rw [D.eqv]
theorem eqv_ll (i j : List D) : D.eqv (.lst i) (.lst j) = D.eqvs i j := by rw [D.eqv]
theorem eqv_tt (i j : List D) : D.eqv (.tup i) (.tup j) = D.eqvs i j := by rw [D.eqv]
theorem eqv_nn : D.eqv .non .non = true := by rw [D.eqv]
theorem eqvs_nn : D.eqvs [] [] = true := by rw [D.eqvs]
theorem eqvs_cc (x y : D) (xs ys : List D) : D.eqvs (x :: xs) (y :: ys) = (D.eqv x y && D.eqvs xs ys) := by rw [D.eqvs]
theorem eqvs_r (xs : List D) : D.eqvs xs [] = xs.isEmpty := by cases xs <;> simp [D.eqvs]
theorem flat_int (n : Nat) (i : Int) : D.flat n (.int i) = true := by cases n <;> rw [D.flat]
theorem flat_bl (n : Nat) (i : Bool) : D.flat n (.bl i) = true := by cases n <;> rw [D.flat]
theorem flat_non (n : Nat) : D.flat n .non = true := by cases n <;> rw [D.flat]
theorem flat_str (n : Nat) (s : List Nat) : D.flat n (.str s) = s.all fun c => decide (c < 1114112) := by cases n <;> rw [D.flat]
theorem flat_lst (n : Nat) (ds : List D) : D.flat (n + 1) (.lst ds) = D.flats n ds := by rw [D.flat]
theorem flat_tup (n : Nat) (ds : List D) : D.flat (n + 1) (.tup ds) = D.flats n ds := by rw [D.flat]
theorem flats_nil (n : Nat) : D.flats n [] = true := by rw [D.flats]
theorem flats_cons (n : Nat) (d : D) (ds : List D) : D.flats n (d :: ds) = (D.flat n d && D.flats n ds) := by rw [D.flats]
theorem flats_ints (n : Nat) : ∀ l : List Int, D.flats n (l.map .int) = true
  | [] => by rw [List.map_nil, D.flats]
  | x :: l => by rw [List.map_cons, D.flats, flat_int, flats_ints n l]; rfl
theorem bind_var (i : Nat) (d : D) : bindT (.var i) d env = setV i .sh d env := by rw [bindT]
theorem bind_tup (ts : List T) (ds : List D) : bindT (.tup ts) (.tup ds) env = bindTs ts ds env := by rw [bindT]
theorem binds_nil : bindTs [] [] env = .ok env := by rw [bindTs]
theorem binds_cons (t : T) (ts : List T) (d : D) (ds : List D) : bindTs (t :: ts) (d :: ds) env = bnd (bindT t d env) (bindTs ts ds) := by rw [bindTs]
def appO (env : Env) (i : Nat) (d : D) : Option (Option (Sl × D)) → R Flow
  | some (some (s, .lst ds)) => guardR (s != .sh && decide (ds.length < PySem.sizeLine)) (.ok (.nx (env.set i (some (s, .lst (ds ++ [d]))))))
  | _ => stuck
theorem appO_own (i : Nat) (d : D) (ds : List D) : appO env i d (some (some (.own, .lst ds))) = guardR (decide (ds.length < PySem.sizeLine)) (.ok (.nx (env.set i (some (.own, .lst (ds ++ [d])))))) := rfl
theorem fre_sh : Fl.free .sh = true := rfl
theorem fre_fr : Fl.free .fr = true := rfl
theorem pk_sh (b : Bool) : pk .sh b = true := rfl
theorem pk_fr (b : Bool) : pk .fr b = true := rfl
theorem pk_bo (b : Bool) : pk .bo b = b := rfl
theorem pk_bi (b : Bool) : pk .bi b = b := rfl
theorem out_sh : Fl.out .sh = .ok .sh := rfl
theorem out_fr : Fl.out .fr = .ok .fr := rfl
theorem out_bo : Fl.out .bo = .ok .fr := rfl
def subO {α : Type} (f : α → D) : Option α → R D
  | some d => .ok (f d)
  | none => stuck
theorem subO_ok {α : Type} (f : α → D) (a : α) : subO f (some a) = .ok (f a) := rfl
theorem sub_tup (ds : List D) (i : Int) : subop (.tup ds) (.int i) = subO id (L2.atI ds i) := by
  rw [subop.eq_1]
  cases L2.atI ds i <;> rfl
theorem sub_lst (ds : List D) (i : Int) : subop (.lst ds) (.int i) = subO id (L2.atI ds i) := by
  rw [subop.eq_2]
  cases L2.atI ds i <;> rfl
theorem sub_scr (ns : List Int) (i : Int) : subop (.scr ns) (.int i) = subO .int (L2.atI ns i) := by
  rw [subop.eq_3]
  cases L2.atI ns i <;> rfl
def kComp (own : List Nat) (e : Env) (r : Env × List D) : R (Env × Fl × D) := guardR (decide (r.2.length ≤ PySem.sizeLine)) (.ok (keepO own e r.1, .fr, .lst r.2))
theorem kComp_ap (own : List Nat) (e : Env) (l : List D) : kComp own e (env, l) = guardR (decide (l.length ≤ PySem.sizeLine)) (.ok (keepO own e env, .fr, .lst l)) := rfl
theorem ev_comp (own : List Nat) (cl : Cl) : ev C (.comp own cl) env = bnd (evCl C own cl (wipeE own env)) (kComp own env) := by
  rw [ev]
  rfl
def compB (C : CallF) (own : List Nat) (t : T) (ifs : Es) (e : E) (env1 : Env) (d : D) : R (Env × List D) := bnd (bindT t d env1) fun env2 => bnd (evIfs C ifs env2) fun q => if q.2 = true then evCl C own (.el e) q.1 else .ok (q.1, [])
def kColl (own : List Nat) (f : Env → D → R (Env × List D)) (r : Env × List D) : R (Env × List D) := collect own f r.2 r.1
theorem kColl_ap (own : List Nat) (f : Env → D → R (Env × List D)) (l : List D) : kColl own f (env, l) = collect own f l env := rfl
theorem evCl_one (own : List Nat) (t : T) (it : It) (ifs : Es) (e : E) : evCl C own (.cons t it ifs (.el e)) env = bnd (evI C it (ifs.pure && e.pure) env) (kColl own (compB C own t ifs e)) := by
  rw [evCl]
  rfl
def kQ (C : CallF) (own : List Nat) (e : E) (q : Env × Bool) : R (Env × List D) := if q.2 = true then evCl C own (.el e) q.1 else .ok (q.1, [])
theorem kQ_ap (own : List Nat) (e : E) (k : Bool) : kQ C own e (env, k) = if k = true then evCl C own (.el e) env else .ok (env, []) := rfl
def kB (C : CallF) (own : List Nat) (ifs : Es) (e : E) (env2 : Env) : R (Env × List D) := bnd (evIfs C ifs env2) (kQ C own e)
theorem kB_ap (own : List Nat) (ifs : Es) (e : E) : kB C own ifs e env = bnd (evIfs C ifs env) (kQ C own e) := rfl
theorem compB_ap (own : List Nat) (t : T) (ifs : Es) (e : E) (d : D) : compB C own t ifs e env d = bnd (bindT t d env) (kB C own ifs e) := rfl
/-! ### statements -/
def forB (C : CallF) (w : Nat) (t : T) (b : Ss) (env1 : Env) (d : D) : R Flow := bnd (bindT t d env1) (execs C w b)
theorem forB_ap (t : T) (b : Ss) (d : D) : forB C w t b env d = bnd (bindT t d env) (execs C w b) := rfl
def kFor2 (C : CallF) (w : Nat) (t : T) (b : Ss) (r : Env × List D) : R Flow := forL (forB C w t b) r.2 r.1
theorem kFor2_ap (t : T) (b : Ss) (l : List D) : kFor2 C w t b (env, l) = forL (forB C w t b) l env := rfl
def kFor (C : CallF) (w : Nat) (t : T) (it : It) (b : Ss) (env0 : Env) : R Flow := bnd (evI C it false env0) (kFor2 C w t b)
theorem kFor_ap (t : T) (it : It) (b : Ss) : kFor C w t it b env = bnd (evI C it false env) (kFor2 C w t b) := rfl
theorem exec_for (t : T) (it : It) (b : Ss) : exec C w (.forS t it b) env = bnd (freeze it.esc env) (kFor C w t it b) := by
  rw [exec]
  rfl
def whlB (C : CallF) (w : Nat) (c : E) (b : Ss) (n : Nat) (env : Env) : R Flow := whlL (evT C c) (execs C w b) n env
theorem exec_whl (c : E) (b : Ss) : exec C w (.whl c b) env = whlB C w c b w env := by
  rw [exec]
  rfl
def kNx (e : Env) : R Flow := .ok (.nx e)
theorem kNx_ap : kNx env = .ok (.nx env) := rfl
def kAsg (i : Nat) (r : Env × Fl × D) : R Flow := guardR r.2.1.free (bnd (setV i (newSl r.2.1 r.2.2) r.2.2 r.1) kNx)
theorem kAsg_ap (i : Nat) (f : Fl) (d : D) : kAsg i (env, f, d) = guardR f.free (bnd (setV i (newSl f d) d env) kNx) := rfl
theorem exec_asgv (i : Nat) (e : E) : exec C w (.asg (.var i) e) env = bnd (evF C e e.esc env) (kAsg i) := by
  rw [exec]
  rfl
def kAsgT (ts : List T) (r : Env × Fl × D) : R Flow := guardR r.2.1.free (bnd (bindT (.tup ts) r.2.2 r.1) kNx)
theorem kAsgT_ap (ts : List T) (f : Fl) (d : D) : kAsgT ts (env, f, d) = guardR f.free (bnd (bindT (.tup ts) d env) kNx) := rfl
theorem exec_asgt (ts : List T) (e : E) : exec C w (.asg (.tup ts) e) env = bnd (evF C e e.esc env) (kAsgT ts) := by
  rw [exec]
  · rfl
  · intro i z
    cases z
def kPar2 (is : List Nat) (r : Env × List (Fl × D)) : R Flow := bnd (storePar is r.2 r.1) kNx
theorem kPar2_ap (is : List Nat) (l : List (Fl × D)) : kPar2 is (env, l) = bnd (storePar is l env) kNx := rfl
def kPar (C : CallF) (is : List Nat) (es : Es) (env0 : Env) : R Flow := bnd (evPar C es env0) (kPar2 is)
theorem kPar_ap (is : List Nat) (es : Es) : kPar C is es env = bnd (evPar C es env) (kPar2 is) := rfl
theorem exec_par (is : List Nat) (es : Es) : exec C w (.par is es) env = bnd (freeze es.esc env) (kPar C is es) := by
  rw [exec]
  rfl
theorem stp_nil : storePar [] [] env = .ok env := rfl
def kStp (i : Nat) (r : Fl × D) (e : Env) : R Env := setV i (newSl r.1 r.2) r.2 e
theorem kStp_ap (i : Nat) (f : Fl) (d : D) : kStp i (f, d) env = setV i (newSl f d) d env := rfl
theorem stp_cons (i : Nat) (is : List Nat) (r : Fl × D) (rs : List (Fl × D)) : storePar (i :: is) (r :: rs) env = bnd (storePar is rs env) (kStp i r) := rfl
def kApp (i : Nat) (r : Env × Fl × D) : R Flow := guardR r.2.1.free (appO r.1 i r.2.2 r.1[i]?)
theorem kApp_ap (i : Nat) (f : Fl) (d : D) : kApp i (env, f, d) = guardR f.free (appO env i d env[i]?) := rfl
theorem exec_app (i : Nat) (e : E) : exec C w (.app i e) env = guardR (isMut env i) (bnd (evF C e e.esc env) (kApp i)) := by
  rw [exec]
  rfl
def augV (i : Nat) (op : Bop) (a : Int) (r : Env × Fl × D) : R Flow := match r.2.2 with
  | .int b => bnd (binop op (.int a) (.int b)) fun q => bnd (setV i .sh q.2 r.1) kNx
  | _ => stuck
theorem augV_int (i : Nat) (a b : Int) (f : Fl) : augV i .add a (env, f, .int b) = bnd (setV i .sh (.int (a + b)) env) kNx := rfl
def augO (C : CallF) (e : E) (i : Nat) (op : Bop) (env : Env) : Option (Option (Sl × D)) → R Flow
  | some (some (.sh, .int a)) => bnd (evF C e e.escP env) (augV i op a)
  | _ => stuck
theorem augO_int (e : E) (i : Nat) (op : Bop) (a : Int) : augO C e i op env (some (some (.sh, .int a))) = bnd (evF C e e.escP env) (augV i op a) := rfl
theorem exec_aug (i : Nat) (op : Bop) (e : E) : exec C w (.aug i op e) env = augO C e i op env env[i]? := by
  rw [exec]
  rfl
def kRet (r : Env × Fl × D) : R Flow := .ok (.rt r.1 r.2.1 r.2.2)
theorem kRet_ap (f : Fl) (d : D) : kRet (env, f, d) = .ok (.rt env f d) := rfl
theorem exec_ret (e : E) : exec C w (.ret e) env = bnd (evF C e e.escR env) kRet := by
  rw [exec]
  rfl
theorem exec_ret0 : exec C w .ret0 env = .ok (.rt env .sh .non) := by rw [exec]
def kIfS (C : CallF) (w : Nat) (a b : Ss) (t : Env × Bool) : R Flow := if t.2 = true then execs C w a t.1 else execs C w b t.1
theorem kIfS_ap (a b : Ss) (k : Bool) : kIfS C w a b (env, k) = if k = true then execs C w a env else execs C w b env := rfl
theorem exec_ife (c : E) (a b : Ss) : exec C w (.ife c a b) env = bnd (evT C c env) (kIfS C w a b) := by
  rw [exec]
  rfl
def kEx (r : Env × Fl × D) : R Flow := .ok (.nx r.1)
theorem kEx_ap (f : Fl) (d : D) : kEx (env, f, d) = .ok (.nx env) := rfl
theorem exec_ex (e : E) : exec C w (.ex e) env = bnd (evF C e e.esc env) kEx := by
  rw [exec]
  rfl
theorem exec_pass : exec C w .pass env = .ok (.nx env) := by rw [exec]
def thenS (C : CallF) (w : Nat) (ss : Ss) : Flow → R Flow
  | .nx env2 => execs C w ss env2
  | .rt env2 fl d => .ok (.rt env2 fl d)
theorem execs_nil : execs C w .nil env = .ok (.nx env) := by rw [execs]
theorem execs_cons (s : S) (ss : Ss) : execs C w (.cons s ss) env = bnd (exec C w s env) (thenS C w ss) := by
  rw [execs]
  congr
theorem thenS_nx (ss : Ss) : thenS C w ss (.nx env) = execs C w ss env := rfl
theorem thenS_rt (ss : Ss) (fl : Fl) (d : D) : thenS C w ss (.rt env fl d) = .ok (.rt env fl d) := rfl
theorem callN_at {tab : Nat → Option Fn} {n k : Nat} {F : Fn} {as : List (Sl × D)} (h : tab k = some F) (h1 : as.length = F.np) (h2 : kinds as 0 = F.io) (h3 : (as.all fun p => p.1 != .own) = true) : callN tab w (n + 1) k as =
    bnd (execs (callN tab w n) w F.body (as.map some ++ List.replicate (F.ns - F.np) none)) fun f => match f with
      | .nx env => bnd (outs env F.io) fun os => .ok (os, .sh, .non)
      | .rt env fl d => bnd (outs env F.io) fun os => bnd fl.out fun fl' => .ok (os, fl', d) := by
  rw [callN, h]
  dsimp only
  rw [decide_eq_true h1, decide_eq_true h2, h3]
  rfl
/-- a def without lists to be changed, run -/
theorem callN_run {tab : Nat → Option Fn} {n k : Nat} {F : Fn} {as : List (Sl × D)} {r : Fl × D} (h : tab k = some F) (hio : F.io = []) (h1 : as.length = F.np) (h3 : (as.all fun p => p.1 == .sh) = true)
    (he : ∃ env fl, execs (callN tab w n) w F.body (as.map some ++ List.replicate (F.ns - F.np) none) = .ok (.rt env fl r.2) ∧ fl.out = .ok r.1) : callN tab w (n + 1) k as = .ok ([], r.1, r.2) := by
  have hk : ∀ (as : List (Sl × D)) (n : Nat), (as.all fun p => p.1 == .sh) = true → kinds as n = [] := fun as => by
    induction as with
    | nil => intros; rfl
    | cons p as ih =>
      intro n hh
      obtain ⟨k, d⟩ := p
      rw [List.all_cons] at hh
      obtain ⟨a, b⟩ := and2 hh
      have a : k = .sh := by simpa using a
      subst a
      rw [kinds]
      exact ih _ b
  have hw : ∀ (as : List (Sl × D)), (as.all fun p => p.1 == .sh) = true → (as.all fun p => p.1 != .own) = true := fun as h => by
    rw [List.all_eq_true] at h ⊢
    intro p hp
    have := h p hp
    have e : p.1 = .sh := by simpa using this
    rw [e]; rfl
  obtain ⟨env, fl, e1, e2⟩ := he
  rw [callN_at h h1 (by rw [hk as 0 h3, hio]) (hw as h3), e1, hio]
  simp only [bnd_yes, outs, e2]
/-- how a def ends that has no lists to be changed -/
def kEnd (d : D) (fl : Fl) : R (List D × Fl × D) := .ok ([], fl, d)
theorem kEnd_ap (d : D) (fl : Fl) : kEnd d fl = .ok ([], fl, d) := rfl
def endC : Flow → R (List D × Fl × D)
  | .nx _ => .ok ([], .sh, .non)
  | .rt _ fl d => bnd fl.out (kEnd d)
theorem endC_nx : endC (.nx env) = .ok ([], .sh, .non) := rfl
theorem endC_rt (fl : Fl) (d : D) : endC (.rt env fl d) = bnd fl.out (kEnd d) := rfl
theorem callN_ev {tab : Nat → Option Fn} {n k : Nat} {F : Fn} {as : List (Sl × D)} (h : tab k = some F) (hio : F.io = []) (h1 : as.length = F.np) (h3 : (as.all fun p => p.1 == .sh) = true) : callN tab w (n + 1) k as = bnd (execs (callN tab w n) w F.body (as.map some ++ List.replicate (F.ns - F.np) none)) endC := by
  have hk : ∀ (as : List (Sl × D)) (n : Nat), (as.all fun p => p.1 == .sh) = true → kinds as n = [] := fun as => by
    induction as with
    | nil => intros; rfl
    | cons p as ih =>
      intro n hh
      obtain ⟨k, d⟩ := p
      rw [List.all_cons] at hh
      obtain ⟨a, b⟩ := and2 hh
      have a : k = .sh := by simpa using a
      subst a
      rw [kinds]
      exact ih _ b
  have hw : ∀ (as : List (Sl × D)), (as.all fun p => p.1 == .sh) = true → (as.all fun p => p.1 != .own) = true := fun as h => by
    rw [List.all_eq_true] at h ⊢
    intro p hp
    have := h p hp
    have e : p.1 = .sh := by simpa using this
    rw [e]; rfl
  rw [callN_at h h1 (by rw [hk as 0 h3, hio]) (hw as h3), hio]
  congr
/-! ### loops -/
theorem forL_ind {b : Env → D → R Flow} {l : List D} {env : Env} (I : Nat → Env → Prop) (h0 : I 0 env) (hs : ∀ (i : Nat) d e, l[i]? = some d → I i e → ∃ e', b e d = .ok (.nx e') ∧ I (i + 1) e') : ∃ e', forL b l env = .ok (.nx e') ∧ I l.length e' := by
  induction l generalizing env I with
  | nil => exact ⟨env, rfl, h0⟩
  | cons d l ih =>
    obtain ⟨e1, h1, h2⟩ := hs 0 d env rfl h0
    obtain ⟨e2, h3, h4⟩ := ih (env := e1) (fun i => I (i + 1)) h2 fun i d e hd hI => hs (i + 1) d e (by simpa using hd) hI
    refine ⟨e2, ?_, h4⟩
    rw [forL, h1]
    exact h3
/-- where the loop may end early -/
def FlI (I : Env → Prop) (J : Env → Fl → D → Prop) : Flow → Prop
  | .nx e => I e
  | .rt e fl d => J e fl d
theorem forL_ret {b : Env → D → R Flow} {l : List D} {env : Env} (I : Nat → Env → Prop) (J : Env → Fl → D → Prop) (h0 : I 0 env) (hs : ∀ (i : Nat) d e, l[i]? = some d → I i e → ∃ f, b e d = .ok f ∧ FlI (I (i + 1)) J f) : ∃ f, forL b l env = .ok f ∧ FlI (I l.length) J f := by
  induction l generalizing env I with
  | nil => exact ⟨.nx env, rfl, h0⟩
  | cons d l ih =>
    obtain ⟨f, h1, h2⟩ := hs 0 d env rfl h0
    cases f with
    | nx e1 =>
      obtain ⟨f2, h3, h4⟩ := ih (env := e1) (fun i => I (i + 1)) h2 fun i d e hd hI => hs (i + 1) d e (by simpa using hd) hI
      refine ⟨f2, ?_, h4⟩
      rw [forL, h1]
      exact h3
    | rt e fl d =>
      refine ⟨.rt e fl d, ?_, h2⟩
      rw [forL, h1]
      rfl
/-- a comprehension whose turns leave all but its own names -/
theorem collect_map {own : List Nat} {f : Env → D → R (Env × List D)} {env : Env} {g : D → List D} : ∀ {ds : List D}, (∀ d ∈ ds, ∃ env', f env d = .ok (env', g d) ∧ keepO own env env' = env) → collect own f ds env = .ok (env, ds.flatMap g)
  | [], _ => rfl
  | d :: ds, h => by
    obtain ⟨env', h1, h2⟩ := h d List.mem_cons_self
    rw [collect, h1]
    show bnd (collect own f ds (keepO own env env')) _ = _
    rw [h2, collect_map fun d' hd => h d' (List.mem_cons_of_mem _ hd)]
    rfl
/-- the same, each item by its place -/
theorem collect_ix {own : List Nat} {f : Env → D → R (Env × List D)} {env : Env} : ∀ {ds : List D} {out : List (List D)}, ds.length = out.length → (∀ (i : Nat) d l, ds[i]? = some d → out[i]? = some l → ∃ env', f env d = .ok (env', l) ∧ keepO own env env' = env) → collect own f ds env = .ok (env, out.flatten)
  | [], [], _, _ => rfl
  | [], _ :: _, h, _ => by cases h
  | _ :: _, [], h, _ => by cases h
  | d :: ds, l :: out, hl, h => by
    obtain ⟨env', h1, h2⟩ := h 0 d l rfl rfl
    rw [collect, h1]
    show bnd (collect own f ds (keepO own env env')) _ = _
    rw [h2, collect_ix (by simpa using hl) fun i d l e1 e2 => h (i + 1) d l (by simpa using e1) (by simpa using e2)]
    rfl
theorem rangeI_get {lo hi : Int} {i : Nat} {d : D} (h : (rangeI lo hi)[i]? = some d) : d = .int (lo + i) ∧ lo + i < hi := by
  unfold rangeI at h
  rw [List.getElem?_map] at h
  obtain ⟨c, c1, c2⟩ := Option.map_eq_some_iff.mp h
  have hi' : i < (hi - lo).toNat := by
    rcases Nat.lt_or_ge i (hi - lo).toNat with z | z
    · exact z
    · rw [List.getElem?_eq_none (by simpa using z)] at c1; cases c1
  rw [List.getElem?_range hi'] at c1
  cases c1
  exact ⟨c2.symm, by omega⟩
theorem rangeI_len (lo hi : Int) : (rangeI lo hi).length = (hi - lo).toNat := by
  unfold rangeI
  simp
theorem atI_of {α : Type} {l : List α} {i : Int} {a : α} (h0 : 0 ≤ i) (h : l[i.toNat]? = some a) : L2.atI l i = some a := by
  obtain ⟨k, rfl⟩ : ∃ k : Nat, i = k := ⟨i.toNat, by omega⟩
  exact L2.atI_nat (by simpa using h)
end
end AR

namespace LW
open AR
variable {w : Nat} {tab : Nat → Option Fn}
def stepA (h r l f c s : Int) (a : Bool) : Bool × Int :=
  if a then (let c' := if s < l then c + 1 else 0; if c' = f then (false, 0) else (true, c'))
  else (let c' := if h ≤ s then c + 1 else 0; if c' = r then (true, 0) else (false, c'))
theorem step_run {k : Nat} (ht : tab k = some ⟨3, [], 9, B_step⟩) (n : Nat) (h r l f c s : Int) (a : Bool) : callN tab w (n+1) k [(.sh, .tup [.int h, .int r, .int l, .int f]), (.sh, .tup [.bl a, .int c]), (.sh, .int s)] = .ok ([], .sh, .tup [.bl (stepA h r l f c s a).1, .int (stepA h r l f c s a).2]) := by
  rw [callN_ev ht rfl rfl rfl]
  cases a
  · simp [B_step, stepA, kTup_ap, kLst_ap, kRes_ap, kBin2_ap, kBin_ap, kBl_ap, kNb_ap, kNot_ap, kAnd2_ap, kAnd_ap, kOr2_ap, kOr_ap, kIfe2_ap, kIfe_ap, kCmp2_ap, kCmp_ap, kCall4_ap, kCall3_ap, kCall2_ap, kCall_ap, kBlt_ap, kIsi_ap, kSh_ap, kSub2_ap, kSub_ap, kSlc3_ap, kSlc2_ap, kSlc_ap, kCons_ap, kEvs_ap, kEvP_ap, kConsF_ap, kEvPar_ap, kConsA_ap, kEvA_ap, kConsS_ap, kIfs2_ap, kIfs_ap, kEl_ap, kL_ap, kVal_ap, kEn_ap, kEnm_ap, kZ2_ap, kZ_ap, kTr_ap, kT0_ap, kT1_ap, kT2_ap, kComp_ap, kColl_ap, kQ_ap, kB_ap, kFor2_ap, kFor_ap, kNx_ap, kAsg_ap, kAsgT_ap, kPar2_ap, kPar_ap, kStp_ap, kApp_ap, kRet_ap, kIfS_ap, kEx_ap, kEnd_ap, ev_var, getV_ok, fl_sh, fl_own, fl_io, ev_cst, ev_gfn, ev_tup, ev_lst, ev_bin, negV_int, ev_neg, ev_not, ev_and, ev_or, ev_ife, ev_cmp, ev_call, ev_blt, ev_isi, ev_sub, ev_slc, intO_int, evO_no, evO_yes, AR.evs_nil, AR.evs_cons, evP_nil, evP_cons, evPar_nil, evPar_cons, evA_nil, evA_c, aO_no, E.isRef.eq_1, E.isRef.eq_2, res_nil, res_v, refs_nil, refs_vv, outs_nil, nodup_nil, evIfs_nil, evIfs_cons, evCl_el, ev_comp, evCl_one, evI_val, rngV_int, evI_rng1, evI_enm, evI_zip2, isMut_eq, any_nil, any_cons, mutO.eq_1, mutO.eq_2, mutO.eq_3, setO_ok, setV_o, isIo_no, isIo_sh, isIo_own, frz_nil, frz_cons, frzO_own, frzO_sh, frzO_no, plainF_ap, evF_eq, pureF_no, pureF_yes, evT_eq, pureT_no, pureT_yes, ice_nil, ice_cons, iceO_some, iceO_none, new_sh, new_fr, appO_own, fre_sh, fre_fr, pk_sh, pk_fr, pk_bo, pk_bi, out_sh, out_fr, out_bo, subO_ok, sub_tup, sub_lst, sub_scr, AR.exec_asgv, exec_asgt, exec_par, exec_app, exec_aug, augV_int, augO_int, exec_ret, exec_ret0, exec_ife, exec_ex, exec_pass, AR.execs_nil, AR.execs_cons, thenS_nx, thenS_rt, AR.exec_for, exec_whl, bind_var, bind_tup, binds_nil, binds_cons, stp_nil, stp_cons, E.esc, E.escP, E.escR, E.pure, Es.esc, Es.escP, Es.pure, pureO, escO, It.esc, It.escP, It.pure, Cl.esc, Cl.pureC, binop.eq_1, binop.eq_2, binop.eq_3, binop.eq_4, binop.eq_5, binop.eq_6, binop.eq_7, binop.eq_8, binop.eq_9, binop.eq_10, cmpop.eq_1, cmpop.eq_2, cmpop.eq_3, cmpop.eq_4, cmpop.eq_5, cmpop.eq_6, cmpop.eq_7, cmpop.eq_8, cmpop.eq_9, cmpop.eq_10, cmpop.eq_11, cmpop.eq_12, cmpop.eq_13, D.truth.eq_1, D.truth.eq_2, D.truth.eq_3, D.truth.eq_4, D.truth.eq_5, D.truth.eq_6, slcop.eq_1, slcop.eq_2, bltop.eq_1, bltop.eq_2, bltop.eq_3, bltop.eq_4, bltop.eq_5, bltop.eq_6, bltop.eq_7, bltop.eq_9, bltop.eq_10, bltop.eq_11, bltop.eq_12, bltop.eq_13, bltop.eq_14, bltop.eq_15, bltop.eq_16, bltop.eq_17, bltop.eq_18, bltop.eq_19, bltop.eq_20, bltop.eq_21, bltop.eq_22, seq?.eq_1, seq?.eq_2, itemsOf.eq_1, itemsOf.eq_2, itemsOf.eq_3, enmOf.eq_1, zip2Of.eq_1, zip2Of.eq_2, endC_nx, endC_rt, PySem.sizeLine, wipeE, keepO, eqv_ii, eqv_bb, eqv_ib, eqv_bi, eqv_ss, eqv_ll, eqv_tt, eqv_nn, eqvs_nn, eqvs_cc, eqvs_r, flat_int, flat_bl, flat_non, flat_str, flat_lst, flat_tup, flats_nil, flats_cons, flats_ints, D.plain.eq_1, D.plain.eq_2, D.plain.eq_3, D.plain.eq_4, D.plain.eq_5, D.plain.eq_6, D.scal.eq_1, D.scal.eq_2, D.scal.eq_3, D.scal.eq_4, D.scal.eq_5, D.isNon.eq_1, D.isNon.eq_2, isiop, isTy, tyOk, b2i]
    split <;> split <;> simp_all
  · simp [B_step, stepA, kTup_ap, kLst_ap, kRes_ap, kBin2_ap, kBin_ap, kBl_ap, kNb_ap, kNot_ap, kAnd2_ap, kAnd_ap, kOr2_ap, kOr_ap, kIfe2_ap, kIfe_ap, kCmp2_ap, kCmp_ap, kCall4_ap, kCall3_ap, kCall2_ap, kCall_ap, kBlt_ap, kIsi_ap, kSh_ap, kSub2_ap, kSub_ap, kSlc3_ap, kSlc2_ap, kSlc_ap, kCons_ap, kEvs_ap, kEvP_ap, kConsF_ap, kEvPar_ap, kConsA_ap, kEvA_ap, kConsS_ap, kIfs2_ap, kIfs_ap, kEl_ap, kL_ap, kVal_ap, kEn_ap, kEnm_ap, kZ2_ap, kZ_ap, kTr_ap, kT0_ap, kT1_ap, kT2_ap, kComp_ap, kColl_ap, kQ_ap, kB_ap, kFor2_ap, kFor_ap, kNx_ap, kAsg_ap, kAsgT_ap, kPar2_ap, kPar_ap, kStp_ap, kApp_ap, kRet_ap, kIfS_ap, kEx_ap, kEnd_ap, ev_var, getV_ok, fl_sh, fl_own, fl_io, ev_cst, ev_gfn, ev_tup, ev_lst, ev_bin, negV_int, ev_neg, ev_not, ev_and, ev_or, ev_ife, ev_cmp, ev_call, ev_blt, ev_isi, ev_sub, ev_slc, intO_int, evO_no, evO_yes, AR.evs_nil, AR.evs_cons, evP_nil, evP_cons, evPar_nil, evPar_cons, evA_nil, evA_c, aO_no, E.isRef.eq_1, E.isRef.eq_2, res_nil, res_v, refs_nil, refs_vv, outs_nil, nodup_nil, evIfs_nil, evIfs_cons, evCl_el, ev_comp, evCl_one, evI_val, rngV_int, evI_rng1, evI_enm, evI_zip2, isMut_eq, any_nil, any_cons, mutO.eq_1, mutO.eq_2, mutO.eq_3, setO_ok, setV_o, isIo_no, isIo_sh, isIo_own, frz_nil, frz_cons, frzO_own, frzO_sh, frzO_no, plainF_ap, evF_eq, pureF_no, pureF_yes, evT_eq, pureT_no, pureT_yes, ice_nil, ice_cons, iceO_some, iceO_none, new_sh, new_fr, appO_own, fre_sh, fre_fr, pk_sh, pk_fr, pk_bo, pk_bi, out_sh, out_fr, out_bo, subO_ok, sub_tup, sub_lst, sub_scr, AR.exec_asgv, exec_asgt, exec_par, exec_app, exec_aug, augV_int, augO_int, exec_ret, exec_ret0, exec_ife, exec_ex, exec_pass, AR.execs_nil, AR.execs_cons, thenS_nx, thenS_rt, AR.exec_for, exec_whl, bind_var, bind_tup, binds_nil, binds_cons, stp_nil, stp_cons, E.esc, E.escP, E.escR, E.pure, Es.esc, Es.escP, Es.pure, pureO, escO, It.esc, It.escP, It.pure, Cl.esc, Cl.pureC, binop.eq_1, binop.eq_2, binop.eq_3, binop.eq_4, binop.eq_5, binop.eq_6, binop.eq_7, binop.eq_8, binop.eq_9, binop.eq_10, cmpop.eq_1, cmpop.eq_2, cmpop.eq_3, cmpop.eq_4, cmpop.eq_5, cmpop.eq_6, cmpop.eq_7, cmpop.eq_8, cmpop.eq_9, cmpop.eq_10, cmpop.eq_11, cmpop.eq_12, cmpop.eq_13, D.truth.eq_1, D.truth.eq_2, D.truth.eq_3, D.truth.eq_4, D.truth.eq_5, D.truth.eq_6, slcop.eq_1, slcop.eq_2, bltop.eq_1, bltop.eq_2, bltop.eq_3, bltop.eq_4, bltop.eq_5, bltop.eq_6, bltop.eq_7, bltop.eq_9, bltop.eq_10, bltop.eq_11, bltop.eq_12, bltop.eq_13, bltop.eq_14, bltop.eq_15, bltop.eq_16, bltop.eq_17, bltop.eq_18, bltop.eq_19, bltop.eq_20, bltop.eq_21, bltop.eq_22, seq?.eq_1, seq?.eq_2, itemsOf.eq_1, itemsOf.eq_2, itemsOf.eq_3, enmOf.eq_1, zip2Of.eq_1, zip2Of.eq_2, endC_nx, endC_rt, PySem.sizeLine, wipeE, keepO, eqv_ii, eqv_bb, eqv_ib, eqv_bi, eqv_ss, eqv_ll, eqv_tt, eqv_nn, eqvs_nn, eqvs_cc, eqvs_r, flat_int, flat_bl, flat_non, flat_str, flat_lst, flat_tup, flats_nil, flats_cons, flats_ints, D.plain.eq_1, D.plain.eq_2, D.plain.eq_3, D.plain.eq_4, D.plain.eq_5, D.plain.eq_6, D.scal.eq_1, D.scal.eq_2, D.scal.eq_3, D.scal.eq_4, D.scal.eq_5, D.isNon.eq_1, D.isNon.eq_2, isiop, isTy, tyOk, b2i]
    split <;> split <;> simp_all
/-! script cells -/
theorem cell_run {k : Nat} (ht : tab k = some ⟨2, [], 2, B_law_cell⟩) (n : Nat) (ns : List Int) (i : Nat) : ∃ v : Int, callN tab w (n+1) k [(.sh, .scr ns), (.sh, .int i)] = .ok ([], .sh, .int v) := by
  rw [callN_ev ht rfl rfl rfl]
  by_cases h1 : i < ns.length
  · refine ⟨ns[i], ?_⟩
    have h2 : L2.atI ns (i : Int) = some ns[i] := L2.atI_nat (List.getElem?_eq_getElem h1)
    simp [B_law_cell, h1, h2, kTup_ap, kLst_ap, kRes_ap, kBin2_ap, kBin_ap, kBl_ap, kNb_ap, kNot_ap, kAnd2_ap, kAnd_ap, kOr2_ap, kOr_ap, kIfe2_ap, kIfe_ap, kCmp2_ap, kCmp_ap, kCall4_ap, kCall3_ap, kCall2_ap, kCall_ap, kBlt_ap, kIsi_ap, kSh_ap, kSub2_ap, kSub_ap, kSlc3_ap, kSlc2_ap, kSlc_ap, kCons_ap, kEvs_ap, kEvP_ap, kConsF_ap, kEvPar_ap, kConsA_ap, kEvA_ap, kConsS_ap, kIfs2_ap, kIfs_ap, kEl_ap, kL_ap, kVal_ap, kEn_ap, kEnm_ap, kZ2_ap, kZ_ap, kTr_ap, kT0_ap, kT1_ap, kT2_ap, kComp_ap, kColl_ap, kQ_ap, kB_ap, kFor2_ap, kFor_ap, kNx_ap, kAsg_ap, kAsgT_ap, kPar2_ap, kPar_ap, kStp_ap, kApp_ap, kRet_ap, kIfS_ap, kEx_ap, kEnd_ap, ev_var, getV_ok, fl_sh, fl_own, fl_io, ev_cst, ev_gfn, ev_tup, ev_lst, ev_bin, negV_int, ev_neg, ev_not, ev_and, ev_or, ev_ife, ev_cmp, ev_call, ev_blt, ev_isi, ev_sub, ev_slc, intO_int, evO_no, evO_yes, AR.evs_nil, AR.evs_cons, evP_nil, evP_cons, evPar_nil, evPar_cons, evA_nil, evA_c, aO_no, E.isRef.eq_1, E.isRef.eq_2, res_nil, res_v, refs_nil, refs_vv, outs_nil, nodup_nil, evIfs_nil, evIfs_cons, evCl_el, ev_comp, evCl_one, evI_val, rngV_int, evI_rng1, evI_enm, evI_zip2, isMut_eq, any_nil, any_cons, mutO.eq_1, mutO.eq_2, mutO.eq_3, setO_ok, setV_o, isIo_no, isIo_sh, isIo_own, frz_nil, frz_cons, frzO_own, frzO_sh, frzO_no, plainF_ap, evF_eq, pureF_no, pureF_yes, evT_eq, pureT_no, pureT_yes, ice_nil, ice_cons, iceO_some, iceO_none, new_sh, new_fr, appO_own, fre_sh, fre_fr, pk_sh, pk_fr, pk_bo, pk_bi, out_sh, out_fr, out_bo, subO_ok, sub_tup, sub_lst, sub_scr, AR.exec_asgv, exec_asgt, exec_par, exec_app, exec_aug, augV_int, augO_int, exec_ret, exec_ret0, exec_ife, exec_ex, exec_pass, AR.execs_nil, AR.execs_cons, thenS_nx, thenS_rt, AR.exec_for, exec_whl, bind_var, bind_tup, binds_nil, binds_cons, stp_nil, stp_cons, E.esc, E.escP, E.escR, E.pure, Es.esc, Es.escP, Es.pure, pureO, escO, It.esc, It.escP, It.pure, Cl.esc, Cl.pureC, binop.eq_1, binop.eq_2, binop.eq_3, binop.eq_4, binop.eq_5, binop.eq_6, binop.eq_7, binop.eq_8, binop.eq_9, binop.eq_10, cmpop.eq_1, cmpop.eq_2, cmpop.eq_3, cmpop.eq_4, cmpop.eq_5, cmpop.eq_6, cmpop.eq_7, cmpop.eq_8, cmpop.eq_9, cmpop.eq_10, cmpop.eq_11, cmpop.eq_12, cmpop.eq_13, D.truth.eq_1, D.truth.eq_2, D.truth.eq_3, D.truth.eq_4, D.truth.eq_5, D.truth.eq_6, slcop.eq_1, slcop.eq_2, bltop.eq_1, bltop.eq_2, bltop.eq_3, bltop.eq_4, bltop.eq_5, bltop.eq_6, bltop.eq_7, bltop.eq_9, bltop.eq_10, bltop.eq_11, bltop.eq_12, bltop.eq_13, bltop.eq_14, bltop.eq_15, bltop.eq_16, bltop.eq_17, bltop.eq_18, bltop.eq_19, bltop.eq_20, bltop.eq_21, bltop.eq_22, seq?.eq_1, seq?.eq_2, itemsOf.eq_1, itemsOf.eq_2, itemsOf.eq_3, enmOf.eq_1, zip2Of.eq_1, zip2Of.eq_2, endC_nx, endC_rt, PySem.sizeLine, wipeE, keepO, eqv_ii, eqv_bb, eqv_ib, eqv_bi, eqv_ss, eqv_ll, eqv_tt, eqv_nn, eqvs_nn, eqvs_cc, eqvs_r, flat_int, flat_bl, flat_non, flat_str, flat_lst, flat_tup, flats_nil, flats_cons, flats_ints, D.plain.eq_1, D.plain.eq_2, D.plain.eq_3, D.plain.eq_4, D.plain.eq_5, D.plain.eq_6, D.scal.eq_1, D.scal.eq_2, D.scal.eq_3, D.scal.eq_4, D.scal.eq_5, D.isNon.eq_1, D.isNon.eq_2, isiop, isTy, tyOk, b2i]
  · cases ns with
    | nil => exact ⟨7919 * i + 101, by simp [B_law_cell, smallI, show ¬ ((i : Int) < 0) by omega, kTup_ap, kLst_ap, kRes_ap, kBin2_ap, kBin_ap, kBl_ap, kNb_ap, kNot_ap, kAnd2_ap, kAnd_ap, kOr2_ap, kOr_ap, kIfe2_ap, kIfe_ap, kCmp2_ap, kCmp_ap, kCall4_ap, kCall3_ap, kCall2_ap, kCall_ap, kBlt_ap, kIsi_ap, kSh_ap, kSub2_ap, kSub_ap, kSlc3_ap, kSlc2_ap, kSlc_ap, kCons_ap, kEvs_ap, kEvP_ap, kConsF_ap, kEvPar_ap, kConsA_ap, kEvA_ap, kConsS_ap, kIfs2_ap, kIfs_ap, kEl_ap, kL_ap, kVal_ap, kEn_ap, kEnm_ap, kZ2_ap, kZ_ap, kTr_ap, kT0_ap, kT1_ap, kT2_ap, kComp_ap, kColl_ap, kQ_ap, kB_ap, kFor2_ap, kFor_ap, kNx_ap, kAsg_ap, kAsgT_ap, kPar2_ap, kPar_ap, kStp_ap, kApp_ap, kRet_ap, kIfS_ap, kEx_ap, kEnd_ap, ev_var, getV_ok, fl_sh, fl_own, fl_io, ev_cst, ev_gfn, ev_tup, ev_lst, ev_bin, negV_int, ev_neg, ev_not, ev_and, ev_or, ev_ife, ev_cmp, ev_call, ev_blt, ev_isi, ev_sub, ev_slc, intO_int, evO_no, evO_yes, AR.evs_nil, AR.evs_cons, evP_nil, evP_cons, evPar_nil, evPar_cons, evA_nil, evA_c, aO_no, E.isRef.eq_1, E.isRef.eq_2, res_nil, res_v, refs_nil, refs_vv, outs_nil, nodup_nil, evIfs_nil, evIfs_cons, evCl_el, ev_comp, evCl_one, evI_val, rngV_int, evI_rng1, evI_enm, evI_zip2, isMut_eq, any_nil, any_cons, mutO.eq_1, mutO.eq_2, mutO.eq_3, setO_ok, setV_o, isIo_no, isIo_sh, isIo_own, frz_nil, frz_cons, frzO_own, frzO_sh, frzO_no, plainF_ap, evF_eq, pureF_no, pureF_yes, evT_eq, pureT_no, pureT_yes, ice_nil, ice_cons, iceO_some, iceO_none, new_sh, new_fr, appO_own, fre_sh, fre_fr, pk_sh, pk_fr, pk_bo, pk_bi, out_sh, out_fr, out_bo, subO_ok, sub_tup, sub_lst, sub_scr, AR.exec_asgv, exec_asgt, exec_par, exec_app, exec_aug, augV_int, augO_int, exec_ret, exec_ret0, exec_ife, exec_ex, exec_pass, AR.execs_nil, AR.execs_cons, thenS_nx, thenS_rt, AR.exec_for, exec_whl, bind_var, bind_tup, binds_nil, binds_cons, stp_nil, stp_cons, E.esc, E.escP, E.escR, E.pure, Es.esc, Es.escP, Es.pure, pureO, escO, It.esc, It.escP, It.pure, Cl.esc, Cl.pureC, binop.eq_1, binop.eq_2, binop.eq_3, binop.eq_4, binop.eq_5, binop.eq_6, binop.eq_7, binop.eq_8, binop.eq_9, binop.eq_10, cmpop.eq_1, cmpop.eq_2, cmpop.eq_3, cmpop.eq_4, cmpop.eq_5, cmpop.eq_6, cmpop.eq_7, cmpop.eq_8, cmpop.eq_9, cmpop.eq_10, cmpop.eq_11, cmpop.eq_12, cmpop.eq_13, D.truth.eq_1, D.truth.eq_2, D.truth.eq_3, D.truth.eq_4, D.truth.eq_5, D.truth.eq_6, slcop.eq_1, slcop.eq_2, bltop.eq_1, bltop.eq_2, bltop.eq_3, bltop.eq_4, bltop.eq_5, bltop.eq_6, bltop.eq_7, bltop.eq_9, bltop.eq_10, bltop.eq_11, bltop.eq_12, bltop.eq_13, bltop.eq_14, bltop.eq_15, bltop.eq_16, bltop.eq_17, bltop.eq_18, bltop.eq_19, bltop.eq_20, bltop.eq_21, bltop.eq_22, seq?.eq_1, seq?.eq_2, itemsOf.eq_1, itemsOf.eq_2, itemsOf.eq_3, enmOf.eq_1, zip2Of.eq_1, zip2Of.eq_2, endC_nx, endC_rt, PySem.sizeLine, wipeE, keepO, eqv_ii, eqv_bb, eqv_ib, eqv_bi, eqv_ss, eqv_ll, eqv_tt, eqv_nn, eqvs_nn, eqvs_cc, eqvs_r, flat_int, flat_bl, flat_non, flat_str, flat_lst, flat_tup, flats_nil, flats_cons, flats_ints, D.plain.eq_1, D.plain.eq_2, D.plain.eq_3, D.plain.eq_4, D.plain.eq_5, D.plain.eq_6, D.scal.eq_1, D.scal.eq_2, D.scal.eq_3, D.scal.eq_4, D.scal.eq_5, D.isNon.eq_1, D.isNon.eq_2, isiop, isTy, tyOk, b2i]⟩
    | cons x r =>
      generalize hn : x :: r = ns at h1
      have h3 : 0 < ns.length := by rw [← hn]; simp
      have h4 : i % ns.length < ns.length := Nat.mod_lt _ h3
      have h2 : L2.atI ns ((i : Int) % (ns.length : Int)) = some ns[i % ns.length] := by
        rw [← Int.natCast_emod]
        exact L2.atI_nat (List.getElem?_eq_getElem h4)
      have h7 : ¬ ns = [] := fun z => by rw [z] at h3; cases h3
      exact ⟨_, by simp [B_law_cell, h1, h2, h3, h7, smallI, kTup_ap, kLst_ap, kRes_ap, kBin2_ap, kBin_ap, kBl_ap, kNb_ap, kNot_ap, kAnd2_ap, kAnd_ap, kOr2_ap, kOr_ap, kIfe2_ap, kIfe_ap, kCmp2_ap, kCmp_ap, kCall4_ap, kCall3_ap, kCall2_ap, kCall_ap, kBlt_ap, kIsi_ap, kSh_ap, kSub2_ap, kSub_ap, kSlc3_ap, kSlc2_ap, kSlc_ap, kCons_ap, kEvs_ap, kEvP_ap, kConsF_ap, kEvPar_ap, kConsA_ap, kEvA_ap, kConsS_ap, kIfs2_ap, kIfs_ap, kEl_ap, kL_ap, kVal_ap, kEn_ap, kEnm_ap, kZ2_ap, kZ_ap, kTr_ap, kT0_ap, kT1_ap, kT2_ap, kComp_ap, kColl_ap, kQ_ap, kB_ap, kFor2_ap, kFor_ap, kNx_ap, kAsg_ap, kAsgT_ap, kPar2_ap, kPar_ap, kStp_ap, kApp_ap, kRet_ap, kIfS_ap, kEx_ap, kEnd_ap, ev_var, getV_ok, fl_sh, fl_own, fl_io, ev_cst, ev_gfn, ev_tup, ev_lst, ev_bin, negV_int, ev_neg, ev_not, ev_and, ev_or, ev_ife, ev_cmp, ev_call, ev_blt, ev_isi, ev_sub, ev_slc, intO_int, evO_no, evO_yes, AR.evs_nil, AR.evs_cons, evP_nil, evP_cons, evPar_nil, evPar_cons, evA_nil, evA_c, aO_no, E.isRef.eq_1, E.isRef.eq_2, res_nil, res_v, refs_nil, refs_vv, outs_nil, nodup_nil, evIfs_nil, evIfs_cons, evCl_el, ev_comp, evCl_one, evI_val, rngV_int, evI_rng1, evI_enm, evI_zip2, isMut_eq, any_nil, any_cons, mutO.eq_1, mutO.eq_2, mutO.eq_3, setO_ok, setV_o, isIo_no, isIo_sh, isIo_own, frz_nil, frz_cons, frzO_own, frzO_sh, frzO_no, plainF_ap, evF_eq, pureF_no, pureF_yes, evT_eq, pureT_no, pureT_yes, ice_nil, ice_cons, iceO_some, iceO_none, new_sh, new_fr, appO_own, fre_sh, fre_fr, pk_sh, pk_fr, pk_bo, pk_bi, out_sh, out_fr, out_bo, subO_ok, sub_tup, sub_lst, sub_scr, AR.exec_asgv, exec_asgt, exec_par, exec_app, exec_aug, augV_int, augO_int, exec_ret, exec_ret0, exec_ife, exec_ex, exec_pass, AR.execs_nil, AR.execs_cons, thenS_nx, thenS_rt, AR.exec_for, exec_whl, bind_var, bind_tup, binds_nil, binds_cons, stp_nil, stp_cons, E.esc, E.escP, E.escR, E.pure, Es.esc, Es.escP, Es.pure, pureO, escO, It.esc, It.escP, It.pure, Cl.esc, Cl.pureC, binop.eq_1, binop.eq_2, binop.eq_3, binop.eq_4, binop.eq_5, binop.eq_6, binop.eq_7, binop.eq_8, binop.eq_9, binop.eq_10, cmpop.eq_1, cmpop.eq_2, cmpop.eq_3, cmpop.eq_4, cmpop.eq_5, cmpop.eq_6, cmpop.eq_7, cmpop.eq_8, cmpop.eq_9, cmpop.eq_10, cmpop.eq_11, cmpop.eq_12, cmpop.eq_13, D.truth.eq_1, D.truth.eq_2, D.truth.eq_3, D.truth.eq_4, D.truth.eq_5, D.truth.eq_6, slcop.eq_1, slcop.eq_2, bltop.eq_1, bltop.eq_2, bltop.eq_3, bltop.eq_4, bltop.eq_5, bltop.eq_6, bltop.eq_7, bltop.eq_9, bltop.eq_10, bltop.eq_11, bltop.eq_12, bltop.eq_13, bltop.eq_14, bltop.eq_15, bltop.eq_16, bltop.eq_17, bltop.eq_18, bltop.eq_19, bltop.eq_20, bltop.eq_21, bltop.eq_22, seq?.eq_1, seq?.eq_2, itemsOf.eq_1, itemsOf.eq_2, itemsOf.eq_3, enmOf.eq_1, zip2Of.eq_1, zip2Of.eq_2, endC_nx, endC_rt, PySem.sizeLine, wipeE, keepO, eqv_ii, eqv_bb, eqv_ib, eqv_bi, eqv_ss, eqv_ll, eqv_tt, eqv_nn, eqvs_nn, eqvs_cc, eqvs_r, flat_int, flat_bl, flat_non, flat_str, flat_lst, flat_tup, flats_nil, flats_cons, flats_ints, D.plain.eq_1, D.plain.eq_2, D.plain.eq_3, D.plain.eq_4, D.plain.eq_5, D.plain.eq_6, D.scal.eq_1, D.scal.eq_2, D.scal.eq_3, D.scal.eq_4, D.scal.eq_5, D.isNon.eq_1, D.isNon.eq_2, isiop, isTy, tyOk, b2i]; rfl⟩
end LW

namespace LW
open AR
variable {w : Nat} {tab : Nat → Option Fn}
abbrev primesD : List D := [.int 2147483647, .int 2147483629, .int 2147483587, .int 2147483579, .int 2147483563, .int 2147483549, .int 2147483543, .int 2147483497]
theorem prime_at (j : Int) : ∃ p : Int, 0 < p ∧ p < 2147483648 ∧ L2.atI primesD (j % 8) = some (.int p) := by
  have h0 : 0 ≤ j % 8 := Int.emod_nonneg _ (by decide)
  have h1 : j % 8 < 8 := Int.emod_lt_of_pos _ (by decide)
  have key : ∀ i : Nat, i < 8 → ∃ p : Int, 0 < p ∧ p < 2147483648 ∧ L2.atI primesD (i : Int) = some (.int p) := by
    intro i hi
    match i, hi with
    | 0, _ => exact ⟨2147483647, by decide, by decide, rfl⟩
    | 1, _ => exact ⟨2147483629, by decide, by decide, rfl⟩
    | 2, _ => exact ⟨2147483587, by decide, by decide, rfl⟩
    | 3, _ => exact ⟨2147483579, by decide, by decide, rfl⟩
    | 4, _ => exact ⟨2147483563, by decide, by decide, rfl⟩
    | 5, _ => exact ⟨2147483549, by decide, by decide, rfl⟩
    | 6, _ => exact ⟨2147483543, by decide, by decide, rfl⟩
    | 7, _ => exact ⟨2147483497, by decide, by decide, rfl⟩
    | n + 8, h => exact absurd h (by omega)
  obtain ⟨p, h2, h3, h4⟩ := key (j % 8).toNat (by omega)
  exact ⟨p, h2, h3, by rw [← h4]; congr 1; omega⟩
theorem small_of {a : Int} (h0 : 0 ≤ a) (h1 : a < 2147483648) : smallI a = true := by
  unfold smallI
  simp
  omega
theorem small_mod {a p : Int} (h0 : 0 < p) (h1 : p < 2147483648) : smallI (a % p) = true := small_of (Int.emod_nonneg _ (by omega)) (by have := Int.emod_lt_of_pos a h0; omega)
def digE (ns : List Int) (i c : Int) (b v r : Int) (l : List D) (x y : Option (Sl × D)) : Env := [some (.sh, .scr ns), some (.sh, .int i), some (.sh, .int c), some (.sh, .int b), some (.sh, .tup primesD), some (.sh, .int v), some (.sh, .int r), some (.own, .lst l), x, y]
def digS (k : Nat) : S := match B_law_digits 0 with
  | .cons _ (.cons _ (.cons _ (.cons _ (.cons (.forS _ _ (.cons s0 (.cons s1 (.cons s2 (.cons s3 (.cons s4 (.cons s5 (.cons s6 .nil)))))))) _)))) => [s0, s1, s2, s3, s4, s5, s6].getD k .pass
  | _ => .pass
section
variable {C : CallF} {ns : List Int} {i j c b v r m : Int} {l : List D} {x y : Option (Sl × D)} {ss : Ss}
theorem dig0 (hy : isIo y = false) (hj0 : 0 ≤ j) (hj : j < 1000000) : ∃ m : Int, ∀ ss, execs C w (.cons (digS 0) ss) (digE ns i c b v r l (some (.sh, .int j)) y) = execs C w ss (digE ns i c b v r l (some (.sh, .int j)) (some (.sh, .int m))) := by
  obtain ⟨p0, a0, b0, e0⟩ := prime_at j
  have s0 := fun a => small_mod (a := a) a0 b0
  have sj : smallI j = true := small_of (by omega) (by omega)
  have k2 : smallI 2 = true := rfl
  refine ⟨v % p0 * (48271 + 2 * j * j), fun ss => ?_⟩
  simp only [digS, B_law_digits, List.getD_cons_zero, digE]
  simp [hy, e0, a0, s0, sj, k2, kTup_ap, kLst_ap, kRes_ap, kBin2_ap, kBin_ap, kBl_ap, kNb_ap, kNot_ap, kAnd2_ap, kAnd_ap, kOr2_ap, kOr_ap, kIfe2_ap, kIfe_ap, kCmp2_ap, kCmp_ap, kCall4_ap, kCall3_ap, kCall2_ap, kCall_ap, kBlt_ap, kIsi_ap, kSh_ap, kSub2_ap, kSub_ap, kSlc3_ap, kSlc2_ap, kSlc_ap, kCons_ap, kEvs_ap, kEvP_ap, kConsF_ap, kEvPar_ap, kConsA_ap, kEvA_ap, kConsS_ap, kIfs2_ap, kIfs_ap, kEl_ap, kL_ap, kVal_ap, kEn_ap, kEnm_ap, kZ2_ap, kZ_ap, kTr_ap, kT0_ap, kT1_ap, kT2_ap, kComp_ap, kColl_ap, kQ_ap, kB_ap, kFor2_ap, kFor_ap, kNx_ap, kAsg_ap, kAsgT_ap, kPar2_ap, kPar_ap, kStp_ap, kApp_ap, kRet_ap, kIfS_ap, kEx_ap, kEnd_ap, ev_var, getV_ok, fl_sh, fl_own, fl_io, ev_cst, ev_gfn, ev_tup, ev_lst, ev_bin, negV_int, ev_neg, ev_not, ev_and, ev_or, ev_ife, ev_cmp, ev_call, ev_blt, ev_isi, ev_sub, ev_slc, intO_int, evO_no, evO_yes, AR.evs_nil, AR.evs_cons, evP_nil, evP_cons, evPar_nil, evPar_cons, evA_nil, evA_c, aO_no, E.isRef.eq_1, E.isRef.eq_2, res_nil, res_v, refs_nil, refs_vv, outs_nil, nodup_nil, evIfs_nil, evIfs_cons, evCl_el, ev_comp, evCl_one, evI_val, rngV_int, evI_rng1, evI_enm, evI_zip2, isMut_eq, any_nil, any_cons, mutO.eq_1, mutO.eq_2, mutO.eq_3, setO_ok, setV_o, isIo_no, isIo_sh, isIo_own, frz_nil, frz_cons, frzO_own, frzO_sh, frzO_no, plainF_ap, evF_eq, pureF_no, pureF_yes, evT_eq, pureT_no, pureT_yes, ice_nil, ice_cons, iceO_some, iceO_none, new_sh, new_fr, appO_own, fre_sh, fre_fr, pk_sh, pk_fr, pk_bo, pk_bi, out_sh, out_fr, out_bo, subO_ok, sub_tup, sub_lst, sub_scr, AR.exec_asgv, exec_asgt, exec_par, exec_app, exec_aug, augV_int, augO_int, exec_ret, exec_ret0, exec_ife, exec_ex, exec_pass, AR.execs_nil, AR.execs_cons, thenS_nx, thenS_rt, AR.exec_for, exec_whl, bind_var, bind_tup, binds_nil, binds_cons, stp_nil, stp_cons, E.esc, E.escP, E.escR, E.pure, Es.esc, Es.escP, Es.pure, pureO, escO, It.esc, It.escP, It.pure, Cl.esc, Cl.pureC, binop.eq_1, binop.eq_2, binop.eq_3, binop.eq_4, binop.eq_5, binop.eq_6, binop.eq_7, binop.eq_8, binop.eq_9, binop.eq_10, cmpop.eq_1, cmpop.eq_2, cmpop.eq_3, cmpop.eq_4, cmpop.eq_5, cmpop.eq_6, cmpop.eq_7, cmpop.eq_8, cmpop.eq_9, cmpop.eq_10, cmpop.eq_11, cmpop.eq_12, cmpop.eq_13, D.truth.eq_1, D.truth.eq_2, D.truth.eq_3, D.truth.eq_4, D.truth.eq_5, D.truth.eq_6, slcop.eq_1, slcop.eq_2, bltop.eq_1, bltop.eq_2, bltop.eq_3, bltop.eq_4, bltop.eq_5, bltop.eq_6, bltop.eq_7, bltop.eq_9, bltop.eq_10, bltop.eq_11, bltop.eq_12, bltop.eq_13, bltop.eq_14, bltop.eq_15, bltop.eq_16, bltop.eq_17, bltop.eq_18, bltop.eq_19, bltop.eq_20, bltop.eq_21, bltop.eq_22, seq?.eq_1, seq?.eq_2, itemsOf.eq_1, itemsOf.eq_2, itemsOf.eq_3, enmOf.eq_1, zip2Of.eq_1, zip2Of.eq_2, endC_nx, endC_rt, PySem.sizeLine, wipeE, keepO, eqv_ii, eqv_bb, eqv_ib, eqv_bi, eqv_ss, eqv_ll, eqv_tt, eqv_nn, eqvs_nn, eqvs_cc, eqvs_r, flat_int, flat_bl, flat_non, flat_str, flat_lst, flat_tup, flats_nil, flats_cons, flats_ints, D.plain.eq_1, D.plain.eq_2, D.plain.eq_3, D.plain.eq_4, D.plain.eq_5, D.plain.eq_6, D.scal.eq_1, D.scal.eq_2, D.scal.eq_3, D.scal.eq_4, D.scal.eq_5, D.isNon.eq_1, D.isNon.eq_2, isiop, isTy, tyOk, b2i]
theorem dig1 (hj0 : 0 ≤ j) (hj : j < 1000000) : ∃ m' : Int, ∀ ss, execs C w (.cons (digS 1) ss) (digE ns i c b v r l (some (.sh, .int j)) (some (.sh, .int m))) = execs C w ss (digE ns i c b v r l (some (.sh, .int j)) (some (.sh, .int m'))) := by
  have sj1 : smallI (j + 1) = true := small_of (by omega) (by omega)
  have k4 : smallI 7919 = true := rfl
  have k5 : smallI 104729 = true := rfl
  refine ⟨m + 7919 * (j + 1) * (j + 1) + 104729 * i, fun ss => ?_⟩
  simp only [digS, B_law_digits, List.getD_cons_zero, List.getD_cons_succ, digE]
  simp [sj1, k4, k5, kTup_ap, kLst_ap, kRes_ap, kBin2_ap, kBin_ap, kBl_ap, kNb_ap, kNot_ap, kAnd2_ap, kAnd_ap, kOr2_ap, kOr_ap, kIfe2_ap, kIfe_ap, kCmp2_ap, kCmp_ap, kCall4_ap, kCall3_ap, kCall2_ap, kCall_ap, kBlt_ap, kIsi_ap, kSh_ap, kSub2_ap, kSub_ap, kSlc3_ap, kSlc2_ap, kSlc_ap, kCons_ap, kEvs_ap, kEvP_ap, kConsF_ap, kEvPar_ap, kConsA_ap, kEvA_ap, kConsS_ap, kIfs2_ap, kIfs_ap, kEl_ap, kL_ap, kVal_ap, kEn_ap, kEnm_ap, kZ2_ap, kZ_ap, kTr_ap, kT0_ap, kT1_ap, kT2_ap, kComp_ap, kColl_ap, kQ_ap, kB_ap, kFor2_ap, kFor_ap, kNx_ap, kAsg_ap, kAsgT_ap, kPar2_ap, kPar_ap, kStp_ap, kApp_ap, kRet_ap, kIfS_ap, kEx_ap, kEnd_ap, ev_var, getV_ok, fl_sh, fl_own, fl_io, ev_cst, ev_gfn, ev_tup, ev_lst, ev_bin, negV_int, ev_neg, ev_not, ev_and, ev_or, ev_ife, ev_cmp, ev_call, ev_blt, ev_isi, ev_sub, ev_slc, intO_int, evO_no, evO_yes, AR.evs_nil, AR.evs_cons, evP_nil, evP_cons, evPar_nil, evPar_cons, evA_nil, evA_c, aO_no, E.isRef.eq_1, E.isRef.eq_2, res_nil, res_v, refs_nil, refs_vv, outs_nil, nodup_nil, evIfs_nil, evIfs_cons, evCl_el, ev_comp, evCl_one, evI_val, rngV_int, evI_rng1, evI_enm, evI_zip2, isMut_eq, any_nil, any_cons, mutO.eq_1, mutO.eq_2, mutO.eq_3, setO_ok, setV_o, isIo_no, isIo_sh, isIo_own, frz_nil, frz_cons, frzO_own, frzO_sh, frzO_no, plainF_ap, evF_eq, pureF_no, pureF_yes, evT_eq, pureT_no, pureT_yes, ice_nil, ice_cons, iceO_some, iceO_none, new_sh, new_fr, appO_own, fre_sh, fre_fr, pk_sh, pk_fr, pk_bo, pk_bi, out_sh, out_fr, out_bo, subO_ok, sub_tup, sub_lst, sub_scr, AR.exec_asgv, exec_asgt, exec_par, exec_app, exec_aug, augV_int, augO_int, exec_ret, exec_ret0, exec_ife, exec_ex, exec_pass, AR.execs_nil, AR.execs_cons, thenS_nx, thenS_rt, AR.exec_for, exec_whl, bind_var, bind_tup, binds_nil, binds_cons, stp_nil, stp_cons, E.esc, E.escP, E.escR, E.pure, Es.esc, Es.escP, Es.pure, pureO, escO, It.esc, It.escP, It.pure, Cl.esc, Cl.pureC, binop.eq_1, binop.eq_2, binop.eq_3, binop.eq_4, binop.eq_5, binop.eq_6, binop.eq_7, binop.eq_8, binop.eq_9, binop.eq_10, cmpop.eq_1, cmpop.eq_2, cmpop.eq_3, cmpop.eq_4, cmpop.eq_5, cmpop.eq_6, cmpop.eq_7, cmpop.eq_8, cmpop.eq_9, cmpop.eq_10, cmpop.eq_11, cmpop.eq_12, cmpop.eq_13, D.truth.eq_1, D.truth.eq_2, D.truth.eq_3, D.truth.eq_4, D.truth.eq_5, D.truth.eq_6, slcop.eq_1, slcop.eq_2, bltop.eq_1, bltop.eq_2, bltop.eq_3, bltop.eq_4, bltop.eq_5, bltop.eq_6, bltop.eq_7, bltop.eq_9, bltop.eq_10, bltop.eq_11, bltop.eq_12, bltop.eq_13, bltop.eq_14, bltop.eq_15, bltop.eq_16, bltop.eq_17, bltop.eq_18, bltop.eq_19, bltop.eq_20, bltop.eq_21, bltop.eq_22, seq?.eq_1, seq?.eq_2, itemsOf.eq_1, itemsOf.eq_2, itemsOf.eq_3, enmOf.eq_1, zip2Of.eq_1, zip2Of.eq_2, endC_nx, endC_rt, PySem.sizeLine, wipeE, keepO, eqv_ii, eqv_bb, eqv_ib, eqv_bi, eqv_ss, eqv_ll, eqv_tt, eqv_nn, eqvs_nn, eqvs_cc, eqvs_r, flat_int, flat_bl, flat_non, flat_str, flat_lst, flat_tup, flats_nil, flats_cons, flats_ints, D.plain.eq_1, D.plain.eq_2, D.plain.eq_3, D.plain.eq_4, D.plain.eq_5, D.plain.eq_6, D.scal.eq_1, D.scal.eq_2, D.scal.eq_3, D.scal.eq_4, D.scal.eq_5, D.isNon.eq_1, D.isNon.eq_2, isiop, isTy, tyOk, b2i]
theorem dig2 : ∃ m' : Int, (0 ≤ m' ∧ m' < 2147483648) ∧ ∀ ss, execs C w (.cons (digS 2) ss) (digE ns i c b v r l (some (.sh, .int j)) (some (.sh, .int m))) = execs C w ss (digE ns i c b v r l (some (.sh, .int j)) (some (.sh, .int m'))) := by
  obtain ⟨p1, a1, b1, e1⟩ := prime_at (3 * j + i)
  have k3 : smallI 3 = true := rfl
  refine ⟨m % p1, ⟨Int.emod_nonneg _ (by omega), by have := Int.emod_lt_of_pos m a1; omega⟩, fun ss => ?_⟩
  simp only [digS, B_law_digits, List.getD_cons_zero, List.getD_cons_succ, digE]
  simp [e1, a1, k3, kTup_ap, kLst_ap, kRes_ap, kBin2_ap, kBin_ap, kBl_ap, kNb_ap, kNot_ap, kAnd2_ap, kAnd_ap, kOr2_ap, kOr_ap, kIfe2_ap, kIfe_ap, kCmp2_ap, kCmp_ap, kCall4_ap, kCall3_ap, kCall2_ap, kCall_ap, kBlt_ap, kIsi_ap, kSh_ap, kSub2_ap, kSub_ap, kSlc3_ap, kSlc2_ap, kSlc_ap, kCons_ap, kEvs_ap, kEvP_ap, kConsF_ap, kEvPar_ap, kConsA_ap, kEvA_ap, kConsS_ap, kIfs2_ap, kIfs_ap, kEl_ap, kL_ap, kVal_ap, kEn_ap, kEnm_ap, kZ2_ap, kZ_ap, kTr_ap, kT0_ap, kT1_ap, kT2_ap, kComp_ap, kColl_ap, kQ_ap, kB_ap, kFor2_ap, kFor_ap, kNx_ap, kAsg_ap, kAsgT_ap, kPar2_ap, kPar_ap, kStp_ap, kApp_ap, kRet_ap, kIfS_ap, kEx_ap, kEnd_ap, ev_var, getV_ok, fl_sh, fl_own, fl_io, ev_cst, ev_gfn, ev_tup, ev_lst, ev_bin, negV_int, ev_neg, ev_not, ev_and, ev_or, ev_ife, ev_cmp, ev_call, ev_blt, ev_isi, ev_sub, ev_slc, intO_int, evO_no, evO_yes, AR.evs_nil, AR.evs_cons, evP_nil, evP_cons, evPar_nil, evPar_cons, evA_nil, evA_c, aO_no, E.isRef.eq_1, E.isRef.eq_2, res_nil, res_v, refs_nil, refs_vv, outs_nil, nodup_nil, evIfs_nil, evIfs_cons, evCl_el, ev_comp, evCl_one, evI_val, rngV_int, evI_rng1, evI_enm, evI_zip2, isMut_eq, any_nil, any_cons, mutO.eq_1, mutO.eq_2, mutO.eq_3, setO_ok, setV_o, isIo_no, isIo_sh, isIo_own, frz_nil, frz_cons, frzO_own, frzO_sh, frzO_no, plainF_ap, evF_eq, pureF_no, pureF_yes, evT_eq, pureT_no, pureT_yes, ice_nil, ice_cons, iceO_some, iceO_none, new_sh, new_fr, appO_own, fre_sh, fre_fr, pk_sh, pk_fr, pk_bo, pk_bi, out_sh, out_fr, out_bo, subO_ok, sub_tup, sub_lst, sub_scr, AR.exec_asgv, exec_asgt, exec_par, exec_app, exec_aug, augV_int, augO_int, exec_ret, exec_ret0, exec_ife, exec_ex, exec_pass, AR.execs_nil, AR.execs_cons, thenS_nx, thenS_rt, AR.exec_for, exec_whl, bind_var, bind_tup, binds_nil, binds_cons, stp_nil, stp_cons, E.esc, E.escP, E.escR, E.pure, Es.esc, Es.escP, Es.pure, pureO, escO, It.esc, It.escP, It.pure, Cl.esc, Cl.pureC, binop.eq_1, binop.eq_2, binop.eq_3, binop.eq_4, binop.eq_5, binop.eq_6, binop.eq_7, binop.eq_8, binop.eq_9, binop.eq_10, cmpop.eq_1, cmpop.eq_2, cmpop.eq_3, cmpop.eq_4, cmpop.eq_5, cmpop.eq_6, cmpop.eq_7, cmpop.eq_8, cmpop.eq_9, cmpop.eq_10, cmpop.eq_11, cmpop.eq_12, cmpop.eq_13, D.truth.eq_1, D.truth.eq_2, D.truth.eq_3, D.truth.eq_4, D.truth.eq_5, D.truth.eq_6, slcop.eq_1, slcop.eq_2, bltop.eq_1, bltop.eq_2, bltop.eq_3, bltop.eq_4, bltop.eq_5, bltop.eq_6, bltop.eq_7, bltop.eq_9, bltop.eq_10, bltop.eq_11, bltop.eq_12, bltop.eq_13, bltop.eq_14, bltop.eq_15, bltop.eq_16, bltop.eq_17, bltop.eq_18, bltop.eq_19, bltop.eq_20, bltop.eq_21, bltop.eq_22, seq?.eq_1, seq?.eq_2, itemsOf.eq_1, itemsOf.eq_2, itemsOf.eq_3, enmOf.eq_1, zip2Of.eq_1, zip2Of.eq_2, endC_nx, endC_rt, PySem.sizeLine, wipeE, keepO, eqv_ii, eqv_bb, eqv_ib, eqv_bi, eqv_ss, eqv_ll, eqv_tt, eqv_nn, eqvs_nn, eqvs_cc, eqvs_r, flat_int, flat_bl, flat_non, flat_str, flat_lst, flat_tup, flats_nil, flats_cons, flats_ints, D.plain.eq_1, D.plain.eq_2, D.plain.eq_3, D.plain.eq_4, D.plain.eq_5, D.plain.eq_6, D.scal.eq_1, D.scal.eq_2, D.scal.eq_3, D.scal.eq_4, D.scal.eq_5, D.isNon.eq_1, D.isNon.eq_2, isiop, isTy, tyOk, b2i]
theorem dig3 (h : 0 ≤ m ∧ m < 2147483648) : ∃ m' : Int, ∀ ss, execs C w (.cons (digS 3) ss) (digE ns i c b v r l (some (.sh, .int j)) (some (.sh, .int m))) = execs C w ss (digE ns i c b v r l (some (.sh, .int j)) (some (.sh, .int m'))) := by
  obtain ⟨p2, a2, b2, e2⟩ := prime_at (j + 5)
  have sm : smallI m = true := small_of h.1 h.2
  refine ⟨m * m * m % p2, fun ss => ?_⟩
  simp only [digS, B_law_digits, List.getD_cons_zero, List.getD_cons_succ, digE]
  simp [e2, a2, sm, kTup_ap, kLst_ap, kRes_ap, kBin2_ap, kBin_ap, kBl_ap, kNb_ap, kNot_ap, kAnd2_ap, kAnd_ap, kOr2_ap, kOr_ap, kIfe2_ap, kIfe_ap, kCmp2_ap, kCmp_ap, kCall4_ap, kCall3_ap, kCall2_ap, kCall_ap, kBlt_ap, kIsi_ap, kSh_ap, kSub2_ap, kSub_ap, kSlc3_ap, kSlc2_ap, kSlc_ap, kCons_ap, kEvs_ap, kEvP_ap, kConsF_ap, kEvPar_ap, kConsA_ap, kEvA_ap, kConsS_ap, kIfs2_ap, kIfs_ap, kEl_ap, kL_ap, kVal_ap, kEn_ap, kEnm_ap, kZ2_ap, kZ_ap, kTr_ap, kT0_ap, kT1_ap, kT2_ap, kComp_ap, kColl_ap, kQ_ap, kB_ap, kFor2_ap, kFor_ap, kNx_ap, kAsg_ap, kAsgT_ap, kPar2_ap, kPar_ap, kStp_ap, kApp_ap, kRet_ap, kIfS_ap, kEx_ap, kEnd_ap, ev_var, getV_ok, fl_sh, fl_own, fl_io, ev_cst, ev_gfn, ev_tup, ev_lst, ev_bin, negV_int, ev_neg, ev_not, ev_and, ev_or, ev_ife, ev_cmp, ev_call, ev_blt, ev_isi, ev_sub, ev_slc, intO_int, evO_no, evO_yes, AR.evs_nil, AR.evs_cons, evP_nil, evP_cons, evPar_nil, evPar_cons, evA_nil, evA_c, aO_no, E.isRef.eq_1, E.isRef.eq_2, res_nil, res_v, refs_nil, refs_vv, outs_nil, nodup_nil, evIfs_nil, evIfs_cons, evCl_el, ev_comp, evCl_one, evI_val, rngV_int, evI_rng1, evI_enm, evI_zip2, isMut_eq, any_nil, any_cons, mutO.eq_1, mutO.eq_2, mutO.eq_3, setO_ok, setV_o, isIo_no, isIo_sh, isIo_own, frz_nil, frz_cons, frzO_own, frzO_sh, frzO_no, plainF_ap, evF_eq, pureF_no, pureF_yes, evT_eq, pureT_no, pureT_yes, ice_nil, ice_cons, iceO_some, iceO_none, new_sh, new_fr, appO_own, fre_sh, fre_fr, pk_sh, pk_fr, pk_bo, pk_bi, out_sh, out_fr, out_bo, subO_ok, sub_tup, sub_lst, sub_scr, AR.exec_asgv, exec_asgt, exec_par, exec_app, exec_aug, augV_int, augO_int, exec_ret, exec_ret0, exec_ife, exec_ex, exec_pass, AR.execs_nil, AR.execs_cons, thenS_nx, thenS_rt, AR.exec_for, exec_whl, bind_var, bind_tup, binds_nil, binds_cons, stp_nil, stp_cons, E.esc, E.escP, E.escR, E.pure, Es.esc, Es.escP, Es.pure, pureO, escO, It.esc, It.escP, It.pure, Cl.esc, Cl.pureC, binop.eq_1, binop.eq_2, binop.eq_3, binop.eq_4, binop.eq_5, binop.eq_6, binop.eq_7, binop.eq_8, binop.eq_9, binop.eq_10, cmpop.eq_1, cmpop.eq_2, cmpop.eq_3, cmpop.eq_4, cmpop.eq_5, cmpop.eq_6, cmpop.eq_7, cmpop.eq_8, cmpop.eq_9, cmpop.eq_10, cmpop.eq_11, cmpop.eq_12, cmpop.eq_13, D.truth.eq_1, D.truth.eq_2, D.truth.eq_3, D.truth.eq_4, D.truth.eq_5, D.truth.eq_6, slcop.eq_1, slcop.eq_2, bltop.eq_1, bltop.eq_2, bltop.eq_3, bltop.eq_4, bltop.eq_5, bltop.eq_6, bltop.eq_7, bltop.eq_9, bltop.eq_10, bltop.eq_11, bltop.eq_12, bltop.eq_13, bltop.eq_14, bltop.eq_15, bltop.eq_16, bltop.eq_17, bltop.eq_18, bltop.eq_19, bltop.eq_20, bltop.eq_21, bltop.eq_22, seq?.eq_1, seq?.eq_2, itemsOf.eq_1, itemsOf.eq_2, itemsOf.eq_3, enmOf.eq_1, zip2Of.eq_1, zip2Of.eq_2, endC_nx, endC_rt, PySem.sizeLine, wipeE, keepO, eqv_ii, eqv_bb, eqv_ib, eqv_bi, eqv_ss, eqv_ll, eqv_tt, eqv_nn, eqvs_nn, eqvs_cc, eqvs_r, flat_int, flat_bl, flat_non, flat_str, flat_lst, flat_tup, flats_nil, flats_cons, flats_ints, D.plain.eq_1, D.plain.eq_2, D.plain.eq_3, D.plain.eq_4, D.plain.eq_5, D.plain.eq_6, D.scal.eq_1, D.scal.eq_2, D.scal.eq_3, D.scal.eq_4, D.scal.eq_5, D.isNon.eq_1, D.isNon.eq_2, isiop, isTy, tyOk, b2i]
theorem dig4 : ∃ m' : Int, ∀ ss, execs C w (.cons (digS 4) ss) (digE ns i c b v r l (some (.sh, .int j)) (some (.sh, .int m))) = execs C w ss (digE ns i c b v r l (some (.sh, .int j)) (some (.sh, .int m'))) := by
  by_cases hr : 0 < r
  · refine ⟨r, fun ss => ?_⟩
    simp only [digS, B_law_digits, List.getD_cons_zero, List.getD_cons_succ, digE]
    simp [hr, kTup_ap, kLst_ap, kRes_ap, kBin2_ap, kBin_ap, kBl_ap, kNb_ap, kNot_ap, kAnd2_ap, kAnd_ap, kOr2_ap, kOr_ap, kIfe2_ap, kIfe_ap, kCmp2_ap, kCmp_ap, kCall4_ap, kCall3_ap, kCall2_ap, kCall_ap, kBlt_ap, kIsi_ap, kSh_ap, kSub2_ap, kSub_ap, kSlc3_ap, kSlc2_ap, kSlc_ap, kCons_ap, kEvs_ap, kEvP_ap, kConsF_ap, kEvPar_ap, kConsA_ap, kEvA_ap, kConsS_ap, kIfs2_ap, kIfs_ap, kEl_ap, kL_ap, kVal_ap, kEn_ap, kEnm_ap, kZ2_ap, kZ_ap, kTr_ap, kT0_ap, kT1_ap, kT2_ap, kComp_ap, kColl_ap, kQ_ap, kB_ap, kFor2_ap, kFor_ap, kNx_ap, kAsg_ap, kAsgT_ap, kPar2_ap, kPar_ap, kStp_ap, kApp_ap, kRet_ap, kIfS_ap, kEx_ap, kEnd_ap, ev_var, getV_ok, fl_sh, fl_own, fl_io, ev_cst, ev_gfn, ev_tup, ev_lst, ev_bin, negV_int, ev_neg, ev_not, ev_and, ev_or, ev_ife, ev_cmp, ev_call, ev_blt, ev_isi, ev_sub, ev_slc, intO_int, evO_no, evO_yes, AR.evs_nil, AR.evs_cons, evP_nil, evP_cons, evPar_nil, evPar_cons, evA_nil, evA_c, aO_no, E.isRef.eq_1, E.isRef.eq_2, res_nil, res_v, refs_nil, refs_vv, outs_nil, nodup_nil, evIfs_nil, evIfs_cons, evCl_el, ev_comp, evCl_one, evI_val, rngV_int, evI_rng1, evI_enm, evI_zip2, isMut_eq, any_nil, any_cons, mutO.eq_1, mutO.eq_2, mutO.eq_3, setO_ok, setV_o, isIo_no, isIo_sh, isIo_own, frz_nil, frz_cons, frzO_own, frzO_sh, frzO_no, plainF_ap, evF_eq, pureF_no, pureF_yes, evT_eq, pureT_no, pureT_yes, ice_nil, ice_cons, iceO_some, iceO_none, new_sh, new_fr, appO_own, fre_sh, fre_fr, pk_sh, pk_fr, pk_bo, pk_bi, out_sh, out_fr, out_bo, subO_ok, sub_tup, sub_lst, sub_scr, AR.exec_asgv, exec_asgt, exec_par, exec_app, exec_aug, augV_int, augO_int, exec_ret, exec_ret0, exec_ife, exec_ex, exec_pass, AR.execs_nil, AR.execs_cons, thenS_nx, thenS_rt, AR.exec_for, exec_whl, bind_var, bind_tup, binds_nil, binds_cons, stp_nil, stp_cons, E.esc, E.escP, E.escR, E.pure, Es.esc, Es.escP, Es.pure, pureO, escO, It.esc, It.escP, It.pure, Cl.esc, Cl.pureC, binop.eq_1, binop.eq_2, binop.eq_3, binop.eq_4, binop.eq_5, binop.eq_6, binop.eq_7, binop.eq_8, binop.eq_9, binop.eq_10, cmpop.eq_1, cmpop.eq_2, cmpop.eq_3, cmpop.eq_4, cmpop.eq_5, cmpop.eq_6, cmpop.eq_7, cmpop.eq_8, cmpop.eq_9, cmpop.eq_10, cmpop.eq_11, cmpop.eq_12, cmpop.eq_13, D.truth.eq_1, D.truth.eq_2, D.truth.eq_3, D.truth.eq_4, D.truth.eq_5, D.truth.eq_6, slcop.eq_1, slcop.eq_2, bltop.eq_1, bltop.eq_2, bltop.eq_3, bltop.eq_4, bltop.eq_5, bltop.eq_6, bltop.eq_7, bltop.eq_9, bltop.eq_10, bltop.eq_11, bltop.eq_12, bltop.eq_13, bltop.eq_14, bltop.eq_15, bltop.eq_16, bltop.eq_17, bltop.eq_18, bltop.eq_19, bltop.eq_20, bltop.eq_21, bltop.eq_22, seq?.eq_1, seq?.eq_2, itemsOf.eq_1, itemsOf.eq_2, itemsOf.eq_3, enmOf.eq_1, zip2Of.eq_1, zip2Of.eq_2, endC_nx, endC_rt, PySem.sizeLine, wipeE, keepO, eqv_ii, eqv_bb, eqv_ib, eqv_bi, eqv_ss, eqv_ll, eqv_tt, eqv_nn, eqvs_nn, eqvs_cc, eqvs_r, flat_int, flat_bl, flat_non, flat_str, flat_lst, flat_tup, flats_nil, flats_cons, flats_ints, D.plain.eq_1, D.plain.eq_2, D.plain.eq_3, D.plain.eq_4, D.plain.eq_5, D.plain.eq_6, D.scal.eq_1, D.scal.eq_2, D.scal.eq_3, D.scal.eq_4, D.scal.eq_5, D.isNon.eq_1, D.isNon.eq_2, isiop, isTy, tyOk, b2i]
  · refine ⟨m, fun ss => ?_⟩
    simp only [digS, B_law_digits, List.getD_cons_zero, List.getD_cons_succ, digE]
    simp [hr, kTup_ap, kLst_ap, kRes_ap, kBin2_ap, kBin_ap, kBl_ap, kNb_ap, kNot_ap, kAnd2_ap, kAnd_ap, kOr2_ap, kOr_ap, kIfe2_ap, kIfe_ap, kCmp2_ap, kCmp_ap, kCall4_ap, kCall3_ap, kCall2_ap, kCall_ap, kBlt_ap, kIsi_ap, kSh_ap, kSub2_ap, kSub_ap, kSlc3_ap, kSlc2_ap, kSlc_ap, kCons_ap, kEvs_ap, kEvP_ap, kConsF_ap, kEvPar_ap, kConsA_ap, kEvA_ap, kConsS_ap, kIfs2_ap, kIfs_ap, kEl_ap, kL_ap, kVal_ap, kEn_ap, kEnm_ap, kZ2_ap, kZ_ap, kTr_ap, kT0_ap, kT1_ap, kT2_ap, kComp_ap, kColl_ap, kQ_ap, kB_ap, kFor2_ap, kFor_ap, kNx_ap, kAsg_ap, kAsgT_ap, kPar2_ap, kPar_ap, kStp_ap, kApp_ap, kRet_ap, kIfS_ap, kEx_ap, kEnd_ap, ev_var, getV_ok, fl_sh, fl_own, fl_io, ev_cst, ev_gfn, ev_tup, ev_lst, ev_bin, negV_int, ev_neg, ev_not, ev_and, ev_or, ev_ife, ev_cmp, ev_call, ev_blt, ev_isi, ev_sub, ev_slc, intO_int, evO_no, evO_yes, AR.evs_nil, AR.evs_cons, evP_nil, evP_cons, evPar_nil, evPar_cons, evA_nil, evA_c, aO_no, E.isRef.eq_1, E.isRef.eq_2, res_nil, res_v, refs_nil, refs_vv, outs_nil, nodup_nil, evIfs_nil, evIfs_cons, evCl_el, ev_comp, evCl_one, evI_val, rngV_int, evI_rng1, evI_enm, evI_zip2, isMut_eq, any_nil, any_cons, mutO.eq_1, mutO.eq_2, mutO.eq_3, setO_ok, setV_o, isIo_no, isIo_sh, isIo_own, frz_nil, frz_cons, frzO_own, frzO_sh, frzO_no, plainF_ap, evF_eq, pureF_no, pureF_yes, evT_eq, pureT_no, pureT_yes, ice_nil, ice_cons, iceO_some, iceO_none, new_sh, new_fr, appO_own, fre_sh, fre_fr, pk_sh, pk_fr, pk_bo, pk_bi, out_sh, out_fr, out_bo, subO_ok, sub_tup, sub_lst, sub_scr, AR.exec_asgv, exec_asgt, exec_par, exec_app, exec_aug, augV_int, augO_int, exec_ret, exec_ret0, exec_ife, exec_ex, exec_pass, AR.execs_nil, AR.execs_cons, thenS_nx, thenS_rt, AR.exec_for, exec_whl, bind_var, bind_tup, binds_nil, binds_cons, stp_nil, stp_cons, E.esc, E.escP, E.escR, E.pure, Es.esc, Es.escP, Es.pure, pureO, escO, It.esc, It.escP, It.pure, Cl.esc, Cl.pureC, binop.eq_1, binop.eq_2, binop.eq_3, binop.eq_4, binop.eq_5, binop.eq_6, binop.eq_7, binop.eq_8, binop.eq_9, binop.eq_10, cmpop.eq_1, cmpop.eq_2, cmpop.eq_3, cmpop.eq_4, cmpop.eq_5, cmpop.eq_6, cmpop.eq_7, cmpop.eq_8, cmpop.eq_9, cmpop.eq_10, cmpop.eq_11, cmpop.eq_12, cmpop.eq_13, D.truth.eq_1, D.truth.eq_2, D.truth.eq_3, D.truth.eq_4, D.truth.eq_5, D.truth.eq_6, slcop.eq_1, slcop.eq_2, bltop.eq_1, bltop.eq_2, bltop.eq_3, bltop.eq_4, bltop.eq_5, bltop.eq_6, bltop.eq_7, bltop.eq_9, bltop.eq_10, bltop.eq_11, bltop.eq_12, bltop.eq_13, bltop.eq_14, bltop.eq_15, bltop.eq_16, bltop.eq_17, bltop.eq_18, bltop.eq_19, bltop.eq_20, bltop.eq_21, bltop.eq_22, seq?.eq_1, seq?.eq_2, itemsOf.eq_1, itemsOf.eq_2, itemsOf.eq_3, enmOf.eq_1, zip2Of.eq_1, zip2Of.eq_2, endC_nx, endC_rt, PySem.sizeLine, wipeE, keepO, eqv_ii, eqv_bb, eqv_ib, eqv_bi, eqv_ss, eqv_ll, eqv_tt, eqv_nn, eqvs_nn, eqvs_cc, eqvs_r, flat_int, flat_bl, flat_non, flat_str, flat_lst, flat_tup, flats_nil, flats_cons, flats_ints, D.plain.eq_1, D.plain.eq_2, D.plain.eq_3, D.plain.eq_4, D.plain.eq_5, D.plain.eq_6, D.scal.eq_1, D.scal.eq_2, D.scal.eq_3, D.scal.eq_4, D.scal.eq_5, D.isNon.eq_1, D.isNon.eq_2, isiop, isTy, tyOk, b2i]
theorem dig5 (hl : l.length < 16777216) (hb : 0 < b) (ss : Ss) : execs C w (.cons (digS 5) ss) (digE ns i c b v r l (some (.sh, .int j)) (some (.sh, .int m))) = execs C w ss (digE ns i c b v r (l ++ [.int (m % b)]) (some (.sh, .int j)) (some (.sh, .int m))) := by
  simp only [digS, B_law_digits, List.getD_cons_zero, List.getD_cons_succ, digE]
  simp [hl, hb, kTup_ap, kLst_ap, kRes_ap, kBin2_ap, kBin_ap, kBl_ap, kNb_ap, kNot_ap, kAnd2_ap, kAnd_ap, kOr2_ap, kOr_ap, kIfe2_ap, kIfe_ap, kCmp2_ap, kCmp_ap, kCall4_ap, kCall3_ap, kCall2_ap, kCall_ap, kBlt_ap, kIsi_ap, kSh_ap, kSub2_ap, kSub_ap, kSlc3_ap, kSlc2_ap, kSlc_ap, kCons_ap, kEvs_ap, kEvP_ap, kConsF_ap, kEvPar_ap, kConsA_ap, kEvA_ap, kConsS_ap, kIfs2_ap, kIfs_ap, kEl_ap, kL_ap, kVal_ap, kEn_ap, kEnm_ap, kZ2_ap, kZ_ap, kTr_ap, kT0_ap, kT1_ap, kT2_ap, kComp_ap, kColl_ap, kQ_ap, kB_ap, kFor2_ap, kFor_ap, kNx_ap, kAsg_ap, kAsgT_ap, kPar2_ap, kPar_ap, kStp_ap, kApp_ap, kRet_ap, kIfS_ap, kEx_ap, kEnd_ap, ev_var, getV_ok, fl_sh, fl_own, fl_io, ev_cst, ev_gfn, ev_tup, ev_lst, ev_bin, negV_int, ev_neg, ev_not, ev_and, ev_or, ev_ife, ev_cmp, ev_call, ev_blt, ev_isi, ev_sub, ev_slc, intO_int, evO_no, evO_yes, AR.evs_nil, AR.evs_cons, evP_nil, evP_cons, evPar_nil, evPar_cons, evA_nil, evA_c, aO_no, E.isRef.eq_1, E.isRef.eq_2, res_nil, res_v, refs_nil, refs_vv, outs_nil, nodup_nil, evIfs_nil, evIfs_cons, evCl_el, ev_comp, evCl_one, evI_val, rngV_int, evI_rng1, evI_enm, evI_zip2, isMut_eq, any_nil, any_cons, mutO.eq_1, mutO.eq_2, mutO.eq_3, setO_ok, setV_o, isIo_no, isIo_sh, isIo_own, frz_nil, frz_cons, frzO_own, frzO_sh, frzO_no, plainF_ap, evF_eq, pureF_no, pureF_yes, evT_eq, pureT_no, pureT_yes, ice_nil, ice_cons, iceO_some, iceO_none, new_sh, new_fr, appO_own, fre_sh, fre_fr, pk_sh, pk_fr, pk_bo, pk_bi, out_sh, out_fr, out_bo, subO_ok, sub_tup, sub_lst, sub_scr, AR.exec_asgv, exec_asgt, exec_par, exec_app, exec_aug, augV_int, augO_int, exec_ret, exec_ret0, exec_ife, exec_ex, exec_pass, AR.execs_nil, AR.execs_cons, thenS_nx, thenS_rt, AR.exec_for, exec_whl, bind_var, bind_tup, binds_nil, binds_cons, stp_nil, stp_cons, E.esc, E.escP, E.escR, E.pure, Es.esc, Es.escP, Es.pure, pureO, escO, It.esc, It.escP, It.pure, Cl.esc, Cl.pureC, binop.eq_1, binop.eq_2, binop.eq_3, binop.eq_4, binop.eq_5, binop.eq_6, binop.eq_7, binop.eq_8, binop.eq_9, binop.eq_10, cmpop.eq_1, cmpop.eq_2, cmpop.eq_3, cmpop.eq_4, cmpop.eq_5, cmpop.eq_6, cmpop.eq_7, cmpop.eq_8, cmpop.eq_9, cmpop.eq_10, cmpop.eq_11, cmpop.eq_12, cmpop.eq_13, D.truth.eq_1, D.truth.eq_2, D.truth.eq_3, D.truth.eq_4, D.truth.eq_5, D.truth.eq_6, slcop.eq_1, slcop.eq_2, bltop.eq_1, bltop.eq_2, bltop.eq_3, bltop.eq_4, bltop.eq_5, bltop.eq_6, bltop.eq_7, bltop.eq_9, bltop.eq_10, bltop.eq_11, bltop.eq_12, bltop.eq_13, bltop.eq_14, bltop.eq_15, bltop.eq_16, bltop.eq_17, bltop.eq_18, bltop.eq_19, bltop.eq_20, bltop.eq_21, bltop.eq_22, seq?.eq_1, seq?.eq_2, itemsOf.eq_1, itemsOf.eq_2, itemsOf.eq_3, enmOf.eq_1, zip2Of.eq_1, zip2Of.eq_2, endC_nx, endC_rt, PySem.sizeLine, wipeE, keepO, eqv_ii, eqv_bb, eqv_ib, eqv_bi, eqv_ss, eqv_ll, eqv_tt, eqv_nn, eqvs_nn, eqvs_cc, eqvs_r, flat_int, flat_bl, flat_non, flat_str, flat_lst, flat_tup, flats_nil, flats_cons, flats_ints, D.plain.eq_1, D.plain.eq_2, D.plain.eq_3, D.plain.eq_4, D.plain.eq_5, D.plain.eq_6, D.scal.eq_1, D.scal.eq_2, D.scal.eq_3, D.scal.eq_4, D.scal.eq_5, D.isNon.eq_1, D.isNon.eq_2, isiop, isTy, tyOk, b2i]
theorem dig6 (hb : 0 < b) (hb2 : b < 1073741824) (ss : Ss) : execs C w (.cons (digS 6) ss) (digE ns i c b v r l (some (.sh, .int j)) (some (.sh, .int m))) = execs C w ss (digE ns i c b v (r / b) l (some (.sh, .int j)) (some (.sh, .int m))) := by
  simp only [digS, B_law_digits, List.getD_cons_zero, List.getD_cons_succ, digE]
  simp [hb, hb2, kTup_ap, kLst_ap, kRes_ap, kBin2_ap, kBin_ap, kBl_ap, kNb_ap, kNot_ap, kAnd2_ap, kAnd_ap, kOr2_ap, kOr_ap, kIfe2_ap, kIfe_ap, kCmp2_ap, kCmp_ap, kCall4_ap, kCall3_ap, kCall2_ap, kCall_ap, kBlt_ap, kIsi_ap, kSh_ap, kSub2_ap, kSub_ap, kSlc3_ap, kSlc2_ap, kSlc_ap, kCons_ap, kEvs_ap, kEvP_ap, kConsF_ap, kEvPar_ap, kConsA_ap, kEvA_ap, kConsS_ap, kIfs2_ap, kIfs_ap, kEl_ap, kL_ap, kVal_ap, kEn_ap, kEnm_ap, kZ2_ap, kZ_ap, kTr_ap, kT0_ap, kT1_ap, kT2_ap, kComp_ap, kColl_ap, kQ_ap, kB_ap, kFor2_ap, kFor_ap, kNx_ap, kAsg_ap, kAsgT_ap, kPar2_ap, kPar_ap, kStp_ap, kApp_ap, kRet_ap, kIfS_ap, kEx_ap, kEnd_ap, ev_var, getV_ok, fl_sh, fl_own, fl_io, ev_cst, ev_gfn, ev_tup, ev_lst, ev_bin, negV_int, ev_neg, ev_not, ev_and, ev_or, ev_ife, ev_cmp, ev_call, ev_blt, ev_isi, ev_sub, ev_slc, intO_int, evO_no, evO_yes, AR.evs_nil, AR.evs_cons, evP_nil, evP_cons, evPar_nil, evPar_cons, evA_nil, evA_c, aO_no, E.isRef.eq_1, E.isRef.eq_2, res_nil, res_v, refs_nil, refs_vv, outs_nil, nodup_nil, evIfs_nil, evIfs_cons, evCl_el, ev_comp, evCl_one, evI_val, rngV_int, evI_rng1, evI_enm, evI_zip2, isMut_eq, any_nil, any_cons, mutO.eq_1, mutO.eq_2, mutO.eq_3, setO_ok, setV_o, isIo_no, isIo_sh, isIo_own, frz_nil, frz_cons, frzO_own, frzO_sh, frzO_no, plainF_ap, evF_eq, pureF_no, pureF_yes, evT_eq, pureT_no, pureT_yes, ice_nil, ice_cons, iceO_some, iceO_none, new_sh, new_fr, appO_own, fre_sh, fre_fr, pk_sh, pk_fr, pk_bo, pk_bi, out_sh, out_fr, out_bo, subO_ok, sub_tup, sub_lst, sub_scr, AR.exec_asgv, exec_asgt, exec_par, exec_app, exec_aug, augV_int, augO_int, exec_ret, exec_ret0, exec_ife, exec_ex, exec_pass, AR.execs_nil, AR.execs_cons, thenS_nx, thenS_rt, AR.exec_for, exec_whl, bind_var, bind_tup, binds_nil, binds_cons, stp_nil, stp_cons, E.esc, E.escP, E.escR, E.pure, Es.esc, Es.escP, Es.pure, pureO, escO, It.esc, It.escP, It.pure, Cl.esc, Cl.pureC, binop.eq_1, binop.eq_2, binop.eq_3, binop.eq_4, binop.eq_5, binop.eq_6, binop.eq_7, binop.eq_8, binop.eq_9, binop.eq_10, cmpop.eq_1, cmpop.eq_2, cmpop.eq_3, cmpop.eq_4, cmpop.eq_5, cmpop.eq_6, cmpop.eq_7, cmpop.eq_8, cmpop.eq_9, cmpop.eq_10, cmpop.eq_11, cmpop.eq_12, cmpop.eq_13, D.truth.eq_1, D.truth.eq_2, D.truth.eq_3, D.truth.eq_4, D.truth.eq_5, D.truth.eq_6, slcop.eq_1, slcop.eq_2, bltop.eq_1, bltop.eq_2, bltop.eq_3, bltop.eq_4, bltop.eq_5, bltop.eq_6, bltop.eq_7, bltop.eq_9, bltop.eq_10, bltop.eq_11, bltop.eq_12, bltop.eq_13, bltop.eq_14, bltop.eq_15, bltop.eq_16, bltop.eq_17, bltop.eq_18, bltop.eq_19, bltop.eq_20, bltop.eq_21, bltop.eq_22, seq?.eq_1, seq?.eq_2, itemsOf.eq_1, itemsOf.eq_2, itemsOf.eq_3, enmOf.eq_1, zip2Of.eq_1, zip2Of.eq_2, endC_nx, endC_rt, PySem.sizeLine, wipeE, keepO, eqv_ii, eqv_bb, eqv_ib, eqv_bi, eqv_ss, eqv_ll, eqv_tt, eqv_nn, eqvs_nn, eqvs_cc, eqvs_r, flat_int, flat_bl, flat_non, flat_str, flat_lst, flat_tup, flats_nil, flats_cons, flats_ints, D.plain.eq_1, D.plain.eq_2, D.plain.eq_3, D.plain.eq_4, D.plain.eq_5, D.plain.eq_6, D.scal.eq_1, D.scal.eq_2, D.scal.eq_3, D.scal.eq_4, D.scal.eq_5, D.isNon.eq_1, D.isNon.eq_2, isiop, isTy, tyOk, b2i]
def digB : Ss := .cons (digS 0) (.cons (digS 1) (.cons (digS 2) (.cons (digS 3) (.cons (digS 4) (.cons (digS 5) (.cons (digS 6) .nil))))))
theorem dig_turn (hx : isIo x = false) (hy : isIo y = false) (hj0 : 0 ≤ j) (hj : j < 1000000) (hl : l.length < 16777216) (hb : 0 < b) (hb2 : b < 1073741824) :
    ∃ m r' y' : Int, 0 ≤ m ∧ m < b ∧ forB C w (.var 8) digB (digE ns i c b v r l x y) (.int j) = .ok (.nx (digE ns i c b v r' (l ++ [.int m]) (some (.sh, .int j)) (some (.sh, .int y')))) := by
  have h0 : bindT (.var 8) (.int j) (digE ns i c b v r l x y) = .ok (digE ns i c b v r l (some (.sh, .int j)) y) := by
    simp [digE, hx, bind_var, setV_o, setO_ok]
  obtain ⟨m0, h1⟩ := dig0 (C := C) (w := w) (ns := ns) (i := i) (c := c) (b := b) (v := v) (r := r) (l := l) hy hj0 hj
  obtain ⟨m1, h2⟩ := dig1 (C := C) (w := w) (ns := ns) (i := i) (c := c) (b := b) (v := v) (r := r) (l := l) (m := m0) hj0 hj
  obtain ⟨m2, b2, h3⟩ := dig2 (C := C) (w := w) (ns := ns) (i := i) (j := j) (c := c) (b := b) (v := v) (r := r) (l := l) (m := m1)
  obtain ⟨m3, h4⟩ := dig3 (C := C) (w := w) (ns := ns) (i := i) (j := j) (c := c) (b := b) (v := v) (r := r) (l := l) b2
  obtain ⟨m4, h5⟩ := dig4 (C := C) (w := w) (ns := ns) (i := i) (j := j) (c := c) (b := b) (v := v) (r := r) (l := l) (m := m3)
  refine ⟨m4 % b, r / b, m4, Int.emod_nonneg _ (by omega), Int.emod_lt_of_pos _ hb, ?_⟩
  rw [forB_ap, h0, bnd_yes]
  unfold digB
  rw [h1, h2, h3, h4, h5, dig5 hl hb, dig6 hb hb2, AR.execs_nil]
end
def digT (kc k : Nat) : S := match B_law_digits kc with
  | .cons s0 (.cons s1 (.cons s2 (.cons s3 _))) => [s0, s1, s2, s3].getD k .pass
  | _ => .pass
/-- numbers in [0, b) -/
def Digs (b : Int) (l : List D) : Prop := ∃ ns : List Int, l = ns.map .int ∧ ∀ x ∈ ns, 0 ≤ x ∧ x < b
theorem digits_run {k kc : Nat} (ht : tab k = some ⟨4, [], 10, B_law_digits kc⟩) (hc : tab kc = some ⟨2, [], 2, B_law_cell⟩) (n : Nat) (ns : List Int) (i : Nat) (c : Int) (hc0 : 0 ≤ c) (hcc : c ≤ 1000) (b : Int) (hb : 0 < b) (hb2 : b < 1073741824) :
    ∃ l : List D, l.length = c.toNat ∧ Digs b l ∧ callN tab w (n+2) k [(.sh, .scr ns), (.sh, .int i), (.sh, .int c), (.sh, .int b)] = .ok ([], .fr, .lst l) := by
  obtain ⟨v, hv⟩ := cell_run (w := w) hc n ns i
  generalize (i : Int) = i at *
  obtain ⟨r0, hr0⟩ : ∃ r0 : Int, r0 = if (10 : Int) ^ 18 ≤ v then v else 0 := ⟨_, rfl⟩
  have hloop : ∃ e', forL (forB (callN tab w (n+1)) w (.var 8) digB) (rangeI 0 c) (digE ns i c b v r0 [] none none) = .ok (.nx e') ∧ (fun i' (e : Env) => ∃ r l x y, e = digE ns i c b v r l x y ∧ isIo x = false ∧ isIo y = false ∧ l.length = i' ∧ Digs b l) (rangeI 0 c).length e' := by
    refine forL_ind (fun i' (e : Env) => ∃ r l x y, e = digE ns i c b v r l x y ∧ isIo x = false ∧ isIo y = false ∧ l.length = i' ∧ Digs b l) ⟨r0, [], none, none, rfl, rfl, rfl, rfl, [], rfl, fun x hx => by cases hx⟩ fun i' d e hd hI => ?_
    obtain ⟨r, l, x, y, e1, h1, h2, h3, h4⟩ := hI
    subst e1
    obtain ⟨q1, q2⟩ := rangeI_get hd
    have q3 : d = .int (i' : Int) := by rw [q1]; congr 1; omega
    subst q3
    generalize hJ : (i' : Int) = J at *
    obtain ⟨m, r', y', g1, g2, g3⟩ := dig_turn (w := w) (C := callN tab w (n+1)) (ns := ns) (i := i) (j := J) (c := c) (b := b) (v := v) (r := r) (l := l) h1 h2 (by omega) (by omega) (by omega) hb hb2
    refine ⟨_, g3, r', _, _, _, rfl, rfl, rfl, by rw [List.length_append, h3]; rfl, ?_⟩
    obtain ⟨xs, w1, w2⟩ := h4
    exact ⟨xs ++ [m], by rw [w1, List.map_append]; rfl, fun z hz => (List.mem_append.mp hz).elim (w2 z) fun hz => by rw [List.mem_singleton.mp hz]; exact ⟨g1, g2⟩⟩
  obtain ⟨e', h1, r, l, x, y, h2, _, _, h5, h6⟩ := hloop
  rw [rangeI_len] at h5
  refine ⟨l, by omega, h6, ?_⟩
  rw [callN_ev ht rfl rfl rfl]
  have hok : okB c = true := by unfold okB; simp; omega
  subst h2
  have t1 : ∀ ss, execs (callN tab w (n+1)) w (.cons (digT kc 0) ss) [some (.sh, .scr ns), some (.sh, .int i), some (.sh, .int c), some (.sh, .int b), none, none, none, none, none, none] = execs (callN tab w (n+1)) w ss [some (.sh, .scr ns), some (.sh, .int i), some (.sh, .int c), some (.sh, .int b), some (.sh, .tup primesD), none, none, none, none, none] := fun ss => by
    simp only [digT, B_law_digits, List.getD_cons_zero]
    simp [kTup_ap, kLst_ap, kRes_ap, kBin2_ap, kBin_ap, kBl_ap, kNb_ap, kNot_ap, kAnd2_ap, kAnd_ap, kOr2_ap, kOr_ap, kIfe2_ap, kIfe_ap, kCmp2_ap, kCmp_ap, kCall4_ap, kCall3_ap, kCall2_ap, kCall_ap, kBlt_ap, kIsi_ap, kSh_ap, kSub2_ap, kSub_ap, kSlc3_ap, kSlc2_ap, kSlc_ap, kCons_ap, kEvs_ap, kEvP_ap, kConsF_ap, kEvPar_ap, kConsA_ap, kEvA_ap, kConsS_ap, kIfs2_ap, kIfs_ap, kEl_ap, kL_ap, kVal_ap, kEn_ap, kEnm_ap, kZ2_ap, kZ_ap, kTr_ap, kT0_ap, kT1_ap, kT2_ap, kComp_ap, kColl_ap, kQ_ap, kB_ap, kFor2_ap, kFor_ap, kNx_ap, kAsg_ap, kAsgT_ap, kPar2_ap, kPar_ap, kStp_ap, kApp_ap, kRet_ap, kIfS_ap, kEx_ap, kEnd_ap, ev_var, getV_ok, fl_sh, fl_own, fl_io, ev_cst, ev_gfn, ev_tup, ev_lst, ev_bin, negV_int, ev_neg, ev_not, ev_and, ev_or, ev_ife, ev_cmp, ev_call, ev_blt, ev_isi, ev_sub, ev_slc, intO_int, evO_no, evO_yes, AR.evs_nil, AR.evs_cons, evP_nil, evP_cons, evPar_nil, evPar_cons, evA_nil, evA_c, aO_no, E.isRef.eq_1, E.isRef.eq_2, res_nil, res_v, refs_nil, refs_vv, outs_nil, nodup_nil, evIfs_nil, evIfs_cons, evCl_el, ev_comp, evCl_one, evI_val, rngV_int, evI_rng1, evI_enm, evI_zip2, isMut_eq, any_nil, any_cons, mutO.eq_1, mutO.eq_2, mutO.eq_3, setO_ok, setV_o, isIo_no, isIo_sh, isIo_own, frz_nil, frz_cons, frzO_own, frzO_sh, frzO_no, plainF_ap, evF_eq, pureF_no, pureF_yes, evT_eq, pureT_no, pureT_yes, ice_nil, ice_cons, iceO_some, iceO_none, new_sh, new_fr, appO_own, fre_sh, fre_fr, pk_sh, pk_fr, pk_bo, pk_bi, out_sh, out_fr, out_bo, subO_ok, sub_tup, sub_lst, sub_scr, AR.exec_asgv, exec_asgt, exec_par, exec_app, exec_aug, augV_int, augO_int, exec_ret, exec_ret0, exec_ife, exec_ex, exec_pass, AR.execs_nil, AR.execs_cons, thenS_nx, thenS_rt, AR.exec_for, exec_whl, bind_var, bind_tup, binds_nil, binds_cons, stp_nil, stp_cons, E.esc, E.escP, E.escR, E.pure, Es.esc, Es.escP, Es.pure, pureO, escO, It.esc, It.escP, It.pure, Cl.esc, Cl.pureC, binop.eq_1, binop.eq_2, binop.eq_3, binop.eq_4, binop.eq_5, binop.eq_6, binop.eq_7, binop.eq_8, binop.eq_9, binop.eq_10, cmpop.eq_1, cmpop.eq_2, cmpop.eq_3, cmpop.eq_4, cmpop.eq_5, cmpop.eq_6, cmpop.eq_7, cmpop.eq_8, cmpop.eq_9, cmpop.eq_10, cmpop.eq_11, cmpop.eq_12, cmpop.eq_13, D.truth.eq_1, D.truth.eq_2, D.truth.eq_3, D.truth.eq_4, D.truth.eq_5, D.truth.eq_6, slcop.eq_1, slcop.eq_2, bltop.eq_1, bltop.eq_2, bltop.eq_3, bltop.eq_4, bltop.eq_5, bltop.eq_6, bltop.eq_7, bltop.eq_9, bltop.eq_10, bltop.eq_11, bltop.eq_12, bltop.eq_13, bltop.eq_14, bltop.eq_15, bltop.eq_16, bltop.eq_17, bltop.eq_18, bltop.eq_19, bltop.eq_20, bltop.eq_21, bltop.eq_22, seq?.eq_1, seq?.eq_2, itemsOf.eq_1, itemsOf.eq_2, itemsOf.eq_3, enmOf.eq_1, zip2Of.eq_1, zip2Of.eq_2, endC_nx, endC_rt, PySem.sizeLine, wipeE, keepO, eqv_ii, eqv_bb, eqv_ib, eqv_bi, eqv_ss, eqv_ll, eqv_tt, eqv_nn, eqvs_nn, eqvs_cc, eqvs_r, flat_int, flat_bl, flat_non, flat_str, flat_lst, flat_tup, flats_nil, flats_cons, flats_ints, D.plain.eq_1, D.plain.eq_2, D.plain.eq_3, D.plain.eq_4, D.plain.eq_5, D.plain.eq_6, D.scal.eq_1, D.scal.eq_2, D.scal.eq_3, D.scal.eq_4, D.scal.eq_5, D.isNon.eq_1, D.isNon.eq_2, isiop, isTy, tyOk, b2i]
  have t2 : ∀ ss, execs (callN tab w (n+1)) w (.cons (digT kc 1) ss) [some (.sh, .scr ns), some (.sh, .int i), some (.sh, .int c), some (.sh, .int b), some (.sh, .tup primesD), none, none, none, none, none] = execs (callN tab w (n+1)) w ss [some (.sh, .scr ns), some (.sh, .int i), some (.sh, .int c), some (.sh, .int b), some (.sh, .tup primesD), some (.sh, .int v), none, none, none, none] := fun ss => by
    simp only [digT, B_law_digits, List.getD_cons_zero, List.getD_cons_succ]
    simp [hv, kTup_ap, kLst_ap, kRes_ap, kBin2_ap, kBin_ap, kBl_ap, kNb_ap, kNot_ap, kAnd2_ap, kAnd_ap, kOr2_ap, kOr_ap, kIfe2_ap, kIfe_ap, kCmp2_ap, kCmp_ap, kCall4_ap, kCall3_ap, kCall2_ap, kCall_ap, kBlt_ap, kIsi_ap, kSh_ap, kSub2_ap, kSub_ap, kSlc3_ap, kSlc2_ap, kSlc_ap, kCons_ap, kEvs_ap, kEvP_ap, kConsF_ap, kEvPar_ap, kConsA_ap, kEvA_ap, kConsS_ap, kIfs2_ap, kIfs_ap, kEl_ap, kL_ap, kVal_ap, kEn_ap, kEnm_ap, kZ2_ap, kZ_ap, kTr_ap, kT0_ap, kT1_ap, kT2_ap, kComp_ap, kColl_ap, kQ_ap, kB_ap, kFor2_ap, kFor_ap, kNx_ap, kAsg_ap, kAsgT_ap, kPar2_ap, kPar_ap, kStp_ap, kApp_ap, kRet_ap, kIfS_ap, kEx_ap, kEnd_ap, ev_var, getV_ok, fl_sh, fl_own, fl_io, ev_cst, ev_gfn, ev_tup, ev_lst, ev_bin, negV_int, ev_neg, ev_not, ev_and, ev_or, ev_ife, ev_cmp, ev_call, ev_blt, ev_isi, ev_sub, ev_slc, intO_int, evO_no, evO_yes, AR.evs_nil, AR.evs_cons, evP_nil, evP_cons, evPar_nil, evPar_cons, evA_nil, evA_c, aO_no, E.isRef.eq_1, E.isRef.eq_2, res_nil, res_v, refs_nil, refs_vv, outs_nil, nodup_nil, evIfs_nil, evIfs_cons, evCl_el, ev_comp, evCl_one, evI_val, rngV_int, evI_rng1, evI_enm, evI_zip2, isMut_eq, any_nil, any_cons, mutO.eq_1, mutO.eq_2, mutO.eq_3, setO_ok, setV_o, isIo_no, isIo_sh, isIo_own, frz_nil, frz_cons, frzO_own, frzO_sh, frzO_no, plainF_ap, evF_eq, pureF_no, pureF_yes, evT_eq, pureT_no, pureT_yes, ice_nil, ice_cons, iceO_some, iceO_none, new_sh, new_fr, appO_own, fre_sh, fre_fr, pk_sh, pk_fr, pk_bo, pk_bi, out_sh, out_fr, out_bo, subO_ok, sub_tup, sub_lst, sub_scr, AR.exec_asgv, exec_asgt, exec_par, exec_app, exec_aug, augV_int, augO_int, exec_ret, exec_ret0, exec_ife, exec_ex, exec_pass, AR.execs_nil, AR.execs_cons, thenS_nx, thenS_rt, AR.exec_for, exec_whl, bind_var, bind_tup, binds_nil, binds_cons, stp_nil, stp_cons, E.esc, E.escP, E.escR, E.pure, Es.esc, Es.escP, Es.pure, pureO, escO, It.esc, It.escP, It.pure, Cl.esc, Cl.pureC, binop.eq_1, binop.eq_2, binop.eq_3, binop.eq_4, binop.eq_5, binop.eq_6, binop.eq_7, binop.eq_8, binop.eq_9, binop.eq_10, cmpop.eq_1, cmpop.eq_2, cmpop.eq_3, cmpop.eq_4, cmpop.eq_5, cmpop.eq_6, cmpop.eq_7, cmpop.eq_8, cmpop.eq_9, cmpop.eq_10, cmpop.eq_11, cmpop.eq_12, cmpop.eq_13, D.truth.eq_1, D.truth.eq_2, D.truth.eq_3, D.truth.eq_4, D.truth.eq_5, D.truth.eq_6, slcop.eq_1, slcop.eq_2, bltop.eq_1, bltop.eq_2, bltop.eq_3, bltop.eq_4, bltop.eq_5, bltop.eq_6, bltop.eq_7, bltop.eq_9, bltop.eq_10, bltop.eq_11, bltop.eq_12, bltop.eq_13, bltop.eq_14, bltop.eq_15, bltop.eq_16, bltop.eq_17, bltop.eq_18, bltop.eq_19, bltop.eq_20, bltop.eq_21, bltop.eq_22, seq?.eq_1, seq?.eq_2, itemsOf.eq_1, itemsOf.eq_2, itemsOf.eq_3, enmOf.eq_1, zip2Of.eq_1, zip2Of.eq_2, endC_nx, endC_rt, PySem.sizeLine, wipeE, keepO, eqv_ii, eqv_bb, eqv_ib, eqv_bi, eqv_ss, eqv_ll, eqv_tt, eqv_nn, eqvs_nn, eqvs_cc, eqvs_r, flat_int, flat_bl, flat_non, flat_str, flat_lst, flat_tup, flats_nil, flats_cons, flats_ints, D.plain.eq_1, D.plain.eq_2, D.plain.eq_3, D.plain.eq_4, D.plain.eq_5, D.plain.eq_6, D.scal.eq_1, D.scal.eq_2, D.scal.eq_3, D.scal.eq_4, D.scal.eq_5, D.isNon.eq_1, D.isNon.eq_2, isiop, isTy, tyOk, b2i]
  have t3 : ∀ ss, execs (callN tab w (n+1)) w (.cons (digT kc 2) ss) [some (.sh, .scr ns), some (.sh, .int i), some (.sh, .int c), some (.sh, .int b), some (.sh, .tup primesD), some (.sh, .int v), none, none, none, none] = execs (callN tab w (n+1)) w ss [some (.sh, .scr ns), some (.sh, .int i), some (.sh, .int c), some (.sh, .int b), some (.sh, .tup primesD), some (.sh, .int v), some (.sh, .int r0), none, none, none] := fun ss => by
    simp only [digT, B_law_digits, List.getD_cons_zero, List.getD_cons_succ]
    by_cases hv2 : (10 : Int) ^ 18 ≤ v
    · rw [if_pos hv2] at hr0
      have hv3 : (1000000000000000000 : Int) ≤ v := hv2
      simp [hr0, hv3, kTup_ap, kLst_ap, kRes_ap, kBin2_ap, kBin_ap, kBl_ap, kNb_ap, kNot_ap, kAnd2_ap, kAnd_ap, kOr2_ap, kOr_ap, kIfe2_ap, kIfe_ap, kCmp2_ap, kCmp_ap, kCall4_ap, kCall3_ap, kCall2_ap, kCall_ap, kBlt_ap, kIsi_ap, kSh_ap, kSub2_ap, kSub_ap, kSlc3_ap, kSlc2_ap, kSlc_ap, kCons_ap, kEvs_ap, kEvP_ap, kConsF_ap, kEvPar_ap, kConsA_ap, kEvA_ap, kConsS_ap, kIfs2_ap, kIfs_ap, kEl_ap, kL_ap, kVal_ap, kEn_ap, kEnm_ap, kZ2_ap, kZ_ap, kTr_ap, kT0_ap, kT1_ap, kT2_ap, kComp_ap, kColl_ap, kQ_ap, kB_ap, kFor2_ap, kFor_ap, kNx_ap, kAsg_ap, kAsgT_ap, kPar2_ap, kPar_ap, kStp_ap, kApp_ap, kRet_ap, kIfS_ap, kEx_ap, kEnd_ap, ev_var, getV_ok, fl_sh, fl_own, fl_io, ev_cst, ev_gfn, ev_tup, ev_lst, ev_bin, negV_int, ev_neg, ev_not, ev_and, ev_or, ev_ife, ev_cmp, ev_call, ev_blt, ev_isi, ev_sub, ev_slc, intO_int, evO_no, evO_yes, AR.evs_nil, AR.evs_cons, evP_nil, evP_cons, evPar_nil, evPar_cons, evA_nil, evA_c, aO_no, E.isRef.eq_1, E.isRef.eq_2, res_nil, res_v, refs_nil, refs_vv, outs_nil, nodup_nil, evIfs_nil, evIfs_cons, evCl_el, ev_comp, evCl_one, evI_val, rngV_int, evI_rng1, evI_enm, evI_zip2, isMut_eq, any_nil, any_cons, mutO.eq_1, mutO.eq_2, mutO.eq_3, setO_ok, setV_o, isIo_no, isIo_sh, isIo_own, frz_nil, frz_cons, frzO_own, frzO_sh, frzO_no, plainF_ap, evF_eq, pureF_no, pureF_yes, evT_eq, pureT_no, pureT_yes, ice_nil, ice_cons, iceO_some, iceO_none, new_sh, new_fr, appO_own, fre_sh, fre_fr, pk_sh, pk_fr, pk_bo, pk_bi, out_sh, out_fr, out_bo, subO_ok, sub_tup, sub_lst, sub_scr, AR.exec_asgv, exec_asgt, exec_par, exec_app, exec_aug, augV_int, augO_int, exec_ret, exec_ret0, exec_ife, exec_ex, exec_pass, AR.execs_nil, AR.execs_cons, thenS_nx, thenS_rt, AR.exec_for, exec_whl, bind_var, bind_tup, binds_nil, binds_cons, stp_nil, stp_cons, E.esc, E.escP, E.escR, E.pure, Es.esc, Es.escP, Es.pure, pureO, escO, It.esc, It.escP, It.pure, Cl.esc, Cl.pureC, binop.eq_1, binop.eq_2, binop.eq_3, binop.eq_4, binop.eq_5, binop.eq_6, binop.eq_7, binop.eq_8, binop.eq_9, binop.eq_10, cmpop.eq_1, cmpop.eq_2, cmpop.eq_3, cmpop.eq_4, cmpop.eq_5, cmpop.eq_6, cmpop.eq_7, cmpop.eq_8, cmpop.eq_9, cmpop.eq_10, cmpop.eq_11, cmpop.eq_12, cmpop.eq_13, D.truth.eq_1, D.truth.eq_2, D.truth.eq_3, D.truth.eq_4, D.truth.eq_5, D.truth.eq_6, slcop.eq_1, slcop.eq_2, bltop.eq_1, bltop.eq_2, bltop.eq_3, bltop.eq_4, bltop.eq_5, bltop.eq_6, bltop.eq_7, bltop.eq_9, bltop.eq_10, bltop.eq_11, bltop.eq_12, bltop.eq_13, bltop.eq_14, bltop.eq_15, bltop.eq_16, bltop.eq_17, bltop.eq_18, bltop.eq_19, bltop.eq_20, bltop.eq_21, bltop.eq_22, seq?.eq_1, seq?.eq_2, itemsOf.eq_1, itemsOf.eq_2, itemsOf.eq_3, enmOf.eq_1, zip2Of.eq_1, zip2Of.eq_2, endC_nx, endC_rt, PySem.sizeLine, wipeE, keepO, eqv_ii, eqv_bb, eqv_ib, eqv_bi, eqv_ss, eqv_ll, eqv_tt, eqv_nn, eqvs_nn, eqvs_cc, eqvs_r, flat_int, flat_bl, flat_non, flat_str, flat_lst, flat_tup, flats_nil, flats_cons, flats_ints, D.plain.eq_1, D.plain.eq_2, D.plain.eq_3, D.plain.eq_4, D.plain.eq_5, D.plain.eq_6, D.scal.eq_1, D.scal.eq_2, D.scal.eq_3, D.scal.eq_4, D.scal.eq_5, D.isNon.eq_1, D.isNon.eq_2, isiop, isTy, tyOk, b2i]
    · rw [if_neg hv2] at hr0
      have hv3 : ¬ (1000000000000000000 : Int) ≤ v := hv2
      simp [hr0, hv3, kTup_ap, kLst_ap, kRes_ap, kBin2_ap, kBin_ap, kBl_ap, kNb_ap, kNot_ap, kAnd2_ap, kAnd_ap, kOr2_ap, kOr_ap, kIfe2_ap, kIfe_ap, kCmp2_ap, kCmp_ap, kCall4_ap, kCall3_ap, kCall2_ap, kCall_ap, kBlt_ap, kIsi_ap, kSh_ap, kSub2_ap, kSub_ap, kSlc3_ap, kSlc2_ap, kSlc_ap, kCons_ap, kEvs_ap, kEvP_ap, kConsF_ap, kEvPar_ap, kConsA_ap, kEvA_ap, kConsS_ap, kIfs2_ap, kIfs_ap, kEl_ap, kL_ap, kVal_ap, kEn_ap, kEnm_ap, kZ2_ap, kZ_ap, kTr_ap, kT0_ap, kT1_ap, kT2_ap, kComp_ap, kColl_ap, kQ_ap, kB_ap, kFor2_ap, kFor_ap, kNx_ap, kAsg_ap, kAsgT_ap, kPar2_ap, kPar_ap, kStp_ap, kApp_ap, kRet_ap, kIfS_ap, kEx_ap, kEnd_ap, ev_var, getV_ok, fl_sh, fl_own, fl_io, ev_cst, ev_gfn, ev_tup, ev_lst, ev_bin, negV_int, ev_neg, ev_not, ev_and, ev_or, ev_ife, ev_cmp, ev_call, ev_blt, ev_isi, ev_sub, ev_slc, intO_int, evO_no, evO_yes, AR.evs_nil, AR.evs_cons, evP_nil, evP_cons, evPar_nil, evPar_cons, evA_nil, evA_c, aO_no, E.isRef.eq_1, E.isRef.eq_2, res_nil, res_v, refs_nil, refs_vv, outs_nil, nodup_nil, evIfs_nil, evIfs_cons, evCl_el, ev_comp, evCl_one, evI_val, rngV_int, evI_rng1, evI_enm, evI_zip2, isMut_eq, any_nil, any_cons, mutO.eq_1, mutO.eq_2, mutO.eq_3, setO_ok, setV_o, isIo_no, isIo_sh, isIo_own, frz_nil, frz_cons, frzO_own, frzO_sh, frzO_no, plainF_ap, evF_eq, pureF_no, pureF_yes, evT_eq, pureT_no, pureT_yes, ice_nil, ice_cons, iceO_some, iceO_none, new_sh, new_fr, appO_own, fre_sh, fre_fr, pk_sh, pk_fr, pk_bo, pk_bi, out_sh, out_fr, out_bo, subO_ok, sub_tup, sub_lst, sub_scr, AR.exec_asgv, exec_asgt, exec_par, exec_app, exec_aug, augV_int, augO_int, exec_ret, exec_ret0, exec_ife, exec_ex, exec_pass, AR.execs_nil, AR.execs_cons, thenS_nx, thenS_rt, AR.exec_for, exec_whl, bind_var, bind_tup, binds_nil, binds_cons, stp_nil, stp_cons, E.esc, E.escP, E.escR, E.pure, Es.esc, Es.escP, Es.pure, pureO, escO, It.esc, It.escP, It.pure, Cl.esc, Cl.pureC, binop.eq_1, binop.eq_2, binop.eq_3, binop.eq_4, binop.eq_5, binop.eq_6, binop.eq_7, binop.eq_8, binop.eq_9, binop.eq_10, cmpop.eq_1, cmpop.eq_2, cmpop.eq_3, cmpop.eq_4, cmpop.eq_5, cmpop.eq_6, cmpop.eq_7, cmpop.eq_8, cmpop.eq_9, cmpop.eq_10, cmpop.eq_11, cmpop.eq_12, cmpop.eq_13, D.truth.eq_1, D.truth.eq_2, D.truth.eq_3, D.truth.eq_4, D.truth.eq_5, D.truth.eq_6, slcop.eq_1, slcop.eq_2, bltop.eq_1, bltop.eq_2, bltop.eq_3, bltop.eq_4, bltop.eq_5, bltop.eq_6, bltop.eq_7, bltop.eq_9, bltop.eq_10, bltop.eq_11, bltop.eq_12, bltop.eq_13, bltop.eq_14, bltop.eq_15, bltop.eq_16, bltop.eq_17, bltop.eq_18, bltop.eq_19, bltop.eq_20, bltop.eq_21, bltop.eq_22, seq?.eq_1, seq?.eq_2, itemsOf.eq_1, itemsOf.eq_2, itemsOf.eq_3, enmOf.eq_1, zip2Of.eq_1, zip2Of.eq_2, endC_nx, endC_rt, PySem.sizeLine, wipeE, keepO, eqv_ii, eqv_bb, eqv_ib, eqv_bi, eqv_ss, eqv_ll, eqv_tt, eqv_nn, eqvs_nn, eqvs_cc, eqvs_r, flat_int, flat_bl, flat_non, flat_str, flat_lst, flat_tup, flats_nil, flats_cons, flats_ints, D.plain.eq_1, D.plain.eq_2, D.plain.eq_3, D.plain.eq_4, D.plain.eq_5, D.plain.eq_6, D.scal.eq_1, D.scal.eq_2, D.scal.eq_3, D.scal.eq_4, D.scal.eq_5, D.isNon.eq_1, D.isNon.eq_2, isiop, isTy, tyOk, b2i]
  have t4 : ∀ ss, execs (callN tab w (n+1)) w (.cons (digT kc 3) ss) [some (.sh, .scr ns), some (.sh, .int i), some (.sh, .int c), some (.sh, .int b), some (.sh, .tup primesD), some (.sh, .int v), some (.sh, .int r0), none, none, none] = execs (callN tab w (n+1)) w ss (digE ns i c b v r0 [] none none) := fun ss => by
    simp only [digT, B_law_digits, List.getD_cons_zero, List.getD_cons_succ, digE]
    simp [kTup_ap, kLst_ap, kRes_ap, kBin2_ap, kBin_ap, kBl_ap, kNb_ap, kNot_ap, kAnd2_ap, kAnd_ap, kOr2_ap, kOr_ap, kIfe2_ap, kIfe_ap, kCmp2_ap, kCmp_ap, kCall4_ap, kCall3_ap, kCall2_ap, kCall_ap, kBlt_ap, kIsi_ap, kSh_ap, kSub2_ap, kSub_ap, kSlc3_ap, kSlc2_ap, kSlc_ap, kCons_ap, kEvs_ap, kEvP_ap, kConsF_ap, kEvPar_ap, kConsA_ap, kEvA_ap, kConsS_ap, kIfs2_ap, kIfs_ap, kEl_ap, kL_ap, kVal_ap, kEn_ap, kEnm_ap, kZ2_ap, kZ_ap, kTr_ap, kT0_ap, kT1_ap, kT2_ap, kComp_ap, kColl_ap, kQ_ap, kB_ap, kFor2_ap, kFor_ap, kNx_ap, kAsg_ap, kAsgT_ap, kPar2_ap, kPar_ap, kStp_ap, kApp_ap, kRet_ap, kIfS_ap, kEx_ap, kEnd_ap, ev_var, getV_ok, fl_sh, fl_own, fl_io, ev_cst, ev_gfn, ev_tup, ev_lst, ev_bin, negV_int, ev_neg, ev_not, ev_and, ev_or, ev_ife, ev_cmp, ev_call, ev_blt, ev_isi, ev_sub, ev_slc, intO_int, evO_no, evO_yes, AR.evs_nil, AR.evs_cons, evP_nil, evP_cons, evPar_nil, evPar_cons, evA_nil, evA_c, aO_no, E.isRef.eq_1, E.isRef.eq_2, res_nil, res_v, refs_nil, refs_vv, outs_nil, nodup_nil, evIfs_nil, evIfs_cons, evCl_el, ev_comp, evCl_one, evI_val, rngV_int, evI_rng1, evI_enm, evI_zip2, isMut_eq, any_nil, any_cons, mutO.eq_1, mutO.eq_2, mutO.eq_3, setO_ok, setV_o, isIo_no, isIo_sh, isIo_own, frz_nil, frz_cons, frzO_own, frzO_sh, frzO_no, plainF_ap, evF_eq, pureF_no, pureF_yes, evT_eq, pureT_no, pureT_yes, ice_nil, ice_cons, iceO_some, iceO_none, new_sh, new_fr, appO_own, fre_sh, fre_fr, pk_sh, pk_fr, pk_bo, pk_bi, out_sh, out_fr, out_bo, subO_ok, sub_tup, sub_lst, sub_scr, AR.exec_asgv, exec_asgt, exec_par, exec_app, exec_aug, augV_int, augO_int, exec_ret, exec_ret0, exec_ife, exec_ex, exec_pass, AR.execs_nil, AR.execs_cons, thenS_nx, thenS_rt, AR.exec_for, exec_whl, bind_var, bind_tup, binds_nil, binds_cons, stp_nil, stp_cons, E.esc, E.escP, E.escR, E.pure, Es.esc, Es.escP, Es.pure, pureO, escO, It.esc, It.escP, It.pure, Cl.esc, Cl.pureC, binop.eq_1, binop.eq_2, binop.eq_3, binop.eq_4, binop.eq_5, binop.eq_6, binop.eq_7, binop.eq_8, binop.eq_9, binop.eq_10, cmpop.eq_1, cmpop.eq_2, cmpop.eq_3, cmpop.eq_4, cmpop.eq_5, cmpop.eq_6, cmpop.eq_7, cmpop.eq_8, cmpop.eq_9, cmpop.eq_10, cmpop.eq_11, cmpop.eq_12, cmpop.eq_13, D.truth.eq_1, D.truth.eq_2, D.truth.eq_3, D.truth.eq_4, D.truth.eq_5, D.truth.eq_6, slcop.eq_1, slcop.eq_2, bltop.eq_1, bltop.eq_2, bltop.eq_3, bltop.eq_4, bltop.eq_5, bltop.eq_6, bltop.eq_7, bltop.eq_9, bltop.eq_10, bltop.eq_11, bltop.eq_12, bltop.eq_13, bltop.eq_14, bltop.eq_15, bltop.eq_16, bltop.eq_17, bltop.eq_18, bltop.eq_19, bltop.eq_20, bltop.eq_21, bltop.eq_22, seq?.eq_1, seq?.eq_2, itemsOf.eq_1, itemsOf.eq_2, itemsOf.eq_3, enmOf.eq_1, zip2Of.eq_1, zip2Of.eq_2, endC_nx, endC_rt, PySem.sizeLine, wipeE, keepO, eqv_ii, eqv_bb, eqv_ib, eqv_bi, eqv_ss, eqv_ll, eqv_tt, eqv_nn, eqvs_nn, eqvs_cc, eqvs_r, flat_int, flat_bl, flat_non, flat_str, flat_lst, flat_tup, flats_nil, flats_cons, flats_ints, D.plain.eq_1, D.plain.eq_2, D.plain.eq_3, D.plain.eq_4, D.plain.eq_5, D.plain.eq_6, D.scal.eq_1, D.scal.eq_2, D.scal.eq_3, D.scal.eq_4, D.scal.eq_5, D.isNon.eq_1, D.isNon.eq_2, isiop, isTy, tyOk, b2i]
  have t5 : ∀ ss, execs (callN tab w (n+1)) w (.cons (.forS (.var 8) (.rng1 (.var 2)) digB) ss) (digE ns i c b v r0 [] none none) = execs (callN tab w (n+1)) w ss (digE ns i c b v r l x y) := fun ss => by
    rw [AR.execs_cons, AR.exec_for]
    have q : evI (callN tab w (n+1)) (.rng1 (.var 2)) false (digE ns i c b v r0 [] none none) = .ok (digE ns i c b v r0 [] none none, rangeI 0 c) := by
      simp [digE, hok, kTup_ap, kLst_ap, kRes_ap, kBin2_ap, kBin_ap, kBl_ap, kNb_ap, kNot_ap, kAnd2_ap, kAnd_ap, kOr2_ap, kOr_ap, kIfe2_ap, kIfe_ap, kCmp2_ap, kCmp_ap, kCall4_ap, kCall3_ap, kCall2_ap, kCall_ap, kBlt_ap, kIsi_ap, kSh_ap, kSub2_ap, kSub_ap, kSlc3_ap, kSlc2_ap, kSlc_ap, kCons_ap, kEvs_ap, kEvP_ap, kConsF_ap, kEvPar_ap, kConsA_ap, kEvA_ap, kConsS_ap, kIfs2_ap, kIfs_ap, kEl_ap, kL_ap, kVal_ap, kEn_ap, kEnm_ap, kZ2_ap, kZ_ap, kTr_ap, kT0_ap, kT1_ap, kT2_ap, kComp_ap, kColl_ap, kQ_ap, kB_ap, kFor2_ap, kFor_ap, kNx_ap, kAsg_ap, kAsgT_ap, kPar2_ap, kPar_ap, kStp_ap, kApp_ap, kRet_ap, kIfS_ap, kEx_ap, kEnd_ap, ev_var, getV_ok, fl_sh, fl_own, fl_io, ev_cst, ev_gfn, ev_tup, ev_lst, ev_bin, negV_int, ev_neg, ev_not, ev_and, ev_or, ev_ife, ev_cmp, ev_call, ev_blt, ev_isi, ev_sub, ev_slc, intO_int, evO_no, evO_yes, AR.evs_nil, AR.evs_cons, evP_nil, evP_cons, evPar_nil, evPar_cons, evA_nil, evA_c, aO_no, E.isRef.eq_1, E.isRef.eq_2, res_nil, res_v, refs_nil, refs_vv, outs_nil, nodup_nil, evIfs_nil, evIfs_cons, evCl_el, ev_comp, evCl_one, evI_val, rngV_int, evI_rng1, evI_enm, evI_zip2, isMut_eq, any_nil, any_cons, mutO.eq_1, mutO.eq_2, mutO.eq_3, setO_ok, setV_o, isIo_no, isIo_sh, isIo_own, frz_nil, frz_cons, frzO_own, frzO_sh, frzO_no, plainF_ap, evF_eq, pureF_no, pureF_yes, evT_eq, pureT_no, pureT_yes, ice_nil, ice_cons, iceO_some, iceO_none, new_sh, new_fr, appO_own, fre_sh, fre_fr, pk_sh, pk_fr, pk_bo, pk_bi, out_sh, out_fr, out_bo, subO_ok, sub_tup, sub_lst, sub_scr, AR.exec_asgv, exec_asgt, exec_par, exec_app, exec_aug, augV_int, augO_int, exec_ret, exec_ret0, exec_ife, exec_ex, exec_pass, AR.execs_nil, AR.execs_cons, thenS_nx, thenS_rt, AR.exec_for, exec_whl, bind_var, bind_tup, binds_nil, binds_cons, stp_nil, stp_cons, E.esc, E.escP, E.escR, E.pure, Es.esc, Es.escP, Es.pure, pureO, escO, It.esc, It.escP, It.pure, Cl.esc, Cl.pureC, binop.eq_1, binop.eq_2, binop.eq_3, binop.eq_4, binop.eq_5, binop.eq_6, binop.eq_7, binop.eq_8, binop.eq_9, binop.eq_10, cmpop.eq_1, cmpop.eq_2, cmpop.eq_3, cmpop.eq_4, cmpop.eq_5, cmpop.eq_6, cmpop.eq_7, cmpop.eq_8, cmpop.eq_9, cmpop.eq_10, cmpop.eq_11, cmpop.eq_12, cmpop.eq_13, D.truth.eq_1, D.truth.eq_2, D.truth.eq_3, D.truth.eq_4, D.truth.eq_5, D.truth.eq_6, slcop.eq_1, slcop.eq_2, bltop.eq_1, bltop.eq_2, bltop.eq_3, bltop.eq_4, bltop.eq_5, bltop.eq_6, bltop.eq_7, bltop.eq_9, bltop.eq_10, bltop.eq_11, bltop.eq_12, bltop.eq_13, bltop.eq_14, bltop.eq_15, bltop.eq_16, bltop.eq_17, bltop.eq_18, bltop.eq_19, bltop.eq_20, bltop.eq_21, bltop.eq_22, seq?.eq_1, seq?.eq_2, itemsOf.eq_1, itemsOf.eq_2, itemsOf.eq_3, enmOf.eq_1, zip2Of.eq_1, zip2Of.eq_2, endC_nx, endC_rt, PySem.sizeLine, wipeE, keepO, eqv_ii, eqv_bb, eqv_ib, eqv_bi, eqv_ss, eqv_ll, eqv_tt, eqv_nn, eqvs_nn, eqvs_cc, eqvs_r, flat_int, flat_bl, flat_non, flat_str, flat_lst, flat_tup, flats_nil, flats_cons, flats_ints, D.plain.eq_1, D.plain.eq_2, D.plain.eq_3, D.plain.eq_4, D.plain.eq_5, D.plain.eq_6, D.scal.eq_1, D.scal.eq_2, D.scal.eq_3, D.scal.eq_4, D.scal.eq_5, D.isNon.eq_1, D.isNon.eq_2, isiop, isTy, tyOk, b2i]
    have q2 : freeze (It.esc (.rng1 (.var 2))) (digE ns i c b v r0 [] none none) = .ok (digE ns i c b v r0 [] none none) := by
      simp [digE, kTup_ap, kLst_ap, kRes_ap, kBin2_ap, kBin_ap, kBl_ap, kNb_ap, kNot_ap, kAnd2_ap, kAnd_ap, kOr2_ap, kOr_ap, kIfe2_ap, kIfe_ap, kCmp2_ap, kCmp_ap, kCall4_ap, kCall3_ap, kCall2_ap, kCall_ap, kBlt_ap, kIsi_ap, kSh_ap, kSub2_ap, kSub_ap, kSlc3_ap, kSlc2_ap, kSlc_ap, kCons_ap, kEvs_ap, kEvP_ap, kConsF_ap, kEvPar_ap, kConsA_ap, kEvA_ap, kConsS_ap, kIfs2_ap, kIfs_ap, kEl_ap, kL_ap, kVal_ap, kEn_ap, kEnm_ap, kZ2_ap, kZ_ap, kTr_ap, kT0_ap, kT1_ap, kT2_ap, kComp_ap, kColl_ap, kQ_ap, kB_ap, kFor2_ap, kFor_ap, kNx_ap, kAsg_ap, kAsgT_ap, kPar2_ap, kPar_ap, kStp_ap, kApp_ap, kRet_ap, kIfS_ap, kEx_ap, kEnd_ap, ev_var, getV_ok, fl_sh, fl_own, fl_io, ev_cst, ev_gfn, ev_tup, ev_lst, ev_bin, negV_int, ev_neg, ev_not, ev_and, ev_or, ev_ife, ev_cmp, ev_call, ev_blt, ev_isi, ev_sub, ev_slc, intO_int, evO_no, evO_yes, AR.evs_nil, AR.evs_cons, evP_nil, evP_cons, evPar_nil, evPar_cons, evA_nil, evA_c, aO_no, E.isRef.eq_1, E.isRef.eq_2, res_nil, res_v, refs_nil, refs_vv, outs_nil, nodup_nil, evIfs_nil, evIfs_cons, evCl_el, ev_comp, evCl_one, evI_val, rngV_int, evI_rng1, evI_enm, evI_zip2, isMut_eq, any_nil, any_cons, mutO.eq_1, mutO.eq_2, mutO.eq_3, setO_ok, setV_o, isIo_no, isIo_sh, isIo_own, frz_nil, frz_cons, frzO_own, frzO_sh, frzO_no, plainF_ap, evF_eq, pureF_no, pureF_yes, evT_eq, pureT_no, pureT_yes, ice_nil, ice_cons, iceO_some, iceO_none, new_sh, new_fr, appO_own, fre_sh, fre_fr, pk_sh, pk_fr, pk_bo, pk_bi, out_sh, out_fr, out_bo, subO_ok, sub_tup, sub_lst, sub_scr, AR.exec_asgv, exec_asgt, exec_par, exec_app, exec_aug, augV_int, augO_int, exec_ret, exec_ret0, exec_ife, exec_ex, exec_pass, AR.execs_nil, AR.execs_cons, thenS_nx, thenS_rt, AR.exec_for, exec_whl, bind_var, bind_tup, binds_nil, binds_cons, stp_nil, stp_cons, E.esc, E.escP, E.escR, E.pure, Es.esc, Es.escP, Es.pure, pureO, escO, It.esc, It.escP, It.pure, Cl.esc, Cl.pureC, binop.eq_1, binop.eq_2, binop.eq_3, binop.eq_4, binop.eq_5, binop.eq_6, binop.eq_7, binop.eq_8, binop.eq_9, binop.eq_10, cmpop.eq_1, cmpop.eq_2, cmpop.eq_3, cmpop.eq_4, cmpop.eq_5, cmpop.eq_6, cmpop.eq_7, cmpop.eq_8, cmpop.eq_9, cmpop.eq_10, cmpop.eq_11, cmpop.eq_12, cmpop.eq_13, D.truth.eq_1, D.truth.eq_2, D.truth.eq_3, D.truth.eq_4, D.truth.eq_5, D.truth.eq_6, slcop.eq_1, slcop.eq_2, bltop.eq_1, bltop.eq_2, bltop.eq_3, bltop.eq_4, bltop.eq_5, bltop.eq_6, bltop.eq_7, bltop.eq_9, bltop.eq_10, bltop.eq_11, bltop.eq_12, bltop.eq_13, bltop.eq_14, bltop.eq_15, bltop.eq_16, bltop.eq_17, bltop.eq_18, bltop.eq_19, bltop.eq_20, bltop.eq_21, bltop.eq_22, seq?.eq_1, seq?.eq_2, itemsOf.eq_1, itemsOf.eq_2, itemsOf.eq_3, enmOf.eq_1, zip2Of.eq_1, zip2Of.eq_2, endC_nx, endC_rt, PySem.sizeLine, wipeE, keepO, eqv_ii, eqv_bb, eqv_ib, eqv_bi, eqv_ss, eqv_ll, eqv_tt, eqv_nn, eqvs_nn, eqvs_cc, eqvs_r, flat_int, flat_bl, flat_non, flat_str, flat_lst, flat_tup, flats_nil, flats_cons, flats_ints, D.plain.eq_1, D.plain.eq_2, D.plain.eq_3, D.plain.eq_4, D.plain.eq_5, D.plain.eq_6, D.scal.eq_1, D.scal.eq_2, D.scal.eq_3, D.scal.eq_4, D.scal.eq_5, D.isNon.eq_1, D.isNon.eq_2, isiop, isTy, tyOk, b2i]
    rw [q2, bnd_yes, kFor_ap, q, bnd_yes, kFor2_ap, h1, bnd_yes, thenS_nx]
  have hb0 : B_law_digits kc = .cons (digT kc 0) (.cons (digT kc 1) (.cons (digT kc 2) (.cons (digT kc 3) (.cons (.forS (.var 8) (.rng1 (.var 2)) digB) (.cons (.ret (.var 7)) .nil))))) := rfl
  show bnd (execs _ _ (B_law_digits kc) [some (.sh, .scr ns), some (.sh, .int i), some (.sh, .int c), some (.sh, .int b), none, none, none, none, none, none]) endC = _
  rw [hb0, t1, t2, t3, t4, t5]
  simp [digE, kTup_ap, kLst_ap, kRes_ap, kBin2_ap, kBin_ap, kBl_ap, kNb_ap, kNot_ap, kAnd2_ap, kAnd_ap, kOr2_ap, kOr_ap, kIfe2_ap, kIfe_ap, kCmp2_ap, kCmp_ap, kCall4_ap, kCall3_ap, kCall2_ap, kCall_ap, kBlt_ap, kIsi_ap, kSh_ap, kSub2_ap, kSub_ap, kSlc3_ap, kSlc2_ap, kSlc_ap, kCons_ap, kEvs_ap, kEvP_ap, kConsF_ap, kEvPar_ap, kConsA_ap, kEvA_ap, kConsS_ap, kIfs2_ap, kIfs_ap, kEl_ap, kL_ap, kVal_ap, kEn_ap, kEnm_ap, kZ2_ap, kZ_ap, kTr_ap, kT0_ap, kT1_ap, kT2_ap, kComp_ap, kColl_ap, kQ_ap, kB_ap, kFor2_ap, kFor_ap, kNx_ap, kAsg_ap, kAsgT_ap, kPar2_ap, kPar_ap, kStp_ap, kApp_ap, kRet_ap, kIfS_ap, kEx_ap, kEnd_ap, ev_var, getV_ok, fl_sh, fl_own, fl_io, ev_cst, ev_gfn, ev_tup, ev_lst, ev_bin, negV_int, ev_neg, ev_not, ev_and, ev_or, ev_ife, ev_cmp, ev_call, ev_blt, ev_isi, ev_sub, ev_slc, intO_int, evO_no, evO_yes, AR.evs_nil, AR.evs_cons, evP_nil, evP_cons, evPar_nil, evPar_cons, evA_nil, evA_c, aO_no, E.isRef.eq_1, E.isRef.eq_2, res_nil, res_v, refs_nil, refs_vv, outs_nil, nodup_nil, evIfs_nil, evIfs_cons, evCl_el, ev_comp, evCl_one, evI_val, rngV_int, evI_rng1, evI_enm, evI_zip2, isMut_eq, any_nil, any_cons, mutO.eq_1, mutO.eq_2, mutO.eq_3, setO_ok, setV_o, isIo_no, isIo_sh, isIo_own, frz_nil, frz_cons, frzO_own, frzO_sh, frzO_no, plainF_ap, evF_eq, pureF_no, pureF_yes, evT_eq, pureT_no, pureT_yes, ice_nil, ice_cons, iceO_some, iceO_none, new_sh, new_fr, appO_own, fre_sh, fre_fr, pk_sh, pk_fr, pk_bo, pk_bi, out_sh, out_fr, out_bo, subO_ok, sub_tup, sub_lst, sub_scr, AR.exec_asgv, exec_asgt, exec_par, exec_app, exec_aug, augV_int, augO_int, exec_ret, exec_ret0, exec_ife, exec_ex, exec_pass, AR.execs_nil, AR.execs_cons, thenS_nx, thenS_rt, AR.exec_for, exec_whl, bind_var, bind_tup, binds_nil, binds_cons, stp_nil, stp_cons, E.esc, E.escP, E.escR, E.pure, Es.esc, Es.escP, Es.pure, pureO, escO, It.esc, It.escP, It.pure, Cl.esc, Cl.pureC, binop.eq_1, binop.eq_2, binop.eq_3, binop.eq_4, binop.eq_5, binop.eq_6, binop.eq_7, binop.eq_8, binop.eq_9, binop.eq_10, cmpop.eq_1, cmpop.eq_2, cmpop.eq_3, cmpop.eq_4, cmpop.eq_5, cmpop.eq_6, cmpop.eq_7, cmpop.eq_8, cmpop.eq_9, cmpop.eq_10, cmpop.eq_11, cmpop.eq_12, cmpop.eq_13, D.truth.eq_1, D.truth.eq_2, D.truth.eq_3, D.truth.eq_4, D.truth.eq_5, D.truth.eq_6, slcop.eq_1, slcop.eq_2, bltop.eq_1, bltop.eq_2, bltop.eq_3, bltop.eq_4, bltop.eq_5, bltop.eq_6, bltop.eq_7, bltop.eq_9, bltop.eq_10, bltop.eq_11, bltop.eq_12, bltop.eq_13, bltop.eq_14, bltop.eq_15, bltop.eq_16, bltop.eq_17, bltop.eq_18, bltop.eq_19, bltop.eq_20, bltop.eq_21, bltop.eq_22, seq?.eq_1, seq?.eq_2, itemsOf.eq_1, itemsOf.eq_2, itemsOf.eq_3, enmOf.eq_1, zip2Of.eq_1, zip2Of.eq_2, endC_nx, endC_rt, PySem.sizeLine, wipeE, keepO, eqv_ii, eqv_bb, eqv_ib, eqv_bi, eqv_ss, eqv_ll, eqv_tt, eqv_nn, eqvs_nn, eqvs_cc, eqvs_r, flat_int, flat_bl, flat_non, flat_str, flat_lst, flat_tup, flats_nil, flats_cons, flats_ints, D.plain.eq_1, D.plain.eq_2, D.plain.eq_3, D.plain.eq_4, D.plain.eq_5, D.plain.eq_6, D.scal.eq_1, D.scal.eq_2, D.scal.eq_3, D.scal.eq_4, D.scal.eq_5, D.isNon.eq_1, D.isNon.eq_2, isiop, isTy, tyOk, b2i]
end LW

namespace LW
open AR
variable {w : Nat} {tab : Nat → Option Fn}
/-- a rule: high, rise, low, fall -/
structure Rl where
  h : Int
  r : Int
  l : Int
  f : Int
def Rl.d (q : Rl) : D := .tup [.int q.h, .int q.r, .int q.l, .int q.f]
def acts (q : Rl) : Bool → Int → List Int → List Bool
  | _, _, [] => []
  | a, c, s :: ss => (stepA q.h q.r q.l q.f c s a).1 :: acts q (stepA q.h q.r q.l q.f c s a).1 (stepA q.h q.r q.l q.f c s a).2 ss
theorem acts_len (q : Rl) : ∀ (ss : List Int) (a : Bool) (c : Int), (acts q a c ss).length = ss.length
  | [], _, _ => rfl
  | s :: ss, a, c => by rw [acts, List.length_cons, List.length_cons, acts_len q ss]
def actB (ks : Nat) : Ss := match B_rule_activity ks with
  | .cons _ (.cons (.forS _ _ b) _) => b
  | _ => .nil
theorem act_turn {C : CallF} {ks : Nat} {q : Rl} {sig : D} {done : List D} {a a' : Bool} {c c' s : Int} {x : Option (Sl × D)} (hx : isIo x = false) (hd : done.length < 16777216) (hC : C ks [(.sh, q.d), (.sh, .tup [.bl a, .int c]), (.sh, .int s)] = .ok ([], .sh, .tup [.bl a', .int c'])) :
    forB C w (.var 4) (actB ks) [some (.sh, q.d), some (.sh, sig), some (.own, .lst done), some (.sh, .tup [.bl a, .int c]), x] (.int s) = .ok (.nx [some (.sh, q.d), some (.sh, sig), some (.own, .lst (done ++ [.bl a'])), some (.sh, .tup [.bl a', .int c']), some (.sh, .int s)]) := by
  have h0 : L2.atI [D.bl a', D.int c'] 0 = some (.bl a') := rfl
  rw [forB_ap]
  simp [actB, B_rule_activity, hx, hd, hC, h0, kTup_ap, kLst_ap, kRes_ap, kBin2_ap, kBin_ap, kBl_ap, kNb_ap, kNot_ap, kAnd2_ap, kAnd_ap, kOr2_ap, kOr_ap, kIfe2_ap, kIfe_ap, kCmp2_ap, kCmp_ap, kCall4_ap, kCall3_ap, kCall2_ap, kCall_ap, kBlt_ap, kIsi_ap, kSh_ap, kSub2_ap, kSub_ap, kSlc3_ap, kSlc2_ap, kSlc_ap, kCons_ap, kEvs_ap, kEvP_ap, kConsF_ap, kEvPar_ap, kConsA_ap, kEvA_ap, kConsS_ap, kIfs2_ap, kIfs_ap, kEl_ap, kL_ap, kVal_ap, kEn_ap, kEnm_ap, kZ2_ap, kZ_ap, kTr_ap, kT0_ap, kT1_ap, kT2_ap, kComp_ap, kColl_ap, kQ_ap, kB_ap, kFor2_ap, kFor_ap, kNx_ap, kAsg_ap, kAsgT_ap, kPar2_ap, kPar_ap, kStp_ap, kApp_ap, kRet_ap, kIfS_ap, kEx_ap, kEnd_ap, ev_var, getV_ok, fl_sh, fl_own, fl_io, ev_cst, ev_gfn, ev_tup, ev_lst, ev_bin, negV_int, ev_neg, ev_not, ev_and, ev_or, ev_ife, ev_cmp, ev_call, ev_blt, ev_isi, ev_sub, ev_slc, intO_int, evO_no, evO_yes, AR.evs_nil, AR.evs_cons, evP_nil, evP_cons, evPar_nil, evPar_cons, evA_nil, evA_c, aO_no, E.isRef.eq_1, E.isRef.eq_2, res_nil, res_v, refs_nil, refs_vv, outs_nil, nodup_nil, evIfs_nil, evIfs_cons, evCl_el, ev_comp, evCl_one, evI_val, rngV_int, evI_rng1, evI_enm, evI_zip2, isMut_eq, any_nil, any_cons, mutO.eq_1, mutO.eq_2, mutO.eq_3, setO_ok, setV_o, isIo_no, isIo_sh, isIo_own, frz_nil, frz_cons, frzO_own, frzO_sh, frzO_no, plainF_ap, evF_eq, pureF_no, pureF_yes, evT_eq, pureT_no, pureT_yes, ice_nil, ice_cons, iceO_some, iceO_none, new_sh, new_fr, appO_own, fre_sh, fre_fr, pk_sh, pk_fr, pk_bo, pk_bi, out_sh, out_fr, out_bo, subO_ok, sub_tup, sub_lst, sub_scr, AR.exec_asgv, exec_asgt, exec_par, exec_app, exec_aug, augV_int, augO_int, exec_ret, exec_ret0, exec_ife, exec_ex, exec_pass, AR.execs_nil, AR.execs_cons, thenS_nx, thenS_rt, AR.exec_for, exec_whl, bind_var, bind_tup, binds_nil, binds_cons, stp_nil, stp_cons, E.esc, E.escP, E.escR, E.pure, Es.esc, Es.escP, Es.pure, pureO, escO, It.esc, It.escP, It.pure, Cl.esc, Cl.pureC, binop.eq_1, binop.eq_2, binop.eq_3, binop.eq_4, binop.eq_5, binop.eq_6, binop.eq_7, binop.eq_8, binop.eq_9, binop.eq_10, cmpop.eq_1, cmpop.eq_2, cmpop.eq_3, cmpop.eq_4, cmpop.eq_5, cmpop.eq_6, cmpop.eq_7, cmpop.eq_8, cmpop.eq_9, cmpop.eq_10, cmpop.eq_11, cmpop.eq_12, cmpop.eq_13, D.truth.eq_1, D.truth.eq_2, D.truth.eq_3, D.truth.eq_4, D.truth.eq_5, D.truth.eq_6, slcop.eq_1, slcop.eq_2, bltop.eq_1, bltop.eq_2, bltop.eq_3, bltop.eq_4, bltop.eq_5, bltop.eq_6, bltop.eq_7, bltop.eq_9, bltop.eq_10, bltop.eq_11, bltop.eq_12, bltop.eq_13, bltop.eq_14, bltop.eq_15, bltop.eq_16, bltop.eq_17, bltop.eq_18, bltop.eq_19, bltop.eq_20, bltop.eq_21, bltop.eq_22, seq?.eq_1, seq?.eq_2, itemsOf.eq_1, itemsOf.eq_2, itemsOf.eq_3, enmOf.eq_1, zip2Of.eq_1, zip2Of.eq_2, endC_nx, endC_rt, PySem.sizeLine, wipeE, keepO, eqv_ii, eqv_bb, eqv_ib, eqv_bi, eqv_ss, eqv_ll, eqv_tt, eqv_nn, eqvs_nn, eqvs_cc, eqvs_r, flat_int, flat_bl, flat_non, flat_str, flat_lst, flat_tup, flats_nil, flats_cons, flats_ints, D.plain.eq_1, D.plain.eq_2, D.plain.eq_3, D.plain.eq_4, D.plain.eq_5, D.plain.eq_6, D.scal.eq_1, D.scal.eq_2, D.scal.eq_3, D.scal.eq_4, D.scal.eq_5, D.isNon.eq_1, D.isNon.eq_2, isiop, isTy, tyOk, b2i]
theorem act_loop {C : CallF} {ks : Nat} {q : Rl} {sig : D} (hC : ∀ a c s, C ks [(.sh, q.d), (.sh, .tup [.bl a, .int c]), (.sh, .int s)] = .ok ([], .sh, .tup [.bl (stepA q.h q.r q.l q.f c s a).1, .int (stepA q.h q.r q.l q.f c s a).2])) :
    ∀ (ss : List Int) (done : List D) (a : Bool) (c : Int) (x : Option (Sl × D)), isIo x = false → done.length + ss.length < 16777216 → ∃ st x', forL (forB C w (.var 4) (actB ks)) (ss.map .int) [some (.sh, q.d), some (.sh, sig), some (.own, .lst done), some (.sh, .tup [.bl a, .int c]), x] =
      .ok (.nx [some (.sh, q.d), some (.sh, sig), some (.own, .lst (done ++ (acts q a c ss).map .bl)), st, x'])
  | [], done, a, c, x, _, _ => ⟨_, _, by rw [acts, List.map_nil, List.map_nil, List.append_nil]; rfl⟩
  | s :: ss, done, a, c, x, hx, hl => by
    rw [List.length_cons] at hl
    obtain ⟨st, x', h⟩ := act_loop hC ss (done ++ [.bl (stepA q.h q.r q.l q.f c s a).1]) (stepA q.h q.r q.l q.f c s a).1 (stepA q.h q.r q.l q.f c s a).2 (some (.sh, .int s)) rfl (by rw [List.length_append]; simp; omega)
    refine ⟨st, x', ?_⟩
    rw [List.map_cons, forL, act_turn hx (by omega) (hC a c s), bnd_yes]
    show forL _ _ _ = _
    rw [h, acts, List.map_cons, List.append_assoc]
    rfl
theorem activity_run {k ks : Nat} (ht : tab k = some ⟨2, [], 5, B_rule_activity ks⟩) (hs : tab ks = some ⟨3, [], 9, B_step⟩) (n : Nat) (q : Rl) (ss : List Int) (hl : ss.length < 16777216) :
    callN tab w (n+2) k [(.sh, q.d), (.sh, .tup (ss.map .int))] = .ok ([], .fr, .lst ((acts q false 0 ss).map .bl)) := by
  rw [callN_ev ht rfl rfl rfl]
  obtain ⟨st, x', h⟩ := act_loop (w := w) (C := callN tab w (n+1)) (sig := .tup (ss.map .int)) (fun a c s => step_run hs n q.h q.r q.l q.f c s a) ss [] false 0 none rfl (by simpa using hl)
  have hb : B_rule_activity ks = .cons (.par [2, 3] (.cons (.lst .nil) (.cons (.tup (.cons (.cst (.bl false)) (.cons (.cst (.int 0)) .nil))) .nil))) (.cons (.forS (.var 4) (.val (.var 1)) (actB ks)) (.cons (.ret (.var 2)) .nil)) := rfl
  show bnd (execs _ _ (B_rule_activity ks) [some (.sh, q.d), some (.sh, .tup (ss.map .int)), none, none, none]) endC = _
  rw [hb]
  simp [h, kTup_ap, kLst_ap, kRes_ap, kBin2_ap, kBin_ap, kBl_ap, kNb_ap, kNot_ap, kAnd2_ap, kAnd_ap, kOr2_ap, kOr_ap, kIfe2_ap, kIfe_ap, kCmp2_ap, kCmp_ap, kCall4_ap, kCall3_ap, kCall2_ap, kCall_ap, kBlt_ap, kIsi_ap, kSh_ap, kSub2_ap, kSub_ap, kSlc3_ap, kSlc2_ap, kSlc_ap, kCons_ap, kEvs_ap, kEvP_ap, kConsF_ap, kEvPar_ap, kConsA_ap, kEvA_ap, kConsS_ap, kIfs2_ap, kIfs_ap, kEl_ap, kL_ap, kVal_ap, kEn_ap, kEnm_ap, kZ2_ap, kZ_ap, kTr_ap, kT0_ap, kT1_ap, kT2_ap, kComp_ap, kColl_ap, kQ_ap, kB_ap, kFor2_ap, kFor_ap, kNx_ap, kAsg_ap, kAsgT_ap, kPar2_ap, kPar_ap, kStp_ap, kApp_ap, kRet_ap, kIfS_ap, kEx_ap, kEnd_ap, ev_var, getV_ok, fl_sh, fl_own, fl_io, ev_cst, ev_gfn, ev_tup, ev_lst, ev_bin, negV_int, ev_neg, ev_not, ev_and, ev_or, ev_ife, ev_cmp, ev_call, ev_blt, ev_isi, ev_sub, ev_slc, intO_int, evO_no, evO_yes, AR.evs_nil, AR.evs_cons, evP_nil, evP_cons, evPar_nil, evPar_cons, evA_nil, evA_c, aO_no, E.isRef.eq_1, E.isRef.eq_2, res_nil, res_v, refs_nil, refs_vv, outs_nil, nodup_nil, evIfs_nil, evIfs_cons, evCl_el, ev_comp, evCl_one, evI_val, rngV_int, evI_rng1, evI_enm, evI_zip2, isMut_eq, any_nil, any_cons, mutO.eq_1, mutO.eq_2, mutO.eq_3, setO_ok, setV_o, isIo_no, isIo_sh, isIo_own, frz_nil, frz_cons, frzO_own, frzO_sh, frzO_no, plainF_ap, evF_eq, pureF_no, pureF_yes, evT_eq, pureT_no, pureT_yes, ice_nil, ice_cons, iceO_some, iceO_none, new_sh, new_fr, appO_own, fre_sh, fre_fr, pk_sh, pk_fr, pk_bo, pk_bi, out_sh, out_fr, out_bo, subO_ok, sub_tup, sub_lst, sub_scr, AR.exec_asgv, exec_asgt, exec_par, exec_app, exec_aug, augV_int, augO_int, exec_ret, exec_ret0, exec_ife, exec_ex, exec_pass, AR.execs_nil, AR.execs_cons, thenS_nx, thenS_rt, AR.exec_for, exec_whl, bind_var, bind_tup, binds_nil, binds_cons, stp_nil, stp_cons, E.esc, E.escP, E.escR, E.pure, Es.esc, Es.escP, Es.pure, pureO, escO, It.esc, It.escP, It.pure, Cl.esc, Cl.pureC, binop.eq_1, binop.eq_2, binop.eq_3, binop.eq_4, binop.eq_5, binop.eq_6, binop.eq_7, binop.eq_8, binop.eq_9, binop.eq_10, cmpop.eq_1, cmpop.eq_2, cmpop.eq_3, cmpop.eq_4, cmpop.eq_5, cmpop.eq_6, cmpop.eq_7, cmpop.eq_8, cmpop.eq_9, cmpop.eq_10, cmpop.eq_11, cmpop.eq_12, cmpop.eq_13, D.truth.eq_1, D.truth.eq_2, D.truth.eq_3, D.truth.eq_4, D.truth.eq_5, D.truth.eq_6, slcop.eq_1, slcop.eq_2, bltop.eq_1, bltop.eq_2, bltop.eq_3, bltop.eq_4, bltop.eq_5, bltop.eq_6, bltop.eq_7, bltop.eq_9, bltop.eq_10, bltop.eq_11, bltop.eq_12, bltop.eq_13, bltop.eq_14, bltop.eq_15, bltop.eq_16, bltop.eq_17, bltop.eq_18, bltop.eq_19, bltop.eq_20, bltop.eq_21, bltop.eq_22, seq?.eq_1, seq?.eq_2, itemsOf.eq_1, itemsOf.eq_2, itemsOf.eq_3, enmOf.eq_1, zip2Of.eq_1, zip2Of.eq_2, endC_nx, endC_rt, PySem.sizeLine, wipeE, keepO, eqv_ii, eqv_bb, eqv_ib, eqv_bi, eqv_ss, eqv_ll, eqv_tt, eqv_nn, eqvs_nn, eqvs_cc, eqvs_r, flat_int, flat_bl, flat_non, flat_str, flat_lst, flat_tup, flats_nil, flats_cons, flats_ints, D.plain.eq_1, D.plain.eq_2, D.plain.eq_3, D.plain.eq_4, D.plain.eq_5, D.plain.eq_6, D.scal.eq_1, D.scal.eq_2, D.scal.eq_3, D.scal.eq_4, D.scal.eq_5, D.isNon.eq_1, D.isNon.eq_2, isiop, isTy, tyOk, b2i]
theorem bls_map : ∀ bs : List Bool, bls? (bs.map .bl) = .ok bs
  | [] => rfl
  | b :: bs => by rw [List.map_cons, bls?, bls_map bs]
def sAny : List Nat := [97, 110, 121]
def sAll : List Nat := [97, 108, 108]
def comb (m : Bool) (bs : List Bool) : Bool := if m then bs.any id else bs.all id
def sMode (m : Bool) : List Nat := if m then sAny else sAll
theorem combined_run {k : Nat} (ht : tab k = some ⟨2, [], 2, B_combined⟩) (n : Nat) (m : Bool) (bs : List Bool) : callN tab w (n+1) k [(.sh, .str (sMode m)), (.sh, .lst (bs.map .bl))] = .ok ([], .sh, .bl (comb m bs)) := by
  rw [callN_ev ht rfl rfl rfl]
  cases m
  · simp [B_combined, sMode, sAll, comb, bls_map, kTup_ap, kLst_ap, kRes_ap, kBin2_ap, kBin_ap, kBl_ap, kNb_ap, kNot_ap, kAnd2_ap, kAnd_ap, kOr2_ap, kOr_ap, kIfe2_ap, kIfe_ap, kCmp2_ap, kCmp_ap, kCall4_ap, kCall3_ap, kCall2_ap, kCall_ap, kBlt_ap, kIsi_ap, kSh_ap, kSub2_ap, kSub_ap, kSlc3_ap, kSlc2_ap, kSlc_ap, kCons_ap, kEvs_ap, kEvP_ap, kConsF_ap, kEvPar_ap, kConsA_ap, kEvA_ap, kConsS_ap, kIfs2_ap, kIfs_ap, kEl_ap, kL_ap, kVal_ap, kEn_ap, kEnm_ap, kZ2_ap, kZ_ap, kTr_ap, kT0_ap, kT1_ap, kT2_ap, kComp_ap, kColl_ap, kQ_ap, kB_ap, kFor2_ap, kFor_ap, kNx_ap, kAsg_ap, kAsgT_ap, kPar2_ap, kPar_ap, kStp_ap, kApp_ap, kRet_ap, kIfS_ap, kEx_ap, kEnd_ap, ev_var, getV_ok, fl_sh, fl_own, fl_io, ev_cst, ev_gfn, ev_tup, ev_lst, ev_bin, negV_int, ev_neg, ev_not, ev_and, ev_or, ev_ife, ev_cmp, ev_call, ev_blt, ev_isi, ev_sub, ev_slc, intO_int, evO_no, evO_yes, AR.evs_nil, AR.evs_cons, evP_nil, evP_cons, evPar_nil, evPar_cons, evA_nil, evA_c, aO_no, E.isRef.eq_1, E.isRef.eq_2, res_nil, res_v, refs_nil, refs_vv, outs_nil, nodup_nil, evIfs_nil, evIfs_cons, evCl_el, ev_comp, evCl_one, evI_val, rngV_int, evI_rng1, evI_enm, evI_zip2, isMut_eq, any_nil, any_cons, mutO.eq_1, mutO.eq_2, mutO.eq_3, setO_ok, setV_o, isIo_no, isIo_sh, isIo_own, frz_nil, frz_cons, frzO_own, frzO_sh, frzO_no, plainF_ap, evF_eq, pureF_no, pureF_yes, evT_eq, pureT_no, pureT_yes, ice_nil, ice_cons, iceO_some, iceO_none, new_sh, new_fr, appO_own, fre_sh, fre_fr, pk_sh, pk_fr, pk_bo, pk_bi, out_sh, out_fr, out_bo, subO_ok, sub_tup, sub_lst, sub_scr, AR.exec_asgv, exec_asgt, exec_par, exec_app, exec_aug, augV_int, augO_int, exec_ret, exec_ret0, exec_ife, exec_ex, exec_pass, AR.execs_nil, AR.execs_cons, thenS_nx, thenS_rt, AR.exec_for, exec_whl, bind_var, bind_tup, binds_nil, binds_cons, stp_nil, stp_cons, E.esc, E.escP, E.escR, E.pure, Es.esc, Es.escP, Es.pure, pureO, escO, It.esc, It.escP, It.pure, Cl.esc, Cl.pureC, binop.eq_1, binop.eq_2, binop.eq_3, binop.eq_4, binop.eq_5, binop.eq_6, binop.eq_7, binop.eq_8, binop.eq_9, binop.eq_10, cmpop.eq_1, cmpop.eq_2, cmpop.eq_3, cmpop.eq_4, cmpop.eq_5, cmpop.eq_6, cmpop.eq_7, cmpop.eq_8, cmpop.eq_9, cmpop.eq_10, cmpop.eq_11, cmpop.eq_12, cmpop.eq_13, D.truth.eq_1, D.truth.eq_2, D.truth.eq_3, D.truth.eq_4, D.truth.eq_5, D.truth.eq_6, slcop.eq_1, slcop.eq_2, bltop.eq_1, bltop.eq_2, bltop.eq_3, bltop.eq_4, bltop.eq_5, bltop.eq_6, bltop.eq_7, bltop.eq_9, bltop.eq_10, bltop.eq_11, bltop.eq_12, bltop.eq_13, bltop.eq_14, bltop.eq_15, bltop.eq_16, bltop.eq_17, bltop.eq_18, bltop.eq_19, bltop.eq_20, bltop.eq_21, bltop.eq_22, seq?.eq_1, seq?.eq_2, itemsOf.eq_1, itemsOf.eq_2, itemsOf.eq_3, enmOf.eq_1, zip2Of.eq_1, zip2Of.eq_2, endC_nx, endC_rt, PySem.sizeLine, wipeE, keepO, eqv_ii, eqv_bb, eqv_ib, eqv_bi, eqv_ss, eqv_ll, eqv_tt, eqv_nn, eqvs_nn, eqvs_cc, eqvs_r, flat_int, flat_bl, flat_non, flat_str, flat_lst, flat_tup, flats_nil, flats_cons, flats_ints, D.plain.eq_1, D.plain.eq_2, D.plain.eq_3, D.plain.eq_4, D.plain.eq_5, D.plain.eq_6, D.scal.eq_1, D.scal.eq_2, D.scal.eq_3, D.scal.eq_4, D.scal.eq_5, D.isNon.eq_1, D.isNon.eq_2, isiop, isTy, tyOk, b2i]
  · simp [B_combined, sMode, sAny, comb, bls_map, kTup_ap, kLst_ap, kRes_ap, kBin2_ap, kBin_ap, kBl_ap, kNb_ap, kNot_ap, kAnd2_ap, kAnd_ap, kOr2_ap, kOr_ap, kIfe2_ap, kIfe_ap, kCmp2_ap, kCmp_ap, kCall4_ap, kCall3_ap, kCall2_ap, kCall_ap, kBlt_ap, kIsi_ap, kSh_ap, kSub2_ap, kSub_ap, kSlc3_ap, kSlc2_ap, kSlc_ap, kCons_ap, kEvs_ap, kEvP_ap, kConsF_ap, kEvPar_ap, kConsA_ap, kEvA_ap, kConsS_ap, kIfs2_ap, kIfs_ap, kEl_ap, kL_ap, kVal_ap, kEn_ap, kEnm_ap, kZ2_ap, kZ_ap, kTr_ap, kT0_ap, kT1_ap, kT2_ap, kComp_ap, kColl_ap, kQ_ap, kB_ap, kFor2_ap, kFor_ap, kNx_ap, kAsg_ap, kAsgT_ap, kPar2_ap, kPar_ap, kStp_ap, kApp_ap, kRet_ap, kIfS_ap, kEx_ap, kEnd_ap, ev_var, getV_ok, fl_sh, fl_own, fl_io, ev_cst, ev_gfn, ev_tup, ev_lst, ev_bin, negV_int, ev_neg, ev_not, ev_and, ev_or, ev_ife, ev_cmp, ev_call, ev_blt, ev_isi, ev_sub, ev_slc, intO_int, evO_no, evO_yes, AR.evs_nil, AR.evs_cons, evP_nil, evP_cons, evPar_nil, evPar_cons, evA_nil, evA_c, aO_no, E.isRef.eq_1, E.isRef.eq_2, res_nil, res_v, refs_nil, refs_vv, outs_nil, nodup_nil, evIfs_nil, evIfs_cons, evCl_el, ev_comp, evCl_one, evI_val, rngV_int, evI_rng1, evI_enm, evI_zip2, isMut_eq, any_nil, any_cons, mutO.eq_1, mutO.eq_2, mutO.eq_3, setO_ok, setV_o, isIo_no, isIo_sh, isIo_own, frz_nil, frz_cons, frzO_own, frzO_sh, frzO_no, plainF_ap, evF_eq, pureF_no, pureF_yes, evT_eq, pureT_no, pureT_yes, ice_nil, ice_cons, iceO_some, iceO_none, new_sh, new_fr, appO_own, fre_sh, fre_fr, pk_sh, pk_fr, pk_bo, pk_bi, out_sh, out_fr, out_bo, subO_ok, sub_tup, sub_lst, sub_scr, AR.exec_asgv, exec_asgt, exec_par, exec_app, exec_aug, augV_int, augO_int, exec_ret, exec_ret0, exec_ife, exec_ex, exec_pass, AR.execs_nil, AR.execs_cons, thenS_nx, thenS_rt, AR.exec_for, exec_whl, bind_var, bind_tup, binds_nil, binds_cons, stp_nil, stp_cons, E.esc, E.escP, E.escR, E.pure, Es.esc, Es.escP, Es.pure, pureO, escO, It.esc, It.escP, It.pure, Cl.esc, Cl.pureC, binop.eq_1, binop.eq_2, binop.eq_3, binop.eq_4, binop.eq_5, binop.eq_6, binop.eq_7, binop.eq_8, binop.eq_9, binop.eq_10, cmpop.eq_1, cmpop.eq_2, cmpop.eq_3, cmpop.eq_4, cmpop.eq_5, cmpop.eq_6, cmpop.eq_7, cmpop.eq_8, cmpop.eq_9, cmpop.eq_10, cmpop.eq_11, cmpop.eq_12, cmpop.eq_13, D.truth.eq_1, D.truth.eq_2, D.truth.eq_3, D.truth.eq_4, D.truth.eq_5, D.truth.eq_6, slcop.eq_1, slcop.eq_2, bltop.eq_1, bltop.eq_2, bltop.eq_3, bltop.eq_4, bltop.eq_5, bltop.eq_6, bltop.eq_7, bltop.eq_9, bltop.eq_10, bltop.eq_11, bltop.eq_12, bltop.eq_13, bltop.eq_14, bltop.eq_15, bltop.eq_16, bltop.eq_17, bltop.eq_18, bltop.eq_19, bltop.eq_20, bltop.eq_21, bltop.eq_22, seq?.eq_1, seq?.eq_2, itemsOf.eq_1, itemsOf.eq_2, itemsOf.eq_3, enmOf.eq_1, zip2Of.eq_1, zip2Of.eq_2, endC_nx, endC_rt, PySem.sizeLine, wipeE, keepO, eqv_ii, eqv_bb, eqv_ib, eqv_bi, eqv_ss, eqv_ll, eqv_tt, eqv_nn, eqvs_nn, eqvs_cc, eqvs_r, flat_int, flat_bl, flat_non, flat_str, flat_lst, flat_tup, flats_nil, flats_cons, flats_ints, D.plain.eq_1, D.plain.eq_2, D.plain.eq_3, D.plain.eq_4, D.plain.eq_5, D.plain.eq_6, D.scal.eq_1, D.scal.eq_2, D.scal.eq_3, D.scal.eq_4, D.scal.eq_5, D.isNon.eq_1, D.isNon.eq_2, isiop, isTy, tyOk, b2i]
theorem covers_run {k : Nat} (ht : tab k = some ⟨2, [], 2, B_rule_covers⟩) (n : Nat) (q p : Rl) : callN tab w (n+1) k [(.sh, q.d), (.sh, p.d)] = .ok ([], .sh, .bl (decide (q.h ≤ p.h) && (decide (q.r ≤ p.r) && (decide (q.l ≤ p.l) && decide (p.f ≤ q.f))))) := by
  rw [callN_ev ht rfl rfl rfl]
  obtain ⟨h, r, l, f⟩ := q
  obtain ⟨h', r', l', f'⟩ := p
  have a0 : ∀ a b c d : Int, L2.atI [D.int a, D.int b, D.int c, D.int d] 0 = some (.int a) := fun _ _ _ _ => rfl
  have a1 : ∀ a b c d : Int, L2.atI [D.int a, D.int b, D.int c, D.int d] 1 = some (.int b) := fun _ _ _ _ => rfl
  have a2 : ∀ a b c d : Int, L2.atI [D.int a, D.int b, D.int c, D.int d] 2 = some (.int c) := fun _ _ _ _ => rfl
  have a3 : ∀ a b c d : Int, L2.atI [D.int a, D.int b, D.int c, D.int d] 3 = some (.int d) := fun _ _ _ _ => rfl
  by_cases h1 : h ≤ h' <;> by_cases h2 : r ≤ r' <;> by_cases h3 : l ≤ l' <;> simp [B_rule_covers, Rl.d, a0, a1, a2, a3, h1, h2, h3, kTup_ap, kLst_ap, kRes_ap, kBin2_ap, kBin_ap, kBl_ap, kNb_ap, kNot_ap, kAnd2_ap, kAnd_ap, kOr2_ap, kOr_ap, kIfe2_ap, kIfe_ap, kCmp2_ap, kCmp_ap, kCall4_ap, kCall3_ap, kCall2_ap, kCall_ap, kBlt_ap, kIsi_ap, kSh_ap, kSub2_ap, kSub_ap, kSlc3_ap, kSlc2_ap, kSlc_ap, kCons_ap, kEvs_ap, kEvP_ap, kConsF_ap, kEvPar_ap, kConsA_ap, kEvA_ap, kConsS_ap, kIfs2_ap, kIfs_ap, kEl_ap, kL_ap, kVal_ap, kEn_ap, kEnm_ap, kZ2_ap, kZ_ap, kTr_ap, kT0_ap, kT1_ap, kT2_ap, kComp_ap, kColl_ap, kQ_ap, kB_ap, kFor2_ap, kFor_ap, kNx_ap, kAsg_ap, kAsgT_ap, kPar2_ap, kPar_ap, kStp_ap, kApp_ap, kRet_ap, kIfS_ap, kEx_ap, kEnd_ap, ev_var, getV_ok, fl_sh, fl_own, fl_io, ev_cst, ev_gfn, ev_tup, ev_lst, ev_bin, negV_int, ev_neg, ev_not, ev_and, ev_or, ev_ife, ev_cmp, ev_call, ev_blt, ev_isi, ev_sub, ev_slc, intO_int, evO_no, evO_yes, AR.evs_nil, AR.evs_cons, evP_nil, evP_cons, evPar_nil, evPar_cons, evA_nil, evA_c, aO_no, E.isRef.eq_1, E.isRef.eq_2, res_nil, res_v, refs_nil, refs_vv, outs_nil, nodup_nil, evIfs_nil, evIfs_cons, evCl_el, ev_comp, evCl_one, evI_val, rngV_int, evI_rng1, evI_enm, evI_zip2, isMut_eq, any_nil, any_cons, mutO.eq_1, mutO.eq_2, mutO.eq_3, setO_ok, setV_o, isIo_no, isIo_sh, isIo_own, frz_nil, frz_cons, frzO_own, frzO_sh, frzO_no, plainF_ap, evF_eq, pureF_no, pureF_yes, evT_eq, pureT_no, pureT_yes, ice_nil, ice_cons, iceO_some, iceO_none, new_sh, new_fr, appO_own, fre_sh, fre_fr, pk_sh, pk_fr, pk_bo, pk_bi, out_sh, out_fr, out_bo, subO_ok, sub_tup, sub_lst, sub_scr, AR.exec_asgv, exec_asgt, exec_par, exec_app, exec_aug, augV_int, augO_int, exec_ret, exec_ret0, exec_ife, exec_ex, exec_pass, AR.execs_nil, AR.execs_cons, thenS_nx, thenS_rt, AR.exec_for, exec_whl, bind_var, bind_tup, binds_nil, binds_cons, stp_nil, stp_cons, E.esc, E.escP, E.escR, E.pure, Es.esc, Es.escP, Es.pure, pureO, escO, It.esc, It.escP, It.pure, Cl.esc, Cl.pureC, binop.eq_1, binop.eq_2, binop.eq_3, binop.eq_4, binop.eq_5, binop.eq_6, binop.eq_7, binop.eq_8, binop.eq_9, binop.eq_10, cmpop.eq_1, cmpop.eq_2, cmpop.eq_3, cmpop.eq_4, cmpop.eq_5, cmpop.eq_6, cmpop.eq_7, cmpop.eq_8, cmpop.eq_9, cmpop.eq_10, cmpop.eq_11, cmpop.eq_12, cmpop.eq_13, D.truth.eq_1, D.truth.eq_2, D.truth.eq_3, D.truth.eq_4, D.truth.eq_5, D.truth.eq_6, slcop.eq_1, slcop.eq_2, bltop.eq_1, bltop.eq_2, bltop.eq_3, bltop.eq_4, bltop.eq_5, bltop.eq_6, bltop.eq_7, bltop.eq_9, bltop.eq_10, bltop.eq_11, bltop.eq_12, bltop.eq_13, bltop.eq_14, bltop.eq_15, bltop.eq_16, bltop.eq_17, bltop.eq_18, bltop.eq_19, bltop.eq_20, bltop.eq_21, bltop.eq_22, seq?.eq_1, seq?.eq_2, itemsOf.eq_1, itemsOf.eq_2, itemsOf.eq_3, enmOf.eq_1, zip2Of.eq_1, zip2Of.eq_2, endC_nx, endC_rt, PySem.sizeLine, wipeE, keepO, eqv_ii, eqv_bb, eqv_ib, eqv_bi, eqv_ss, eqv_ll, eqv_tt, eqv_nn, eqvs_nn, eqvs_cc, eqvs_r, flat_int, flat_bl, flat_non, flat_str, flat_lst, flat_tup, flats_nil, flats_cons, flats_ints, D.plain.eq_1, D.plain.eq_2, D.plain.eq_3, D.plain.eq_4, D.plain.eq_5, D.plain.eq_6, D.scal.eq_1, D.scal.eq_2, D.scal.eq_3, D.scal.eq_4, D.scal.eq_5, D.isNon.eq_1, D.isNon.eq_2, isiop, isTy, tyOk, b2i]
theorem same_run {k : Nat} (ht : tab k = some ⟨2, [], 2, B_law_same_bool⟩) (n : Nat) (a b : Bool) : callN tab w (n+1) k [(.sh, .bl a), (.sh, .bl b)] = .ok ([], .sh, .bl (a == b)) := by
  rw [callN_ev ht rfl rfl rfl]
  simp [B_law_same_bool, kTup_ap, kLst_ap, kRes_ap, kBin2_ap, kBin_ap, kBl_ap, kNb_ap, kNot_ap, kAnd2_ap, kAnd_ap, kOr2_ap, kOr_ap, kIfe2_ap, kIfe_ap, kCmp2_ap, kCmp_ap, kCall4_ap, kCall3_ap, kCall2_ap, kCall_ap, kBlt_ap, kIsi_ap, kSh_ap, kSub2_ap, kSub_ap, kSlc3_ap, kSlc2_ap, kSlc_ap, kCons_ap, kEvs_ap, kEvP_ap, kConsF_ap, kEvPar_ap, kConsA_ap, kEvA_ap, kConsS_ap, kIfs2_ap, kIfs_ap, kEl_ap, kL_ap, kVal_ap, kEn_ap, kEnm_ap, kZ2_ap, kZ_ap, kTr_ap, kT0_ap, kT1_ap, kT2_ap, kComp_ap, kColl_ap, kQ_ap, kB_ap, kFor2_ap, kFor_ap, kNx_ap, kAsg_ap, kAsgT_ap, kPar2_ap, kPar_ap, kStp_ap, kApp_ap, kRet_ap, kIfS_ap, kEx_ap, kEnd_ap, ev_var, getV_ok, fl_sh, fl_own, fl_io, ev_cst, ev_gfn, ev_tup, ev_lst, ev_bin, negV_int, ev_neg, ev_not, ev_and, ev_or, ev_ife, ev_cmp, ev_call, ev_blt, ev_isi, ev_sub, ev_slc, intO_int, evO_no, evO_yes, AR.evs_nil, AR.evs_cons, evP_nil, evP_cons, evPar_nil, evPar_cons, evA_nil, evA_c, aO_no, E.isRef.eq_1, E.isRef.eq_2, res_nil, res_v, refs_nil, refs_vv, outs_nil, nodup_nil, evIfs_nil, evIfs_cons, evCl_el, ev_comp, evCl_one, evI_val, rngV_int, evI_rng1, evI_enm, evI_zip2, isMut_eq, any_nil, any_cons, mutO.eq_1, mutO.eq_2, mutO.eq_3, setO_ok, setV_o, isIo_no, isIo_sh, isIo_own, frz_nil, frz_cons, frzO_own, frzO_sh, frzO_no, plainF_ap, evF_eq, pureF_no, pureF_yes, evT_eq, pureT_no, pureT_yes, ice_nil, ice_cons, iceO_some, iceO_none, new_sh, new_fr, appO_own, fre_sh, fre_fr, pk_sh, pk_fr, pk_bo, pk_bi, out_sh, out_fr, out_bo, subO_ok, sub_tup, sub_lst, sub_scr, AR.exec_asgv, exec_asgt, exec_par, exec_app, exec_aug, augV_int, augO_int, exec_ret, exec_ret0, exec_ife, exec_ex, exec_pass, AR.execs_nil, AR.execs_cons, thenS_nx, thenS_rt, AR.exec_for, exec_whl, bind_var, bind_tup, binds_nil, binds_cons, stp_nil, stp_cons, E.esc, E.escP, E.escR, E.pure, Es.esc, Es.escP, Es.pure, pureO, escO, It.esc, It.escP, It.pure, Cl.esc, Cl.pureC, binop.eq_1, binop.eq_2, binop.eq_3, binop.eq_4, binop.eq_5, binop.eq_6, binop.eq_7, binop.eq_8, binop.eq_9, binop.eq_10, cmpop.eq_1, cmpop.eq_2, cmpop.eq_3, cmpop.eq_4, cmpop.eq_5, cmpop.eq_6, cmpop.eq_7, cmpop.eq_8, cmpop.eq_9, cmpop.eq_10, cmpop.eq_11, cmpop.eq_12, cmpop.eq_13, D.truth.eq_1, D.truth.eq_2, D.truth.eq_3, D.truth.eq_4, D.truth.eq_5, D.truth.eq_6, slcop.eq_1, slcop.eq_2, bltop.eq_1, bltop.eq_2, bltop.eq_3, bltop.eq_4, bltop.eq_5, bltop.eq_6, bltop.eq_7, bltop.eq_9, bltop.eq_10, bltop.eq_11, bltop.eq_12, bltop.eq_13, bltop.eq_14, bltop.eq_15, bltop.eq_16, bltop.eq_17, bltop.eq_18, bltop.eq_19, bltop.eq_20, bltop.eq_21, bltop.eq_22, seq?.eq_1, seq?.eq_2, itemsOf.eq_1, itemsOf.eq_2, itemsOf.eq_3, enmOf.eq_1, zip2Of.eq_1, zip2Of.eq_2, endC_nx, endC_rt, PySem.sizeLine, wipeE, keepO, eqv_ii, eqv_bb, eqv_ib, eqv_bi, eqv_ss, eqv_ll, eqv_tt, eqv_nn, eqvs_nn, eqvs_cc, eqvs_r, flat_int, flat_bl, flat_non, flat_str, flat_lst, flat_tup, flats_nil, flats_cons, flats_ints, D.plain.eq_1, D.plain.eq_2, D.plain.eq_3, D.plain.eq_4, D.plain.eq_5, D.plain.eq_6, D.scal.eq_1, D.scal.eq_2, D.scal.eq_3, D.scal.eq_4, D.scal.eq_5, D.isNon.eq_1, D.isNon.eq_2, isiop, isTy, tyOk, b2i]
end LW

namespace LW
open AR
variable {w : Nat} {tab : Nat → Option Fn}
/-! _law_rule: numbers in, a rule out -/
/-- a rule as the laws make them -/
def Rl.ok (q : Rl) : Prop := 1 ≤ q.r ∧ 1 ≤ q.f ∧ q.l ≤ q.h ∧ -100 ≤ q.h ∧ -100 ≤ q.l
theorem digs_at {b : Int} {l : List D} (h : Digs b l) (i : Nat) (hi : i < l.length) : ∃ x : Int, 0 ≤ x ∧ x < b ∧ l[i]? = some (.int x) := by
  obtain ⟨ns, rfl, hn⟩ := h
  have hi' : i < ns.length := by simpa using hi
  refine ⟨ns[i], (hn _ (List.getElem_mem hi')).1, (hn _ (List.getElem_mem hi')).2, ?_⟩
  rw [List.getElem?_map, List.getElem?_eq_getElem hi']
  rfl
theorem three_at (a b c : Int) (x : Int) : ∃ y, L2.atI [D.int a, D.int b, D.int c] (x % 3) = some (.int y) ∧ (y = a ∨ y = b ∨ y = c) := by
  have h0 : 0 ≤ x % 3 := Int.emod_nonneg _ (by decide)
  have h1 : x % 3 < 3 := Int.emod_lt_of_pos _ (by decide)
  obtain h | h | h : x % 3 = 0 ∨ x % 3 = 1 ∨ x % 3 = 2 := by omega
  · rw [h]; exact ⟨a, rfl, .inl rfl⟩
  · rw [h]; exact ⟨b, rfl, .inr (.inl rfl)⟩
  · rw [h]; exact ⟨c, rfl, .inr (.inr rfl)⟩
def rulS (k : Nat) : S := match B_law_rule with
  | .cons s0 (.cons s1 (.cons s2 _)) => [s0, s1, s2].getD k .pass
  | _ => .pass
def strS (k : Nat) : S := match B_law_stronger with
  | .cons s0 (.cons s1 (.cons s2 _)) => [s0, s1, s2].getD k .pass
  | _ => .pass
theorem rule_run {k : Nat} (ht : tab k = some ⟨1, [], 3, B_law_rule⟩) (n : Nat) {b : Int} {l : List D} (hd : Digs b l) (hl : 5 ≤ l.length) : ∃ q : Rl, q.ok ∧ callN tab w (n+1) k [(.sh, .lst l)] = .ok ([], .sh, q.d) := by
  rw [callN_ev ht rfl rfl rfl]
  obtain ⟨x0, p0, _, e0⟩ := digs_at hd 0 (by omega)
  obtain ⟨x1, p1, _, e1⟩ := digs_at hd 1 (by omega)
  obtain ⟨x2, p2, _, e2⟩ := digs_at hd 2 (by omega)
  obtain ⟨x3, p3, _, e3⟩ := digs_at hd 3 (by omega)
  obtain ⟨x4, p4, _, e4⟩ := digs_at hd 4 (by omega)
  have e0 : L2.atI l 0 = some (.int x0) := L2.atI_nat (j := 0) e0
  have e1 : L2.atI l 1 = some (.int x1) := L2.atI_nat (j := 1) e1
  have e2 : L2.atI l 2 = some (.int x2) := L2.atI_nat (j := 2) e2
  have e3 : L2.atI l 3 = some (.int x3) := L2.atI_nat (j := 3) e3
  have e4 : L2.atI l 4 = some (.int x4) := L2.atI_nat (j := 4) e4
  obtain ⟨h, eh, ch⟩ := three_at (x0 % 13 - 3) (x0 % 201 - 100) (x0 % 4) x4
  obtain ⟨g, eg, cg⟩ := three_at 0 (x1 % 3) (x1 % 60) (x4 / 3)
  refine ⟨⟨h, 1 + x2 % 5, if h - g > 0 - 100 then h - g else 0 - 100, 1 + x3 % 5⟩, ⟨?_, ?_, ?_, ?_, ?_⟩, ?_⟩
  · show 1 ≤ 1 + x2 % 5; omega
  · show 1 ≤ 1 + x3 % 5; omega
  · show (if h - g > 0 - 100 then h - g else 0 - 100) ≤ h
    split <;> omega
  · show -100 ≤ h; omega
  · show -100 ≤ (if h - g > 0 - 100 then h - g else 0 - 100)
    split <;> omega
  · have r1 : ∀ ss, execs (callN tab w n) w (.cons (rulS 0) ss) [some (.sh, .lst l), none, none] = execs (callN tab w n) w ss [some (.sh, .lst l), some (.sh, .int h), none] := fun ss => by
      simp only [rulS, B_law_rule, List.getD_cons_zero]
      simp [e0, e4, eh, kTup_ap, kLst_ap, kRes_ap, kBin2_ap, kBin_ap, kBl_ap, kNb_ap, kNot_ap, kAnd2_ap, kAnd_ap, kOr2_ap, kOr_ap, kIfe2_ap, kIfe_ap, kCmp2_ap, kCmp_ap, kCall4_ap, kCall3_ap, kCall2_ap, kCall_ap, kBlt_ap, kIsi_ap, kSh_ap, kSub2_ap, kSub_ap, kSlc3_ap, kSlc2_ap, kSlc_ap, kCons_ap, kEvs_ap, kEvP_ap, kConsF_ap, kEvPar_ap, kConsA_ap, kEvA_ap, kConsS_ap, kIfs2_ap, kIfs_ap, kEl_ap, kL_ap, kVal_ap, kEn_ap, kEnm_ap, kZ2_ap, kZ_ap, kTr_ap, kT0_ap, kT1_ap, kT2_ap, kComp_ap, kColl_ap, kQ_ap, kB_ap, kFor2_ap, kFor_ap, kNx_ap, kAsg_ap, kAsgT_ap, kPar2_ap, kPar_ap, kStp_ap, kApp_ap, kRet_ap, kIfS_ap, kEx_ap, kEnd_ap, ev_var, getV_ok, fl_sh, fl_own, fl_io, ev_cst, ev_gfn, ev_tup, ev_lst, ev_bin, negV_int, ev_neg, ev_not, ev_and, ev_or, ev_ife, ev_cmp, ev_call, ev_blt, ev_isi, ev_sub, ev_slc, intO_int, evO_no, evO_yes, AR.evs_nil, AR.evs_cons, evP_nil, evP_cons, evPar_nil, evPar_cons, evA_nil, evA_c, aO_no, E.isRef.eq_1, E.isRef.eq_2, res_nil, res_v, refs_nil, refs_vv, outs_nil, nodup_nil, evIfs_nil, evIfs_cons, evCl_el, ev_comp, evCl_one, evI_val, rngV_int, evI_rng1, evI_enm, evI_zip2, isMut_eq, any_nil, any_cons, mutO.eq_1, mutO.eq_2, mutO.eq_3, setO_ok, setV_o, isIo_no, isIo_sh, isIo_own, frz_nil, frz_cons, frzO_own, frzO_sh, frzO_no, plainF_ap, evF_eq, pureF_no, pureF_yes, evT_eq, pureT_no, pureT_yes, ice_nil, ice_cons, iceO_some, iceO_none, new_sh, new_fr, appO_own, fre_sh, fre_fr, pk_sh, pk_fr, pk_bo, pk_bi, out_sh, out_fr, out_bo, subO_ok, sub_tup, sub_lst, sub_scr, AR.exec_asgv, exec_asgt, exec_par, exec_app, exec_aug, augV_int, augO_int, exec_ret, exec_ret0, exec_ife, exec_ex, exec_pass, AR.execs_nil, AR.execs_cons, thenS_nx, thenS_rt, AR.exec_for, exec_whl, bind_var, bind_tup, binds_nil, binds_cons, stp_nil, stp_cons, E.esc, E.escP, E.escR, E.pure, Es.esc, Es.escP, Es.pure, pureO, escO, It.esc, It.escP, It.pure, Cl.esc, Cl.pureC, binop.eq_1, binop.eq_2, binop.eq_3, binop.eq_4, binop.eq_5, binop.eq_6, binop.eq_7, binop.eq_8, binop.eq_9, binop.eq_10, cmpop.eq_1, cmpop.eq_2, cmpop.eq_3, cmpop.eq_4, cmpop.eq_5, cmpop.eq_6, cmpop.eq_7, cmpop.eq_8, cmpop.eq_9, cmpop.eq_10, cmpop.eq_11, cmpop.eq_12, cmpop.eq_13, D.truth.eq_1, D.truth.eq_2, D.truth.eq_3, D.truth.eq_4, D.truth.eq_5, D.truth.eq_6, slcop.eq_1, slcop.eq_2, bltop.eq_1, bltop.eq_2, bltop.eq_3, bltop.eq_4, bltop.eq_5, bltop.eq_6, bltop.eq_7, bltop.eq_9, bltop.eq_10, bltop.eq_11, bltop.eq_12, bltop.eq_13, bltop.eq_14, bltop.eq_15, bltop.eq_16, bltop.eq_17, bltop.eq_18, bltop.eq_19, bltop.eq_20, bltop.eq_21, bltop.eq_22, seq?.eq_1, seq?.eq_2, itemsOf.eq_1, itemsOf.eq_2, itemsOf.eq_3, enmOf.eq_1, zip2Of.eq_1, zip2Of.eq_2, endC_nx, endC_rt, PySem.sizeLine, wipeE, keepO, eqv_ii, eqv_bb, eqv_ib, eqv_bi, eqv_ss, eqv_ll, eqv_tt, eqv_nn, eqvs_nn, eqvs_cc, eqvs_r, flat_int, flat_bl, flat_non, flat_str, flat_lst, flat_tup, flats_nil, flats_cons, flats_ints, D.plain.eq_1, D.plain.eq_2, D.plain.eq_3, D.plain.eq_4, D.plain.eq_5, D.plain.eq_6, D.scal.eq_1, D.scal.eq_2, D.scal.eq_3, D.scal.eq_4, D.scal.eq_5, D.isNon.eq_1, D.isNon.eq_2, isiop, isTy, tyOk, b2i]
    have r2 : ∀ ss, execs (callN tab w n) w (.cons (rulS 1) ss) [some (.sh, .lst l), some (.sh, .int h), none] = execs (callN tab w n) w ss [some (.sh, .lst l), some (.sh, .int h), some (.sh, .int (if h - g > 0 - 100 then h - g else 0 - 100))] := fun ss => by
      simp only [rulS, B_law_rule, List.getD_cons_zero, List.getD_cons_succ]
      simp [e1, e4, eg, kTup_ap, kLst_ap, kRes_ap, kBin2_ap, kBin_ap, kBl_ap, kNb_ap, kNot_ap, kAnd2_ap, kAnd_ap, kOr2_ap, kOr_ap, kIfe2_ap, kIfe_ap, kCmp2_ap, kCmp_ap, kCall4_ap, kCall3_ap, kCall2_ap, kCall_ap, kBlt_ap, kIsi_ap, kSh_ap, kSub2_ap, kSub_ap, kSlc3_ap, kSlc2_ap, kSlc_ap, kCons_ap, kEvs_ap, kEvP_ap, kConsF_ap, kEvPar_ap, kConsA_ap, kEvA_ap, kConsS_ap, kIfs2_ap, kIfs_ap, kEl_ap, kL_ap, kVal_ap, kEn_ap, kEnm_ap, kZ2_ap, kZ_ap, kTr_ap, kT0_ap, kT1_ap, kT2_ap, kComp_ap, kColl_ap, kQ_ap, kB_ap, kFor2_ap, kFor_ap, kNx_ap, kAsg_ap, kAsgT_ap, kPar2_ap, kPar_ap, kStp_ap, kApp_ap, kRet_ap, kIfS_ap, kEx_ap, kEnd_ap, ev_var, getV_ok, fl_sh, fl_own, fl_io, ev_cst, ev_gfn, ev_tup, ev_lst, ev_bin, negV_int, ev_neg, ev_not, ev_and, ev_or, ev_ife, ev_cmp, ev_call, ev_blt, ev_isi, ev_sub, ev_slc, intO_int, evO_no, evO_yes, AR.evs_nil, AR.evs_cons, evP_nil, evP_cons, evPar_nil, evPar_cons, evA_nil, evA_c, aO_no, E.isRef.eq_1, E.isRef.eq_2, res_nil, res_v, refs_nil, refs_vv, outs_nil, nodup_nil, evIfs_nil, evIfs_cons, evCl_el, ev_comp, evCl_one, evI_val, rngV_int, evI_rng1, evI_enm, evI_zip2, isMut_eq, any_nil, any_cons, mutO.eq_1, mutO.eq_2, mutO.eq_3, setO_ok, setV_o, isIo_no, isIo_sh, isIo_own, frz_nil, frz_cons, frzO_own, frzO_sh, frzO_no, plainF_ap, evF_eq, pureF_no, pureF_yes, evT_eq, pureT_no, pureT_yes, ice_nil, ice_cons, iceO_some, iceO_none, new_sh, new_fr, appO_own, fre_sh, fre_fr, pk_sh, pk_fr, pk_bo, pk_bi, out_sh, out_fr, out_bo, subO_ok, sub_tup, sub_lst, sub_scr, AR.exec_asgv, exec_asgt, exec_par, exec_app, exec_aug, augV_int, augO_int, exec_ret, exec_ret0, exec_ife, exec_ex, exec_pass, AR.execs_nil, AR.execs_cons, thenS_nx, thenS_rt, AR.exec_for, exec_whl, bind_var, bind_tup, binds_nil, binds_cons, stp_nil, stp_cons, E.esc, E.escP, E.escR, E.pure, Es.esc, Es.escP, Es.pure, pureO, escO, It.esc, It.escP, It.pure, Cl.esc, Cl.pureC, binop.eq_1, binop.eq_2, binop.eq_3, binop.eq_4, binop.eq_5, binop.eq_6, binop.eq_7, binop.eq_8, binop.eq_9, binop.eq_10, cmpop.eq_1, cmpop.eq_2, cmpop.eq_3, cmpop.eq_4, cmpop.eq_5, cmpop.eq_6, cmpop.eq_7, cmpop.eq_8, cmpop.eq_9, cmpop.eq_10, cmpop.eq_11, cmpop.eq_12, cmpop.eq_13, D.truth.eq_1, D.truth.eq_2, D.truth.eq_3, D.truth.eq_4, D.truth.eq_5, D.truth.eq_6, slcop.eq_1, slcop.eq_2, bltop.eq_1, bltop.eq_2, bltop.eq_3, bltop.eq_4, bltop.eq_5, bltop.eq_6, bltop.eq_7, bltop.eq_9, bltop.eq_10, bltop.eq_11, bltop.eq_12, bltop.eq_13, bltop.eq_14, bltop.eq_15, bltop.eq_16, bltop.eq_17, bltop.eq_18, bltop.eq_19, bltop.eq_20, bltop.eq_21, bltop.eq_22, seq?.eq_1, seq?.eq_2, itemsOf.eq_1, itemsOf.eq_2, itemsOf.eq_3, enmOf.eq_1, zip2Of.eq_1, zip2Of.eq_2, endC_nx, endC_rt, PySem.sizeLine, wipeE, keepO, eqv_ii, eqv_bb, eqv_ib, eqv_bi, eqv_ss, eqv_ll, eqv_tt, eqv_nn, eqvs_nn, eqvs_cc, eqvs_r, flat_int, flat_bl, flat_non, flat_str, flat_lst, flat_tup, flats_nil, flats_cons, flats_ints, D.plain.eq_1, D.plain.eq_2, D.plain.eq_3, D.plain.eq_4, D.plain.eq_5, D.plain.eq_6, D.scal.eq_1, D.scal.eq_2, D.scal.eq_3, D.scal.eq_4, D.scal.eq_5, D.isNon.eq_1, D.isNon.eq_2, isiop, isTy, tyOk, b2i]
    show bnd (execs _ _ B_law_rule [some (.sh, .lst l), none, none]) endC = _
    have hb : B_law_rule = .cons (rulS 0) (.cons (rulS 1) (.cons (rulS 2) .nil)) := rfl
    rw [hb, r1, r2]
    generalize (if h - g > 0 - 100 then h - g else 0 - 100) = lo
    simp only [rulS, B_law_rule, List.getD_cons_zero, List.getD_cons_succ]
    simp [e2, e3, Rl.d, kTup_ap, kLst_ap, kRes_ap, kBin2_ap, kBin_ap, kBl_ap, kNb_ap, kNot_ap, kAnd2_ap, kAnd_ap, kOr2_ap, kOr_ap, kIfe2_ap, kIfe_ap, kCmp2_ap, kCmp_ap, kCall4_ap, kCall3_ap, kCall2_ap, kCall_ap, kBlt_ap, kIsi_ap, kSh_ap, kSub2_ap, kSub_ap, kSlc3_ap, kSlc2_ap, kSlc_ap, kCons_ap, kEvs_ap, kEvP_ap, kConsF_ap, kEvPar_ap, kConsA_ap, kEvA_ap, kConsS_ap, kIfs2_ap, kIfs_ap, kEl_ap, kL_ap, kVal_ap, kEn_ap, kEnm_ap, kZ2_ap, kZ_ap, kTr_ap, kT0_ap, kT1_ap, kT2_ap, kComp_ap, kColl_ap, kQ_ap, kB_ap, kFor2_ap, kFor_ap, kNx_ap, kAsg_ap, kAsgT_ap, kPar2_ap, kPar_ap, kStp_ap, kApp_ap, kRet_ap, kIfS_ap, kEx_ap, kEnd_ap, ev_var, getV_ok, fl_sh, fl_own, fl_io, ev_cst, ev_gfn, ev_tup, ev_lst, ev_bin, negV_int, ev_neg, ev_not, ev_and, ev_or, ev_ife, ev_cmp, ev_call, ev_blt, ev_isi, ev_sub, ev_slc, intO_int, evO_no, evO_yes, AR.evs_nil, AR.evs_cons, evP_nil, evP_cons, evPar_nil, evPar_cons, evA_nil, evA_c, aO_no, E.isRef.eq_1, E.isRef.eq_2, res_nil, res_v, refs_nil, refs_vv, outs_nil, nodup_nil, evIfs_nil, evIfs_cons, evCl_el, ev_comp, evCl_one, evI_val, rngV_int, evI_rng1, evI_enm, evI_zip2, isMut_eq, any_nil, any_cons, mutO.eq_1, mutO.eq_2, mutO.eq_3, setO_ok, setV_o, isIo_no, isIo_sh, isIo_own, frz_nil, frz_cons, frzO_own, frzO_sh, frzO_no, plainF_ap, evF_eq, pureF_no, pureF_yes, evT_eq, pureT_no, pureT_yes, ice_nil, ice_cons, iceO_some, iceO_none, new_sh, new_fr, appO_own, fre_sh, fre_fr, pk_sh, pk_fr, pk_bo, pk_bi, out_sh, out_fr, out_bo, subO_ok, sub_tup, sub_lst, sub_scr, AR.exec_asgv, exec_asgt, exec_par, exec_app, exec_aug, augV_int, augO_int, exec_ret, exec_ret0, exec_ife, exec_ex, exec_pass, AR.execs_nil, AR.execs_cons, thenS_nx, thenS_rt, AR.exec_for, exec_whl, bind_var, bind_tup, binds_nil, binds_cons, stp_nil, stp_cons, E.esc, E.escP, E.escR, E.pure, Es.esc, Es.escP, Es.pure, pureO, escO, It.esc, It.escP, It.pure, Cl.esc, Cl.pureC, binop.eq_1, binop.eq_2, binop.eq_3, binop.eq_4, binop.eq_5, binop.eq_6, binop.eq_7, binop.eq_8, binop.eq_9, binop.eq_10, cmpop.eq_1, cmpop.eq_2, cmpop.eq_3, cmpop.eq_4, cmpop.eq_5, cmpop.eq_6, cmpop.eq_7, cmpop.eq_8, cmpop.eq_9, cmpop.eq_10, cmpop.eq_11, cmpop.eq_12, cmpop.eq_13, D.truth.eq_1, D.truth.eq_2, D.truth.eq_3, D.truth.eq_4, D.truth.eq_5, D.truth.eq_6, slcop.eq_1, slcop.eq_2, bltop.eq_1, bltop.eq_2, bltop.eq_3, bltop.eq_4, bltop.eq_5, bltop.eq_6, bltop.eq_7, bltop.eq_9, bltop.eq_10, bltop.eq_11, bltop.eq_12, bltop.eq_13, bltop.eq_14, bltop.eq_15, bltop.eq_16, bltop.eq_17, bltop.eq_18, bltop.eq_19, bltop.eq_20, bltop.eq_21, bltop.eq_22, seq?.eq_1, seq?.eq_2, itemsOf.eq_1, itemsOf.eq_2, itemsOf.eq_3, enmOf.eq_1, zip2Of.eq_1, zip2Of.eq_2, endC_nx, endC_rt, PySem.sizeLine, wipeE, keepO, eqv_ii, eqv_bb, eqv_ib, eqv_bi, eqv_ss, eqv_ll, eqv_tt, eqv_nn, eqvs_nn, eqvs_cc, eqvs_r, flat_int, flat_bl, flat_non, flat_str, flat_lst, flat_tup, flats_nil, flats_cons, flats_ints, D.plain.eq_1, D.plain.eq_2, D.plain.eq_3, D.plain.eq_4, D.plain.eq_5, D.plain.eq_6, D.scal.eq_1, D.scal.eq_2, D.scal.eq_3, D.scal.eq_4, D.scal.eq_5, D.isNon.eq_1, D.isNon.eq_2, isiop, isTy, tyOk, b2i]
theorem stronger_run {k : Nat} (ht : tab k = some ⟨2, [], 4, B_law_stronger⟩) (n : Nat) {b : Int} {l : List D} (hd : Digs b l) (hl : 4 ≤ l.length) {q : Rl} (hq : q.ok) : ∃ p : Rl, p.ok ∧ callN tab w (n+1) k [(.sh, q.d), (.sh, .lst l)] = .ok ([], .sh, p.d) := by
  rw [callN_ev ht rfl rfl rfl]
  obtain ⟨x0, p0, _, e0⟩ := digs_at hd 0 (by omega)
  obtain ⟨x1, p1, _, e1⟩ := digs_at hd 1 (by omega)
  obtain ⟨x2, p2, _, e2⟩ := digs_at hd 2 (by omega)
  obtain ⟨x3, p3, _, e3⟩ := digs_at hd 3 (by omega)
  have e0 : L2.atI l 0 = some (.int x0) := L2.atI_nat (j := 0) e0
  have e1 : L2.atI l 1 = some (.int x1) := L2.atI_nat (j := 1) e1
  have e2 : L2.atI l 2 = some (.int x2) := L2.atI_nat (j := 2) e2
  have e3 : L2.atI l 3 = some (.int x3) := L2.atI_nat (j := 3) e3
  obtain ⟨h, r, lo, f⟩ := q
  obtain ⟨h1, h2, h3, h4, h5⟩ := hq
  have h1 : 1 ≤ r := h1
  have h2 : 1 ≤ f := h2
  have h3 : lo ≤ h := h3
  have h4 : -100 ≤ h := h4
  have h5 : -100 ≤ lo := h5
  have a0 : ∀ a b c d : Int, L2.atI [D.int a, D.int b, D.int c, D.int d] 0 = some (.int a) := fun _ _ _ _ => rfl
  have a1 : ∀ a b c d : Int, L2.atI [D.int a, D.int b, D.int c, D.int d] 1 = some (.int b) := fun _ _ _ _ => rfl
  have a2 : ∀ a b c d : Int, L2.atI [D.int a, D.int b, D.int c, D.int d] 2 = some (.int c) := fun _ _ _ _ => rfl
  have a3 : ∀ a b c d : Int, L2.atI [D.int a, D.int b, D.int c, D.int d] 3 = some (.int d) := fun _ _ _ _ => rfl
  have m1 : ∃ H : Int, (H = if h + x0 % 3 < 100 then h + x0 % 3 else 100) := ⟨_, rfl⟩
  obtain ⟨H, hH⟩ := m1
  have m2 : ∃ L : Int, (L = if lo + x1 % 4 < H then lo + x1 % 4 else H) := ⟨_, rfl⟩
  obtain ⟨L, hL⟩ := m2
  have m3 : ∃ R : Int, (R = if r + x2 % 2 < 5 then r + x2 % 2 else 5) := ⟨_, rfl⟩
  obtain ⟨R, hR⟩ := m3
  have m4 : ∃ G : Int, (G = if f - x3 % 2 > 1 then f - x3 % 2 else 1) := ⟨_, rfl⟩
  obtain ⟨G, hG⟩ := m4
  refine ⟨⟨H, R, L, G⟩, ⟨?_, ?_, ?_, ?_, ?_⟩, ?_⟩
  · show 1 ≤ R; split at hR <;> omega
  · show 1 ≤ G; split at hG <;> omega
  · show L ≤ H; split at hL <;> omega
  · show -100 ≤ H; split at hH <;> omega
  · show -100 ≤ L; split at hL <;> split at hH <;> omega
  · have r1 : ∀ ss, execs (callN tab w n) w (.cons (strS 0) ss) [some (.sh, Rl.d ⟨h, r, lo, f⟩), some (.sh, .lst l), none, none] = execs (callN tab w n) w ss [some (.sh, Rl.d ⟨h, r, lo, f⟩), some (.sh, .lst l), some (.sh, .int H), none] := fun ss => by
      rw [hH]
      simp only [strS, B_law_stronger, List.getD_cons_zero, Rl.d]
      simp [e0, a0, kTup_ap, kLst_ap, kRes_ap, kBin2_ap, kBin_ap, kBl_ap, kNb_ap, kNot_ap, kAnd2_ap, kAnd_ap, kOr2_ap, kOr_ap, kIfe2_ap, kIfe_ap, kCmp2_ap, kCmp_ap, kCall4_ap, kCall3_ap, kCall2_ap, kCall_ap, kBlt_ap, kIsi_ap, kSh_ap, kSub2_ap, kSub_ap, kSlc3_ap, kSlc2_ap, kSlc_ap, kCons_ap, kEvs_ap, kEvP_ap, kConsF_ap, kEvPar_ap, kConsA_ap, kEvA_ap, kConsS_ap, kIfs2_ap, kIfs_ap, kEl_ap, kL_ap, kVal_ap, kEn_ap, kEnm_ap, kZ2_ap, kZ_ap, kTr_ap, kT0_ap, kT1_ap, kT2_ap, kComp_ap, kColl_ap, kQ_ap, kB_ap, kFor2_ap, kFor_ap, kNx_ap, kAsg_ap, kAsgT_ap, kPar2_ap, kPar_ap, kStp_ap, kApp_ap, kRet_ap, kIfS_ap, kEx_ap, kEnd_ap, ev_var, getV_ok, fl_sh, fl_own, fl_io, ev_cst, ev_gfn, ev_tup, ev_lst, ev_bin, negV_int, ev_neg, ev_not, ev_and, ev_or, ev_ife, ev_cmp, ev_call, ev_blt, ev_isi, ev_sub, ev_slc, intO_int, evO_no, evO_yes, AR.evs_nil, AR.evs_cons, evP_nil, evP_cons, evPar_nil, evPar_cons, evA_nil, evA_c, aO_no, E.isRef.eq_1, E.isRef.eq_2, res_nil, res_v, refs_nil, refs_vv, outs_nil, nodup_nil, evIfs_nil, evIfs_cons, evCl_el, ev_comp, evCl_one, evI_val, rngV_int, evI_rng1, evI_enm, evI_zip2, isMut_eq, any_nil, any_cons, mutO.eq_1, mutO.eq_2, mutO.eq_3, setO_ok, setV_o, isIo_no, isIo_sh, isIo_own, frz_nil, frz_cons, frzO_own, frzO_sh, frzO_no, plainF_ap, evF_eq, pureF_no, pureF_yes, evT_eq, pureT_no, pureT_yes, ice_nil, ice_cons, iceO_some, iceO_none, new_sh, new_fr, appO_own, fre_sh, fre_fr, pk_sh, pk_fr, pk_bo, pk_bi, out_sh, out_fr, out_bo, subO_ok, sub_tup, sub_lst, sub_scr, AR.exec_asgv, exec_asgt, exec_par, exec_app, exec_aug, augV_int, augO_int, exec_ret, exec_ret0, exec_ife, exec_ex, exec_pass, AR.execs_nil, AR.execs_cons, thenS_nx, thenS_rt, AR.exec_for, exec_whl, bind_var, bind_tup, binds_nil, binds_cons, stp_nil, stp_cons, E.esc, E.escP, E.escR, E.pure, Es.esc, Es.escP, Es.pure, pureO, escO, It.esc, It.escP, It.pure, Cl.esc, Cl.pureC, binop.eq_1, binop.eq_2, binop.eq_3, binop.eq_4, binop.eq_5, binop.eq_6, binop.eq_7, binop.eq_8, binop.eq_9, binop.eq_10, cmpop.eq_1, cmpop.eq_2, cmpop.eq_3, cmpop.eq_4, cmpop.eq_5, cmpop.eq_6, cmpop.eq_7, cmpop.eq_8, cmpop.eq_9, cmpop.eq_10, cmpop.eq_11, cmpop.eq_12, cmpop.eq_13, D.truth.eq_1, D.truth.eq_2, D.truth.eq_3, D.truth.eq_4, D.truth.eq_5, D.truth.eq_6, slcop.eq_1, slcop.eq_2, bltop.eq_1, bltop.eq_2, bltop.eq_3, bltop.eq_4, bltop.eq_5, bltop.eq_6, bltop.eq_7, bltop.eq_9, bltop.eq_10, bltop.eq_11, bltop.eq_12, bltop.eq_13, bltop.eq_14, bltop.eq_15, bltop.eq_16, bltop.eq_17, bltop.eq_18, bltop.eq_19, bltop.eq_20, bltop.eq_21, bltop.eq_22, seq?.eq_1, seq?.eq_2, itemsOf.eq_1, itemsOf.eq_2, itemsOf.eq_3, enmOf.eq_1, zip2Of.eq_1, zip2Of.eq_2, endC_nx, endC_rt, PySem.sizeLine, wipeE, keepO, eqv_ii, eqv_bb, eqv_ib, eqv_bi, eqv_ss, eqv_ll, eqv_tt, eqv_nn, eqvs_nn, eqvs_cc, eqvs_r, flat_int, flat_bl, flat_non, flat_str, flat_lst, flat_tup, flats_nil, flats_cons, flats_ints, D.plain.eq_1, D.plain.eq_2, D.plain.eq_3, D.plain.eq_4, D.plain.eq_5, D.plain.eq_6, D.scal.eq_1, D.scal.eq_2, D.scal.eq_3, D.scal.eq_4, D.scal.eq_5, D.isNon.eq_1, D.isNon.eq_2, isiop, isTy, tyOk, b2i]
    have r2 : ∀ ss, execs (callN tab w n) w (.cons (strS 1) ss) [some (.sh, Rl.d ⟨h, r, lo, f⟩), some (.sh, .lst l), some (.sh, .int H), none] = execs (callN tab w n) w ss [some (.sh, Rl.d ⟨h, r, lo, f⟩), some (.sh, .lst l), some (.sh, .int H), some (.sh, .int L)] := fun ss => by
      rw [hL]
      simp only [strS, B_law_stronger, List.getD_cons_zero, List.getD_cons_succ, Rl.d]
      simp [e1, a2, kTup_ap, kLst_ap, kRes_ap, kBin2_ap, kBin_ap, kBl_ap, kNb_ap, kNot_ap, kAnd2_ap, kAnd_ap, kOr2_ap, kOr_ap, kIfe2_ap, kIfe_ap, kCmp2_ap, kCmp_ap, kCall4_ap, kCall3_ap, kCall2_ap, kCall_ap, kBlt_ap, kIsi_ap, kSh_ap, kSub2_ap, kSub_ap, kSlc3_ap, kSlc2_ap, kSlc_ap, kCons_ap, kEvs_ap, kEvP_ap, kConsF_ap, kEvPar_ap, kConsA_ap, kEvA_ap, kConsS_ap, kIfs2_ap, kIfs_ap, kEl_ap, kL_ap, kVal_ap, kEn_ap, kEnm_ap, kZ2_ap, kZ_ap, kTr_ap, kT0_ap, kT1_ap, kT2_ap, kComp_ap, kColl_ap, kQ_ap, kB_ap, kFor2_ap, kFor_ap, kNx_ap, kAsg_ap, kAsgT_ap, kPar2_ap, kPar_ap, kStp_ap, kApp_ap, kRet_ap, kIfS_ap, kEx_ap, kEnd_ap, ev_var, getV_ok, fl_sh, fl_own, fl_io, ev_cst, ev_gfn, ev_tup, ev_lst, ev_bin, negV_int, ev_neg, ev_not, ev_and, ev_or, ev_ife, ev_cmp, ev_call, ev_blt, ev_isi, ev_sub, ev_slc, intO_int, evO_no, evO_yes, AR.evs_nil, AR.evs_cons, evP_nil, evP_cons, evPar_nil, evPar_cons, evA_nil, evA_c, aO_no, E.isRef.eq_1, E.isRef.eq_2, res_nil, res_v, refs_nil, refs_vv, outs_nil, nodup_nil, evIfs_nil, evIfs_cons, evCl_el, ev_comp, evCl_one, evI_val, rngV_int, evI_rng1, evI_enm, evI_zip2, isMut_eq, any_nil, any_cons, mutO.eq_1, mutO.eq_2, mutO.eq_3, setO_ok, setV_o, isIo_no, isIo_sh, isIo_own, frz_nil, frz_cons, frzO_own, frzO_sh, frzO_no, plainF_ap, evF_eq, pureF_no, pureF_yes, evT_eq, pureT_no, pureT_yes, ice_nil, ice_cons, iceO_some, iceO_none, new_sh, new_fr, appO_own, fre_sh, fre_fr, pk_sh, pk_fr, pk_bo, pk_bi, out_sh, out_fr, out_bo, subO_ok, sub_tup, sub_lst, sub_scr, AR.exec_asgv, exec_asgt, exec_par, exec_app, exec_aug, augV_int, augO_int, exec_ret, exec_ret0, exec_ife, exec_ex, exec_pass, AR.execs_nil, AR.execs_cons, thenS_nx, thenS_rt, AR.exec_for, exec_whl, bind_var, bind_tup, binds_nil, binds_cons, stp_nil, stp_cons, E.esc, E.escP, E.escR, E.pure, Es.esc, Es.escP, Es.pure, pureO, escO, It.esc, It.escP, It.pure, Cl.esc, Cl.pureC, binop.eq_1, binop.eq_2, binop.eq_3, binop.eq_4, binop.eq_5, binop.eq_6, binop.eq_7, binop.eq_8, binop.eq_9, binop.eq_10, cmpop.eq_1, cmpop.eq_2, cmpop.eq_3, cmpop.eq_4, cmpop.eq_5, cmpop.eq_6, cmpop.eq_7, cmpop.eq_8, cmpop.eq_9, cmpop.eq_10, cmpop.eq_11, cmpop.eq_12, cmpop.eq_13, D.truth.eq_1, D.truth.eq_2, D.truth.eq_3, D.truth.eq_4, D.truth.eq_5, D.truth.eq_6, slcop.eq_1, slcop.eq_2, bltop.eq_1, bltop.eq_2, bltop.eq_3, bltop.eq_4, bltop.eq_5, bltop.eq_6, bltop.eq_7, bltop.eq_9, bltop.eq_10, bltop.eq_11, bltop.eq_12, bltop.eq_13, bltop.eq_14, bltop.eq_15, bltop.eq_16, bltop.eq_17, bltop.eq_18, bltop.eq_19, bltop.eq_20, bltop.eq_21, bltop.eq_22, seq?.eq_1, seq?.eq_2, itemsOf.eq_1, itemsOf.eq_2, itemsOf.eq_3, enmOf.eq_1, zip2Of.eq_1, zip2Of.eq_2, endC_nx, endC_rt, PySem.sizeLine, wipeE, keepO, eqv_ii, eqv_bb, eqv_ib, eqv_bi, eqv_ss, eqv_ll, eqv_tt, eqv_nn, eqvs_nn, eqvs_cc, eqvs_r, flat_int, flat_bl, flat_non, flat_str, flat_lst, flat_tup, flats_nil, flats_cons, flats_ints, D.plain.eq_1, D.plain.eq_2, D.plain.eq_3, D.plain.eq_4, D.plain.eq_5, D.plain.eq_6, D.scal.eq_1, D.scal.eq_2, D.scal.eq_3, D.scal.eq_4, D.scal.eq_5, D.isNon.eq_1, D.isNon.eq_2, isiop, isTy, tyOk, b2i]
    show bnd (execs _ _ B_law_stronger [some (.sh, Rl.d ⟨h, r, lo, f⟩), some (.sh, .lst l), none, none]) endC = _
    have hb : B_law_stronger = .cons (strS 0) (.cons (strS 1) (.cons (strS 2) .nil)) := rfl
    rw [hb, r1, r2, hR, hG]
    simp only [strS, B_law_stronger, List.getD_cons_zero, List.getD_cons_succ, Rl.d]
    simp [e2, e3, a1, a3, kTup_ap, kLst_ap, kRes_ap, kBin2_ap, kBin_ap, kBl_ap, kNb_ap, kNot_ap, kAnd2_ap, kAnd_ap, kOr2_ap, kOr_ap, kIfe2_ap, kIfe_ap, kCmp2_ap, kCmp_ap, kCall4_ap, kCall3_ap, kCall2_ap, kCall_ap, kBlt_ap, kIsi_ap, kSh_ap, kSub2_ap, kSub_ap, kSlc3_ap, kSlc2_ap, kSlc_ap, kCons_ap, kEvs_ap, kEvP_ap, kConsF_ap, kEvPar_ap, kConsA_ap, kEvA_ap, kConsS_ap, kIfs2_ap, kIfs_ap, kEl_ap, kL_ap, kVal_ap, kEn_ap, kEnm_ap, kZ2_ap, kZ_ap, kTr_ap, kT0_ap, kT1_ap, kT2_ap, kComp_ap, kColl_ap, kQ_ap, kB_ap, kFor2_ap, kFor_ap, kNx_ap, kAsg_ap, kAsgT_ap, kPar2_ap, kPar_ap, kStp_ap, kApp_ap, kRet_ap, kIfS_ap, kEx_ap, kEnd_ap, ev_var, getV_ok, fl_sh, fl_own, fl_io, ev_cst, ev_gfn, ev_tup, ev_lst, ev_bin, negV_int, ev_neg, ev_not, ev_and, ev_or, ev_ife, ev_cmp, ev_call, ev_blt, ev_isi, ev_sub, ev_slc, intO_int, evO_no, evO_yes, AR.evs_nil, AR.evs_cons, evP_nil, evP_cons, evPar_nil, evPar_cons, evA_nil, evA_c, aO_no, E.isRef.eq_1, E.isRef.eq_2, res_nil, res_v, refs_nil, refs_vv, outs_nil, nodup_nil, evIfs_nil, evIfs_cons, evCl_el, ev_comp, evCl_one, evI_val, rngV_int, evI_rng1, evI_enm, evI_zip2, isMut_eq, any_nil, any_cons, mutO.eq_1, mutO.eq_2, mutO.eq_3, setO_ok, setV_o, isIo_no, isIo_sh, isIo_own, frz_nil, frz_cons, frzO_own, frzO_sh, frzO_no, plainF_ap, evF_eq, pureF_no, pureF_yes, evT_eq, pureT_no, pureT_yes, ice_nil, ice_cons, iceO_some, iceO_none, new_sh, new_fr, appO_own, fre_sh, fre_fr, pk_sh, pk_fr, pk_bo, pk_bi, out_sh, out_fr, out_bo, subO_ok, sub_tup, sub_lst, sub_scr, AR.exec_asgv, exec_asgt, exec_par, exec_app, exec_aug, augV_int, augO_int, exec_ret, exec_ret0, exec_ife, exec_ex, exec_pass, AR.execs_nil, AR.execs_cons, thenS_nx, thenS_rt, AR.exec_for, exec_whl, bind_var, bind_tup, binds_nil, binds_cons, stp_nil, stp_cons, E.esc, E.escP, E.escR, E.pure, Es.esc, Es.escP, Es.pure, pureO, escO, It.esc, It.escP, It.pure, Cl.esc, Cl.pureC, binop.eq_1, binop.eq_2, binop.eq_3, binop.eq_4, binop.eq_5, binop.eq_6, binop.eq_7, binop.eq_8, binop.eq_9, binop.eq_10, cmpop.eq_1, cmpop.eq_2, cmpop.eq_3, cmpop.eq_4, cmpop.eq_5, cmpop.eq_6, cmpop.eq_7, cmpop.eq_8, cmpop.eq_9, cmpop.eq_10, cmpop.eq_11, cmpop.eq_12, cmpop.eq_13, D.truth.eq_1, D.truth.eq_2, D.truth.eq_3, D.truth.eq_4, D.truth.eq_5, D.truth.eq_6, slcop.eq_1, slcop.eq_2, bltop.eq_1, bltop.eq_2, bltop.eq_3, bltop.eq_4, bltop.eq_5, bltop.eq_6, bltop.eq_7, bltop.eq_9, bltop.eq_10, bltop.eq_11, bltop.eq_12, bltop.eq_13, bltop.eq_14, bltop.eq_15, bltop.eq_16, bltop.eq_17, bltop.eq_18, bltop.eq_19, bltop.eq_20, bltop.eq_21, bltop.eq_22, seq?.eq_1, seq?.eq_2, itemsOf.eq_1, itemsOf.eq_2, itemsOf.eq_3, enmOf.eq_1, zip2Of.eq_1, zip2Of.eq_2, endC_nx, endC_rt, PySem.sizeLine, wipeE, keepO, eqv_ii, eqv_bb, eqv_ib, eqv_bi, eqv_ss, eqv_ll, eqv_tt, eqv_nn, eqvs_nn, eqvs_cc, eqvs_r, flat_int, flat_bl, flat_non, flat_str, flat_lst, flat_tup, flats_nil, flats_cons, flats_ints, D.plain.eq_1, D.plain.eq_2, D.plain.eq_3, D.plain.eq_4, D.plain.eq_5, D.plain.eq_6, D.scal.eq_1, D.scal.eq_2, D.scal.eq_3, D.scal.eq_4, D.scal.eq_5, D.isNon.eq_1, D.isNon.eq_2, isiop, isTy, tyOk, b2i]
end LW

namespace LW
open AR
variable {w : Nat} {tab : Nat → Option Fn}
theorem okB_by {i : Int} (h0 : 0 ≤ i) (h1 : i ≤ 100000) : okB i = true := by unfold okB; simp; omega
theorem int_le {n : Nat} (h : n ≤ 100000) : (n : Int) ≤ 100000 := by omega
def flagsL (m : Bool) (qs : List Rl) (ss : List Int) : List Bool := (List.range ss.length).map fun i => comb m (qs.map fun q => (acts q false 0 ss).getD i false)
def rowsD (qs : List Rl) (ss : List Int) : List D := qs.map fun q => .lst ((acts q false 0 ss).map .bl)
def condD (m : Bool) (qs : List Rl) : D := .tup [.str (sMode m), .tup (qs.map Rl.d)]
def sigD (ss : List Int) : D := .tup (ss.map .int)
theorem flat_single {α β : Type} (f : α → β) : ∀ l : List α, (l.map fun x => [f x]).flatten = l.map f
  | [] => rfl
  | x :: l => by rw [List.map_cons, List.flatten_cons, flat_single f l]; rfl
theorem row_turn {C : CallF} {c s : D} {rows : List D} {i : Int} {bs : List Bool} {b : Bool} (h : L2.atI (bs.map D.bl) i = some (.bl b)) :
    compB C [4] (.var 4) .nil (.sub (.var 4) (.var 5)) [some (.sh, c), some (.sh, s), some (.own, .lst rows), none, none, some (.sh, .int i)] (.lst (bs.map .bl)) = .ok ([some (.sh, c), some (.sh, s), some (.own, .lst rows), none, some (.sh, .lst (bs.map .bl)), some (.sh, .int i)], [.bl b]) := by
  rw [compB_ap]
  simp [h, kTup_ap, kLst_ap, kRes_ap, kBin2_ap, kBin_ap, kBl_ap, kNb_ap, kNot_ap, kAnd2_ap, kAnd_ap, kOr2_ap, kOr_ap, kIfe2_ap, kIfe_ap, kCmp2_ap, kCmp_ap, kCall4_ap, kCall3_ap, kCall2_ap, kCall_ap, kBlt_ap, kIsi_ap, kSh_ap, kSub2_ap, kSub_ap, kSlc3_ap, kSlc2_ap, kSlc_ap, kCons_ap, kEvs_ap, kEvP_ap, kConsF_ap, kEvPar_ap, kConsA_ap, kEvA_ap, kConsS_ap, kIfs2_ap, kIfs_ap, kEl_ap, kL_ap, kVal_ap, kEn_ap, kEnm_ap, kZ2_ap, kZ_ap, kTr_ap, kT0_ap, kT1_ap, kT2_ap, kComp_ap, kColl_ap, kQ_ap, kB_ap, kFor2_ap, kFor_ap, kNx_ap, kAsg_ap, kAsgT_ap, kPar2_ap, kPar_ap, kStp_ap, kApp_ap, kRet_ap, kIfS_ap, kEx_ap, kEnd_ap, ev_var, getV_ok, fl_sh, fl_own, fl_io, ev_cst, ev_gfn, ev_tup, ev_lst, ev_bin, negV_int, ev_neg, ev_not, ev_and, ev_or, ev_ife, ev_cmp, ev_call, ev_blt, ev_isi, ev_sub, ev_slc, intO_int, evO_no, evO_yes, AR.evs_nil, AR.evs_cons, evP_nil, evP_cons, evPar_nil, evPar_cons, evA_nil, evA_c, aO_no, E.isRef.eq_1, E.isRef.eq_2, res_nil, res_v, refs_nil, refs_vv, outs_nil, nodup_nil, evIfs_nil, evIfs_cons, evCl_el, ev_comp, evCl_one, evI_val, rngV_int, evI_rng1, evI_enm, evI_zip2, isMut_eq, any_nil, any_cons, mutO.eq_1, mutO.eq_2, mutO.eq_3, setO_ok, setV_o, isIo_no, isIo_sh, isIo_own, frz_nil, frz_cons, frzO_own, frzO_sh, frzO_no, plainF_ap, evF_eq, pureF_no, pureF_yes, evT_eq, pureT_no, pureT_yes, ice_nil, ice_cons, iceO_some, iceO_none, new_sh, new_fr, appO_own, fre_sh, fre_fr, pk_sh, pk_fr, pk_bo, pk_bi, out_sh, out_fr, out_bo, subO_ok, sub_tup, sub_lst, sub_scr, AR.exec_asgv, exec_asgt, exec_par, exec_app, exec_aug, augV_int, augO_int, exec_ret, exec_ret0, exec_ife, exec_ex, exec_pass, AR.execs_nil, AR.execs_cons, thenS_nx, thenS_rt, AR.exec_for, exec_whl, bind_var, bind_tup, binds_nil, binds_cons, stp_nil, stp_cons, E.esc, E.escP, E.escR, E.pure, Es.esc, Es.escP, Es.pure, pureO, escO, It.esc, It.escP, It.pure, Cl.esc, Cl.pureC, binop.eq_1, binop.eq_2, binop.eq_3, binop.eq_4, binop.eq_5, binop.eq_6, binop.eq_7, binop.eq_8, binop.eq_9, binop.eq_10, cmpop.eq_1, cmpop.eq_2, cmpop.eq_3, cmpop.eq_4, cmpop.eq_5, cmpop.eq_6, cmpop.eq_7, cmpop.eq_8, cmpop.eq_9, cmpop.eq_10, cmpop.eq_11, cmpop.eq_12, cmpop.eq_13, D.truth.eq_1, D.truth.eq_2, D.truth.eq_3, D.truth.eq_4, D.truth.eq_5, D.truth.eq_6, slcop.eq_1, slcop.eq_2, bltop.eq_1, bltop.eq_2, bltop.eq_3, bltop.eq_4, bltop.eq_5, bltop.eq_6, bltop.eq_7, bltop.eq_9, bltop.eq_10, bltop.eq_11, bltop.eq_12, bltop.eq_13, bltop.eq_14, bltop.eq_15, bltop.eq_16, bltop.eq_17, bltop.eq_18, bltop.eq_19, bltop.eq_20, bltop.eq_21, bltop.eq_22, seq?.eq_1, seq?.eq_2, itemsOf.eq_1, itemsOf.eq_2, itemsOf.eq_3, enmOf.eq_1, zip2Of.eq_1, zip2Of.eq_2, endC_nx, endC_rt, PySem.sizeLine, wipeE, keepO, eqv_ii, eqv_bb, eqv_ib, eqv_bi, eqv_ss, eqv_ll, eqv_tt, eqv_nn, eqvs_nn, eqvs_cc, eqvs_r, flat_int, flat_bl, flat_non, flat_str, flat_lst, flat_tup, flats_nil, flats_cons, flats_ints, D.plain.eq_1, D.plain.eq_2, D.plain.eq_3, D.plain.eq_4, D.plain.eq_5, D.plain.eq_6, D.scal.eq_1, D.scal.eq_2, D.scal.eq_3, D.scal.eq_4, D.scal.eq_5, D.isNon.eq_1, D.isNon.eq_2, isiop, isTy, tyOk, b2i]
theorem row_comp {C : CallF} {c s : D} {qs : List Rl} {ss : List Int} {i : Nat} (hi : i < ss.length) (hq : qs.length ≤ 1000) :
    ev C (.comp [4] (.cons (.var 4) (.val (.var 2)) .nil (.el (.sub (.var 4) (.var 5))))) [some (.sh, c), some (.sh, s), some (.own, .lst (rowsD qs ss)), none, none, some (.sh, .int (i : Int))] =
      .ok ([some (.sh, c), some (.sh, s), some (.own, .lst (rowsD qs ss)), none, none, some (.sh, .int (i : Int))], .fr, .lst ((qs.map fun q => (acts q false 0 ss).getD i false).map .bl)) := by
  have hcol : collect [4] (compB C [4] (.var 4) .nil (.sub (.var 4) (.var 5))) (rowsD qs ss) [some (.sh, c), some (.sh, s), some (.own, .lst (rowsD qs ss)), none, none, some (.sh, .int (i : Int))] =
      .ok ([some (.sh, c), some (.sh, s), some (.own, .lst (rowsD qs ss)), none, none, some (.sh, .int (i : Int))], (qs.map fun q => [D.bl ((acts q false 0 ss).getD i false)]).flatten) := by
    refine collect_ix (by simp [rowsD]) fun j d l h1 h2 => ?_
    simp only [rowsD, List.getElem?_map, Option.map_eq_some_iff] at h1 h2
    obtain ⟨q, q1, q2⟩ := h1
    obtain ⟨q', q3, q4⟩ := h2
    rw [q1] at q3
    cases q3
    subst q2 q4
    have hl : i < (acts q false 0 ss).length := by rw [acts_len]; exact hi
    have ha : L2.atI ((acts q false 0 ss).map D.bl) (i : Int) = some (.bl ((acts q false 0 ss).getD i false)) := by
      refine L2.atI_nat ?_
      rw [List.getElem?_map, List.getD_eq_getElem?_getD, List.getElem?_eq_getElem hl]
      rfl
    exact ⟨_, row_turn ha, rfl⟩
  rw [flat_single] at hcol
  generalize (i : Int) = I at *
  have hlen : (qs.map fun q => D.bl ((acts q false 0 ss).getD i false)).length ≤ 16777216 := by simp; omega
  simp [hcol, hlen, kTup_ap, kLst_ap, kRes_ap, kBin2_ap, kBin_ap, kBl_ap, kNb_ap, kNot_ap, kAnd2_ap, kAnd_ap, kOr2_ap, kOr_ap, kIfe2_ap, kIfe_ap, kCmp2_ap, kCmp_ap, kCall4_ap, kCall3_ap, kCall2_ap, kCall_ap, kBlt_ap, kIsi_ap, kSh_ap, kSub2_ap, kSub_ap, kSlc3_ap, kSlc2_ap, kSlc_ap, kCons_ap, kEvs_ap, kEvP_ap, kConsF_ap, kEvPar_ap, kConsA_ap, kEvA_ap, kConsS_ap, kIfs2_ap, kIfs_ap, kEl_ap, kL_ap, kVal_ap, kEn_ap, kEnm_ap, kZ2_ap, kZ_ap, kTr_ap, kT0_ap, kT1_ap, kT2_ap, kComp_ap, kColl_ap, kQ_ap, kB_ap, kFor2_ap, kFor_ap, kNx_ap, kAsg_ap, kAsgT_ap, kPar2_ap, kPar_ap, kStp_ap, kApp_ap, kRet_ap, kIfS_ap, kEx_ap, kEnd_ap, ev_var, getV_ok, fl_sh, fl_own, fl_io, ev_cst, ev_gfn, ev_tup, ev_lst, ev_bin, negV_int, ev_neg, ev_not, ev_and, ev_or, ev_ife, ev_cmp, ev_call, ev_blt, ev_isi, ev_sub, ev_slc, intO_int, evO_no, evO_yes, AR.evs_nil, AR.evs_cons, evP_nil, evP_cons, evPar_nil, evPar_cons, evA_nil, evA_c, aO_no, E.isRef.eq_1, E.isRef.eq_2, res_nil, res_v, refs_nil, refs_vv, outs_nil, nodup_nil, evIfs_nil, evIfs_cons, evCl_el, ev_comp, evCl_one, evI_val, rngV_int, evI_rng1, evI_enm, evI_zip2, isMut_eq, any_nil, any_cons, mutO.eq_1, mutO.eq_2, mutO.eq_3, setO_ok, setV_o, isIo_no, isIo_sh, isIo_own, frz_nil, frz_cons, frzO_own, frzO_sh, frzO_no, plainF_ap, evF_eq, pureF_no, pureF_yes, evT_eq, pureT_no, pureT_yes, ice_nil, ice_cons, iceO_some, iceO_none, new_sh, new_fr, appO_own, fre_sh, fre_fr, pk_sh, pk_fr, pk_bo, pk_bi, out_sh, out_fr, out_bo, subO_ok, sub_tup, sub_lst, sub_scr, AR.exec_asgv, exec_asgt, exec_par, exec_app, exec_aug, augV_int, augO_int, exec_ret, exec_ret0, exec_ife, exec_ex, exec_pass, AR.execs_nil, AR.execs_cons, thenS_nx, thenS_rt, AR.exec_for, exec_whl, bind_var, bind_tup, binds_nil, binds_cons, stp_nil, stp_cons, E.esc, E.escP, E.escR, E.pure, Es.esc, Es.escP, Es.pure, pureO, escO, It.esc, It.escP, It.pure, Cl.esc, Cl.pureC, binop.eq_1, binop.eq_2, binop.eq_3, binop.eq_4, binop.eq_5, binop.eq_6, binop.eq_7, binop.eq_8, binop.eq_9, binop.eq_10, cmpop.eq_1, cmpop.eq_2, cmpop.eq_3, cmpop.eq_4, cmpop.eq_5, cmpop.eq_6, cmpop.eq_7, cmpop.eq_8, cmpop.eq_9, cmpop.eq_10, cmpop.eq_11, cmpop.eq_12, cmpop.eq_13, D.truth.eq_1, D.truth.eq_2, D.truth.eq_3, D.truth.eq_4, D.truth.eq_5, D.truth.eq_6, slcop.eq_1, slcop.eq_2, bltop.eq_1, bltop.eq_2, bltop.eq_3, bltop.eq_4, bltop.eq_5, bltop.eq_6, bltop.eq_7, bltop.eq_9, bltop.eq_10, bltop.eq_11, bltop.eq_12, bltop.eq_13, bltop.eq_14, bltop.eq_15, bltop.eq_16, bltop.eq_17, bltop.eq_18, bltop.eq_19, bltop.eq_20, bltop.eq_21, bltop.eq_22, seq?.eq_1, seq?.eq_2, itemsOf.eq_1, itemsOf.eq_2, itemsOf.eq_3, enmOf.eq_1, zip2Of.eq_1, zip2Of.eq_2, endC_nx, endC_rt, PySem.sizeLine, wipeE, keepO, eqv_ii, eqv_bb, eqv_ib, eqv_bi, eqv_ss, eqv_ll, eqv_tt, eqv_nn, eqvs_nn, eqvs_cc, eqvs_r, flat_int, flat_bl, flat_non, flat_str, flat_lst, flat_tup, flats_nil, flats_cons, flats_ints, D.plain.eq_1, D.plain.eq_2, D.plain.eq_3, D.plain.eq_4, D.plain.eq_5, D.plain.eq_6, D.scal.eq_1, D.scal.eq_2, D.scal.eq_3, D.scal.eq_4, D.scal.eq_5, D.isNon.eq_1, D.isNon.eq_2, isiop, isTy, tyOk, b2i]
  rw [guard_if _ (decide_eq_true (by omega))]
  rfl
theorem cf_turn1 {C : CallF} {kr : Nat} {c s : D} {q : Rl} {r : List D} (hC : C kr [(.sh, q.d), (.sh, s)] = .ok ([], .fr, .lst r)) :
    compB C [3] (.var 3) .nil (.call kr (.cons (.var 3) (.cons (.var 1) .nil))) [some (.sh, c), some (.sh, s), none, none, none, none] q.d = .ok ([some (.sh, c), some (.sh, s), none, some (.sh, q.d), none, none], [.lst r]) := by
  rw [compB_ap]
  simp [hC, kTup_ap, kLst_ap, kRes_ap, kBin2_ap, kBin_ap, kBl_ap, kNb_ap, kNot_ap, kAnd2_ap, kAnd_ap, kOr2_ap, kOr_ap, kIfe2_ap, kIfe_ap, kCmp2_ap, kCmp_ap, kCall4_ap, kCall3_ap, kCall2_ap, kCall_ap, kBlt_ap, kIsi_ap, kSh_ap, kSub2_ap, kSub_ap, kSlc3_ap, kSlc2_ap, kSlc_ap, kCons_ap, kEvs_ap, kEvP_ap, kConsF_ap, kEvPar_ap, kConsA_ap, kEvA_ap, kConsS_ap, kIfs2_ap, kIfs_ap, kEl_ap, kL_ap, kVal_ap, kEn_ap, kEnm_ap, kZ2_ap, kZ_ap, kTr_ap, kT0_ap, kT1_ap, kT2_ap, kComp_ap, kColl_ap, kQ_ap, kB_ap, kFor2_ap, kFor_ap, kNx_ap, kAsg_ap, kAsgT_ap, kPar2_ap, kPar_ap, kStp_ap, kApp_ap, kRet_ap, kIfS_ap, kEx_ap, kEnd_ap, ev_var, getV_ok, fl_sh, fl_own, fl_io, ev_cst, ev_gfn, ev_tup, ev_lst, ev_bin, negV_int, ev_neg, ev_not, ev_and, ev_or, ev_ife, ev_cmp, ev_call, ev_blt, ev_isi, ev_sub, ev_slc, intO_int, evO_no, evO_yes, AR.evs_nil, AR.evs_cons, evP_nil, evP_cons, evPar_nil, evPar_cons, evA_nil, evA_c, aO_no, E.isRef.eq_1, E.isRef.eq_2, res_nil, res_v, refs_nil, refs_vv, outs_nil, nodup_nil, evIfs_nil, evIfs_cons, evCl_el, ev_comp, evCl_one, evI_val, rngV_int, evI_rng1, evI_enm, evI_zip2, isMut_eq, any_nil, any_cons, mutO.eq_1, mutO.eq_2, mutO.eq_3, setO_ok, setV_o, isIo_no, isIo_sh, isIo_own, frz_nil, frz_cons, frzO_own, frzO_sh, frzO_no, plainF_ap, evF_eq, pureF_no, pureF_yes, evT_eq, pureT_no, pureT_yes, ice_nil, ice_cons, iceO_some, iceO_none, new_sh, new_fr, appO_own, fre_sh, fre_fr, pk_sh, pk_fr, pk_bo, pk_bi, out_sh, out_fr, out_bo, subO_ok, sub_tup, sub_lst, sub_scr, AR.exec_asgv, exec_asgt, exec_par, exec_app, exec_aug, augV_int, augO_int, exec_ret, exec_ret0, exec_ife, exec_ex, exec_pass, AR.execs_nil, AR.execs_cons, thenS_nx, thenS_rt, AR.exec_for, exec_whl, bind_var, bind_tup, binds_nil, binds_cons, stp_nil, stp_cons, E.esc, E.escP, E.escR, E.pure, Es.esc, Es.escP, Es.pure, pureO, escO, It.esc, It.escP, It.pure, Cl.esc, Cl.pureC, binop.eq_1, binop.eq_2, binop.eq_3, binop.eq_4, binop.eq_5, binop.eq_6, binop.eq_7, binop.eq_8, binop.eq_9, binop.eq_10, cmpop.eq_1, cmpop.eq_2, cmpop.eq_3, cmpop.eq_4, cmpop.eq_5, cmpop.eq_6, cmpop.eq_7, cmpop.eq_8, cmpop.eq_9, cmpop.eq_10, cmpop.eq_11, cmpop.eq_12, cmpop.eq_13, D.truth.eq_1, D.truth.eq_2, D.truth.eq_3, D.truth.eq_4, D.truth.eq_5, D.truth.eq_6, slcop.eq_1, slcop.eq_2, bltop.eq_1, bltop.eq_2, bltop.eq_3, bltop.eq_4, bltop.eq_5, bltop.eq_6, bltop.eq_7, bltop.eq_9, bltop.eq_10, bltop.eq_11, bltop.eq_12, bltop.eq_13, bltop.eq_14, bltop.eq_15, bltop.eq_16, bltop.eq_17, bltop.eq_18, bltop.eq_19, bltop.eq_20, bltop.eq_21, bltop.eq_22, seq?.eq_1, seq?.eq_2, itemsOf.eq_1, itemsOf.eq_2, itemsOf.eq_3, enmOf.eq_1, zip2Of.eq_1, zip2Of.eq_2, endC_nx, endC_rt, PySem.sizeLine, wipeE, keepO, eqv_ii, eqv_bb, eqv_ib, eqv_bi, eqv_ss, eqv_ll, eqv_tt, eqv_nn, eqvs_nn, eqvs_cc, eqvs_r, flat_int, flat_bl, flat_non, flat_str, flat_lst, flat_tup, flats_nil, flats_cons, flats_ints, D.plain.eq_1, D.plain.eq_2, D.plain.eq_3, D.plain.eq_4, D.plain.eq_5, D.plain.eq_6, D.scal.eq_1, D.scal.eq_2, D.scal.eq_3, D.scal.eq_4, D.scal.eq_5, D.isNon.eq_1, D.isNon.eq_2, isiop, isTy, tyOk, b2i]
theorem cf_turn2 {C : CallF} {kc : Nat} {m : Bool} {qs : List Rl} {ss : List Int} {i : Nat} (hi : i < ss.length) (hq : qs.length ≤ 1000) (hC : ∀ bs, C kc [(.sh, .str (sMode m)), (.sh, .lst (bs.map .bl))] = .ok ([], .sh, .bl (comb m bs))) :
    compB C [5] (.var 5) .nil (.call kc (.cons (.sub (.var 0) (.cst (.int 0))) (.cons (.comp [4] (.cons (.var 4) (.val (.var 2)) .nil (.el (.sub (.var 4) (.var 5))))) .nil))) [some (.sh, condD m qs), some (.sh, sigD ss), some (.own, .lst (rowsD qs ss)), none, none, none] (.int (i : Int)) =
      .ok ([some (.sh, condD m qs), some (.sh, sigD ss), some (.own, .lst (rowsD qs ss)), none, none, some (.sh, .int (i : Int))], [.bl (comb m (qs.map fun q => (acts q false 0 ss).getD i false))]) := by
  have h1 := row_comp (C := C) (c := condD m qs) (s := sigD ss) hi hq
  have h2 := hC (qs.map fun q => (acts q false 0 ss).getD i false)
  generalize (i : Int) = I at *
  generalize (qs.map fun q => (acts q false 0 ss).getD i false) = bs at *
  have a0 : L2.atI [D.str (sMode m), D.tup (qs.map Rl.d)] 0 = some (.str (sMode m)) := rfl
  generalize hR : (E.comp [4] (.cons (.var 4) (.val (.var 2)) .nil (.el (.sub (.var 4) (.var 5))))) = R at *
  have p1 : R.pure = true := by rw [← hR]; rfl
  have p2 : R.isRef = false := by rw [← hR]; rfl
  rw [compB_ap]
  unfold condD at *
  simp [h1, h2, a0, p1, p2, kTup_ap, kLst_ap, kRes_ap, kBin2_ap, kBin_ap, kBl_ap, kNb_ap, kNot_ap, kAnd2_ap, kAnd_ap, kOr2_ap, kOr_ap, kIfe2_ap, kIfe_ap, kCmp2_ap, kCmp_ap, kCall4_ap, kCall3_ap, kCall2_ap, kCall_ap, kBlt_ap, kIsi_ap, kSh_ap, kSub2_ap, kSub_ap, kSlc3_ap, kSlc2_ap, kSlc_ap, kCons_ap, kEvs_ap, kEvP_ap, kConsF_ap, kEvPar_ap, kConsA_ap, kEvA_ap, kConsS_ap, kIfs2_ap, kIfs_ap, kEl_ap, kL_ap, kVal_ap, kEn_ap, kEnm_ap, kZ2_ap, kZ_ap, kTr_ap, kT0_ap, kT1_ap, kT2_ap, kComp_ap, kColl_ap, kQ_ap, kB_ap, kFor2_ap, kFor_ap, kNx_ap, kAsg_ap, kAsgT_ap, kPar2_ap, kPar_ap, kStp_ap, kApp_ap, kRet_ap, kIfS_ap, kEx_ap, kEnd_ap, ev_var, getV_ok, fl_sh, fl_own, fl_io, ev_cst, ev_gfn, ev_tup, ev_lst, ev_bin, negV_int, ev_neg, ev_not, ev_and, ev_or, ev_ife, ev_cmp, ev_call, ev_blt, ev_isi, ev_sub, ev_slc, intO_int, evO_no, evO_yes, AR.evs_nil, AR.evs_cons, evP_nil, evP_cons, evPar_nil, evPar_cons, evA_nil, evA_c, aO_no, E.isRef.eq_1, E.isRef.eq_2, res_nil, res_v, refs_nil, refs_vv, outs_nil, nodup_nil, evIfs_nil, evIfs_cons, evCl_el, ev_comp, evCl_one, evI_val, rngV_int, evI_rng1, evI_enm, evI_zip2, isMut_eq, any_nil, any_cons, mutO.eq_1, mutO.eq_2, mutO.eq_3, setO_ok, setV_o, isIo_no, isIo_sh, isIo_own, frz_nil, frz_cons, frzO_own, frzO_sh, frzO_no, plainF_ap, evF_eq, pureF_no, pureF_yes, evT_eq, pureT_no, pureT_yes, ice_nil, ice_cons, iceO_some, iceO_none, new_sh, new_fr, appO_own, fre_sh, fre_fr, pk_sh, pk_fr, pk_bo, pk_bi, out_sh, out_fr, out_bo, subO_ok, sub_tup, sub_lst, sub_scr, AR.exec_asgv, exec_asgt, exec_par, exec_app, exec_aug, augV_int, augO_int, exec_ret, exec_ret0, exec_ife, exec_ex, exec_pass, AR.execs_nil, AR.execs_cons, thenS_nx, thenS_rt, AR.exec_for, exec_whl, bind_var, bind_tup, binds_nil, binds_cons, stp_nil, stp_cons, E.esc, E.escP, E.escR, E.pure, Es.esc, Es.escP, Es.pure, pureO, escO, It.esc, It.escP, It.pure, Cl.esc, Cl.pureC, binop.eq_1, binop.eq_2, binop.eq_3, binop.eq_4, binop.eq_5, binop.eq_6, binop.eq_7, binop.eq_8, binop.eq_9, binop.eq_10, cmpop.eq_1, cmpop.eq_2, cmpop.eq_3, cmpop.eq_4, cmpop.eq_5, cmpop.eq_6, cmpop.eq_7, cmpop.eq_8, cmpop.eq_9, cmpop.eq_10, cmpop.eq_11, cmpop.eq_12, cmpop.eq_13, D.truth.eq_1, D.truth.eq_2, D.truth.eq_3, D.truth.eq_4, D.truth.eq_5, D.truth.eq_6, slcop.eq_1, slcop.eq_2, bltop.eq_1, bltop.eq_2, bltop.eq_3, bltop.eq_4, bltop.eq_5, bltop.eq_6, bltop.eq_7, bltop.eq_9, bltop.eq_10, bltop.eq_11, bltop.eq_12, bltop.eq_13, bltop.eq_14, bltop.eq_15, bltop.eq_16, bltop.eq_17, bltop.eq_18, bltop.eq_19, bltop.eq_20, bltop.eq_21, bltop.eq_22, seq?.eq_1, seq?.eq_2, itemsOf.eq_1, itemsOf.eq_2, itemsOf.eq_3, enmOf.eq_1, zip2Of.eq_1, zip2Of.eq_2, endC_nx, endC_rt, PySem.sizeLine, wipeE, keepO, eqv_ii, eqv_bb, eqv_ib, eqv_bi, eqv_ss, eqv_ll, eqv_tt, eqv_nn, eqvs_nn, eqvs_cc, eqvs_r, flat_int, flat_bl, flat_non, flat_str, flat_lst, flat_tup, flats_nil, flats_cons, flats_ints, D.plain.eq_1, D.plain.eq_2, D.plain.eq_3, D.plain.eq_4, D.plain.eq_5, D.plain.eq_6, D.scal.eq_1, D.scal.eq_2, D.scal.eq_3, D.scal.eq_4, D.scal.eq_5, D.isNon.eq_1, D.isNon.eq_2, isiop, isTy, tyOk, b2i]
def cfS (kc kr k : Nat) : S := match B_condition_flags kc kr with
  | .cons s0 (.cons s1 _) => [s0, s1].getD k .pass
  | _ => .pass
theorem cf_col1 {kr ks : Nat} (hr : tab kr = some ⟨2, [], 5, B_rule_activity ks⟩) (hs : tab ks = some ⟨3, [], 9, B_step⟩) (n : Nat) (c : D) (qs : List Rl) (ss : List Int) (hl : ss.length ≤ 100000) :
    collect [3] (compB (callN tab w (n+2)) [3] (.var 3) .nil (.call kr (.cons (.var 3) (.cons (.var 1) .nil)))) (qs.map Rl.d) [some (.sh, c), some (.sh, sigD ss), none, none, none, none] = .ok ([some (.sh, c), some (.sh, sigD ss), none, none, none, none], rowsD qs ss) := by
  have := collect_ix (own := [3]) (f := compB (callN tab w (n+2)) [3] (.var 3) .nil (.call kr (.cons (.var 3) (.cons (.var 1) .nil)))) (env := [some (.sh, c), some (.sh, sigD ss), none, none, none, none]) (ds := qs.map Rl.d) (out := qs.map fun q => [D.lst ((acts q false 0 ss).map .bl)]) (by simp) fun j d l h1 h2 => by
    simp only [List.getElem?_map, Option.map_eq_some_iff] at h1 h2
    obtain ⟨q, q1, q2⟩ := h1
    obtain ⟨q', q3, q4⟩ := h2
    rw [q1] at q3
    cases q3
    subst q2 q4
    exact ⟨_, cf_turn1 (activity_run hr hs n q ss (by omega)), rfl⟩
  rw [this, flat_single]
  rfl
theorem cf_col2 {C : CallF} {kc : Nat} {m : Bool} {qs : List Rl} {ss : List Int} (hq : qs.length ≤ 1000) (hC : ∀ bs, C kc [(.sh, .str (sMode m)), (.sh, .lst (bs.map .bl))] = .ok ([], .sh, .bl (comb m bs))) (N : Int) (hN : N = ss.length) :
    collect [5] (compB C [5] (.var 5) .nil (.call kc (.cons (.sub (.var 0) (.cst (.int 0))) (.cons (.comp [4] (.cons (.var 4) (.val (.var 2)) .nil (.el (.sub (.var 4) (.var 5))))) .nil)))) (rangeI 0 N) [some (.sh, condD m qs), some (.sh, sigD ss), some (.own, .lst (rowsD qs ss)), none, none, none] =
      .ok ([some (.sh, condD m qs), some (.sh, sigD ss), some (.own, .lst (rowsD qs ss)), none, none, none], (flagsL m qs ss).map .bl) := by
  have := collect_ix (own := [5]) (f := compB C [5] (.var 5) .nil (.call kc (.cons (.sub (.var 0) (.cst (.int 0))) (.cons (.comp [4] (.cons (.var 4) (.val (.var 2)) .nil (.el (.sub (.var 4) (.var 5))))) .nil)))) (env := [some (.sh, condD m qs), some (.sh, sigD ss), some (.own, .lst (rowsD qs ss)), none, none, none]) (ds := rangeI 0 N) (out := (List.range ss.length).map fun i => [D.bl (comb m (qs.map fun q => (acts q false 0 ss).getD i false))]) (by rw [rangeI_len, List.length_map, List.length_range]; omega) fun j d l h1 h2 => by
    obtain ⟨q1, q2⟩ := rangeI_get h1
    have q3 : d = .int (j : Int) := by rw [q1, Int.zero_add]
    have hj : j < ss.length := by omega
    subst q3
    rw [List.getElem?_map, List.getElem?_range hj] at h2
    cases h2
    exact ⟨_, cf_turn2 hj hq hC, rfl⟩
  rw [this, flat_single]
  unfold flagsL
  rw [List.map_map]
  rfl
theorem cf_s0 {C : CallF} {kc kr : Nat} {ms : List Nat} {qsD RW : List D} {s : D} (l1 : RW.length ≤ 16777216) (hcol : collect [3] (compB C [3] (.var 3) .nil (.call kr (.cons (.var 3) (.cons (.var 1) .nil)))) qsD [some (.sh, .tup [.str ms, .tup qsD]), some (.sh, s), none, none, none, none] = .ok ([some (.sh, .tup [.str ms, .tup qsD]), some (.sh, s), none, none, none, none], RW)) (rest : Ss) :
    execs C w (.cons (cfS kc kr 0) rest) [some (.sh, .tup [.str ms, .tup qsD]), some (.sh, s), none, none, none, none] = execs C w rest [some (.sh, .tup [.str ms, .tup qsD]), some (.sh, s), some (.own, .lst RW), none, none, none] := by
  have a1 : L2.atI [D.str ms, D.tup qsD] 1 = some (.tup qsD) := rfl
  simp only [cfS, B_condition_flags, List.getD_cons_zero]
  simp [hcol, a1, l1, kTup_ap, kLst_ap, kRes_ap, kBin2_ap, kBin_ap, kBl_ap, kNb_ap, kNot_ap, kAnd2_ap, kAnd_ap, kOr2_ap, kOr_ap, kIfe2_ap, kIfe_ap, kCmp2_ap, kCmp_ap, kCall4_ap, kCall3_ap, kCall2_ap, kCall_ap, kBlt_ap, kIsi_ap, kSh_ap, kSub2_ap, kSub_ap, kSlc3_ap, kSlc2_ap, kSlc_ap, kCons_ap, kEvs_ap, kEvP_ap, kConsF_ap, kEvPar_ap, kConsA_ap, kEvA_ap, kConsS_ap, kIfs2_ap, kIfs_ap, kEl_ap, kL_ap, kVal_ap, kEn_ap, kEnm_ap, kZ2_ap, kZ_ap, kTr_ap, kT0_ap, kT1_ap, kT2_ap, kComp_ap, kColl_ap, kQ_ap, kB_ap, kFor2_ap, kFor_ap, kNx_ap, kAsg_ap, kAsgT_ap, kPar2_ap, kPar_ap, kStp_ap, kApp_ap, kRet_ap, kIfS_ap, kEx_ap, kEnd_ap, ev_var, getV_ok, fl_sh, fl_own, fl_io, ev_cst, ev_gfn, ev_tup, ev_lst, ev_bin, negV_int, ev_neg, ev_not, ev_and, ev_or, ev_ife, ev_cmp, ev_call, ev_blt, ev_isi, ev_sub, ev_slc, intO_int, evO_no, evO_yes, AR.evs_nil, AR.evs_cons, evP_nil, evP_cons, evPar_nil, evPar_cons, evA_nil, evA_c, aO_no, E.isRef.eq_1, E.isRef.eq_2, res_nil, res_v, refs_nil, refs_vv, outs_nil, nodup_nil, evIfs_nil, evIfs_cons, evCl_el, ev_comp, evCl_one, evI_val, rngV_int, evI_rng1, evI_enm, evI_zip2, isMut_eq, any_nil, any_cons, mutO.eq_1, mutO.eq_2, mutO.eq_3, setO_ok, setV_o, isIo_no, isIo_sh, isIo_own, frz_nil, frz_cons, frzO_own, frzO_sh, frzO_no, plainF_ap, evF_eq, pureF_no, pureF_yes, evT_eq, pureT_no, pureT_yes, ice_nil, ice_cons, iceO_some, iceO_none, new_sh, new_fr, appO_own, fre_sh, fre_fr, pk_sh, pk_fr, pk_bo, pk_bi, out_sh, out_fr, out_bo, subO_ok, sub_tup, sub_lst, sub_scr, AR.exec_asgv, exec_asgt, exec_par, exec_app, exec_aug, augV_int, augO_int, exec_ret, exec_ret0, exec_ife, exec_ex, exec_pass, AR.execs_nil, AR.execs_cons, thenS_nx, thenS_rt, AR.exec_for, exec_whl, bind_var, bind_tup, binds_nil, binds_cons, stp_nil, stp_cons, E.esc, E.escP, E.escR, E.pure, Es.esc, Es.escP, Es.pure, pureO, escO, It.esc, It.escP, It.pure, Cl.esc, Cl.pureC, binop.eq_1, binop.eq_2, binop.eq_3, binop.eq_4, binop.eq_5, binop.eq_6, binop.eq_7, binop.eq_8, binop.eq_9, binop.eq_10, cmpop.eq_1, cmpop.eq_2, cmpop.eq_3, cmpop.eq_4, cmpop.eq_5, cmpop.eq_6, cmpop.eq_7, cmpop.eq_8, cmpop.eq_9, cmpop.eq_10, cmpop.eq_11, cmpop.eq_12, cmpop.eq_13, D.truth.eq_1, D.truth.eq_2, D.truth.eq_3, D.truth.eq_4, D.truth.eq_5, D.truth.eq_6, slcop.eq_1, slcop.eq_2, bltop.eq_1, bltop.eq_2, bltop.eq_3, bltop.eq_4, bltop.eq_5, bltop.eq_6, bltop.eq_7, bltop.eq_9, bltop.eq_10, bltop.eq_11, bltop.eq_12, bltop.eq_13, bltop.eq_14, bltop.eq_15, bltop.eq_16, bltop.eq_17, bltop.eq_18, bltop.eq_19, bltop.eq_20, bltop.eq_21, bltop.eq_22, seq?.eq_1, seq?.eq_2, itemsOf.eq_1, itemsOf.eq_2, itemsOf.eq_3, enmOf.eq_1, zip2Of.eq_1, zip2Of.eq_2, endC_nx, endC_rt, PySem.sizeLine, wipeE, keepO, eqv_ii, eqv_bb, eqv_ib, eqv_bi, eqv_ss, eqv_ll, eqv_tt, eqv_nn, eqvs_nn, eqvs_cc, eqvs_r, flat_int, flat_bl, flat_non, flat_str, flat_lst, flat_tup, flats_nil, flats_cons, flats_ints, D.plain.eq_1, D.plain.eq_2, D.plain.eq_3, D.plain.eq_4, D.plain.eq_5, D.plain.eq_6, D.scal.eq_1, D.scal.eq_2, D.scal.eq_3, D.scal.eq_4, D.scal.eq_5, D.isNon.eq_1, D.isNon.eq_2, isiop, isTy, tyOk, b2i]
theorem cf_s1 {C : CallF} {kc kr : Nat} {c s : D} {RW FL : List D} {N : Int} (hok : okB N = true) (hlen : bltop .len [s] = .ok (.sh, .int N)) (l2 : FL.length ≤ 16777216)
    (hcol2 : collect [5] (compB C [5] (.var 5) .nil (.call kc (.cons (.sub (.var 0) (.cst (.int 0))) (.cons (.comp [4] (.cons (.var 4) (.val (.var 2)) .nil (.el (.sub (.var 4) (.var 5))))) .nil)))) (rangeI 0 N) [some (.sh, c), some (.sh, s), some (.own, .lst RW), none, none, none] = .ok ([some (.sh, c), some (.sh, s), some (.own, .lst RW), none, none, none], FL)) :
    bnd (execs C w (.cons (cfS kc kr 1) .nil) [some (.sh, c), some (.sh, s), some (.own, .lst RW), none, none, none]) endC = .ok ([], .fr, .lst FL) := by
  simp only [cfS, B_condition_flags, List.getD_cons_zero, List.getD_cons_succ]
  simp [hcol2, hok, l2, hlen, kTup_ap, kLst_ap, kRes_ap, kBin2_ap, kBin_ap, kBl_ap, kNb_ap, kNot_ap, kAnd2_ap, kAnd_ap, kOr2_ap, kOr_ap, kIfe2_ap, kIfe_ap, kCmp2_ap, kCmp_ap, kCall4_ap, kCall3_ap, kCall2_ap, kCall_ap, kBlt_ap, kIsi_ap, kSh_ap, kSub2_ap, kSub_ap, kSlc3_ap, kSlc2_ap, kSlc_ap, kCons_ap, kEvs_ap, kEvP_ap, kConsF_ap, kEvPar_ap, kConsA_ap, kEvA_ap, kConsS_ap, kIfs2_ap, kIfs_ap, kEl_ap, kL_ap, kVal_ap, kEn_ap, kEnm_ap, kZ2_ap, kZ_ap, kTr_ap, kT0_ap, kT1_ap, kT2_ap, kComp_ap, kColl_ap, kQ_ap, kB_ap, kFor2_ap, kFor_ap, kNx_ap, kAsg_ap, kAsgT_ap, kPar2_ap, kPar_ap, kStp_ap, kApp_ap, kRet_ap, kIfS_ap, kEx_ap, kEnd_ap, ev_var, getV_ok, fl_sh, fl_own, fl_io, ev_cst, ev_gfn, ev_tup, ev_lst, ev_bin, negV_int, ev_neg, ev_not, ev_and, ev_or, ev_ife, ev_cmp, ev_call, ev_blt, ev_isi, ev_sub, ev_slc, intO_int, evO_no, evO_yes, AR.evs_nil, AR.evs_cons, evP_nil, evP_cons, evPar_nil, evPar_cons, evA_nil, evA_c, aO_no, E.isRef.eq_1, E.isRef.eq_2, res_nil, res_v, refs_nil, refs_vv, outs_nil, nodup_nil, evIfs_nil, evIfs_cons, evCl_el, ev_comp, evCl_one, evI_val, rngV_int, evI_rng1, evI_enm, evI_zip2, isMut_eq, any_nil, any_cons, mutO.eq_1, mutO.eq_2, mutO.eq_3, setO_ok, setV_o, isIo_no, isIo_sh, isIo_own, frz_nil, frz_cons, frzO_own, frzO_sh, frzO_no, plainF_ap, evF_eq, pureF_no, pureF_yes, evT_eq, pureT_no, pureT_yes, ice_nil, ice_cons, iceO_some, iceO_none, new_sh, new_fr, appO_own, fre_sh, fre_fr, pk_sh, pk_fr, pk_bo, pk_bi, out_sh, out_fr, out_bo, subO_ok, sub_tup, sub_lst, sub_scr, AR.exec_asgv, exec_asgt, exec_par, exec_app, exec_aug, augV_int, augO_int, exec_ret, exec_ret0, exec_ife, exec_ex, exec_pass, AR.execs_nil, AR.execs_cons, thenS_nx, thenS_rt, AR.exec_for, exec_whl, bind_var, bind_tup, binds_nil, binds_cons, stp_nil, stp_cons, E.esc, E.escP, E.escR, E.pure, Es.esc, Es.escP, Es.pure, pureO, escO, It.esc, It.escP, It.pure, Cl.esc, Cl.pureC, binop.eq_1, binop.eq_2, binop.eq_3, binop.eq_4, binop.eq_5, binop.eq_6, binop.eq_7, binop.eq_8, binop.eq_9, binop.eq_10, cmpop.eq_1, cmpop.eq_2, cmpop.eq_3, cmpop.eq_4, cmpop.eq_5, cmpop.eq_6, cmpop.eq_7, cmpop.eq_8, cmpop.eq_9, cmpop.eq_10, cmpop.eq_11, cmpop.eq_12, cmpop.eq_13, D.truth.eq_1, D.truth.eq_2, D.truth.eq_3, D.truth.eq_4, D.truth.eq_5, D.truth.eq_6, slcop.eq_1, slcop.eq_2, bltop.eq_1, bltop.eq_2, bltop.eq_3, bltop.eq_4, bltop.eq_5, bltop.eq_6, bltop.eq_7, bltop.eq_9, bltop.eq_10, bltop.eq_11, bltop.eq_12, bltop.eq_13, bltop.eq_14, bltop.eq_15, bltop.eq_16, bltop.eq_17, bltop.eq_18, bltop.eq_19, bltop.eq_20, bltop.eq_21, bltop.eq_22, seq?.eq_1, seq?.eq_2, itemsOf.eq_1, itemsOf.eq_2, itemsOf.eq_3, enmOf.eq_1, zip2Of.eq_1, zip2Of.eq_2, endC_nx, endC_rt, PySem.sizeLine, wipeE, keepO, eqv_ii, eqv_bb, eqv_ib, eqv_bi, eqv_ss, eqv_ll, eqv_tt, eqv_nn, eqvs_nn, eqvs_cc, eqvs_r, flat_int, flat_bl, flat_non, flat_str, flat_lst, flat_tup, flats_nil, flats_cons, flats_ints, D.plain.eq_1, D.plain.eq_2, D.plain.eq_3, D.plain.eq_4, D.plain.eq_5, D.plain.eq_6, D.scal.eq_1, D.scal.eq_2, D.scal.eq_3, D.scal.eq_4, D.scal.eq_5, D.isNon.eq_1, D.isNon.eq_2, isiop, isTy, tyOk, b2i]
theorem flags_run {k kc kr ks : Nat} (ht : tab k = some ⟨2, [], 6, B_condition_flags kc kr⟩) (hc : tab kc = some ⟨2, [], 2, B_combined⟩) (hr : tab kr = some ⟨2, [], 5, B_rule_activity ks⟩) (hs : tab ks = some ⟨3, [], 9, B_step⟩)
    (n : Nat) (m : Bool) (qs : List Rl) (ss : List Int) (hq : qs.length ≤ 1000) (hl : ss.length ≤ 100000) : callN tab w (n+3) k [(.sh, condD m qs), (.sh, sigD ss)] = .ok ([], .fr, .lst ((flagsL m qs ss).map .bl)) := by
  rw [callN_ev ht rfl rfl rfl]
  have hlen : bltop .len [sigD ss] = .ok (.sh, .int (ss.length : Int)) := by unfold sigD; rw [bltop.eq_2, List.length_map]
  have l1 : (rowsD qs ss).length ≤ 16777216 := by unfold rowsD; rw [List.length_map]; omega
  have l2 : ((flagsL m qs ss).map D.bl).length ≤ 16777216 := by unfold flagsL; rw [List.length_map, List.length_map, List.length_range]; omega
  have c1 := cf_col1 (w := w) hr hs n (condD m qs) qs ss hl
  have c2 := cf_col2 (C := callN tab w (n+2)) (kc := kc) (ss := ss) hq (combined_run hc (n+1) m) _ rfl
  show bnd (execs _ _ (.cons (cfS kc kr 0) (.cons (cfS kc kr 1) .nil)) [some (.sh, condD m qs), some (.sh, sigD ss), none, none, none, none]) endC = _
  unfold condD at c1 c2 ⊢
  rw [cf_s0 l1 c1]
  exact cf_s1 (okB_by (Int.natCast_nonneg _) (int_le hl)) hlen l2 c2
end LW

namespace LW
open AR
variable {w : Nat} {tab : Nat → Option Fn}
/-- the places of true -/
def idxT : Nat → List Bool → List Int
  | _, [] => []
  | n, b :: bs => (if b = true then [(n : Int)] else []) ++ idxT (n + 1) bs
theorem idxT_len : ∀ (bs : List Bool) (n : Nat), (idxT n bs).length ≤ bs.length
  | [], _ => Nat.le_refl _
  | b :: bs, n => by
    have := idxT_len bs (n + 1)
    rw [idxT, List.length_append, List.length_cons]
    cases b <;> simp <;> omega
theorem act_t {C : CallF} {c s : D} (i : Int) (b : Bool) : ∃ e', compB C [2, 3] (.tup [.var 2, .var 3]) (.cons (.var 3) .nil) (.var 2) [some (.sh, c), some (.sh, s), none, none] (.tup [.int i, .bl b]) = .ok (e', if b = true then [.int i] else []) ∧ keepO [2, 3] [some (.sh, c), some (.sh, s), none, none] e' = [some (.sh, c), some (.sh, s), none, none] := by
  rw [compB_ap]
  cases b
  · exact ⟨[some (.sh, c), some (.sh, s), some (.sh, .int i), some (.sh, .bl false)], by simp [kTup_ap, kLst_ap, kRes_ap, kBin2_ap, kBin_ap, kBl_ap, kNb_ap, kNot_ap, kAnd2_ap, kAnd_ap, kOr2_ap, kOr_ap, kIfe2_ap, kIfe_ap, kCmp2_ap, kCmp_ap, kCall4_ap, kCall3_ap, kCall2_ap, kCall_ap, kBlt_ap, kIsi_ap, kSh_ap, kSub2_ap, kSub_ap, kSlc3_ap, kSlc2_ap, kSlc_ap, kCons_ap, kEvs_ap, kEvP_ap, kConsF_ap, kEvPar_ap, kConsA_ap, kEvA_ap, kConsS_ap, kIfs2_ap, kIfs_ap, kEl_ap, kL_ap, kVal_ap, kEn_ap, kEnm_ap, kZ2_ap, kZ_ap, kTr_ap, kT0_ap, kT1_ap, kT2_ap, kComp_ap, kColl_ap, kQ_ap, kB_ap, kFor2_ap, kFor_ap, kNx_ap, kAsg_ap, kAsgT_ap, kPar2_ap, kPar_ap, kStp_ap, kApp_ap, kRet_ap, kIfS_ap, kEx_ap, kEnd_ap, ev_var, getV_ok, fl_sh, fl_own, fl_io, ev_cst, ev_gfn, ev_tup, ev_lst, ev_bin, negV_int, ev_neg, ev_not, ev_and, ev_or, ev_ife, ev_cmp, ev_call, ev_blt, ev_isi, ev_sub, ev_slc, intO_int, evO_no, evO_yes, AR.evs_nil, AR.evs_cons, evP_nil, evP_cons, evPar_nil, evPar_cons, evA_nil, evA_c, aO_no, E.isRef.eq_1, E.isRef.eq_2, res_nil, res_v, refs_nil, refs_vv, outs_nil, nodup_nil, evIfs_nil, evIfs_cons, evCl_el, ev_comp, evCl_one, evI_val, rngV_int, evI_rng1, evI_enm, evI_zip2, isMut_eq, any_nil, any_cons, mutO.eq_1, mutO.eq_2, mutO.eq_3, setO_ok, setV_o, isIo_no, isIo_sh, isIo_own, frz_nil, frz_cons, frzO_own, frzO_sh, frzO_no, plainF_ap, evF_eq, pureF_no, pureF_yes, evT_eq, pureT_no, pureT_yes, ice_nil, ice_cons, iceO_some, iceO_none, new_sh, new_fr, appO_own, fre_sh, fre_fr, pk_sh, pk_fr, pk_bo, pk_bi, out_sh, out_fr, out_bo, subO_ok, sub_tup, sub_lst, sub_scr, AR.exec_asgv, exec_asgt, exec_par, exec_app, exec_aug, augV_int, augO_int, exec_ret, exec_ret0, exec_ife, exec_ex, exec_pass, AR.execs_nil, AR.execs_cons, thenS_nx, thenS_rt, AR.exec_for, exec_whl, bind_var, bind_tup, binds_nil, binds_cons, stp_nil, stp_cons, E.esc, E.escP, E.escR, E.pure, Es.esc, Es.escP, Es.pure, pureO, escO, It.esc, It.escP, It.pure, Cl.esc, Cl.pureC, binop.eq_1, binop.eq_2, binop.eq_3, binop.eq_4, binop.eq_5, binop.eq_6, binop.eq_7, binop.eq_8, binop.eq_9, binop.eq_10, cmpop.eq_1, cmpop.eq_2, cmpop.eq_3, cmpop.eq_4, cmpop.eq_5, cmpop.eq_6, cmpop.eq_7, cmpop.eq_8, cmpop.eq_9, cmpop.eq_10, cmpop.eq_11, cmpop.eq_12, cmpop.eq_13, D.truth.eq_1, D.truth.eq_2, D.truth.eq_3, D.truth.eq_4, D.truth.eq_5, D.truth.eq_6, slcop.eq_1, slcop.eq_2, bltop.eq_1, bltop.eq_2, bltop.eq_3, bltop.eq_4, bltop.eq_5, bltop.eq_6, bltop.eq_7, bltop.eq_9, bltop.eq_10, bltop.eq_11, bltop.eq_12, bltop.eq_13, bltop.eq_14, bltop.eq_15, bltop.eq_16, bltop.eq_17, bltop.eq_18, bltop.eq_19, bltop.eq_20, bltop.eq_21, bltop.eq_22, seq?.eq_1, seq?.eq_2, itemsOf.eq_1, itemsOf.eq_2, itemsOf.eq_3, enmOf.eq_1, zip2Of.eq_1, zip2Of.eq_2, endC_nx, endC_rt, PySem.sizeLine, wipeE, keepO, eqv_ii, eqv_bb, eqv_ib, eqv_bi, eqv_ss, eqv_ll, eqv_tt, eqv_nn, eqvs_nn, eqvs_cc, eqvs_r, flat_int, flat_bl, flat_non, flat_str, flat_lst, flat_tup, flats_nil, flats_cons, flats_ints, D.plain.eq_1, D.plain.eq_2, D.plain.eq_3, D.plain.eq_4, D.plain.eq_5, D.plain.eq_6, D.scal.eq_1, D.scal.eq_2, D.scal.eq_3, D.scal.eq_4, D.scal.eq_5, D.isNon.eq_1, D.isNon.eq_2, isiop, isTy, tyOk, b2i], rfl⟩
  · exact ⟨[some (.sh, c), some (.sh, s), some (.sh, .int i), some (.sh, .bl true)], by simp [kTup_ap, kLst_ap, kRes_ap, kBin2_ap, kBin_ap, kBl_ap, kNb_ap, kNot_ap, kAnd2_ap, kAnd_ap, kOr2_ap, kOr_ap, kIfe2_ap, kIfe_ap, kCmp2_ap, kCmp_ap, kCall4_ap, kCall3_ap, kCall2_ap, kCall_ap, kBlt_ap, kIsi_ap, kSh_ap, kSub2_ap, kSub_ap, kSlc3_ap, kSlc2_ap, kSlc_ap, kCons_ap, kEvs_ap, kEvP_ap, kConsF_ap, kEvPar_ap, kConsA_ap, kEvA_ap, kConsS_ap, kIfs2_ap, kIfs_ap, kEl_ap, kL_ap, kVal_ap, kEn_ap, kEnm_ap, kZ2_ap, kZ_ap, kTr_ap, kT0_ap, kT1_ap, kT2_ap, kComp_ap, kColl_ap, kQ_ap, kB_ap, kFor2_ap, kFor_ap, kNx_ap, kAsg_ap, kAsgT_ap, kPar2_ap, kPar_ap, kStp_ap, kApp_ap, kRet_ap, kIfS_ap, kEx_ap, kEnd_ap, ev_var, getV_ok, fl_sh, fl_own, fl_io, ev_cst, ev_gfn, ev_tup, ev_lst, ev_bin, negV_int, ev_neg, ev_not, ev_and, ev_or, ev_ife, ev_cmp, ev_call, ev_blt, ev_isi, ev_sub, ev_slc, intO_int, evO_no, evO_yes, AR.evs_nil, AR.evs_cons, evP_nil, evP_cons, evPar_nil, evPar_cons, evA_nil, evA_c, aO_no, E.isRef.eq_1, E.isRef.eq_2, res_nil, res_v, refs_nil, refs_vv, outs_nil, nodup_nil, evIfs_nil, evIfs_cons, evCl_el, ev_comp, evCl_one, evI_val, rngV_int, evI_rng1, evI_enm, evI_zip2, isMut_eq, any_nil, any_cons, mutO.eq_1, mutO.eq_2, mutO.eq_3, setO_ok, setV_o, isIo_no, isIo_sh, isIo_own, frz_nil, frz_cons, frzO_own, frzO_sh, frzO_no, plainF_ap, evF_eq, pureF_no, pureF_yes, evT_eq, pureT_no, pureT_yes, ice_nil, ice_cons, iceO_some, iceO_none, new_sh, new_fr, appO_own, fre_sh, fre_fr, pk_sh, pk_fr, pk_bo, pk_bi, out_sh, out_fr, out_bo, subO_ok, sub_tup, sub_lst, sub_scr, AR.exec_asgv, exec_asgt, exec_par, exec_app, exec_aug, augV_int, augO_int, exec_ret, exec_ret0, exec_ife, exec_ex, exec_pass, AR.execs_nil, AR.execs_cons, thenS_nx, thenS_rt, AR.exec_for, exec_whl, bind_var, bind_tup, binds_nil, binds_cons, stp_nil, stp_cons, E.esc, E.escP, E.escR, E.pure, Es.esc, Es.escP, Es.pure, pureO, escO, It.esc, It.escP, It.pure, Cl.esc, Cl.pureC, binop.eq_1, binop.eq_2, binop.eq_3, binop.eq_4, binop.eq_5, binop.eq_6, binop.eq_7, binop.eq_8, binop.eq_9, binop.eq_10, cmpop.eq_1, cmpop.eq_2, cmpop.eq_3, cmpop.eq_4, cmpop.eq_5, cmpop.eq_6, cmpop.eq_7, cmpop.eq_8, cmpop.eq_9, cmpop.eq_10, cmpop.eq_11, cmpop.eq_12, cmpop.eq_13, D.truth.eq_1, D.truth.eq_2, D.truth.eq_3, D.truth.eq_4, D.truth.eq_5, D.truth.eq_6, slcop.eq_1, slcop.eq_2, bltop.eq_1, bltop.eq_2, bltop.eq_3, bltop.eq_4, bltop.eq_5, bltop.eq_6, bltop.eq_7, bltop.eq_9, bltop.eq_10, bltop.eq_11, bltop.eq_12, bltop.eq_13, bltop.eq_14, bltop.eq_15, bltop.eq_16, bltop.eq_17, bltop.eq_18, bltop.eq_19, bltop.eq_20, bltop.eq_21, bltop.eq_22, seq?.eq_1, seq?.eq_2, itemsOf.eq_1, itemsOf.eq_2, itemsOf.eq_3, enmOf.eq_1, zip2Of.eq_1, zip2Of.eq_2, endC_nx, endC_rt, PySem.sizeLine, wipeE, keepO, eqv_ii, eqv_bb, eqv_ib, eqv_bi, eqv_ss, eqv_ll, eqv_tt, eqv_nn, eqvs_nn, eqvs_cc, eqvs_r, flat_int, flat_bl, flat_non, flat_str, flat_lst, flat_tup, flats_nil, flats_cons, flats_ints, D.plain.eq_1, D.plain.eq_2, D.plain.eq_3, D.plain.eq_4, D.plain.eq_5, D.plain.eq_6, D.scal.eq_1, D.scal.eq_2, D.scal.eq_3, D.scal.eq_4, D.scal.eq_5, D.isNon.eq_1, D.isNon.eq_2, isiop, isTy, tyOk, b2i], rfl⟩
theorem act_col {C : CallF} {c s : D} : ∀ (bs : List Bool) (n : Nat), collect [2, 3] (compB C [2, 3] (.tup [.var 2, .var 3]) (.cons (.var 3) .nil) (.var 2)) (enumD n (bs.map .bl)) [some (.sh, c), some (.sh, s), none, none] = .ok ([some (.sh, c), some (.sh, s), none, none], (idxT n bs).map .int)
  | [], _ => rfl
  | b :: bs, n => by
    obtain ⟨e', h1, h2⟩ := act_t (C := C) (c := c) (s := s) n b
    rw [List.map_cons, enumD, collect, h1, bnd_yes]
    show bnd (collect _ _ _ (keepO [2, 3] _ e')) _ = _
    rw [h2, act_col bs (n + 1), bnd_yes, idxT, List.map_append]
    cases b <;> rfl
theorem act_s {C : CallF} {kf : Nat} {c s : D} {bs idx : List D} (hC : C kf [(.sh, c), (.sh, s)] = .ok ([], .fr, .lst bs)) (hl : idx.length ≤ 16777216)
    (hcol : collect [2, 3] (compB C [2, 3] (.tup [.var 2, .var 3]) (.cons (.var 3) .nil) (.var 2)) (enumD 0 bs) [some (.sh, c), some (.sh, s), none, none] = .ok ([some (.sh, c), some (.sh, s), none, none], idx)) :
    bnd (execs C w (B_active kf) [some (.sh, c), some (.sh, s), none, none]) endC = .ok ([], .sh, .tup idx) := by
  simp only [B_active]
  simp [hC, hcol, hl, kTup_ap, kLst_ap, kRes_ap, kBin2_ap, kBin_ap, kBl_ap, kNb_ap, kNot_ap, kAnd2_ap, kAnd_ap, kOr2_ap, kOr_ap, kIfe2_ap, kIfe_ap, kCmp2_ap, kCmp_ap, kCall4_ap, kCall3_ap, kCall2_ap, kCall_ap, kBlt_ap, kIsi_ap, kSh_ap, kSub2_ap, kSub_ap, kSlc3_ap, kSlc2_ap, kSlc_ap, kCons_ap, kEvs_ap, kEvP_ap, kConsF_ap, kEvPar_ap, kConsA_ap, kEvA_ap, kConsS_ap, kIfs2_ap, kIfs_ap, kEl_ap, kL_ap, kVal_ap, kEn_ap, kEnm_ap, kZ2_ap, kZ_ap, kTr_ap, kT0_ap, kT1_ap, kT2_ap, kComp_ap, kColl_ap, kQ_ap, kB_ap, kFor2_ap, kFor_ap, kNx_ap, kAsg_ap, kAsgT_ap, kPar2_ap, kPar_ap, kStp_ap, kApp_ap, kRet_ap, kIfS_ap, kEx_ap, kEnd_ap, ev_var, getV_ok, fl_sh, fl_own, fl_io, ev_cst, ev_gfn, ev_tup, ev_lst, ev_bin, negV_int, ev_neg, ev_not, ev_and, ev_or, ev_ife, ev_cmp, ev_call, ev_blt, ev_isi, ev_sub, ev_slc, intO_int, evO_no, evO_yes, AR.evs_nil, AR.evs_cons, evP_nil, evP_cons, evPar_nil, evPar_cons, evA_nil, evA_c, aO_no, E.isRef.eq_1, E.isRef.eq_2, res_nil, res_v, refs_nil, refs_vv, outs_nil, nodup_nil, evIfs_nil, evIfs_cons, evCl_el, ev_comp, evCl_one, evI_val, rngV_int, evI_rng1, evI_enm, evI_zip2, isMut_eq, any_nil, any_cons, mutO.eq_1, mutO.eq_2, mutO.eq_3, setO_ok, setV_o, isIo_no, isIo_sh, isIo_own, frz_nil, frz_cons, frzO_own, frzO_sh, frzO_no, plainF_ap, evF_eq, pureF_no, pureF_yes, evT_eq, pureT_no, pureT_yes, ice_nil, ice_cons, iceO_some, iceO_none, new_sh, new_fr, appO_own, fre_sh, fre_fr, pk_sh, pk_fr, pk_bo, pk_bi, out_sh, out_fr, out_bo, subO_ok, sub_tup, sub_lst, sub_scr, AR.exec_asgv, exec_asgt, exec_par, exec_app, exec_aug, augV_int, augO_int, exec_ret, exec_ret0, exec_ife, exec_ex, exec_pass, AR.execs_nil, AR.execs_cons, thenS_nx, thenS_rt, AR.exec_for, exec_whl, bind_var, bind_tup, binds_nil, binds_cons, stp_nil, stp_cons, E.esc, E.escP, E.escR, E.pure, Es.esc, Es.escP, Es.pure, pureO, escO, It.esc, It.escP, It.pure, Cl.esc, Cl.pureC, binop.eq_1, binop.eq_2, binop.eq_3, binop.eq_4, binop.eq_5, binop.eq_6, binop.eq_7, binop.eq_8, binop.eq_9, binop.eq_10, cmpop.eq_1, cmpop.eq_2, cmpop.eq_3, cmpop.eq_4, cmpop.eq_5, cmpop.eq_6, cmpop.eq_7, cmpop.eq_8, cmpop.eq_9, cmpop.eq_10, cmpop.eq_11, cmpop.eq_12, cmpop.eq_13, D.truth.eq_1, D.truth.eq_2, D.truth.eq_3, D.truth.eq_4, D.truth.eq_5, D.truth.eq_6, slcop.eq_1, slcop.eq_2, bltop.eq_1, bltop.eq_2, bltop.eq_3, bltop.eq_4, bltop.eq_5, bltop.eq_6, bltop.eq_7, bltop.eq_9, bltop.eq_10, bltop.eq_11, bltop.eq_12, bltop.eq_13, bltop.eq_14, bltop.eq_15, bltop.eq_16, bltop.eq_17, bltop.eq_18, bltop.eq_19, bltop.eq_20, bltop.eq_21, bltop.eq_22, seq?.eq_1, seq?.eq_2, itemsOf.eq_1, itemsOf.eq_2, itemsOf.eq_3, enmOf.eq_1, zip2Of.eq_1, zip2Of.eq_2, endC_nx, endC_rt, PySem.sizeLine, wipeE, keepO, eqv_ii, eqv_bb, eqv_ib, eqv_bi, eqv_ss, eqv_ll, eqv_tt, eqv_nn, eqvs_nn, eqvs_cc, eqvs_r, flat_int, flat_bl, flat_non, flat_str, flat_lst, flat_tup, flats_nil, flats_cons, flats_ints, D.plain.eq_1, D.plain.eq_2, D.plain.eq_3, D.plain.eq_4, D.plain.eq_5, D.plain.eq_6, D.scal.eq_1, D.scal.eq_2, D.scal.eq_3, D.scal.eq_4, D.scal.eq_5, D.isNon.eq_1, D.isNon.eq_2, isiop, isTy, tyOk, b2i]
theorem active_run {k kf kc kr ks : Nat} (ha : tab k = some ⟨2, [], 4, B_active kf⟩) (ht : tab kf = some ⟨2, [], 6, B_condition_flags kc kr⟩) (hc : tab kc = some ⟨2, [], 2, B_combined⟩) (hr : tab kr = some ⟨2, [], 5, B_rule_activity ks⟩) (hs : tab ks = some ⟨3, [], 9, B_step⟩)
    (n : Nat) (m : Bool) (qs : List Rl) (ss : List Int) (hq : qs.length ≤ 1000) (hl : ss.length ≤ 100000) : callN tab w (n+4) k [(.sh, condD m qs), (.sh, sigD ss)] = .ok ([], .sh, .tup ((idxT 0 (flagsL m qs ss)).map .int)) := by
  rw [callN_ev ha rfl rfl rfl]
  have hf := flags_run (w := w) ht hc hr hs n m qs ss hq hl
  have hl2 : ((idxT 0 (flagsL m qs ss)).map D.int).length ≤ 16777216 := by
    have h1 := idxT_len (flagsL m qs ss) 0
    have h2 : (flagsL m qs ss).length = ss.length := by unfold flagsL; rw [List.length_map, List.length_range]
    rw [List.length_map]; omega
  exact act_s hf hl2 (act_col _ 0)
end LW

namespace LW
open AR
variable {w : Nat} {tab : Nat → Option Fn}
abbrev Sl1 := Option (Sl × D)
def sgS (k : Nat) : S := match B_law_signal with
  | .cons s0 (.cons s1 (.cons s2 (.cons s3 (.cons s4 (.cons s5 _))))) => [s0, s1, s2, s3, s4, s5].getD k .pass
  | _ => .pass
def sgB1 : Ss := match sgS 1 with
  | .forS _ _ b => b
  | _ => .nil
def sgB2 : Ss := match sgB1 with
  | .cons (.forS _ _ b) _ => b
  | _ => .nil
def sgB3 : Ss := match sgS 4 with
  | .forS _ _ b => b
  | _ => .nil
section
variable {C : CallF} {dd rd sd : D} {lv : List D} {x4 x5 x6 x7 x8 x9 : Sl1}
/-- one level more -/
theorem sg_lev (h5 : isIo x5 = false) (hl : lv.length ≤ 10000) (v : Int) : forB C w (.var 5) sgB2 [some (.sh, dd), some (.sh, rd), some (.sh, sd), some (.own, .lst lv), x4, x5, x6, x7, x8, x9] (.int v) =
    .ok (.nx [some (.sh, dd), some (.sh, rd), some (.sh, sd), some (.own, .lst (lv ++ [.int (v - 1), .int v, .int (v + 1)])), x4, some (.sh, .int v), x6, x7, x8, x9]) := by
  have h : (lv.length + 3 ≤ 16777216) = True := by simp; omega
  rw [forB_ap]
  simp only [sgB2, sgB1, sgS, B_law_signal, List.getD_cons_zero, List.getD_cons_succ]
  simp [h5, h, kTup_ap, kLst_ap, kRes_ap, kBin2_ap, kBin_ap, kBl_ap, kNb_ap, kNot_ap, kAnd2_ap, kAnd_ap, kOr2_ap, kOr_ap, kIfe2_ap, kIfe_ap, kCmp2_ap, kCmp_ap, kCall4_ap, kCall3_ap, kCall2_ap, kCall_ap, kBlt_ap, kIsi_ap, kSh_ap, kSub2_ap, kSub_ap, kSlc3_ap, kSlc2_ap, kSlc_ap, kCons_ap, kEvs_ap, kEvP_ap, kConsF_ap, kEvPar_ap, kConsA_ap, kEvA_ap, kConsS_ap, kIfs2_ap, kIfs_ap, kEl_ap, kL_ap, kVal_ap, kEn_ap, kEnm_ap, kZ2_ap, kZ_ap, kTr_ap, kT0_ap, kT1_ap, kT2_ap, kComp_ap, kColl_ap, kQ_ap, kB_ap, kFor2_ap, kFor_ap, kNx_ap, kAsg_ap, kAsgT_ap, kPar2_ap, kPar_ap, kStp_ap, kApp_ap, kRet_ap, kIfS_ap, kEx_ap, kEnd_ap, ev_var, getV_ok, fl_sh, fl_own, fl_io, ev_cst, ev_gfn, ev_tup, ev_lst, ev_bin, negV_int, ev_neg, ev_not, ev_and, ev_or, ev_ife, ev_cmp, ev_call, ev_blt, ev_isi, ev_sub, ev_slc, intO_int, evO_no, evO_yes, AR.evs_nil, AR.evs_cons, evP_nil, evP_cons, evPar_nil, evPar_cons, evA_nil, evA_c, aO_no, E.isRef.eq_1, E.isRef.eq_2, res_nil, res_v, refs_nil, refs_vv, outs_nil, nodup_nil, evIfs_nil, evIfs_cons, evCl_el, ev_comp, evCl_one, evI_val, rngV_int, evI_rng1, evI_enm, evI_zip2, isMut_eq, any_nil, any_cons, mutO.eq_1, mutO.eq_2, mutO.eq_3, setO_ok, setV_o, isIo_no, isIo_sh, isIo_own, frz_nil, frz_cons, frzO_own, frzO_sh, frzO_no, plainF_ap, evF_eq, pureF_no, pureF_yes, evT_eq, pureT_no, pureT_yes, ice_nil, ice_cons, iceO_some, iceO_none, new_sh, new_fr, appO_own, fre_sh, fre_fr, pk_sh, pk_fr, pk_bo, pk_bi, out_sh, out_fr, out_bo, subO_ok, sub_tup, sub_lst, sub_scr, AR.exec_asgv, exec_asgt, exec_par, exec_app, exec_aug, augV_int, augO_int, exec_ret, exec_ret0, exec_ife, exec_ex, exec_pass, AR.execs_nil, AR.execs_cons, thenS_nx, thenS_rt, AR.exec_for, exec_whl, bind_var, bind_tup, binds_nil, binds_cons, stp_nil, stp_cons, E.esc, E.escP, E.escR, E.pure, Es.esc, Es.escP, Es.pure, pureO, escO, It.esc, It.escP, It.pure, Cl.esc, Cl.pureC, binop.eq_1, binop.eq_2, binop.eq_3, binop.eq_4, binop.eq_5, binop.eq_6, binop.eq_7, binop.eq_8, binop.eq_9, binop.eq_10, cmpop.eq_1, cmpop.eq_2, cmpop.eq_3, cmpop.eq_4, cmpop.eq_5, cmpop.eq_6, cmpop.eq_7, cmpop.eq_8, cmpop.eq_9, cmpop.eq_10, cmpop.eq_11, cmpop.eq_12, cmpop.eq_13, D.truth.eq_1, D.truth.eq_2, D.truth.eq_3, D.truth.eq_4, D.truth.eq_5, D.truth.eq_6, slcop.eq_1, slcop.eq_2, bltop.eq_1, bltop.eq_2, bltop.eq_3, bltop.eq_4, bltop.eq_5, bltop.eq_6, bltop.eq_7, bltop.eq_9, bltop.eq_10, bltop.eq_11, bltop.eq_12, bltop.eq_13, bltop.eq_14, bltop.eq_15, bltop.eq_16, bltop.eq_17, bltop.eq_18, bltop.eq_19, bltop.eq_20, bltop.eq_21, bltop.eq_22, seq?.eq_1, seq?.eq_2, itemsOf.eq_1, itemsOf.eq_2, itemsOf.eq_3, enmOf.eq_1, zip2Of.eq_1, zip2Of.eq_2, endC_nx, endC_rt, PySem.sizeLine, wipeE, keepO, eqv_ii, eqv_bb, eqv_ib, eqv_bi, eqv_ss, eqv_ll, eqv_tt, eqv_nn, eqvs_nn, eqvs_cc, eqvs_r, flat_int, flat_bl, flat_non, flat_str, flat_lst, flat_tup, flats_nil, flats_cons, flats_ints, D.plain.eq_1, D.plain.eq_2, D.plain.eq_3, D.plain.eq_4, D.plain.eq_5, D.plain.eq_6, D.scal.eq_1, D.scal.eq_2, D.scal.eq_3, D.scal.eq_4, D.scal.eq_5, D.isNon.eq_1, D.isNon.eq_2, isiop, isTy, tyOk, b2i]
theorem sg_rule (h4 : isIo x4 = false) (h5 : isIo x5 = false) (hl : lv.length ≤ 9000) (q : Rl) : forB C w (.var 4) sgB1 [some (.sh, dd), some (.sh, rd), some (.sh, sd), some (.own, .lst lv), x4, x5, x6, x7, x8, x9] q.d =
    .ok (.nx [some (.sh, dd), some (.sh, rd), some (.sh, sd), some (.own, .lst (lv ++ [.int (q.h - 1), .int q.h, .int (q.h + 1)] ++ [.int (q.l - 1), .int q.l, .int (q.l + 1)])), some (.sh, q.d), some (.sh, .int q.l), x6, x7, x8, x9]) := by
  obtain ⟨h, r, l, f⟩ := q
  have a0 : ∀ a b c d : Int, L2.atI [D.int a, D.int b, D.int c, D.int d] 0 = some (.int a) := fun _ _ _ _ => rfl
  have a2 : ∀ a b c d : Int, L2.atI [D.int a, D.int b, D.int c, D.int d] 2 = some (.int c) := fun _ _ _ _ => rfl
  have hB : sgB1 = .cons (.forS (.var 5) (.val (.tup (.cons (.sub (.var 4) (.cst (.int 0))) (.cons (.sub (.var 4) (.cst (.int 2))) .nil)))) sgB2) .nil := rfl
  have hloop : forL (forB C w (.var 5) sgB2) [.int h, .int l] [some (.sh, dd), some (.sh, rd), some (.sh, sd), some (.own, .lst lv), some (.sh, .tup [.int h, .int r, .int l, .int f]), x5, x6, x7, x8, x9] =
      .ok (.nx [some (.sh, dd), some (.sh, rd), some (.sh, sd), some (.own, .lst (lv ++ [.int (h - 1), .int h, .int (h + 1)] ++ [.int (l - 1), .int l, .int (l + 1)])), some (.sh, .tup [.int h, .int r, .int l, .int f]), some (.sh, .int l), x6, x7, x8, x9]) := by
    rw [forL, sg_lev h5 (by omega), bnd_yes]
    show forL _ [.int l] _ = _
    rw [forL, sg_lev rfl (by simp; omega), bnd_yes]
    rfl
  rw [forB_ap, hB]
  generalize (lv ++ [D.int (h - 1), D.int h, D.int (h + 1)] ++ [D.int (l - 1), D.int l, D.int (l + 1)]) = lv2 at *
  generalize sgB2 = bb at *
  simp [h4, a0, a2, Rl.d, hloop, kTup_ap, kLst_ap, kRes_ap, kBin2_ap, kBin_ap, kBl_ap, kNb_ap, kNot_ap, kAnd2_ap, kAnd_ap, kOr2_ap, kOr_ap, kIfe2_ap, kIfe_ap, kCmp2_ap, kCmp_ap, kCall4_ap, kCall3_ap, kCall2_ap, kCall_ap, kBlt_ap, kIsi_ap, kSh_ap, kSub2_ap, kSub_ap, kSlc3_ap, kSlc2_ap, kSlc_ap, kCons_ap, kEvs_ap, kEvP_ap, kConsF_ap, kEvPar_ap, kConsA_ap, kEvA_ap, kConsS_ap, kIfs2_ap, kIfs_ap, kEl_ap, kL_ap, kVal_ap, kEn_ap, kEnm_ap, kZ2_ap, kZ_ap, kTr_ap, kT0_ap, kT1_ap, kT2_ap, kComp_ap, kColl_ap, kQ_ap, kB_ap, kFor2_ap, kFor_ap, kNx_ap, kAsg_ap, kAsgT_ap, kPar2_ap, kPar_ap, kStp_ap, kApp_ap, kRet_ap, kIfS_ap, kEx_ap, kEnd_ap, ev_var, getV_ok, fl_sh, fl_own, fl_io, ev_cst, ev_gfn, ev_tup, ev_lst, ev_bin, negV_int, ev_neg, ev_not, ev_and, ev_or, ev_ife, ev_cmp, ev_call, ev_blt, ev_isi, ev_sub, ev_slc, intO_int, evO_no, evO_yes, AR.evs_nil, AR.evs_cons, evP_nil, evP_cons, evPar_nil, evPar_cons, evA_nil, evA_c, aO_no, E.isRef.eq_1, E.isRef.eq_2, res_nil, res_v, refs_nil, refs_vv, outs_nil, nodup_nil, evIfs_nil, evIfs_cons, evCl_el, ev_comp, evCl_one, evI_val, rngV_int, evI_rng1, evI_enm, evI_zip2, isMut_eq, any_nil, any_cons, mutO.eq_1, mutO.eq_2, mutO.eq_3, setO_ok, setV_o, isIo_no, isIo_sh, isIo_own, frz_nil, frz_cons, frzO_own, frzO_sh, frzO_no, plainF_ap, evF_eq, pureF_no, pureF_yes, evT_eq, pureT_no, pureT_yes, ice_nil, ice_cons, iceO_some, iceO_none, new_sh, new_fr, appO_own, fre_sh, fre_fr, pk_sh, pk_fr, pk_bo, pk_bi, out_sh, out_fr, out_bo, subO_ok, sub_tup, sub_lst, sub_scr, AR.exec_asgv, exec_asgt, exec_par, exec_app, exec_aug, augV_int, augO_int, exec_ret, exec_ret0, exec_ife, exec_ex, exec_pass, AR.execs_nil, AR.execs_cons, thenS_nx, thenS_rt, AR.exec_for, exec_whl, bind_var, bind_tup, binds_nil, binds_cons, stp_nil, stp_cons, E.esc, E.escP, E.escR, E.pure, Es.esc, Es.escP, Es.pure, pureO, escO, It.esc, It.escP, It.pure, Cl.esc, Cl.pureC, binop.eq_1, binop.eq_2, binop.eq_3, binop.eq_4, binop.eq_5, binop.eq_6, binop.eq_7, binop.eq_8, binop.eq_9, binop.eq_10, cmpop.eq_1, cmpop.eq_2, cmpop.eq_3, cmpop.eq_4, cmpop.eq_5, cmpop.eq_6, cmpop.eq_7, cmpop.eq_8, cmpop.eq_9, cmpop.eq_10, cmpop.eq_11, cmpop.eq_12, cmpop.eq_13, D.truth.eq_1, D.truth.eq_2, D.truth.eq_3, D.truth.eq_4, D.truth.eq_5, D.truth.eq_6, slcop.eq_1, slcop.eq_2, bltop.eq_1, bltop.eq_2, bltop.eq_3, bltop.eq_4, bltop.eq_5, bltop.eq_6, bltop.eq_7, bltop.eq_9, bltop.eq_10, bltop.eq_11, bltop.eq_12, bltop.eq_13, bltop.eq_14, bltop.eq_15, bltop.eq_16, bltop.eq_17, bltop.eq_18, bltop.eq_19, bltop.eq_20, bltop.eq_21, bltop.eq_22, seq?.eq_1, seq?.eq_2, itemsOf.eq_1, itemsOf.eq_2, itemsOf.eq_3, enmOf.eq_1, zip2Of.eq_1, zip2Of.eq_2, endC_nx, endC_rt, PySem.sizeLine, wipeE, keepO, eqv_ii, eqv_bb, eqv_ib, eqv_bi, eqv_ss, eqv_ll, eqv_tt, eqv_nn, eqvs_nn, eqvs_cc, eqvs_r, flat_int, flat_bl, flat_non, flat_str, flat_lst, flat_tup, flats_nil, flats_cons, flats_ints, D.plain.eq_1, D.plain.eq_2, D.plain.eq_3, D.plain.eq_4, D.plain.eq_5, D.plain.eq_6, D.scal.eq_1, D.scal.eq_2, D.scal.eq_3, D.scal.eq_4, D.scal.eq_5, D.isNon.eq_1, D.isNon.eq_2, isiop, isTy, tyOk, b2i]
end
end LW

namespace LW
open AR
variable {w : Nat} {tab : Nat → Option Fn}
theorem two_at (a b : Int) (x : Int) : ∃ y, L2.atI [D.int a, D.int b] (x % 2) = some (.int y) ∧ (y = a ∨ y = b) := by
  have h0 : 0 ≤ x % 2 := Int.emod_nonneg _ (by decide)
  have h1 : x % 2 < 2 := Int.emod_lt_of_pos _ (by decide)
  obtain h | h : x % 2 = 0 ∨ x % 2 = 1 := by omega
  · rw [h]; exact ⟨a, rfl, .inl rfl⟩
  · rw [h]; exact ⟨b, rfl, .inr rfl⟩
def Ints (l : List D) : Prop := ∃ ns : List Int, l = ns.map .int
theorem ints_mod {l : List D} (h : Ints l) (hl : 0 < l.length) (N x : Int) (hN : N = l.length) : ∃ v, L2.atI l (x % N) = some (.int v) := by
  obtain ⟨ns, rfl⟩ := h
  rw [List.length_map] at hl hN
  have h0 : 0 ≤ x % N := Int.emod_nonneg _ (by omega)
  have h1 : x % N < N := Int.emod_lt_of_pos _ (by omega)
  have h2 : (x % N).toNat < ns.length := by omega
  refine ⟨ns[(x % N).toNat], ?_⟩
  refine atI_of h0 ?_
  rw [List.getElem?_map, List.getElem?_eq_getElem h2]
  rfl
section
variable {C : CallF} {rd sd : D} {l lv sg : List D} {x4 x5 x7 x8 x9 : Sl1} {i x d1 : Int}
theorem sg_item (h7 : isIo x7 = false) (h8 : isIo x8 = false) (h9 : isIo x9 = false) (e1 : L2.atI l 1 = some (.int d1)) (N : Int) (hN : bltop .len [.lst lv] = .ok (.sh, .int N)) (hN0 : 0 < N) (hv : ∀ y, ∃ v, L2.atI lv (y % N) = some (.int v))
    (hs : 0 < i → ∃ pre v, sg = pre ++ [.int v]) (hsl : sg.length < 16777216) : ∃ (v : Int) (k : Bool), forB C w (.tup [.var 7, .var 8]) sgB3 [some (.sh, .lst l), some (.sh, rd), some (.sh, sd), some (.own, .lst lv), x4, x5, some (.own, .lst sg), x7, x8, x9] (.tup [.int i, .int x]) =
    .ok (.nx [some (.sh, .lst l), some (.sh, rd), some (.sh, sd), some (.own, .lst lv), x4, x5, some (.own, .lst (sg ++ [.int v])), some (.sh, .int i), some (.sh, .int x), some (.sh, .bl k)]) := by
  obtain ⟨g, eg, cg⟩ := two_at 2 4 d1
  have g0 : 0 < g := by omega
  obtain ⟨v, ev⟩ := hv x
  rw [forB_ap]
  simp only [sgB3, sgS, B_law_signal, List.getD_cons_zero, List.getD_cons_succ]
  by_cases hi : 0 < i
  · by_cases hr : 0 < x / 31 % g
    · obtain ⟨pre, u, rfl⟩ := hs hi
      have el : L2.atI (pre ++ [D.int u]) (-1) = some (.int u) := L2.atI_last _ _
      have hsl' : pre.length + 1 < 16777216 := by simpa using hsl
      refine ⟨u, true, ?_⟩
      simp [h7, h8, h9, e1, eg, g0, hi, hr, el, hsl', kTup_ap, kLst_ap, kRes_ap, kBin2_ap, kBin_ap, kBl_ap, kNb_ap, kNot_ap, kAnd2_ap, kAnd_ap, kOr2_ap, kOr_ap, kIfe2_ap, kIfe_ap, kCmp2_ap, kCmp_ap, kCall4_ap, kCall3_ap, kCall2_ap, kCall_ap, kBlt_ap, kIsi_ap, kSh_ap, kSub2_ap, kSub_ap, kSlc3_ap, kSlc2_ap, kSlc_ap, kCons_ap, kEvs_ap, kEvP_ap, kConsF_ap, kEvPar_ap, kConsA_ap, kEvA_ap, kConsS_ap, kIfs2_ap, kIfs_ap, kEl_ap, kL_ap, kVal_ap, kEn_ap, kEnm_ap, kZ2_ap, kZ_ap, kTr_ap, kT0_ap, kT1_ap, kT2_ap, kComp_ap, kColl_ap, kQ_ap, kB_ap, kFor2_ap, kFor_ap, kNx_ap, kAsg_ap, kAsgT_ap, kPar2_ap, kPar_ap, kStp_ap, kApp_ap, kRet_ap, kIfS_ap, kEx_ap, kEnd_ap, ev_var, getV_ok, fl_sh, fl_own, fl_io, ev_cst, ev_gfn, ev_tup, ev_lst, ev_bin, negV_int, ev_neg, ev_not, ev_and, ev_or, ev_ife, ev_cmp, ev_call, ev_blt, ev_isi, ev_sub, ev_slc, intO_int, evO_no, evO_yes, AR.evs_nil, AR.evs_cons, evP_nil, evP_cons, evPar_nil, evPar_cons, evA_nil, evA_c, aO_no, E.isRef.eq_1, E.isRef.eq_2, res_nil, res_v, refs_nil, refs_vv, outs_nil, nodup_nil, evIfs_nil, evIfs_cons, evCl_el, ev_comp, evCl_one, evI_val, rngV_int, evI_rng1, evI_enm, evI_zip2, isMut_eq, any_nil, any_cons, mutO.eq_1, mutO.eq_2, mutO.eq_3, setO_ok, setV_o, isIo_no, isIo_sh, isIo_own, frz_nil, frz_cons, frzO_own, frzO_sh, frzO_no, plainF_ap, evF_eq, pureF_no, pureF_yes, evT_eq, pureT_no, pureT_yes, ice_nil, ice_cons, iceO_some, iceO_none, new_sh, new_fr, appO_own, fre_sh, fre_fr, pk_sh, pk_fr, pk_bo, pk_bi, out_sh, out_fr, out_bo, subO_ok, sub_tup, sub_lst, sub_scr, AR.exec_asgv, exec_asgt, exec_par, exec_app, exec_aug, augV_int, augO_int, exec_ret, exec_ret0, exec_ife, exec_ex, exec_pass, AR.execs_nil, AR.execs_cons, thenS_nx, thenS_rt, AR.exec_for, exec_whl, bind_var, bind_tup, binds_nil, binds_cons, stp_nil, stp_cons, E.esc, E.escP, E.escR, E.pure, Es.esc, Es.escP, Es.pure, pureO, escO, It.esc, It.escP, It.pure, Cl.esc, Cl.pureC, binop.eq_1, binop.eq_2, binop.eq_3, binop.eq_4, binop.eq_5, binop.eq_6, binop.eq_7, binop.eq_8, binop.eq_9, binop.eq_10, cmpop.eq_1, cmpop.eq_2, cmpop.eq_3, cmpop.eq_4, cmpop.eq_5, cmpop.eq_6, cmpop.eq_7, cmpop.eq_8, cmpop.eq_9, cmpop.eq_10, cmpop.eq_11, cmpop.eq_12, cmpop.eq_13, D.truth.eq_1, D.truth.eq_2, D.truth.eq_3, D.truth.eq_4, D.truth.eq_5, D.truth.eq_6, slcop.eq_1, slcop.eq_2, bltop.eq_1, bltop.eq_2, bltop.eq_3, bltop.eq_4, bltop.eq_5, bltop.eq_6, bltop.eq_7, bltop.eq_9, bltop.eq_10, bltop.eq_11, bltop.eq_12, bltop.eq_13, bltop.eq_14, bltop.eq_15, bltop.eq_16, bltop.eq_17, bltop.eq_18, bltop.eq_19, bltop.eq_20, bltop.eq_21, bltop.eq_22, seq?.eq_1, seq?.eq_2, itemsOf.eq_1, itemsOf.eq_2, itemsOf.eq_3, enmOf.eq_1, zip2Of.eq_1, zip2Of.eq_2, endC_nx, endC_rt, PySem.sizeLine, wipeE, keepO, eqv_ii, eqv_bb, eqv_ib, eqv_bi, eqv_ss, eqv_ll, eqv_tt, eqv_nn, eqvs_nn, eqvs_cc, eqvs_r, flat_int, flat_bl, flat_non, flat_str, flat_lst, flat_tup, flats_nil, flats_cons, flats_ints, D.plain.eq_1, D.plain.eq_2, D.plain.eq_3, D.plain.eq_4, D.plain.eq_5, D.plain.eq_6, D.scal.eq_1, D.scal.eq_2, D.scal.eq_3, D.scal.eq_4, D.scal.eq_5, D.isNon.eq_1, D.isNon.eq_2, isiop, isTy, tyOk, b2i]
    · refine ⟨v, false, ?_⟩
      have hN' : (lv.length : Int) = N := by rw [bltop.eq_3] at hN; cases hN; rfl
      simp [h7, h8, h9, e1, eg, g0, hi, hr, hsl, hN', ev, hN0, kTup_ap, kLst_ap, kRes_ap, kBin2_ap, kBin_ap, kBl_ap, kNb_ap, kNot_ap, kAnd2_ap, kAnd_ap, kOr2_ap, kOr_ap, kIfe2_ap, kIfe_ap, kCmp2_ap, kCmp_ap, kCall4_ap, kCall3_ap, kCall2_ap, kCall_ap, kBlt_ap, kIsi_ap, kSh_ap, kSub2_ap, kSub_ap, kSlc3_ap, kSlc2_ap, kSlc_ap, kCons_ap, kEvs_ap, kEvP_ap, kConsF_ap, kEvPar_ap, kConsA_ap, kEvA_ap, kConsS_ap, kIfs2_ap, kIfs_ap, kEl_ap, kL_ap, kVal_ap, kEn_ap, kEnm_ap, kZ2_ap, kZ_ap, kTr_ap, kT0_ap, kT1_ap, kT2_ap, kComp_ap, kColl_ap, kQ_ap, kB_ap, kFor2_ap, kFor_ap, kNx_ap, kAsg_ap, kAsgT_ap, kPar2_ap, kPar_ap, kStp_ap, kApp_ap, kRet_ap, kIfS_ap, kEx_ap, kEnd_ap, ev_var, getV_ok, fl_sh, fl_own, fl_io, ev_cst, ev_gfn, ev_tup, ev_lst, ev_bin, negV_int, ev_neg, ev_not, ev_and, ev_or, ev_ife, ev_cmp, ev_call, ev_blt, ev_isi, ev_sub, ev_slc, intO_int, evO_no, evO_yes, AR.evs_nil, AR.evs_cons, evP_nil, evP_cons, evPar_nil, evPar_cons, evA_nil, evA_c, aO_no, E.isRef.eq_1, E.isRef.eq_2, res_nil, res_v, refs_nil, refs_vv, outs_nil, nodup_nil, evIfs_nil, evIfs_cons, evCl_el, ev_comp, evCl_one, evI_val, rngV_int, evI_rng1, evI_enm, evI_zip2, isMut_eq, any_nil, any_cons, mutO.eq_1, mutO.eq_2, mutO.eq_3, setO_ok, setV_o, isIo_no, isIo_sh, isIo_own, frz_nil, frz_cons, frzO_own, frzO_sh, frzO_no, plainF_ap, evF_eq, pureF_no, pureF_yes, evT_eq, pureT_no, pureT_yes, ice_nil, ice_cons, iceO_some, iceO_none, new_sh, new_fr, appO_own, fre_sh, fre_fr, pk_sh, pk_fr, pk_bo, pk_bi, out_sh, out_fr, out_bo, subO_ok, sub_tup, sub_lst, sub_scr, AR.exec_asgv, exec_asgt, exec_par, exec_app, exec_aug, augV_int, augO_int, exec_ret, exec_ret0, exec_ife, exec_ex, exec_pass, AR.execs_nil, AR.execs_cons, thenS_nx, thenS_rt, AR.exec_for, exec_whl, bind_var, bind_tup, binds_nil, binds_cons, stp_nil, stp_cons, E.esc, E.escP, E.escR, E.pure, Es.esc, Es.escP, Es.pure, pureO, escO, It.esc, It.escP, It.pure, Cl.esc, Cl.pureC, binop.eq_1, binop.eq_2, binop.eq_3, binop.eq_4, binop.eq_5, binop.eq_6, binop.eq_7, binop.eq_8, binop.eq_9, binop.eq_10, cmpop.eq_1, cmpop.eq_2, cmpop.eq_3, cmpop.eq_4, cmpop.eq_5, cmpop.eq_6, cmpop.eq_7, cmpop.eq_8, cmpop.eq_9, cmpop.eq_10, cmpop.eq_11, cmpop.eq_12, cmpop.eq_13, D.truth.eq_1, D.truth.eq_2, D.truth.eq_3, D.truth.eq_4, D.truth.eq_5, D.truth.eq_6, slcop.eq_1, slcop.eq_2, bltop.eq_1, bltop.eq_2, bltop.eq_3, bltop.eq_4, bltop.eq_5, bltop.eq_6, bltop.eq_7, bltop.eq_9, bltop.eq_10, bltop.eq_11, bltop.eq_12, bltop.eq_13, bltop.eq_14, bltop.eq_15, bltop.eq_16, bltop.eq_17, bltop.eq_18, bltop.eq_19, bltop.eq_20, bltop.eq_21, bltop.eq_22, seq?.eq_1, seq?.eq_2, itemsOf.eq_1, itemsOf.eq_2, itemsOf.eq_3, enmOf.eq_1, zip2Of.eq_1, zip2Of.eq_2, endC_nx, endC_rt, PySem.sizeLine, wipeE, keepO, eqv_ii, eqv_bb, eqv_ib, eqv_bi, eqv_ss, eqv_ll, eqv_tt, eqv_nn, eqvs_nn, eqvs_cc, eqvs_r, flat_int, flat_bl, flat_non, flat_str, flat_lst, flat_tup, flats_nil, flats_cons, flats_ints, D.plain.eq_1, D.plain.eq_2, D.plain.eq_3, D.plain.eq_4, D.plain.eq_5, D.plain.eq_6, D.scal.eq_1, D.scal.eq_2, D.scal.eq_3, D.scal.eq_4, D.scal.eq_5, D.isNon.eq_1, D.isNon.eq_2, isiop, isTy, tyOk, b2i]
  · refine ⟨v, false, ?_⟩
    have hN' : (lv.length : Int) = N := by rw [bltop.eq_3] at hN; cases hN; rfl
    simp [h7, h8, h9, hi, hsl, hN', ev, hN0, kTup_ap, kLst_ap, kRes_ap, kBin2_ap, kBin_ap, kBl_ap, kNb_ap, kNot_ap, kAnd2_ap, kAnd_ap, kOr2_ap, kOr_ap, kIfe2_ap, kIfe_ap, kCmp2_ap, kCmp_ap, kCall4_ap, kCall3_ap, kCall2_ap, kCall_ap, kBlt_ap, kIsi_ap, kSh_ap, kSub2_ap, kSub_ap, kSlc3_ap, kSlc2_ap, kSlc_ap, kCons_ap, kEvs_ap, kEvP_ap, kConsF_ap, kEvPar_ap, kConsA_ap, kEvA_ap, kConsS_ap, kIfs2_ap, kIfs_ap, kEl_ap, kL_ap, kVal_ap, kEn_ap, kEnm_ap, kZ2_ap, kZ_ap, kTr_ap, kT0_ap, kT1_ap, kT2_ap, kComp_ap, kColl_ap, kQ_ap, kB_ap, kFor2_ap, kFor_ap, kNx_ap, kAsg_ap, kAsgT_ap, kPar2_ap, kPar_ap, kStp_ap, kApp_ap, kRet_ap, kIfS_ap, kEx_ap, kEnd_ap, ev_var, getV_ok, fl_sh, fl_own, fl_io, ev_cst, ev_gfn, ev_tup, ev_lst, ev_bin, negV_int, ev_neg, ev_not, ev_and, ev_or, ev_ife, ev_cmp, ev_call, ev_blt, ev_isi, ev_sub, ev_slc, intO_int, evO_no, evO_yes, AR.evs_nil, AR.evs_cons, evP_nil, evP_cons, evPar_nil, evPar_cons, evA_nil, evA_c, aO_no, E.isRef.eq_1, E.isRef.eq_2, res_nil, res_v, refs_nil, refs_vv, outs_nil, nodup_nil, evIfs_nil, evIfs_cons, evCl_el, ev_comp, evCl_one, evI_val, rngV_int, evI_rng1, evI_enm, evI_zip2, isMut_eq, any_nil, any_cons, mutO.eq_1, mutO.eq_2, mutO.eq_3, setO_ok, setV_o, isIo_no, isIo_sh, isIo_own, frz_nil, frz_cons, frzO_own, frzO_sh, frzO_no, plainF_ap, evF_eq, pureF_no, pureF_yes, evT_eq, pureT_no, pureT_yes, ice_nil, ice_cons, iceO_some, iceO_none, new_sh, new_fr, appO_own, fre_sh, fre_fr, pk_sh, pk_fr, pk_bo, pk_bi, out_sh, out_fr, out_bo, subO_ok, sub_tup, sub_lst, sub_scr, AR.exec_asgv, exec_asgt, exec_par, exec_app, exec_aug, augV_int, augO_int, exec_ret, exec_ret0, exec_ife, exec_ex, exec_pass, AR.execs_nil, AR.execs_cons, thenS_nx, thenS_rt, AR.exec_for, exec_whl, bind_var, bind_tup, binds_nil, binds_cons, stp_nil, stp_cons, E.esc, E.escP, E.escR, E.pure, Es.esc, Es.escP, Es.pure, pureO, escO, It.esc, It.escP, It.pure, Cl.esc, Cl.pureC, binop.eq_1, binop.eq_2, binop.eq_3, binop.eq_4, binop.eq_5, binop.eq_6, binop.eq_7, binop.eq_8, binop.eq_9, binop.eq_10, cmpop.eq_1, cmpop.eq_2, cmpop.eq_3, cmpop.eq_4, cmpop.eq_5, cmpop.eq_6, cmpop.eq_7, cmpop.eq_8, cmpop.eq_9, cmpop.eq_10, cmpop.eq_11, cmpop.eq_12, cmpop.eq_13, D.truth.eq_1, D.truth.eq_2, D.truth.eq_3, D.truth.eq_4, D.truth.eq_5, D.truth.eq_6, slcop.eq_1, slcop.eq_2, bltop.eq_1, bltop.eq_2, bltop.eq_3, bltop.eq_4, bltop.eq_5, bltop.eq_6, bltop.eq_7, bltop.eq_9, bltop.eq_10, bltop.eq_11, bltop.eq_12, bltop.eq_13, bltop.eq_14, bltop.eq_15, bltop.eq_16, bltop.eq_17, bltop.eq_18, bltop.eq_19, bltop.eq_20, bltop.eq_21, bltop.eq_22, seq?.eq_1, seq?.eq_2, itemsOf.eq_1, itemsOf.eq_2, itemsOf.eq_3, enmOf.eq_1, zip2Of.eq_1, zip2Of.eq_2, endC_nx, endC_rt, PySem.sizeLine, wipeE, keepO, eqv_ii, eqv_bb, eqv_ib, eqv_bi, eqv_ss, eqv_ll, eqv_tt, eqv_nn, eqvs_nn, eqvs_cc, eqvs_r, flat_int, flat_bl, flat_non, flat_str, flat_lst, flat_tup, flats_nil, flats_cons, flats_ints, D.plain.eq_1, D.plain.eq_2, D.plain.eq_3, D.plain.eq_4, D.plain.eq_5, D.plain.eq_6, D.scal.eq_1, D.scal.eq_2, D.scal.eq_3, D.scal.eq_4, D.scal.eq_5, D.isNon.eq_1, D.isNon.eq_2, isiop, isTy, tyOk, b2i]
end
end LW

namespace LW
open AR
variable {w : Nat} {tab : Nat → Option Fn}
theorem ints_app {a b : List D} (ha : Ints a) (hb : Ints b) : Ints (a ++ b) := by
  obtain ⟨x, rfl⟩ := ha
  obtain ⟨y, rfl⟩ := hb
  exact ⟨x ++ y, by rw [List.map_append]⟩
theorem digs_sub {b : Int} {l l' : List D} (h : Digs b l) (hs : ∀ d ∈ l', d ∈ l) : Digs b l' := by
  obtain ⟨ns, rfl, hn⟩ := h
  have key : ∀ l' : List D, (∀ d ∈ l', d ∈ ns.map D.int) → ∃ ms : List Int, l' = ms.map .int ∧ ∀ x ∈ ms, x ∈ ns := fun l' => by
    induction l' with
    | nil => intro _; exact ⟨[], rfl, fun x hx => by cases hx⟩
    | cons d r ih =>
      intro hs
      obtain ⟨ms, e, hm⟩ := ih fun d hd => hs d (List.mem_cons_of_mem _ hd)
      obtain ⟨x, hx, rfl⟩ := List.mem_map.mp (hs d List.mem_cons_self)
      exact ⟨x :: ms, by rw [e]; rfl, fun y hy => (List.mem_cons.mp hy).elim (fun z => z ▸ hx) (hm y)⟩
  obtain ⟨ms, e, hm⟩ := key l' hs
  exact ⟨ms, e, fun x hx => hn x (hm x hx)⟩
theorem cut_mem {l : List D} {lo hi : Option Int} : ∀ d ∈ cut l lo hi, d ∈ l := fun d hd => by
  unfold cut at hd
  exact List.mem_of_mem_drop (List.mem_of_mem_take hd)
theorem cut_len {l : List D} {lo hi : Option Int} : (cut l lo hi).length ≤ l.length := by
  unfold cut
  rw [List.length_take, List.length_drop]
  omega
section
variable {C : CallF} {rd : D} {l lv sg : List D} {x4 x5 x7 x8 x9 : Sl1} {z d0 d1 : Int} {rest : Ss}
theorem sg0 : execs C w (.cons (sgS 0) rest) [some (.sh, .lst l), some (.sh, rd), some (.sh, .int z), none, none, none, none, none, none, none] = execs C w rest [some (.sh, .lst l), some (.sh, rd), some (.sh, .int z), some (.own, .lst []), none, none, none, none, none, none] := by
  simp only [sgS, B_law_signal, List.getD_cons_zero, List.getD_cons_succ]
  simp [kTup_ap, kLst_ap, kRes_ap, kBin2_ap, kBin_ap, kBl_ap, kNb_ap, kNot_ap, kAnd2_ap, kAnd_ap, kOr2_ap, kOr_ap, kIfe2_ap, kIfe_ap, kCmp2_ap, kCmp_ap, kCall4_ap, kCall3_ap, kCall2_ap, kCall_ap, kBlt_ap, kIsi_ap, kSh_ap, kSub2_ap, kSub_ap, kSlc3_ap, kSlc2_ap, kSlc_ap, kCons_ap, kEvs_ap, kEvP_ap, kConsF_ap, kEvPar_ap, kConsA_ap, kEvA_ap, kConsS_ap, kIfs2_ap, kIfs_ap, kEl_ap, kL_ap, kVal_ap, kEn_ap, kEnm_ap, kZ2_ap, kZ_ap, kTr_ap, kT0_ap, kT1_ap, kT2_ap, kComp_ap, kColl_ap, kQ_ap, kB_ap, kFor2_ap, kFor_ap, kNx_ap, kAsg_ap, kAsgT_ap, kPar2_ap, kPar_ap, kStp_ap, kApp_ap, kRet_ap, kIfS_ap, kEx_ap, kEnd_ap, ev_var, getV_ok, fl_sh, fl_own, fl_io, ev_cst, ev_gfn, ev_tup, ev_lst, ev_bin, negV_int, ev_neg, ev_not, ev_and, ev_or, ev_ife, ev_cmp, ev_call, ev_blt, ev_isi, ev_sub, ev_slc, intO_int, evO_no, evO_yes, AR.evs_nil, AR.evs_cons, evP_nil, evP_cons, evPar_nil, evPar_cons, evA_nil, evA_c, aO_no, E.isRef.eq_1, E.isRef.eq_2, res_nil, res_v, refs_nil, refs_vv, outs_nil, nodup_nil, evIfs_nil, evIfs_cons, evCl_el, ev_comp, evCl_one, evI_val, rngV_int, evI_rng1, evI_enm, evI_zip2, isMut_eq, any_nil, any_cons, mutO.eq_1, mutO.eq_2, mutO.eq_3, setO_ok, setV_o, isIo_no, isIo_sh, isIo_own, frz_nil, frz_cons, frzO_own, frzO_sh, frzO_no, plainF_ap, evF_eq, pureF_no, pureF_yes, evT_eq, pureT_no, pureT_yes, ice_nil, ice_cons, iceO_some, iceO_none, new_sh, new_fr, appO_own, fre_sh, fre_fr, pk_sh, pk_fr, pk_bo, pk_bi, out_sh, out_fr, out_bo, subO_ok, sub_tup, sub_lst, sub_scr, AR.exec_asgv, exec_asgt, exec_par, exec_app, exec_aug, augV_int, augO_int, exec_ret, exec_ret0, exec_ife, exec_ex, exec_pass, AR.execs_nil, AR.execs_cons, thenS_nx, thenS_rt, AR.exec_for, exec_whl, bind_var, bind_tup, binds_nil, binds_cons, stp_nil, stp_cons, E.esc, E.escP, E.escR, E.pure, Es.esc, Es.escP, Es.pure, pureO, escO, It.esc, It.escP, It.pure, Cl.esc, Cl.pureC, binop.eq_1, binop.eq_2, binop.eq_3, binop.eq_4, binop.eq_5, binop.eq_6, binop.eq_7, binop.eq_8, binop.eq_9, binop.eq_10, cmpop.eq_1, cmpop.eq_2, cmpop.eq_3, cmpop.eq_4, cmpop.eq_5, cmpop.eq_6, cmpop.eq_7, cmpop.eq_8, cmpop.eq_9, cmpop.eq_10, cmpop.eq_11, cmpop.eq_12, cmpop.eq_13, D.truth.eq_1, D.truth.eq_2, D.truth.eq_3, D.truth.eq_4, D.truth.eq_5, D.truth.eq_6, slcop.eq_1, slcop.eq_2, bltop.eq_1, bltop.eq_2, bltop.eq_3, bltop.eq_4, bltop.eq_5, bltop.eq_6, bltop.eq_7, bltop.eq_9, bltop.eq_10, bltop.eq_11, bltop.eq_12, bltop.eq_13, bltop.eq_14, bltop.eq_15, bltop.eq_16, bltop.eq_17, bltop.eq_18, bltop.eq_19, bltop.eq_20, bltop.eq_21, bltop.eq_22, seq?.eq_1, seq?.eq_2, itemsOf.eq_1, itemsOf.eq_2, itemsOf.eq_3, enmOf.eq_1, zip2Of.eq_1, zip2Of.eq_2, endC_nx, endC_rt, PySem.sizeLine, wipeE, keepO, eqv_ii, eqv_bb, eqv_ib, eqv_bi, eqv_ss, eqv_ll, eqv_tt, eqv_nn, eqvs_nn, eqvs_cc, eqvs_r, flat_int, flat_bl, flat_non, flat_str, flat_lst, flat_tup, flats_nil, flats_cons, flats_ints, D.plain.eq_1, D.plain.eq_2, D.plain.eq_3, D.plain.eq_4, D.plain.eq_5, D.plain.eq_6, D.scal.eq_1, D.scal.eq_2, D.scal.eq_3, D.scal.eq_4, D.scal.eq_5, D.isNon.eq_1, D.isNon.eq_2, isiop, isTy, tyOk, b2i]
theorem sg2 (hl : (lv.length + 3 ≤ 16777216) = True) : execs C w (.cons (sgS 2) rest) [some (.sh, .lst l), some (.sh, rd), some (.sh, .int z), some (.own, .lst lv), x4, x5, none, none, none, none] = execs C w rest [some (.sh, .lst l), some (.sh, rd), some (.sh, .int z), some (.own, .lst (lv ++ [.int (-1000), .int 1000, .int 0])), x4, x5, none, none, none, none] := by
  simp only [sgS, B_law_signal, List.getD_cons_zero, List.getD_cons_succ]
  simp [hl, kTup_ap, kLst_ap, kRes_ap, kBin2_ap, kBin_ap, kBl_ap, kNb_ap, kNot_ap, kAnd2_ap, kAnd_ap, kOr2_ap, kOr_ap, kIfe2_ap, kIfe_ap, kCmp2_ap, kCmp_ap, kCall4_ap, kCall3_ap, kCall2_ap, kCall_ap, kBlt_ap, kIsi_ap, kSh_ap, kSub2_ap, kSub_ap, kSlc3_ap, kSlc2_ap, kSlc_ap, kCons_ap, kEvs_ap, kEvP_ap, kConsF_ap, kEvPar_ap, kConsA_ap, kEvA_ap, kConsS_ap, kIfs2_ap, kIfs_ap, kEl_ap, kL_ap, kVal_ap, kEn_ap, kEnm_ap, kZ2_ap, kZ_ap, kTr_ap, kT0_ap, kT1_ap, kT2_ap, kComp_ap, kColl_ap, kQ_ap, kB_ap, kFor2_ap, kFor_ap, kNx_ap, kAsg_ap, kAsgT_ap, kPar2_ap, kPar_ap, kStp_ap, kApp_ap, kRet_ap, kIfS_ap, kEx_ap, kEnd_ap, ev_var, getV_ok, fl_sh, fl_own, fl_io, ev_cst, ev_gfn, ev_tup, ev_lst, ev_bin, negV_int, ev_neg, ev_not, ev_and, ev_or, ev_ife, ev_cmp, ev_call, ev_blt, ev_isi, ev_sub, ev_slc, intO_int, evO_no, evO_yes, AR.evs_nil, AR.evs_cons, evP_nil, evP_cons, evPar_nil, evPar_cons, evA_nil, evA_c, aO_no, E.isRef.eq_1, E.isRef.eq_2, res_nil, res_v, refs_nil, refs_vv, outs_nil, nodup_nil, evIfs_nil, evIfs_cons, evCl_el, ev_comp, evCl_one, evI_val, rngV_int, evI_rng1, evI_enm, evI_zip2, isMut_eq, any_nil, any_cons, mutO.eq_1, mutO.eq_2, mutO.eq_3, setO_ok, setV_o, isIo_no, isIo_sh, isIo_own, frz_nil, frz_cons, frzO_own, frzO_sh, frzO_no, plainF_ap, evF_eq, pureF_no, pureF_yes, evT_eq, pureT_no, pureT_yes, ice_nil, ice_cons, iceO_some, iceO_none, new_sh, new_fr, appO_own, fre_sh, fre_fr, pk_sh, pk_fr, pk_bo, pk_bi, out_sh, out_fr, out_bo, subO_ok, sub_tup, sub_lst, sub_scr, AR.exec_asgv, exec_asgt, exec_par, exec_app, exec_aug, augV_int, augO_int, exec_ret, exec_ret0, exec_ife, exec_ex, exec_pass, AR.execs_nil, AR.execs_cons, thenS_nx, thenS_rt, AR.exec_for, exec_whl, bind_var, bind_tup, binds_nil, binds_cons, stp_nil, stp_cons, E.esc, E.escP, E.escR, E.pure, Es.esc, Es.escP, Es.pure, pureO, escO, It.esc, It.escP, It.pure, Cl.esc, Cl.pureC, binop.eq_1, binop.eq_2, binop.eq_3, binop.eq_4, binop.eq_5, binop.eq_6, binop.eq_7, binop.eq_8, binop.eq_9, binop.eq_10, cmpop.eq_1, cmpop.eq_2, cmpop.eq_3, cmpop.eq_4, cmpop.eq_5, cmpop.eq_6, cmpop.eq_7, cmpop.eq_8, cmpop.eq_9, cmpop.eq_10, cmpop.eq_11, cmpop.eq_12, cmpop.eq_13, D.truth.eq_1, D.truth.eq_2, D.truth.eq_3, D.truth.eq_4, D.truth.eq_5, D.truth.eq_6, slcop.eq_1, slcop.eq_2, bltop.eq_1, bltop.eq_2, bltop.eq_3, bltop.eq_4, bltop.eq_5, bltop.eq_6, bltop.eq_7, bltop.eq_9, bltop.eq_10, bltop.eq_11, bltop.eq_12, bltop.eq_13, bltop.eq_14, bltop.eq_15, bltop.eq_16, bltop.eq_17, bltop.eq_18, bltop.eq_19, bltop.eq_20, bltop.eq_21, bltop.eq_22, seq?.eq_1, seq?.eq_2, itemsOf.eq_1, itemsOf.eq_2, itemsOf.eq_3, enmOf.eq_1, zip2Of.eq_1, zip2Of.eq_2, endC_nx, endC_rt, PySem.sizeLine, wipeE, keepO, eqv_ii, eqv_bb, eqv_ib, eqv_bi, eqv_ss, eqv_ll, eqv_tt, eqv_nn, eqvs_nn, eqvs_cc, eqvs_r, flat_int, flat_bl, flat_non, flat_str, flat_lst, flat_tup, flats_nil, flats_cons, flats_ints, D.plain.eq_1, D.plain.eq_2, D.plain.eq_3, D.plain.eq_4, D.plain.eq_5, D.plain.eq_6, D.scal.eq_1, D.scal.eq_2, D.scal.eq_3, D.scal.eq_4, D.scal.eq_5, D.isNon.eq_1, D.isNon.eq_2, isiop, isTy, tyOk, b2i]
theorem sg3 : execs C w (.cons (sgS 3) rest) [some (.sh, .lst l), some (.sh, rd), some (.sh, .int z), some (.own, .lst lv), x4, x5, none, none, none, none] = execs C w rest [some (.sh, .lst l), some (.sh, rd), some (.sh, .int z), some (.own, .lst lv), x4, x5, some (.own, .lst []), none, none, none] := by
  simp only [sgS, B_law_signal, List.getD_cons_zero, List.getD_cons_succ]
  simp [kTup_ap, kLst_ap, kRes_ap, kBin2_ap, kBin_ap, kBl_ap, kNb_ap, kNot_ap, kAnd2_ap, kAnd_ap, kOr2_ap, kOr_ap, kIfe2_ap, kIfe_ap, kCmp2_ap, kCmp_ap, kCall4_ap, kCall3_ap, kCall2_ap, kCall_ap, kBlt_ap, kIsi_ap, kSh_ap, kSub2_ap, kSub_ap, kSlc3_ap, kSlc2_ap, kSlc_ap, kCons_ap, kEvs_ap, kEvP_ap, kConsF_ap, kEvPar_ap, kConsA_ap, kEvA_ap, kConsS_ap, kIfs2_ap, kIfs_ap, kEl_ap, kL_ap, kVal_ap, kEn_ap, kEnm_ap, kZ2_ap, kZ_ap, kTr_ap, kT0_ap, kT1_ap, kT2_ap, kComp_ap, kColl_ap, kQ_ap, kB_ap, kFor2_ap, kFor_ap, kNx_ap, kAsg_ap, kAsgT_ap, kPar2_ap, kPar_ap, kStp_ap, kApp_ap, kRet_ap, kIfS_ap, kEx_ap, kEnd_ap, ev_var, getV_ok, fl_sh, fl_own, fl_io, ev_cst, ev_gfn, ev_tup, ev_lst, ev_bin, negV_int, ev_neg, ev_not, ev_and, ev_or, ev_ife, ev_cmp, ev_call, ev_blt, ev_isi, ev_sub, ev_slc, intO_int, evO_no, evO_yes, AR.evs_nil, AR.evs_cons, evP_nil, evP_cons, evPar_nil, evPar_cons, evA_nil, evA_c, aO_no, E.isRef.eq_1, E.isRef.eq_2, res_nil, res_v, refs_nil, refs_vv, outs_nil, nodup_nil, evIfs_nil, evIfs_cons, evCl_el, ev_comp, evCl_one, evI_val, rngV_int, evI_rng1, evI_enm, evI_zip2, isMut_eq, any_nil, any_cons, mutO.eq_1, mutO.eq_2, mutO.eq_3, setO_ok, setV_o, isIo_no, isIo_sh, isIo_own, frz_nil, frz_cons, frzO_own, frzO_sh, frzO_no, plainF_ap, evF_eq, pureF_no, pureF_yes, evT_eq, pureT_no, pureT_yes, ice_nil, ice_cons, iceO_some, iceO_none, new_sh, new_fr, appO_own, fre_sh, fre_fr, pk_sh, pk_fr, pk_bo, pk_bi, out_sh, out_fr, out_bo, subO_ok, sub_tup, sub_lst, sub_scr, AR.exec_asgv, exec_asgt, exec_par, exec_app, exec_aug, augV_int, augO_int, exec_ret, exec_ret0, exec_ife, exec_ex, exec_pass, AR.execs_nil, AR.execs_cons, thenS_nx, thenS_rt, AR.exec_for, exec_whl, bind_var, bind_tup, binds_nil, binds_cons, stp_nil, stp_cons, E.esc, E.escP, E.escR, E.pure, Es.esc, Es.escP, Es.pure, pureO, escO, It.esc, It.escP, It.pure, Cl.esc, Cl.pureC, binop.eq_1, binop.eq_2, binop.eq_3, binop.eq_4, binop.eq_5, binop.eq_6, binop.eq_7, binop.eq_8, binop.eq_9, binop.eq_10, cmpop.eq_1, cmpop.eq_2, cmpop.eq_3, cmpop.eq_4, cmpop.eq_5, cmpop.eq_6, cmpop.eq_7, cmpop.eq_8, cmpop.eq_9, cmpop.eq_10, cmpop.eq_11, cmpop.eq_12, cmpop.eq_13, D.truth.eq_1, D.truth.eq_2, D.truth.eq_3, D.truth.eq_4, D.truth.eq_5, D.truth.eq_6, slcop.eq_1, slcop.eq_2, bltop.eq_1, bltop.eq_2, bltop.eq_3, bltop.eq_4, bltop.eq_5, bltop.eq_6, bltop.eq_7, bltop.eq_9, bltop.eq_10, bltop.eq_11, bltop.eq_12, bltop.eq_13, bltop.eq_14, bltop.eq_15, bltop.eq_16, bltop.eq_17, bltop.eq_18, bltop.eq_19, bltop.eq_20, bltop.eq_21, bltop.eq_22, seq?.eq_1, seq?.eq_2, itemsOf.eq_1, itemsOf.eq_2, itemsOf.eq_3, enmOf.eq_1, zip2Of.eq_1, zip2Of.eq_2, endC_nx, endC_rt, PySem.sizeLine, wipeE, keepO, eqv_ii, eqv_bb, eqv_ib, eqv_bi, eqv_ss, eqv_ll, eqv_tt, eqv_nn, eqvs_nn, eqvs_cc, eqvs_r, flat_int, flat_bl, flat_non, flat_str, flat_lst, flat_tup, flats_nil, flats_cons, flats_ints, D.plain.eq_1, D.plain.eq_2, D.plain.eq_3, D.plain.eq_4, D.plain.eq_5, D.plain.eq_6, D.scal.eq_1, D.scal.eq_2, D.scal.eq_3, D.scal.eq_4, D.scal.eq_5, D.isNon.eq_1, D.isNon.eq_2, isiop, isTy, tyOk, b2i]
theorem sg1 {its : List D} {env2 : Env} (hr : itemsOf rd = .ok its) (h : forL (forB C w (.var 4) sgB1) its [some (.sh, .lst l), some (.sh, rd), some (.sh, .int z), some (.own, .lst []), none, none, none, none, none, none] = .ok (.nx env2)) :
    execs C w (.cons (.forS (.var 4) (.val (.var 1)) sgB1) rest) [some (.sh, .lst l), some (.sh, rd), some (.sh, .int z), some (.own, .lst []), none, none, none, none, none, none] = execs C w rest env2 := by
  generalize sgB1 = bb at *
  simp [hr, h, kTup_ap, kLst_ap, kRes_ap, kBin2_ap, kBin_ap, kBl_ap, kNb_ap, kNot_ap, kAnd2_ap, kAnd_ap, kOr2_ap, kOr_ap, kIfe2_ap, kIfe_ap, kCmp2_ap, kCmp_ap, kCall4_ap, kCall3_ap, kCall2_ap, kCall_ap, kBlt_ap, kIsi_ap, kSh_ap, kSub2_ap, kSub_ap, kSlc3_ap, kSlc2_ap, kSlc_ap, kCons_ap, kEvs_ap, kEvP_ap, kConsF_ap, kEvPar_ap, kConsA_ap, kEvA_ap, kConsS_ap, kIfs2_ap, kIfs_ap, kEl_ap, kL_ap, kVal_ap, kEn_ap, kEnm_ap, kZ2_ap, kZ_ap, kTr_ap, kT0_ap, kT1_ap, kT2_ap, kComp_ap, kColl_ap, kQ_ap, kB_ap, kFor2_ap, kFor_ap, kNx_ap, kAsg_ap, kAsgT_ap, kPar2_ap, kPar_ap, kStp_ap, kApp_ap, kRet_ap, kIfS_ap, kEx_ap, kEnd_ap, ev_var, getV_ok, fl_sh, fl_own, fl_io, ev_cst, ev_gfn, ev_tup, ev_lst, ev_bin, negV_int, ev_neg, ev_not, ev_and, ev_or, ev_ife, ev_cmp, ev_call, ev_blt, ev_isi, ev_sub, ev_slc, intO_int, evO_no, evO_yes, AR.evs_nil, AR.evs_cons, evP_nil, evP_cons, evPar_nil, evPar_cons, evA_nil, evA_c, aO_no, E.isRef.eq_1, E.isRef.eq_2, res_nil, res_v, refs_nil, refs_vv, outs_nil, nodup_nil, evIfs_nil, evIfs_cons, evCl_el, ev_comp, evCl_one, evI_val, rngV_int, evI_rng1, evI_enm, evI_zip2, isMut_eq, any_nil, any_cons, mutO.eq_1, mutO.eq_2, mutO.eq_3, setO_ok, setV_o, isIo_no, isIo_sh, isIo_own, frz_nil, frz_cons, frzO_own, frzO_sh, frzO_no, plainF_ap, evF_eq, pureF_no, pureF_yes, evT_eq, pureT_no, pureT_yes, ice_nil, ice_cons, iceO_some, iceO_none, new_sh, new_fr, appO_own, fre_sh, fre_fr, pk_sh, pk_fr, pk_bo, pk_bi, out_sh, out_fr, out_bo, subO_ok, sub_tup, sub_lst, sub_scr, AR.exec_asgv, exec_asgt, exec_par, exec_app, exec_aug, augV_int, augO_int, exec_ret, exec_ret0, exec_ife, exec_ex, exec_pass, AR.execs_nil, AR.execs_cons, thenS_nx, thenS_rt, AR.exec_for, exec_whl, bind_var, bind_tup, binds_nil, binds_cons, stp_nil, stp_cons, E.esc, E.escP, E.escR, E.pure, Es.esc, Es.escP, Es.pure, pureO, escO, It.esc, It.escP, It.pure, Cl.esc, Cl.pureC, binop.eq_1, binop.eq_2, binop.eq_3, binop.eq_4, binop.eq_5, binop.eq_6, binop.eq_7, binop.eq_8, binop.eq_9, binop.eq_10, cmpop.eq_1, cmpop.eq_2, cmpop.eq_3, cmpop.eq_4, cmpop.eq_5, cmpop.eq_6, cmpop.eq_7, cmpop.eq_8, cmpop.eq_9, cmpop.eq_10, cmpop.eq_11, cmpop.eq_12, cmpop.eq_13, D.truth.eq_1, D.truth.eq_2, D.truth.eq_3, D.truth.eq_4, D.truth.eq_5, D.truth.eq_6, slcop.eq_1, slcop.eq_2, bltop.eq_1, bltop.eq_2, bltop.eq_3, bltop.eq_4, bltop.eq_5, bltop.eq_6, bltop.eq_7, bltop.eq_9, bltop.eq_10, bltop.eq_11, bltop.eq_12, bltop.eq_13, bltop.eq_14, bltop.eq_15, bltop.eq_16, bltop.eq_17, bltop.eq_18, bltop.eq_19, bltop.eq_20, bltop.eq_21, bltop.eq_22, seq?.eq_1, seq?.eq_2, itemsOf.eq_1, itemsOf.eq_2, itemsOf.eq_3, enmOf.eq_1, zip2Of.eq_1, zip2Of.eq_2, endC_nx, endC_rt, PySem.sizeLine, wipeE, keepO, eqv_ii, eqv_bb, eqv_ib, eqv_bi, eqv_ss, eqv_ll, eqv_tt, eqv_nn, eqvs_nn, eqvs_cc, eqvs_r, flat_int, flat_bl, flat_non, flat_str, flat_lst, flat_tup, flats_nil, flats_cons, flats_ints, D.plain.eq_1, D.plain.eq_2, D.plain.eq_3, D.plain.eq_4, D.plain.eq_5, D.plain.eq_6, D.scal.eq_1, D.scal.eq_2, D.scal.eq_3, D.scal.eq_4, D.scal.eq_5, D.isNon.eq_1, D.isNon.eq_2, isiop, isTy, tyOk, b2i]
theorem sg4 {env2 : Env} (e0 : L2.atI l 0 = some (.int d0)) (hz : 0 < z + 1) (h : forL (forB C w (.tup [.var 7, .var 8]) sgB3) (enumD 0 (cut l (some 2) (some (2 + d0 % (z + 1))))) [some (.sh, .lst l), some (.sh, rd), some (.sh, .int z), some (.own, .lst lv), x4, x5, some (.own, .lst []), none, none, none] = .ok (.nx env2)) :
    execs C w (.cons (.forS (.tup [.var 7, .var 8]) (.enm (.slc (.var 0) (some (.cst (.int 2))) (some (.bin .add (.cst (.int 2)) (.bin .mod (.sub (.var 0) (.cst (.int 0))) (.bin .add (.var 2) (.cst (.int 1)))))))) sgB3) rest) [some (.sh, .lst l), some (.sh, rd), some (.sh, .int z), some (.own, .lst lv), x4, x5, some (.own, .lst []), none, none, none] = execs C w rest env2 := by
  generalize sgB3 = bb at *
  simp [e0, hz, h, kTup_ap, kLst_ap, kRes_ap, kBin2_ap, kBin_ap, kBl_ap, kNb_ap, kNot_ap, kAnd2_ap, kAnd_ap, kOr2_ap, kOr_ap, kIfe2_ap, kIfe_ap, kCmp2_ap, kCmp_ap, kCall4_ap, kCall3_ap, kCall2_ap, kCall_ap, kBlt_ap, kIsi_ap, kSh_ap, kSub2_ap, kSub_ap, kSlc3_ap, kSlc2_ap, kSlc_ap, kCons_ap, kEvs_ap, kEvP_ap, kConsF_ap, kEvPar_ap, kConsA_ap, kEvA_ap, kConsS_ap, kIfs2_ap, kIfs_ap, kEl_ap, kL_ap, kVal_ap, kEn_ap, kEnm_ap, kZ2_ap, kZ_ap, kTr_ap, kT0_ap, kT1_ap, kT2_ap, kComp_ap, kColl_ap, kQ_ap, kB_ap, kFor2_ap, kFor_ap, kNx_ap, kAsg_ap, kAsgT_ap, kPar2_ap, kPar_ap, kStp_ap, kApp_ap, kRet_ap, kIfS_ap, kEx_ap, kEnd_ap, ev_var, getV_ok, fl_sh, fl_own, fl_io, ev_cst, ev_gfn, ev_tup, ev_lst, ev_bin, negV_int, ev_neg, ev_not, ev_and, ev_or, ev_ife, ev_cmp, ev_call, ev_blt, ev_isi, ev_sub, ev_slc, intO_int, evO_no, evO_yes, AR.evs_nil, AR.evs_cons, evP_nil, evP_cons, evPar_nil, evPar_cons, evA_nil, evA_c, aO_no, E.isRef.eq_1, E.isRef.eq_2, res_nil, res_v, refs_nil, refs_vv, outs_nil, nodup_nil, evIfs_nil, evIfs_cons, evCl_el, ev_comp, evCl_one, evI_val, rngV_int, evI_rng1, evI_enm, evI_zip2, isMut_eq, any_nil, any_cons, mutO.eq_1, mutO.eq_2, mutO.eq_3, setO_ok, setV_o, isIo_no, isIo_sh, isIo_own, frz_nil, frz_cons, frzO_own, frzO_sh, frzO_no, plainF_ap, evF_eq, pureF_no, pureF_yes, evT_eq, pureT_no, pureT_yes, ice_nil, ice_cons, iceO_some, iceO_none, new_sh, new_fr, appO_own, fre_sh, fre_fr, pk_sh, pk_fr, pk_bo, pk_bi, out_sh, out_fr, out_bo, subO_ok, sub_tup, sub_lst, sub_scr, AR.exec_asgv, exec_asgt, exec_par, exec_app, exec_aug, augV_int, augO_int, exec_ret, exec_ret0, exec_ife, exec_ex, exec_pass, AR.execs_nil, AR.execs_cons, thenS_nx, thenS_rt, AR.exec_for, exec_whl, bind_var, bind_tup, binds_nil, binds_cons, stp_nil, stp_cons, E.esc, E.escP, E.escR, E.pure, Es.esc, Es.escP, Es.pure, pureO, escO, It.esc, It.escP, It.pure, Cl.esc, Cl.pureC, binop.eq_1, binop.eq_2, binop.eq_3, binop.eq_4, binop.eq_5, binop.eq_6, binop.eq_7, binop.eq_8, binop.eq_9, binop.eq_10, cmpop.eq_1, cmpop.eq_2, cmpop.eq_3, cmpop.eq_4, cmpop.eq_5, cmpop.eq_6, cmpop.eq_7, cmpop.eq_8, cmpop.eq_9, cmpop.eq_10, cmpop.eq_11, cmpop.eq_12, cmpop.eq_13, D.truth.eq_1, D.truth.eq_2, D.truth.eq_3, D.truth.eq_4, D.truth.eq_5, D.truth.eq_6, slcop.eq_1, slcop.eq_2, bltop.eq_1, bltop.eq_2, bltop.eq_3, bltop.eq_4, bltop.eq_5, bltop.eq_6, bltop.eq_7, bltop.eq_9, bltop.eq_10, bltop.eq_11, bltop.eq_12, bltop.eq_13, bltop.eq_14, bltop.eq_15, bltop.eq_16, bltop.eq_17, bltop.eq_18, bltop.eq_19, bltop.eq_20, bltop.eq_21, bltop.eq_22, seq?.eq_1, seq?.eq_2, itemsOf.eq_1, itemsOf.eq_2, itemsOf.eq_3, enmOf.eq_1, zip2Of.eq_1, zip2Of.eq_2, endC_nx, endC_rt, PySem.sizeLine, wipeE, keepO, eqv_ii, eqv_bb, eqv_ib, eqv_bi, eqv_ss, eqv_ll, eqv_tt, eqv_nn, eqvs_nn, eqvs_cc, eqvs_r, flat_int, flat_bl, flat_non, flat_str, flat_lst, flat_tup, flats_nil, flats_cons, flats_ints, D.plain.eq_1, D.plain.eq_2, D.plain.eq_3, D.plain.eq_4, D.plain.eq_5, D.plain.eq_6, D.scal.eq_1, D.scal.eq_2, D.scal.eq_3, D.scal.eq_4, D.scal.eq_5, D.isNon.eq_1, D.isNon.eq_2, isiop, isTy, tyOk, b2i]
theorem sg5 : bnd (execs C w (.cons (sgS 5) .nil) [some (.sh, .lst l), some (.sh, rd), some (.sh, .int z), some (.own, .lst lv), x4, x5, some (.own, .lst sg), x7, x8, x9]) endC = .ok ([], .sh, .tup sg) := by
  simp only [sgS, B_law_signal, List.getD_cons_zero, List.getD_cons_succ]
  simp [kTup_ap, kLst_ap, kRes_ap, kBin2_ap, kBin_ap, kBl_ap, kNb_ap, kNot_ap, kAnd2_ap, kAnd_ap, kOr2_ap, kOr_ap, kIfe2_ap, kIfe_ap, kCmp2_ap, kCmp_ap, kCall4_ap, kCall3_ap, kCall2_ap, kCall_ap, kBlt_ap, kIsi_ap, kSh_ap, kSub2_ap, kSub_ap, kSlc3_ap, kSlc2_ap, kSlc_ap, kCons_ap, kEvs_ap, kEvP_ap, kConsF_ap, kEvPar_ap, kConsA_ap, kEvA_ap, kConsS_ap, kIfs2_ap, kIfs_ap, kEl_ap, kL_ap, kVal_ap, kEn_ap, kEnm_ap, kZ2_ap, kZ_ap, kTr_ap, kT0_ap, kT1_ap, kT2_ap, kComp_ap, kColl_ap, kQ_ap, kB_ap, kFor2_ap, kFor_ap, kNx_ap, kAsg_ap, kAsgT_ap, kPar2_ap, kPar_ap, kStp_ap, kApp_ap, kRet_ap, kIfS_ap, kEx_ap, kEnd_ap, ev_var, getV_ok, fl_sh, fl_own, fl_io, ev_cst, ev_gfn, ev_tup, ev_lst, ev_bin, negV_int, ev_neg, ev_not, ev_and, ev_or, ev_ife, ev_cmp, ev_call, ev_blt, ev_isi, ev_sub, ev_slc, intO_int, evO_no, evO_yes, AR.evs_nil, AR.evs_cons, evP_nil, evP_cons, evPar_nil, evPar_cons, evA_nil, evA_c, aO_no, E.isRef.eq_1, E.isRef.eq_2, res_nil, res_v, refs_nil, refs_vv, outs_nil, nodup_nil, evIfs_nil, evIfs_cons, evCl_el, ev_comp, evCl_one, evI_val, rngV_int, evI_rng1, evI_enm, evI_zip2, isMut_eq, any_nil, any_cons, mutO.eq_1, mutO.eq_2, mutO.eq_3, setO_ok, setV_o, isIo_no, isIo_sh, isIo_own, frz_nil, frz_cons, frzO_own, frzO_sh, frzO_no, plainF_ap, evF_eq, pureF_no, pureF_yes, evT_eq, pureT_no, pureT_yes, ice_nil, ice_cons, iceO_some, iceO_none, new_sh, new_fr, appO_own, fre_sh, fre_fr, pk_sh, pk_fr, pk_bo, pk_bi, out_sh, out_fr, out_bo, subO_ok, sub_tup, sub_lst, sub_scr, AR.exec_asgv, exec_asgt, exec_par, exec_app, exec_aug, augV_int, augO_int, exec_ret, exec_ret0, exec_ife, exec_ex, exec_pass, AR.execs_nil, AR.execs_cons, thenS_nx, thenS_rt, AR.exec_for, exec_whl, bind_var, bind_tup, binds_nil, binds_cons, stp_nil, stp_cons, E.esc, E.escP, E.escR, E.pure, Es.esc, Es.escP, Es.pure, pureO, escO, It.esc, It.escP, It.pure, Cl.esc, Cl.pureC, binop.eq_1, binop.eq_2, binop.eq_3, binop.eq_4, binop.eq_5, binop.eq_6, binop.eq_7, binop.eq_8, binop.eq_9, binop.eq_10, cmpop.eq_1, cmpop.eq_2, cmpop.eq_3, cmpop.eq_4, cmpop.eq_5, cmpop.eq_6, cmpop.eq_7, cmpop.eq_8, cmpop.eq_9, cmpop.eq_10, cmpop.eq_11, cmpop.eq_12, cmpop.eq_13, D.truth.eq_1, D.truth.eq_2, D.truth.eq_3, D.truth.eq_4, D.truth.eq_5, D.truth.eq_6, slcop.eq_1, slcop.eq_2, bltop.eq_1, bltop.eq_2, bltop.eq_3, bltop.eq_4, bltop.eq_5, bltop.eq_6, bltop.eq_7, bltop.eq_9, bltop.eq_10, bltop.eq_11, bltop.eq_12, bltop.eq_13, bltop.eq_14, bltop.eq_15, bltop.eq_16, bltop.eq_17, bltop.eq_18, bltop.eq_19, bltop.eq_20, bltop.eq_21, bltop.eq_22, seq?.eq_1, seq?.eq_2, itemsOf.eq_1, itemsOf.eq_2, itemsOf.eq_3, enmOf.eq_1, zip2Of.eq_1, zip2Of.eq_2, endC_nx, endC_rt, PySem.sizeLine, wipeE, keepO, eqv_ii, eqv_bb, eqv_ib, eqv_bi, eqv_ss, eqv_ll, eqv_tt, eqv_nn, eqvs_nn, eqvs_cc, eqvs_r, flat_int, flat_bl, flat_non, flat_str, flat_lst, flat_tup, flats_nil, flats_cons, flats_ints, D.plain.eq_1, D.plain.eq_2, D.plain.eq_3, D.plain.eq_4, D.plain.eq_5, D.plain.eq_6, D.scal.eq_1, D.scal.eq_2, D.scal.eq_3, D.scal.eq_4, D.scal.eq_5, D.isNon.eq_1, D.isNon.eq_2, isiop, isTy, tyOk, b2i]
end
theorem signal_run {k : Nat} (ht : tab k = some ⟨3, [], 10, B_law_signal⟩) (n : Nat) {b : Int} {l : List D} (hd : Digs b l) (h2 : 2 ≤ l.length) (hl : l.length ≤ 1000) {rd : D} {qs : List Rl} (hr : itemsOf rd = .ok (qs.map Rl.d)) (hq : qs.length ≤ 100) (z : Int) (hz : 0 < z + 1) :
    ∃ ss : List Int, ss.length ≤ l.length ∧ callN tab w (n+1) k [(.sh, .lst l), (.sh, rd), (.sh, .int z)] = .ok ([], .sh, sigD ss) := by
  obtain ⟨d0, _, _, e0⟩ := digs_at hd 0 (by omega)
  obtain ⟨d1, _, _, e1⟩ := digs_at hd 1 (by omega)
  have e0 : L2.atI l 0 = some (.int d0) := L2.atI_nat (j := 0) e0
  have e1 : L2.atI l 1 = some (.int d1) := L2.atI_nat (j := 1) e1
  obtain ⟨E1, f1, lv, x4, x5, rfl, i4, i5, iv, lvl⟩ := forL_ind (b := forB (callN tab w n) w (.var 4) sgB1) (l := qs.map Rl.d) (env := [some (.sh, .lst l), some (.sh, rd), some (.sh, .int z), some (.own, .lst []), none, none, none, none, none, none])
    (fun i e => ∃ lv x4 x5, e = [some (.sh, .lst l), some (.sh, rd), some (.sh, .int z), some (.own, .lst lv), x4, x5, none, none, none, none] ∧ isIo x4 = false ∧ isIo x5 = false ∧ Ints lv ∧ lv.length = 6 * i)
    ⟨[], none, none, rfl, rfl, rfl, ⟨[], rfl⟩, rfl⟩ (fun i d e hd hI => by
      obtain ⟨lv, x4, x5, rfl, i4, i5, iv, lvl⟩ := hI
      rw [List.getElem?_map] at hd
      obtain ⟨q, q1, rfl⟩ := Option.map_eq_some_iff.mp hd
      have hi : i < qs.length := by
        rcases Nat.lt_or_ge i qs.length with y | y
        · exact y
        · rw [List.getElem?_eq_none y] at q1; cases q1
      exact ⟨_, sg_rule i4 i5 (by omega) q, _, _, _, rfl, rfl, rfl, ints_app (ints_app iv ⟨[q.h - 1, q.h, q.h + 1], rfl⟩) ⟨[q.l - 1, q.l, q.l + 1], rfl⟩, by simp [lvl]; omega⟩)
  rw [List.length_map] at lvl
  have iv2 : Ints (lv ++ [.int (-1000), .int 1000, .int 0]) := ints_app iv ⟨[-1000, 1000, 0], rfl⟩
  have lv2 : (lv ++ [D.int (-1000), .int 1000, .int 0]).length = lv.length + 3 := by simp
  generalize hLV : (lv ++ [D.int (-1000), .int 1000, .int 0]) = LV at *
  obtain ⟨N, hN⟩ : ∃ N : Int, N = LV.length := ⟨_, rfl⟩
  have hlen : bltop .len [.lst LV] = .ok (.sh, .int N) := by rw [bltop.eq_3, hN]
  have hN0 : 0 < N := by omega
  have hcl : (cut l (some 2) (some (2 + d0 % (z + 1)))).length ≤ l.length := cut_len
  have hcd : Digs b (cut l (some 2) (some (2 + d0 % (z + 1)))) := digs_sub hd cut_mem
  generalize hCL : cut l (some 2) (some (2 + d0 % (z + 1))) = CL at *
  obtain ⟨E2, f2, sg, x7, x8, x9, rfl, _, _, _, is, sl⟩ := forL_ind (b := forB (callN tab w n) w (.tup [.var 7, .var 8]) sgB3) (l := enumD 0 CL) (env := [some (.sh, .lst l), some (.sh, rd), some (.sh, .int z), some (.own, .lst LV), x4, x5, some (.own, .lst []), none, none, none])
    (fun i e => ∃ sg x7 x8 x9, e = [some (.sh, .lst l), some (.sh, rd), some (.sh, .int z), some (.own, .lst LV), x4, x5, some (.own, .lst sg), x7, x8, x9] ∧ isIo x7 = false ∧ isIo x8 = false ∧ isIo x9 = false ∧ Ints sg ∧ sg.length = i)
    ⟨[], none, none, none, rfl, rfl, rfl, rfl, ⟨[], rfl⟩, rfl⟩ (fun i d e hdd hI => by
      obtain ⟨sg, x7, x8, x9, rfl, i7, i8, i9, is, sl⟩ := hI
      rw [enumD_get] at hdd
      obtain ⟨y, y1, rfl⟩ := Option.map_eq_some_iff.mp hdd
      obtain ⟨ns, rfl, _⟩ := hcd
      rw [List.getElem?_map] at y1
      obtain ⟨x, q1, rfl⟩ := Option.map_eq_some_iff.mp y1
      have hi : i < ns.length := by
        rcases Nat.lt_or_ge i ns.length with y | y
        · exact y
        · rw [List.getElem?_eq_none y] at q1; cases q1
      rw [List.length_map] at hcl
      have hpos : 0 < ((0 + i : Nat) : Int) → ∃ pre v, sg = pre ++ [D.int v] := fun h => by
        obtain ⟨ms, rfl⟩ := is
        rw [List.length_map] at sl
        have : ms ≠ [] := fun z => by rw [z] at sl; simp at sl; omega
        refine ⟨ms.dropLast.map .int, ms.getLast this, ?_⟩
        rw [← List.map_singleton, ← List.map_append, List.dropLast_concat_getLast]
      obtain ⟨v, kk, hv⟩ := sg_item (w := w) (C := callN tab w n) (rd := rd) (sd := .int z) (x4 := x4) (x5 := x5) (i := ((0 + i : Nat) : Int)) (x := x) i7 i8 i9 e1 N hlen hN0 (fun y => ints_mod iv2 (by omega) N y hN) hpos (by omega)
      exact ⟨_, hv, _, _, _, _, rfl, rfl, rfl, rfl, ints_app is ⟨[v], rfl⟩, by rw [List.length_append, sl]; rfl⟩)
  rw [enumD_len] at sl
  obtain ⟨ss, rfl⟩ := is
  rw [List.length_map] at sl
  refine ⟨ss, by omega, ?_⟩
  rw [callN_ev ht rfl rfl rfl]
  show bnd (execs _ _ (.cons (sgS 0) (.cons (.forS (.var 4) (.val (.var 1)) sgB1) (.cons (sgS 2) (.cons (sgS 3) (.cons (.forS (.tup [.var 7, .var 8]) (.enm (.slc (.var 0) (some (.cst (.int 2))) (some (.bin .add (.cst (.int 2)) (.bin .mod (.sub (.var 0) (.cst (.int 0))) (.bin .add (.var 2) (.cst (.int 1)))))))) sgB3) (.cons (sgS 5) .nil)))))) [some (.sh, .lst l), some (.sh, rd), some (.sh, .int z), none, none, none, none, none, none, none]) endC = _
  rw [sg0, sg1 hr f1, sg2 (by simp; omega), hLV, sg3, sg4 e0 hz (by rw [hCL]; exact f2), sg5]
  rfl
end LW

namespace LW
open AR
/-- q covers p -/
def Rl.cov (q p : Rl) : Prop := q.h ≤ p.h ∧ q.r ≤ p.r ∧ q.l ≤ p.l ∧ p.f ≤ q.f
structure Rel2 (q p : Rl) (a1 : Bool) (c1 : Int) (a2 : Bool) (c2 : Int) : Prop where
  p1 : 0 ≤ c1
  p2 : 0 ≤ c2
  q1 : a1 = false → c1 < q.r
  q2 : a1 = true → c1 < q.f
  q3 : a2 = false → c2 < p.r
  q4 : a2 = true → c2 < p.f
  on : a2 = true → a1 = true
  off : a1 = false → c2 ≤ c1
  both : a2 = true → c1 ≤ c2
theorem rel_step {q p : Rl} (hq : q.ok) (hp : p.ok) (cv : q.cov p) {a1 a2 : Bool} {c1 c2 : Int} (R : Rel2 q p a1 c1 a2 c2) (s : Int) :
    Rel2 q p (stepA q.h q.r q.l q.f c1 s a1).1 (stepA q.h q.r q.l q.f c1 s a1).2 (stepA p.h p.r p.l p.f c2 s a2).1 (stepA p.h p.r p.l p.f c2 s a2).2 := by
  obtain ⟨k1, k2, k3, _, _⟩ := hq
  obtain ⟨j1, j2, j3, _, _⟩ := hp
  obtain ⟨v1, v2, v3, v4⟩ := cv
  obtain ⟨h, r, l, f⟩ := q
  obtain ⟨h', r', l', f'⟩ := p
  dsimp only at *
  obtain ⟨p1, p2, q1, q2, q3, q4, on, off, both⟩ := R
  dsimp only at *
  cases a1 <;> cases a2 <;> simp at q1 q2 q3 q4 on off both <;> unfold stepA <;> simp only [Bool.false_eq_true, ↓reduceIte]
  all_goals (
    by_cases e1 : s < l <;> by_cases e2 : h ≤ s <;> by_cases e3 : s < l' <;> by_cases e4 : h' ≤ s <;> simp only [e1, e2, e3, e4, ↓reduceIte] <;>
    first
      | omega
      | (split <;> split <;> (refine ⟨?_, ?_, ?_, ?_, ?_, ?_, ?_, ?_, ?_⟩ <;> simp <;> omega)))
end LW

namespace LW
open AR
variable {w : Nat} {tab : Nat → Option Fn}
theorem acts_cov {q p : Rl} (hq : q.ok) (hp : p.ok) (cv : q.cov p) : ∀ (ss : List Int) (a1 a2 : Bool) (c1 c2 : Int), Rel2 q p a1 c1 a2 c2 → ∀ i, (acts p a2 c2 ss).getD i false = true → (acts q a1 c1 ss).getD i false = true
  | [], a1, a2, c1, c2, R, i, h => by simp [acts] at h
  | s :: ss, a1, a2, c1, c2, R, 0, h => by
    have R' := rel_step hq hp cv R s
    simp only [acts, List.getD_cons_zero] at h ⊢
    exact R'.on h
  | s :: ss, a1, a2, c1, c2, R, i + 1, h => by
    have R' := rel_step hq hp cv R s
    simp only [acts, List.getD_cons_succ] at h ⊢
    exact acts_cov hq hp cv ss _ _ _ _ R' i h
theorem rel_start {q p : Rl} (hq : q.ok) (hp : p.ok) : Rel2 q p false 0 false 0 := by
  obtain ⟨k1, k2, _⟩ := hq
  obtain ⟨j1, j2, _⟩ := hp
  constructor <;> intros <;> first | omega | contradiction | (simp_all; done) | omega
theorem idxT_mem : ∀ (bs : List Bool) (n : Nat) (x : Int), x ∈ idxT n bs ↔ ∃ i : Nat, x = ((n + i : Nat) : Int) ∧ bs.getD i false = true
  | [], n, x => by simp [idxT]
  | b :: bs, n, x => by
    rw [idxT, List.mem_append, idxT_mem bs (n + 1) x]
    constructor
    · rintro (h | ⟨i, h1, h2⟩)
      · cases b with
        | false => simp at h
        | true =>
          simp at h
          exact ⟨0, by rw [h]; rfl, rfl⟩
      · exact ⟨i + 1, by rw [h1]; congr 1; omega, by simpa using h2⟩
    · rintro ⟨i, h1, h2⟩
      cases i with
      | zero =>
        left
        simp at h2
        rw [h2, h1]; simp
      | succ i => exact .inr ⟨i, by rw [h1]; congr 1; omega, by simpa using h2⟩
theorem flags_get (m : Bool) (qs : List Rl) (ss : List Int) (i : Nat) (hi : i < ss.length) : (flagsL m qs ss).getD i false = comb m (qs.map fun q => (acts q false 0 ss).getD i false) := by
  unfold flagsL
  rw [List.getD_eq_getElem?_getD, List.getElem?_map, List.getElem?_range hi]
  rfl
theorem flags_len (m : Bool) (qs : List Rl) (ss : List Int) : (flagsL m qs ss).length = ss.length := by unfold flagsL; rw [List.length_map, List.length_range]
/-- nothing is added -/
theorem cov_sub {q p : Rl} (hq : q.ok) (hp : p.ok) (cv : q.cov p) (ss : List Int) : ∀ x ∈ idxT 0 (flagsL true [p] ss), x ∈ idxT 0 (flagsL true [q] ss) := fun x hx => by
  rw [idxT_mem] at hx ⊢
  obtain ⟨i, h1, h2⟩ := hx
  refine ⟨i, h1, ?_⟩
  have hi : i < ss.length := by
    rcases Nat.lt_or_ge i ss.length with z | z
    · exact z
    · rw [List.getD_eq_getElem?_getD, List.getElem?_eq_none (by rw [flags_len]; exact z)] at h2; cases h2
  rw [flags_get _ _ _ _ hi] at h2 ⊢
  have h3 : (acts p false 0 ss).getD i false = true := by simpa [comb] using h2
  have h4 := acts_cov hq hp cv ss false false 0 0 (rel_start hq hp) i h3
  simpa [comb] using h4
end LW

namespace LW
open AR
variable {w : Nat} {tab : Nat → Option Fn}
section
variable {C : CallF} {ca cs cc cm cr ct cd : Nat}
/-- k03's law -/
def L3 (ca cs cc cm cr ct cd : Nat) (k : Nat) : S := match B_law_2 ca cs cc cm cr ct cd with
  | .cons (.forS _ _ (.cons s0 (.cons s1 (.cons s2 (.cons s3 (.cons s4 (.cons s5 (.cons s6 _)))))))) _ => [s0, s1, s2, s3, s4, s5, s6].getD k .pass
  | _ => .pass
def L3p (ca cs cc cm cr ct cd : Nat) (k : Nat) : S := match L3 ca cs cc cm cr ct cd 6 with
  | .forS _ _ (.cons s0 (.cons s1 (.cons s2 _))) => [s0, s1, s2].getD k .pass
  | _ => .pass
def L3k (ca cs cc cm cr ct cd : Nat) (k : Nat) : S := match L3p ca cs cc cm cr ct cd 2 with
  | .forS _ _ (.cons s0 (.cons s1 (.cons s2 (.cons s3 _)))) => [s0, s1, s2, s3].getD k .pass
  | _ => .pass
variable {sc id ru : D} {l ot pa : List D} {q p : D} {ex : Bool} {x9 x10 x11 x12 x13 : Sl1} {K : Int} {rest : Ss} {sg : D}
theorem k_0 (h10 : isIo x10 = false) (hC : C cs [(.sh, .lst (cut l (some (22 + 30 * K)) none)), (.sh, .lst [q, p]), (.sh, .int 28)] = .ok ([], .sh, sg)) :
    execs C w (.cons (L3k ca cs cc cm cr ct cd 0) rest) [some (.sh, sc), some (.sh, id), some (.sh, .lst l), some (.sh, ru), some (.own, .lst ot), some (.own, .lst pa), some (.sh, p), some (.sh, q), some (.sh, .bl ex), some (.sh, .int K), x10, x11, x12, x13] =
      execs C w rest [some (.sh, sc), some (.sh, id), some (.sh, .lst l), some (.sh, ru), some (.own, .lst ot), some (.own, .lst pa), some (.sh, p), some (.sh, q), some (.sh, .bl ex), some (.sh, .int K), some (.sh, sg), x11, x12, x13] := by
  have k30 : smallI 30 = true := rfl
  simp only [L3k, L3p, L3, B_law_2, List.getD_cons_zero, List.getD_cons_succ]
  simp [h10, hC, k30, kTup_ap, kLst_ap, kRes_ap, kBin2_ap, kBin_ap, kBl_ap, kNb_ap, kNot_ap, kAnd2_ap, kAnd_ap, kOr2_ap, kOr_ap, kIfe2_ap, kIfe_ap, kCmp2_ap, kCmp_ap, kCall4_ap, kCall3_ap, kCall2_ap, kCall_ap, kBlt_ap, kIsi_ap, kSh_ap, kSub2_ap, kSub_ap, kSlc3_ap, kSlc2_ap, kSlc_ap, kCons_ap, kEvs_ap, kEvP_ap, kConsF_ap, kEvPar_ap, kConsA_ap, kEvA_ap, kConsS_ap, kIfs2_ap, kIfs_ap, kEl_ap, kL_ap, kVal_ap, kEn_ap, kEnm_ap, kZ2_ap, kZ_ap, kTr_ap, kT0_ap, kT1_ap, kT2_ap, kComp_ap, kColl_ap, kQ_ap, kB_ap, kFor2_ap, kFor_ap, kNx_ap, kAsg_ap, kAsgT_ap, kPar2_ap, kPar_ap, kStp_ap, kApp_ap, kRet_ap, kIfS_ap, kEx_ap, kEnd_ap, ev_var, getV_ok, fl_sh, fl_own, fl_io, ev_cst, ev_gfn, ev_tup, ev_lst, ev_bin, negV_int, ev_neg, ev_not, ev_and, ev_or, ev_ife, ev_cmp, ev_call, ev_blt, ev_isi, ev_sub, ev_slc, intO_int, evO_no, evO_yes, AR.evs_nil, AR.evs_cons, evP_nil, evP_cons, evPar_nil, evPar_cons, evA_nil, evA_c, aO_no, E.isRef.eq_1, E.isRef.eq_2, res_nil, res_v, refs_nil, refs_vv, outs_nil, nodup_nil, evIfs_nil, evIfs_cons, evCl_el, ev_comp, evCl_one, evI_val, rngV_int, evI_rng1, evI_enm, evI_zip2, isMut_eq, any_nil, any_cons, mutO.eq_1, mutO.eq_2, mutO.eq_3, setO_ok, setV_o, isIo_no, isIo_sh, isIo_own, frz_nil, frz_cons, frzO_own, frzO_sh, frzO_no, plainF_ap, evF_eq, pureF_no, pureF_yes, evT_eq, pureT_no, pureT_yes, ice_nil, ice_cons, iceO_some, iceO_none, new_sh, new_fr, appO_own, fre_sh, fre_fr, pk_sh, pk_fr, pk_bo, pk_bi, out_sh, out_fr, out_bo, subO_ok, sub_tup, sub_lst, sub_scr, AR.exec_asgv, exec_asgt, exec_par, exec_app, exec_aug, augV_int, augO_int, exec_ret, exec_ret0, exec_ife, exec_ex, exec_pass, AR.execs_nil, AR.execs_cons, thenS_nx, thenS_rt, AR.exec_for, exec_whl, bind_var, bind_tup, binds_nil, binds_cons, stp_nil, stp_cons, E.esc, E.escP, E.escR, E.pure, Es.esc, Es.escP, Es.pure, pureO, escO, It.esc, It.escP, It.pure, Cl.esc, Cl.pureC, binop.eq_1, binop.eq_2, binop.eq_3, binop.eq_4, binop.eq_5, binop.eq_6, binop.eq_7, binop.eq_8, binop.eq_9, binop.eq_10, cmpop.eq_1, cmpop.eq_2, cmpop.eq_3, cmpop.eq_4, cmpop.eq_5, cmpop.eq_6, cmpop.eq_7, cmpop.eq_8, cmpop.eq_9, cmpop.eq_10, cmpop.eq_11, cmpop.eq_12, cmpop.eq_13, D.truth.eq_1, D.truth.eq_2, D.truth.eq_3, D.truth.eq_4, D.truth.eq_5, D.truth.eq_6, slcop.eq_1, slcop.eq_2, bltop.eq_1, bltop.eq_2, bltop.eq_3, bltop.eq_4, bltop.eq_5, bltop.eq_6, bltop.eq_7, bltop.eq_9, bltop.eq_10, bltop.eq_11, bltop.eq_12, bltop.eq_13, bltop.eq_14, bltop.eq_15, bltop.eq_16, bltop.eq_17, bltop.eq_18, bltop.eq_19, bltop.eq_20, bltop.eq_21, bltop.eq_22, seq?.eq_1, seq?.eq_2, itemsOf.eq_1, itemsOf.eq_2, itemsOf.eq_3, enmOf.eq_1, zip2Of.eq_1, zip2Of.eq_2, endC_nx, endC_rt, PySem.sizeLine, wipeE, keepO, eqv_ii, eqv_bb, eqv_ib, eqv_bi, eqv_ss, eqv_ll, eqv_tt, eqv_nn, eqvs_nn, eqvs_cc, eqvs_r, flat_int, flat_bl, flat_non, flat_str, flat_lst, flat_tup, flats_nil, flats_cons, flats_ints, D.plain.eq_1, D.plain.eq_2, D.plain.eq_3, D.plain.eq_4, D.plain.eq_5, D.plain.eq_6, D.scal.eq_1, D.scal.eq_2, D.scal.eq_3, D.scal.eq_4, D.scal.eq_5, D.isNon.eq_1, D.isNon.eq_2, isiop, isTy, tyOk, b2i]
theorem k_1 (h11 : isIo x11 = false) {W : D} (hC : C ca [(.sh, .tup [.str [97, 110, 121], .tup [q]]), (.sh, sg)] = .ok ([], .sh, W)) :
    execs C w (.cons (L3k ca cs cc cm cr ct cd 1) rest) [some (.sh, sc), some (.sh, id), some (.sh, .lst l), some (.sh, ru), some (.own, .lst ot), some (.own, .lst pa), some (.sh, p), some (.sh, q), some (.sh, .bl ex), some (.sh, .int K), some (.sh, sg), x11, x12, x13] =
      execs C w rest [some (.sh, sc), some (.sh, id), some (.sh, .lst l), some (.sh, ru), some (.own, .lst ot), some (.own, .lst pa), some (.sh, p), some (.sh, q), some (.sh, .bl ex), some (.sh, .int K), some (.sh, sg), some (.sh, W), x12, x13] := by
  simp only [L3k, L3p, L3, B_law_2, List.getD_cons_zero, List.getD_cons_succ]
  simp [h11, hC, kTup_ap, kLst_ap, kRes_ap, kBin2_ap, kBin_ap, kBl_ap, kNb_ap, kNot_ap, kAnd2_ap, kAnd_ap, kOr2_ap, kOr_ap, kIfe2_ap, kIfe_ap, kCmp2_ap, kCmp_ap, kCall4_ap, kCall3_ap, kCall2_ap, kCall_ap, kBlt_ap, kIsi_ap, kSh_ap, kSub2_ap, kSub_ap, kSlc3_ap, kSlc2_ap, kSlc_ap, kCons_ap, kEvs_ap, kEvP_ap, kConsF_ap, kEvPar_ap, kConsA_ap, kEvA_ap, kConsS_ap, kIfs2_ap, kIfs_ap, kEl_ap, kL_ap, kVal_ap, kEn_ap, kEnm_ap, kZ2_ap, kZ_ap, kTr_ap, kT0_ap, kT1_ap, kT2_ap, kComp_ap, kColl_ap, kQ_ap, kB_ap, kFor2_ap, kFor_ap, kNx_ap, kAsg_ap, kAsgT_ap, kPar2_ap, kPar_ap, kStp_ap, kApp_ap, kRet_ap, kIfS_ap, kEx_ap, kEnd_ap, ev_var, getV_ok, fl_sh, fl_own, fl_io, ev_cst, ev_gfn, ev_tup, ev_lst, ev_bin, negV_int, ev_neg, ev_not, ev_and, ev_or, ev_ife, ev_cmp, ev_call, ev_blt, ev_isi, ev_sub, ev_slc, intO_int, evO_no, evO_yes, AR.evs_nil, AR.evs_cons, evP_nil, evP_cons, evPar_nil, evPar_cons, evA_nil, evA_c, aO_no, E.isRef.eq_1, E.isRef.eq_2, res_nil, res_v, refs_nil, refs_vv, outs_nil, nodup_nil, evIfs_nil, evIfs_cons, evCl_el, ev_comp, evCl_one, evI_val, rngV_int, evI_rng1, evI_enm, evI_zip2, isMut_eq, any_nil, any_cons, mutO.eq_1, mutO.eq_2, mutO.eq_3, setO_ok, setV_o, isIo_no, isIo_sh, isIo_own, frz_nil, frz_cons, frzO_own, frzO_sh, frzO_no, plainF_ap, evF_eq, pureF_no, pureF_yes, evT_eq, pureT_no, pureT_yes, ice_nil, ice_cons, iceO_some, iceO_none, new_sh, new_fr, appO_own, fre_sh, fre_fr, pk_sh, pk_fr, pk_bo, pk_bi, out_sh, out_fr, out_bo, subO_ok, sub_tup, sub_lst, sub_scr, AR.exec_asgv, exec_asgt, exec_par, exec_app, exec_aug, augV_int, augO_int, exec_ret, exec_ret0, exec_ife, exec_ex, exec_pass, AR.execs_nil, AR.execs_cons, thenS_nx, thenS_rt, AR.exec_for, exec_whl, bind_var, bind_tup, binds_nil, binds_cons, stp_nil, stp_cons, E.esc, E.escP, E.escR, E.pure, Es.esc, Es.escP, Es.pure, pureO, escO, It.esc, It.escP, It.pure, Cl.esc, Cl.pureC, binop.eq_1, binop.eq_2, binop.eq_3, binop.eq_4, binop.eq_5, binop.eq_6, binop.eq_7, binop.eq_8, binop.eq_9, binop.eq_10, cmpop.eq_1, cmpop.eq_2, cmpop.eq_3, cmpop.eq_4, cmpop.eq_5, cmpop.eq_6, cmpop.eq_7, cmpop.eq_8, cmpop.eq_9, cmpop.eq_10, cmpop.eq_11, cmpop.eq_12, cmpop.eq_13, D.truth.eq_1, D.truth.eq_2, D.truth.eq_3, D.truth.eq_4, D.truth.eq_5, D.truth.eq_6, slcop.eq_1, slcop.eq_2, bltop.eq_1, bltop.eq_2, bltop.eq_3, bltop.eq_4, bltop.eq_5, bltop.eq_6, bltop.eq_7, bltop.eq_9, bltop.eq_10, bltop.eq_11, bltop.eq_12, bltop.eq_13, bltop.eq_14, bltop.eq_15, bltop.eq_16, bltop.eq_17, bltop.eq_18, bltop.eq_19, bltop.eq_20, bltop.eq_21, bltop.eq_22, seq?.eq_1, seq?.eq_2, itemsOf.eq_1, itemsOf.eq_2, itemsOf.eq_3, enmOf.eq_1, zip2Of.eq_1, zip2Of.eq_2, endC_nx, endC_rt, PySem.sizeLine, wipeE, keepO, eqv_ii, eqv_bb, eqv_ib, eqv_bi, eqv_ss, eqv_ll, eqv_tt, eqv_nn, eqvs_nn, eqvs_cc, eqvs_r, flat_int, flat_bl, flat_non, flat_str, flat_lst, flat_tup, flats_nil, flats_cons, flats_ints, D.plain.eq_1, D.plain.eq_2, D.plain.eq_3, D.plain.eq_4, D.plain.eq_5, D.plain.eq_6, D.scal.eq_1, D.scal.eq_2, D.scal.eq_3, D.scal.eq_4, D.scal.eq_5, D.isNon.eq_1, D.isNon.eq_2, isiop, isTy, tyOk, b2i]
theorem all_scal : ∀ ns : List Int, (ns.map D.int).all D.scal = true
  | [] => rfl
  | n :: ns => by rw [List.map_cons, List.all_cons, all_scal ns]; rfl
theorem any_eqv (m : Int) : ∀ ns : List Int, ((ns.map D.int).any fun y => D.eqv y (.int m)) = decide (m ∈ ns)
  | [] => rfl
  | n :: ns => by
    rw [List.map_cons, List.any_cons, any_eqv m ns, eqv_ii]
    by_cases h : m = n
    · subst h; simp
    · simp [h, Ne.symm h]
theorem not_in (m : Int) (ns : List Int) : cmpop .notin (.int m) (.tup (ns.map .int)) = .ok (!decide (m ∈ ns)) := by
  rw [cmpop.eq_13, inop.eq_1, all_scal, any_eqv]
  rfl
theorem k_turn {e1 e2 e3 e4 e5 e6 e7 e8 e9 e10 e11 : Sl1} {e12 : Sl1} {m : Int} {ns : List Int} :
    ∃ e', compB C [13] (.var 13) (.cons (.cmp .notin (.var 13) (.var 11)) .nil) (.var 13) [e1, e2, e3, e4, e5, e6, e7, e8, e9, e10, e11, some (.sh, .tup (ns.map .int)), e12, none] (.int m) = .ok (e', if m ∈ ns then [] else [.int m]) ∧
      keepO [13] [e1, e2, e3, e4, e5, e6, e7, e8, e9, e10, e11, some (.sh, .tup (ns.map .int)), e12, none] e' = [e1, e2, e3, e4, e5, e6, e7, e8, e9, e10, e11, some (.sh, .tup (ns.map .int)), e12, none] := by
  have hn := not_in m ns
  rw [compB_ap]
  generalize ns.map D.int = N at *
  by_cases h : m ∈ ns
  · refine ⟨[e1, e2, e3, e4, e5, e6, e7, e8, e9, e10, e11, some (.sh, .tup N), e12, some (.sh, .int m)], ?_, rfl⟩
    simp [h] at hn
    simp [hn, h, ev_cmp, kCmp_ap, kCmp2_ap, kBl_ap, ev_var, getV_ok, fl_sh, pk_sh, bind_var, setV_o, setO_ok, isIo_no, kB_ap, evIfs_cons, kIfs_ap, kIfs2_ap, evIfs_nil, kQ_ap, evCl_el, kEl_ap, fre_sh, E.pure, D.truth.eq_2]
  · refine ⟨[e1, e2, e3, e4, e5, e6, e7, e8, e9, e10, e11, some (.sh, .tup N), e12, some (.sh, .int m)], ?_, rfl⟩
    simp [h] at hn
    simp [hn, h, ev_cmp, kCmp_ap, kCmp2_ap, kBl_ap, ev_var, getV_ok, fl_sh, pk_sh, bind_var, setV_o, setO_ok, isIo_no, kB_ap, evIfs_cons, kIfs_ap, kIfs2_ap, evIfs_nil, kQ_ap, evCl_el, kEl_ap, fre_sh, E.pure, D.truth.eq_2]
theorem k_col {e1 e2 e3 e4 e5 e6 e7 e8 e9 e10 e11 : Sl1} {e12 : Sl1} {ns : List Int} : ∀ ms : List Int, ∃ X : List Int, (∀ x ∈ X, x ∈ ms ∧ x ∉ ns) ∧ X.length ≤ ms.length ∧ collect [13] (compB C [13] (.var 13) (.cons (.cmp .notin (.var 13) (.var 11)) .nil) (.var 13)) (ms.map .int) [e1, e2, e3, e4, e5, e6, e7, e8, e9, e10, e11, some (.sh, .tup (ns.map .int)), e12, none] =
      .ok ([e1, e2, e3, e4, e5, e6, e7, e8, e9, e10, e11, some (.sh, .tup (ns.map .int)), e12, none], X.map .int)
  | [] => ⟨[], (fun x hx => by cases hx), Nat.le_refl _, rfl⟩
  | m :: ms => by
    obtain ⟨X, h1, hX, h2⟩ := k_col (e1 := e1) (e2 := e2) (e3 := e3) (e4 := e4) (e5 := e5) (e6 := e6) (e7 := e7) (e8 := e8) (e9 := e9) (e10 := e10) (e11 := e11) (e12 := e12) (ns := ns) ms
    obtain ⟨e', h3, h4⟩ := k_turn (C := C) (e1 := e1) (e2 := e2) (e3 := e3) (e4 := e4) (e5 := e5) (e6 := e6) (e7 := e7) (e8 := e8) (e9 := e9) (e10 := e10) (e11 := e11) (e12 := e12) (m := m) (ns := ns)
    by_cases h : m ∈ ns
    · refine ⟨X, fun x hx => ⟨List.mem_cons_of_mem _ (h1 x hx).1, (h1 x hx).2⟩, by simp; omega, ?_⟩
      rw [List.map_cons, collect, h3, bnd_yes]
      show bnd (collect _ _ _ (keepO [13] _ e')) _ = _
      rw [h4, h2, bnd_yes, if_pos h]
      rfl
    · refine ⟨m :: X, fun x hx => ?_, by simp; omega, ?_⟩
      · rcases List.mem_cons.mp hx with e | hx
        · subst e; exact ⟨List.mem_cons_self, h⟩
        · exact ⟨List.mem_cons_of_mem _ (h1 x hx).1, (h1 x hx).2⟩
      · rw [List.map_cons, collect, h3, bnd_yes]
        show bnd (collect _ _ _ (keepO [13] _ e')) _ = _
        rw [h4, h2, bnd_yes, if_neg h]
        rfl
end
end LW

namespace LW
open AR
variable {w : Nat} {tab : Nat → Option Fn}
section
variable {C : CallF} {ca cs cc cm cr ct cd : Nat} {sc id ru : D} {l ot pa : List D} {q p : D} {ex : Bool} {x9 x10 x11 x12 x13 : Sl1} {K : Int} {rest : Ss} {sg : D}
theorem k_2 (h12 : isIo x12 = false) {W ms : List D} {X : List D} (hl : X.length ≤ 16777216) (hC : C ca [(.sh, .tup [.str [97, 110, 121], .tup [p]]), (.sh, sg)] = .ok ([], .sh, .tup ms))
    (hX : collect [13] (compB C [13] (.var 13) (.cons (.cmp .notin (.var 13) (.var 11)) .nil) (.var 13)) ms [some (.sh, sc), some (.sh, id), some (.sh, .lst l), some (.sh, ru), some (.own, .lst ot), some (.own, .lst pa), some (.sh, p), some (.sh, q), some (.sh, .bl ex), some (.sh, .int K), some (.sh, sg), some (.sh, .tup W), x12, none] =
      .ok ([some (.sh, sc), some (.sh, id), some (.sh, .lst l), some (.sh, ru), some (.own, .lst ot), some (.own, .lst pa), some (.sh, p), some (.sh, q), some (.sh, .bl ex), some (.sh, .int K), some (.sh, sg), some (.sh, .tup W), x12, none], X)) :
    execs C w (.cons (L3k ca cs cc cm cr ct cd 2) rest) [some (.sh, sc), some (.sh, id), some (.sh, .lst l), some (.sh, ru), some (.own, .lst ot), some (.own, .lst pa), some (.sh, p), some (.sh, q), some (.sh, .bl ex), some (.sh, .int K), some (.sh, sg), some (.sh, .tup W), x12, none] =
      execs C w rest [some (.sh, sc), some (.sh, id), some (.sh, .lst l), some (.sh, ru), some (.own, .lst ot), some (.own, .lst pa), some (.sh, p), some (.sh, q), some (.sh, .bl ex), some (.sh, .int K), some (.sh, sg), some (.sh, .tup W), some (.own, .lst X), none] := by
  simp only [L3k, L3p, L3, B_law_2, List.getD_cons_zero, List.getD_cons_succ]
  simp [h12, hC, hX, hl, kTup_ap, kLst_ap, kRes_ap, kBin2_ap, kBin_ap, kBl_ap, kNb_ap, kNot_ap, kAnd2_ap, kAnd_ap, kOr2_ap, kOr_ap, kIfe2_ap, kIfe_ap, kCmp2_ap, kCmp_ap, kCall4_ap, kCall3_ap, kCall2_ap, kCall_ap, kBlt_ap, kIsi_ap, kSh_ap, kSub2_ap, kSub_ap, kSlc3_ap, kSlc2_ap, kSlc_ap, kCons_ap, kEvs_ap, kEvP_ap, kConsF_ap, kEvPar_ap, kConsA_ap, kEvA_ap, kConsS_ap, kIfs2_ap, kIfs_ap, kEl_ap, kL_ap, kVal_ap, kEn_ap, kEnm_ap, kZ2_ap, kZ_ap, kTr_ap, kT0_ap, kT1_ap, kT2_ap, kComp_ap, kColl_ap, kQ_ap, kB_ap, kFor2_ap, kFor_ap, kNx_ap, kAsg_ap, kAsgT_ap, kPar2_ap, kPar_ap, kStp_ap, kApp_ap, kRet_ap, kIfS_ap, kEx_ap, kEnd_ap, ev_var, getV_ok, fl_sh, fl_own, fl_io, ev_cst, ev_gfn, ev_tup, ev_lst, ev_bin, negV_int, ev_neg, ev_not, ev_and, ev_or, ev_ife, ev_cmp, ev_call, ev_blt, ev_isi, ev_sub, ev_slc, intO_int, evO_no, evO_yes, AR.evs_nil, AR.evs_cons, evP_nil, evP_cons, evPar_nil, evPar_cons, evA_nil, evA_c, aO_no, E.isRef.eq_1, E.isRef.eq_2, res_nil, res_v, refs_nil, refs_vv, outs_nil, nodup_nil, evIfs_nil, evIfs_cons, evCl_el, ev_comp, evCl_one, evI_val, rngV_int, evI_rng1, evI_enm, evI_zip2, isMut_eq, any_nil, any_cons, mutO.eq_1, mutO.eq_2, mutO.eq_3, setO_ok, setV_o, isIo_no, isIo_sh, isIo_own, frz_nil, frz_cons, frzO_own, frzO_sh, frzO_no, plainF_ap, evF_eq, pureF_no, pureF_yes, evT_eq, pureT_no, pureT_yes, ice_nil, ice_cons, iceO_some, iceO_none, new_sh, new_fr, appO_own, fre_sh, fre_fr, pk_sh, pk_fr, pk_bo, pk_bi, out_sh, out_fr, out_bo, subO_ok, sub_tup, sub_lst, sub_scr, AR.exec_asgv, exec_asgt, exec_par, exec_app, exec_aug, augV_int, augO_int, exec_ret, exec_ret0, exec_ife, exec_ex, exec_pass, AR.execs_nil, AR.execs_cons, thenS_nx, thenS_rt, AR.exec_for, exec_whl, bind_var, bind_tup, binds_nil, binds_cons, stp_nil, stp_cons, E.esc, E.escP, E.escR, E.pure, Es.esc, Es.escP, Es.pure, pureO, escO, It.esc, It.escP, It.pure, Cl.esc, Cl.pureC, binop.eq_1, binop.eq_2, binop.eq_3, binop.eq_4, binop.eq_5, binop.eq_6, binop.eq_7, binop.eq_8, binop.eq_9, binop.eq_10, cmpop.eq_1, cmpop.eq_2, cmpop.eq_3, cmpop.eq_4, cmpop.eq_5, cmpop.eq_6, cmpop.eq_7, cmpop.eq_8, cmpop.eq_9, cmpop.eq_10, cmpop.eq_11, cmpop.eq_12, cmpop.eq_13, D.truth.eq_1, D.truth.eq_2, D.truth.eq_3, D.truth.eq_4, D.truth.eq_5, D.truth.eq_6, slcop.eq_1, slcop.eq_2, bltop.eq_1, bltop.eq_2, bltop.eq_3, bltop.eq_4, bltop.eq_5, bltop.eq_6, bltop.eq_7, bltop.eq_9, bltop.eq_10, bltop.eq_11, bltop.eq_12, bltop.eq_13, bltop.eq_14, bltop.eq_15, bltop.eq_16, bltop.eq_17, bltop.eq_18, bltop.eq_19, bltop.eq_20, bltop.eq_21, bltop.eq_22, seq?.eq_1, seq?.eq_2, itemsOf.eq_1, itemsOf.eq_2, itemsOf.eq_3, enmOf.eq_1, zip2Of.eq_1, zip2Of.eq_2, endC_nx, endC_rt, PySem.sizeLine, wipeE, keepO, eqv_ii, eqv_bb, eqv_ib, eqv_bi, eqv_ss, eqv_ll, eqv_tt, eqv_nn, eqvs_nn, eqvs_cc, eqvs_r, flat_int, flat_bl, flat_non, flat_str, flat_lst, flat_tup, flats_nil, flats_cons, flats_ints, D.plain.eq_1, D.plain.eq_2, D.plain.eq_3, D.plain.eq_4, D.plain.eq_5, D.plain.eq_6, D.scal.eq_1, D.scal.eq_2, D.scal.eq_3, D.scal.eq_4, D.scal.eq_5, D.isNon.eq_1, D.isNon.eq_2, isiop, isTy, tyOk, b2i]
theorem k_3 {W : D} {X : List Int} (hX : ex = true → X = []) :
    execs C w (.cons (L3k ca cs cc cm cr ct cd 3) rest) [some (.sh, sc), some (.sh, id), some (.sh, .lst l), some (.sh, ru), some (.own, .lst ot), some (.own, .lst pa), some (.sh, p), some (.sh, q), some (.sh, .bl ex), some (.sh, .int K), some (.sh, sg), some (.sh, W), some (.own, .lst (X.map .int)), none] =
      execs C w rest [some (.sh, sc), some (.sh, id), some (.sh, .lst l), some (.sh, ru), some (.own, .lst ot), some (.own, .lst pa), some (.sh, p), some (.sh, q), some (.sh, .bl ex), some (.sh, .int K), some (.sh, sg), some (.sh, W), some (.own, .lst (X.map .int)), none] := by
  simp only [L3k, L3p, L3, B_law_2, List.getD_cons_zero, List.getD_cons_succ]
  cases ex with
  | false => simp [kTup_ap, kLst_ap, kRes_ap, kBin2_ap, kBin_ap, kBl_ap, kNb_ap, kNot_ap, kAnd2_ap, kAnd_ap, kOr2_ap, kOr_ap, kIfe2_ap, kIfe_ap, kCmp2_ap, kCmp_ap, kCall4_ap, kCall3_ap, kCall2_ap, kCall_ap, kBlt_ap, kIsi_ap, kSh_ap, kSub2_ap, kSub_ap, kSlc3_ap, kSlc2_ap, kSlc_ap, kCons_ap, kEvs_ap, kEvP_ap, kConsF_ap, kEvPar_ap, kConsA_ap, kEvA_ap, kConsS_ap, kIfs2_ap, kIfs_ap, kEl_ap, kL_ap, kVal_ap, kEn_ap, kEnm_ap, kZ2_ap, kZ_ap, kTr_ap, kT0_ap, kT1_ap, kT2_ap, kComp_ap, kColl_ap, kQ_ap, kB_ap, kFor2_ap, kFor_ap, kNx_ap, kAsg_ap, kAsgT_ap, kPar2_ap, kPar_ap, kStp_ap, kApp_ap, kRet_ap, kIfS_ap, kEx_ap, kEnd_ap, ev_var, getV_ok, fl_sh, fl_own, fl_io, ev_cst, ev_gfn, ev_tup, ev_lst, ev_bin, negV_int, ev_neg, ev_not, ev_and, ev_or, ev_ife, ev_cmp, ev_call, ev_blt, ev_isi, ev_sub, ev_slc, intO_int, evO_no, evO_yes, AR.evs_nil, AR.evs_cons, evP_nil, evP_cons, evPar_nil, evPar_cons, evA_nil, evA_c, aO_no, E.isRef.eq_1, E.isRef.eq_2, res_nil, res_v, refs_nil, refs_vv, outs_nil, nodup_nil, evIfs_nil, evIfs_cons, evCl_el, ev_comp, evCl_one, evI_val, rngV_int, evI_rng1, evI_enm, evI_zip2, isMut_eq, any_nil, any_cons, mutO.eq_1, mutO.eq_2, mutO.eq_3, setO_ok, setV_o, isIo_no, isIo_sh, isIo_own, frz_nil, frz_cons, frzO_own, frzO_sh, frzO_no, plainF_ap, evF_eq, pureF_no, pureF_yes, evT_eq, pureT_no, pureT_yes, ice_nil, ice_cons, iceO_some, iceO_none, new_sh, new_fr, appO_own, fre_sh, fre_fr, pk_sh, pk_fr, pk_bo, pk_bi, out_sh, out_fr, out_bo, subO_ok, sub_tup, sub_lst, sub_scr, AR.exec_asgv, exec_asgt, exec_par, exec_app, exec_aug, augV_int, augO_int, exec_ret, exec_ret0, exec_ife, exec_ex, exec_pass, AR.execs_nil, AR.execs_cons, thenS_nx, thenS_rt, AR.exec_for, exec_whl, bind_var, bind_tup, binds_nil, binds_cons, stp_nil, stp_cons, E.esc, E.escP, E.escR, E.pure, Es.esc, Es.escP, Es.pure, pureO, escO, It.esc, It.escP, It.pure, Cl.esc, Cl.pureC, binop.eq_1, binop.eq_2, binop.eq_3, binop.eq_4, binop.eq_5, binop.eq_6, binop.eq_7, binop.eq_8, binop.eq_9, binop.eq_10, cmpop.eq_1, cmpop.eq_2, cmpop.eq_3, cmpop.eq_4, cmpop.eq_5, cmpop.eq_6, cmpop.eq_7, cmpop.eq_8, cmpop.eq_9, cmpop.eq_10, cmpop.eq_11, cmpop.eq_12, cmpop.eq_13, D.truth.eq_1, D.truth.eq_2, D.truth.eq_3, D.truth.eq_4, D.truth.eq_5, D.truth.eq_6, slcop.eq_1, slcop.eq_2, bltop.eq_1, bltop.eq_2, bltop.eq_3, bltop.eq_4, bltop.eq_5, bltop.eq_6, bltop.eq_7, bltop.eq_9, bltop.eq_10, bltop.eq_11, bltop.eq_12, bltop.eq_13, bltop.eq_14, bltop.eq_15, bltop.eq_16, bltop.eq_17, bltop.eq_18, bltop.eq_19, bltop.eq_20, bltop.eq_21, bltop.eq_22, seq?.eq_1, seq?.eq_2, itemsOf.eq_1, itemsOf.eq_2, itemsOf.eq_3, enmOf.eq_1, zip2Of.eq_1, zip2Of.eq_2, endC_nx, endC_rt, PySem.sizeLine, wipeE, keepO, eqv_ii, eqv_bb, eqv_ib, eqv_bi, eqv_ss, eqv_ll, eqv_tt, eqv_nn, eqvs_nn, eqvs_cc, eqvs_r, flat_int, flat_bl, flat_non, flat_str, flat_lst, flat_tup, flats_nil, flats_cons, flats_ints, D.plain.eq_1, D.plain.eq_2, D.plain.eq_3, D.plain.eq_4, D.plain.eq_5, D.plain.eq_6, D.scal.eq_1, D.scal.eq_2, D.scal.eq_3, D.scal.eq_4, D.scal.eq_5, D.isNon.eq_1, D.isNon.eq_2, isiop, isTy, tyOk, b2i]
  | true =>
    have := hX rfl
    subst this
    simp [kTup_ap, kLst_ap, kRes_ap, kBin2_ap, kBin_ap, kBl_ap, kNb_ap, kNot_ap, kAnd2_ap, kAnd_ap, kOr2_ap, kOr_ap, kIfe2_ap, kIfe_ap, kCmp2_ap, kCmp_ap, kCall4_ap, kCall3_ap, kCall2_ap, kCall_ap, kBlt_ap, kIsi_ap, kSh_ap, kSub2_ap, kSub_ap, kSlc3_ap, kSlc2_ap, kSlc_ap, kCons_ap, kEvs_ap, kEvP_ap, kConsF_ap, kEvPar_ap, kConsA_ap, kEvA_ap, kConsS_ap, kIfs2_ap, kIfs_ap, kEl_ap, kL_ap, kVal_ap, kEn_ap, kEnm_ap, kZ2_ap, kZ_ap, kTr_ap, kT0_ap, kT1_ap, kT2_ap, kComp_ap, kColl_ap, kQ_ap, kB_ap, kFor2_ap, kFor_ap, kNx_ap, kAsg_ap, kAsgT_ap, kPar2_ap, kPar_ap, kStp_ap, kApp_ap, kRet_ap, kIfS_ap, kEx_ap, kEnd_ap, ev_var, getV_ok, fl_sh, fl_own, fl_io, ev_cst, ev_gfn, ev_tup, ev_lst, ev_bin, negV_int, ev_neg, ev_not, ev_and, ev_or, ev_ife, ev_cmp, ev_call, ev_blt, ev_isi, ev_sub, ev_slc, intO_int, evO_no, evO_yes, AR.evs_nil, AR.evs_cons, evP_nil, evP_cons, evPar_nil, evPar_cons, evA_nil, evA_c, aO_no, E.isRef.eq_1, E.isRef.eq_2, res_nil, res_v, refs_nil, refs_vv, outs_nil, nodup_nil, evIfs_nil, evIfs_cons, evCl_el, ev_comp, evCl_one, evI_val, rngV_int, evI_rng1, evI_enm, evI_zip2, isMut_eq, any_nil, any_cons, mutO.eq_1, mutO.eq_2, mutO.eq_3, setO_ok, setV_o, isIo_no, isIo_sh, isIo_own, frz_nil, frz_cons, frzO_own, frzO_sh, frzO_no, plainF_ap, evF_eq, pureF_no, pureF_yes, evT_eq, pureT_no, pureT_yes, ice_nil, ice_cons, iceO_some, iceO_none, new_sh, new_fr, appO_own, fre_sh, fre_fr, pk_sh, pk_fr, pk_bo, pk_bi, out_sh, out_fr, out_bo, subO_ok, sub_tup, sub_lst, sub_scr, AR.exec_asgv, exec_asgt, exec_par, exec_app, exec_aug, augV_int, augO_int, exec_ret, exec_ret0, exec_ife, exec_ex, exec_pass, AR.execs_nil, AR.execs_cons, thenS_nx, thenS_rt, AR.exec_for, exec_whl, bind_var, bind_tup, binds_nil, binds_cons, stp_nil, stp_cons, E.esc, E.escP, E.escR, E.pure, Es.esc, Es.escP, Es.pure, pureO, escO, It.esc, It.escP, It.pure, Cl.esc, Cl.pureC, binop.eq_1, binop.eq_2, binop.eq_3, binop.eq_4, binop.eq_5, binop.eq_6, binop.eq_7, binop.eq_8, binop.eq_9, binop.eq_10, cmpop.eq_1, cmpop.eq_2, cmpop.eq_3, cmpop.eq_4, cmpop.eq_5, cmpop.eq_6, cmpop.eq_7, cmpop.eq_8, cmpop.eq_9, cmpop.eq_10, cmpop.eq_11, cmpop.eq_12, cmpop.eq_13, D.truth.eq_1, D.truth.eq_2, D.truth.eq_3, D.truth.eq_4, D.truth.eq_5, D.truth.eq_6, slcop.eq_1, slcop.eq_2, bltop.eq_1, bltop.eq_2, bltop.eq_3, bltop.eq_4, bltop.eq_5, bltop.eq_6, bltop.eq_7, bltop.eq_9, bltop.eq_10, bltop.eq_11, bltop.eq_12, bltop.eq_13, bltop.eq_14, bltop.eq_15, bltop.eq_16, bltop.eq_17, bltop.eq_18, bltop.eq_19, bltop.eq_20, bltop.eq_21, bltop.eq_22, seq?.eq_1, seq?.eq_2, itemsOf.eq_1, itemsOf.eq_2, itemsOf.eq_3, enmOf.eq_1, zip2Of.eq_1, zip2Of.eq_2, endC_nx, endC_rt, PySem.sizeLine, wipeE, keepO, eqv_ii, eqv_bb, eqv_ib, eqv_bi, eqv_ss, eqv_ll, eqv_tt, eqv_nn, eqvs_nn, eqvs_cc, eqvs_r, flat_int, flat_bl, flat_non, flat_str, flat_lst, flat_tup, flats_nil, flats_cons, flats_ints, D.plain.eq_1, D.plain.eq_2, D.plain.eq_3, D.plain.eq_4, D.plain.eq_5, D.plain.eq_6, D.scal.eq_1, D.scal.eq_2, D.scal.eq_3, D.scal.eq_4, D.scal.eq_5, D.isNon.eq_1, D.isNon.eq_2, isiop, isTy, tyOk, b2i]
/-- one signal -/
theorem k_all (h9 : isIo x9 = false) (h10 : isIo x10 = false) (h11 : isIo x11 = false) (h12 : isIo x12 = false) {ns ms : List Int} (hms : ms.length ≤ 100000)
    (hC0 : C cs [(.sh, .lst (cut l (some (22 + 30 * K)) none)), (.sh, .lst [q, p]), (.sh, .int 28)] = .ok ([], .sh, sg))
    (hC1 : C ca [(.sh, .tup [.str [97, 110, 121], .tup [q]]), (.sh, sg)] = .ok ([], .sh, .tup (ns.map .int)))
    (hC2 : C ca [(.sh, .tup [.str [97, 110, 121], .tup [p]]), (.sh, sg)] = .ok ([], .sh, .tup (ms.map .int)))
    (hsub : ex = true → ∀ x ∈ ms, x ∈ ns) :
    ∃ y9 y10 y11 y12 : Sl1, isIo y9 = false ∧ isIo y10 = false ∧ isIo y11 = false ∧ isIo y12 = false ∧
      forB C w (.var 9) (.cons (L3k ca cs cc cm cr ct cd 0) (.cons (L3k ca cs cc cm cr ct cd 1) (.cons (L3k ca cs cc cm cr ct cd 2) (.cons (L3k ca cs cc cm cr ct cd 3) .nil)))) [some (.sh, sc), some (.sh, id), some (.sh, .lst l), some (.sh, ru), some (.own, .lst ot), some (.own, .lst pa), some (.sh, p), some (.sh, q), some (.sh, .bl ex), x9, x10, x11, x12, none] (.int K) =
        .ok (.nx [some (.sh, sc), some (.sh, id), some (.sh, .lst l), some (.sh, ru), some (.own, .lst ot), some (.own, .lst pa), some (.sh, p), some (.sh, q), some (.sh, .bl ex), y9, y10, y11, y12, none]) := by
  have hb : bindT (.var 9) (.int K) [some (.sh, sc), some (.sh, id), some (.sh, .lst l), some (.sh, ru), some (.own, .lst ot), some (.own, .lst pa), some (.sh, p), some (.sh, q), some (.sh, .bl ex), x9, x10, x11, x12, none] = .ok [some (.sh, sc), some (.sh, id), some (.sh, .lst l), some (.sh, ru), some (.own, .lst ot), some (.own, .lst pa), some (.sh, p), some (.sh, q), some (.sh, .bl ex), some (.sh, .int K), x10, x11, x12, none] := by
    simp [bind_var, setV_o, setO_ok, h9]
  obtain ⟨X, h1, h2, h3⟩ := k_col (C := C) (e1 := some (.sh, sc)) (e2 := some (.sh, id)) (e3 := some (.sh, .lst l)) (e4 := some (.sh, ru)) (e5 := some (.own, .lst ot)) (e6 := some (.own, .lst pa)) (e7 := some (.sh, p)) (e8 := some (.sh, q)) (e9 := some (.sh, .bl ex)) (e10 := some (.sh, .int K)) (e11 := some (.sh, sg)) (e12 := x12) (ns := ns) ms
  have hX : ex = true → X = [] := fun e => List.eq_nil_iff_forall_not_mem.mpr fun x hx => (h1 x hx).2 (hsub e x (h1 x hx).1)
  refine ⟨some (.sh, .int K), some (.sh, sg), some (.sh, .tup (ns.map .int)), some (.own, .lst (X.map .int)), rfl, rfl, rfl, rfl, ?_⟩
  rw [forB_ap, hb, bnd_yes, k_0 h10 hC0, k_1 h11 hC1, k_2 h12 (by rw [List.length_map]; omega) hC2 h3, k_3 hX, AR.execs_nil]
end
end LW

namespace LW
open AR
variable {w : Nat} {tab : Nat → Option Fn}
def covB (q p : Rl) : Bool := decide (q.h ≤ p.h) && (decide (q.r ≤ p.r) && (decide (q.l ≤ p.l) && decide (p.f ≤ q.f)))
theorem covB_ok {q p : Rl} (h : covB q p = true) : q.cov p := by
  unfold covB at h
  simp only [Bool.and_eq_true, decide_eq_true_eq] at h
  exact ⟨h.1, h.2.1, h.2.2.1, h.2.2.2⟩
section
variable {C : CallF} {ca cs cc cm cr ct cd : Nat} {sc id ru : D} {l ot pa : List D} {q p : Rl} {x6 x7 x8 x9 x10 x11 x12 x13 : Sl1} {rest : Ss}
theorem p_0 (h8 : isIo x8 = false) :
    execs C w (.cons (L3p ca cs cc cm cr ct cd 0) rest) [some (.sh, sc), some (.sh, id), some (.sh, .lst l), some (.sh, ru), some (.own, .lst ot), some (.own, .lst pa), some (.sh, p.d), some (.sh, q.d), x8, x9, x10, x11, x12, x13] =
      execs C w rest [some (.sh, sc), some (.sh, id), some (.sh, .lst l), some (.sh, ru), some (.own, .lst ot), some (.own, .lst pa), some (.sh, p.d), some (.sh, q.d), some (.sh, .bl (covB q p)), x9, x10, x11, x12, x13] := by
  obtain ⟨h, r, lo, f⟩ := q
  obtain ⟨h', r', lo', f'⟩ := p
  have a0 : ∀ a b c d : Int, L2.atI [D.int a, D.int b, D.int c, D.int d] 0 = some (.int a) := fun _ _ _ _ => rfl
  have a1 : ∀ a b c d : Int, L2.atI [D.int a, D.int b, D.int c, D.int d] 1 = some (.int b) := fun _ _ _ _ => rfl
  have a2 : ∀ a b c d : Int, L2.atI [D.int a, D.int b, D.int c, D.int d] 2 = some (.int c) := fun _ _ _ _ => rfl
  have a3 : ∀ a b c d : Int, L2.atI [D.int a, D.int b, D.int c, D.int d] 3 = some (.int d) := fun _ _ _ _ => rfl
  simp only [L3p, L3, B_law_2, List.getD_cons_zero, List.getD_cons_succ, covB]
  by_cases h1 : h ≤ h' <;> by_cases h2 : r ≤ r' <;> by_cases h3 : lo ≤ lo' <;> simp [Rl.d, h8, a0, a1, a2, a3, h1, h2, h3, kTup_ap, kLst_ap, kRes_ap, kBin2_ap, kBin_ap, kBl_ap, kNb_ap, kNot_ap, kAnd2_ap, kAnd_ap, kOr2_ap, kOr_ap, kIfe2_ap, kIfe_ap, kCmp2_ap, kCmp_ap, kCall4_ap, kCall3_ap, kCall2_ap, kCall_ap, kBlt_ap, kIsi_ap, kSh_ap, kSub2_ap, kSub_ap, kSlc3_ap, kSlc2_ap, kSlc_ap, kCons_ap, kEvs_ap, kEvP_ap, kConsF_ap, kEvPar_ap, kConsA_ap, kEvA_ap, kConsS_ap, kIfs2_ap, kIfs_ap, kEl_ap, kL_ap, kVal_ap, kEn_ap, kEnm_ap, kZ2_ap, kZ_ap, kTr_ap, kT0_ap, kT1_ap, kT2_ap, kComp_ap, kColl_ap, kQ_ap, kB_ap, kFor2_ap, kFor_ap, kNx_ap, kAsg_ap, kAsgT_ap, kPar2_ap, kPar_ap, kStp_ap, kApp_ap, kRet_ap, kIfS_ap, kEx_ap, kEnd_ap, ev_var, getV_ok, fl_sh, fl_own, fl_io, ev_cst, ev_gfn, ev_tup, ev_lst, ev_bin, negV_int, ev_neg, ev_not, ev_and, ev_or, ev_ife, ev_cmp, ev_call, ev_blt, ev_isi, ev_sub, ev_slc, intO_int, evO_no, evO_yes, AR.evs_nil, AR.evs_cons, evP_nil, evP_cons, evPar_nil, evPar_cons, evA_nil, evA_c, aO_no, E.isRef.eq_1, E.isRef.eq_2, res_nil, res_v, refs_nil, refs_vv, outs_nil, nodup_nil, evIfs_nil, evIfs_cons, evCl_el, ev_comp, evCl_one, evI_val, rngV_int, evI_rng1, evI_enm, evI_zip2, isMut_eq, any_nil, any_cons, mutO.eq_1, mutO.eq_2, mutO.eq_3, setO_ok, setV_o, isIo_no, isIo_sh, isIo_own, frz_nil, frz_cons, frzO_own, frzO_sh, frzO_no, plainF_ap, evF_eq, pureF_no, pureF_yes, evT_eq, pureT_no, pureT_yes, ice_nil, ice_cons, iceO_some, iceO_none, new_sh, new_fr, appO_own, fre_sh, fre_fr, pk_sh, pk_fr, pk_bo, pk_bi, out_sh, out_fr, out_bo, subO_ok, sub_tup, sub_lst, sub_scr, AR.exec_asgv, exec_asgt, exec_par, exec_app, exec_aug, augV_int, augO_int, exec_ret, exec_ret0, exec_ife, exec_ex, exec_pass, AR.execs_nil, AR.execs_cons, thenS_nx, thenS_rt, AR.exec_for, exec_whl, bind_var, bind_tup, binds_nil, binds_cons, stp_nil, stp_cons, E.esc, E.escP, E.escR, E.pure, Es.esc, Es.escP, Es.pure, pureO, escO, It.esc, It.escP, It.pure, Cl.esc, Cl.pureC, binop.eq_1, binop.eq_2, binop.eq_3, binop.eq_4, binop.eq_5, binop.eq_6, binop.eq_7, binop.eq_8, binop.eq_9, binop.eq_10, cmpop.eq_1, cmpop.eq_2, cmpop.eq_3, cmpop.eq_4, cmpop.eq_5, cmpop.eq_6, cmpop.eq_7, cmpop.eq_8, cmpop.eq_9, cmpop.eq_10, cmpop.eq_11, cmpop.eq_12, cmpop.eq_13, D.truth.eq_1, D.truth.eq_2, D.truth.eq_3, D.truth.eq_4, D.truth.eq_5, D.truth.eq_6, slcop.eq_1, slcop.eq_2, bltop.eq_1, bltop.eq_2, bltop.eq_3, bltop.eq_4, bltop.eq_5, bltop.eq_6, bltop.eq_7, bltop.eq_9, bltop.eq_10, bltop.eq_11, bltop.eq_12, bltop.eq_13, bltop.eq_14, bltop.eq_15, bltop.eq_16, bltop.eq_17, bltop.eq_18, bltop.eq_19, bltop.eq_20, bltop.eq_21, bltop.eq_22, seq?.eq_1, seq?.eq_2, itemsOf.eq_1, itemsOf.eq_2, itemsOf.eq_3, enmOf.eq_1, zip2Of.eq_1, zip2Of.eq_2, endC_nx, endC_rt, PySem.sizeLine, wipeE, keepO, eqv_ii, eqv_bb, eqv_ib, eqv_bi, eqv_ss, eqv_ll, eqv_tt, eqv_nn, eqvs_nn, eqvs_cc, eqvs_r, flat_int, flat_bl, flat_non, flat_str, flat_lst, flat_tup, flats_nil, flats_cons, flats_ints, D.plain.eq_1, D.plain.eq_2, D.plain.eq_3, D.plain.eq_4, D.plain.eq_5, D.plain.eq_6, D.scal.eq_1, D.scal.eq_2, D.scal.eq_3, D.scal.eq_4, D.scal.eq_5, D.isNon.eq_1, D.isNon.eq_2, isiop, isTy, tyOk, b2i]
theorem p_1 {b : Bool} (hc : C cc [(.sh, q.d), (.sh, p.d)] = .ok ([], .sh, .bl b)) (hm : C cm [(.sh, .bl b), (.sh, .bl b)] = .ok ([], .sh, .bl true)) :
    execs C w (.cons (L3p ca cs cc cm cr ct cd 1) rest) [some (.sh, sc), some (.sh, id), some (.sh, .lst l), some (.sh, ru), some (.own, .lst ot), some (.own, .lst pa), some (.sh, p.d), some (.sh, q.d), some (.sh, .bl b), x9, x10, x11, x12, x13] =
      execs C w rest [some (.sh, sc), some (.sh, id), some (.sh, .lst l), some (.sh, ru), some (.own, .lst ot), some (.own, .lst pa), some (.sh, p.d), some (.sh, q.d), some (.sh, .bl b), x9, x10, x11, x12, x13] := by
  simp only [L3p, L3, B_law_2, List.getD_cons_zero, List.getD_cons_succ]
  simp [hc, hm, kTup_ap, kLst_ap, kRes_ap, kBin2_ap, kBin_ap, kBl_ap, kNb_ap, kNot_ap, kAnd2_ap, kAnd_ap, kOr2_ap, kOr_ap, kIfe2_ap, kIfe_ap, kCmp2_ap, kCmp_ap, kCall4_ap, kCall3_ap, kCall2_ap, kCall_ap, kBlt_ap, kIsi_ap, kSh_ap, kSub2_ap, kSub_ap, kSlc3_ap, kSlc2_ap, kSlc_ap, kCons_ap, kEvs_ap, kEvP_ap, kConsF_ap, kEvPar_ap, kConsA_ap, kEvA_ap, kConsS_ap, kIfs2_ap, kIfs_ap, kEl_ap, kL_ap, kVal_ap, kEn_ap, kEnm_ap, kZ2_ap, kZ_ap, kTr_ap, kT0_ap, kT1_ap, kT2_ap, kComp_ap, kColl_ap, kQ_ap, kB_ap, kFor2_ap, kFor_ap, kNx_ap, kAsg_ap, kAsgT_ap, kPar2_ap, kPar_ap, kStp_ap, kApp_ap, kRet_ap, kIfS_ap, kEx_ap, kEnd_ap, ev_var, getV_ok, fl_sh, fl_own, fl_io, ev_cst, ev_gfn, ev_tup, ev_lst, ev_bin, negV_int, ev_neg, ev_not, ev_and, ev_or, ev_ife, ev_cmp, ev_call, ev_blt, ev_isi, ev_sub, ev_slc, intO_int, evO_no, evO_yes, AR.evs_nil, AR.evs_cons, evP_nil, evP_cons, evPar_nil, evPar_cons, evA_nil, evA_c, aO_no, E.isRef.eq_1, E.isRef.eq_2, res_nil, res_v, refs_nil, refs_vv, outs_nil, nodup_nil, evIfs_nil, evIfs_cons, evCl_el, ev_comp, evCl_one, evI_val, rngV_int, evI_rng1, evI_enm, evI_zip2, isMut_eq, any_nil, any_cons, mutO.eq_1, mutO.eq_2, mutO.eq_3, setO_ok, setV_o, isIo_no, isIo_sh, isIo_own, frz_nil, frz_cons, frzO_own, frzO_sh, frzO_no, plainF_ap, evF_eq, pureF_no, pureF_yes, evT_eq, pureT_no, pureT_yes, ice_nil, ice_cons, iceO_some, iceO_none, new_sh, new_fr, appO_own, fre_sh, fre_fr, pk_sh, pk_fr, pk_bo, pk_bi, out_sh, out_fr, out_bo, subO_ok, sub_tup, sub_lst, sub_scr, AR.exec_asgv, exec_asgt, exec_par, exec_app, exec_aug, augV_int, augO_int, exec_ret, exec_ret0, exec_ife, exec_ex, exec_pass, AR.execs_nil, AR.execs_cons, thenS_nx, thenS_rt, AR.exec_for, exec_whl, bind_var, bind_tup, binds_nil, binds_cons, stp_nil, stp_cons, E.esc, E.escP, E.escR, E.pure, Es.esc, Es.escP, Es.pure, pureO, escO, It.esc, It.escP, It.pure, Cl.esc, Cl.pureC, binop.eq_1, binop.eq_2, binop.eq_3, binop.eq_4, binop.eq_5, binop.eq_6, binop.eq_7, binop.eq_8, binop.eq_9, binop.eq_10, cmpop.eq_1, cmpop.eq_2, cmpop.eq_3, cmpop.eq_4, cmpop.eq_5, cmpop.eq_6, cmpop.eq_7, cmpop.eq_8, cmpop.eq_9, cmpop.eq_10, cmpop.eq_11, cmpop.eq_12, cmpop.eq_13, D.truth.eq_1, D.truth.eq_2, D.truth.eq_3, D.truth.eq_4, D.truth.eq_5, D.truth.eq_6, slcop.eq_1, slcop.eq_2, bltop.eq_1, bltop.eq_2, bltop.eq_3, bltop.eq_4, bltop.eq_5, bltop.eq_6, bltop.eq_7, bltop.eq_9, bltop.eq_10, bltop.eq_11, bltop.eq_12, bltop.eq_13, bltop.eq_14, bltop.eq_15, bltop.eq_16, bltop.eq_17, bltop.eq_18, bltop.eq_19, bltop.eq_20, bltop.eq_21, bltop.eq_22, seq?.eq_1, seq?.eq_2, itemsOf.eq_1, itemsOf.eq_2, itemsOf.eq_3, enmOf.eq_1, zip2Of.eq_1, zip2Of.eq_2, endC_nx, endC_rt, PySem.sizeLine, wipeE, keepO, eqv_ii, eqv_bb, eqv_ib, eqv_bi, eqv_ss, eqv_ll, eqv_tt, eqv_nn, eqvs_nn, eqvs_cc, eqvs_r, flat_int, flat_bl, flat_non, flat_str, flat_lst, flat_tup, flats_nil, flats_cons, flats_ints, D.plain.eq_1, D.plain.eq_2, D.plain.eq_3, D.plain.eq_4, D.plain.eq_5, D.plain.eq_6, D.scal.eq_1, D.scal.eq_2, D.scal.eq_3, D.scal.eq_4, D.scal.eq_5, D.isNon.eq_1, D.isNon.eq_2, isiop, isTy, tyOk, b2i]
def kB3 (ca cs cc cm cr ct cd : Nat) : Ss := .cons (L3k ca cs cc cm cr ct cd 0) (.cons (L3k ca cs cc cm cr ct cd 1) (.cons (L3k ca cs cc cm cr ct cd 2) (.cons (L3k ca cs cc cm cr ct cd 3) .nil)))
theorem p_2 {ex : Bool} {E2 : Env} (h : forL (forB C w (.var 9) (kB3 ca cs cc cm cr ct cd)) (rangeI 0 3) [some (.sh, sc), some (.sh, id), some (.sh, .lst l), some (.sh, ru), some (.own, .lst ot), some (.own, .lst pa), some (.sh, p.d), some (.sh, q.d), some (.sh, .bl ex), x9, x10, x11, x12, x13] = .ok (.nx E2)) :
    execs C w (.cons (.forS (.var 9) (.rng1 (.cst (.int 3))) (kB3 ca cs cc cm cr ct cd)) rest) [some (.sh, sc), some (.sh, id), some (.sh, .lst l), some (.sh, ru), some (.own, .lst ot), some (.own, .lst pa), some (.sh, p.d), some (.sh, q.d), some (.sh, .bl ex), x9, x10, x11, x12, x13] = execs C w rest E2 := by
  generalize kB3 ca cs cc cm cr ct cd = bb at *
  have hok : okB 3 = true := rfl
  simp [h, hok, kTup_ap, kLst_ap, kRes_ap, kBin2_ap, kBin_ap, kBl_ap, kNb_ap, kNot_ap, kAnd2_ap, kAnd_ap, kOr2_ap, kOr_ap, kIfe2_ap, kIfe_ap, kCmp2_ap, kCmp_ap, kCall4_ap, kCall3_ap, kCall2_ap, kCall_ap, kBlt_ap, kIsi_ap, kSh_ap, kSub2_ap, kSub_ap, kSlc3_ap, kSlc2_ap, kSlc_ap, kCons_ap, kEvs_ap, kEvP_ap, kConsF_ap, kEvPar_ap, kConsA_ap, kEvA_ap, kConsS_ap, kIfs2_ap, kIfs_ap, kEl_ap, kL_ap, kVal_ap, kEn_ap, kEnm_ap, kZ2_ap, kZ_ap, kTr_ap, kT0_ap, kT1_ap, kT2_ap, kComp_ap, kColl_ap, kQ_ap, kB_ap, kFor2_ap, kFor_ap, kNx_ap, kAsg_ap, kAsgT_ap, kPar2_ap, kPar_ap, kStp_ap, kApp_ap, kRet_ap, kIfS_ap, kEx_ap, kEnd_ap, ev_var, getV_ok, fl_sh, fl_own, fl_io, ev_cst, ev_gfn, ev_tup, ev_lst, ev_bin, negV_int, ev_neg, ev_not, ev_and, ev_or, ev_ife, ev_cmp, ev_call, ev_blt, ev_isi, ev_sub, ev_slc, intO_int, evO_no, evO_yes, AR.evs_nil, AR.evs_cons, evP_nil, evP_cons, evPar_nil, evPar_cons, evA_nil, evA_c, aO_no, E.isRef.eq_1, E.isRef.eq_2, res_nil, res_v, refs_nil, refs_vv, outs_nil, nodup_nil, evIfs_nil, evIfs_cons, evCl_el, ev_comp, evCl_one, evI_val, rngV_int, evI_rng1, evI_enm, evI_zip2, isMut_eq, any_nil, any_cons, mutO.eq_1, mutO.eq_2, mutO.eq_3, setO_ok, setV_o, isIo_no, isIo_sh, isIo_own, frz_nil, frz_cons, frzO_own, frzO_sh, frzO_no, plainF_ap, evF_eq, pureF_no, pureF_yes, evT_eq, pureT_no, pureT_yes, ice_nil, ice_cons, iceO_some, iceO_none, new_sh, new_fr, appO_own, fre_sh, fre_fr, pk_sh, pk_fr, pk_bo, pk_bi, out_sh, out_fr, out_bo, subO_ok, sub_tup, sub_lst, sub_scr, AR.exec_asgv, exec_asgt, exec_par, exec_app, exec_aug, augV_int, augO_int, exec_ret, exec_ret0, exec_ife, exec_ex, exec_pass, AR.execs_nil, AR.execs_cons, thenS_nx, thenS_rt, AR.exec_for, exec_whl, bind_var, bind_tup, binds_nil, binds_cons, stp_nil, stp_cons, E.esc, E.escP, E.escR, E.pure, Es.esc, Es.escP, Es.pure, pureO, escO, It.esc, It.escP, It.pure, Cl.esc, Cl.pureC, binop.eq_1, binop.eq_2, binop.eq_3, binop.eq_4, binop.eq_5, binop.eq_6, binop.eq_7, binop.eq_8, binop.eq_9, binop.eq_10, cmpop.eq_1, cmpop.eq_2, cmpop.eq_3, cmpop.eq_4, cmpop.eq_5, cmpop.eq_6, cmpop.eq_7, cmpop.eq_8, cmpop.eq_9, cmpop.eq_10, cmpop.eq_11, cmpop.eq_12, cmpop.eq_13, D.truth.eq_1, D.truth.eq_2, D.truth.eq_3, D.truth.eq_4, D.truth.eq_5, D.truth.eq_6, slcop.eq_1, slcop.eq_2, bltop.eq_1, bltop.eq_2, bltop.eq_3, bltop.eq_4, bltop.eq_5, bltop.eq_6, bltop.eq_7, bltop.eq_9, bltop.eq_10, bltop.eq_11, bltop.eq_12, bltop.eq_13, bltop.eq_14, bltop.eq_15, bltop.eq_16, bltop.eq_17, bltop.eq_18, bltop.eq_19, bltop.eq_20, bltop.eq_21, bltop.eq_22, seq?.eq_1, seq?.eq_2, itemsOf.eq_1, itemsOf.eq_2, itemsOf.eq_3, enmOf.eq_1, zip2Of.eq_1, zip2Of.eq_2, endC_nx, endC_rt, PySem.sizeLine, wipeE, keepO, eqv_ii, eqv_bb, eqv_ib, eqv_bi, eqv_ss, eqv_ll, eqv_tt, eqv_nn, eqvs_nn, eqvs_cc, eqvs_r, flat_int, flat_bl, flat_non, flat_str, flat_lst, flat_tup, flats_nil, flats_cons, flats_ints, D.plain.eq_1, D.plain.eq_2, D.plain.eq_3, D.plain.eq_4, D.plain.eq_5, D.plain.eq_6, D.scal.eq_1, D.scal.eq_2, D.scal.eq_3, D.scal.eq_4, D.scal.eq_5, D.isNon.eq_1, D.isNon.eq_2, isiop, isTy, tyOk, b2i]
theorem cut_from (l : List D) (k : Nat) : cut l (some (k : Int)) none = l.drop k := by
  unfold cut
  rw [HT.sIx_nat, HT.sIx_none, List.take_of_length_le (by rw [List.length_drop]; omega)]
  by_cases h : k ≤ l.length
  · rw [Nat.min_eq_left h]
  · rw [Nat.min_eq_right (by omega), List.drop_eq_nil_of_le (by omega), List.drop_eq_nil_of_le (by omega)]
def pB3 (ca cs cc cm cr ct cd : Nat) : Ss := .cons (L3p ca cs cc cm cr ct cd 0) (.cons (L3p ca cs cc cm cr ct cd 1) (.cons (.forS (.var 9) (.rng1 (.cst (.int 3))) (kB3 ca cs cc cm cr ct cd)) .nil))
theorem pair_turn {kf kc kr ks : Nat} (hA : tab ca = some ⟨2, [], 4, B_active kf⟩) (hF : tab kf = some ⟨2, [], 6, B_condition_flags kc kr⟩) (hK : tab kc = some ⟨2, [], 2, B_combined⟩) (hR : tab kr = some ⟨2, [], 5, B_rule_activity ks⟩) (hS : tab ks = some ⟨3, [], 9, B_step⟩)
    (hG : tab cs = some ⟨3, [], 10, B_law_signal⟩) (hV : tab cc = some ⟨2, [], 2, B_rule_covers⟩) (hM : tab cm = some ⟨2, [], 2, B_law_same_bool⟩) (n : Nat) {b : Int} (hd : Digs b l) (hl : l.length = 120) (hq : q.ok) (hp : p.ok)
    (h6 : isIo x6 = false) (h7 : isIo x7 = false) (h8 : isIo x8 = false) (h9 : isIo x9 = false) (h10 : isIo x10 = false) (h11 : isIo x11 = false) (h12 : isIo x12 = false) :
    ∃ y7 y8 y9 y10 y11 y12 : Sl1, isIo y7 = false ∧ isIo y8 = false ∧ isIo y9 = false ∧ isIo y10 = false ∧ isIo y11 = false ∧ isIo y12 = false ∧
      forB (callN tab w (n+4)) w (.tup [.var 7, .var 6]) (pB3 ca cs cc cm cr ct cd) [some (.sh, sc), some (.sh, id), some (.sh, .lst l), some (.sh, ru), some (.own, .lst ot), some (.own, .lst pa), x6, x7, x8, x9, x10, x11, x12, none] (.tup [q.d, p.d]) =
        .ok (.nx [some (.sh, sc), some (.sh, id), some (.sh, .lst l), some (.sh, ru), some (.own, .lst ot), some (.own, .lst pa), some (.sh, p.d), y7, y8, y9, y10, y11, y12, none]) := by
  have hb : bindT (.tup [.var 7, .var 6]) (.tup [q.d, p.d]) [some (.sh, sc), some (.sh, id), some (.sh, .lst l), some (.sh, ru), some (.own, .lst ot), some (.own, .lst pa), x6, x7, x8, x9, x10, x11, x12, none] = .ok [some (.sh, sc), some (.sh, id), some (.sh, .lst l), some (.sh, ru), some (.own, .lst ot), some (.own, .lst pa), some (.sh, p.d), some (.sh, q.d), x8, x9, x10, x11, x12, none] := by
    simp [bind_tup, binds_cons, binds_nil, bind_var, setV_o, setO_ok, h6, h7]
  obtain ⟨E2, f2, y9, y10, y11, y12, rfl, i9, i10, i11, i12⟩ := forL_ind (b := forB (callN tab w (n+4)) w (.var 9) (kB3 ca cs cc cm cr ct cd)) (l := rangeI 0 3) (env := [some (.sh, sc), some (.sh, id), some (.sh, .lst l), some (.sh, ru), some (.own, .lst ot), some (.own, .lst pa), some (.sh, p.d), some (.sh, q.d), some (.sh, .bl (covB q p)), x9, x10, x11, x12, none])
    (fun i e => ∃ x9 x10 x11 x12 : Sl1, e = [some (.sh, sc), some (.sh, id), some (.sh, .lst l), some (.sh, ru), some (.own, .lst ot), some (.own, .lst pa), some (.sh, p.d), some (.sh, q.d), some (.sh, .bl (covB q p)), x9, x10, x11, x12, none] ∧ isIo x9 = false ∧ isIo x10 = false ∧ isIo x11 = false ∧ isIo x12 = false)
    ⟨x9, x10, x11, x12, rfl, h9, h10, h11, h12⟩ (fun i d e hdd hI => by
      obtain ⟨x9, x10, x11, x12, rfl, h9, h10, h11, h12⟩ := hI
      obtain ⟨q1, q2⟩ := rangeI_get hdd
      have hi : i < 3 := by omega
      have q3 : d = .int (i : Int) := by rw [q1, Int.zero_add]
      subst q3
      have hcut : cut l (some (22 + 30 * (i : Int))) none = l.drop (22 + 30 * i) := by
        rw [← cut_from]
        congr 2
      have hdr : Digs b (l.drop (22 + 30 * i)) := digs_sub hd fun d hd => List.mem_of_mem_drop hd
      obtain ⟨ss, s1, s2⟩ := signal_run (w := w) hG (n+3) hdr (by rw [List.length_drop]; omega) (by rw [List.length_drop]; omega) (rd := .lst [q.d, p.d]) (qs := [q, p]) rfl (by simp) 28 (by decide)
      rw [← hcut] at s2
      have hss : ss.length ≤ 100000 := by rw [List.length_drop] at s1; omega
      have c1 := active_run (w := w) hA hF hK hR hS n true [q] ss (by simp) hss
      have c2 := active_run (w := w) hA hF hK hR hS n true [p] ss (by simp) hss
      have hms : (idxT 0 (flagsL true [p] ss)).length ≤ 100000 := by have := idxT_len (flagsL true [p] ss) 0; rw [flags_len] at this; omega
      generalize (i : Int) = K at *
      obtain ⟨y9, y10, y11, y12, j9, j10, j11, j12, hr⟩ := k_all (w := w) (ca := ca) (cs := cs) (cc := cc) (cm := cm) (cr := cr) (ct := ct) (cd := cd) (sc := sc) (id := id) (ru := ru) (l := l) (ot := ot) (pa := pa) (ex := covB q p) h9 h10 h11 h12 hms s2 c1 c2 (fun e => cov_sub hq hp (covB_ok e) ss)
      exact ⟨_, hr, y9, y10, y11, y12, rfl, j9, j10, j11, j12⟩)
  refine ⟨some (.sh, q.d), some (.sh, .bl (covB q p)), y9, y10, y11, y12, rfl, rfl, i9, i10, i11, i12, ?_⟩
  have hm : callN tab w (n+4) cm [(.sh, .bl (covB q p)), (.sh, .bl (covB q p))] = .ok ([], .sh, .bl true) := by
    have := same_run (w := w) hM (n+3) (covB q p) (covB q p)
    rwa [beq_self_eq_true] at this
  rw [forB_ap, hb, bnd_yes]
  unfold pB3
  have hcv : callN tab w (n+4) cc [(.sh, q.d), (.sh, p.d)] = .ok ([], .sh, .bl (covB q p)) := covers_run hV (n+3) q p
  rw [p_0 h8, p_1 hcv hm, p_2 f2, AR.execs_nil]
end
end LW

namespace LW
open AR
variable {w : Nat} {tab : Nat → Option Fn}
section
variable {C : CallF} {ca cs cc cm cr ct cd : Nat} {sc q : D} {I : Int} {l ot pa : List D} {x2 x3 x4 x5 x6 x7 x8 x9 x10 x11 x12 x13 : Sl1} {rest : Ss}
theorem l_0 (h2 : isIo x2 = false) (hC : C cd [(.sh, sc), (.sh, .int I), (.sh, .int 120), (.sh, .int 27720)] = .ok ([], .fr, .lst l)) :
    execs C w (.cons (L3 ca cs cc cm cr ct cd 0) rest) [some (.sh, sc), some (.sh, .int I), x2, x3, x4, x5, x6, x7, x8, x9, x10, x11, x12, x13] = execs C w rest [some (.sh, sc), some (.sh, .int I), some (.own, .lst l), x3, x4, x5, x6, x7, x8, x9, x10, x11, x12, x13] := by
  simp only [L3, B_law_2, List.getD_cons_zero, List.getD_cons_succ]
  simp [h2, hC, kTup_ap, kLst_ap, kRes_ap, kBin2_ap, kBin_ap, kBl_ap, kNb_ap, kNot_ap, kAnd2_ap, kAnd_ap, kOr2_ap, kOr_ap, kIfe2_ap, kIfe_ap, kCmp2_ap, kCmp_ap, kCall4_ap, kCall3_ap, kCall2_ap, kCall_ap, kBlt_ap, kIsi_ap, kSh_ap, kSub2_ap, kSub_ap, kSlc3_ap, kSlc2_ap, kSlc_ap, kCons_ap, kEvs_ap, kEvP_ap, kConsF_ap, kEvPar_ap, kConsA_ap, kEvA_ap, kConsS_ap, kIfs2_ap, kIfs_ap, kEl_ap, kL_ap, kVal_ap, kEn_ap, kEnm_ap, kZ2_ap, kZ_ap, kTr_ap, kT0_ap, kT1_ap, kT2_ap, kComp_ap, kColl_ap, kQ_ap, kB_ap, kFor2_ap, kFor_ap, kNx_ap, kAsg_ap, kAsgT_ap, kPar2_ap, kPar_ap, kStp_ap, kApp_ap, kRet_ap, kIfS_ap, kEx_ap, kEnd_ap, ev_var, getV_ok, fl_sh, fl_own, fl_io, ev_cst, ev_gfn, ev_tup, ev_lst, ev_bin, negV_int, ev_neg, ev_not, ev_and, ev_or, ev_ife, ev_cmp, ev_call, ev_blt, ev_isi, ev_sub, ev_slc, intO_int, evO_no, evO_yes, AR.evs_nil, AR.evs_cons, evP_nil, evP_cons, evPar_nil, evPar_cons, evA_nil, evA_c, aO_no, E.isRef.eq_1, E.isRef.eq_2, res_nil, res_v, refs_nil, refs_vv, outs_nil, nodup_nil, evIfs_nil, evIfs_cons, evCl_el, ev_comp, evCl_one, evI_val, rngV_int, evI_rng1, evI_enm, evI_zip2, isMut_eq, any_nil, any_cons, mutO.eq_1, mutO.eq_2, mutO.eq_3, setO_ok, setV_o, isIo_no, isIo_sh, isIo_own, frz_nil, frz_cons, frzO_own, frzO_sh, frzO_no, plainF_ap, evF_eq, pureF_no, pureF_yes, evT_eq, pureT_no, pureT_yes, ice_nil, ice_cons, iceO_some, iceO_none, new_sh, new_fr, appO_own, fre_sh, fre_fr, pk_sh, pk_fr, pk_bo, pk_bi, out_sh, out_fr, out_bo, subO_ok, sub_tup, sub_lst, sub_scr, AR.exec_asgv, exec_asgt, exec_par, exec_app, exec_aug, augV_int, augO_int, exec_ret, exec_ret0, exec_ife, exec_ex, exec_pass, AR.execs_nil, AR.execs_cons, thenS_nx, thenS_rt, AR.exec_for, exec_whl, bind_var, bind_tup, binds_nil, binds_cons, stp_nil, stp_cons, E.esc, E.escP, E.escR, E.pure, Es.esc, Es.escP, Es.pure, pureO, escO, It.esc, It.escP, It.pure, Cl.esc, Cl.pureC, binop.eq_1, binop.eq_2, binop.eq_3, binop.eq_4, binop.eq_5, binop.eq_6, binop.eq_7, binop.eq_8, binop.eq_9, binop.eq_10, cmpop.eq_1, cmpop.eq_2, cmpop.eq_3, cmpop.eq_4, cmpop.eq_5, cmpop.eq_6, cmpop.eq_7, cmpop.eq_8, cmpop.eq_9, cmpop.eq_10, cmpop.eq_11, cmpop.eq_12, cmpop.eq_13, D.truth.eq_1, D.truth.eq_2, D.truth.eq_3, D.truth.eq_4, D.truth.eq_5, D.truth.eq_6, slcop.eq_1, slcop.eq_2, bltop.eq_1, bltop.eq_2, bltop.eq_3, bltop.eq_4, bltop.eq_5, bltop.eq_6, bltop.eq_7, bltop.eq_9, bltop.eq_10, bltop.eq_11, bltop.eq_12, bltop.eq_13, bltop.eq_14, bltop.eq_15, bltop.eq_16, bltop.eq_17, bltop.eq_18, bltop.eq_19, bltop.eq_20, bltop.eq_21, bltop.eq_22, seq?.eq_1, seq?.eq_2, itemsOf.eq_1, itemsOf.eq_2, itemsOf.eq_3, enmOf.eq_1, zip2Of.eq_1, zip2Of.eq_2, endC_nx, endC_rt, PySem.sizeLine, wipeE, keepO, eqv_ii, eqv_bb, eqv_ib, eqv_bi, eqv_ss, eqv_ll, eqv_tt, eqv_nn, eqvs_nn, eqvs_cc, eqvs_r, flat_int, flat_bl, flat_non, flat_str, flat_lst, flat_tup, flats_nil, flats_cons, flats_ints, D.plain.eq_1, D.plain.eq_2, D.plain.eq_3, D.plain.eq_4, D.plain.eq_5, D.plain.eq_6, D.scal.eq_1, D.scal.eq_2, D.scal.eq_3, D.scal.eq_4, D.scal.eq_5, D.isNon.eq_1, D.isNon.eq_2, isiop, isTy, tyOk, b2i]
theorem l_1 (h3 : isIo x3 = false) (hp : q.plain = false) (hC : C cr [(.sh, .lst l)] = .ok ([], .sh, q)) :
    execs C w (.cons (L3 ca cs cc cm cr ct cd 1) rest) [some (.sh, sc), some (.sh, .int I), some (.own, .lst l), x3, x4, x5, x6, x7, x8, x9, x10, x11, x12, x13] = execs C w rest [some (.sh, sc), some (.sh, .int I), some (.sh, .lst l), some (.sh, q), x4, x5, x6, x7, x8, x9, x10, x11, x12, x13] := by
  simp only [L3, B_law_2, List.getD_cons_zero, List.getD_cons_succ]
  simp [h3, hp, hC, kTup_ap, kLst_ap, kRes_ap, kBin2_ap, kBin_ap, kBl_ap, kNb_ap, kNot_ap, kAnd2_ap, kAnd_ap, kOr2_ap, kOr_ap, kIfe2_ap, kIfe_ap, kCmp2_ap, kCmp_ap, kCall4_ap, kCall3_ap, kCall2_ap, kCall_ap, kBlt_ap, kIsi_ap, kSh_ap, kSub2_ap, kSub_ap, kSlc3_ap, kSlc2_ap, kSlc_ap, kCons_ap, kEvs_ap, kEvP_ap, kConsF_ap, kEvPar_ap, kConsA_ap, kEvA_ap, kConsS_ap, kIfs2_ap, kIfs_ap, kEl_ap, kL_ap, kVal_ap, kEn_ap, kEnm_ap, kZ2_ap, kZ_ap, kTr_ap, kT0_ap, kT1_ap, kT2_ap, kComp_ap, kColl_ap, kQ_ap, kB_ap, kFor2_ap, kFor_ap, kNx_ap, kAsg_ap, kAsgT_ap, kPar2_ap, kPar_ap, kStp_ap, kApp_ap, kRet_ap, kIfS_ap, kEx_ap, kEnd_ap, ev_var, getV_ok, fl_sh, fl_own, fl_io, ev_cst, ev_gfn, ev_tup, ev_lst, ev_bin, negV_int, ev_neg, ev_not, ev_and, ev_or, ev_ife, ev_cmp, ev_call, ev_blt, ev_isi, ev_sub, ev_slc, intO_int, evO_no, evO_yes, AR.evs_nil, AR.evs_cons, evP_nil, evP_cons, evPar_nil, evPar_cons, evA_nil, evA_c, aO_no, E.isRef.eq_1, E.isRef.eq_2, res_nil, res_v, refs_nil, refs_vv, outs_nil, nodup_nil, evIfs_nil, evIfs_cons, evCl_el, ev_comp, evCl_one, evI_val, rngV_int, evI_rng1, evI_enm, evI_zip2, isMut_eq, any_nil, any_cons, mutO.eq_1, mutO.eq_2, mutO.eq_3, setO_ok, setV_o, isIo_no, isIo_sh, isIo_own, frz_nil, frz_cons, frzO_own, frzO_sh, frzO_no, plainF_ap, evF_eq, pureF_no, pureF_yes, evT_eq, pureT_no, pureT_yes, ice_nil, ice_cons, iceO_some, iceO_none, new_sh, new_fr, appO_own, fre_sh, fre_fr, pk_sh, pk_fr, pk_bo, pk_bi, out_sh, out_fr, out_bo, subO_ok, sub_tup, sub_lst, sub_scr, AR.exec_asgv, exec_asgt, exec_par, exec_app, exec_aug, augV_int, augO_int, exec_ret, exec_ret0, exec_ife, exec_ex, exec_pass, AR.execs_nil, AR.execs_cons, thenS_nx, thenS_rt, AR.exec_for, exec_whl, bind_var, bind_tup, binds_nil, binds_cons, stp_nil, stp_cons, E.esc, E.escP, E.escR, E.pure, Es.esc, Es.escP, Es.pure, pureO, escO, It.esc, It.escP, It.pure, Cl.esc, Cl.pureC, binop.eq_1, binop.eq_2, binop.eq_3, binop.eq_4, binop.eq_5, binop.eq_6, binop.eq_7, binop.eq_8, binop.eq_9, binop.eq_10, cmpop.eq_1, cmpop.eq_2, cmpop.eq_3, cmpop.eq_4, cmpop.eq_5, cmpop.eq_6, cmpop.eq_7, cmpop.eq_8, cmpop.eq_9, cmpop.eq_10, cmpop.eq_11, cmpop.eq_12, cmpop.eq_13, D.truth.eq_1, D.truth.eq_2, D.truth.eq_3, D.truth.eq_4, D.truth.eq_5, D.truth.eq_6, slcop.eq_1, slcop.eq_2, bltop.eq_1, bltop.eq_2, bltop.eq_3, bltop.eq_4, bltop.eq_5, bltop.eq_6, bltop.eq_7, bltop.eq_9, bltop.eq_10, bltop.eq_11, bltop.eq_12, bltop.eq_13, bltop.eq_14, bltop.eq_15, bltop.eq_16, bltop.eq_17, bltop.eq_18, bltop.eq_19, bltop.eq_20, bltop.eq_21, bltop.eq_22, seq?.eq_1, seq?.eq_2, itemsOf.eq_1, itemsOf.eq_2, itemsOf.eq_3, enmOf.eq_1, zip2Of.eq_1, zip2Of.eq_2, endC_nx, endC_rt, PySem.sizeLine, wipeE, keepO, eqv_ii, eqv_bb, eqv_ib, eqv_bi, eqv_ss, eqv_ll, eqv_tt, eqv_nn, eqvs_nn, eqvs_cc, eqvs_r, flat_int, flat_bl, flat_non, flat_str, flat_lst, flat_tup, flats_nil, flats_cons, flats_ints, D.plain.eq_1, D.plain.eq_2, D.plain.eq_3, D.plain.eq_4, D.plain.eq_5, D.plain.eq_6, D.scal.eq_1, D.scal.eq_2, D.scal.eq_3, D.scal.eq_4, D.scal.eq_5, D.isNon.eq_1, D.isNon.eq_2, isiop, isTy, tyOk, b2i]
theorem l_2 (h4 : isIo x4 = false) {a b c : D} (hA : C ct [(.sh, q), (.sh, .lst (cut l (some 5) none))] = .ok ([], .sh, a)) (hB : C ct [(.sh, q), (.sh, .lst (cut l (some 9) none))] = .ok ([], .sh, b)) (hC : C cr [(.sh, .lst (cut l (some 13) none))] = .ok ([], .sh, c)) :
    execs C w (.cons (L3 ca cs cc cm cr ct cd 2) rest) [some (.sh, sc), some (.sh, .int I), some (.sh, .lst l), some (.sh, q), x4, x5, x6, x7, x8, x9, x10, x11, x12, x13] = execs C w rest [some (.sh, sc), some (.sh, .int I), some (.sh, .lst l), some (.sh, q), some (.own, .lst [q, a, b, c]), x5, x6, x7, x8, x9, x10, x11, x12, x13] := by
  simp only [L3, B_law_2, List.getD_cons_zero, List.getD_cons_succ]
  simp [h4, hA, hB, hC, kTup_ap, kLst_ap, kRes_ap, kBin2_ap, kBin_ap, kBl_ap, kNb_ap, kNot_ap, kAnd2_ap, kAnd_ap, kOr2_ap, kOr_ap, kIfe2_ap, kIfe_ap, kCmp2_ap, kCmp_ap, kCall4_ap, kCall3_ap, kCall2_ap, kCall_ap, kBlt_ap, kIsi_ap, kSh_ap, kSub2_ap, kSub_ap, kSlc3_ap, kSlc2_ap, kSlc_ap, kCons_ap, kEvs_ap, kEvP_ap, kConsF_ap, kEvPar_ap, kConsA_ap, kEvA_ap, kConsS_ap, kIfs2_ap, kIfs_ap, kEl_ap, kL_ap, kVal_ap, kEn_ap, kEnm_ap, kZ2_ap, kZ_ap, kTr_ap, kT0_ap, kT1_ap, kT2_ap, kComp_ap, kColl_ap, kQ_ap, kB_ap, kFor2_ap, kFor_ap, kNx_ap, kAsg_ap, kAsgT_ap, kPar2_ap, kPar_ap, kStp_ap, kApp_ap, kRet_ap, kIfS_ap, kEx_ap, kEnd_ap, ev_var, getV_ok, fl_sh, fl_own, fl_io, ev_cst, ev_gfn, ev_tup, ev_lst, ev_bin, negV_int, ev_neg, ev_not, ev_and, ev_or, ev_ife, ev_cmp, ev_call, ev_blt, ev_isi, ev_sub, ev_slc, intO_int, evO_no, evO_yes, AR.evs_nil, AR.evs_cons, evP_nil, evP_cons, evPar_nil, evPar_cons, evA_nil, evA_c, aO_no, E.isRef.eq_1, E.isRef.eq_2, res_nil, res_v, refs_nil, refs_vv, outs_nil, nodup_nil, evIfs_nil, evIfs_cons, evCl_el, ev_comp, evCl_one, evI_val, rngV_int, evI_rng1, evI_enm, evI_zip2, isMut_eq, any_nil, any_cons, mutO.eq_1, mutO.eq_2, mutO.eq_3, setO_ok, setV_o, isIo_no, isIo_sh, isIo_own, frz_nil, frz_cons, frzO_own, frzO_sh, frzO_no, plainF_ap, evF_eq, pureF_no, pureF_yes, evT_eq, pureT_no, pureT_yes, ice_nil, ice_cons, iceO_some, iceO_none, new_sh, new_fr, appO_own, fre_sh, fre_fr, pk_sh, pk_fr, pk_bo, pk_bi, out_sh, out_fr, out_bo, subO_ok, sub_tup, sub_lst, sub_scr, AR.exec_asgv, exec_asgt, exec_par, exec_app, exec_aug, augV_int, augO_int, exec_ret, exec_ret0, exec_ife, exec_ex, exec_pass, AR.execs_nil, AR.execs_cons, thenS_nx, thenS_rt, AR.exec_for, exec_whl, bind_var, bind_tup, binds_nil, binds_cons, stp_nil, stp_cons, E.esc, E.escP, E.escR, E.pure, Es.esc, Es.escP, Es.pure, pureO, escO, It.esc, It.escP, It.pure, Cl.esc, Cl.pureC, binop.eq_1, binop.eq_2, binop.eq_3, binop.eq_4, binop.eq_5, binop.eq_6, binop.eq_7, binop.eq_8, binop.eq_9, binop.eq_10, cmpop.eq_1, cmpop.eq_2, cmpop.eq_3, cmpop.eq_4, cmpop.eq_5, cmpop.eq_6, cmpop.eq_7, cmpop.eq_8, cmpop.eq_9, cmpop.eq_10, cmpop.eq_11, cmpop.eq_12, cmpop.eq_13, D.truth.eq_1, D.truth.eq_2, D.truth.eq_3, D.truth.eq_4, D.truth.eq_5, D.truth.eq_6, slcop.eq_1, slcop.eq_2, bltop.eq_1, bltop.eq_2, bltop.eq_3, bltop.eq_4, bltop.eq_5, bltop.eq_6, bltop.eq_7, bltop.eq_9, bltop.eq_10, bltop.eq_11, bltop.eq_12, bltop.eq_13, bltop.eq_14, bltop.eq_15, bltop.eq_16, bltop.eq_17, bltop.eq_18, bltop.eq_19, bltop.eq_20, bltop.eq_21, bltop.eq_22, seq?.eq_1, seq?.eq_2, itemsOf.eq_1, itemsOf.eq_2, itemsOf.eq_3, enmOf.eq_1, zip2Of.eq_1, zip2Of.eq_2, endC_nx, endC_rt, PySem.sizeLine, wipeE, keepO, eqv_ii, eqv_bb, eqv_ib, eqv_bi, eqv_ss, eqv_ll, eqv_tt, eqv_nn, eqvs_nn, eqvs_cc, eqvs_r, flat_int, flat_bl, flat_non, flat_str, flat_lst, flat_tup, flats_nil, flats_cons, flats_ints, D.plain.eq_1, D.plain.eq_2, D.plain.eq_3, D.plain.eq_4, D.plain.eq_5, D.plain.eq_6, D.scal.eq_1, D.scal.eq_2, D.scal.eq_3, D.scal.eq_4, D.scal.eq_5, D.isNon.eq_1, D.isNon.eq_2, isiop, isTy, tyOk, b2i]
end
end LW

namespace LW
open AR
variable {w : Nat} {tab : Nat → Option Fn}
section
variable {C : CallF} {ca cs cc cm cr ct cd : Nat} {sc : D} {I : Int} {l ot pa : List D} {x2 x3 x4 x5 x6 x7 x8 x9 x10 x11 x12 x13 : Sl1} {rest : Ss} {h r lo f x : Int}
theorem l_3 (hx : L2.atI l 20 = some (.int x)) (ho : ot.length < 16777216) :
    execs C w (.cons (L3 ca cs cc cm cr ct cd 3) rest) [some (.sh, sc), some (.sh, .int I), some (.sh, .lst l), some (.sh, Rl.d ⟨h, r, lo, f⟩), some (.own, .lst ot), x5, x6, x7, x8, x9, x10, x11, x12, x13] = execs C w rest [some (.sh, sc), some (.sh, .int I), some (.sh, .lst l), some (.sh, Rl.d ⟨h, r, lo, f⟩), some (.own, .lst (ot ++ [Rl.d ⟨h, r, lo, 1 + x % 5⟩])), x5, x6, x7, x8, x9, x10, x11, x12, x13] := by
  have a0 : ∀ a b c d : Int, L2.atI [D.int a, D.int b, D.int c, D.int d] 0 = some (.int a) := fun _ _ _ _ => rfl
  have a1 : ∀ a b c d : Int, L2.atI [D.int a, D.int b, D.int c, D.int d] 1 = some (.int b) := fun _ _ _ _ => rfl
  have a2 : ∀ a b c d : Int, L2.atI [D.int a, D.int b, D.int c, D.int d] 2 = some (.int c) := fun _ _ _ _ => rfl
  simp only [L3, B_law_2, List.getD_cons_zero, List.getD_cons_succ]
  simp [Rl.d, hx, ho, a0, a1, a2, kTup_ap, kLst_ap, kRes_ap, kBin2_ap, kBin_ap, kBl_ap, kNb_ap, kNot_ap, kAnd2_ap, kAnd_ap, kOr2_ap, kOr_ap, kIfe2_ap, kIfe_ap, kCmp2_ap, kCmp_ap, kCall4_ap, kCall3_ap, kCall2_ap, kCall_ap, kBlt_ap, kIsi_ap, kSh_ap, kSub2_ap, kSub_ap, kSlc3_ap, kSlc2_ap, kSlc_ap, kCons_ap, kEvs_ap, kEvP_ap, kConsF_ap, kEvPar_ap, kConsA_ap, kEvA_ap, kConsS_ap, kIfs2_ap, kIfs_ap, kEl_ap, kL_ap, kVal_ap, kEn_ap, kEnm_ap, kZ2_ap, kZ_ap, kTr_ap, kT0_ap, kT1_ap, kT2_ap, kComp_ap, kColl_ap, kQ_ap, kB_ap, kFor2_ap, kFor_ap, kNx_ap, kAsg_ap, kAsgT_ap, kPar2_ap, kPar_ap, kStp_ap, kApp_ap, kRet_ap, kIfS_ap, kEx_ap, kEnd_ap, ev_var, getV_ok, fl_sh, fl_own, fl_io, ev_cst, ev_gfn, ev_tup, ev_lst, ev_bin, negV_int, ev_neg, ev_not, ev_and, ev_or, ev_ife, ev_cmp, ev_call, ev_blt, ev_isi, ev_sub, ev_slc, intO_int, evO_no, evO_yes, AR.evs_nil, AR.evs_cons, evP_nil, evP_cons, evPar_nil, evPar_cons, evA_nil, evA_c, aO_no, E.isRef.eq_1, E.isRef.eq_2, res_nil, res_v, refs_nil, refs_vv, outs_nil, nodup_nil, evIfs_nil, evIfs_cons, evCl_el, ev_comp, evCl_one, evI_val, rngV_int, evI_rng1, evI_enm, evI_zip2, isMut_eq, any_nil, any_cons, mutO.eq_1, mutO.eq_2, mutO.eq_3, setO_ok, setV_o, isIo_no, isIo_sh, isIo_own, frz_nil, frz_cons, frzO_own, frzO_sh, frzO_no, plainF_ap, evF_eq, pureF_no, pureF_yes, evT_eq, pureT_no, pureT_yes, ice_nil, ice_cons, iceO_some, iceO_none, new_sh, new_fr, appO_own, fre_sh, fre_fr, pk_sh, pk_fr, pk_bo, pk_bi, out_sh, out_fr, out_bo, subO_ok, sub_tup, sub_lst, sub_scr, AR.exec_asgv, exec_asgt, exec_par, exec_app, exec_aug, augV_int, augO_int, exec_ret, exec_ret0, exec_ife, exec_ex, exec_pass, AR.execs_nil, AR.execs_cons, thenS_nx, thenS_rt, AR.exec_for, exec_whl, bind_var, bind_tup, binds_nil, binds_cons, stp_nil, stp_cons, E.esc, E.escP, E.escR, E.pure, Es.esc, Es.escP, Es.pure, pureO, escO, It.esc, It.escP, It.pure, Cl.esc, Cl.pureC, binop.eq_1, binop.eq_2, binop.eq_3, binop.eq_4, binop.eq_5, binop.eq_6, binop.eq_7, binop.eq_8, binop.eq_9, binop.eq_10, cmpop.eq_1, cmpop.eq_2, cmpop.eq_3, cmpop.eq_4, cmpop.eq_5, cmpop.eq_6, cmpop.eq_7, cmpop.eq_8, cmpop.eq_9, cmpop.eq_10, cmpop.eq_11, cmpop.eq_12, cmpop.eq_13, D.truth.eq_1, D.truth.eq_2, D.truth.eq_3, D.truth.eq_4, D.truth.eq_5, D.truth.eq_6, slcop.eq_1, slcop.eq_2, bltop.eq_1, bltop.eq_2, bltop.eq_3, bltop.eq_4, bltop.eq_5, bltop.eq_6, bltop.eq_7, bltop.eq_9, bltop.eq_10, bltop.eq_11, bltop.eq_12, bltop.eq_13, bltop.eq_14, bltop.eq_15, bltop.eq_16, bltop.eq_17, bltop.eq_18, bltop.eq_19, bltop.eq_20, bltop.eq_21, bltop.eq_22, seq?.eq_1, seq?.eq_2, itemsOf.eq_1, itemsOf.eq_2, itemsOf.eq_3, enmOf.eq_1, zip2Of.eq_1, zip2Of.eq_2, endC_nx, endC_rt, PySem.sizeLine, wipeE, keepO, eqv_ii, eqv_bb, eqv_ib, eqv_bi, eqv_ss, eqv_ll, eqv_tt, eqv_nn, eqvs_nn, eqvs_cc, eqvs_r, flat_int, flat_bl, flat_non, flat_str, flat_lst, flat_tup, flats_nil, flats_cons, flats_ints, D.plain.eq_1, D.plain.eq_2, D.plain.eq_3, D.plain.eq_4, D.plain.eq_5, D.plain.eq_6, D.scal.eq_1, D.scal.eq_2, D.scal.eq_3, D.scal.eq_4, D.scal.eq_5, D.isNon.eq_1, D.isNon.eq_2, isiop, isTy, tyOk, b2i]
theorem l_4 (hx : L2.atI l 21 = some (.int x)) (ho : ot.length < 16777216) :
    execs C w (.cons (L3 ca cs cc cm cr ct cd 4) rest) [some (.sh, sc), some (.sh, .int I), some (.sh, .lst l), some (.sh, Rl.d ⟨h, r, lo, f⟩), some (.own, .lst ot), x5, x6, x7, x8, x9, x10, x11, x12, x13] = execs C w rest [some (.sh, sc), some (.sh, .int I), some (.sh, .lst l), some (.sh, Rl.d ⟨h, r, lo, f⟩), some (.own, .lst (ot ++ [Rl.d ⟨h, 1 + x % 5, if lo - 1 > 0 - 100 then lo - 1 else 0 - 100, f⟩])), x5, x6, x7, x8, x9, x10, x11, x12, x13] := by
  have a0 : ∀ a b c d : Int, L2.atI [D.int a, D.int b, D.int c, D.int d] 0 = some (.int a) := fun _ _ _ _ => rfl
  have a2 : ∀ a b c d : Int, L2.atI [D.int a, D.int b, D.int c, D.int d] 2 = some (.int c) := fun _ _ _ _ => rfl
  have a3 : ∀ a b c d : Int, L2.atI [D.int a, D.int b, D.int c, D.int d] 3 = some (.int d) := fun _ _ _ _ => rfl
  simp only [L3, B_law_2, List.getD_cons_zero, List.getD_cons_succ]
  simp [Rl.d, hx, ho, a0, a2, a3, kTup_ap, kLst_ap, kRes_ap, kBin2_ap, kBin_ap, kBl_ap, kNb_ap, kNot_ap, kAnd2_ap, kAnd_ap, kOr2_ap, kOr_ap, kIfe2_ap, kIfe_ap, kCmp2_ap, kCmp_ap, kCall4_ap, kCall3_ap, kCall2_ap, kCall_ap, kBlt_ap, kIsi_ap, kSh_ap, kSub2_ap, kSub_ap, kSlc3_ap, kSlc2_ap, kSlc_ap, kCons_ap, kEvs_ap, kEvP_ap, kConsF_ap, kEvPar_ap, kConsA_ap, kEvA_ap, kConsS_ap, kIfs2_ap, kIfs_ap, kEl_ap, kL_ap, kVal_ap, kEn_ap, kEnm_ap, kZ2_ap, kZ_ap, kTr_ap, kT0_ap, kT1_ap, kT2_ap, kComp_ap, kColl_ap, kQ_ap, kB_ap, kFor2_ap, kFor_ap, kNx_ap, kAsg_ap, kAsgT_ap, kPar2_ap, kPar_ap, kStp_ap, kApp_ap, kRet_ap, kIfS_ap, kEx_ap, kEnd_ap, ev_var, getV_ok, fl_sh, fl_own, fl_io, ev_cst, ev_gfn, ev_tup, ev_lst, ev_bin, negV_int, ev_neg, ev_not, ev_and, ev_or, ev_ife, ev_cmp, ev_call, ev_blt, ev_isi, ev_sub, ev_slc, intO_int, evO_no, evO_yes, AR.evs_nil, AR.evs_cons, evP_nil, evP_cons, evPar_nil, evPar_cons, evA_nil, evA_c, aO_no, E.isRef.eq_1, E.isRef.eq_2, res_nil, res_v, refs_nil, refs_vv, outs_nil, nodup_nil, evIfs_nil, evIfs_cons, evCl_el, ev_comp, evCl_one, evI_val, rngV_int, evI_rng1, evI_enm, evI_zip2, isMut_eq, any_nil, any_cons, mutO.eq_1, mutO.eq_2, mutO.eq_3, setO_ok, setV_o, isIo_no, isIo_sh, isIo_own, frz_nil, frz_cons, frzO_own, frzO_sh, frzO_no, plainF_ap, evF_eq, pureF_no, pureF_yes, evT_eq, pureT_no, pureT_yes, ice_nil, ice_cons, iceO_some, iceO_none, new_sh, new_fr, appO_own, fre_sh, fre_fr, pk_sh, pk_fr, pk_bo, pk_bi, out_sh, out_fr, out_bo, subO_ok, sub_tup, sub_lst, sub_scr, AR.exec_asgv, exec_asgt, exec_par, exec_app, exec_aug, augV_int, augO_int, exec_ret, exec_ret0, exec_ife, exec_ex, exec_pass, AR.execs_nil, AR.execs_cons, thenS_nx, thenS_rt, AR.exec_for, exec_whl, bind_var, bind_tup, binds_nil, binds_cons, stp_nil, stp_cons, E.esc, E.escP, E.escR, E.pure, Es.esc, Es.escP, Es.pure, pureO, escO, It.esc, It.escP, It.pure, Cl.esc, Cl.pureC, binop.eq_1, binop.eq_2, binop.eq_3, binop.eq_4, binop.eq_5, binop.eq_6, binop.eq_7, binop.eq_8, binop.eq_9, binop.eq_10, cmpop.eq_1, cmpop.eq_2, cmpop.eq_3, cmpop.eq_4, cmpop.eq_5, cmpop.eq_6, cmpop.eq_7, cmpop.eq_8, cmpop.eq_9, cmpop.eq_10, cmpop.eq_11, cmpop.eq_12, cmpop.eq_13, D.truth.eq_1, D.truth.eq_2, D.truth.eq_3, D.truth.eq_4, D.truth.eq_5, D.truth.eq_6, slcop.eq_1, slcop.eq_2, bltop.eq_1, bltop.eq_2, bltop.eq_3, bltop.eq_4, bltop.eq_5, bltop.eq_6, bltop.eq_7, bltop.eq_9, bltop.eq_10, bltop.eq_11, bltop.eq_12, bltop.eq_13, bltop.eq_14, bltop.eq_15, bltop.eq_16, bltop.eq_17, bltop.eq_18, bltop.eq_19, bltop.eq_20, bltop.eq_21, bltop.eq_22, seq?.eq_1, seq?.eq_2, itemsOf.eq_1, itemsOf.eq_2, itemsOf.eq_3, enmOf.eq_1, zip2Of.eq_1, zip2Of.eq_2, endC_nx, endC_rt, PySem.sizeLine, wipeE, keepO, eqv_ii, eqv_bb, eqv_ib, eqv_bi, eqv_ss, eqv_ll, eqv_tt, eqv_nn, eqvs_nn, eqvs_cc, eqvs_r, flat_int, flat_bl, flat_non, flat_str, flat_lst, flat_tup, flats_nil, flats_cons, flats_ints, D.plain.eq_1, D.plain.eq_2, D.plain.eq_3, D.plain.eq_4, D.plain.eq_5, D.plain.eq_6, D.scal.eq_1, D.scal.eq_2, D.scal.eq_3, D.scal.eq_4, D.scal.eq_5, D.isNon.eq_1, D.isNon.eq_2, isiop, isTy, tyOk, b2i]
theorem pr_col {ru : D} {e1 e2 e3 : Sl1} {e5 e6 e8 e9 e10 e11 e12 e13 e14 : Sl1} (ots : List D) : collect [6] (compB C [6] (.var 6) .nil (.tup (.cons (.var 3) (.cons (.var 6) .nil)))) ots [e1, e2, e3, some (.sh, ru), e5, e6, none, e8, e9, e10, e11, e12, e13, e14] = .ok ([e1, e2, e3, some (.sh, ru), e5, e6, none, e8, e9, e10, e11, e12, e13, e14], ots.map fun o => .tup [ru, o]) := by
  have := collect_ix (own := [6]) (f := compB C [6] (.var 6) .nil (.tup (.cons (.var 3) (.cons (.var 6) .nil)))) (env := [e1, e2, e3, some (.sh, ru), e5, e6, none, e8, e9, e10, e11, e12, e13, e14]) (ds := ots) (out := ots.map fun o => [D.tup [ru, o]]) (by simp) fun i d l h1 h2 => by
    rw [List.getElem?_map, h1] at h2
    cases h2
    refine ⟨[e1, e2, e3, some (.sh, ru), e5, e6, some (.sh, d), e8, e9, e10, e11, e12, e13, e14], ?_, rfl⟩
    rw [compB_ap]
    simp [kTup_ap, kLst_ap, kRes_ap, kBin2_ap, kBin_ap, kBl_ap, kNb_ap, kNot_ap, kAnd2_ap, kAnd_ap, kOr2_ap, kOr_ap, kIfe2_ap, kIfe_ap, kCmp2_ap, kCmp_ap, kCall4_ap, kCall3_ap, kCall2_ap, kCall_ap, kBlt_ap, kIsi_ap, kSh_ap, kSub2_ap, kSub_ap, kSlc3_ap, kSlc2_ap, kSlc_ap, kCons_ap, kEvs_ap, kEvP_ap, kConsF_ap, kEvPar_ap, kConsA_ap, kEvA_ap, kConsS_ap, kIfs2_ap, kIfs_ap, kEl_ap, kL_ap, kVal_ap, kEn_ap, kEnm_ap, kZ2_ap, kZ_ap, kTr_ap, kT0_ap, kT1_ap, kT2_ap, kComp_ap, kColl_ap, kQ_ap, kB_ap, kFor2_ap, kFor_ap, kNx_ap, kAsg_ap, kAsgT_ap, kPar2_ap, kPar_ap, kStp_ap, kApp_ap, kRet_ap, kIfS_ap, kEx_ap, kEnd_ap, ev_var, getV_ok, fl_sh, fl_own, fl_io, ev_cst, ev_gfn, ev_tup, ev_lst, ev_bin, negV_int, ev_neg, ev_not, ev_and, ev_or, ev_ife, ev_cmp, ev_call, ev_blt, ev_isi, ev_sub, ev_slc, intO_int, evO_no, evO_yes, AR.evs_nil, AR.evs_cons, evP_nil, evP_cons, evPar_nil, evPar_cons, evA_nil, evA_c, aO_no, E.isRef.eq_1, E.isRef.eq_2, res_nil, res_v, refs_nil, refs_vv, outs_nil, nodup_nil, evIfs_nil, evIfs_cons, evCl_el, ev_comp, evCl_one, evI_val, rngV_int, evI_rng1, evI_enm, evI_zip2, isMut_eq, any_nil, any_cons, mutO.eq_1, mutO.eq_2, mutO.eq_3, setO_ok, setV_o, isIo_no, isIo_sh, isIo_own, frz_nil, frz_cons, frzO_own, frzO_sh, frzO_no, plainF_ap, evF_eq, pureF_no, pureF_yes, evT_eq, pureT_no, pureT_yes, ice_nil, ice_cons, iceO_some, iceO_none, new_sh, new_fr, appO_own, fre_sh, fre_fr, pk_sh, pk_fr, pk_bo, pk_bi, out_sh, out_fr, out_bo, subO_ok, sub_tup, sub_lst, sub_scr, AR.exec_asgv, exec_asgt, exec_par, exec_app, exec_aug, augV_int, augO_int, exec_ret, exec_ret0, exec_ife, exec_ex, exec_pass, AR.execs_nil, AR.execs_cons, thenS_nx, thenS_rt, AR.exec_for, exec_whl, bind_var, bind_tup, binds_nil, binds_cons, stp_nil, stp_cons, E.esc, E.escP, E.escR, E.pure, Es.esc, Es.escP, Es.pure, pureO, escO, It.esc, It.escP, It.pure, Cl.esc, Cl.pureC, binop.eq_1, binop.eq_2, binop.eq_3, binop.eq_4, binop.eq_5, binop.eq_6, binop.eq_7, binop.eq_8, binop.eq_9, binop.eq_10, cmpop.eq_1, cmpop.eq_2, cmpop.eq_3, cmpop.eq_4, cmpop.eq_5, cmpop.eq_6, cmpop.eq_7, cmpop.eq_8, cmpop.eq_9, cmpop.eq_10, cmpop.eq_11, cmpop.eq_12, cmpop.eq_13, D.truth.eq_1, D.truth.eq_2, D.truth.eq_3, D.truth.eq_4, D.truth.eq_5, D.truth.eq_6, slcop.eq_1, slcop.eq_2, bltop.eq_1, bltop.eq_2, bltop.eq_3, bltop.eq_4, bltop.eq_5, bltop.eq_6, bltop.eq_7, bltop.eq_9, bltop.eq_10, bltop.eq_11, bltop.eq_12, bltop.eq_13, bltop.eq_14, bltop.eq_15, bltop.eq_16, bltop.eq_17, bltop.eq_18, bltop.eq_19, bltop.eq_20, bltop.eq_21, bltop.eq_22, seq?.eq_1, seq?.eq_2, itemsOf.eq_1, itemsOf.eq_2, itemsOf.eq_3, enmOf.eq_1, zip2Of.eq_1, zip2Of.eq_2, endC_nx, endC_rt, PySem.sizeLine, wipeE, keepO, eqv_ii, eqv_bb, eqv_ib, eqv_bi, eqv_ss, eqv_ll, eqv_tt, eqv_nn, eqvs_nn, eqvs_cc, eqvs_r, flat_int, flat_bl, flat_non, flat_str, flat_lst, flat_tup, flats_nil, flats_cons, flats_ints, D.plain.eq_1, D.plain.eq_2, D.plain.eq_3, D.plain.eq_4, D.plain.eq_5, D.plain.eq_6, D.scal.eq_1, D.scal.eq_2, D.scal.eq_3, D.scal.eq_4, D.scal.eq_5, D.isNon.eq_1, D.isNon.eq_2, isiop, isTy, tyOk, b2i]
  rw [this, flat_single]
theorem pr_col2 {ru : D} {e1 e2 e3 : Sl1} {e5 e6 e8 e9 e10 e11 e12 e13 e14 : Sl1} (ots : List D) : collect [6] (compB C [6] (.var 6) .nil (.tup (.cons (.var 6) (.cons (.var 3) .nil)))) ots [e1, e2, e3, some (.sh, ru), e5, e6, none, e8, e9, e10, e11, e12, e13, e14] = .ok ([e1, e2, e3, some (.sh, ru), e5, e6, none, e8, e9, e10, e11, e12, e13, e14], ots.map fun o => .tup [o, ru]) := by
  have := collect_ix (own := [6]) (f := compB C [6] (.var 6) .nil (.tup (.cons (.var 6) (.cons (.var 3) .nil)))) (env := [e1, e2, e3, some (.sh, ru), e5, e6, none, e8, e9, e10, e11, e12, e13, e14]) (ds := ots) (out := ots.map fun o => [D.tup [o, ru]]) (by simp) fun i d l h1 h2 => by
    rw [List.getElem?_map, h1] at h2
    cases h2
    refine ⟨[e1, e2, e3, some (.sh, ru), e5, e6, some (.sh, d), e8, e9, e10, e11, e12, e13, e14], ?_, rfl⟩
    rw [compB_ap]
    simp [kTup_ap, kLst_ap, kRes_ap, kBin2_ap, kBin_ap, kBl_ap, kNb_ap, kNot_ap, kAnd2_ap, kAnd_ap, kOr2_ap, kOr_ap, kIfe2_ap, kIfe_ap, kCmp2_ap, kCmp_ap, kCall4_ap, kCall3_ap, kCall2_ap, kCall_ap, kBlt_ap, kIsi_ap, kSh_ap, kSub2_ap, kSub_ap, kSlc3_ap, kSlc2_ap, kSlc_ap, kCons_ap, kEvs_ap, kEvP_ap, kConsF_ap, kEvPar_ap, kConsA_ap, kEvA_ap, kConsS_ap, kIfs2_ap, kIfs_ap, kEl_ap, kL_ap, kVal_ap, kEn_ap, kEnm_ap, kZ2_ap, kZ_ap, kTr_ap, kT0_ap, kT1_ap, kT2_ap, kComp_ap, kColl_ap, kQ_ap, kB_ap, kFor2_ap, kFor_ap, kNx_ap, kAsg_ap, kAsgT_ap, kPar2_ap, kPar_ap, kStp_ap, kApp_ap, kRet_ap, kIfS_ap, kEx_ap, kEnd_ap, ev_var, getV_ok, fl_sh, fl_own, fl_io, ev_cst, ev_gfn, ev_tup, ev_lst, ev_bin, negV_int, ev_neg, ev_not, ev_and, ev_or, ev_ife, ev_cmp, ev_call, ev_blt, ev_isi, ev_sub, ev_slc, intO_int, evO_no, evO_yes, AR.evs_nil, AR.evs_cons, evP_nil, evP_cons, evPar_nil, evPar_cons, evA_nil, evA_c, aO_no, E.isRef.eq_1, E.isRef.eq_2, res_nil, res_v, refs_nil, refs_vv, outs_nil, nodup_nil, evIfs_nil, evIfs_cons, evCl_el, ev_comp, evCl_one, evI_val, rngV_int, evI_rng1, evI_enm, evI_zip2, isMut_eq, any_nil, any_cons, mutO.eq_1, mutO.eq_2, mutO.eq_3, setO_ok, setV_o, isIo_no, isIo_sh, isIo_own, frz_nil, frz_cons, frzO_own, frzO_sh, frzO_no, plainF_ap, evF_eq, pureF_no, pureF_yes, evT_eq, pureT_no, pureT_yes, ice_nil, ice_cons, iceO_some, iceO_none, new_sh, new_fr, appO_own, fre_sh, fre_fr, pk_sh, pk_fr, pk_bo, pk_bi, out_sh, out_fr, out_bo, subO_ok, sub_tup, sub_lst, sub_scr, AR.exec_asgv, exec_asgt, exec_par, exec_app, exec_aug, augV_int, augO_int, exec_ret, exec_ret0, exec_ife, exec_ex, exec_pass, AR.execs_nil, AR.execs_cons, thenS_nx, thenS_rt, AR.exec_for, exec_whl, bind_var, bind_tup, binds_nil, binds_cons, stp_nil, stp_cons, E.esc, E.escP, E.escR, E.pure, Es.esc, Es.escP, Es.pure, pureO, escO, It.esc, It.escP, It.pure, Cl.esc, Cl.pureC, binop.eq_1, binop.eq_2, binop.eq_3, binop.eq_4, binop.eq_5, binop.eq_6, binop.eq_7, binop.eq_8, binop.eq_9, binop.eq_10, cmpop.eq_1, cmpop.eq_2, cmpop.eq_3, cmpop.eq_4, cmpop.eq_5, cmpop.eq_6, cmpop.eq_7, cmpop.eq_8, cmpop.eq_9, cmpop.eq_10, cmpop.eq_11, cmpop.eq_12, cmpop.eq_13, D.truth.eq_1, D.truth.eq_2, D.truth.eq_3, D.truth.eq_4, D.truth.eq_5, D.truth.eq_6, slcop.eq_1, slcop.eq_2, bltop.eq_1, bltop.eq_2, bltop.eq_3, bltop.eq_4, bltop.eq_5, bltop.eq_6, bltop.eq_7, bltop.eq_9, bltop.eq_10, bltop.eq_11, bltop.eq_12, bltop.eq_13, bltop.eq_14, bltop.eq_15, bltop.eq_16, bltop.eq_17, bltop.eq_18, bltop.eq_19, bltop.eq_20, bltop.eq_21, bltop.eq_22, seq?.eq_1, seq?.eq_2, itemsOf.eq_1, itemsOf.eq_2, itemsOf.eq_3, enmOf.eq_1, zip2Of.eq_1, zip2Of.eq_2, endC_nx, endC_rt, PySem.sizeLine, wipeE, keepO, eqv_ii, eqv_bb, eqv_ib, eqv_bi, eqv_ss, eqv_ll, eqv_tt, eqv_nn, eqvs_nn, eqvs_cc, eqvs_r, flat_int, flat_bl, flat_non, flat_str, flat_lst, flat_tup, flats_nil, flats_cons, flats_ints, D.plain.eq_1, D.plain.eq_2, D.plain.eq_3, D.plain.eq_4, D.plain.eq_5, D.plain.eq_6, D.scal.eq_1, D.scal.eq_2, D.scal.eq_3, D.scal.eq_4, D.scal.eq_5, D.isNon.eq_1, D.isNon.eq_2, isiop, isTy, tyOk, b2i]
  rw [this, flat_single]
theorem l_5 {ru : D} (h5 : isIo x5 = false) (h6 : x6 = none ∨ ∃ d, x6 = some (.sh, d)) (ho : ot.length ≤ 1000) :
    execs C w (.cons (L3 ca cs cc cm cr ct cd 5) rest) [some (.sh, sc), some (.sh, .int I), some (.sh, .lst l), some (.sh, ru), some (.own, .lst ot), x5, x6, x7, x8, x9, x10, x11, x12, x13] = execs C w rest [some (.sh, sc), some (.sh, .int I), some (.sh, .lst l), some (.sh, ru), some (.own, .lst ot), some (.own, .lst (ot.map fun o => .tup [ru, o])), x6, x7, x8, x9, x10, x11, x12, x13] := by
  have hc := pr_col (C := C) (ru := ru) (e1 := some (.sh, sc)) (e2 := some (.sh, .int I)) (e3 := some (.sh, .lst l)) (e5 := some (.own, .lst ot)) (e6 := x5) (e8 := x7) (e9 := x8) (e10 := x9) (e11 := x10) (e12 := x11) (e13 := x12) (e14 := x13) ot
  have hl : (ot.map fun o => D.tup [ru, o]).length ≤ 16777216 := by rw [List.length_map]; omega
  generalize (ot.map fun o => D.tup [ru, o]) = P at *
  simp only [L3, B_law_2, List.getD_cons_zero, List.getD_cons_succ]
  rcases h6 with rfl | ⟨d, rfl⟩ <;> simp [h5, hc, hl, kTup_ap, kLst_ap, kRes_ap, kBin2_ap, kBin_ap, kBl_ap, kNb_ap, kNot_ap, kAnd2_ap, kAnd_ap, kOr2_ap, kOr_ap, kIfe2_ap, kIfe_ap, kCmp2_ap, kCmp_ap, kCall4_ap, kCall3_ap, kCall2_ap, kCall_ap, kBlt_ap, kIsi_ap, kSh_ap, kSub2_ap, kSub_ap, kSlc3_ap, kSlc2_ap, kSlc_ap, kCons_ap, kEvs_ap, kEvP_ap, kConsF_ap, kEvPar_ap, kConsA_ap, kEvA_ap, kConsS_ap, kIfs2_ap, kIfs_ap, kEl_ap, kL_ap, kVal_ap, kEn_ap, kEnm_ap, kZ2_ap, kZ_ap, kTr_ap, kT0_ap, kT1_ap, kT2_ap, kComp_ap, kColl_ap, kQ_ap, kB_ap, kFor2_ap, kFor_ap, kNx_ap, kAsg_ap, kAsgT_ap, kPar2_ap, kPar_ap, kStp_ap, kApp_ap, kRet_ap, kIfS_ap, kEx_ap, kEnd_ap, ev_var, getV_ok, fl_sh, fl_own, fl_io, ev_cst, ev_gfn, ev_tup, ev_lst, ev_bin, negV_int, ev_neg, ev_not, ev_and, ev_or, ev_ife, ev_cmp, ev_call, ev_blt, ev_isi, ev_sub, ev_slc, intO_int, evO_no, evO_yes, AR.evs_nil, AR.evs_cons, evP_nil, evP_cons, evPar_nil, evPar_cons, evA_nil, evA_c, aO_no, E.isRef.eq_1, E.isRef.eq_2, res_nil, res_v, refs_nil, refs_vv, outs_nil, nodup_nil, evIfs_nil, evIfs_cons, evCl_el, ev_comp, evCl_one, evI_val, rngV_int, evI_rng1, evI_enm, evI_zip2, isMut_eq, any_nil, any_cons, mutO.eq_1, mutO.eq_2, mutO.eq_3, setO_ok, setV_o, isIo_no, isIo_sh, isIo_own, frz_nil, frz_cons, frzO_own, frzO_sh, frzO_no, plainF_ap, evF_eq, pureF_no, pureF_yes, evT_eq, pureT_no, pureT_yes, ice_nil, ice_cons, iceO_some, iceO_none, new_sh, new_fr, appO_own, fre_sh, fre_fr, pk_sh, pk_fr, pk_bo, pk_bi, out_sh, out_fr, out_bo, subO_ok, sub_tup, sub_lst, sub_scr, AR.exec_asgv, exec_asgt, exec_par, exec_app, exec_aug, augV_int, augO_int, exec_ret, exec_ret0, exec_ife, exec_ex, exec_pass, AR.execs_nil, AR.execs_cons, thenS_nx, thenS_rt, AR.exec_for, exec_whl, bind_var, bind_tup, binds_nil, binds_cons, stp_nil, stp_cons, E.esc, E.escP, E.escR, E.pure, Es.esc, Es.escP, Es.pure, pureO, escO, It.esc, It.escP, It.pure, Cl.esc, Cl.pureC, binop.eq_1, binop.eq_2, binop.eq_3, binop.eq_4, binop.eq_5, binop.eq_6, binop.eq_7, binop.eq_8, binop.eq_9, binop.eq_10, cmpop.eq_1, cmpop.eq_2, cmpop.eq_3, cmpop.eq_4, cmpop.eq_5, cmpop.eq_6, cmpop.eq_7, cmpop.eq_8, cmpop.eq_9, cmpop.eq_10, cmpop.eq_11, cmpop.eq_12, cmpop.eq_13, D.truth.eq_1, D.truth.eq_2, D.truth.eq_3, D.truth.eq_4, D.truth.eq_5, D.truth.eq_6, slcop.eq_1, slcop.eq_2, bltop.eq_1, bltop.eq_2, bltop.eq_3, bltop.eq_4, bltop.eq_5, bltop.eq_6, bltop.eq_7, bltop.eq_9, bltop.eq_10, bltop.eq_11, bltop.eq_12, bltop.eq_13, bltop.eq_14, bltop.eq_15, bltop.eq_16, bltop.eq_17, bltop.eq_18, bltop.eq_19, bltop.eq_20, bltop.eq_21, bltop.eq_22, seq?.eq_1, seq?.eq_2, itemsOf.eq_1, itemsOf.eq_2, itemsOf.eq_3, enmOf.eq_1, zip2Of.eq_1, zip2Of.eq_2, endC_nx, endC_rt, PySem.sizeLine, wipeE, keepO, eqv_ii, eqv_bb, eqv_ib, eqv_bi, eqv_ss, eqv_ll, eqv_tt, eqv_nn, eqvs_nn, eqvs_cc, eqvs_r, flat_int, flat_bl, flat_non, flat_str, flat_lst, flat_tup, flats_nil, flats_cons, flats_ints, D.plain.eq_1, D.plain.eq_2, D.plain.eq_3, D.plain.eq_4, D.plain.eq_5, D.plain.eq_6, D.scal.eq_1, D.scal.eq_2, D.scal.eq_3, D.scal.eq_4, D.scal.eq_5, D.isNon.eq_1, D.isNon.eq_2, isiop, isTy, tyOk, b2i]
theorem l_6 {ru : D} {bb : Ss} {env2 : Env} (h6 : x6 = none ∨ ∃ d, x6 = some (.sh, d)) (ho : ot.length ≤ 1000) (hp : pa.length ≤ 1000)
    (hf : forL (forB C w (.tup [.var 7, .var 6]) bb) (pa ++ ot.map fun o => .tup [o, ru]) [some (.sh, sc), some (.sh, .int I), some (.sh, .lst l), some (.sh, ru), some (.own, .lst ot), some (.own, .lst pa), x6, x7, x8, x9, x10, x11, x12, x13] = .ok (.nx env2)) :
    execs C w (.cons (.forS (.tup [.var 7, .var 6]) (.val (.bin .add (.var 5) (.comp [6] (.cons (.var 6) (.val (.var 4)) .nil (.el (.tup (.cons (.var 6) (.cons (.var 3) .nil)))))))) bb) rest) [some (.sh, sc), some (.sh, .int I), some (.sh, .lst l), some (.sh, ru), some (.own, .lst ot), some (.own, .lst pa), x6, x7, x8, x9, x10, x11, x12, x13] = execs C w rest env2 := by
  have hc := pr_col2 (C := C) (ru := ru) (e1 := some (.sh, sc)) (e2 := some (.sh, .int I)) (e3 := some (.sh, .lst l)) (e5 := some (.own, .lst ot)) (e6 := some (.own, .lst pa)) (e8 := x7) (e9 := x8) (e10 := x9) (e11 := x10) (e12 := x11) (e13 := x12) (e14 := x13) ot
  have hl : (ot.map fun o => D.tup [o, ru]).length ≤ 1000 := by rw [List.length_map]; omega
  generalize (ot.map fun o => D.tup [o, ru]) = P at *
  have hl2 : P.length ≤ 16777216 := by omega
  have hl3 : (pa.length + P.length ≤ 16777216) := by omega
  rcases h6 with rfl | ⟨d, rfl⟩ <;> simp [hc, hl2, hl3, hf, T.vars, kTup_ap, kLst_ap, kRes_ap, kBin2_ap, kBin_ap, kBl_ap, kNb_ap, kNot_ap, kAnd2_ap, kAnd_ap, kOr2_ap, kOr_ap, kIfe2_ap, kIfe_ap, kCmp2_ap, kCmp_ap, kCall4_ap, kCall3_ap, kCall2_ap, kCall_ap, kBlt_ap, kIsi_ap, kSh_ap, kSub2_ap, kSub_ap, kSlc3_ap, kSlc2_ap, kSlc_ap, kCons_ap, kEvs_ap, kEvP_ap, kConsF_ap, kEvPar_ap, kConsA_ap, kEvA_ap, kConsS_ap, kIfs2_ap, kIfs_ap, kEl_ap, kL_ap, kVal_ap, kEn_ap, kEnm_ap, kZ2_ap, kZ_ap, kTr_ap, kT0_ap, kT1_ap, kT2_ap, kComp_ap, kColl_ap, kQ_ap, kB_ap, kFor2_ap, kFor_ap, kNx_ap, kAsg_ap, kAsgT_ap, kPar2_ap, kPar_ap, kStp_ap, kApp_ap, kRet_ap, kIfS_ap, kEx_ap, kEnd_ap, ev_var, getV_ok, fl_sh, fl_own, fl_io, ev_cst, ev_gfn, ev_tup, ev_lst, ev_bin, negV_int, ev_neg, ev_not, ev_and, ev_or, ev_ife, ev_cmp, ev_call, ev_blt, ev_isi, ev_sub, ev_slc, intO_int, evO_no, evO_yes, AR.evs_nil, AR.evs_cons, evP_nil, evP_cons, evPar_nil, evPar_cons, evA_nil, evA_c, aO_no, E.isRef.eq_1, E.isRef.eq_2, res_nil, res_v, refs_nil, refs_vv, outs_nil, nodup_nil, evIfs_nil, evIfs_cons, evCl_el, ev_comp, evCl_one, evI_val, rngV_int, evI_rng1, evI_enm, evI_zip2, isMut_eq, any_nil, any_cons, mutO.eq_1, mutO.eq_2, mutO.eq_3, setO_ok, setV_o, isIo_no, isIo_sh, isIo_own, frz_nil, frz_cons, frzO_own, frzO_sh, frzO_no, plainF_ap, evF_eq, pureF_no, pureF_yes, evT_eq, pureT_no, pureT_yes, ice_nil, ice_cons, iceO_some, iceO_none, new_sh, new_fr, appO_own, fre_sh, fre_fr, pk_sh, pk_fr, pk_bo, pk_bi, out_sh, out_fr, out_bo, subO_ok, sub_tup, sub_lst, sub_scr, AR.exec_asgv, exec_asgt, exec_par, exec_app, exec_aug, augV_int, augO_int, exec_ret, exec_ret0, exec_ife, exec_ex, exec_pass, AR.execs_nil, AR.execs_cons, thenS_nx, thenS_rt, AR.exec_for, exec_whl, bind_var, bind_tup, binds_nil, binds_cons, stp_nil, stp_cons, E.esc, E.escP, E.escR, E.pure, Es.esc, Es.escP, Es.pure, pureO, escO, It.esc, It.escP, It.pure, Cl.esc, Cl.pureC, binop.eq_1, binop.eq_2, binop.eq_3, binop.eq_4, binop.eq_5, binop.eq_6, binop.eq_7, binop.eq_8, binop.eq_9, binop.eq_10, cmpop.eq_1, cmpop.eq_2, cmpop.eq_3, cmpop.eq_4, cmpop.eq_5, cmpop.eq_6, cmpop.eq_7, cmpop.eq_8, cmpop.eq_9, cmpop.eq_10, cmpop.eq_11, cmpop.eq_12, cmpop.eq_13, D.truth.eq_1, D.truth.eq_2, D.truth.eq_3, D.truth.eq_4, D.truth.eq_5, D.truth.eq_6, slcop.eq_1, slcop.eq_2, bltop.eq_1, bltop.eq_2, bltop.eq_3, bltop.eq_4, bltop.eq_5, bltop.eq_6, bltop.eq_7, bltop.eq_9, bltop.eq_10, bltop.eq_11, bltop.eq_12, bltop.eq_13, bltop.eq_14, bltop.eq_15, bltop.eq_16, bltop.eq_17, bltop.eq_18, bltop.eq_19, bltop.eq_20, bltop.eq_21, bltop.eq_22, seq?.eq_1, seq?.eq_2, itemsOf.eq_1, itemsOf.eq_2, itemsOf.eq_3, enmOf.eq_1, zip2Of.eq_1, zip2Of.eq_2, endC_nx, endC_rt, PySem.sizeLine, wipeE, keepO, eqv_ii, eqv_bb, eqv_ib, eqv_bi, eqv_ss, eqv_ll, eqv_tt, eqv_nn, eqvs_nn, eqvs_cc, eqvs_r, flat_int, flat_bl, flat_non, flat_str, flat_lst, flat_tup, flats_nil, flats_cons, flats_ints, D.plain.eq_1, D.plain.eq_2, D.plain.eq_3, D.plain.eq_4, D.plain.eq_5, D.plain.eq_6, D.scal.eq_1, D.scal.eq_2, D.scal.eq_3, D.scal.eq_4, D.scal.eq_5, D.isNon.eq_1, D.isNon.eq_2, isiop, isTy, tyOk, b2i]
end
end LW

namespace LW
open AR
variable {w : Nat} {tab : Nat → Option Fn}
/-- k03's table -/
structure Tab3 (tab : Nat → Option Fn) (ca cs cc cm cr ct cd kf kc kr ks kl : Nat) : Prop where
  hA : tab ca = some ⟨2, [], 4, B_active kf⟩
  hF : tab kf = some ⟨2, [], 6, B_condition_flags kc kr⟩
  hK : tab kc = some ⟨2, [], 2, B_combined⟩
  hR : tab kr = some ⟨2, [], 5, B_rule_activity ks⟩
  hS : tab ks = some ⟨3, [], 9, B_step⟩
  hG : tab cs = some ⟨3, [], 10, B_law_signal⟩
  hV : tab cc = some ⟨2, [], 2, B_rule_covers⟩
  hM : tab cm = some ⟨2, [], 2, B_law_same_bool⟩
  hQ : tab cr = some ⟨1, [], 3, B_law_rule⟩
  hT : tab ct = some ⟨2, [], 4, B_law_stronger⟩
  hD : tab cd = some ⟨4, [], 10, B_law_digits kl⟩
  hL : tab kl = some ⟨2, [], 2, B_law_cell⟩
def lB3 (ca cs cc cm cr ct cd : Nat) : Ss := .cons (L3 ca cs cc cm cr ct cd 0) (.cons (L3 ca cs cc cm cr ct cd 1) (.cons (L3 ca cs cc cm cr ct cd 2) (.cons (L3 ca cs cc cm cr ct cd 3) (.cons (L3 ca cs cc cm cr ct cd 4) (.cons (L3 ca cs cc cm cr ct cd 5)
  (.cons (.forS (.tup [.var 7, .var 6]) (.val (.bin .add (.var 5) (.comp [6] (.cons (.var 6) (.val (.var 4)) .nil (.el (.tup (.cons (.var 6) (.cons (.var 3) .nil)))))))) (pB3 ca cs cc cm cr ct cd)) .nil))))))
def Io0 (x : Sl1) : Prop := isIo x = false
theorem ix_turn {ca cs cc cm cr ct cd kf kc kr ks kl : Nat} (T : Tab3 tab ca cs cc cm cr ct cd kf kc kr ks kl) (n : Nat) (ns : List Int) (i : Nat) {x1 x2 x3 x4 x5 x6 x7 x8 x9 x10 x11 x12 : Sl1}
    (h1 : isIo x1 = false) (h2 : isIo x2 = false) (h3 : isIo x3 = false) (h4 : isIo x4 = false) (h5 : isIo x5 = false) (h6 : x6 = none ∨ ∃ d, x6 = some (.sh, d)) (h7 : isIo x7 = false) (h8 : isIo x8 = false) (h9 : isIo x9 = false) (h10 : isIo x10 = false) (h11 : isIo x11 = false) (h12 : isIo x12 = false) :
    ∃ y1 y2 y3 y4 y5 y6 y7 y8 y9 y10 y11 y12 : Sl1, (isIo y1 = false ∧ isIo y2 = false ∧ isIo y3 = false ∧ isIo y4 = false ∧ isIo y5 = false ∧ (y6 = none ∨ ∃ d, y6 = some (.sh, d)) ∧ isIo y7 = false ∧ isIo y8 = false ∧ isIo y9 = false ∧ isIo y10 = false ∧ isIo y11 = false ∧ isIo y12 = false) ∧
      forB (callN tab w (n+4)) w (.var 1) (lB3 ca cs cc cm cr ct cd) [some (.sh, .scr ns), x1, x2, x3, x4, x5, x6, x7, x8, x9, x10, x11, x12, none] (.int (i : Int)) = .ok (.nx [some (.sh, .scr ns), y1, y2, y3, y4, y5, y6, y7, y8, y9, y10, y11, y12, none]) := by
  obtain ⟨l, l1, l2, l3⟩ := digits_run (w := w) T.hD T.hL (n+2) ns i 120 (by decide) (by decide) 27720 (by decide) (by decide)
  have l1 : l.length = 120 := l1
  obtain ⟨q, q1, q2⟩ := rule_run (w := w) T.hQ (n+3) l2 (by omega)
  have dr : ∀ k, Digs 27720 (l.drop k) := fun k => digs_sub l2 fun d hd => List.mem_of_mem_drop hd
  have c5 : cut l (some 5) none = l.drop 5 := cut_from l 5
  have c9 : cut l (some 9) none = l.drop 9 := cut_from l 9
  have c13 : cut l (some 13) none = l.drop 13 := cut_from l 13
  obtain ⟨a, a1, a2⟩ := stronger_run (w := w) T.hT (n+3) (dr 5) (by rw [List.length_drop]; omega) q1
  obtain ⟨b, b1, b2⟩ := stronger_run (w := w) T.hT (n+3) (dr 9) (by rw [List.length_drop]; omega) q1
  obtain ⟨c, e1, e2⟩ := rule_run (w := w) T.hQ (n+3) (dr 13) (by rw [List.length_drop]; omega)
  rw [← c5] at a2
  rw [← c9] at b2
  rw [← c13] at e2
  obtain ⟨u, u0, _, u1⟩ := digs_at l2 20 (by omega)
  obtain ⟨v, v0, _, v1⟩ := digs_at l2 21 (by omega)
  have u1 : L2.atI l 20 = some (.int u) := L2.atI_nat (j := 20) u1
  have v1 : L2.atI l 21 = some (.int v) := L2.atI_nat (j := 21) v1
  obtain ⟨h, r, lo, f⟩ := q
  obtain ⟨z1, z2, z3, z4, z5⟩ := q1
  have z1 : 1 ≤ r := z1
  have z2 : 1 ≤ f := z2
  have z3 : lo ≤ h := z3
  have z4 : -100 ≤ h := z4
  have z5 : -100 ≤ lo := z5
  have q1 : Rl.ok ⟨h, r, lo, f⟩ := ⟨z1, z2, z3, z4, z5⟩
  have ok5 : Rl.ok ⟨h, r, lo, 1 + u % 5⟩ := ⟨z1, by show 1 ≤ 1 + u % 5; omega, z3, z4, z5⟩
  have ok6 : Rl.ok ⟨h, 1 + v % 5, if lo - 1 > 0 - 100 then lo - 1 else 0 - 100, f⟩ := ⟨by show 1 ≤ 1 + v % 5; omega, z2, by show (if lo - 1 > 0 - 100 then lo - 1 else 0 - 100) ≤ h; split <;> omega, z4, by show -100 ≤ (if lo - 1 > 0 - 100 then lo - 1 else 0 - 100); split <;> omega⟩
  generalize hr5 : (⟨h, r, lo, 1 + u % 5⟩ : Rl) = r5 at *
  generalize hr6 : (⟨h, 1 + v % 5, if lo - 1 > 0 - 100 then lo - 1 else 0 - 100, f⟩ : Rl) = r6 at *
  -- the pairs
  have hall : ∀ o ∈ [Rl.mk h r lo f, a, b, c, r5, r6], o.ok := fun o ho => by
    simp only [List.mem_cons, List.not_mem_nil, or_false] at ho
    rcases ho with rfl | rfl | rfl | rfl | rfl | rfl
    · exact q1
    · exact a1
    · exact b1
    · exact e1
    · exact ok5
    · exact ok6
  obtain ⟨ots, hots⟩ : ∃ ots, ots = [Rl.mk h r lo f, a, b, c, r5, r6] := ⟨_, rfl⟩
  rw [← hots] at hall
  have hlo : ots.length = 6 := by rw [hots]; rfl
  generalize hI : (i : Int) = I at *
  have hb : bindT (.var 1) (.int I) [some (.sh, .scr ns), x1, x2, x3, x4, x5, x6, x7, x8, x9, x10, x11, x12, none] = .ok [some (.sh, .scr ns), some (.sh, .int I), x2, x3, x4, x5, x6, x7, x8, x9, x10, x11, x12, none] := by
    simp [bind_var, setV_o, setO_ok, h1]
  have i6 : isIo x6 = false := by rcases h6 with rfl | ⟨d, rfl⟩ <;> rfl
  obtain ⟨E2, f2, y6, y7, y8, y9, y10, y11, y12, rfl, j6, j7, j8, j9, j10, j11, j12⟩ := forL_ind (b := forB (callN tab w (n+4)) w (.tup [.var 7, .var 6]) (pB3 ca cs cc cm cr ct cd)) (l := (ots.map Rl.d).map (fun o => .tup [Rl.d ⟨h, r, lo, f⟩, o]) ++ (ots.map Rl.d).map fun o => .tup [o, Rl.d ⟨h, r, lo, f⟩])
    (env := [some (.sh, .scr ns), some (.sh, .int I), some (.sh, .lst l), some (.sh, Rl.d ⟨h, r, lo, f⟩), some (.own, .lst (ots.map Rl.d)), some (.own, .lst ((ots.map Rl.d).map fun o => .tup [Rl.d ⟨h, r, lo, f⟩, o])), x6, x7, x8, x9, x10, x11, x12, none])
    (fun i e => ∃ y6 y7 y8 y9 y10 y11 y12 : Sl1, e = [some (.sh, .scr ns), some (.sh, .int I), some (.sh, .lst l), some (.sh, Rl.d ⟨h, r, lo, f⟩), some (.own, .lst (ots.map Rl.d)), some (.own, .lst ((ots.map Rl.d).map fun o => .tup [Rl.d ⟨h, r, lo, f⟩, o])), y6, y7, y8, y9, y10, y11, y12, none] ∧ (y6 = none ∨ ∃ d, y6 = some (.sh, d)) ∧ isIo y7 = false ∧ isIo y8 = false ∧ isIo y9 = false ∧ isIo y10 = false ∧ isIo y11 = false ∧ isIo y12 = false)
    ⟨x6, x7, x8, x9, x10, x11, x12, rfl, h6, h7, h8, h9, h10, h11, h12⟩ (fun j d e hd hI => by
      obtain ⟨x6, x7, x8, x9, x10, x11, x12, rfl, h6, h7, h8, h9, h10, h11, h12⟩ := hI
      have i6 : isIo x6 = false := by rcases h6 with rfl | ⟨d, rfl⟩ <;> rfl
      have hpq : ∃ q p : Rl, q.ok ∧ p.ok ∧ d = .tup [q.d, p.d] := by
        have hm := List.mem_of_getElem? hd
        rw [List.mem_append, List.mem_map, List.mem_map] at hm
        rcases hm with ⟨o, ho, rfl⟩ | ⟨o, ho, rfl⟩
        · obtain ⟨o', ho', rfl⟩ := List.mem_map.mp ho
          exact ⟨⟨h, r, lo, f⟩, o', q1, hall o' ho', rfl⟩
        · obtain ⟨o', ho', rfl⟩ := List.mem_map.mp ho
          exact ⟨o', ⟨h, r, lo, f⟩, hall o' ho', q1, rfl⟩
      obtain ⟨q', p', k1, k2, rfl⟩ := hpq
      obtain ⟨y7, y8, y9, y10, y11, y12, g7, g8, g9, g10, g11, g12, hr⟩ := pair_turn (w := w) (ca := ca) (cs := cs) (cc := cc) (cm := cm) (cr := cr) (ct := ct) (cd := cd) (sc := .scr ns) (id := .int I) (ru := Rl.d ⟨h, r, lo, f⟩) (ot := ots.map Rl.d) (pa := (ots.map Rl.d).map fun o => .tup [Rl.d ⟨h, r, lo, f⟩, o]) T.hA T.hF T.hK T.hR T.hS T.hG T.hV T.hM n l2 l1 k1 k2 i6 h7 h8 h9 h10 h11 h12
      exact ⟨_, hr, _, y7, y8, y9, y10, y11, y12, rfl, .inr ⟨_, rfl⟩, g7, g8, g9, g10, g11, g12⟩)
  refine ⟨some (.sh, .int I), some (.sh, .lst l), some (.sh, Rl.d ⟨h, r, lo, f⟩), some (.own, .lst (ots.map Rl.d)), some (.own, .lst ((ots.map Rl.d).map fun o => .tup [Rl.d ⟨h, r, lo, f⟩, o])), y6, y7, y8, y9, y10, y11, y12, ⟨isIo_sh _, isIo_sh _, isIo_sh _, isIo_own _, isIo_own _, j6, j7, j8, j9, j10, j11, j12⟩, ?_⟩
  have hotl : [Rl.d ⟨h, r, lo, f⟩, a.d, b.d, c.d] ++ [r5.d] ++ [r6.d] = ots.map Rl.d := by rw [hots]; rfl
  rw [forB_ap, hb, bnd_yes]
  unfold lB3
  rw [l_0 h2 l3, l_1 h3 rfl q2, l_2 h4 a2 b2 e2, l_3 u1 (by simp), hr5, l_4 v1 (by simp), hr6, hotl, l_5 h5 h6 (by rw [List.length_map]; omega), l_6 h6 (by rw [List.length_map]; omega) (by rw [List.length_map, List.length_map]; omega) f2, AR.execs_nil]
end LW

namespace LW
open AR
variable {w : Nat} {tab : Nat → Option Fn}
theorem out_loop {C : CallF} {bb rest : Ss} {env env2 : Env} (hf : forL (forB C w (.var 1) bb) (rangeI 0 8) env = .ok (.nx env2)) : execs C w (.cons (.forS (.var 1) (.rng1 (.cst (.int 8))) bb) rest) env = execs C w rest env2 := by
  have hok : okB 8 = true := rfl
  simp [hf, hok, kTup_ap, kLst_ap, kRes_ap, kBin2_ap, kBin_ap, kBl_ap, kNb_ap, kNot_ap, kAnd2_ap, kAnd_ap, kOr2_ap, kOr_ap, kIfe2_ap, kIfe_ap, kCmp2_ap, kCmp_ap, kCall4_ap, kCall3_ap, kCall2_ap, kCall_ap, kBlt_ap, kIsi_ap, kSh_ap, kSub2_ap, kSub_ap, kSlc3_ap, kSlc2_ap, kSlc_ap, kCons_ap, kEvs_ap, kEvP_ap, kConsF_ap, kEvPar_ap, kConsA_ap, kEvA_ap, kConsS_ap, kIfs2_ap, kIfs_ap, kEl_ap, kL_ap, kVal_ap, kEn_ap, kEnm_ap, kZ2_ap, kZ_ap, kTr_ap, kT0_ap, kT1_ap, kT2_ap, kComp_ap, kColl_ap, kQ_ap, kB_ap, kFor2_ap, kFor_ap, kNx_ap, kAsg_ap, kAsgT_ap, kPar2_ap, kPar_ap, kStp_ap, kApp_ap, kRet_ap, kIfS_ap, kEx_ap, kEnd_ap, ev_var, getV_ok, fl_sh, fl_own, fl_io, ev_cst, ev_gfn, ev_tup, ev_lst, ev_bin, negV_int, ev_neg, ev_not, ev_and, ev_or, ev_ife, ev_cmp, ev_call, ev_blt, ev_isi, ev_sub, ev_slc, intO_int, evO_no, evO_yes, AR.evs_nil, AR.evs_cons, evP_nil, evP_cons, evPar_nil, evPar_cons, evA_nil, evA_c, aO_no, E.isRef.eq_1, E.isRef.eq_2, res_nil, res_v, refs_nil, refs_vv, outs_nil, nodup_nil, evIfs_nil, evIfs_cons, evCl_el, ev_comp, evCl_one, evI_val, rngV_int, evI_rng1, evI_enm, evI_zip2, isMut_eq, any_nil, any_cons, mutO.eq_1, mutO.eq_2, mutO.eq_3, setO_ok, setV_o, isIo_no, isIo_sh, isIo_own, frz_nil, frz_cons, frzO_own, frzO_sh, frzO_no, plainF_ap, evF_eq, pureF_no, pureF_yes, evT_eq, pureT_no, pureT_yes, ice_nil, ice_cons, iceO_some, iceO_none, new_sh, new_fr, appO_own, fre_sh, fre_fr, pk_sh, pk_fr, pk_bo, pk_bi, out_sh, out_fr, out_bo, subO_ok, sub_tup, sub_lst, sub_scr, AR.exec_asgv, exec_asgt, exec_par, exec_app, exec_aug, augV_int, augO_int, exec_ret, exec_ret0, exec_ife, exec_ex, exec_pass, AR.execs_nil, AR.execs_cons, thenS_nx, thenS_rt, AR.exec_for, exec_whl, bind_var, bind_tup, binds_nil, binds_cons, stp_nil, stp_cons, E.esc, E.escP, E.escR, E.pure, Es.esc, Es.escP, Es.pure, pureO, escO, It.esc, It.escP, It.pure, Cl.esc, Cl.pureC, binop.eq_1, binop.eq_2, binop.eq_3, binop.eq_4, binop.eq_5, binop.eq_6, binop.eq_7, binop.eq_8, binop.eq_9, binop.eq_10, cmpop.eq_1, cmpop.eq_2, cmpop.eq_3, cmpop.eq_4, cmpop.eq_5, cmpop.eq_6, cmpop.eq_7, cmpop.eq_8, cmpop.eq_9, cmpop.eq_10, cmpop.eq_11, cmpop.eq_12, cmpop.eq_13, D.truth.eq_1, D.truth.eq_2, D.truth.eq_3, D.truth.eq_4, D.truth.eq_5, D.truth.eq_6, slcop.eq_1, slcop.eq_2, bltop.eq_1, bltop.eq_2, bltop.eq_3, bltop.eq_4, bltop.eq_5, bltop.eq_6, bltop.eq_7, bltop.eq_9, bltop.eq_10, bltop.eq_11, bltop.eq_12, bltop.eq_13, bltop.eq_14, bltop.eq_15, bltop.eq_16, bltop.eq_17, bltop.eq_18, bltop.eq_19, bltop.eq_20, bltop.eq_21, bltop.eq_22, seq?.eq_1, seq?.eq_2, itemsOf.eq_1, itemsOf.eq_2, itemsOf.eq_3, enmOf.eq_1, zip2Of.eq_1, zip2Of.eq_2, endC_nx, endC_rt, PySem.sizeLine, wipeE, keepO, eqv_ii, eqv_bb, eqv_ib, eqv_bi, eqv_ss, eqv_ll, eqv_tt, eqv_nn, eqvs_nn, eqvs_cc, eqvs_r, flat_int, flat_bl, flat_non, flat_str, flat_lst, flat_tup, flats_nil, flats_cons, flats_ints, D.plain.eq_1, D.plain.eq_2, D.plain.eq_3, D.plain.eq_4, D.plain.eq_5, D.plain.eq_6, D.scal.eq_1, D.scal.eq_2, D.scal.eq_3, D.scal.eq_4, D.scal.eq_5, D.isNon.eq_1, D.isNon.eq_2, isiop, isTy, tyOk, b2i]
theorem law3_run {k ca cs cc cm cr ct cd kf kc kr ks kl : Nat} (ht : tab k = some ⟨1, [], 14, B_law_2 ca cs cc cm cr ct cd⟩) (T : Tab3 tab ca cs cc cm cr ct cd kf kc kr ks kl) (n : Nat) (ns : List Int) : callN tab w (n+5) k [(.sh, .scr ns)] = .ok ([], .sh, .bl true) := by
  obtain ⟨E2, f2, _⟩ := forL_ind (b := forB (callN tab w (n+4)) w (.var 1) (lB3 ca cs cc cm cr ct cd)) (l := rangeI 0 8) (env := [some (.sh, .scr ns), none, none, none, none, none, none, none, none, none, none, none, none, none])
    (fun i e => ∃ y1 y2 y3 y4 y5 y6 y7 y8 y9 y10 y11 y12 : Sl1, (isIo y1 = false ∧ isIo y2 = false ∧ isIo y3 = false ∧ isIo y4 = false ∧ isIo y5 = false ∧ (y6 = none ∨ ∃ d, y6 = some (.sh, d)) ∧ isIo y7 = false ∧ isIo y8 = false ∧ isIo y9 = false ∧ isIo y10 = false ∧ isIo y11 = false ∧ isIo y12 = false) ∧ e = [some (.sh, .scr ns), y1, y2, y3, y4, y5, y6, y7, y8, y9, y10, y11, y12, none])
    ⟨none, none, none, none, none, none, none, none, none, none, none, none, ⟨rfl, rfl, rfl, rfl, rfl, .inl rfl, rfl, rfl, rfl, rfl, rfl, rfl⟩, rfl⟩ (fun i d e hd hI => by
      obtain ⟨x1, x2, x3, x4, x5, x6, x7, x8, x9, x10, x11, x12, ⟨h1, h2, h3, h4, h5, h6, h7, h8, h9, h10, h11, h12⟩, rfl⟩ := hI
      obtain ⟨q1, q2⟩ := rangeI_get hd
      have q3 : d = .int (i : Int) := by rw [q1, Int.zero_add]
      subst q3
      obtain ⟨y1, y2, y3, y4, y5, y6, y7, y8, y9, y10, y11, y12, hy, hr⟩ := ix_turn (w := w) T n ns i h1 h2 h3 h4 h5 h6 h7 h8 h9 h10 h11 h12
      exact ⟨_, hr, y1, y2, y3, y4, y5, y6, y7, y8, y9, y10, y11, y12, hy, rfl⟩)
  rw [callN_ev ht rfl rfl rfl]
  show bnd (execs _ _ (.cons (.forS (.var 1) (.rng1 (.cst (.int 8))) (lB3 ca cs cc cm cr ct cd)) (.cons (.ret (.cst (.bl true))) .nil)) [some (.sh, .scr ns), none, none, none, none, none, none, none, none, none, none, none, none, none]) endC = _
  rw [out_loop f2]
  simp [kTup_ap, kLst_ap, kRes_ap, kBin2_ap, kBin_ap, kBl_ap, kNb_ap, kNot_ap, kAnd2_ap, kAnd_ap, kOr2_ap, kOr_ap, kIfe2_ap, kIfe_ap, kCmp2_ap, kCmp_ap, kCall4_ap, kCall3_ap, kCall2_ap, kCall_ap, kBlt_ap, kIsi_ap, kSh_ap, kSub2_ap, kSub_ap, kSlc3_ap, kSlc2_ap, kSlc_ap, kCons_ap, kEvs_ap, kEvP_ap, kConsF_ap, kEvPar_ap, kConsA_ap, kEvA_ap, kConsS_ap, kIfs2_ap, kIfs_ap, kEl_ap, kL_ap, kVal_ap, kEn_ap, kEnm_ap, kZ2_ap, kZ_ap, kTr_ap, kT0_ap, kT1_ap, kT2_ap, kComp_ap, kColl_ap, kQ_ap, kB_ap, kFor2_ap, kFor_ap, kNx_ap, kAsg_ap, kAsgT_ap, kPar2_ap, kPar_ap, kStp_ap, kApp_ap, kRet_ap, kIfS_ap, kEx_ap, kEnd_ap, ev_var, getV_ok, fl_sh, fl_own, fl_io, ev_cst, ev_gfn, ev_tup, ev_lst, ev_bin, negV_int, ev_neg, ev_not, ev_and, ev_or, ev_ife, ev_cmp, ev_call, ev_blt, ev_isi, ev_sub, ev_slc, intO_int, evO_no, evO_yes, AR.evs_nil, AR.evs_cons, evP_nil, evP_cons, evPar_nil, evPar_cons, evA_nil, evA_c, aO_no, E.isRef.eq_1, E.isRef.eq_2, res_nil, res_v, refs_nil, refs_vv, outs_nil, nodup_nil, evIfs_nil, evIfs_cons, evCl_el, ev_comp, evCl_one, evI_val, rngV_int, evI_rng1, evI_enm, evI_zip2, isMut_eq, any_nil, any_cons, mutO.eq_1, mutO.eq_2, mutO.eq_3, setO_ok, setV_o, isIo_no, isIo_sh, isIo_own, frz_nil, frz_cons, frzO_own, frzO_sh, frzO_no, plainF_ap, evF_eq, pureF_no, pureF_yes, evT_eq, pureT_no, pureT_yes, ice_nil, ice_cons, iceO_some, iceO_none, new_sh, new_fr, appO_own, fre_sh, fre_fr, pk_sh, pk_fr, pk_bo, pk_bi, out_sh, out_fr, out_bo, subO_ok, sub_tup, sub_lst, sub_scr, AR.exec_asgv, exec_asgt, exec_par, exec_app, exec_aug, augV_int, augO_int, exec_ret, exec_ret0, exec_ife, exec_ex, exec_pass, AR.execs_nil, AR.execs_cons, thenS_nx, thenS_rt, AR.exec_for, exec_whl, bind_var, bind_tup, binds_nil, binds_cons, stp_nil, stp_cons, E.esc, E.escP, E.escR, E.pure, Es.esc, Es.escP, Es.pure, pureO, escO, It.esc, It.escP, It.pure, Cl.esc, Cl.pureC, binop.eq_1, binop.eq_2, binop.eq_3, binop.eq_4, binop.eq_5, binop.eq_6, binop.eq_7, binop.eq_8, binop.eq_9, binop.eq_10, cmpop.eq_1, cmpop.eq_2, cmpop.eq_3, cmpop.eq_4, cmpop.eq_5, cmpop.eq_6, cmpop.eq_7, cmpop.eq_8, cmpop.eq_9, cmpop.eq_10, cmpop.eq_11, cmpop.eq_12, cmpop.eq_13, D.truth.eq_1, D.truth.eq_2, D.truth.eq_3, D.truth.eq_4, D.truth.eq_5, D.truth.eq_6, slcop.eq_1, slcop.eq_2, bltop.eq_1, bltop.eq_2, bltop.eq_3, bltop.eq_4, bltop.eq_5, bltop.eq_6, bltop.eq_7, bltop.eq_9, bltop.eq_10, bltop.eq_11, bltop.eq_12, bltop.eq_13, bltop.eq_14, bltop.eq_15, bltop.eq_16, bltop.eq_17, bltop.eq_18, bltop.eq_19, bltop.eq_20, bltop.eq_21, bltop.eq_22, seq?.eq_1, seq?.eq_2, itemsOf.eq_1, itemsOf.eq_2, itemsOf.eq_3, enmOf.eq_1, zip2Of.eq_1, zip2Of.eq_2, endC_nx, endC_rt, PySem.sizeLine, wipeE, keepO, eqv_ii, eqv_bb, eqv_ib, eqv_bi, eqv_ss, eqv_ll, eqv_tt, eqv_nn, eqvs_nn, eqvs_cc, eqvs_r, flat_int, flat_bl, flat_non, flat_str, flat_lst, flat_tup, flats_nil, flats_cons, flats_ints, D.plain.eq_1, D.plain.eq_2, D.plain.eq_3, D.plain.eq_4, D.plain.eq_5, D.plain.eq_6, D.scal.eq_1, D.scal.eq_2, D.scal.eq_3, D.scal.eq_4, D.scal.eq_5, D.isNon.eq_1, D.isNon.eq_2, isiop, isTy, tyOk, b2i]
end LW

namespace LW
open AR PySem PySem.Spec PyProof.Rows L2
def topS (i : Nat) : Stmt := PySem.Challenge.pw_alertrules_k03_whole_order_of_rules.main.body.getD i (.Pass ⟨0, 0, 0, 0⟩)
/-- step -/
def d0 : Def1 := ⟨"step", topS 1, ["rule", "state", "sample"], ["rule", "state", "sample", "high", "rise", "low", "fall", "alert", "count"], [], ⟨3, [], 9, B_step⟩⟩
/-- rule_activity -/
def d1 : Def1 := ⟨"rule_activity", topS 2, ["rule", "signal"], ["rule", "signal", "result", "state", "sample"], [], ⟨2, [], 5, B_rule_activity 0⟩⟩
/-- combined -/
def d2 : Def1 := ⟨"combined", topS 3, ["mode", "values"], ["mode", "values"], [], ⟨2, [], 2, B_combined⟩⟩
/-- condition_flags -/
def d3 : Def1 := ⟨"condition_flags", topS 4, ["condition", "signal"], ["condition", "signal", "rows", "rule", "row", "index"], [], ⟨2, [], 6, B_condition_flags 2 1⟩⟩
/-- active -/
def d4 : Def1 := ⟨"active", topS 5, ["condition", "signal"], ["condition", "signal", "index", "value"], [], ⟨2, [], 4, B_active 3⟩⟩
/-- rule_covers -/
def d5 : Def1 := ⟨"rule_covers", topS 7, ["one", "other"], ["one", "other"], [], ⟨2, [], 2, B_rule_covers⟩⟩
/-- _law_cell -/
def d6 : Def1 := ⟨"_law_cell", topS 9, ["_law_script", "_law_index"], ["_law_script", "_law_index"], [], ⟨2, [], 2, B_law_cell⟩⟩
/-- _law_digits -/
def d7 : Def1 := ⟨"_law_digits", topS 10, ["_law_script", "_law_index", "_law_count", "_law_base"], ["_law_script", "_law_index", "_law_count", "_law_base", "_law_primes", "_law_cell_here", "_law_rest", "_law_digits_here", "_law_k", "_law_mixed"], [], ⟨4, [], 10, B_law_digits 6⟩⟩
/-- _law_same_bool -/
def d8 : Def1 := ⟨"_law_same_bool", topS 11, ["_law_result", "_law_expected"], ["_law_result", "_law_expected"], [], ⟨2, [], 2, B_law_same_bool⟩⟩
/-- _law_rule -/
def d9 : Def1 := ⟨"_law_rule", topS 12, ["_law_digits_here"], ["_law_digits_here", "_law_high", "_law_low"], [], ⟨1, [], 3, B_law_rule⟩⟩
/-- _law_signal -/
def d10 : Def1 := ⟨"_law_signal", topS 13, ["_law_digits_here", "_law_rules", "_law_size"], ["_law_digits_here", "_law_rules", "_law_size", "_law_levels", "_law_rule_here", "_law_level", "_law_signal_here", "_law_k", "_law_digit", "_law_repeated"], [], ⟨3, [], 10, B_law_signal⟩⟩
/-- _law_stronger -/
def d11 : Def1 := ⟨"_law_stronger", topS 14, ["_law_rule_here", "_law_digits_here"], ["_law_rule_here", "_law_digits_here", "_law_high", "_law_low"], [], ⟨2, [], 4, B_law_stronger⟩⟩
/-- law -/
def d12 : Def1 := ⟨"law", topS 15, ["_law_script"], ["_law_script", "_law_index", "_law_digits_here", "_law_rule_here", "_law_others", "_law_pairs", "_law_other", "_law_one", "_law_expected", "_law_k", "_law_signal_here", "_law_wide", "_law_extra", "_law_place"], [], ⟨1, [], 14, B_law_2 4 10 5 8 9 11 7⟩⟩
def TB : List Def1 := [d0, d1, d2, d3, d4, d5, d6, d7, d8, d9, d10, d11, d12]
theorem c0 : DefC (GT TB) d0 := ⟨by kernel_rfl, rfl, rfl, ⟨rfl, rfl, rfl, by decide +kernel, rfl, by decide +kernel, by decide +kernel⟩⟩
theorem g0 {K : PySem.W.Frag} {f : Addr} {fd : FuncData} (F : Fun K d0.x d0.x d0.st f fd) : Binds K fd d0.ps [] := F.binds fun _ _ _ _ _ _ us hl => match us, hl with | [_, _, _], _ => rfl
theorem c1 : DefC (GT TB) d1 := ⟨by kernel_rfl, rfl, rfl, ⟨rfl, rfl, rfl, by decide +kernel, rfl, by decide +kernel, by decide +kernel⟩⟩
theorem g1 {K : PySem.W.Frag} {f : Addr} {fd : FuncData} (F : Fun K d1.x d1.x d1.st f fd) : Binds K fd d1.ps [] := F.binds fun _ _ _ _ _ _ us hl => match us, hl with | [_, _], _ => rfl
theorem c2 : DefC (GT TB) d2 := ⟨by kernel_rfl, rfl, rfl, ⟨rfl, rfl, rfl, by decide +kernel, rfl, by decide +kernel, by decide +kernel⟩⟩
theorem g2 {K : PySem.W.Frag} {f : Addr} {fd : FuncData} (F : Fun K d2.x d2.x d2.st f fd) : Binds K fd d2.ps [] := F.binds fun _ _ _ _ _ _ us hl => match us, hl with | [_, _], _ => rfl
theorem c3 : DefC (GT TB) d3 := ⟨by kernel_rfl, rfl, rfl, ⟨rfl, rfl, rfl, by decide +kernel, rfl, by decide +kernel, by decide +kernel⟩⟩
theorem g3 {K : PySem.W.Frag} {f : Addr} {fd : FuncData} (F : Fun K d3.x d3.x d3.st f fd) : Binds K fd d3.ps [] := F.binds fun _ _ _ _ _ _ us hl => match us, hl with | [_, _], _ => rfl
theorem c4 : DefC (GT TB) d4 := ⟨by kernel_rfl, rfl, rfl, ⟨rfl, rfl, rfl, by decide +kernel, rfl, by decide +kernel, by decide +kernel⟩⟩
theorem g4 {K : PySem.W.Frag} {f : Addr} {fd : FuncData} (F : Fun K d4.x d4.x d4.st f fd) : Binds K fd d4.ps [] := F.binds fun _ _ _ _ _ _ us hl => match us, hl with | [_, _], _ => rfl
theorem c5 : DefC (GT TB) d5 := ⟨by kernel_rfl, rfl, rfl, ⟨rfl, rfl, rfl, by decide +kernel, rfl, by decide +kernel, by decide +kernel⟩⟩
theorem g5 {K : PySem.W.Frag} {f : Addr} {fd : FuncData} (F : Fun K d5.x d5.x d5.st f fd) : Binds K fd d5.ps [] := F.binds fun _ _ _ _ _ _ us hl => match us, hl with | [_, _], _ => rfl
theorem c6 : DefC (GT TB) d6 := ⟨by kernel_rfl, rfl, rfl, ⟨rfl, rfl, rfl, by decide +kernel, rfl, by decide +kernel, by decide +kernel⟩⟩
theorem g6 {K : PySem.W.Frag} {f : Addr} {fd : FuncData} (F : Fun K d6.x d6.x d6.st f fd) : Binds K fd d6.ps [] := F.binds fun _ _ _ _ _ _ us hl => match us, hl with | [_, _], _ => rfl
theorem c7 : DefC (GT TB) d7 := ⟨by kernel_rfl, rfl, rfl, ⟨rfl, rfl, rfl, by decide +kernel, rfl, by decide +kernel, by decide +kernel⟩⟩
theorem g7 {K : PySem.W.Frag} {f : Addr} {fd : FuncData} (F : Fun K d7.x d7.x d7.st f fd) : Binds K fd d7.ps [] := F.binds fun _ _ _ _ _ _ us hl => match us, hl with | [_, _, _, _], _ => rfl
theorem c8 : DefC (GT TB) d8 := ⟨by kernel_rfl, rfl, rfl, ⟨rfl, rfl, rfl, by decide +kernel, rfl, by decide +kernel, by decide +kernel⟩⟩
theorem g8 {K : PySem.W.Frag} {f : Addr} {fd : FuncData} (F : Fun K d8.x d8.x d8.st f fd) : Binds K fd d8.ps [] := F.binds fun _ _ _ _ _ _ us hl => match us, hl with | [_, _], _ => rfl
theorem c9 : DefC (GT TB) d9 := ⟨by kernel_rfl, rfl, rfl, ⟨rfl, rfl, rfl, by decide +kernel, rfl, by decide +kernel, by decide +kernel⟩⟩
theorem g9 {K : PySem.W.Frag} {f : Addr} {fd : FuncData} (F : Fun K d9.x d9.x d9.st f fd) : Binds K fd d9.ps [] := F.binds fun _ _ _ _ _ _ us hl => match us, hl with | [_], _ => rfl
theorem c10 : DefC (GT TB) d10 := ⟨by kernel_rfl, rfl, rfl, ⟨rfl, rfl, rfl, by decide +kernel, rfl, by decide +kernel, by decide +kernel⟩⟩
theorem g10 {K : PySem.W.Frag} {f : Addr} {fd : FuncData} (F : Fun K d10.x d10.x d10.st f fd) : Binds K fd d10.ps [] := F.binds fun _ _ _ _ _ _ us hl => match us, hl with | [_, _, _], _ => rfl
theorem c11 : DefC (GT TB) d11 := ⟨by kernel_rfl, rfl, rfl, ⟨rfl, rfl, rfl, by decide +kernel, rfl, by decide +kernel, by decide +kernel⟩⟩
theorem g11 {K : PySem.W.Frag} {f : Addr} {fd : FuncData} (F : Fun K d11.x d11.x d11.st f fd) : Binds K fd d11.ps [] := F.binds fun _ _ _ _ _ _ us hl => match us, hl with | [_, _], _ => rfl
theorem c12 : DefC (GT TB) d12 := ⟨by kernel_rfl, rfl, rfl, ⟨rfl, rfl, rfl, by decide +kernel, rfl, by decide +kernel, by decide +kernel⟩⟩
theorem g12 {K : PySem.W.Frag} {f : Addr} {fd : FuncData} (F : Fun K d12.x d12.x d12.st f fd) : Binds K fd d12.ps [] := F.binds fun _ _ _ _ _ _ us hl => match us, hl with | [_], _ => rfl
abbrev lawId : Nat := 12
abbrev TT : Nat → Option Fn := tabOf TB
end LW

namespace LW
open AR
theorem law (ns : List Int) (_ : ns.length ≤ 63) : ∃ fl, callN (tabOf TB) 1000 20 lawId [(.sh, .scr ns)] = .ok ([], fl, .bl true) :=
  ⟨.sh, law3_run (w := 1000) (k := 12) (ca := 4) (cs := 10) (cc := 5) (cm := 8) (cr := 9) (ct := 11) (cd := 7) (kf := 3) (kc := 2) (kr := 1) (ks := 0) (kl := 6) rfl ⟨rfl, rfl, rfl, rfl, rfl, rfl, rfl, rfl, rfl, rfl, rfl, rfl⟩ 15 ns⟩
end LW

namespace LW
open AR PySem PySem.Spec PyProof.Rows L2
theorem allC : AllC (GT TB) TB := ⟨c0, c1, c2, c3, c4, c5, c6, c7, c8, c9, c10, c11, c12, trivial⟩
section
variable {P : Program} {wd : World} {K : PySem.W.Frag} {mg : PySem.Str → Option Value} {h : Heap} {fa f0 f1 f2 f3 f4 f5 f6 f7 f8 f9 f10 f11 f12 : Addr}
theorem law_in (KX : K.In h) (G : h.Ns mainGlobals mg) (hfa : mg "law" = some (.ref fa)) (q0 : DefIn K d0 f0) (q1 : DefIn K d1 f1) (q2 : DefIn K d2 f2) (q3 : DefIn K d3 f3) (q4 : DefIn K d4 f4) (q5 : DefIn K d5 f5) (q6 : DefIn K d6 f6) (q7 : DefIn K d7 f7) (q8 : DefIn K d8 f8) (q9 : DefIn K d9 f9) (q10 : DefIn K d10 f10) (q11 : DefIn K d11 f11) (q12 : DefIn K d12 f12) (z0 : PySem.W.nsIn K mainGlobals "len" = some none) (z1 : PySem.W.nsIn K mainGlobals "max" = some none) (z2 : PySem.W.nsIn K mainGlobals "min" = some none) (z3 : PySem.W.nsIn K mainGlobals "all" = some none) (z4 : PySem.W.nsIn K mainGlobals "any" = some none) (z5 : PySem.W.nsIn K mainGlobals "list" = some none) (z6 : PySem.W.nsIn K mainGlobals "tuple" = some none) (z7 : PySem.W.nsIn K mainGlobals "sorted" = some none) (z8 : PySem.W.nsIn K mainGlobals "int" = some none) (z9 : PySem.W.nsIn K mainGlobals "bool" = some none) (z10 : PySem.W.nsIn K mainGlobals "str" = some none) (z11 : PySem.W.nsIn K mainGlobals "isinstance" = some none) (z12 : PySem.W.nsIn K mainGlobals "range" = some none) (z13 : PySem.W.nsIn K mainGlobals "enumerate" = some none) (z14 : PySem.W.nsIn K mainGlobals "zip" = some none) (z15 : PySem.W.nsIn K mainGlobals "set" = some none) : ∃ fd : FuncData, (∀ (s : Shared) (u : Value), BindsTo s fd ⟨[u], []⟩ [("_law_script", u)]) ∧ ∀ base : Heap, K.In base → base.Ns mainGlobals mg → FnOk P wd K mg base CX0 20 fa fd [("_law_script" : PySem.Str)] (spScr K) := by
  have e := hfa.symm.trans (PySem.W.mg_of KX G q12.at_)
  cases e
  have hi : AllIn K TB [f0, f1, f2, f3, f4, f5, f6, f7, f8, f9, f10, f11, fa] := ⟨q0, q1, q2, q3, q4, q5, q6, q7, q8, q9, q10, q11, q12, trivial⟩
  have hz : ∀ x ∈ bltNames, (GT TB).lookup x = none → PySem.W.nsIn K mainGlobals x = some none := fun x hx _ => by
    unfold bltNames at hx
    simp only [List.mem_cons, List.not_mem_nil, or_false] at hx
    rcases hx with rfl | rfl | rfl | rfl | rfl | rfl | rfl | rfl | rfl | rfl | rfl | rfl | rfl | rfl | rfl | rfl
    · exact z0
    · exact z1
    · exact z2
    · exact z3
    · exact z4
    · exact z5
    · exact z6
    · exact z7
    · exact z8
    · exact z9
    · exact z10
    · exact z11
    · exact z12
    · exact z13
    · exact z14
    · exact z15
  obtain ⟨fd, hF, F⟩ := law_mk (P := P) (wd := wd) (lawId := 12) (n := 20) (w := 1000) KX G hi allC hz (d := d12) rfl rfl hfa rfl law
  refine ⟨fd, fun s v => ?_, fun base h1 h2 => hF base h1 h2⟩
  obtain ⟨oc, od, kV, doc, pm, an, cdv, ct, osl, rfl, lk, hcd⟩ := F.ex
  exact .of_eq rfl
end
end LW
open PySem PySem.W PyProof.Rows
set_option maxHeartbeats 0 in
theorem PySem.Challenge.cw_alertrules_k03_whole_order_of_rules_holds : PySem.Challenge.rw_alertrules_k03_whole_order_of_rules.Holds := by
  w_on; o_law; k_head; (case hw => w_witness2)
  k_fill
  refine L2.walk_of (l := PySem.Challenge.rw_alertrules_k03_whole_order_of_rules) (n := 63) (k := 20) (x := "_law_script") (CX := fun _ => L2.CX0) (sp := fun w => AR.spScr _) rfl (by decide) rfl ⟨rfl, by decide, by decide⟩ (fun w h Y => PySem.W.kIn_of Y) ?F (fun _ _ a ns hl hO hS => ⟨a, ns, rfl, hO, hS, hl, fun _ => rfl⟩) (fun _ _ _ _ _ h => h)
  case F =>
    intro w mg fa h KX G hmg
    refine' LW.law_in KX G hmg (AR.def_in ?a0 ?l0 ?c0 ?k0 LW.g0) (AR.def_in ?a1 ?l1 ?c1 ?k1 LW.g1) (AR.def_in ?a2 ?l2 ?c2 ?k2 LW.g2) (AR.def_in ?a3 ?l3 ?c3 ?k3 LW.g3) (AR.def_in ?a4 ?l4 ?c4 ?k4 LW.g4) (AR.def_in ?a5 ?l5 ?c5 ?k5 LW.g5) (AR.def_in ?a6 ?l6 ?c6 ?k6 LW.g6) (AR.def_in ?a7 ?l7 ?c7 ?k7 LW.g7) (AR.def_in ?a8 ?l8 ?c8 ?k8 LW.g8) (AR.def_in ?a9 ?l9 ?c9 ?k9 LW.g9) (AR.def_in ?a10 ?l10 ?c10 ?k10 LW.g10) (AR.def_in ?a11 ?l11 ?c11 ?k11 LW.g11) (AR.def_in ?a12 ?l12 ?c12 ?k12 LW.g12) ?z0 ?z1 ?z2 ?z3 ?z4 ?z5 ?z6 ?z7 ?z8 ?z9 ?z10 ?z11 ?z12 ?z13 ?z14 ?z15
    (case a0 => k_is); (case l0 => k_is); (case c0 => k_is); (case k0 => k_is)
    (case a1 => k_is); (case l1 => k_is); (case c1 => k_is); (case k1 => k_is)
    (case a2 => k_is); (case l2 => k_is); (case c2 => k_is); (case k2 => k_is)
    (case a3 => k_is); (case l3 => k_is); (case c3 => k_is); (case k3 => k_is)
    (case a4 => k_is); (case l4 => k_is); (case c4 => k_is); (case k4 => k_is)
    (case a5 => k_is); (case l5 => k_is); (case c5 => k_is); (case k5 => k_is)
    (case a6 => k_is); (case l6 => k_is); (case c6 => k_is); (case k6 => k_is)
    (case a7 => k_is); (case l7 => k_is); (case c7 => k_is); (case k7 => k_is)
    (case a8 => k_is); (case l8 => k_is); (case c8 => k_is); (case k8 => k_is)
    (case a9 => k_is); (case l9 => k_is); (case c9 => k_is); (case k9 => k_is)
    (case a10 => k_is); (case l10 => k_is); (case c10 => k_is); (case k10 => k_is)
    (case a11 => k_is); (case l11 => k_is); (case c11 => k_is); (case k11 => k_is)
    (case a12 => k_is); (case l12 => k_is); (case c12 => k_is); (case k12 => k_is)
    (case z0 => k_is); (case z1 => k_is); (case z2 => k_is); (case z3 => k_is); (case z4 => k_is); (case z5 => k_is); (case z6 => k_is); (case z7 => k_is); (case z8 => k_is); (case z9 => k_is); (case z10 => k_is); (case z11 => k_is); (case z12 => k_is); (case z13 => k_is); (case z14 => k_is); (case z15 => k_is)
